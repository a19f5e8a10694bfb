/- Chapter 15, decompiled: what a valid design does, by the program. Own work. -/
import Derived.Test.YtoljdokffnjapaaGreatP3
import Derived.Test.YtoljdokffnjapaaGreatP2
set_option linter.all false
namespace Go.E
open Go.Proofs
set_option maxRecDepth 100000
set_option maxHeartbeats 4000000
theorem yV (bs : List Nat) (H : Heap) (nodes : List Node) (x : Node) (vals : List Int) (b : Nat) (hB : H[b]? = some (.cells opsAll)) (hal : x.args.length ≤ 1000000) (h0 : 0 ≤ x.op) (h1 : x.op ≠ 1) (hargs : ∀ n ∈ x.args, 0 ≤ n ∧ n < nodes.length ∧ n < vals.length) (hok : OkArgs x.op.toNat x.width x.value (valsOf vals x.args) (widthsOf nodes x.args)) : callw X bs 234 [.ptr b 0, .list (nodes.map encNode), encNode x, .list (vals.map (.int .i64))] H = some (.int .i64 (applyS x.op.toNat x.width x.value (valsOf vals x.args) (widthsOf nodes x.args)), H) := by
 refine yw2 (rs := [.tmp 8]) (N := 47) (fn := Tryz.f234) D8 N2 ?_
 have hB2 := iu hB
 have hrun := fun bs H => BQ bs H x.op.toNat x.op x.width x.value (x.args.map (.int .i64)) _ _ hok (by omega)
 have hk19 := hok.k19
 obtain ⟨k, hk⟩ : ∃ k : Nat, x.op = k := ⟨x.op.toNat, by omega⟩
 rw [hk, Int.toNat_natCast] at hrun hk19
 rw [hk, Int.toNat_natCast]
 have hat := yU k hk19
 have h95 : k * 5 + 5 ≤ 95 := by omega
 have hlen95 := lI
 have hloop := fun (bs : List Nat) (cx : HObj) (ρ : Env) => FW bs H cx nodes vals x.args hal hargs 0 ρ
 clear hargs hok hB
 repeat' first
  | (refine yw1 (id := 5) oz45 oz46 ?_)
  | (refine yw0 (id := 7) oz6 ?_)
  | (refine zs ?_; repeat' first | apply zs0 | apply zs2 | (intro hc; try have hq := dq hc)) | fail
 refine ab (af (c := loopAt Tryz.f234 0) rfl (hloop _ _ _ _ (by omega) ⟨[], [], rfl, rfl, rfl, yw3, yw3, yw3, yw3, yw3, yw3, yw3⟩)) ?_
 rintro ex ρ' H' ⟨rfl, rfl, h9, h10⟩ hf
 have f0 := hf 0 rfl
 have f6 := hf 6 rfl
 simp only [seval, push_cast] at f0 f6
 clear hloop
 repeat' first
  | (refine yw1 (id := 5) oz45 oz46 ?_)
  | (refine yw0 (id := 7) oz6 ?_)
  | (refine zs ?_; repeat' first | apply zs0 | apply zs2 | (intro hc; try have hq := dq hc)) | fail
theorem sU (nodes : List Node) (lv : List Int) (i : Nat) (x : Node) (h : nodes[i]? = some x) : valsL nodes lv (i + 1) = valsL nodes lv i ++ [valN nodes lv (valsL nodes lv i) x] := by simp only [valsL, h]
theorem FX (bs : List Nat) (H : Heap) (t : HObj) (leaves lv : List Int) (nodes : List Node) (hn : nodes.length ≤ 1000000) (hal : ∀ x ∈ nodes, x.args.length ≤ 1000000) (hg : GoodAll leaves nodes) (hl : LeafOk leaves lv) :
  ∀ i ρ H', i ≤ nodes.length → (∃ vs junk, vs = valsL nodes lv i ∧ H' = H ++ t :: .cells opsAll :: .tok vs.length :: junk ∧ ρ 0 = .list (nodes.map encNode) ∧ ρ 1 = .list (lv.map (.int .i64)) ∧ ρ 5 = .ptr (H.length + 1) 0 ∧
    ρ 6 = .tl (H.length + 2) (vs.map (.int .i64)) ∧ ρ 11 = .list (nodes.map encNode) ∧ ρ 12 = .int .i64 nodes.length ∧ ρ 13 = .int .i64 i) →
   Lp X ⟨38, bs⟩ (loopAt Tryz.f186 0) ρ H' fun ex ρ' H' => ∃ vs junk, vs = valsL nodes lv nodes.length ∧ H' = H ++ t :: .cells opsAll :: .tok vs.length :: junk ∧ ex = .exit 0 ∧ ρ' 6 = .tl (H.length + 2) (vs.map (.int .i64)) := by
 refine dH ?_ ?_
 ·rintro i ρ H' hi ⟨vs, junk, hvs, rfl, h0, h1, h5, h6, h11, h12, h13⟩
  have hget : nodes[i]? = some nodes[i] := by simp [hi]
  have hal' := hal nodes[i] (List.getElem_mem hi)
  have g := hg i nodes[i] hget
  have hok := nR.okArgs hg hl (nR hg hl i (by omega)) hget
  have hsv := sU nodes lv i nodes[i] hget
  generalize nodes[i] = x at hget hal' g hok hsv
  have hlen : vs.length = i := by rw [hvs]; exact gE nodes lv i
  have hroom := oG vs.length (by omega)
  have hw := add1 i nodes.length hi hn
  rw [← hvs] at hsv hok
  have hlr : lv.length = leaves.length := hl.1
  clear hg hl hal
  by_cases h1' : x.op = 1
  ·have d : decide (x.op = 1) = true := decide_eq_true h1'
   have hva := g.val
   rw [h1'] at hva
   obtain ⟨a, b, c⟩ := oM hva
   obtain ⟨m, hm⟩ : ∃ m : Nat, x.value = m := ⟨x.value.toNat, by omega⟩
   have hlt : m < lv.length := by omega
   have hget2 : lv[m]? = some lv[m] := by simp [hlt]
   have hv : valN nodes lv vs x = lv[m] := by unfold valN; rw [if_pos h1', hm, Int.toNat_natCast]; exact fF hget2
   rw [hv] at hsv
   generalize lv[m] = z at hget2 hsv hv
   replace hvs : Kp (vs = valsL nodes lv i) := ⟨hvs⟩
   replace hsv : Kp (valsL nodes lv (i + 1) = vs ++ [z]) := ⟨hsv⟩
   replace hlen : Kp (vs.length = i) := ⟨hlen⟩
   clear hv hva a b c hlt h1' g hok hlr
   conv => arg 3; whnf
   all_goals try (refine zs ?_; repeat' first | apply zs0 | apply zs2 | (intro hc; try have hq := dq hc))
   exact ⟨vs ++ [z], _, hsv.out.symm, by simp only [List.length_append, List.length_singleton]; rfl, yw3, yw3, yw3, by simp [push_cast], yw3, yw3, yw3⟩
  ·have d : decide (x.op = 1) = false := decide_eq_false h1'
   have hv : valN nodes lv vs x = applyS x.op.toNat x.width x.value (valsOf vs x.args) (widthsOf nodes x.args) := by unfold valN; rw [if_neg h1']
   rw [hv] at hsv
   have hap := fun bs rest => yV bs (H ++ t :: .cells opsAll :: rest) nodes x vs (H.length + 1) (by simp) hal' g.op0 h1' (fun n hn => by have := g.args n hn; omega) hok
   simp only [encNode, encInts] at hap
   generalize applyS x.op.toNat x.width x.value (valsOf vs x.args) (widthsOf nodes x.args) = z at hsv hap
   replace hvs : Kp (vs = valsL nodes lv i) := ⟨hvs⟩
   replace hsv : Kp (valsL nodes lv (i + 1) = vs ++ [z]) := ⟨hsv⟩
   replace hlen : Kp (vs.length = i) := ⟨hlen⟩
   clear hv h1' g hok hlr
   conv => arg 3; whnf
   all_goals try (refine zs ?_; repeat' first | apply zs0 | apply zs2 | (intro hc; try have hq := dq hc))
   exact ⟨vs ++ [z], _, hsv.out.symm, by simp only [List.length_append, List.length_singleton]; rfl, yw3, yw3, yw3, by simp [push_cast], yw3, yw3, yw3⟩
 ·rintro ρ H' ⟨vs, junk, hvs, rfl, h0, h1, h5, h6, h11, h12, h13⟩
  replace hvs : Kp (vs = valsL nodes lv nodes.length) := ⟨hvs⟩
  clear hal hg hl
  conv => arg 3; whnf
  all_goals try (refine zs ?_; repeat' first | apply zs0 | apply zs2 | (intro hc; try have hq := dq hc))
  exact ⟨vs, junk, hvs.out, rfl, rfl, yw3⟩
theorem AL (bs : List Nat) (H : Heap) (leaves lv : List Int) (nodes : List Node) (hn : nodes.length ≤ 1000000) (hal : ∀ x ∈ nodes, x.args.length ≤ 1000000) (hg : GoodAll leaves nodes) (hl : LeafOk leaves lv) : callw X bs 186 [.list (nodes.map encNode), .list (lv.map (.int .i64))] H = some (.list ((valsL nodes lv nodes.length).map (.int .i64)), H) := by
 refine yw2 (rs := [.tmp 4]) (N := 38) (fn := Tryz.f186) Dy Ns ?_
 have hloop := fun (bs : List Nat) (t : HObj) (ρ : Env) => FX bs H t leaves lv nodes hn hal hg hl 0 ρ
 have hp := nt
 have hlen := lI
 have hc := rv
 clear hal hg hl
 all_goals try (refine zs ?_; repeat' first | apply zs0 | apply zs2 | (intro hc; try have hq := dq hc))
 refine ab (af (c := loopAt Tryz.f186 0) rfl (hloop _ _ _ _ (by omega) ⟨[], [], rfl, rfl, yw3, yw3, yw3, yw3, yw3, yw3, yw3⟩)) ?_
 rintro ex ρ' H' ⟨vs, junk, hvs, rfl, rfl, h6⟩ hf
 rw [← hvs]
 clear hloop hvs
 all_goals try (refine zs ?_; repeat' first | apply zs0 | apply zs2 | (intro hc; try have hq := dq hc))
end Go.E
namespace Go.E
open Go.Proofs
set_option maxRecDepth 100000
set_option maxHeartbeats 4000000
theorem sV {α : Type} (g : Nat → α → Int) : ∀ (l : List α) (i : Nat), (∀ j x, l[j]? = some x → g (i + j) x = 0) → eachP g i l = (0, 0)
 | [], _, _ => rfl
 | y :: r, i, h => by
  unfold eachP
  rw [if_neg (by simpa using h 0 y rfl)]
  exact sV g r (i + 1) (fun j x hx => by have := h (j + 1) x hx; rwa [show i + (j + 1) = i + 1 + j by omega] at this)
theorem BR {n w : Int} (h1 : 1 ≤ w) (h16 : w ≤ 16) (h : InW n w) : fitsG n w = true := by
 unfold fitsG
 rw [mn (by omega)]
 have h3 := jD (k := w.toNat) (by omega)
 have h4 := pow_pos' w.toNat
 rw [ba (by omega) (by omega)]
 obtain ⟨a, b⟩ := h
 rw [Bool.and_eq_true, Bool.and_eq_true, decide_eq_true_eq, decide_eq_true_eq, decide_eq_true_eq]
 omega
theorem xp (bs : List Nat) (H : Heap) (leaves : List Int) (nodes : List Node) (hl : leaves.length ≤ 1000000) (hn : nodes.length ≤ 1000000) (hal : ∀ x ∈ nodes, x.args.length ≤ 1000000) : callw X bs 183 [.list (leaves.map (.int .i64)), .list (nodes.map encNode)] H = some (.int .i64 (checkNodesS leaves nodes).2, H) := by
 refine yw2 (rs := [.tmp 4]) (N := 14) (fn := Tryz.f183) Dv Np ?_
 have t := fun bs H => pD bs H leaves nodes hl hn hal
 clear hal
 all_goals try (refine zs ?_; repeat' first | apply zs0 | apply zs2 | (intro hc; try have hq := dq hc))
theorem Hl (bs : List Nat) (H : Heap) (leaves : List Int) (i : Nat) (n w : Int) (a : Nat) (hi : leaves[i]? = some w) (hA : H[a]? = some (.cells [.list (leaves.map (.int .i64))])) : callw X bs 184 [.int .i64 i, .int .i64 n, .ptr a 0] H = some (.int .i64 (if fitsG n w = true then 0 else 2), H) := by
 refine yw2 (rs := [.tmp 5]) (N := 13) (fn := Tryz.f184) Dw Nq ?_
 all_goals try (refine zs ?_; repeat' first | apply zs0 | apply zs2 | (intro hc; try have hq := dq hc))
theorem xq (bs : List Nat) (H : Heap) (leaves lv : List Int) (nodes : List Node) (hll : leaves.length ≤ 1000000) (hn : nodes.length ≤ 1000000) (hal : ∀ x ∈ nodes, x.args.length ≤ 1000000) (hc : (checkNodesS leaves nodes).2 = 0) (hl : LeafOk leaves lv) : callw X bs 153 [.list (leaves.map (.int .i64)), .list (nodes.map encNode), .list (lv.map (.int .i64))] H = some (.tuple [.list ((valsL nodes lv nodes.length).map (.int .i64)), .int .i64 0], H) := by
 refine yw2 (rs := [.tmp 6, .tmp 7]) (N := 37) (fn := Tryz.f153) C8 M1 ?_
 have t1 := fun bs H => xp bs H leaves nodes hll hn hal
 rw [hc] at t1
 have hlen := hl.1
 have d : decide ((lv.length : Int) = (leaves.length : Int)) = true := decide_eq_true (by omega)
 have hw := AJ hc
 have t2 := fun (bs : List Nat) rest => ml bs (H ++ .cells [.list (leaves.map (.int .i64))] :: rest) 184 [.ptr H.length 0] (fun i n => if fitsG n (at0 leaves i) = true then 0 else 2) lv (by omega)
  (fun bs i x junk hx => by
   have hi : i < leaves.length := by rw [← hlen]; exact (List.getElem?_eq_some_iff.1 hx).1
   have hg : leaves[i]? = some leaves[i] := by simp [hi]
   have := Hl bs ((H ++ .cells [.list (leaves.map (.int .i64))] :: rest) ++ junk) leaves i x leaves[i] H.length hg (by simp)
   rw [fF hg]
   exact this)
 rw [sV _ lv 0 (fun j x hx => by
  have hi : j < leaves.length := by rw [← hlen]; exact (List.getElem?_eq_some_iff.1 hx).1
  have hg : leaves[j]? = some leaves[j] := by simp [hi]
  rw [Nat.zero_add, fF hg, if_pos]
  exact BR (hw j _ hg).1 (hw j _ hg).2 (hl.2 j _ _ hg hx))] at t2
 simp only [show encInt = V.int .i64 from rfl] at t2
 have t3 := fun bs H => AL bs H leaves lv nodes hn hal (sT hc) hl
 clear hal hl hw hc
 repeat' first
  | (refine yw1 (id := 1) [0, 1, 3, 4, 5, 6, 7, 2, 8, 9, 10, 11] [(4, 7)] ?_)
  | (refine zs ?_; repeat' first | apply zs0 | apply zs2 | (intro hc; try have hq := dq hc)) | fail
end Go.E
set_option linter.all false
namespace Go.E
open Go.Proofs Classical
set_option maxRecDepth 100000
set_option maxHeartbeats 400000
noncomputable section
def eQ (F : Nat) (cv0 : Desg) : Option (Int × Int) := (if cv0.name.size ≤ 1000000 then (if (isNameS cv0.name) = true then (if (decide ((cv0.inputs.length : Int) ≤ 12)) = true then some (0, 0) else some (0, 8)) else (if (decide ((cv0.inputs.length : Int) ≤ 12)) = true then some (0, 4) else some (0, 4))) else none)
theorem mo (bs : List Nat) (H : Heap) (F : Nat) (ca0 : Nat) (cv0 : Desg) (hca0 : H[ca0]? = some (.cells [.str cv0.name, .list (cv0.inputs.map encPort), .list (cv0.elements.map encElem), .list (cv0.nodes.map encNode), .list (cv0.rules.map encRul), .list (cv0.outs.map encOutp), .list (cv0.attrs.map encAttr)])) (R : Int × Int) (hR0 : eQ F cv0 = some R) : callw X bs 89 [.ptr ca0 0] H = some (.tuple [.int .i64 R.1, .int .i64 R.2], H) := by
 refine yw2 (rs := [.tmp 1, .tmp 2]) (N := 14) (fn := Tryz.f89) xk89 xf89 ?_
 have hca0_l := aa hca0
 have hca0_a := get_app' hca0
 have hR := Kp.mk hR0
 clear hR0
 rw [eQ] at hR
 obtain ⟨g1, hR⟩ := grdE hR
 have g1_k := fun bs H => kR bs H cv0.name g1
 rcases iteE hR with ⟨c2, hR⟩ | ⟨c2, hR⟩
 ·rcases iteE hR with ⟨c3, hR⟩ | ⟨c3, hR⟩
  ·obtain rfl := someE hR
   try refine zu ?_
   (refine yw1 (id := 1) oz47 oz21 ?_)
   exact zv
  ·obtain rfl := someE hR
   try refine zu ?_
   (refine yw1 (id := 1) oz47 oz21 ?_)
   exact zv
 ·rcases iteE hR with ⟨c4, hR⟩ | ⟨c4, hR⟩
  ·obtain rfl := someE hR
   try refine zu ?_
   (refine yw1 (id := 1) oz47 oz21 ?_)
   exact zv
  ·obtain rfl := someE hR
   try refine zu ?_
   (refine yw1 (id := 1) oz47 oz21 ?_)
   exact zv
def dQ (F : Nat) (n : Int) : Option (Bool) := some (decide ((1 : Int) ≤ n) && decide (n ≤ 16))
theorem ik (bs : List Nat) (H : Heap) (F : Nat) (n : Int) (R : Bool) (hR0 : dQ F n = some R) : callw X bs 95 [.int .i64 n] H = some (.bool R, H) := by
 refine yw2 (rs := [.tmp 2]) (N := 5) (fn := Tryz.f95) xk95 xf95 ?_
 have hR := Kp.mk hR0
 clear hR0
 rw [dQ] at hR
 obtain rfl := someE hR
 exact zv
def bB (F : Nat) (cv1 : List ByteArray) (cv3 : List ByteArray) (a0_ : Int) (p : Port) : Option (Int × (List ByteArray) × (List ByteArray)) := (if p.name.size ≤ 1000000 then (if p.name.size ≤ 1000000 then ((dQ F p.width).bind fun y5 => (if y5 = true then (if (decide (¬(nameErr cv1 p.name) = 0)) = true then some ((nameErr cv1 p.name), (addName p.name cv1), (addName p.name cv3)) else (if (decide (¬(nameErr cv3 p.name) = 0)) = true then some ((nameErr cv3 p.name), (addName p.name cv1), (addName p.name cv3)) else some (0, (addName p.name cv1), (addName p.name cv3)))) else (if (decide (¬(nameErr cv1 p.name) = 0)) = true then some ((nameErr cv1 p.name), (addName p.name cv1), (addName p.name cv3)) else (if (decide (¬(nameErr cv3 p.name) = 0)) = true then some ((nameErr cv3 p.name), (addName p.name cv1), (addName p.name cv3)) else some (2, (addName p.name cv1), (addName p.name cv3)))))) else none) else none)
theorem gN (bs : List Nat) (H : Heap) (F : Nat) (ca0 : Nat) (ca1 : Nat) (ca2 : Nat) (ca3 : Nat) (cv1 : List ByteArray) (cv3 : List ByteArray) (hca0 : H[ca0]? = some (.cells [.map ca1])) (hca1 : ca1 < H.length) (hca2 : H[ca2]? = some (.cells [.map ca3])) (hca3 : ca3 < H.length) (hn_ca0_ca1 : ca0 ≠ ca1) (hn_ca2_ca1 : ca2 ≠ ca1) (hn_ca0_ca3 : ca0 ≠ ca3) (hn_ca1_ca3 : ca1 ≠ ca3) (hn_ca2_ca3 : ca2 ≠ ca3) (a0_ : Int) (p : Port) (R : Int × (List ByteArray) × (List ByteArray)) (hR0 : bB F cv1 cv3 a0_ p = some R) : callw X bs 93 [.int .i64 a0_, (encPort p), .ptr ca0 0, .ptr ca2 0] ((H.set ca1 (.map (namesM cv1))).set ca3 (.map (namesM cv3))) = some (.int .i64 R.1, ((H.set ca1 (.map (namesM R.2.1))).set ca3 (.map (namesM R.2.2)))) := by
 refine yw2 (rs := [.tmp 6]) (N := 21) (fn := Tryz.f93) xk93 xf93 ?_
 simp only [List.length_set]
 have hca0_l := aa hca0
 have hca0_a := @lG H (h := hca0) (h1 := hn_ca0_ca1) (h2 := hn_ca0_ca3)
 have hca0_b := @iK H (h := hca0) (h1 := hn_ca0_ca1) (h2 := hn_ca0_ca3)
 have hca2_l := aa hca2
 have hca2_a := @lG H (h := hca2) (h1 := hn_ca2_ca1) (h2 := hn_ca2_ca3)
 have hca2_b := @iK H (h := hca2) (h1 := hn_ca2_ca1) (h2 := hn_ca2_ca3)
 have hca1_a := @qL H (h := hca1) (hn := hn_ca1_ca3)
 have hca1_b := @mh H (h := hca1) (hn := hn_ca1_ca3)
 have hca3_a := @qM H (m := ca1) (h := hca3)
 have hca3_b := @mi H (m := ca1) (h := hca3)
 have hca1_s := @qN H (h := hca1) (hn := hn_ca1_ca3)
 have hca1_t := @mj H (hn := hn_ca1_ca3)
 have hca3_s := @qO H (m := ca1) (h := hca3)
 have hR := Kp.mk hR0
 clear hR0
 rw [bB] at hR
 (try simp only [encInts, encPort])
 obtain ⟨g1, hR⟩ := grdE hR
 have k2_k := fun (bs : List Nat) (l : Heap) => by
  have h_ := bI bs (((H.set ca1 (.map (namesM cv1))).set ca3 (.map (namesM cv3))) ++ l) ca1 cv1 p.name g1 gt
  (try simp only [ax, am, aP, aK, aL, aA, List.set_cons_succ, List.set_cons_zero, List.set_set, ai, hca1_s, hca1_t, hca3_s] at h_)
  exact h_
 have k2_k0 := fun (bs : List Nat) => by
  have h_ := bI bs ((H.set ca1 (.map (namesM cv1))).set ca3 (.map (namesM cv3))) ca1 cv1 p.name g1 gt
  (try simp only [ax, am, aP, aK, aL, aA, List.set_cons_succ, List.set_cons_zero, List.set_set, ai, hca1_s, hca1_t, hca3_s] at h_)
  exact h_
 obtain ⟨g3, hR⟩ := grdE hR
 have k4_k := fun (bs : List Nat) (l : Heap) => by
  have h_ := bI bs (((H.set ca1 (.map (namesM (addName p.name cv1)))).set ca3 (.map (namesM cv3))) ++ l) ca3 cv3 p.name g3 gt
  (try simp only [ax, am, aP, aK, aL, aA, List.set_cons_succ, List.set_cons_zero, List.set_set, ai, hca1_s, hca1_t, hca3_s] at h_)
  exact h_
 have k4_k0 := fun (bs : List Nat) => by
  have h_ := bI bs ((H.set ca1 (.map (namesM (addName p.name cv1)))).set ca3 (.map (namesM cv3))) ca3 cv3 p.name g3 gt
  (try simp only [ax, am, aP, aK, aL, aA, List.set_cons_succ, List.set_cons_zero, List.set_set, ai, hca1_s, hca1_t, hca3_s] at h_)
  exact h_
 obtain ⟨y5, y5_e, hR⟩ := bindE hR
 have y5_k := fun bs H => ik bs H F p.width y5 y5_e
 rcases iteE hR with ⟨c6, hR⟩ | ⟨c6, hR⟩
 ·rcases iteE hR with ⟨c7, hR⟩ | ⟨c7, hR⟩
  ·have c7_p := of_decide_eq_true c7
   obtain rfl := someE hR
   try refine zu ?_
   (refine yw1 (id := 1) oz36 oz37 ?_)
   exact zv
  ·have c7_p := Decidable.not_not.1 (of_decide_eq_false c7)
   rcases iteE hR with ⟨c8, hR⟩ | ⟨c8, hR⟩
   ·have c8_p := of_decide_eq_true c8
    obtain rfl := someE hR
    try refine zu ?_
    (refine yw1 (id := 1) oz36 oz37 ?_)
    exact zv
   ·have c8_p := Decidable.not_not.1 (of_decide_eq_false c8)
    obtain rfl := someE hR
    try refine zu ?_
    (refine yw1 (id := 1) oz36 oz37 ?_)
    exact zv
 ·rcases iteE hR with ⟨c9, hR⟩ | ⟨c9, hR⟩
  ·have c9_p := of_decide_eq_true c9
   obtain rfl := someE hR
   try refine zu ?_
   (refine yw1 (id := 1) oz36 oz37 ?_)
   exact zv
  ·have c9_p := Decidable.not_not.1 (of_decide_eq_false c9)
   rcases iteE hR with ⟨c10, hR⟩ | ⟨c10, hR⟩
   ·have c10_p := of_decide_eq_true c10
    obtain rfl := someE hR
    try refine zu ?_
    (refine yw1 (id := 1) oz36 oz37 ?_)
    exact zv
   ·have c10_p := Decidable.not_not.1 (of_decide_eq_false c10)
    obtain rfl := someE hR
    try refine zu ?_
    (refine yw1 (id := 1) oz36 oz37 ?_)
    exact zv
def cT (F : Nat) (l : List Port) : Nat → (Nat × (List ByteArray) × (List ByteArray)) → Option (Oc (Nat × Int × (List ByteArray) × (List ByteArray)) ((List ByteArray) × (List ByteArray)))
 | 0, _ => none
 | k + 1, (s14, s15, s16) => (if (decide ((s14 : Int) < (l.length : Int))) = true then ((l[s14]?).bind fun x19 => ((bB F s15 s16 (s14 : Int) x19).bind fun y20 => (if (decide (¬y20.1 = 0)) = true then some (.a (s14, y20.1, y20.2.1, y20.2.2)) else (if inI ((s14 : Int) + 1) then cT F l k ((s14 + 1), y20.2.1, y20.2.2) else none)))) else some (.b (s15, s16)))
theorem qi (bs : List Nat) (H : Heap) (F : Nat) (ca0 : Nat) (ca1 : Nat) (ca2 : Nat) (ca3 : Nat) (cv1 : List ByteArray) (cv3 : List ByteArray) (hca0 : H[ca0]? = some (.cells [.map ca1])) (hca1 : ca1 < H.length) (hca2 : H[ca2]? = some (.cells [.map ca3])) (hca3 : ca3 < H.length) (hn_ca0_ca1 : ca0 ≠ ca1) (hn_ca2_ca1 : ca2 ≠ ca1) (hn_ca0_ca3 : ca0 ≠ ca3) (hn_ca1_ca3 : ca1 ≠ ca3) (hn_ca2_ca3 : ca2 ≠ ca3) (l : List Port) : ∀ k s r ρ H', (∃ J17, H' = ((H.set ca1 (.map (namesM s.2.1))).set ca3 (.map (namesM s.2.2))) ++ J17 ∧ ρ 1 = .func 93 [.ptr ca0 0, .ptr ca2 0] ∧ ρ 9 = .list (l.map encPort) ∧ ρ 10 = .int .i64 (l.length : Int) ∧ ρ 11 = .int .i64 (s.1 : Int)) → cT F l k s = some r → Lp X ⟨25, H.length :: bs⟩ (loopAt Tryz.f92 0) ρ H' ((fun r ex ρ H' => match r with | .a r => ∃ J17, H' = ((H.set ca1 (.map (namesM r.2.2.1))).set ca3 (.map (namesM r.2.2.2))) ++ J17 ∧ ex = .ret ∧ ρ 4 = .int .i64 (r.1 : Int) ∧ ρ 5 = .int .i64 r.2.1 | .b r => ∃ J17, H' = ((H.set ca1 (.map (namesM r.1))).set ca3 (.map (namesM r.2))) ++ J17 ∧ ex = .exit 0) r) := by
 refine ac (fun _ => rfl) ?_
 rintro k ⟨s14, s15, s16⟩ r ρ H' ⟨J17, hH, h1, h9, h10, h11⟩ hR
 simp only at hH h1 h9 h10 h11
 subst hH
 rw [cT] at hR
 have hca0_l := aa hca0
 have hca0_a := @lG H (h := hca0) (h1 := hn_ca0_ca1) (h2 := hn_ca0_ca3)
 have hca0_b := @iK H (h := hca0) (h1 := hn_ca0_ca1) (h2 := hn_ca0_ca3)
 have hca2_l := aa hca2
 have hca2_a := @lG H (h := hca2) (h1 := hn_ca2_ca1) (h2 := hn_ca2_ca3)
 have hca2_b := @iK H (h := hca2) (h1 := hn_ca2_ca1) (h2 := hn_ca2_ca3)
 have hca1_a := @qL H (h := hca1) (hn := hn_ca1_ca3)
 have hca1_b := @mh H (h := hca1) (hn := hn_ca1_ca3)
 have hca3_a := @qM H (m := ca1) (h := hca3)
 have hca3_b := @mi H (m := ca1) (h := hca3)
 have hca1_s := @qN H (h := hca1) (hn := hn_ca1_ca3)
 have hca1_t := @mj H (hn := hn_ca1_ca3)
 have hca3_s := @qO H (m := ca1) (h := hca3)
 conv => arg 3; whnf
 try refine zw ?_
 rcases iteE hR with ⟨c18, hR⟩ | ⟨c18, hR⟩
 ·obtain ⟨x19, x19_e, hR⟩ := bindE hR
  obtain ⟨y20, y20_e, hR⟩ := bindE hR
  have y20_k := fun (bs : List Nat) (l : Heap) => by
   have h_ := gN bs (((H.set ca1 (.map (namesM s15))).set ca3 (.map (namesM s16))) ++ l) F ca0 ca1 ca2 ca3 s15 s16 gt ln gt ln om om om om om (s14 : Int) x19 y20 y20_e
   (try simp only [ax, am, aP, aK, aL, aA, List.set_cons_succ, List.set_cons_zero, List.set_set, ai, hca1_s, hca1_t, hca3_s] at h_)
   exact h_
  (try simp only [encInts, encPort] at y20_k)
  have y20_k0 := fun (bs : List Nat) => by
   have h_ := gN bs ((H.set ca1 (.map (namesM s15))).set ca3 (.map (namesM s16))) F ca0 ca1 ca2 ca3 s15 s16 gt ln gt ln om om om om om (s14 : Int) x19 y20 y20_e
   (try simp only [ax, am, aP, aK, aL, aA, List.set_cons_succ, List.set_cons_zero, List.set_set, ai, hca1_s, hca1_t, hca3_s] at h_)
   exact h_
  (try simp only [encInts, encPort] at y20_k0)
  try refine zw ?_
  clear y20_k y20_k0
  rcases iteE hR with ⟨c21, hR⟩ | ⟨c21, hR⟩
  ·obtain rfl := someE hR
   refine zu ?_
   exact ⟨_, hq, rfl, sl, sl⟩
  ·obtain ⟨g22, hR⟩ := grdE hR
   have g22_w := ae g22
   refine zu ?_
   exact ⟨((s14 + 1), y20.2.1, y20.2.2), ⟨_, hq, sl, sl, sl, sl⟩, hR.out⟩
 ·obtain rfl := someE hR
  refine zu ?_
  exact ⟨_, hq, rfl⟩
def dW (F : Nat) (l : List Port) : List Port → Nat → ((List ByteArray) × (List ByteArray)) → Option (Oc (Nat × Int × (List ByteArray) × (List ByteArray)) ((List ByteArray) × (List ByteArray)))
 | [], s14, (s15, s16) => some (.b (s15, s16))
 | x_ :: r_, s14, (s15, s16) => ((bB F s15 s16 (s14 : Int) x_).bind fun y20 => (if (decide (¬y20.1 = 0)) = true then some (.a (s14, y20.1, y20.2.1, y20.2.2)) else dW F l r_ (s14 + 1) (y20.2.1, y20.2.2)))
theorem jR (F : Nat) (l : List Port) (hl_ : l.length ≤ 1000000) : ∀ r_ i_ k_ (o_ : (List ByteArray) × (List ByteArray)), l.drop i_ = r_ → r_.length < k_ → cT F l k_ (i_, o_.1, o_.2) = dW F l r_ i_ o_
 | _, _, 0, _, _, hk => absurd hk (Nat.not_lt_zero _)
 | [], i_, k_ + 1, ⟨s15, s16⟩, hd, _ => by rw [cT, dW]; simp only [aj hd, Bool.false_eq_true, if_false]
 | x_ :: r_, i_, k_ + 1, ⟨s15, s16⟩, hd, hk => by
  have ih := fun o_ => jR F l hl_ r_ (i_ + 1) k_ o_ (ah hd) (Nat.lt_of_succ_lt_succ hk)
  simp only [Prod.forall] at ih
  rw [cT, dW]; simp only [az hd, ap hd, if_pos (aC hd hl_), Option.bind_some, if_true, ih]
def gO (F : Nat) (cv1 : List ByteArray) (cv3 : List ByteArray) (l : List Port) : Option (Int × Int × (List ByteArray) × (List ByteArray)) := ((cT F l F (0, cv1, cv3)).bind fun o23 => match o23 with | .a o24 => some ((o24.1 : Int), o24.2.1, o24.2.2.1, o24.2.2.2) | .b o26 => some (0, 0, o26.1, o26.2))
theorem mZ (bs : List Nat) (H : Heap) (F : Nat) (ca0 : Nat) (ca1 : Nat) (ca2 : Nat) (ca3 : Nat) (cv1 : List ByteArray) (cv3 : List ByteArray) (hca0 : H[ca0]? = some (.cells [.map ca1])) (hca1 : ca1 < H.length) (hca2 : H[ca2]? = some (.cells [.map ca3])) (hca3 : ca3 < H.length) (hn_ca0_ca1 : ca0 ≠ ca1) (hn_ca2_ca1 : ca2 ≠ ca1) (hn_ca0_ca3 : ca0 ≠ ca3) (hn_ca1_ca3 : ca1 ≠ ca3) (hn_ca2_ca3 : ca2 ≠ ca3) (l : List Port) (R : Int × Int × (List ByteArray) × (List ByteArray)) (hR0 : gO F cv1 cv3 l = some R) : callw X bs 92 [.list (l.map encPort), .func 93 [.ptr ca0 0, .ptr ca2 0]] ((H.set ca1 (.map (namesM cv1))).set ca3 (.map (namesM cv3))) = some (.tuple [.int .i64 R.1, .int .i64 R.2.1], ((H.set ca1 (.map (namesM R.2.2.1))).set ca3 (.map (namesM R.2.2.2)))) := by
 refine yw2 (rs := [.tmp 4, .tmp 5]) (N := 25) (fn := Tryz.f92) xk92 xf92 ?_
 simp only [List.length_set]
 have hca0_l := aa hca0
 have hca0_a := @lG H (h := hca0) (h1 := hn_ca0_ca1) (h2 := hn_ca0_ca3)
 have hca0_b := @iK H (h := hca0) (h1 := hn_ca0_ca1) (h2 := hn_ca0_ca3)
 have hca2_l := aa hca2
 have hca2_a := @lG H (h := hca2) (h1 := hn_ca2_ca1) (h2 := hn_ca2_ca3)
 have hca2_b := @iK H (h := hca2) (h1 := hn_ca2_ca1) (h2 := hn_ca2_ca3)
 have hca1_a := @qL H (h := hca1) (hn := hn_ca1_ca3)
 have hca1_b := @mh H (h := hca1) (hn := hn_ca1_ca3)
 have hca3_a := @qM H (m := ca1) (h := hca3)
 have hca3_b := @mi H (m := ca1) (h := hca3)
 have hca1_s := @qN H (h := hca1) (hn := hn_ca1_ca3)
 have hca1_t := @mj H (hn := hn_ca1_ca3)
 have hca3_s := @qO H (m := ca1) (h := hca3)
 have hR := Kp.mk hR0
 clear hR0
 rw [gO] at hR
 obtain ⟨o23, o23_e, hR⟩ := bindE hR
 refine zu ?_
 refine ab (af (c := (loopAt Tryz.f92 0)) rfl (qi _ H F ca0 ca1 ca2 ca3 cv1 cv3 hca0 hca1 hca2 hca3 hn_ca0_ca1 hn_ca2_ca1 hn_ca0_ca3 hn_ca1_ca3 hn_ca2_ca3 l _ (0, cv1, cv3) o23 _ _ ⟨[], by simp, sl, sl, sl, sl⟩ o23_e)) ?_
 rcases o23 with o24 | o26
 ·rintro ex ρ' H' ⟨J25, rfl, rfl, q4_o24, q5_o24⟩ hf
  clear hf
  obtain rfl := someE hR
  exact zv
 ·rintro ex ρ' H' ⟨J27, rfl, rfl⟩ hf
  clear hf
  obtain rfl := someE hR
  exact zv
def eR (F : Nat) (cv0 : Desg) (cv2 : List ByteArray) (cv4 : List ByteArray) : Option (Int × Int × (List ByteArray) × (List ByteArray)) := ((gO F cv2 cv4 cv0.inputs).bind fun y1 => some (y1.1, y1.2.1, y1.2.2.1, y1.2.2.2))
theorem mq (bs : List Nat) (H : Heap) (F : Nat) (ca0 : Nat) (ca1 : Nat) (ca2 : Nat) (ca3 : Nat) (ca4 : Nat) (cv0 : Desg) (cv2 : List ByteArray) (cv4 : List ByteArray) (hca0 : H[ca0]? = some (.cells [.str cv0.name, .list (cv0.inputs.map encPort), .list (cv0.elements.map encElem), .list (cv0.nodes.map encNode), .list (cv0.rules.map encRul), .list (cv0.outs.map encOutp), .list (cv0.attrs.map encAttr)])) (hca1 : H[ca1]? = some (.cells [.map ca2])) (hca2 : ca2 < H.length) (hca3 : H[ca3]? = some (.cells [.map ca4])) (hca4 : ca4 < H.length) (hn_ca0_ca2 : ca0 ≠ ca2) (hn_ca1_ca2 : ca1 ≠ ca2) (hn_ca3_ca2 : ca3 ≠ ca2) (hn_ca0_ca4 : ca0 ≠ ca4) (hn_ca1_ca4 : ca1 ≠ ca4) (hn_ca2_ca4 : ca2 ≠ ca4) (hn_ca3_ca4 : ca3 ≠ ca4) (R : Int × Int × (List ByteArray) × (List ByteArray)) (hR0 : eR F cv0 cv2 cv4 = some R) : callw X bs 91 [.ptr ca0 0, .ptr ca1 0, .ptr ca3 0] ((H.set ca2 (.map (namesM cv2))).set ca4 (.map (namesM cv4))) = some (.tuple [.int .i64 R.1, .int .i64 R.2.1], ((H.set ca2 (.map (namesM R.2.2.1))).set ca4 (.map (namesM R.2.2.2)))) := by
 refine yw2 (rs := [.tmp 3, .tmp 4]) (N := 11) (fn := Tryz.f91) xk91 xf91 ?_
 simp only [List.length_set]
 have hca0_l := aa hca0
 have hca0_a := @lG H (h := hca0) (h1 := hn_ca0_ca2) (h2 := hn_ca0_ca4)
 have hca0_b := @iK H (h := hca0) (h1 := hn_ca0_ca2) (h2 := hn_ca0_ca4)
 have hca1_l := aa hca1
 have hca1_a := @lG H (h := hca1) (h1 := hn_ca1_ca2) (h2 := hn_ca1_ca4)
 have hca1_b := @iK H (h := hca1) (h1 := hn_ca1_ca2) (h2 := hn_ca1_ca4)
 have hca3_l := aa hca3
 have hca3_a := @lG H (h := hca3) (h1 := hn_ca3_ca2) (h2 := hn_ca3_ca4)
 have hca3_b := @iK H (h := hca3) (h1 := hn_ca3_ca2) (h2 := hn_ca3_ca4)
 have hca2_a := @qL H (h := hca2) (hn := hn_ca2_ca4)
 have hca2_b := @mh H (h := hca2) (hn := hn_ca2_ca4)
 have hca4_a := @qM H (m := ca2) (h := hca4)
 have hca4_b := @mi H (m := ca2) (h := hca4)
 have hca2_s := @qN H (h := hca2) (hn := hn_ca2_ca4)
 have hca2_t := @mj H (hn := hn_ca2_ca4)
 have hca4_s := @qO H (m := ca2) (h := hca4)
 have hR := Kp.mk hR0
 clear hR0
 rw [eR] at hR
 obtain ⟨y1, y1_e, hR⟩ := bindE hR
 have y1_k := fun (bs : List Nat) (l : Heap) => by
  have h_ := mZ bs (((H.set ca2 (.map (namesM cv2))).set ca4 (.map (namesM cv4))) ++ l) F ca1 ca2 ca3 ca4 cv2 cv4 gt ln gt ln om om om om om cv0.inputs y1 y1_e
  (try simp only [ax, am, aP, aK, aL, aA, List.set_cons_succ, List.set_cons_zero, List.set_set, ai, hca2_s, hca2_t, hca4_s] at h_)
  exact h_
 have y1_k0 := fun (bs : List Nat) => by
  have h_ := mZ bs ((H.set ca2 (.map (namesM cv2))).set ca4 (.map (namesM cv4))) F ca1 ca2 ca3 ca4 cv2 cv4 gt ln gt ln om om om om om cv0.inputs y1 y1_e
  (try simp only [ax, am, aP, aK, aL, aA, List.set_cons_succ, List.set_cons_zero, List.set_set, ai, hca2_s, hca2_t, hca4_s] at h_)
  exact h_
 obtain rfl := someE hR
 exact zv
def eS (F : Nat) (cv0 : Desg) : Option (Int × Int) := (if inI ((cv0.inputs.length : Int) + (cv0.elements.length : Int)) then (if (decide (((cv0.inputs.length : Int) + (cv0.elements.length : Int)) ≤ 40)) = true then some (0, 0) else some (0, 8)) else none)
theorem mr (bs : List Nat) (H : Heap) (F : Nat) (ca0 : Nat) (cv0 : Desg) (hca0 : H[ca0]? = some (.cells [.str cv0.name, .list (cv0.inputs.map encPort), .list (cv0.elements.map encElem), .list (cv0.nodes.map encNode), .list (cv0.rules.map encRul), .list (cv0.outs.map encOutp), .list (cv0.attrs.map encAttr)])) (R : Int × Int) (hR0 : eS F cv0 = some R) : callw X bs 96 [.ptr ca0 0] H = some (.tuple [.int .i64 R.1, .int .i64 R.2], H) := by
 refine yw2 (rs := [.tmp 1, .tmp 2]) (N := 12) (fn := Tryz.f96) xk96 xf96 ?_
 have hca0_l := aa hca0
 have hca0_a := get_app' hca0
 have hR := Kp.mk hR0
 clear hR0
 rw [eS] at hR
 obtain ⟨g1, hR⟩ := grdE hR
 have g1_w := ae g1
 rcases iteE hR with ⟨c2, hR⟩ | ⟨c2, hR⟩
 ·obtain rfl := someE hR
  exact zv
 ·obtain rfl := someE hR
  exact zv
def bC (F : Nat) (cv1 : List ByteArray) (a0_ : Int) (x : Elem) : Option (Int × (List ByteArray)) := (if x.name.size ≤ 1000000 then (if (decide ((0 : Int) ≤ x.kind) && decide (x.kind ≤ 1)) = true then ((dQ F x.width).bind fun y4 => (if y4 = true then (if (decide (¬(nameErr cv1 x.name) = 0)) = true then some ((nameErr cv1 x.name), (addName x.name cv1)) else (if (decide (0 ≤ x.width) && fitsN x.init x.width) = true then (if (decide ((0 : Int) ≤ x.clk) && decide (x.clk ≤ 3)) = true then some (0, (addName x.name cv1)) else some (2, (addName x.name cv1))) else some (2, (addName x.name cv1)))) else (if (decide (¬(nameErr cv1 x.name) = 0)) = true then some ((nameErr cv1 x.name), (addName x.name cv1)) else some (2, (addName x.name cv1))))) else ((dQ F x.width).bind fun y11 => (if y11 = true then (if (decide (¬(nameErr cv1 x.name) = 0)) = true then some ((nameErr cv1 x.name), (addName x.name cv1)) else some (15, (addName x.name cv1))) else (if (decide (¬(nameErr cv1 x.name) = 0)) = true then some ((nameErr cv1 x.name), (addName x.name cv1)) else some (15, (addName x.name cv1)))))) else none)
theorem gP (bs : List Nat) (H : Heap) (F : Nat) (ca0 : Nat) (ca1 : Nat) (cv1 : List ByteArray) (hca0 : H[ca0]? = some (.cells [.map ca1])) (hca1 : ca1 < H.length) (hn_ca0_ca1 : ca0 ≠ ca1) (a0_ : Int) (x : Elem) (R : Int × (List ByteArray)) (hR0 : bC F cv1 a0_ x = some R) : callw X bs 99 [.int .i64 a0_, (encElem x), .ptr ca0 0] (H.set ca1 (.map (namesM cv1))) = some (.int .i64 R.1, (H.set ca1 (.map (namesM R.2)))) := by
 refine yw2 (rs := [.tmp 5]) (N := 35) (fn := Tryz.f99) xk99 xf99 ?_
 simp only [List.length_set]
 have hca0_l := aa hca0
 have hca0_a := @eP H (h := hca0) (hn := hn_ca0_ca1)
 have hca0_b := @cC H (h := hca0) (hn := hn_ca0_ca1)
 have hca1_a := @fQ H (h := hca1)
 have hca1_b := @dU H (h := hca1)
 have hca1_s := @fJ H (h := hca1)
 have hR := Kp.mk hR0
 clear hR0
 rw [bC] at hR
 (try simp only [cellsElem, encElem, encInts])
 obtain ⟨g1, hR⟩ := grdE hR
 have k2_k := fun (bs : List Nat) (l : Heap) => by
  have h_ := bI bs ((H.set ca1 (.map (namesM cv1))) ++ l) ca1 cv1 x.name g1 gt
  (try simp only [ax, am, aP, aK, aL, aA, List.set_cons_succ, List.set_cons_zero, List.set_set, ai, hca1_s] at h_)
  exact h_
 have k2_k0 := fun (bs : List Nat) => by
  have h_ := bI bs (H.set ca1 (.map (namesM cv1))) ca1 cv1 x.name g1 gt
  (try simp only [ax, am, aP, aK, aL, aA, List.set_cons_succ, List.set_cons_zero, List.set_set, ai, hca1_s] at h_)
  exact h_
 rcases iteE hR with ⟨c3, hR⟩ | ⟨c3, hR⟩
 ·obtain ⟨c3_1, c3_2⟩ := dT c3
  obtain ⟨y4, y4_e, hR⟩ := bindE hR
  have y4_k := fun bs H => ik bs H F x.width y4 y4_e
  rcases iteE hR with ⟨c5, hR⟩ | ⟨c5, hR⟩
  ·rcases iteE hR with ⟨c6, hR⟩ | ⟨c6, hR⟩
   ·have c6_p := of_decide_eq_true c6
    obtain rfl := someE hR
    try refine zu ?_
    (refine yw1 (id := 1) oz24 oz25 ?_)
    exact zv
   ·have c6_p := Decidable.not_not.1 (of_decide_eq_false c6)
    have k7_k := fun bs H => tF bs H x.init x.width
    try refine zu ?_
    (refine yw1 (id := 1) oz24 oz25 ?_)
    try refine zw ?_
    clear k2_k k2_k0 y4_k k7_k
    rcases iteE hR with ⟨c8, hR⟩ | ⟨c8, hR⟩
    ·obtain ⟨c8_1, c8_2⟩ := dT c8
     rcases iteE hR with ⟨c9, hR⟩ | ⟨c9, hR⟩
     ·obtain ⟨c9_1, c9_2⟩ := dT c9
      obtain rfl := someE hR
      exact zv
     ·obtain rfl := someE hR
      exact zv
    ·obtain rfl := someE hR
     exact zv
  ·rcases iteE hR with ⟨c10, hR⟩ | ⟨c10, hR⟩
   ·have c10_p := of_decide_eq_true c10
    obtain rfl := someE hR
    try refine zu ?_
    (refine yw1 (id := 1) oz24 oz25 ?_)
    exact zv
   ·have c10_p := Decidable.not_not.1 (of_decide_eq_false c10)
    obtain rfl := someE hR
    try refine zu ?_
    (refine yw1 (id := 1) oz24 oz25 ?_)
    exact zv
 ·obtain ⟨y11, y11_e, hR⟩ := bindE hR
  have y11_k := fun bs H => ik bs H F x.width y11 y11_e
  rcases iteE hR with ⟨c12, hR⟩ | ⟨c12, hR⟩
  ·rcases iteE hR with ⟨c13, hR⟩ | ⟨c13, hR⟩
   ·have c13_p := of_decide_eq_true c13
    obtain rfl := someE hR
    try refine zu ?_
    (refine yw1 (id := 1) oz24 oz25 ?_)
    exact zv
   ·have c13_p := Decidable.not_not.1 (of_decide_eq_false c13)
    obtain rfl := someE hR
    try refine zu ?_
    (refine yw1 (id := 1) oz24 oz25 ?_)
    exact zv
  ·rcases iteE hR with ⟨c14, hR⟩ | ⟨c14, hR⟩
   ·have c14_p := of_decide_eq_true c14
    obtain rfl := someE hR
    try refine zu ?_
    (refine yw1 (id := 1) oz24 oz25 ?_)
    exact zv
   ·have c14_p := Decidable.not_not.1 (of_decide_eq_false c14)
    obtain rfl := someE hR
    try refine zu ?_
    (refine yw1 (id := 1) oz24 oz25 ?_)
    exact zv
def bJ (F : Nat) (l : List Elem) : Nat → (Nat × (List ByteArray)) → Option (Oc (Nat × Int × (List ByteArray)) ((List ByteArray)))
 | 0, _ => none
 | k + 1, (s7, s8) => (if (decide ((s7 : Int) < (l.length : Int))) = true then ((l[s7]?).bind fun x11 => ((bC F s8 (s7 : Int) x11).bind fun y12 => (if (decide (¬y12.1 = 0)) = true then some (.a (s7, y12.1, y12.2)) else (if inI ((s7 : Int) + 1) then bJ F l k ((s7 + 1), y12.2) else none)))) else some (.b s8))
theorem oN (bs : List Nat) (H : Heap) (F : Nat) (ca0 : Nat) (ca1 : Nat) (cv1 : List ByteArray) (hca0 : H[ca0]? = some (.cells [.map ca1])) (hca1 : ca1 < H.length) (hn_ca0_ca1 : ca0 ≠ ca1) (l : List Elem) : ∀ k s r ρ H', (∃ J9, H' = (H.set ca1 (.map (namesM s.2))) ++ J9 ∧ ρ 1 = .func 99 [.ptr ca0 0] ∧ ρ 9 = .list (l.map encElem) ∧ ρ 10 = .int .i64 (l.length : Int) ∧ ρ 11 = .int .i64 (s.1 : Int)) → bJ F l k s = some r → Lp X ⟨25, H.length :: bs⟩ (loopAt Tryz.f98 0) ρ H' ((fun r ex ρ H' => match r with | .a r => ∃ J9, H' = (H.set ca1 (.map (namesM r.2.2))) ++ J9 ∧ ex = .ret ∧ ρ 4 = .int .i64 (r.1 : Int) ∧ ρ 5 = .int .i64 r.2.1 | .b r => ∃ J9, H' = (H.set ca1 (.map (namesM r))) ++ J9 ∧ ex = .exit 0) r) := by
 refine ac (fun _ => rfl) ?_
 rintro k ⟨s7, s8⟩ r ρ H' ⟨J9, hH, h1, h9, h10, h11⟩ hR
 simp only at hH h1 h9 h10 h11
 subst hH
 rw [bJ] at hR
 have hca0_l := aa hca0
 have hca0_a := @eP H (h := hca0) (hn := hn_ca0_ca1)
 have hca0_b := @cC H (h := hca0) (hn := hn_ca0_ca1)
 have hca1_a := @fQ H (h := hca1)
 have hca1_b := @dU H (h := hca1)
 have hca1_s := @fJ H (h := hca1)
 conv => arg 3; whnf
 try refine zw ?_
 rcases iteE hR with ⟨c10, hR⟩ | ⟨c10, hR⟩
 ·obtain ⟨x11, x11_e, hR⟩ := bindE hR
  obtain ⟨y12, y12_e, hR⟩ := bindE hR
  have y12_k := fun (bs : List Nat) (l : Heap) => by
   have h_ := gP bs ((H.set ca1 (.map (namesM s8))) ++ l) F ca0 ca1 s8 gt ln om (s7 : Int) x11 y12 y12_e
   (try simp only [ax, am, aP, aK, aL, aA, List.set_cons_succ, List.set_cons_zero, List.set_set, ai, hca1_s] at h_)
   exact h_
  (try simp only [cellsElem, encElem, encInts] at y12_k)
  have y12_k0 := fun (bs : List Nat) => by
   have h_ := gP bs (H.set ca1 (.map (namesM s8))) F ca0 ca1 s8 gt ln om (s7 : Int) x11 y12 y12_e
   (try simp only [ax, am, aP, aK, aL, aA, List.set_cons_succ, List.set_cons_zero, List.set_set, ai, hca1_s] at h_)
   exact h_
  (try simp only [cellsElem, encElem, encInts] at y12_k0)
  try refine zw ?_
  clear y12_k y12_k0
  rcases iteE hR with ⟨c13, hR⟩ | ⟨c13, hR⟩
  ·obtain rfl := someE hR
   refine zu ?_
   exact ⟨_, hq, rfl, sl, sl⟩
  ·obtain ⟨g14, hR⟩ := grdE hR
   have g14_w := ae g14
   refine zu ?_
   exact ⟨((s7 + 1), y12.2), ⟨_, hq, sl, sl, sl, sl⟩, hR.out⟩
 ·obtain rfl := someE hR
  refine zu ?_
  exact ⟨_, hq, rfl⟩
def db (F : Nat) (l : List Elem) : List Elem → Nat → (List ByteArray) → Option (Oc (Nat × Int × (List ByteArray)) ((List ByteArray)))
 | [], s7, s8 => some (.b s8)
 | x_ :: r_, s7, s8 => ((bC F s8 (s7 : Int) x_).bind fun y12 => (if (decide (¬y12.1 = 0)) = true then some (.a (s7, y12.1, y12.2)) else db F l r_ (s7 + 1) y12.2))
theorem jf (F : Nat) (l : List Elem) (hl_ : l.length ≤ 1000000) : ∀ r_ i_ k_ (o_ : (List ByteArray)), l.drop i_ = r_ → r_.length < k_ → bJ F l k_ (i_, o_) = db F l r_ i_ o_
 | _, _, 0, _, _, hk => absurd hk (Nat.not_lt_zero _)
 | [], i_, k_ + 1, s8, hd, _ => by rw [bJ, db]; simp only [aj hd, Bool.false_eq_true, if_false]
 | x_ :: r_, i_, k_ + 1, s8, hd, hk => by
  have ih := fun o_ => jf F l hl_ r_ (i_ + 1) k_ o_ (ah hd) (Nat.lt_of_succ_lt_succ hk)
  rw [bJ, db]; simp only [az hd, ap hd, if_pos (aC hd hl_), Option.bind_some, if_true, ih]
def fR (F : Nat) (cv1 : List ByteArray) (l : List Elem) : Option (Int × Int × (List ByteArray)) := ((bJ F l F (0, cv1)).bind fun o15 => match o15 with | .a o16 => some ((o16.1 : Int), o16.2.1, o16.2.2) | .b o18 => some (0, 0, o18))
theorem kU (bs : List Nat) (H : Heap) (F : Nat) (ca0 : Nat) (ca1 : Nat) (cv1 : List ByteArray) (hca0 : H[ca0]? = some (.cells [.map ca1])) (hca1 : ca1 < H.length) (hn_ca0_ca1 : ca0 ≠ ca1) (l : List Elem) (R : Int × Int × (List ByteArray)) (hR0 : fR F cv1 l = some R) : callw X bs 98 [.list (l.map encElem), .func 99 [.ptr ca0 0]] (H.set ca1 (.map (namesM cv1))) = some (.tuple [.int .i64 R.1, .int .i64 R.2.1], (H.set ca1 (.map (namesM R.2.2)))) := by
 refine yw2 (rs := [.tmp 4, .tmp 5]) (N := 25) (fn := Tryz.f98) xk98 xf98 ?_
 simp only [List.length_set]
 have hca0_l := aa hca0
 have hca0_a := @eP H (h := hca0) (hn := hn_ca0_ca1)
 have hca0_b := @cC H (h := hca0) (hn := hn_ca0_ca1)
 have hca1_a := @fQ H (h := hca1)
 have hca1_b := @dU H (h := hca1)
 have hca1_s := @fJ H (h := hca1)
 have hR := Kp.mk hR0
 clear hR0
 rw [fR] at hR
 obtain ⟨o15, o15_e, hR⟩ := bindE hR
 refine zu ?_
 refine ab (af (c := (loopAt Tryz.f98 0)) rfl (oN _ H F ca0 ca1 cv1 hca0 hca1 hn_ca0_ca1 l _ (0, cv1) o15 _ _ ⟨[], by simp, sl, sl, sl, sl⟩ o15_e)) ?_
 rcases o15 with o16 | o18
 ·rintro ex ρ' H' ⟨J17, rfl, rfl, q4_o16, q5_o16⟩ hf
  clear hf
  obtain rfl := someE hR
  exact zv
 ·rintro ex ρ' H' ⟨J19, rfl, rfl⟩ hf
  clear hf
  obtain rfl := someE hR
  exact zv
def eT (F : Nat) (cv0 : Desg) (cv2 : List ByteArray) : Option (Int × Int × (List ByteArray)) := ((fR F cv2 cv0.elements).bind fun y1 => some (y1.1, y1.2.1, y1.2.2))
theorem mt (bs : List Nat) (H : Heap) (F : Nat) (ca0 : Nat) (ca1 : Nat) (ca2 : Nat) (cv0 : Desg) (cv2 : List ByteArray) (hca0 : H[ca0]? = some (.cells [.str cv0.name, .list (cv0.inputs.map encPort), .list (cv0.elements.map encElem), .list (cv0.nodes.map encNode), .list (cv0.rules.map encRul), .list (cv0.outs.map encOutp), .list (cv0.attrs.map encAttr)])) (hca1 : H[ca1]? = some (.cells [.map ca2])) (hca2 : ca2 < H.length) (hn_ca0_ca2 : ca0 ≠ ca2) (hn_ca1_ca2 : ca1 ≠ ca2) (R : Int × Int × (List ByteArray)) (hR0 : eT F cv0 cv2 = some R) : callw X bs 97 [.ptr ca0 0, .ptr ca1 0] (H.set ca2 (.map (namesM cv2))) = some (.tuple [.int .i64 R.1, .int .i64 R.2.1], (H.set ca2 (.map (namesM R.2.2)))) := by
 refine yw2 (rs := [.tmp 2, .tmp 3]) (N := 10) (fn := Tryz.f97) xk97 xf97 ?_
 simp only [List.length_set]
 have hca0_l := aa hca0
 have hca0_a := @eP H (h := hca0) (hn := hn_ca0_ca2)
 have hca0_b := @cC H (h := hca0) (hn := hn_ca0_ca2)
 have hca1_l := aa hca1
 have hca1_a := @eP H (h := hca1) (hn := hn_ca1_ca2)
 have hca1_b := @cC H (h := hca1) (hn := hn_ca1_ca2)
 have hca2_a := @fQ H (h := hca2)
 have hca2_b := @dU H (h := hca2)
 have hca2_s := @fJ H (h := hca2)
 have hR := Kp.mk hR0
 clear hR0
 rw [eT] at hR
 obtain ⟨y1, y1_e, hR⟩ := bindE hR
 have y1_k := fun (bs : List Nat) (l : Heap) => by
  have h_ := kU bs ((H.set ca2 (.map (namesM cv2))) ++ l) F ca1 ca2 cv2 gt ln om cv0.elements y1 y1_e
  (try simp only [ax, am, aP, aK, aL, aA, List.set_cons_succ, List.set_cons_zero, List.set_set, ai, hca2_s] at h_)
  exact h_
 have y1_k0 := fun (bs : List Nat) => by
  have h_ := kU bs (H.set ca2 (.map (namesM cv2))) F ca1 ca2 cv2 gt ln om cv0.elements y1 y1_e
  (try simp only [ax, am, aP, aK, aL, aA, List.set_cons_succ, List.set_cons_zero, List.set_set, ai, hca2_s] at h_)
  exact h_
 obtain rfl := someE hR
 exact zv
def bK (F : Nat) (d : Desg) : Nat → ((List Int) × Nat) → Option ((List Int))
 | 0, _ => none
 | k + 1, (s8, s9) => (if (decide ((s9 : Int) < (d.inputs.length : Int))) = true then ((d.inputs[s9]?).bind fun x12 => (if (s8.length + 1) ≤ 1000000 then (if inI ((s9 : Int) + 1) then bK F d k ((s8 ++ [x12.width]), (s9 + 1)) else none) else none)) else some s8)
theorem oO (bs : List Nat) (H : Heap) (F : Nat) (d : Desg) : ∀ k s r ρ H', (∃ J10, H' = H ++ .cells [.str d.name, .list (d.inputs.map encPort), .list (d.elements.map encElem), .list (d.nodes.map encNode), .list (d.rules.map encRul), .list (d.outs.map encOutp), .list (d.attrs.map encAttr)] :: .tok 0 :: .tok s.1.length :: J10 ∧ ρ 1 = .ptr H.length 0 ∧ ρ 3 = .tl (H.length + 2) (s.1.map (V.int .i64)) ∧ ρ 9 = .list (d.inputs.map encPort) ∧ ρ 10 = .int .i64 (d.inputs.length : Int) ∧ ρ 11 = .int .i64 (s.2 : Int)) → bK F d k s = some r → Lp X ⟨35, H.length :: bs⟩ (loopAt Tryz.f104 0) ρ H' ((fun r ex ρ H' => ∃ J10, H' = H ++ .cells [.str d.name, .list (d.inputs.map encPort), .list (d.elements.map encElem), .list (d.nodes.map encNode), .list (d.rules.map encRul), .list (d.outs.map encOutp), .list (d.attrs.map encAttr)] :: .tok 0 :: .tok r.length :: J10 ∧ ex = .exit 0 ∧ ρ 3 = .tl (H.length + 2) (r.map (V.int .i64))) r) := by
 refine ac (fun _ => rfl) ?_
 rintro k ⟨s8, s9⟩ r ρ H' ⟨J10, hH, h1, h3, h9, h10, h11⟩ hR
 simp only at hH h1 h3 h9 h10 h11
 subst hH
 rw [bK] at hR
 conv => arg 3; whnf
 try refine zw ?_
 rcases iteE hR with ⟨c11, hR⟩ | ⟨c11, hR⟩
 ·obtain ⟨x12, x12_e, hR⟩ := bindE hR
  obtain ⟨g13, hR⟩ := grdE hR
  have g13_r := iq (n := (s8.length + 1)) (k := 8) g13 (by omega)
  obtain ⟨g14, hR⟩ := grdE hR
  have g14_w := ae g14
  refine zu ?_
  exact ⟨((s8 ++ [x12.width]), (s9 + 1)), ⟨_, hq, sl, sl, sl, sl, sl⟩, hR.out⟩
 ·obtain rfl := someE hR
  refine zu ?_
  exact ⟨_, hq, rfl, sl⟩
def bV (F : Nat) (d : Desg) : List Port → Nat → (List Int) → Option ((List Int))
 | [], s9, s8 => some s8
 | x_ :: r_, s9, s8 => (if (s8.length + 1) ≤ 1000000 then bV F d r_ (s9 + 1) (s8 ++ [x_.width]) else none)
theorem jg (F : Nat) (d : Desg) (hl_ : d.inputs.length ≤ 1000000) : ∀ r_ i_ k_ (o_ : (List Int)), d.inputs.drop i_ = r_ → r_.length < k_ → bK F d k_ (o_, i_) = bV F d r_ i_ o_
 | _, _, 0, _, _, hk => absurd hk (Nat.not_lt_zero _)
 | [], i_, k_ + 1, s8, hd, _ => by rw [bK, bV]; simp only [aj hd, Bool.false_eq_true, if_false]
 | x_ :: r_, i_, k_ + 1, s8, hd, hk => by
  have ih := fun o_ => jg F d hl_ r_ (i_ + 1) k_ o_ (ah hd) (Nat.lt_of_succ_lt_succ hk)
  rw [bK, bV]; simp only [az hd, ap hd, if_pos (aC hd hl_), Option.bind_some, if_true, ih]
def bL (F : Nat) (d : Desg) : Nat → ((List Int) × Nat) → Option ((List Int))
 | 0, _ => none
 | k + 1, (s26, s27) => (if (decide ((s27 : Int) < (d.elements.length : Int))) = true then ((d.elements[s27]?).bind fun x31 => (if (s26.length + 1) ≤ 1000000 then (if inI ((s27 : Int) + 1) then bL F d k ((s26 ++ [x31.width]), (s27 + 1)) else none) else none)) else some s26)
theorem oP (bs : List Nat) (H : Heap) (F : Nat) (d : Desg) (a28 : HObj) : ∀ k s r ρ H', (∃ J29, H' = H ++ a28 :: .tok 0 :: .tok s.1.length :: J29 ∧ ρ 3 = .tl (H.length + 2) (s.1.map (V.int .i64)) ∧ ρ 22 = .list (d.elements.map encElem) ∧ ρ 23 = .int .i64 (d.elements.length : Int) ∧ ρ 24 = .int .i64 (s.2 : Int)) → bL F d k s = some r → Lp X ⟨35, H.length :: bs⟩ (loopAt Tryz.f104 1) ρ H' ((fun r ex ρ H' => ∃ J29, H' = H ++ a28 :: .tok 0 :: .tok r.length :: J29 ∧ ex = .exit 2 ∧ ρ 3 = .tl (H.length + 2) (r.map (V.int .i64))) r) := by
 refine ac (fun _ => rfl) ?_
 rintro k ⟨s26, s27⟩ r ρ H' ⟨J29, hH, h3, h22, h23, h24⟩ hR
 simp only at hH h3 h22 h23 h24
 subst hH
 rw [bL] at hR
 conv => arg 3; whnf
 try refine zw ?_
 rcases iteE hR with ⟨c30, hR⟩ | ⟨c30, hR⟩
 ·obtain ⟨x31, x31_e, hR⟩ := bindE hR
  obtain ⟨g32, hR⟩ := grdE hR
  have g32_r := iq (n := (s26.length + 1)) (k := 8) g32 (by omega)
  obtain ⟨g33, hR⟩ := grdE hR
  have g33_w := ae g33
  refine zu ?_
  exact ⟨((s26 ++ [x31.width]), (s27 + 1)), ⟨_, hq, sl, sl, sl, sl⟩, hR.out⟩
 ·obtain rfl := someE hR
  refine zu ?_
  exact ⟨_, hq, rfl, sl⟩
def bW (F : Nat) (d : Desg) : List Elem → Nat → (List Int) → Option ((List Int))
 | [], s27, s26 => some s26
 | x_ :: r_, s27, s26 => (if (s26.length + 1) ≤ 1000000 then bW F d r_ (s27 + 1) (s26 ++ [x_.width]) else none)
theorem jh (F : Nat) (d : Desg) (hl_ : d.elements.length ≤ 1000000) : ∀ r_ i_ k_ (o_ : (List Int)), d.elements.drop i_ = r_ → r_.length < k_ → bL F d k_ (o_, i_) = bW F d r_ i_ o_
 | _, _, 0, _, _, hk => absurd hk (Nat.not_lt_zero _)
 | [], i_, k_ + 1, s26, hd, _ => by rw [bL, bW]; simp only [aj hd, Bool.false_eq_true, if_false]
 | x_ :: r_, i_, k_ + 1, s26, hd, hk => by
  have ih := fun o_ => jh F d hl_ r_ (i_ + 1) k_ o_ (ah hd) (Nat.lt_of_succ_lt_succ hk)
  rw [bL, bW]; simp only [az hd, ap hd, if_pos (aC hd hl_), Option.bind_some, if_true, ih]
def ff (F : Nat) (d : Desg) : Option ((List Int)) := ((bK F d F ([], 0)).bind fun o16 => ((bL F d F (o16, 0)).bind fun o35 => some o35))
theorem kV (bs : List Nat) (H : Heap) (F : Nat) (d : Desg) (R : (List Int)) (hR0 : ff F d = some R) : callw X bs 104 [(encDesg d)] H = some (.list (R.map (V.int .i64)), H) := by
 refine yw2 (rs := [.tmp 2]) (N := 35) (fn := Tryz.f104) CA Mu ?_
 have hR := Kp.mk hR0
 clear hR0
 rw [ff] at hR
 (try simp only [cellsDesg, encDesg, encInts])
 obtain ⟨o16, o16_e, hR⟩ := bindE hR
 refine zu ?_
 refine ab (af (c := (loopAt Tryz.f104 0)) rfl (oO _ H F d _ ([], 0) o16 _ _ ⟨_, hq, sl, sl, sl, sl, sl⟩ o16_e)) ?_
 rintro ex ρ' H' ⟨J17, rfl, rfl, q3_o16⟩ hf
 have q1_o16 : ρ' 1 = .ptr H.length 0 := (hf 1 rfl).trans (sl)
 clear hf
 obtain ⟨o35, o35_e, hR⟩ := bindE hR
 refine zu ?_
 refine ab (af (c := (loopAt Tryz.f104 1)) rfl (oP _ H F d _ _ (o16, 0) o35 _ _ ⟨_, hq, sl, sl, sl, sl⟩ o35_e)) ?_
 rintro ex ρ' H' ⟨J36, rfl, rfl, q3_o35⟩ hf
 clear hf
 obtain rfl := someE hR
 exact zv
def eU (F : Nat) (cv0 : Desg) : Option (Int × Int) := ((ff F cv0).bind fun y1 => (if y1.length ≤ 1000000 then (if cv0.nodes.length ≤ 1000000 then (if ∀ x ∈ cv0.nodes, x.args.length ≤ 1000000 then some ((checkNodesS y1 cv0.nodes).1, (checkNodesS y1 cv0.nodes).2) else none) else none) else none))
theorem mu (bs : List Nat) (H : Heap) (F : Nat) (ca0 : Nat) (cv0 : Desg) (hca0 : H[ca0]? = some (.cells [.str cv0.name, .list (cv0.inputs.map encPort), .list (cv0.elements.map encElem), .list (cv0.nodes.map encNode), .list (cv0.rules.map encRul), .list (cv0.outs.map encOutp), .list (cv0.attrs.map encAttr)])) (R : Int × Int) (hR0 : eU F cv0 = some R) : callw X bs 102 [.ptr ca0 0] H = some (.tuple [.int .i64 R.1, .int .i64 R.2], H) := by
 refine yw2 (rs := [.tmp 1, .tmp 2]) (N := 10) (fn := Tryz.f102) Cy Ms ?_
 have hca0_l := aa hca0
 have hca0_a := get_app' hca0
 have hR := Kp.mk hR0
 clear hR0
 rw [eU] at hR
 obtain ⟨y1, y1_e, hR⟩ := bindE hR
 have y1_k := fun bs H => kV bs H F cv0 y1 y1_e
 (try simp only [cellsDesg, encDesg, encInts] at y1_k)
 obtain ⟨g2, hR⟩ := grdE hR
 obtain ⟨g3, hR⟩ := grdE hR
 obtain ⟨g4, hR⟩ := grdE hR
 have k5_k := fun bs H => pD bs H y1 cv0.nodes g2 g3 g4
 obtain rfl := someE hR
 try refine zu ?_
 (refine yw1 (id := 1) [0, 2, 3, 1, 4, 5, 6, 7, 8] [(2, 3)] ?_)
 exact zv
def eV (F : Nat) (cv0 : Desg) : Option (Int × Int) := (if (decide ((cv0.rules.length : Int) ≤ 16)) = true then some (0, 0) else some (0, 8))
theorem mv (bs : List Nat) (H : Heap) (F : Nat) (ca0 : Nat) (cv0 : Desg) (hca0 : H[ca0]? = some (.cells [.str cv0.name, .list (cv0.inputs.map encPort), .list (cv0.elements.map encElem), .list (cv0.nodes.map encNode), .list (cv0.rules.map encRul), .list (cv0.outs.map encOutp), .list (cv0.attrs.map encAttr)])) (R : Int × Int) (hR0 : eV F cv0 = some R) : callw X bs 105 [.ptr ca0 0] H = some (.tuple [.int .i64 R.1, .int .i64 R.2], H) := by
 refine yw2 (rs := [.tmp 1, .tmp 2]) (N := 8) (fn := Tryz.f105) CB Mv ?_
 have hca0_l := aa hca0
 have hca0_a := get_app' hca0
 have hR := Kp.mk hR0
 clear hR0
 rw [eV] at hR
 rcases iteE hR with ⟨c1, hR⟩ | ⟨c1, hR⟩
 ·obtain rfl := someE hR
  exact zv
 ·obtain rfl := someE hR
  exact zv
def dD (F : Nat) (d : Desg) (n : Int) : Option (Bool) := (if inI ((d.nodes.length : Int) - 1) then some (decide ((0 : Int) ≤ n) && decide (n ≤ ((d.nodes.length : Int) - 1))) else none)
theorem gh (bs : List Nat) (H : Heap) (F : Nat) (d : Desg) (n : Int) (R : Bool) (hR0 : dD F d n = some R) : callw X bs 116 [(encDesg d), .int .i64 n] H = some (.bool R, H) := by
 refine yw2 (rs := [.tmp 4]) (N := 11) (fn := Tryz.f116) CN MG ?_
 have hR := Kp.mk hR0
 clear hR0
 rw [dD] at hR
 (try simp only [cellsDesg, encDesg, encInts])
 obtain ⟨g1, hR⟩ := grdE hR
 have g1_w := ae g1
 obtain rfl := someE hR
 exact zv
def aQ (F : Nat) (d : Desg) (n : Int) : Option (Bool) := ((dD F d n).bind fun y1 => (if y1 = true then ((idxI d.nodes n).bind fun x3 => some (decide (x3.width = 1))) else some false))
theorem eW (bs : List Nat) (H : Heap) (F : Nat) (d : Desg) (n : Int) (R : Bool) (hR0 : aQ F d n = some R) : callw X bs 80 [(encDesg d), .int .i64 n] H = some (.bool R, H) := by
 refine yw2 (rs := [.tmp 4]) (N := 17) (fn := Tryz.f80) xk80 xf80 ?_
 have hR := Kp.mk hR0
 clear hR0
 rw [aQ] at hR
 (try simp only [cellsDesg, encDesg, encInts])
 obtain ⟨y1, y1_e, hR⟩ := bindE hR
 have y1_k := fun bs H => gh bs H F d n y1 y1_e
 (try simp only [cellsDesg, encDesg, encInts] at y1_k)
 try refine zw ?_
 clear y1_k
 rcases iteE hR with ⟨c2, hR⟩ | ⟨c2, hR⟩
 ·obtain ⟨x3, x3_e, hR⟩ := bindE hR
  obtain ⟨x3_p, x3_e⟩ := idxE x3_e
  obtain rfl := someE hR
  exact zv
 ·obtain rfl := someE hR
  exact zv
def fl (F : Nat) (d : Desg) (w : Wri) : Option (Int) := (if inI ((d.elements.length : Int) - 1) then (if (decide ((0 : Int) ≤ w.element) && decide (w.element ≤ ((d.elements.length : Int) - 1))) = true then ((aQ F d w.cond).bind fun y3 => (if y3 = true then ((dD F d w.value).bind fun y5 => (if y5 = true then ((idxI d.nodes w.value).bind fun x7 => ((idxI d.elements w.element).bind fun x8 => (if (decide (x7.width = x8.width)) = true then some 0 else some 25))) else some 9)) else some 9)) else ((aQ F d w.cond).bind fun y10 => (if y10 = true then ((dD F d w.value).bind fun y12 => (if y12 = true then some 6 else some 6)) else some 6))) else none)
theorem pE (bs : List Nat) (H : Heap) (F : Nat) (d : Desg) (w : Wri) (R : Int) (hR0 : fl F d w = some R) : callw X bs 111 [(encDesg d), (encWri w)] H = some (.int .i64 R, H) := by
 refine yw2 (rs := [.tmp 4]) (N := 46) (fn := Tryz.f111) CH MB ?_
 have hR := Kp.mk hR0
 clear hR0
 rw [fl] at hR
 (try simp only [cellsDesg, cellsWri, encDesg, encInts, encWri])
 obtain ⟨g1, hR⟩ := grdE hR
 have g1_w := ae g1
 rcases iteE hR with ⟨c2, hR⟩ | ⟨c2, hR⟩
 ·obtain ⟨c2_1, c2_2⟩ := dT c2
  obtain ⟨y3, y3_e, hR⟩ := bindE hR
  have y3_k := fun bs H => eW bs H F d w.cond y3 y3_e
  (try simp only [cellsDesg, encDesg, encInts] at y3_k)
  try refine zu ?_
  (refine yw1 (id := 1) oz55 [(6, 9), (6, 10), (8, 9), (8, 10)] ?_)
  try refine zw ?_
  clear y3_k
  rcases iteE hR with ⟨c4, hR⟩ | ⟨c4, hR⟩
  ·obtain ⟨y5, y5_e, hR⟩ := bindE hR
   have y5_k := fun bs H => gh bs H F d w.value y5 y5_e
   (try simp only [cellsDesg, encDesg, encInts] at y5_k)
   rcases iteE hR with ⟨c6, hR⟩ | ⟨c6, hR⟩
   ·obtain ⟨x7, x7_e, hR⟩ := bindE hR
    obtain ⟨x7_p, x7_e⟩ := idxE x7_e
    obtain ⟨x8, x8_e, hR⟩ := bindE hR
    obtain ⟨x8_p, x8_e⟩ := idxE x8_e
    rcases iteE hR with ⟨c9, hR⟩ | ⟨c9, hR⟩
    ·obtain rfl := someE hR
     try refine zu ?_
     (refine yw0 (id := 4) oz56 ?_)
     exact zv
    ·obtain rfl := someE hR
     try refine zu ?_
     (refine yw0 (id := 4) oz56 ?_)
     exact zv
   ·obtain rfl := someE hR
    exact zv
  ·obtain rfl := someE hR
   exact zv
 ·obtain ⟨y10, y10_e, hR⟩ := bindE hR
  have y10_k := fun bs H => eW bs H F d w.cond y10 y10_e
  (try simp only [cellsDesg, encDesg, encInts] at y10_k)
  try refine zu ?_
  (refine yw1 (id := 1) oz55 [(6, 9), (6, 10), (8, 9), (8, 10)] ?_)
  try refine zw ?_
  clear y10_k
  rcases iteE hR with ⟨c11, hR⟩ | ⟨c11, hR⟩
  ·obtain ⟨y12, y12_e, hR⟩ := bindE hR
   have y12_k := fun bs H => gh bs H F d w.value y12 y12_e
   (try simp only [cellsDesg, encDesg, encInts] at y12_k)
   rcases iteE hR with ⟨c13, hR⟩ | ⟨c13, hR⟩
   ·obtain rfl := someE hR
    exact zv
   ·obtain rfl := someE hR
    exact zv
  ·obtain rfl := someE hR
   exact zv
def bk (F : Nat) (cv0 : Desg) (a0_ : Int) (w : Wri) : Option (Int) := ((fl F cv0 w).bind fun y1 => some y1)
theorem gj (bs : List Nat) (H : Heap) (F : Nat) (ca0 : Nat) (cv0 : Desg) (hca0 : H[ca0]? = some (.cells [.str cv0.name, .list (cv0.inputs.map encPort), .list (cv0.elements.map encElem), .list (cv0.nodes.map encNode), .list (cv0.rules.map encRul), .list (cv0.outs.map encOutp), .list (cv0.attrs.map encAttr)])) (a0_ : Int) (w : Wri) (R : Int) (hR0 : bk F cv0 a0_ w = some R) : callw X bs 110 [.int .i64 a0_, (encWri w), .ptr ca0 0] H = some (.int .i64 R, H) := by
 refine yw2 (rs := [.tmp 5]) (N := 9) (fn := Tryz.f110) CG MA ?_
 have hca0_l := aa hca0
 have hca0_a := get_app' hca0
 have hR := Kp.mk hR0
 clear hR0
 rw [bk] at hR
 (try simp only [cellsWri, encInts, encWri])
 obtain ⟨y1, y1_e, hR⟩ := bindE hR
 have y1_k := fun bs H => pE bs H F cv0 w y1 y1_e
 (try simp only [cellsDesg, cellsWri, encDesg, encInts, encWri] at y1_k)
 obtain rfl := someE hR
 exact zv
def bM (F : Nat) (l : List Wri) (cv0 : Desg) : Nat → Nat → Option (Oc (Nat × Int) (Unit))
 | 0, _ => none
 | k + 1, s1 => (if (decide ((s1 : Int) < (l.length : Int))) = true then ((l[s1]?).bind fun x4 => ((bk F cv0 (s1 : Int) x4).bind fun y5 => (if (decide (¬y5 = 0)) = true then some (.a (s1, y5)) else (if inI ((s1 : Int) + 1) then bM F l cv0 k (s1 + 1) else none)))) else some (.b ()))
theorem oQ (bs : List Nat) (H : Heap) (F : Nat) (ca0 : Nat) (cv0 : Desg) (hca0 : H[ca0]? = some (.cells [.str cv0.name, .list (cv0.inputs.map encPort), .list (cv0.elements.map encElem), .list (cv0.nodes.map encNode), .list (cv0.rules.map encRul), .list (cv0.outs.map encOutp), .list (cv0.attrs.map encAttr)])) (l : List Wri) : ∀ k s r ρ H', (∃ J2, H' = H ++ J2 ∧ ρ 1 = .func 110 [.ptr ca0 0] ∧ ρ 9 = .list (l.map encWri) ∧ ρ 10 = .int .i64 (l.length : Int) ∧ ρ 11 = .int .i64 (s : Int)) → bM F l cv0 k s = some r → Lp X ⟨25, H.length :: bs⟩ (loopAt Tryz.f109 0) ρ H' ((fun r ex ρ H' => match r with | .a r => ∃ J2, H' = H ++ J2 ∧ ex = .ret ∧ ρ 4 = .int .i64 (r.1 : Int) ∧ ρ 5 = .int .i64 r.2 | .b r => ∃ J2, H' = H ++ J2 ∧ ex = .exit 0) r) := by
 refine ac (fun _ => rfl) ?_
 rintro k s1 r ρ H' ⟨J2, hH, h1, h9, h10, h11⟩ hR
 skip
 subst hH
 rw [bM] at hR
 have hca0_l := aa hca0
 have hca0_a := get_app' hca0
 conv => arg 3; whnf
 try refine zw ?_
 rcases iteE hR with ⟨c3, hR⟩ | ⟨c3, hR⟩
 ·obtain ⟨x4, x4_e, hR⟩ := bindE hR
  obtain ⟨y5, y5_e, hR⟩ := bindE hR
  have y5_k := fun (bs : List Nat) (l : Heap) => gj bs (H ++ l) F ca0 cv0 gt (s1 : Int) x4 y5 y5_e
  (try simp only [cellsWri, encInts, encWri] at y5_k)
  have y5_k0 := fun (bs : List Nat) => gj bs H F ca0 cv0 gt (s1 : Int) x4 y5 y5_e
  (try simp only [cellsWri, encInts, encWri] at y5_k0)
  try refine zw ?_
  clear y5_k y5_k0
  rcases iteE hR with ⟨c6, hR⟩ | ⟨c6, hR⟩
  ·obtain rfl := someE hR
   refine zu ?_
   exact ⟨_, hq, rfl, sl, sl⟩
  ·obtain ⟨g7, hR⟩ := grdE hR
   have g7_w := ae g7
   refine zu ?_
   exact ⟨(s1 + 1), ⟨_, hq, sl, sl, sl, sl⟩, hR.out⟩
 ·obtain rfl := someE hR
  refine zu ?_
  exact ⟨_, hq, rfl⟩
def ek (F : Nat) (l : List Wri) (cv0 : Desg) : List Wri → Nat → Unit → Option (Oc (Nat × Int) (Unit))
 | [], s1, _ => some (.b ())
 | x_ :: r_, s1, _ => ((bk F cv0 (s1 : Int) x_).bind fun y5 => (if (decide (¬y5 = 0)) = true then some (.a (s1, y5)) else ek F l cv0 r_ (s1 + 1) ()))
theorem ji (F : Nat) (l : List Wri) (cv0 : Desg) (hl_ : l.length ≤ 1000000) : ∀ r_ i_ k_ (o_ : Unit), l.drop i_ = r_ → r_.length < k_ → bM F l cv0 k_ i_ = ek F l cv0 r_ i_ o_
 | _, _, 0, _, _, hk => absurd hk (Nat.not_lt_zero _)
 | [], i_, k_ + 1, _, hd, _ => by rw [bM, ek]; simp only [aj hd, Bool.false_eq_true, if_false]
 | x_ :: r_, i_, k_ + 1, _, hd, hk => by
  have ih := ji F l cv0 hl_ r_ (i_ + 1) k_ () (ah hd) (Nat.lt_of_succ_lt_succ hk)
  rw [bM, ek]; simp only [az hd, ap hd, if_pos (aC hd hl_), Option.bind_some, if_true, ih]
def aZ (F : Nat) (cv0 : Desg) (l : List Wri) : Option (Int × Int) := ((bM F l cv0 F 0).bind fun o8 => match o8 with | .a o9 => some ((o9.1 : Int), o9.2) | .b o11 => some (0, 0))
theorem aq (bs : List Nat) (H : Heap) (F : Nat) (ca0 : Nat) (cv0 : Desg) (hca0 : H[ca0]? = some (.cells [.str cv0.name, .list (cv0.inputs.map encPort), .list (cv0.elements.map encElem), .list (cv0.nodes.map encNode), .list (cv0.rules.map encRul), .list (cv0.outs.map encOutp), .list (cv0.attrs.map encAttr)])) (l : List Wri) (R : Int × Int) (hR0 : aZ F cv0 l = some R) : callw X bs 109 [.list (l.map encWri), .func 110 [.ptr ca0 0]] H = some (.tuple [.int .i64 R.1, .int .i64 R.2], H) := by
 refine yw2 (rs := [.tmp 4, .tmp 5]) (N := 25) (fn := Tryz.f109) CF Mz ?_
 have hca0_l := aa hca0
 have hca0_a := get_app' hca0
 have hR := Kp.mk hR0
 clear hR0
 rw [aZ] at hR
 obtain ⟨o8, o8_e, hR⟩ := bindE hR
 refine zu ?_
 refine ab (af (c := (loopAt Tryz.f109 0)) rfl (oQ _ H F ca0 cv0 hca0 l _ 0 o8 _ _ ⟨[], by simp, sl, sl, sl, sl⟩ o8_e)) ?_
 rcases o8 with o9 | o11
 ·rintro ex ρ' H' ⟨J10, rfl, rfl, q4_o9, q5_o9⟩ hf
  clear hf
  obtain rfl := someE hR
  exact zv
 ·rintro ex ρ' H' ⟨J12, rfl, rfl⟩ hf
  clear hf
  obtain rfl := someE hR
  exact zv
def bD (F : Nat) (cv1 : List ByteArray) (cv2 : Desg) (a0_ : Int) (r_ : Rul) : Option (Int × (List ByteArray)) := (if r_.name.size ≤ 1000000 then ((aQ F cv2 r_.guard).bind fun y3 => (if y3 = true then (if (decide ((r_.writes.length : Int) ≤ 16)) = true then (if (decide (¬(nameErr cv1 r_.name) = 0)) = true then ((aZ F cv2 r_.writes).bind fun y7 => some ((nameErr cv1 r_.name), (addName r_.name cv1))) else ((aZ F cv2 r_.writes).bind fun y8 => (if (decide (¬y8.2 = 0)) = true then some (y8.2, (addName r_.name cv1)) else some (0, (addName r_.name cv1))))) else (if (decide (¬(nameErr cv1 r_.name) = 0)) = true then ((aZ F cv2 r_.writes).bind fun y11 => some ((nameErr cv1 r_.name), (addName r_.name cv1))) else ((aZ F cv2 r_.writes).bind fun y12 => some (8, (addName r_.name cv1))))) else (if (decide ((r_.writes.length : Int) ≤ 16)) = true then (if (decide (¬(nameErr cv1 r_.name) = 0)) = true then ((aZ F cv2 r_.writes).bind fun y15 => some ((nameErr cv1 r_.name), (addName r_.name cv1))) else ((aZ F cv2 r_.writes).bind fun y16 => some (9, (addName r_.name cv1)))) else (if (decide (¬(nameErr cv1 r_.name) = 0)) = true then ((aZ F cv2 r_.writes).bind fun y18 => some ((nameErr cv1 r_.name), (addName r_.name cv1))) else ((aZ F cv2 r_.writes).bind fun y19 => some (9, (addName r_.name cv1))))))) else none)
theorem gQ (bs : List Nat) (H : Heap) (F : Nat) (ca0 : Nat) (ca1 : Nat) (ca2 : Nat) (cv1 : List ByteArray) (cv2 : Desg) (hca0 : H[ca0]? = some (.cells [.map ca1])) (hca1 : ca1 < H.length) (hca2 : H[ca2]? = some (.cells [.str cv2.name, .list (cv2.inputs.map encPort), .list (cv2.elements.map encElem), .list (cv2.nodes.map encNode), .list (cv2.rules.map encRul), .list (cv2.outs.map encOutp), .list (cv2.attrs.map encAttr)])) (hn_ca0_ca1 : ca0 ≠ ca1) (hn_ca2_ca1 : ca2 ≠ ca1) (a0_ : Int) (r_ : Rul) (R : Int × (List ByteArray)) (hR0 : bD F cv1 cv2 a0_ r_ = some R) : callw X bs 108 [.int .i64 a0_, (encRul r_), .ptr ca0 0, .ptr ca2 0] (H.set ca1 (.map (namesM cv1))) = some (.int .i64 R.1, (H.set ca1 (.map (namesM R.2)))) := by
 refine yw2 (rs := [.tmp 6]) (N := 37) (fn := Tryz.f108) CE My ?_
 simp only [List.length_set]
 have hca0_l := aa hca0
 have hca0_a := @eP H (h := hca0) (hn := hn_ca0_ca1)
 have hca0_b := @cC H (h := hca0) (hn := hn_ca0_ca1)
 have hca2_l := aa hca2
 have hca2_a := @eP H (h := hca2) (hn := hn_ca2_ca1)
 have hca2_b := @cC H (h := hca2) (hn := hn_ca2_ca1)
 have hca1_a := @fQ H (h := hca1)
 have hca1_b := @dU H (h := hca1)
 have hca1_s := @fJ H (h := hca1)
 have hR := Kp.mk hR0
 clear hR0
 rw [bD] at hR
 (try simp only [cellsRul, encInts, encRul])
 obtain ⟨g1, hR⟩ := grdE hR
 have k2_k := fun (bs : List Nat) (l : Heap) => by
  have h_ := bI bs ((H.set ca1 (.map (namesM cv1))) ++ l) ca1 cv1 r_.name g1 gt
  (try simp only [ax, am, aP, aK, aL, aA, List.set_cons_succ, List.set_cons_zero, List.set_set, ai, hca1_s] at h_)
  exact h_
 have k2_k0 := fun (bs : List Nat) => by
  have h_ := bI bs (H.set ca1 (.map (namesM cv1))) ca1 cv1 r_.name g1 gt
  (try simp only [ax, am, aP, aK, aL, aA, List.set_cons_succ, List.set_cons_zero, List.set_set, ai, hca1_s] at h_)
  exact h_
 obtain ⟨y3, y3_e, hR⟩ := bindE hR
 have y3_k := fun bs H => eW bs H F cv2 r_.guard y3 y3_e
 (try simp only [cellsDesg, encDesg, encInts] at y3_k)
 rcases iteE hR with ⟨c4, hR⟩ | ⟨c4, hR⟩
 ·rcases iteE hR with ⟨c5, hR⟩ | ⟨c5, hR⟩
  ·rcases iteE hR with ⟨c6, hR⟩ | ⟨c6, hR⟩
   ·have c6_p := of_decide_eq_true c6
    obtain ⟨y7, y7_e, hR⟩ := bindE hR
    have y7_k := fun (bs : List Nat) (l : Heap) => aq bs ((H.set ca1 (.map (namesM (addName r_.name cv1)))) ++ l) F ca2 cv2 gt r_.writes y7 y7_e
    have y7_k0 := fun (bs : List Nat) => aq bs (H.set ca1 (.map (namesM (addName r_.name cv1)))) F ca2 cv2 gt r_.writes y7 y7_e
    obtain rfl := someE hR
    try refine zu ?_
    (refine yw1 (id := 1) oz22 oz23 ?_)
    exact zv
   ·have c6_p := Decidable.not_not.1 (of_decide_eq_false c6)
    obtain ⟨y8, y8_e, hR⟩ := bindE hR
    have y8_k := fun (bs : List Nat) (l : Heap) => aq bs ((H.set ca1 (.map (namesM (addName r_.name cv1)))) ++ l) F ca2 cv2 gt r_.writes y8 y8_e
    have y8_k0 := fun (bs : List Nat) => aq bs (H.set ca1 (.map (namesM (addName r_.name cv1)))) F ca2 cv2 gt r_.writes y8 y8_e
    rcases iteE hR with ⟨c9, hR⟩ | ⟨c9, hR⟩
    ·have c9_p := of_decide_eq_true c9
     obtain rfl := someE hR
     try refine zu ?_
     (refine yw1 (id := 1) oz22 oz23 ?_)
     exact zv
    ·have c9_p := Decidable.not_not.1 (of_decide_eq_false c9)
     obtain rfl := someE hR
     try refine zu ?_
     (refine yw1 (id := 1) oz22 oz23 ?_)
     exact zv
  ·rcases iteE hR with ⟨c10, hR⟩ | ⟨c10, hR⟩
   ·have c10_p := of_decide_eq_true c10
    obtain ⟨y11, y11_e, hR⟩ := bindE hR
    have y11_k := fun (bs : List Nat) (l : Heap) => aq bs ((H.set ca1 (.map (namesM (addName r_.name cv1)))) ++ l) F ca2 cv2 gt r_.writes y11 y11_e
    have y11_k0 := fun (bs : List Nat) => aq bs (H.set ca1 (.map (namesM (addName r_.name cv1)))) F ca2 cv2 gt r_.writes y11 y11_e
    obtain rfl := someE hR
    try refine zu ?_
    (refine yw1 (id := 1) oz22 oz23 ?_)
    exact zv
   ·have c10_p := Decidable.not_not.1 (of_decide_eq_false c10)
    obtain ⟨y12, y12_e, hR⟩ := bindE hR
    have y12_k := fun (bs : List Nat) (l : Heap) => aq bs ((H.set ca1 (.map (namesM (addName r_.name cv1)))) ++ l) F ca2 cv2 gt r_.writes y12 y12_e
    have y12_k0 := fun (bs : List Nat) => aq bs (H.set ca1 (.map (namesM (addName r_.name cv1)))) F ca2 cv2 gt r_.writes y12 y12_e
    obtain rfl := someE hR
    try refine zu ?_
    (refine yw1 (id := 1) oz22 oz23 ?_)
    exact zv
 ·rcases iteE hR with ⟨c13, hR⟩ | ⟨c13, hR⟩
  ·rcases iteE hR with ⟨c14, hR⟩ | ⟨c14, hR⟩
   ·have c14_p := of_decide_eq_true c14
    obtain ⟨y15, y15_e, hR⟩ := bindE hR
    have y15_k := fun (bs : List Nat) (l : Heap) => aq bs ((H.set ca1 (.map (namesM (addName r_.name cv1)))) ++ l) F ca2 cv2 gt r_.writes y15 y15_e
    have y15_k0 := fun (bs : List Nat) => aq bs (H.set ca1 (.map (namesM (addName r_.name cv1)))) F ca2 cv2 gt r_.writes y15 y15_e
    obtain rfl := someE hR
    try refine zu ?_
    (refine yw1 (id := 1) oz22 oz23 ?_)
    exact zv
   ·have c14_p := Decidable.not_not.1 (of_decide_eq_false c14)
    obtain ⟨y16, y16_e, hR⟩ := bindE hR
    have y16_k := fun (bs : List Nat) (l : Heap) => aq bs ((H.set ca1 (.map (namesM (addName r_.name cv1)))) ++ l) F ca2 cv2 gt r_.writes y16 y16_e
    have y16_k0 := fun (bs : List Nat) => aq bs (H.set ca1 (.map (namesM (addName r_.name cv1)))) F ca2 cv2 gt r_.writes y16 y16_e
    obtain rfl := someE hR
    try refine zu ?_
    (refine yw1 (id := 1) oz22 oz23 ?_)
    exact zv
  ·rcases iteE hR with ⟨c17, hR⟩ | ⟨c17, hR⟩
   ·have c17_p := of_decide_eq_true c17
    obtain ⟨y18, y18_e, hR⟩ := bindE hR
    have y18_k := fun (bs : List Nat) (l : Heap) => aq bs ((H.set ca1 (.map (namesM (addName r_.name cv1)))) ++ l) F ca2 cv2 gt r_.writes y18 y18_e
    have y18_k0 := fun (bs : List Nat) => aq bs (H.set ca1 (.map (namesM (addName r_.name cv1)))) F ca2 cv2 gt r_.writes y18 y18_e
    obtain rfl := someE hR
    try refine zu ?_
    (refine yw1 (id := 1) oz22 oz23 ?_)
    exact zv
   ·have c17_p := Decidable.not_not.1 (of_decide_eq_false c17)
    obtain ⟨y19, y19_e, hR⟩ := bindE hR
    have y19_k := fun (bs : List Nat) (l : Heap) => aq bs ((H.set ca1 (.map (namesM (addName r_.name cv1)))) ++ l) F ca2 cv2 gt r_.writes y19 y19_e
    have y19_k0 := fun (bs : List Nat) => aq bs (H.set ca1 (.map (namesM (addName r_.name cv1)))) F ca2 cv2 gt r_.writes y19 y19_e
    obtain rfl := someE hR
    try refine zu ?_
    (refine yw1 (id := 1) oz22 oz23 ?_)
    exact zv
def bN (F : Nat) (l : List Rul) (cv2 : Desg) : Nat → (Nat × (List ByteArray)) → Option (Oc (Nat × Int × (List ByteArray)) ((List ByteArray)))
 | 0, _ => none
 | k + 1, (s7, s8) => (if (decide ((s7 : Int) < (l.length : Int))) = true then ((l[s7]?).bind fun x11 => ((bD F s8 cv2 (s7 : Int) x11).bind fun y12 => (if (decide (¬y12.1 = 0)) = true then some (.a (s7, y12.1, y12.2)) else (if inI ((s7 : Int) + 1) then bN F l cv2 k ((s7 + 1), y12.2) else none)))) else some (.b s8))
theorem oR (bs : List Nat) (H : Heap) (F : Nat) (ca0 : Nat) (ca1 : Nat) (ca2 : Nat) (cv1 : List ByteArray) (cv2 : Desg) (hca0 : H[ca0]? = some (.cells [.map ca1])) (hca1 : ca1 < H.length) (hca2 : H[ca2]? = some (.cells [.str cv2.name, .list (cv2.inputs.map encPort), .list (cv2.elements.map encElem), .list (cv2.nodes.map encNode), .list (cv2.rules.map encRul), .list (cv2.outs.map encOutp), .list (cv2.attrs.map encAttr)])) (hn_ca0_ca1 : ca0 ≠ ca1) (hn_ca2_ca1 : ca2 ≠ ca1) (l : List Rul) : ∀ k s r ρ H', (∃ J9, H' = (H.set ca1 (.map (namesM s.2))) ++ J9 ∧ ρ 1 = .func 108 [.ptr ca0 0, .ptr ca2 0] ∧ ρ 9 = .list (l.map encRul) ∧ ρ 10 = .int .i64 (l.length : Int) ∧ ρ 11 = .int .i64 (s.1 : Int)) → bN F l cv2 k s = some r → Lp X ⟨25, H.length :: bs⟩ (loopAt Tryz.f107 0) ρ H' ((fun r ex ρ H' => match r with | .a r => ∃ J9, H' = (H.set ca1 (.map (namesM r.2.2))) ++ J9 ∧ ex = .ret ∧ ρ 4 = .int .i64 (r.1 : Int) ∧ ρ 5 = .int .i64 r.2.1 | .b r => ∃ J9, H' = (H.set ca1 (.map (namesM r))) ++ J9 ∧ ex = .exit 0) r) := by
 refine ac (fun _ => rfl) ?_
 rintro k ⟨s7, s8⟩ r ρ H' ⟨J9, hH, h1, h9, h10, h11⟩ hR
 simp only at hH h1 h9 h10 h11
 subst hH
 rw [bN] at hR
 have hca0_l := aa hca0
 have hca0_a := @eP H (h := hca0) (hn := hn_ca0_ca1)
 have hca0_b := @cC H (h := hca0) (hn := hn_ca0_ca1)
 have hca2_l := aa hca2
 have hca2_a := @eP H (h := hca2) (hn := hn_ca2_ca1)
 have hca2_b := @cC H (h := hca2) (hn := hn_ca2_ca1)
 have hca1_a := @fQ H (h := hca1)
 have hca1_b := @dU H (h := hca1)
 have hca1_s := @fJ H (h := hca1)
 conv => arg 3; whnf
 try refine zw ?_
 rcases iteE hR with ⟨c10, hR⟩ | ⟨c10, hR⟩
 ·obtain ⟨x11, x11_e, hR⟩ := bindE hR
  obtain ⟨y12, y12_e, hR⟩ := bindE hR
  have y12_k := fun (bs : List Nat) (l : Heap) => by
   have h_ := gQ bs ((H.set ca1 (.map (namesM s8))) ++ l) F ca0 ca1 ca2 s8 cv2 gt ln gt om om (s7 : Int) x11 y12 y12_e
   (try simp only [ax, am, aP, aK, aL, aA, List.set_cons_succ, List.set_cons_zero, List.set_set, ai, hca1_s] at h_)
   exact h_
  (try simp only [cellsRul, encInts, encRul] at y12_k)
  have y12_k0 := fun (bs : List Nat) => by
   have h_ := gQ bs (H.set ca1 (.map (namesM s8))) F ca0 ca1 ca2 s8 cv2 gt ln gt om om (s7 : Int) x11 y12 y12_e
   (try simp only [ax, am, aP, aK, aL, aA, List.set_cons_succ, List.set_cons_zero, List.set_set, ai, hca1_s] at h_)
   exact h_
  (try simp only [cellsRul, encInts, encRul] at y12_k0)
  try refine zw ?_
  clear y12_k y12_k0
  rcases iteE hR with ⟨c13, hR⟩ | ⟨c13, hR⟩
  ·obtain rfl := someE hR
   refine zu ?_
   exact ⟨_, hq, rfl, sl, sl⟩
  ·obtain ⟨g14, hR⟩ := grdE hR
   have g14_w := ae g14
   refine zu ?_
   exact ⟨((s7 + 1), y12.2), ⟨_, hq, sl, sl, sl, sl⟩, hR.out⟩
 ·obtain rfl := someE hR
  refine zu ?_
  exact ⟨_, hq, rfl⟩
def dc (F : Nat) (l : List Rul) (cv2 : Desg) : List Rul → Nat → (List ByteArray) → Option (Oc (Nat × Int × (List ByteArray)) ((List ByteArray)))
 | [], s7, s8 => some (.b s8)
 | x_ :: r_, s7, s8 => ((bD F s8 cv2 (s7 : Int) x_).bind fun y12 => (if (decide (¬y12.1 = 0)) = true then some (.a (s7, y12.1, y12.2)) else dc F l cv2 r_ (s7 + 1) y12.2))
theorem jj (F : Nat) (l : List Rul) (cv2 : Desg) (hl_ : l.length ≤ 1000000) : ∀ r_ i_ k_ (o_ : (List ByteArray)), l.drop i_ = r_ → r_.length < k_ → bN F l cv2 k_ (i_, o_) = dc F l cv2 r_ i_ o_
 | _, _, 0, _, _, hk => absurd hk (Nat.not_lt_zero _)
 | [], i_, k_ + 1, s8, hd, _ => by rw [bN, dc]; simp only [aj hd, Bool.false_eq_true, if_false]
 | x_ :: r_, i_, k_ + 1, s8, hd, hk => by
  have ih := fun o_ => jj F l cv2 hl_ r_ (i_ + 1) k_ o_ (ah hd) (Nat.lt_of_succ_lt_succ hk)
  rw [bN, dc]; simp only [az hd, ap hd, if_pos (aC hd hl_), Option.bind_some, if_true, ih]
def fS (F : Nat) (cv1 : List ByteArray) (cv2 : Desg) (l : List Rul) : Option (Int × Int × (List ByteArray)) := ((bN F l cv2 F (0, cv1)).bind fun o15 => match o15 with | .a o16 => some ((o16.1 : Int), o16.2.1, o16.2.2) | .b o18 => some (0, 0, o18))
theorem kW (bs : List Nat) (H : Heap) (F : Nat) (ca0 : Nat) (ca1 : Nat) (ca2 : Nat) (cv1 : List ByteArray) (cv2 : Desg) (hca0 : H[ca0]? = some (.cells [.map ca1])) (hca1 : ca1 < H.length) (hca2 : H[ca2]? = some (.cells [.str cv2.name, .list (cv2.inputs.map encPort), .list (cv2.elements.map encElem), .list (cv2.nodes.map encNode), .list (cv2.rules.map encRul), .list (cv2.outs.map encOutp), .list (cv2.attrs.map encAttr)])) (hn_ca0_ca1 : ca0 ≠ ca1) (hn_ca2_ca1 : ca2 ≠ ca1) (l : List Rul) (R : Int × Int × (List ByteArray)) (hR0 : fS F cv1 cv2 l = some R) : callw X bs 107 [.list (l.map encRul), .func 108 [.ptr ca0 0, .ptr ca2 0]] (H.set ca1 (.map (namesM cv1))) = some (.tuple [.int .i64 R.1, .int .i64 R.2.1], (H.set ca1 (.map (namesM R.2.2)))) := by
 refine yw2 (rs := [.tmp 4, .tmp 5]) (N := 25) (fn := Tryz.f107) CD Mx ?_
 simp only [List.length_set]
 have hca0_l := aa hca0
 have hca0_a := @eP H (h := hca0) (hn := hn_ca0_ca1)
 have hca0_b := @cC H (h := hca0) (hn := hn_ca0_ca1)
 have hca2_l := aa hca2
 have hca2_a := @eP H (h := hca2) (hn := hn_ca2_ca1)
 have hca2_b := @cC H (h := hca2) (hn := hn_ca2_ca1)
 have hca1_a := @fQ H (h := hca1)
 have hca1_b := @dU H (h := hca1)
 have hca1_s := @fJ H (h := hca1)
 have hR := Kp.mk hR0
 clear hR0
 rw [fS] at hR
 obtain ⟨o15, o15_e, hR⟩ := bindE hR
 refine zu ?_
 refine ab (af (c := (loopAt Tryz.f107 0)) rfl (oR _ H F ca0 ca1 ca2 cv1 cv2 hca0 hca1 hca2 hn_ca0_ca1 hn_ca2_ca1 l _ (0, cv1) o15 _ _ ⟨[], by simp, sl, sl, sl, sl⟩ o15_e)) ?_
 rcases o15 with o16 | o18
 ·rintro ex ρ' H' ⟨J17, rfl, rfl, q4_o16, q5_o16⟩ hf
  clear hf
  obtain rfl := someE hR
  exact zv
 ·rintro ex ρ' H' ⟨J19, rfl, rfl⟩ hf
  clear hf
  obtain rfl := someE hR
  exact zv
def eX (F : Nat) (cv0 : Desg) (cv2 : List ByteArray) : Option (Int × Int × (List ByteArray)) := ((fS F cv2 cv0 cv0.rules).bind fun y1 => some (y1.1, y1.2.1, y1.2.2))
theorem mw (bs : List Nat) (H : Heap) (F : Nat) (ca0 : Nat) (ca1 : Nat) (ca2 : Nat) (cv0 : Desg) (cv2 : List ByteArray) (hca0 : H[ca0]? = some (.cells [.str cv0.name, .list (cv0.inputs.map encPort), .list (cv0.elements.map encElem), .list (cv0.nodes.map encNode), .list (cv0.rules.map encRul), .list (cv0.outs.map encOutp), .list (cv0.attrs.map encAttr)])) (hca1 : H[ca1]? = some (.cells [.map ca2])) (hca2 : ca2 < H.length) (hn_ca0_ca2 : ca0 ≠ ca2) (hn_ca1_ca2 : ca1 ≠ ca2) (R : Int × Int × (List ByteArray)) (hR0 : eX F cv0 cv2 = some R) : callw X bs 106 [.ptr ca0 0, .ptr ca1 0] (H.set ca2 (.map (namesM cv2))) = some (.tuple [.int .i64 R.1, .int .i64 R.2.1], (H.set ca2 (.map (namesM R.2.2)))) := by
 refine yw2 (rs := [.tmp 2, .tmp 3]) (N := 10) (fn := Tryz.f106) CC Mw ?_
 simp only [List.length_set]
 have hca0_l := aa hca0
 have hca0_a := @eP H (h := hca0) (hn := hn_ca0_ca2)
 have hca0_b := @cC H (h := hca0) (hn := hn_ca0_ca2)
 have hca1_l := aa hca1
 have hca1_a := @eP H (h := hca1) (hn := hn_ca1_ca2)
 have hca1_b := @cC H (h := hca1) (hn := hn_ca1_ca2)
 have hca2_a := @fQ H (h := hca2)
 have hca2_b := @dU H (h := hca2)
 have hca2_s := @fJ H (h := hca2)
 have hR := Kp.mk hR0
 clear hR0
 rw [eX] at hR
 obtain ⟨y1, y1_e, hR⟩ := bindE hR
 have y1_k := fun (bs : List Nat) (l : Heap) => by
  have h_ := kW bs ((H.set ca2 (.map (namesM cv2))) ++ l) F ca1 ca2 ca0 cv2 cv0 gt ln gt om om cv0.rules y1 y1_e
  (try simp only [ax, am, aP, aK, aL, aA, List.set_cons_succ, List.set_cons_zero, List.set_set, ai, hca2_s] at h_)
  exact h_
 have y1_k0 := fun (bs : List Nat) => by
  have h_ := kW bs (H.set ca2 (.map (namesM cv2))) F ca1 ca2 ca0 cv2 cv0 gt ln gt om om cv0.rules y1 y1_e
  (try simp only [ax, am, aP, aK, aL, aA, List.set_cons_succ, List.set_cons_zero, List.set_set, ai, hca2_s] at h_)
  exact h_
 obtain rfl := someE hR
 exact zv
def eY (F : Nat) (cv0 : Desg) : Option (Int × Int) := (if (decide ((cv0.outs.length : Int) ≤ 12)) = true then some (0, 0) else some (0, 8))
theorem my (bs : List Nat) (H : Heap) (F : Nat) (ca0 : Nat) (cv0 : Desg) (hca0 : H[ca0]? = some (.cells [.str cv0.name, .list (cv0.inputs.map encPort), .list (cv0.elements.map encElem), .list (cv0.nodes.map encNode), .list (cv0.rules.map encRul), .list (cv0.outs.map encOutp), .list (cv0.attrs.map encAttr)])) (R : Int × Int) (hR0 : eY F cv0 = some R) : callw X bs 112 [.ptr ca0 0] H = some (.tuple [.int .i64 R.1, .int .i64 R.2], H) := by
 refine yw2 (rs := [.tmp 1, .tmp 2]) (N := 8) (fn := Tryz.f112) CJ MC ?_
 have hca0_l := aa hca0
 have hca0_a := get_app' hca0
 have hR := Kp.mk hR0
 clear hR0
 rw [eY] at hR
 rcases iteE hR with ⟨c1, hR⟩ | ⟨c1, hR⟩
 ·obtain rfl := someE hR
  exact zv
 ·obtain rfl := someE hR
  exact zv
def bE (F : Nat) (cv1 : List ByteArray) (cv2 : Desg) (a0_ : Int) (o : Outp) : Option (Int × (List ByteArray)) := (if o.name.size ≤ 1000000 then ((dD F cv2 o.node).bind fun y3 => (if y3 = true then (if (decide (¬(nameErr cv1 o.name) = 0)) = true then some ((nameErr cv1 o.name), (addName o.name cv1)) else some (0, (addName o.name cv1))) else (if (decide (¬(nameErr cv1 o.name) = 0)) = true then some ((nameErr cv1 o.name), (addName o.name cv1)) else some (9, (addName o.name cv1))))) else none)
theorem gR (bs : List Nat) (H : Heap) (F : Nat) (ca0 : Nat) (ca1 : Nat) (ca2 : Nat) (cv1 : List ByteArray) (cv2 : Desg) (hca0 : H[ca0]? = some (.cells [.map ca1])) (hca1 : ca1 < H.length) (hca2 : H[ca2]? = some (.cells [.str cv2.name, .list (cv2.inputs.map encPort), .list (cv2.elements.map encElem), .list (cv2.nodes.map encNode), .list (cv2.rules.map encRul), .list (cv2.outs.map encOutp), .list (cv2.attrs.map encAttr)])) (hn_ca0_ca1 : ca0 ≠ ca1) (hn_ca2_ca1 : ca2 ≠ ca1) (a0_ : Int) (o : Outp) (R : Int × (List ByteArray)) (hR0 : bE F cv1 cv2 a0_ o = some R) : callw X bs 115 [.int .i64 a0_, (encOutp o), .ptr ca0 0, .ptr ca2 0] (H.set ca1 (.map (namesM cv1))) = some (.int .i64 R.1, (H.set ca1 (.map (namesM R.2)))) := by
 refine yw2 (rs := [.tmp 6]) (N := 18) (fn := Tryz.f115) CM MF ?_
 simp only [List.length_set]
 have hca0_l := aa hca0
 have hca0_a := @eP H (h := hca0) (hn := hn_ca0_ca1)
 have hca0_b := @cC H (h := hca0) (hn := hn_ca0_ca1)
 have hca2_l := aa hca2
 have hca2_a := @eP H (h := hca2) (hn := hn_ca2_ca1)
 have hca2_b := @cC H (h := hca2) (hn := hn_ca2_ca1)
 have hca1_a := @fQ H (h := hca1)
 have hca1_b := @dU H (h := hca1)
 have hca1_s := @fJ H (h := hca1)
 have hR := Kp.mk hR0
 clear hR0
 rw [bE] at hR
 (try simp only [encInts, encOutp])
 obtain ⟨g1, hR⟩ := grdE hR
 have k2_k := fun (bs : List Nat) (l : Heap) => by
  have h_ := bI bs ((H.set ca1 (.map (namesM cv1))) ++ l) ca1 cv1 o.name g1 gt
  (try simp only [ax, am, aP, aK, aL, aA, List.set_cons_succ, List.set_cons_zero, List.set_set, ai, hca1_s] at h_)
  exact h_
 have k2_k0 := fun (bs : List Nat) => by
  have h_ := bI bs (H.set ca1 (.map (namesM cv1))) ca1 cv1 o.name g1 gt
  (try simp only [ax, am, aP, aK, aL, aA, List.set_cons_succ, List.set_cons_zero, List.set_set, ai, hca1_s] at h_)
  exact h_
 obtain ⟨y3, y3_e, hR⟩ := bindE hR
 have y3_k := fun bs H => gh bs H F cv2 o.node y3 y3_e
 (try simp only [cellsDesg, encDesg, encInts] at y3_k)
 rcases iteE hR with ⟨c4, hR⟩ | ⟨c4, hR⟩
 ·rcases iteE hR with ⟨c5, hR⟩ | ⟨c5, hR⟩
  ·have c5_p := of_decide_eq_true c5
   obtain rfl := someE hR
   try refine zu ?_
   (refine yw1 (id := 1) oz48 [(3, 6), (5, 6)] ?_)
   exact zv
  ·have c5_p := Decidable.not_not.1 (of_decide_eq_false c5)
   obtain rfl := someE hR
   try refine zu ?_
   (refine yw1 (id := 1) oz48 [(3, 6), (5, 6)] ?_)
   exact zv
 ·rcases iteE hR with ⟨c6, hR⟩ | ⟨c6, hR⟩
  ·have c6_p := of_decide_eq_true c6
   obtain rfl := someE hR
   try refine zu ?_
   (refine yw1 (id := 1) oz48 [(3, 6), (5, 6)] ?_)
   exact zv
  ·have c6_p := Decidable.not_not.1 (of_decide_eq_false c6)
   obtain rfl := someE hR
   try refine zu ?_
   (refine yw1 (id := 1) oz48 [(3, 6), (5, 6)] ?_)
   exact zv
def bO (F : Nat) (l : List Outp) (cv2 : Desg) : Nat → (Nat × (List ByteArray)) → Option (Oc (Nat × Int × (List ByteArray)) ((List ByteArray)))
 | 0, _ => none
 | k + 1, (s7, s8) => (if (decide ((s7 : Int) < (l.length : Int))) = true then ((l[s7]?).bind fun x11 => ((bE F s8 cv2 (s7 : Int) x11).bind fun y12 => (if (decide (¬y12.1 = 0)) = true then some (.a (s7, y12.1, y12.2)) else (if inI ((s7 : Int) + 1) then bO F l cv2 k ((s7 + 1), y12.2) else none)))) else some (.b s8))
theorem oS (bs : List Nat) (H : Heap) (F : Nat) (ca0 : Nat) (ca1 : Nat) (ca2 : Nat) (cv1 : List ByteArray) (cv2 : Desg) (hca0 : H[ca0]? = some (.cells [.map ca1])) (hca1 : ca1 < H.length) (hca2 : H[ca2]? = some (.cells [.str cv2.name, .list (cv2.inputs.map encPort), .list (cv2.elements.map encElem), .list (cv2.nodes.map encNode), .list (cv2.rules.map encRul), .list (cv2.outs.map encOutp), .list (cv2.attrs.map encAttr)])) (hn_ca0_ca1 : ca0 ≠ ca1) (hn_ca2_ca1 : ca2 ≠ ca1) (l : List Outp) : ∀ k s r ρ H', (∃ J9, H' = (H.set ca1 (.map (namesM s.2))) ++ J9 ∧ ρ 1 = .func 115 [.ptr ca0 0, .ptr ca2 0] ∧ ρ 9 = .list (l.map encOutp) ∧ ρ 10 = .int .i64 (l.length : Int) ∧ ρ 11 = .int .i64 (s.1 : Int)) → bO F l cv2 k s = some r → Lp X ⟨25, H.length :: bs⟩ (loopAt Tryz.f114 0) ρ H' ((fun r ex ρ H' => match r with | .a r => ∃ J9, H' = (H.set ca1 (.map (namesM r.2.2))) ++ J9 ∧ ex = .ret ∧ ρ 4 = .int .i64 (r.1 : Int) ∧ ρ 5 = .int .i64 r.2.1 | .b r => ∃ J9, H' = (H.set ca1 (.map (namesM r))) ++ J9 ∧ ex = .exit 0) r) := by
 refine ac (fun _ => rfl) ?_
 rintro k ⟨s7, s8⟩ r ρ H' ⟨J9, hH, h1, h9, h10, h11⟩ hR
 simp only at hH h1 h9 h10 h11
 subst hH
 rw [bO] at hR
 have hca0_l := aa hca0
 have hca0_a := @eP H (h := hca0) (hn := hn_ca0_ca1)
 have hca0_b := @cC H (h := hca0) (hn := hn_ca0_ca1)
 have hca2_l := aa hca2
 have hca2_a := @eP H (h := hca2) (hn := hn_ca2_ca1)
 have hca2_b := @cC H (h := hca2) (hn := hn_ca2_ca1)
 have hca1_a := @fQ H (h := hca1)
 have hca1_b := @dU H (h := hca1)
 have hca1_s := @fJ H (h := hca1)
 conv => arg 3; whnf
 try refine zw ?_
 rcases iteE hR with ⟨c10, hR⟩ | ⟨c10, hR⟩
 ·obtain ⟨x11, x11_e, hR⟩ := bindE hR
  obtain ⟨y12, y12_e, hR⟩ := bindE hR
  have y12_k := fun (bs : List Nat) (l : Heap) => by
   have h_ := gR bs ((H.set ca1 (.map (namesM s8))) ++ l) F ca0 ca1 ca2 s8 cv2 gt ln gt om om (s7 : Int) x11 y12 y12_e
   (try simp only [ax, am, aP, aK, aL, aA, List.set_cons_succ, List.set_cons_zero, List.set_set, ai, hca1_s] at h_)
   exact h_
  (try simp only [encInts, encOutp] at y12_k)
  have y12_k0 := fun (bs : List Nat) => by
   have h_ := gR bs (H.set ca1 (.map (namesM s8))) F ca0 ca1 ca2 s8 cv2 gt ln gt om om (s7 : Int) x11 y12 y12_e
   (try simp only [ax, am, aP, aK, aL, aA, List.set_cons_succ, List.set_cons_zero, List.set_set, ai, hca1_s] at h_)
   exact h_
  (try simp only [encInts, encOutp] at y12_k0)
  try refine zw ?_
  clear y12_k y12_k0
  rcases iteE hR with ⟨c13, hR⟩ | ⟨c13, hR⟩
  ·obtain rfl := someE hR
   refine zu ?_
   exact ⟨_, hq, rfl, sl, sl⟩
  ·obtain ⟨g14, hR⟩ := grdE hR
   have g14_w := ae g14
   refine zu ?_
   exact ⟨((s7 + 1), y12.2), ⟨_, hq, sl, sl, sl, sl⟩, hR.out⟩
 ·obtain rfl := someE hR
  refine zu ?_
  exact ⟨_, hq, rfl⟩
def de (F : Nat) (l : List Outp) (cv2 : Desg) : List Outp → Nat → (List ByteArray) → Option (Oc (Nat × Int × (List ByteArray)) ((List ByteArray)))
 | [], s7, s8 => some (.b s8)
 | x_ :: r_, s7, s8 => ((bE F s8 cv2 (s7 : Int) x_).bind fun y12 => (if (decide (¬y12.1 = 0)) = true then some (.a (s7, y12.1, y12.2)) else de F l cv2 r_ (s7 + 1) y12.2))
theorem jk (F : Nat) (l : List Outp) (cv2 : Desg) (hl_ : l.length ≤ 1000000) : ∀ r_ i_ k_ (o_ : (List ByteArray)), l.drop i_ = r_ → r_.length < k_ → bO F l cv2 k_ (i_, o_) = de F l cv2 r_ i_ o_
 | _, _, 0, _, _, hk => absurd hk (Nat.not_lt_zero _)
 | [], i_, k_ + 1, s8, hd, _ => by rw [bO, de]; simp only [aj hd, Bool.false_eq_true, if_false]
 | x_ :: r_, i_, k_ + 1, s8, hd, hk => by
  have ih := fun o_ => jk F l cv2 hl_ r_ (i_ + 1) k_ o_ (ah hd) (Nat.lt_of_succ_lt_succ hk)
  rw [bO, de]; simp only [az hd, ap hd, if_pos (aC hd hl_), Option.bind_some, if_true, ih]
def fT (F : Nat) (cv1 : List ByteArray) (cv2 : Desg) (l : List Outp) : Option (Int × Int × (List ByteArray)) := ((bO F l cv2 F (0, cv1)).bind fun o15 => match o15 with | .a o16 => some ((o16.1 : Int), o16.2.1, o16.2.2) | .b o18 => some (0, 0, o18))
theorem kX (bs : List Nat) (H : Heap) (F : Nat) (ca0 : Nat) (ca1 : Nat) (ca2 : Nat) (cv1 : List ByteArray) (cv2 : Desg) (hca0 : H[ca0]? = some (.cells [.map ca1])) (hca1 : ca1 < H.length) (hca2 : H[ca2]? = some (.cells [.str cv2.name, .list (cv2.inputs.map encPort), .list (cv2.elements.map encElem), .list (cv2.nodes.map encNode), .list (cv2.rules.map encRul), .list (cv2.outs.map encOutp), .list (cv2.attrs.map encAttr)])) (hn_ca0_ca1 : ca0 ≠ ca1) (hn_ca2_ca1 : ca2 ≠ ca1) (l : List Outp) (R : Int × Int × (List ByteArray)) (hR0 : fT F cv1 cv2 l = some R) : callw X bs 114 [.list (l.map encOutp), .func 115 [.ptr ca0 0, .ptr ca2 0]] (H.set ca1 (.map (namesM cv1))) = some (.tuple [.int .i64 R.1, .int .i64 R.2.1], (H.set ca1 (.map (namesM R.2.2)))) := by
 refine yw2 (rs := [.tmp 4, .tmp 5]) (N := 25) (fn := Tryz.f114) CL ME ?_
 simp only [List.length_set]
 have hca0_l := aa hca0
 have hca0_a := @eP H (h := hca0) (hn := hn_ca0_ca1)
 have hca0_b := @cC H (h := hca0) (hn := hn_ca0_ca1)
 have hca2_l := aa hca2
 have hca2_a := @eP H (h := hca2) (hn := hn_ca2_ca1)
 have hca2_b := @cC H (h := hca2) (hn := hn_ca2_ca1)
 have hca1_a := @fQ H (h := hca1)
 have hca1_b := @dU H (h := hca1)
 have hca1_s := @fJ H (h := hca1)
 have hR := Kp.mk hR0
 clear hR0
 rw [fT] at hR
 obtain ⟨o15, o15_e, hR⟩ := bindE hR
 refine zu ?_
 refine ab (af (c := (loopAt Tryz.f114 0)) rfl (oS _ H F ca0 ca1 ca2 cv1 cv2 hca0 hca1 hca2 hn_ca0_ca1 hn_ca2_ca1 l _ (0, cv1) o15 _ _ ⟨[], by simp, sl, sl, sl, sl⟩ o15_e)) ?_
 rcases o15 with o16 | o18
 ·rintro ex ρ' H' ⟨J17, rfl, rfl, q4_o16, q5_o16⟩ hf
  clear hf
  obtain rfl := someE hR
  exact zv
 ·rintro ex ρ' H' ⟨J19, rfl, rfl⟩ hf
  clear hf
  obtain rfl := someE hR
  exact zv
def eZ (F : Nat) (cv0 : Desg) (cv2 : List ByteArray) : Option (Int × Int × (List ByteArray)) := ((fT F cv2 cv0 cv0.outs).bind fun y1 => some (y1.1, y1.2.1, y1.2.2))
theorem mz (bs : List Nat) (H : Heap) (F : Nat) (ca0 : Nat) (ca1 : Nat) (ca2 : Nat) (cv0 : Desg) (cv2 : List ByteArray) (hca0 : H[ca0]? = some (.cells [.str cv0.name, .list (cv0.inputs.map encPort), .list (cv0.elements.map encElem), .list (cv0.nodes.map encNode), .list (cv0.rules.map encRul), .list (cv0.outs.map encOutp), .list (cv0.attrs.map encAttr)])) (hca1 : H[ca1]? = some (.cells [.map ca2])) (hca2 : ca2 < H.length) (hn_ca0_ca2 : ca0 ≠ ca2) (hn_ca1_ca2 : ca1 ≠ ca2) (R : Int × Int × (List ByteArray)) (hR0 : eZ F cv0 cv2 = some R) : callw X bs 113 [.ptr ca0 0, .ptr ca1 0] (H.set ca2 (.map (namesM cv2))) = some (.tuple [.int .i64 R.1, .int .i64 R.2.1], (H.set ca2 (.map (namesM R.2.2)))) := by
 refine yw2 (rs := [.tmp 2, .tmp 3]) (N := 10) (fn := Tryz.f113) CK MD ?_
 simp only [List.length_set]
 have hca0_l := aa hca0
 have hca0_a := @eP H (h := hca0) (hn := hn_ca0_ca2)
 have hca0_b := @cC H (h := hca0) (hn := hn_ca0_ca2)
 have hca1_l := aa hca1
 have hca1_a := @eP H (h := hca1) (hn := hn_ca1_ca2)
 have hca1_b := @cC H (h := hca1) (hn := hn_ca1_ca2)
 have hca2_a := @fQ H (h := hca2)
 have hca2_b := @dU H (h := hca2)
 have hca2_s := @fJ H (h := hca2)
 have hR := Kp.mk hR0
 clear hR0
 rw [eZ] at hR
 obtain ⟨y1, y1_e, hR⟩ := bindE hR
 have y1_k := fun (bs : List Nat) (l : Heap) => by
  have h_ := kX bs ((H.set ca2 (.map (namesM cv2))) ++ l) F ca1 ca2 ca0 cv2 cv0 gt ln gt om om cv0.outs y1 y1_e
  (try simp only [ax, am, aP, aK, aL, aA, List.set_cons_succ, List.set_cons_zero, List.set_set, ai, hca2_s] at h_)
  exact h_
 have y1_k0 := fun (bs : List Nat) => by
  have h_ := kX bs (H.set ca2 (.map (namesM cv2))) F ca1 ca2 ca0 cv2 cv0 gt ln gt om om cv0.outs y1 y1_e
  (try simp only [ax, am, aP, aK, aL, aA, List.set_cons_succ, List.set_cons_zero, List.set_set, ai, hca2_s] at h_)
  exact h_
 obtain rfl := someE hR
 exact zv
def eI (F : Nat) (cv0 : Desg) : Option (Int × Int) := (if (decide ((cv0.attrs.length : Int) ≤ 16)) = true then some (0, 0) else some (0, 8))
theorem lJ (bs : List Nat) (H : Heap) (F : Nat) (ca0 : Nat) (cv0 : Desg) (hca0 : H[ca0]? = some (.cells [.str cv0.name, .list (cv0.inputs.map encPort), .list (cv0.elements.map encElem), .list (cv0.nodes.map encNode), .list (cv0.rules.map encRul), .list (cv0.outs.map encOutp), .list (cv0.attrs.map encAttr)])) (R : Int × Int) (hR0 : eI F cv0 = some R) : callw X bs 117 [.ptr ca0 0] H = some (.tuple [.int .i64 R.1, .int .i64 R.2], H) := by
 refine yw2 (rs := [.tmp 1, .tmp 2]) (N := 8) (fn := Tryz.f117) CO MH ?_
 have hca0_l := aa hca0
 have hca0_a := get_app' hca0
 have hR := Kp.mk hR0
 clear hR0
 rw [eI] at hR
 rcases iteE hR with ⟨c1, hR⟩ | ⟨c1, hR⟩
 ·obtain rfl := someE hR
  exact zv
 ·obtain rfl := someE hR
  exact zv
def ck (F : Nat) (s_ : List Int) (v : Int) : Nat → Nat → Option (Oc (Nat) (Unit))
 | 0, _ => none
 | k + 1, s1 => (if (decide ((s1 : Int) < (s_.length : Int))) = true then ((s_[s1]?).bind fun x4 => (if (decide (v = x4)) = true then some (.a s1) else (if inI ((s1 : Int) + 1) then ck F s_ v k (s1 + 1) else none))) else some (.b ()))
theorem pF (bs : List Nat) (H : Heap) (F : Nat) (s_ : List Int) (v : Int) : ∀ k s r ρ H', (∃ J2, H' = H ++ J2 ∧ ρ 0 = .list (s_.map (V.int .i64)) ∧ ρ 1 = .int .i64 v ∧ ρ 7 = .int .i64 (s_.length : Int) ∧ ρ 8 = .int .i64 (s : Int)) → ck F s_ v k s = some r → Lp X ⟨19, H.length :: bs⟩ (loopAt Tryz.f175 0) ρ H' ((fun r ex ρ H' => match r with | .a r => ∃ J2, H' = H ++ J2 ∧ ex = .ret ∧ ρ 4 = .int .i64 (r : Int) | .b r => ∃ J2, H' = H ++ J2 ∧ ex = .exit 0) r) := by
 refine ac (fun _ => rfl) ?_
 rintro k s1 r ρ H' ⟨J2, hH, h0, h1, h7, h8⟩ hR
 skip
 subst hH
 rw [ck] at hR
 conv => arg 3; whnf
 try refine zw ?_
 rcases iteE hR with ⟨c3, hR⟩ | ⟨c3, hR⟩
 ·obtain ⟨x4, x4_e, hR⟩ := bindE hR
  try refine zw ?_
  rcases iteE hR with ⟨c5, hR⟩ | ⟨c5, hR⟩
  ·obtain rfl := someE hR
   refine zu ?_
   exact ⟨_, hq, rfl, sl⟩
  ·obtain ⟨g6, hR⟩ := grdE hR
   have g6_w := ae g6
   refine zu ?_
   exact ⟨(s1 + 1), ⟨_, hq, sl, sl, sl, sl⟩, hR.out⟩
 ·obtain rfl := someE hR
  refine zu ?_
  exact ⟨_, hq, rfl⟩
def dI (F : Nat) (s_ : List Int) (v : Int) : List Int → Nat → Unit → Option (Oc (Nat) (Unit))
 | [], s1, _ => some (.b ())
 | x_ :: r_, s1, _ => (if (decide (v = x_)) = true then some (.a s1) else dI F s_ v r_ (s1 + 1) ())
theorem jF (F : Nat) (s_ : List Int) (v : Int) (hl_ : s_.length ≤ 1000000) : ∀ r_ i_ k_ (o_ : Unit), s_.drop i_ = r_ → r_.length < k_ → ck F s_ v k_ i_ = dI F s_ v r_ i_ o_
 | _, _, 0, _, _, hk => absurd hk (Nat.not_lt_zero _)
 | [], i_, k_ + 1, _, hd, _ => by rw [ck, dI]; simp only [aj hd, Bool.false_eq_true, if_false]
 | x_ :: r_, i_, k_ + 1, _, hd, hk => by
  have ih := jF F s_ v hl_ r_ (i_ + 1) k_ () (ah hd) (Nat.lt_of_succ_lt_succ hk)
  rw [ck, dI]; simp only [az hd, ap hd, if_pos (aC hd hl_), Option.bind_some, if_true, ih]
def iv (F : Nat) (s_ : List Int) (v : Int) : Option (Int) := ((ck F s_ v F 0).bind fun o7 => match o7 with | .a o8 => some (o8 : Int) | .b o10 => some (-1))
theorem rX (bs : List Nat) (H : Heap) (F : Nat) (s_ : List Int) (v : Int) (R : Int) (hR0 : iv F s_ v = some R) : callw X bs 175 [.list (s_.map (V.int .i64)), .int .i64 v] H = some (.int .i64 R, H) := by
 refine yw2 (rs := [.tmp 4]) (N := 19) (fn := Tryz.f175) Ds Nm ?_
 have hR := Kp.mk hR0
 clear hR0
 rw [iv] at hR
 obtain ⟨o7, o7_e, hR⟩ := bindE hR
 refine zu ?_
 refine ab (af (c := (loopAt Tryz.f175 0)) rfl (pF _ H F s_ v _ 0 o7 _ _ ⟨[], by simp, sl, sl, sl, sl⟩ o7_e)) ?_
 rcases o7 with o8 | o10
 ·rintro ex ρ' H' ⟨J9, rfl, rfl, q4_o8⟩ hf
  clear hf
  obtain rfl := someE hR
  exact zv
 ·rintro ex ρ' H' ⟨J11, rfl, rfl⟩ hf
  clear hf
  obtain rfl := someE hR
  exact zv
def ez (F : Nat) (s_ : List Int) (v : Int) : Option (Bool) := ((iv F s_ v).bind fun y1 => some (decide ((0 : Int) ≤ y1)))
theorem jS (bs : List Nat) (H : Heap) (F : Nat) (s_ : List Int) (v : Int) (R : Bool) (hR0 : ez F s_ v = some R) : callw X bs 122 [.list (s_.map (V.int .i64)), .int .i64 v] H = some (.bool R, H) := by
 refine yw2 (rs := [.tmp 4]) (N := 9) (fn := Tryz.f122) CT MM ?_
 have hR := Kp.mk hR0
 clear hR0
 rw [ez] at hR
 obtain ⟨y1, y1_e, hR⟩ := bindE hR
 have y1_k := fun bs H => rX bs H F s_ v y1 y1_e
 obtain rfl := someE hR
 exact zv
def be (F : Nat) (cv0 : Desg) (cv1 : Attr) (i : Int) (n : Int) : Option (Int) := (if inI ((cv0.rules.length : Int) - 1) then (if 0 ≤ i ∧ 0 ≤ i.toNat ∧ i.toNat ≤ cv1.rules.length then (if (decide ((0 : Int) ≤ n) && decide (n ≤ ((cv0.rules.length : Int) - 1))) = true then ((ez F (cv1.rules.take i.toNat) n).bind fun y4 => (if y4 = true then some 23 else some 0)) else ((ez F (cv1.rules.take i.toNat) n).bind fun y6 => (if y6 = true then some 6 else some 6))) else none) else none)
theorem gc (bs : List Nat) (H : Heap) (F : Nat) (ca0 : Nat) (ca1 : Nat) (cv0 : Desg) (cv1 : Attr) (hca0 : H[ca0]? = some (.cells [.str cv0.name, .list (cv0.inputs.map encPort), .list (cv0.elements.map encElem), .list (cv0.nodes.map encNode), .list (cv0.rules.map encRul), .list (cv0.outs.map encOutp), .list (cv0.attrs.map encAttr)])) (hca1 : H[ca1]? = some (.cells [.int .i64 cv1.kind, .list (cv1.rules.map (V.int .i64))])) (i : Int) (n : Int) (R : Int) (hR0 : be F cv0 cv1 i n = some R) : callw X bs 121 [.int .i64 i, .int .i64 n, .ptr ca0 0, .ptr ca1 0] H = some (.int .i64 R, H) := by
 refine yw2 (rs := [.tmp 6]) (N := 24) (fn := Tryz.f121) CS ML ?_
 have hca0_l := aa hca0
 have hca0_a := get_app' hca0
 have hca1_l := aa hca1
 have hca1_a := get_app' hca1
 have hR := Kp.mk hR0
 clear hR0
 rw [be] at hR
 obtain ⟨g1, hR⟩ := grdE hR
 have g1_w := ae g1
 obtain ⟨g2, hR⟩ := grdE hR
 obtain ⟨g2_q0, g2_a, g2_b⟩ := g2
 have g2_s := cutV (P := Tryz.prog) (V.int .i64) Tryz.underlying30 sz3 (fun _ => rfl) cv1.rules none (some (.int .i64 i)) 0 i.toNat rfl (boundI g2_q0) g2_a g2_b
 simp only [List.drop_zero, List.take_length] at g2_s
 rcases iteE hR with ⟨c3, hR⟩ | ⟨c3, hR⟩
 ·obtain ⟨c3_1, c3_2⟩ := dT c3
  obtain ⟨y4, y4_e, hR⟩ := bindE hR
  have y4_k := fun bs H => jS bs H F (cv1.rules.take i.toNat) n y4 y4_e
  rcases iteE hR with ⟨c5, hR⟩ | ⟨c5, hR⟩
  ·obtain rfl := someE hR
   try refine zu ?_
   (refine yw1 (id := 1) oz49 [(6, 10), (6, 11)] ?_)
   exact zv
  ·obtain rfl := someE hR
   try refine zu ?_
   (refine yw1 (id := 1) oz49 [(6, 10), (6, 11)] ?_)
   exact zv
 ·obtain ⟨y6, y6_e, hR⟩ := bindE hR
  have y6_k := fun bs H => jS bs H F (cv1.rules.take i.toNat) n y6 y6_e
  rcases iteE hR with ⟨c7, hR⟩ | ⟨c7, hR⟩
  ·obtain rfl := someE hR
   try refine zu ?_
   (refine yw1 (id := 1) oz49 [(6, 10), (6, 11)] ?_)
   exact zv
  ·obtain rfl := someE hR
   try refine zu ?_
   (refine yw1 (id := 1) oz49 [(6, 10), (6, 11)] ?_)
   exact zv
def bP (F : Nat) (l : List Int) (cv0 : Desg) (cv1 : Attr) : Nat → Nat → Option (Oc (Nat × Int) (Unit))
 | 0, _ => none
 | k + 1, s1 => (if (decide ((s1 : Int) < (l.length : Int))) = true then ((l[s1]?).bind fun x4 => ((be F cv0 cv1 (s1 : Int) x4).bind fun y5 => (if (decide (¬y5 = 0)) = true then some (.a (s1, y5)) else (if inI ((s1 : Int) + 1) then bP F l cv0 cv1 k (s1 + 1) else none)))) else some (.b ()))
theorem oT (bs : List Nat) (H : Heap) (F : Nat) (ca0 : Nat) (ca1 : Nat) (cv0 : Desg) (cv1 : Attr) (hca0 : H[ca0]? = some (.cells [.str cv0.name, .list (cv0.inputs.map encPort), .list (cv0.elements.map encElem), .list (cv0.nodes.map encNode), .list (cv0.rules.map encRul), .list (cv0.outs.map encOutp), .list (cv0.attrs.map encAttr)])) (hca1 : H[ca1]? = some (.cells [.int .i64 cv1.kind, .list (cv1.rules.map (V.int .i64))])) (l : List Int) : ∀ k s r ρ H', (∃ J2, H' = H ++ J2 ∧ ρ 1 = .func 121 [.ptr ca0 0, .ptr ca1 0] ∧ ρ 9 = .list (l.map (V.int .i64)) ∧ ρ 10 = .int .i64 (l.length : Int) ∧ ρ 11 = .int .i64 (s : Int)) → bP F l cv0 cv1 k s = some r → Lp X ⟨25, H.length :: bs⟩ (loopAt Tryz.f70 0) ρ H' ((fun r ex ρ H' => match r with | .a r => ∃ J2, H' = H ++ J2 ∧ ex = .ret ∧ ρ 4 = .int .i64 (r.1 : Int) ∧ ρ 5 = .int .i64 r.2 | .b r => ∃ J2, H' = H ++ J2 ∧ ex = .exit 0) r) := by
 refine ac (fun _ => rfl) ?_
 rintro k s1 r ρ H' ⟨J2, hH, h1, h9, h10, h11⟩ hR
 skip
 subst hH
 rw [bP] at hR
 have hca0_l := aa hca0
 have hca0_a := get_app' hca0
 have hca1_l := aa hca1
 have hca1_a := get_app' hca1
 conv => arg 3; whnf
 try refine zw ?_
 rcases iteE hR with ⟨c3, hR⟩ | ⟨c3, hR⟩
 ·obtain ⟨x4, x4_e, hR⟩ := bindE hR
  obtain ⟨y5, y5_e, hR⟩ := bindE hR
  have y5_k := fun (bs : List Nat) (l : Heap) => gc bs (H ++ l) F ca0 ca1 cv0 cv1 gt gt (s1 : Int) x4 y5 y5_e
  have y5_k0 := fun (bs : List Nat) => gc bs H F ca0 ca1 cv0 cv1 gt gt (s1 : Int) x4 y5 y5_e
  try refine zw ?_
  clear y5_k y5_k0
  rcases iteE hR with ⟨c6, hR⟩ | ⟨c6, hR⟩
  ·obtain rfl := someE hR
   refine zu ?_
   exact ⟨_, hq, rfl, sl, sl⟩
  ·obtain ⟨g7, hR⟩ := grdE hR
   have g7_w := ae g7
   refine zu ?_
   exact ⟨(s1 + 1), ⟨_, hq, sl, sl, sl, sl⟩, hR.out⟩
 ·obtain rfl := someE hR
  refine zu ?_
  exact ⟨_, hq, rfl⟩
def eo (F : Nat) (l : List Int) (cv0 : Desg) (cv1 : Attr) : List Int → Nat → Unit → Option (Oc (Nat × Int) (Unit))
 | [], s1, _ => some (.b ())
 | x_ :: r_, s1, _ => ((be F cv0 cv1 (s1 : Int) x_).bind fun y5 => (if (decide (¬y5 = 0)) = true then some (.a (s1, y5)) else eo F l cv0 cv1 r_ (s1 + 1) ()))
theorem jl (F : Nat) (l : List Int) (cv0 : Desg) (cv1 : Attr) (hl_ : l.length ≤ 1000000) : ∀ r_ i_ k_ (o_ : Unit), l.drop i_ = r_ → r_.length < k_ → bP F l cv0 cv1 k_ i_ = eo F l cv0 cv1 r_ i_ o_
 | _, _, 0, _, _, hk => absurd hk (Nat.not_lt_zero _)
 | [], i_, k_ + 1, _, hd, _ => by rw [bP, eo]; simp only [aj hd, Bool.false_eq_true, if_false]
 | x_ :: r_, i_, k_ + 1, _, hd, hk => by
  have ih := jl F l cv0 cv1 hl_ r_ (i_ + 1) k_ () (ah hd) (Nat.lt_of_succ_lt_succ hk)
  rw [bP, eo]; simp only [az hd, ap hd, if_pos (aC hd hl_), Option.bind_some, if_true, ih]
def fU (F : Nat) (cv0 : Desg) (cv1 : Attr) (l : List Int) : Option (Int × Int) := ((bP F l cv0 cv1 F 0).bind fun o8 => match o8 with | .a o9 => some ((o9.1 : Int), o9.2) | .b o11 => some (0, 0))
theorem qY (bs : List Nat) (H : Heap) (F : Nat) (ca0 : Nat) (ca1 : Nat) (cv0 : Desg) (cv1 : Attr) (hca0 : H[ca0]? = some (.cells [.str cv0.name, .list (cv0.inputs.map encPort), .list (cv0.elements.map encElem), .list (cv0.nodes.map encNode), .list (cv0.rules.map encRul), .list (cv0.outs.map encOutp), .list (cv0.attrs.map encAttr)])) (hca1 : H[ca1]? = some (.cells [.int .i64 cv1.kind, .list (cv1.rules.map (V.int .i64))])) (l : List Int) (R : Int × Int) (hR0 : fU F cv0 cv1 l = some R) : callw X bs 70 [.list (l.map (V.int .i64)), .func 121 [.ptr ca0 0, .ptr ca1 0]] H = some (.tuple [.int .i64 R.1, .int .i64 R.2], H) := by
 refine yw2 (rs := [.tmp 4, .tmp 5]) (N := 25) (fn := Tryz.f70) xk70 xf70 ?_
 have hca0_l := aa hca0
 have hca0_a := get_app' hca0
 have hca1_l := aa hca1
 have hca1_a := get_app' hca1
 have hR := Kp.mk hR0
 clear hR0
 rw [fU] at hR
 obtain ⟨o8, o8_e, hR⟩ := bindE hR
 refine zu ?_
 refine ab (af (c := (loopAt Tryz.f70 0)) rfl (oT _ H F ca0 ca1 cv0 cv1 hca0 hca1 l _ 0 o8 _ _ ⟨[], by simp, sl, sl, sl, sl⟩ o8_e)) ?_
 rcases o8 with o9 | o11
 ·rintro ex ρ' H' ⟨J10, rfl, rfl, q4_o9, q5_o9⟩ hf
  clear hf
  obtain rfl := someE hR
  exact zv
 ·rintro ex ρ' H' ⟨J12, rfl, rfl⟩ hf
  clear hf
  obtain rfl := someE hR
  exact zv
def bu (F : Nat) (cv0 : Desg) (a0_ : Int) (a : Attr) : Option (Int) := ((fU F cv0 a a.rules).bind fun y1 => (if (decide ((0 : Int) ≤ a.kind) && decide (a.kind ≤ 3)) = true then (if (decide ((1 : Int) ≤ (a.rules.length : Int)) && decide ((a.rules.length : Int) ≤ 16)) = true then (if (decide (¬y1.2 = 0)) = true then some y1.2 else some 0) else some 10) else (if (decide ((1 : Int) ≤ (a.rules.length : Int)) && decide ((a.rules.length : Int) ≤ 16)) = true then some 15 else some 15)))
theorem gF (bs : List Nat) (H : Heap) (F : Nat) (ca0 : Nat) (cv0 : Desg) (hca0 : H[ca0]? = some (.cells [.str cv0.name, .list (cv0.inputs.map encPort), .list (cv0.elements.map encElem), .list (cv0.nodes.map encNode), .list (cv0.rules.map encRul), .list (cv0.outs.map encOutp), .list (cv0.attrs.map encAttr)])) (a0_ : Int) (a : Attr) (R : Int) (hR0 : bu F cv0 a0_ a = some R) : callw X bs 120 [.int .i64 a0_, (encAttr a), .ptr ca0 0] H = some (.int .i64 R, H) := by
 refine yw2 (rs := [.tmp 5]) (N := 27) (fn := Tryz.f120) CR MK ?_
 have hca0_l := aa hca0
 have hca0_a := get_app' hca0
 have hR := Kp.mk hR0
 clear hR0
 rw [bu] at hR
 (try simp only [cellsAttr, encAttr, encInts])
 obtain ⟨y1, y1_e, hR⟩ := bindE hR
 have y1_k := fun (bs : List Nat) (J : Heap) => qY bs (H ++ .cells [.int .i64 a.kind, .list (a.rules.map (V.int .i64))] :: J) F ca0 H.length cv0 a gt gt a.rules y1 y1_e
 rcases iteE hR with ⟨c2, hR⟩ | ⟨c2, hR⟩
 ·obtain ⟨c2_1, c2_2⟩ := dT c2
  rcases iteE hR with ⟨c3, hR⟩ | ⟨c3, hR⟩
  ·obtain ⟨c3_1, c3_2⟩ := dT c3
   rcases iteE hR with ⟨c4, hR⟩ | ⟨c4, hR⟩
   ·have c4_p := of_decide_eq_true c4
    obtain rfl := someE hR
    try refine zu ?_
    (refine yw1 (id := 2) oz39 oz21 ?_)
    exact zv
   ·have c4_p := Decidable.not_not.1 (of_decide_eq_false c4)
    obtain rfl := someE hR
    try refine zu ?_
    (refine yw1 (id := 2) oz39 oz21 ?_)
    exact zv
  ·obtain rfl := someE hR
   try refine zu ?_
   (refine yw1 (id := 2) oz39 oz21 ?_)
   exact zv
 ·rcases iteE hR with ⟨c5, hR⟩ | ⟨c5, hR⟩
  ·obtain ⟨c5_1, c5_2⟩ := dT c5
   obtain rfl := someE hR
   try refine zu ?_
   (refine yw1 (id := 2) oz39 oz21 ?_)
   exact zv
  ·obtain rfl := someE hR
   try refine zu ?_
   (refine yw1 (id := 2) oz39 oz21 ?_)
   exact zv
def bQ (F : Nat) (l : List Attr) (cv0 : Desg) : Nat → Nat → Option (Oc (Nat × Int) (Unit))
 | 0, _ => none
 | k + 1, s1 => (if (decide ((s1 : Int) < (l.length : Int))) = true then ((l[s1]?).bind fun x4 => ((bu F cv0 (s1 : Int) x4).bind fun y5 => (if (decide (¬y5 = 0)) = true then some (.a (s1, y5)) else (if inI ((s1 : Int) + 1) then bQ F l cv0 k (s1 + 1) else none)))) else some (.b ()))
theorem oU (bs : List Nat) (H : Heap) (F : Nat) (ca0 : Nat) (cv0 : Desg) (hca0 : H[ca0]? = some (.cells [.str cv0.name, .list (cv0.inputs.map encPort), .list (cv0.elements.map encElem), .list (cv0.nodes.map encNode), .list (cv0.rules.map encRul), .list (cv0.outs.map encOutp), .list (cv0.attrs.map encAttr)])) (l : List Attr) : ∀ k s r ρ H', (∃ J2, H' = H ++ J2 ∧ ρ 1 = .func 120 [.ptr ca0 0] ∧ ρ 9 = .list (l.map encAttr) ∧ ρ 10 = .int .i64 (l.length : Int) ∧ ρ 11 = .int .i64 (s : Int)) → bQ F l cv0 k s = some r → Lp X ⟨25, H.length :: bs⟩ (loopAt Tryz.f119 0) ρ H' ((fun r ex ρ H' => match r with | .a r => ∃ J2, H' = H ++ J2 ∧ ex = .ret ∧ ρ 4 = .int .i64 (r.1 : Int) ∧ ρ 5 = .int .i64 r.2 | .b r => ∃ J2, H' = H ++ J2 ∧ ex = .exit 0) r) := by
 refine ac (fun _ => rfl) ?_
 rintro k s1 r ρ H' ⟨J2, hH, h1, h9, h10, h11⟩ hR
 skip
 subst hH
 rw [bQ] at hR
 have hca0_l := aa hca0
 have hca0_a := get_app' hca0
 conv => arg 3; whnf
 try refine zw ?_
 rcases iteE hR with ⟨c3, hR⟩ | ⟨c3, hR⟩
 ·obtain ⟨x4, x4_e, hR⟩ := bindE hR
  obtain ⟨y5, y5_e, hR⟩ := bindE hR
  have y5_k := fun (bs : List Nat) (l : Heap) => gF bs (H ++ l) F ca0 cv0 gt (s1 : Int) x4 y5 y5_e
  (try simp only [cellsAttr, encAttr, encInts] at y5_k)
  have y5_k0 := fun (bs : List Nat) => gF bs H F ca0 cv0 gt (s1 : Int) x4 y5 y5_e
  (try simp only [cellsAttr, encAttr, encInts] at y5_k0)
  try refine zw ?_
  clear y5_k y5_k0
  rcases iteE hR with ⟨c6, hR⟩ | ⟨c6, hR⟩
  ·obtain rfl := someE hR
   refine zu ?_
   exact ⟨_, hq, rfl, sl, sl⟩
  ·obtain ⟨g7, hR⟩ := grdE hR
   have g7_w := ae g7
   refine zu ?_
   exact ⟨(s1 + 1), ⟨_, hq, sl, sl, sl, sl⟩, hR.out⟩
 ·obtain rfl := someE hR
  refine zu ?_
  exact ⟨_, hq, rfl⟩
def ep (F : Nat) (l : List Attr) (cv0 : Desg) : List Attr → Nat → Unit → Option (Oc (Nat × Int) (Unit))
 | [], s1, _ => some (.b ())
 | x_ :: r_, s1, _ => ((bu F cv0 (s1 : Int) x_).bind fun y5 => (if (decide (¬y5 = 0)) = true then some (.a (s1, y5)) else ep F l cv0 r_ (s1 + 1) ()))
theorem jm (F : Nat) (l : List Attr) (cv0 : Desg) (hl_ : l.length ≤ 1000000) : ∀ r_ i_ k_ (o_ : Unit), l.drop i_ = r_ → r_.length < k_ → bQ F l cv0 k_ i_ = ep F l cv0 r_ i_ o_
 | _, _, 0, _, _, hk => absurd hk (Nat.not_lt_zero _)
 | [], i_, k_ + 1, _, hd, _ => by rw [bQ, ep]; simp only [aj hd, Bool.false_eq_true, if_false]
 | x_ :: r_, i_, k_ + 1, _, hd, hk => by
  have ih := jm F l cv0 hl_ r_ (i_ + 1) k_ () (ah hd) (Nat.lt_of_succ_lt_succ hk)
  rw [bQ, ep]; simp only [az hd, ap hd, if_pos (aC hd hl_), Option.bind_some, if_true, ih]
def fV (F : Nat) (cv0 : Desg) (l : List Attr) : Option (Int × Int) := ((bQ F l cv0 F 0).bind fun o8 => match o8 with | .a o9 => some ((o9.1 : Int), o9.2) | .b o11 => some (0, 0))
theorem kY (bs : List Nat) (H : Heap) (F : Nat) (ca0 : Nat) (cv0 : Desg) (hca0 : H[ca0]? = some (.cells [.str cv0.name, .list (cv0.inputs.map encPort), .list (cv0.elements.map encElem), .list (cv0.nodes.map encNode), .list (cv0.rules.map encRul), .list (cv0.outs.map encOutp), .list (cv0.attrs.map encAttr)])) (l : List Attr) (R : Int × Int) (hR0 : fV F cv0 l = some R) : callw X bs 119 [.list (l.map encAttr), .func 120 [.ptr ca0 0]] H = some (.tuple [.int .i64 R.1, .int .i64 R.2], H) := by
 refine yw2 (rs := [.tmp 4, .tmp 5]) (N := 25) (fn := Tryz.f119) CQ MJ ?_
 have hca0_l := aa hca0
 have hca0_a := get_app' hca0
 have hR := Kp.mk hR0
 clear hR0
 rw [fV] at hR
 obtain ⟨o8, o8_e, hR⟩ := bindE hR
 refine zu ?_
 refine ab (af (c := (loopAt Tryz.f119 0)) rfl (oU _ H F ca0 cv0 hca0 l _ 0 o8 _ _ ⟨[], by simp, sl, sl, sl, sl⟩ o8_e)) ?_
 rcases o8 with o9 | o11
 ·rintro ex ρ' H' ⟨J10, rfl, rfl, q4_o9, q5_o9⟩ hf
  clear hf
  obtain rfl := someE hR
  exact zv
 ·rintro ex ρ' H' ⟨J12, rfl, rfl⟩ hf
  clear hf
  obtain rfl := someE hR
  exact zv
def eJ (F : Nat) (cv0 : Desg) : Option (Int × Int) := ((fV F cv0 cv0.attrs).bind fun y1 => some (y1.1, y1.2))
theorem lK (bs : List Nat) (H : Heap) (F : Nat) (ca0 : Nat) (cv0 : Desg) (hca0 : H[ca0]? = some (.cells [.str cv0.name, .list (cv0.inputs.map encPort), .list (cv0.elements.map encElem), .list (cv0.nodes.map encNode), .list (cv0.rules.map encRul), .list (cv0.outs.map encOutp), .list (cv0.attrs.map encAttr)])) (R : Int × Int) (hR0 : eJ F cv0 = some R) : callw X bs 118 [.ptr ca0 0] H = some (.tuple [.int .i64 R.1, .int .i64 R.2], H) := by
 refine yw2 (rs := [.tmp 1, .tmp 2]) (N := 9) (fn := Tryz.f118) CP MI ?_
 have hca0_l := aa hca0
 have hca0_a := get_app' hca0
 have hR := Kp.mk hR0
 clear hR0
 rw [eJ] at hR
 obtain ⟨y1, y1_e, hR⟩ := bindE hR
 have y1_k := fun (bs : List Nat) (l : Heap) => kY bs (H ++ l) F ca0 cv0 gt cv0.attrs y1 y1_e
 have y1_k0 := fun (bs : List Nat) => kY bs H F ca0 cv0 gt cv0.attrs y1 y1_e
 obtain rfl := someE hR
 exact zv
def dg (F : Nat) (d : Desg) : Option (Int × Int) := ((eQ F d).bind fun y4 => (if (decide (¬y4.2 = 0)) = true then some (y4.1, y4.2) else ((eR F d [] []).bind fun y6 => (if (decide (¬y6.2.1 = 0)) = true then some (y6.1, y6.2.1) else ((eS F d).bind fun y8 => (if (decide (¬y8.2 = 0)) = true then some (y8.1, y8.2) else ((eT F d y6.2.2.1).bind fun y10 => (if (decide (¬y10.2.1 = 0)) = true then some (y10.1, y10.2.1) else ((eU F d).bind fun y12 => (if (decide (¬y12.2 = 0)) = true then some (y12.1, y12.2) else ((eV F d).bind fun y14 => (if (decide (¬y14.2 = 0)) = true then some (y14.1, y14.2) else ((eX F d []).bind fun y16 => (if (decide (¬y16.2.1 = 0)) = true then some (y16.1, y16.2.1) else ((eY F d).bind fun y18 => (if (decide (¬y18.2 = 0)) = true then some (y18.1, y18.2) else ((eZ F d []).bind fun y20 => (if (decide (¬y20.2.1 = 0)) = true then some (y20.1, y20.2.1) else ((eI F d).bind fun y22 => (if (decide (¬y22.2 = 0)) = true then some (y22.1, y22.2) else ((eJ F d).bind fun y24 => (if (decide (¬y24.2 = 0)) = true then some (y24.1, y24.2) else some (0, 0)))))))))))))))))))))))
theorem nu (bs : List Nat) (H : Heap) (F : Nat) (d : Desg) (R : Int × Int) (hR0 : dg F d = some R) : callw X bs 36 [(encDesg d)] H = some (.tuple [.int .i64 R.1, .int .i64 R.2], H) := by
 refine yw2 (rs := [.tmp 2, .tmp 3]) (N := 43) (fn := Tryz.f36) xk36 xf36 ?_
 have hR := Kp.mk hR0
 clear hR0
 rw [dg] at hR
 (try simp only [cellsDesg, encDesg, encInts])
 refine zu ?_
 refine cS ?_
 obtain ⟨y4, y4_e, hR⟩ := bindE hR
 have y4_k := fun (bs : List Nat) (J : Heap) => mo bs (H ++ .cells [.str d.name, .list (d.inputs.map encPort), .list (d.elements.map encElem), .list (d.nodes.map encNode), .list (d.rules.map encRul), .list (d.outs.map encOutp), .list (d.attrs.map encAttr)] :: J) F H.length d gt y4 y4_e
 try refine zw ?_
 clear y4_k
 rcases iteE hR with ⟨c5, hR⟩ | ⟨c5, hR⟩
 ·obtain rfl := someE hR
  exact zv
 ·have wl1 : IntKind.i64.wrap 1 = 1 := by rw [ba] <;> omega
  refine zu ?_
  refine cS ?_
  obtain ⟨y6, y6_e, hR⟩ := bindE hR
  have y6_k := fun (bs : List Nat) (u0 u1 : HObj) (J : Heap) => by
   have h_ := mq bs (H ++ .cells [.str d.name, .list (d.inputs.map encPort), .list (d.elements.map encElem), .list (d.nodes.map encNode), .list (d.rules.map encRul), .list (d.outs.map encOutp), .list (d.attrs.map encAttr)] :: .map [] :: .cells [.map (H.length + 1)] :: .map [] :: u0 :: u1 :: .cells [.map (H.length + 3)] :: J) F H.length (H.length + 2) (H.length + 1) (H.length + 6) (H.length + 3) d [] [] gt gt ln gt ln om om om om om om om y6 y6_e
   (try simp only [ax, am, aP, aK, aL, aA, List.set_cons_succ, List.set_cons_zero, List.set_set, ai] at h_)
   exact h_
  try refine zw ?_
  clear y6_k
  rcases iteE hR with ⟨c7, hR⟩ | ⟨c7, hR⟩
  ·obtain rfl := someE hR
   exact zv
  ·have wl2 : IntKind.i64.wrap 2 = 2 := by rw [ba] <;> omega
   refine zu ?_
   refine cS ?_
   obtain ⟨y8, y8_e, hR⟩ := bindE hR
   have y8_k := fun (bs : List Nat) (J : Heap) => mr bs (H ++ .cells [.str d.name, .list (d.inputs.map encPort), .list (d.elements.map encElem), .list (d.nodes.map encNode), .list (d.rules.map encRul), .list (d.outs.map encOutp), .list (d.attrs.map encAttr)] :: J) F H.length d gt y8 y8_e
   try refine zw ?_
   clear y8_k
   rcases iteE hR with ⟨c9, hR⟩ | ⟨c9, hR⟩
   ·obtain rfl := someE hR
    exact zv
   ·have wl3 : IntKind.i64.wrap 3 = 3 := by rw [ba] <;> omega
    refine zu ?_
    refine cS ?_
    obtain ⟨y10, y10_e, hR⟩ := bindE hR
    have y10_k := fun (bs : List Nat) (J : Heap) => by
     have h_ := mt bs (H ++ .cells [.str d.name, .list (d.inputs.map encPort), .list (d.elements.map encElem), .list (d.nodes.map encNode), .list (d.rules.map encRul), .list (d.outs.map encOutp), .list (d.attrs.map encAttr)] :: .map (namesM y6.2.2.1) :: .cells [.map (H.length + 1)] :: J) F H.length (H.length + 2) (H.length + 1) d y6.2.2.1 gt gt ln om om y10 y10_e
     (try simp only [ax, am, aP, aK, aL, aA, List.set_cons_succ, List.set_cons_zero, List.set_set, ai] at h_)
     exact h_
    try refine zw ?_
    clear y10_k
    rcases iteE hR with ⟨c11, hR⟩ | ⟨c11, hR⟩
    ·obtain rfl := someE hR
     exact zv
    ·have wl4 : IntKind.i64.wrap 4 = 4 := by rw [ba] <;> omega
     refine zu ?_
     refine cS ?_
     obtain ⟨y12, y12_e, hR⟩ := bindE hR
     have y12_k := fun (bs : List Nat) (J : Heap) => mu bs (H ++ .cells [.str d.name, .list (d.inputs.map encPort), .list (d.elements.map encElem), .list (d.nodes.map encNode), .list (d.rules.map encRul), .list (d.outs.map encOutp), .list (d.attrs.map encAttr)] :: J) F H.length d gt y12 y12_e
     try refine zw ?_
     clear y12_k
     rcases iteE hR with ⟨c13, hR⟩ | ⟨c13, hR⟩
     ·obtain rfl := someE hR
      exact zv
     ·have wl5 : IntKind.i64.wrap 5 = 5 := by rw [ba] <;> omega
      refine zu ?_
      refine cS ?_
      obtain ⟨y14, y14_e, hR⟩ := bindE hR
      have y14_k := fun (bs : List Nat) (J : Heap) => mv bs (H ++ .cells [.str d.name, .list (d.inputs.map encPort), .list (d.elements.map encElem), .list (d.nodes.map encNode), .list (d.rules.map encRul), .list (d.outs.map encOutp), .list (d.attrs.map encAttr)] :: J) F H.length d gt y14 y14_e
      try refine zw ?_
      clear y14_k
      rcases iteE hR with ⟨c15, hR⟩ | ⟨c15, hR⟩
      ·obtain rfl := someE hR
       exact zv
      ·have wl6 : IntKind.i64.wrap 6 = 6 := by rw [ba] <;> omega
       refine zu ?_
       refine cS ?_
       obtain ⟨y16, y16_e, hR⟩ := bindE hR
       have y16_k := fun (bs : List Nat) (u0 u1 u2 u3 u4 : HObj) (J : Heap) => by
        have h_ := mw bs (H ++ .cells [.str d.name, .list (d.inputs.map encPort), .list (d.elements.map encElem), .list (d.nodes.map encNode), .list (d.rules.map encRul), .list (d.outs.map encOutp), .list (d.attrs.map encAttr)] :: u0 :: u1 :: u2 :: .map [] :: u3 :: u4 :: .cells [.map (H.length + 4)] :: J) F H.length (H.length + 7) (H.length + 4) d [] gt gt ln om om y16 y16_e
        (try simp only [ax, am, aP, aK, aL, aA, List.set_cons_succ, List.set_cons_zero, List.set_set, ai] at h_)
        exact h_
       try refine zw ?_
       clear y16_k
       rcases iteE hR with ⟨c17, hR⟩ | ⟨c17, hR⟩
       ·obtain rfl := someE hR
        exact zv
       ·have wl7 : IntKind.i64.wrap 7 = 7 := by rw [ba] <;> omega
        refine zu ?_
        refine cS ?_
        obtain ⟨y18, y18_e, hR⟩ := bindE hR
        have y18_k := fun (bs : List Nat) (J : Heap) => my bs (H ++ .cells [.str d.name, .list (d.inputs.map encPort), .list (d.elements.map encElem), .list (d.nodes.map encNode), .list (d.rules.map encRul), .list (d.outs.map encOutp), .list (d.attrs.map encAttr)] :: J) F H.length d gt y18 y18_e
        try refine zw ?_
        clear y18_k
        rcases iteE hR with ⟨c19, hR⟩ | ⟨c19, hR⟩
        ·obtain rfl := someE hR
         exact zv
        ·have wl8 : IntKind.i64.wrap 8 = 8 := by rw [ba] <;> omega
         refine zu ?_
         refine cS ?_
         obtain ⟨y20, y20_e, hR⟩ := bindE hR
         have y20_k := fun (bs : List Nat) (u0 u1 u2 u3 u4 u5 : HObj) (J : Heap) => by
          have h_ := mz bs (H ++ .cells [.str d.name, .list (d.inputs.map encPort), .list (d.elements.map encElem), .list (d.nodes.map encNode), .list (d.rules.map encRul), .list (d.outs.map encOutp), .list (d.attrs.map encAttr)] :: u0 :: u1 :: u2 :: u3 :: .map [] :: u4 :: u5 :: .cells [.map (H.length + 5)] :: J) F H.length (H.length + 8) (H.length + 5) d [] gt gt ln om om y20 y20_e
          (try simp only [ax, am, aP, aK, aL, aA, List.set_cons_succ, List.set_cons_zero, List.set_set, ai] at h_)
          exact h_
         try refine zw ?_
         clear y20_k
         rcases iteE hR with ⟨c21, hR⟩ | ⟨c21, hR⟩
         ·obtain rfl := someE hR
          exact zv
         ·have wl9 : IntKind.i64.wrap 9 = 9 := by rw [ba] <;> omega
          refine zu ?_
          refine cS ?_
          obtain ⟨y22, y22_e, hR⟩ := bindE hR
          have y22_k := fun (bs : List Nat) (J : Heap) => lJ bs (H ++ .cells [.str d.name, .list (d.inputs.map encPort), .list (d.elements.map encElem), .list (d.nodes.map encNode), .list (d.rules.map encRul), .list (d.outs.map encOutp), .list (d.attrs.map encAttr)] :: J) F H.length d gt y22 y22_e
          try refine zw ?_
          clear y22_k
          rcases iteE hR with ⟨c23, hR⟩ | ⟨c23, hR⟩
          ·obtain rfl := someE hR
           exact zv
          ·have wl10 : IntKind.i64.wrap 10 = 10 := by rw [ba] <;> omega
           refine zu ?_
           refine cS ?_
           obtain ⟨y24, y24_e, hR⟩ := bindE hR
           have y24_k := fun (bs : List Nat) (J : Heap) => lK bs (H ++ .cells [.str d.name, .list (d.inputs.map encPort), .list (d.elements.map encElem), .list (d.nodes.map encNode), .list (d.rules.map encRul), .list (d.outs.map encOutp), .list (d.attrs.map encAttr)] :: J) F H.length d gt y24 y24_e
           try refine zw ?_
           clear y24_k
           rcases iteE hR with ⟨c25, hR⟩ | ⟨c25, hR⟩
           ·obtain rfl := someE hR
            exact zv
           ·have wl11 : IntKind.i64.wrap 11 = 11 := by rw [ba] <;> omega
            refine zu ?_
            refine cS ?_
            obtain rfl := someE hR
            exact zv
def bZ (F : Nat) (d : Desg) : Option (Desg × Int) := ((dg F d).bind fun y1 => some (d, y1.2))
theorem jG (bs : List Nat) (H : Heap) (F : Nat) (d : Desg) (R : Desg × Int) (hR0 : bZ F d = some R) : callw X bs 58 [(encDesg d)] H = some (.tuple [(encDesg R.1), .int .i64 R.2], H) := by
 refine yw2 (rs := [.cell 2 114, .tmp 3]) (N := 14) (fn := Tryz.f58) xk58 xf58 ?_
 have hR := Kp.mk hR0
 clear hR0
 rw [bZ] at hR
 (try simp only [cellsDesg, encDesg, encInts])
 obtain ⟨y1, y1_e, hR⟩ := bindE hR
 have y1_k := fun bs H => nu bs H F d y1 y1_e
 (try simp only [cellsDesg, encDesg, encInts] at y1_k)
 obtain rfl := someE hR
 exact zv
def jH (F : Nat) (cv0 : ByteArray) (r_ : Rul) : Option (Bool) := some (decide (r_.name = cv0))
def jn (F : Nat) (s_ : List Rul) (cv0 : ByteArray) : Nat → Nat → Option (Oc (Nat) (Unit))
 | 0, _ => none
 | k + 1, s1 => (if (decide ((s1 : Int) < (s_.length : Int))) = true then ((s_[s1]?).bind fun x4 => ((jH F cv0 x4).bind fun y5 => (if y5 = true then some (.a s1) else (if inI ((s1 : Int) + 1) then jn F s_ cv0 k (s1 + 1) else none)))) else some (.b ()))
def mH (F : Nat) (s_ : List Rul) (cv0 : ByteArray) : List Rul → Nat → Unit → Option (Oc (Nat) (Unit))
 | [], s1, _ => some (.b ())
 | x_ :: r_, s1, _ => ((jH F cv0 x_).bind fun y5 => (if y5 = true then some (.a s1) else mH F s_ cv0 r_ (s1 + 1) ()))
def qj (F : Nat) (cv0 : ByteArray) (s_ : List Rul) : Option (Int) := ((jn F s_ cv0 F 0).bind fun o8 => match o8 with | .a o9 => some (o9 : Int) | .b o11 => some (-1))
def qk (F : Nat) (d : Desg) (name : ByteArray) : Option (Int × Int) := ((bZ F d).bind fun y1 => (if (decide (¬y1.2 = 0)) = true then some (0, y1.2) else ((qj F name d.rules).bind fun y3 => (if (decide ((0 : Int) < y3)) = true then (if (decide ((0 : Int) ≤ y3)) = true then some (y3, 0) else some (y3, 6)) else (if (decide ((0 : Int) ≤ y3)) = true then some (0, 0) else some (0, 6))))))
end
end Go.E
namespace Go.E
theorem yg (s t : ByteArray) : ∀ ns : List ByteArray, hasName s (addName t ns) = (decide (s = t) || hasName s ns)
 | [] => by simp [addName, hasName]
 | u :: r => by
  simp only [addName]
  by_cases h : t = u
  ·subst h
   simp [hasName]
  ·rw [if_neg h]
   simp only [hasName, yg s t r]
   cases decide (s = u) <;> cases decide (s = t) <;> rfl
theorem sW {α : Type} (nm : α → ByteArray) (g : Nat → α → List ByteArray → Int × List ByteArray) (e : α → Int) (before : ByteArray → Bool)
  (hg : ∀ i x ns, g i x ns = (firstL [nameErr ns (nm x), e x], addName (nm x) ns)) (full : List α) (f : Nat → α → Int)
  (hf : ∀ i x, full[i]? = some x → f i x = if isNameS (nm x) = false then 4 else if ((full.take i).any (fun q => decide (nm q = nm x)) || before (nm x)) = true then 5 else e x) :
  ∀ (rest : List α) (i : Nat) (ns : List ByteArray), full.drop i = rest → (∀ s, hasName s ns = ((full.take i).any (fun q => decide (nm q = s)) || before s)) →
   (eachL g i rest ns).1 = eachP f i rest ∧ ((eachP f i rest).2 = 0 → ∀ s, hasName s (eachL g i rest ns).2 = (full.any (fun q => decide (nm q = s)) || before s))
 | [], i, ns, hd, hn => by
  refine ⟨rfl, fun _ s => ?_⟩
  have : full.take i = full := List.take_of_length_le (by simpa using hd)
  simp only [eachL, hn, this]
 | x :: r, i, ns, hd, hn => by
  have hget : full[i]? = some x := by
   have := congrArg List.head? hd
   simpa [List.head?_drop] using this
  have he : (g i x ns).1 = f i x := by
   rw [hg, hf i x hget]
   simp only [firstL, nameErr, hn]
   cases h1 : isNameS (nm x) <;> cases h2 : ((full.take i).any (fun q => decide (nm q = nm x)) || before (nm x)) <;> simp <;> exact fun h => h.symm
  have hs : (g i x ns).2 = addName (nm x) ns := by rw [hg]
  simp only [eachL, eachP, he, hs]
  by_cases h0 : f i x = 0
  ·rw [if_neg (by simpa using h0), if_neg (by simpa using h0)]
   refine sW nm g e before hg full f hf r (i + 1) _ ?_ (fun s => ?_)
   ·rw [← List.drop_drop, hd]; rfl
   ·rw [yg, hn, List.take_add_one, hget]
    simp only [Option.toList_some, List.any_append, List.any_cons, List.any_nil, Bool.or_false]
    have : decide (s = nm x) = decide (nm x = s) := by simp only [decide_eq_decide]; exact eq_comm
    rw [this]
    cases decide (nm x = s) <;> cases (full.take i).any (fun q => decide (nm q = s)) <;> rfl
  ·rw [if_pos h0, if_pos h0]
   exact ⟨rfl, fun h => absurd h h0⟩
end Go.E
namespace Go.E
theorem ql {S O : Type} {L : Nat → S → Option O} (st : Nat → S) (n : Nat) (out : O)
  (step : ∀ k i, i < n → L (k + 1) (st i) = L k (st (i + 1))) (last : ∀ k, L (k + 1) (st n) = some out) : ∀ k i, i ≤ n → n - i < k → L k (st i) = some out
 | 0, _, _, h => absurd h (Nat.not_lt_zero _)
 | k + 1, i, hi, h => by
  rcases Nat.lt_or_ge i n with h1 | h1
  ·rw [step k i h1]; exact ql st n out step last k (i + 1) h1 (by omega)
  ·obtain rfl : i = n := by omega
   exact last k
theorem rY (p : Nat → Bool) : ∀ n, (∃ m, m < n ∧ p m = true ∧ ∀ j, j < m → p j = false) ∨ (∀ j, j < n → p j = false)
 | 0 => .inr fun j h => absurd h (Nat.not_lt_zero _)
 | n + 1 => by
  rcases rY p n with ⟨m, h1, h2, h3⟩ | h
  ·exact .inl ⟨m, by omega, h2, h3⟩
  ·cases hp : p n with
   | true => exact .inl ⟨n, by omega, hp, h⟩
   | false =>
    refine .inr fun j hj => ?_
    rcases Nat.lt_or_ge j n with h1 | h1
    ·exact h j h1
    ·obtain rfl : j = n := by omega
     exact hp
theorem AM {A : Type} {L : Nat → Nat → Option (Oc A Unit)} (n : Nat) (p : Nat → Bool) (a : A)
  (step : ∀ k i, i < n → L (k + 1) i = if p i = true then some (.a a) else L k (i + 1)) (last : ∀ k, L (k + 1) n = some (.b ())) (k : Nat) (h : n < k) :
  L k 0 = some (if (List.range n).any p = true then .a a else .b ()) := by
 rcases rY p n with ⟨m, h1, h2, h3⟩ | h4
 ·have : (List.range n).any p = true := List.any_eq_true.2 ⟨m, List.mem_range.2 h1, h2⟩
  rw [if_pos this]
  exact ql (L := L) (fun i => i) m (.a a) (fun k i hi => by rw [step k i (by omega), h3 i hi]; simp) (fun k => by rw [step k m h1, if_pos h2]) k 0 (by omega) (by omega)
 ·have : (List.range n).any p = false := by
   rw [List.any_eq_false]; intro x hx; rw [h4 x (List.mem_range.1 hx)]; simp
  rw [this]
  exact ql (L := L) (fun i => i) n (.b ()) (fun k i hi => by rw [step k i hi, h4 i hi]; simp) last k 0 (by omega) (by omega)
theorem bc {α : Type} {l : List α} {i : Nat} (h : i < l.length) : l[i]? = some l[i] := by simp [h]
theorem wq {α : Type} (l : List α) (q : α → Bool) (p : Nat → Bool) (n : Nat) (hn : n ≤ l.length) (hp : ∀ i x, i < n → l[i]? = some x → p i = q x) : (List.range n).any p = (l.take n).any q := by
 rw [Bool.eq_iff_iff, List.any_eq_true, List.any_eq_true]
 constructor
 ·rintro ⟨i, hi, h⟩
  have hi := List.mem_range.1 hi
  have hl : i < l.length := by omega
  have hg : l[i]? = some l[i] := by simp [hl]
  exact ⟨l[i], by rw [List.mem_take_iff_getElem]; exact ⟨i, by omega, rfl⟩, by rw [← hp i _ hi hg]; exact h⟩
 ·rintro ⟨x, hx, h⟩
  rw [List.mem_take_iff_getElem] at hx
  obtain ⟨i, hi, rfl⟩ := hx
  exact ⟨i, List.mem_range.2 (by omega), by rw [hp i _ (by omega) (bc (by omega))]; exact h⟩
theorem lt_n (i n : Nat) (h : i < n) : decide ((i : Int) < (n : Int)) = true := decide_eq_true (by omega)
theorem oV (n : Nat) : decide ((n : Int) < (n : Int)) = false := decide_eq_false (by omega)
theorem in_1 {i : Nat} (h : i ≤ 1000000) : inI ((i : Int) + 1) := by unfold inI; omega
theorem in_m {i : Nat} (h : i ≤ 1000000) : inI ((i : Int) - 1) := by unfold inI; omega
theorem ky {α : Type} {l : List α} {i : Int} (h0 : 0 ≤ i) (h : i < l.length) : ∃ x, idxI l i = some x ∧ l[i.toNat]? = some x := by
 refine ⟨l[i.toNat]'(by omega), ?_, ?_⟩
 ·unfold idxI; rw [if_pos h0, bc]
 ·rw [bc]
def ocE {α S : Type} (g : Nat → α → S → Int × S) : Nat → List α → S → Oc (Nat × Int × S) S
 | _, [], s => .b s
 | i, x :: r, s => if (g i x s).1 = 0 then ocE g (i + 1) r (g i x s).2 else .a (i, g i x s)
def ocEv {S : Type} : Oc (Nat × Int × S) S → (Int × Int) × S
 | .a o => (((o.1 : Int), o.2.1), o.2.2)
 | .b s => ((0, 0), s)
theorem sX {α S : Type} (g : Nat → α → S → Int × S) : ∀ l i s, ocEv (ocE g i l s) = eachL g i l s
 | [], _, _ => rfl
 | x :: r, i, s => by
  simp only [ocE, eachL]
  by_cases h : (g i x s).1 = 0
  ·rw [if_pos h, if_neg (by simpa using h)]; exact sX g r (i + 1) _
  ·rw [if_neg h, if_pos h]; rfl
theorem qm {α S : Type} {L : List α → Nat → S → Option (Oc (Nat × Int × S) S)} (f : Nat → α → S → Option (Int × S)) (g : Nat → α → S → Int × S) (h0 : ∀ i s, L [] i s = some (.b s))
  (h1 : ∀ x r i s, L (x :: r) i s = (f i x s).bind fun y => if (decide (¬y.1 = 0)) = true then some (.a (i, y)) else L r (i + 1) y.2) :
  ∀ (l : List α) (i : Nat) (s : S), (∀ j x s, l[j]? = some x → f (i + j) x s = some (g (i + j) x s)) → L l i s = some (ocE g i l s)
 | [], i, s, _ => h0 i s
 | x :: r, i, s, hf => by
  have h2 := hf 0 x s rfl
  rw [h1, show f i x s = some (g i x s) from h2, Option.bind_some, ocE]
  by_cases h : (g i x s).1 = 0
  ·rw [if_pos h, if_neg (by simp [h])]
   exact qm f g h0 h1 r (i + 1) _ fun j y s hj => by have := hf (j + 1) y s (by simpa using hj); rwa [show i + 1 + j = i + (j + 1) by omega]
  ·rw [if_neg h, if_pos (by simp [h])]
def ocP {α : Type} (g : Nat → α → Int) : Nat → List α → Oc (Nat × Int) Unit
 | _, [] => .b ()
 | i, x :: r => if g i x = 0 then ocP g (i + 1) r else .a (i, g i x)
def ocPv : Oc (Nat × Int) Unit → Int × Int
 | .a o => ((o.1 : Int), o.2)
 | .b _ => (0, 0)
theorem na {α : Type} (g : Nat → α → Int) : ∀ l i, ocPv (ocP g i l) = eachP g i l
 | [], _ => rfl
 | x :: r, i => by
  simp only [ocP, eachP]
  by_cases h : g i x = 0
  ·rw [if_pos h, if_neg (by simpa using h)]; exact na g r (i + 1)
  ·rw [if_neg h, if_pos h]; rfl
theorem kz {α : Type} {L : List α → Nat → Unit → Option (Oc (Nat × Int) Unit)} (f : Nat → α → Option Int) (g : Nat → α → Int) (h0 : ∀ i s, L [] i s = some (.b s))
  (h1 : ∀ x r i s, L (x :: r) i s = (f i x).bind fun y => if (decide (¬y = 0)) = true then some (.a (i, y)) else L r (i + 1) ()) :
  ∀ (l : List α) (i : Nat), (∀ j x, l[j]? = some x → f (i + j) x = some (g (i + j) x)) → L l i () = some (ocP g i l)
 | [], i, _ => h0 i ()
 | x :: r, i, hf => by
  have h2 := hf 0 x rfl
  rw [h1, show f i x = some (g i x) from h2, Option.bind_some, ocP]
  by_cases h : g i x = 0
  ·rw [if_pos h, if_neg (by simp [h])]
   exact kz f g h0 h1 r (i + 1) fun j y hj => by have := hf (j + 1) y (by simpa using hj); rwa [show i + 1 + j = i + (j + 1) by omega]
  ·rw [if_neg h, if_pos (by simp [h])]
def ocN : Oc (Nat × Nat) Unit → Int × Int
 | .a o => ((o.1 : Int), (o.2 : Int))
 | .b _ => (0, 0)
theorem sY {α O : Type} {L : List α → Nat → Unit → Option O} (v : O → Int × Int) (g : Nat → α → Int) (full : List α) (h0 : ∀ i, ∃ o, L [] i () = some o ∧ v o = (0, 0))
  (h1 : ∀ x r i, full[i]? = some x → (g i x = 0 → L (x :: r) i () = L r (i + 1) ()) ∧ (g i x ≠ 0 → ∃ o, L (x :: r) i () = some o ∧ v o = ((i : Int), g i x))) :
  ∀ (l : List α) (i : Nat), full.drop i = l → ∃ o, L l i () = some o ∧ v o = eachP g i l
 | [], i, _ => h0 i
 | x :: r, i, hd => by
  obtain ⟨ha, hb⟩ := h1 x r i (ap hd)
  rw [eachP]
  by_cases h : g i x = 0
  ·rw [if_neg (by simpa using h), ha h]; exact sY v g full h0 h1 r (i + 1) (ah hd)
  ·rw [if_pos h]; exact hb h
theorem wt {α O : Type} {L : List α → Nat → Unit → Option O} (v : O → Int × Int) (g : Nat → α → Int) (full : List α) (e0 : O) (h0 : ∀ i, L [] i () = some e0) (hv : v e0 = (0, 0))
  (h1 : ∀ x r i, full[i]? = some x → (g i x = 0 → L (x :: r) i () = L r (i + 1) ()) ∧ (g i x ≠ 0 → ∃ o, L (x :: r) i () = some o ∧ v o = ((i : Int), g i x))) :
  ∀ (l : List α) (i : Nat), full.drop i = l → ∃ o, L l i () = some o ∧ v o = eachP g i l ∧ ((eachP g i l).2 = 0 → o = e0)
 | [], i, _ => ⟨e0, h0 i, hv, fun _ => rfl⟩
 | x :: r, i, hd => by
  obtain ⟨ha, hb⟩ := h1 x r i (ap hd)
  rw [eachP]
  by_cases h : g i x = 0
  ·rw [if_neg (by simpa using h), ha h]; exact wt v g full e0 h0 hv h1 r (i + 1) (ah hd)
  ·rw [if_pos h]
   obtain ⟨o, h2, h3⟩ := hb h
   exact ⟨o, h2, h3, fun h4 => absurd h4 h⟩
theorem gk {P : Prop} [Decidable P] {o : Option Bool} {Q : Prop} (h : ¬P → ∃ b, o = some b ∧ (b = true → Q)) : ∃ b, (if decide P = true then some false else o) = some b ∧ (b = true → Q) := by
 by_cases hp : P
 ·exact ⟨false, by simp [hp], fun h => by cases h⟩
 ·obtain ⟨b, h1, h2⟩ := h hp
  exact ⟨b, by simpa [hp] using h1, h2⟩
theorem iX {o : Option (Oc Bool Unit)} {ok : Bool} {K : Oc Bool Unit → Option Bool} {Q : Prop} (ho : o = some (if ok = true then .b () else .a false)) (ha : K (.a false) = some false)
  (hb : ok = true → ∃ b, K (.b ()) = some b ∧ (b = true → Q)) : ∃ b, o.bind K = some b ∧ (b = true → Q) := by
 rw [ho, Option.bind_some]
 cases ok with
 | false => exact ⟨false, ha, fun h => by cases h⟩
 | true => exact hb rfl
theorem nf {α : Type} {L : List α → Nat → Unit → Option (Oc Bool Unit)} (q : α → Bool) (h0 : ∀ i, L [] i () = some (.b ())) (h1 : ∀ x r i, L (x :: r) i () = if q x = true then L r (i + 1) () else some (.a false)) :
  ∀ r i, L r i () = some (if r.all q = true then .b () else .a false)
 | [], i => h0 i
 | x :: r, i => by
  rw [h1, List.all_cons]
  cases q x with
  | false => simp
  | true => rw [if_pos rfl, Bool.true_and]; exact nf q h0 h1 r (i + 1)
theorem xr (a : Int × Int) (l : List (Int × Int)) : firstP (a :: l) = if a.2 = 0 then firstP l else a := by
 simp only [firstP]; by_cases h : a.2 = 0 <;> simp [h]
theorem sZ {α : Type} (nm : α → ByteArray) (e : α → Int) : ∀ (l : List α) (i : Nat) (ns : List ByteArray),
  eachL (fun _ x (s : List ByteArray × List ByteArray) => (firstL [nameErr s.1 (nm x), nameErr s.2 (nm x), e x], (addName (nm x) s.1, addName (nm x) s.2))) i l (ns, ns)
   = ((eachL (fun _ x ns => (firstL [nameErr ns (nm x), e x], addName (nm x) ns)) i l ns).1, ((eachL (fun _ x ns => (firstL [nameErr ns (nm x), e x], addName (nm x) ns)) i l ns).2, (eachL (fun _ x ns => (firstL [nameErr ns (nm x), e x], addName (nm x) ns)) i l ns).2))
 | [], _, _ => rfl
 | x :: r, i, ns => by
  have h : firstL [nameErr ns (nm x), nameErr ns (nm x), e x] = firstL [nameErr ns (nm x), e x] := by
   simp only [firstL]; by_cases h : nameErr ns (nm x) = 0 <;> simp [h]
  simp only [eachL, h]
  by_cases h2 : firstL [nameErr ns (nm x), e x] = 0
  ·simp only [h2, ne_eq, not_true_eq_false, if_false]; exact sZ nm e r (i + 1) _
  ·rw [if_pos h2, if_pos h2]
end Go.E
namespace Go.E
open Classical
structure FewD (d : Desg) : Prop where
 name : d.name.size ≤ 1000
 inputs : d.inputs.length ≤ 1000
 elements : d.elements.length ≤ 1000
 nodes : d.nodes.length ≤ 1000
 rules : d.rules.length ≤ 1000
 outs : d.outs.length ≤ 1000
 attrs : d.attrs.length ≤ 1000
 inn : ∀ p ∈ d.inputs, p.name.size ≤ 1000
 eln : ∀ p ∈ d.elements, p.name.size ≤ 1000
 run : ∀ p ∈ d.rules, p.name.size ≤ 1000
 otn : ∀ p ∈ d.outs, p.name.size ≤ 1000
 args : ∀ x ∈ d.nodes, x.args.length ≤ 1000
 writes : ∀ x ∈ d.rules, x.writes.length ≤ 1000
 arules : ∀ x ∈ d.attrs, x.rules.length ≤ 1000
def kindOk (k : Int) : Bool := decide ((0 : Int) ≤ k) && decide (k ≤ 1)
def clkOk (k : Int) : Bool := decide ((0 : Int) ≤ k) && decide (k ≤ 3)
def elemTail (x : Elem) : Int := if kindOk x.kind = false then 15 else if isW x.width = false then 2 else if fitsN x.init x.width = false then 2 else if clkOk x.clk = true then 0 else 2
def condL (nodes : List Node) (i : Int) : Bool := isNodeL nodes i && decide (widthL nodes i = 1)
def elemW (d : Desg) (i : Int) : Int := match d.elements[i.toNat]? with | some x => x.width | none => 0
def inLen (n : Nat) (i : Int) : Bool := decide ((0 : Int) ≤ i) && decide (i ≤ (n : Int) - 1)
def writeErrR (d : Desg) (w : Wri) : Int :=
 if inLen d.elements.length w.element = false then 6 else if condL d.nodes w.cond = false then 9 else if isNodeL d.nodes w.value = false then 9 else if widthL d.nodes w.value = elemW d w.element then 0 else 25
def writesErrR (d : Desg) (l : List Wri) : Int := if 16 < l.length then 8 else (eachP (fun _ w => writeErrR d w) 0 l).2
def ruleTail (d : Desg) (r : Rul) : Int := if condL d.nodes r.guard = false then 9 else writesErrR d r.writes
def attrItem (d : Desg) (l : List Int) (i : Nat) (n : Int) : Int := if inLen d.rules.length n = false then 6 else if (l.take i).any (fun m => decide (m = n)) = true then 23 else 0
def attrErrR (d : Desg) (a : Attr) : Int := if (decide ((0 : Int) ≤ a.kind) && decide (a.kind ≤ 3)) = false then 15 else if a.rules.length = 0 then 10 else if 16 < a.rules.length then 10 else (eachP (attrItem d a.rules) 0 a.rules).2
def leavesD (d : Desg) : List Int := d.inputs.map (·.width) ++ d.elements.map (·.width)
def namedR {α : Type} (nm : α → ByteArray) (before : ByteArray → Bool) (e : α → Int) (full : List α) (i : Nat) (x : α) : Int :=
 if isNameS (nm x) = false then 4 else if ((full.take i).any (fun q => decide (nm q = nm x)) || before (nm x)) = true then 5 else e x
def portsR (d : Desg) : Int × Int := eachP (namedR (fun p : Port => p.name) (fun _ => false) (fun p => if isW p.width = true then 0 else 2) d.inputs) 0 d.inputs
def elemsR (d : Desg) : Int × Int := eachP (namedR (fun p : Elem => p.name) (fun s => d.inputs.any fun q => decide (q.name = s)) elemTail d.elements) 0 d.elements
def rulesR (d : Desg) : Int × Int := eachP (namedR (fun p : Rul => p.name) (fun _ => false) (ruleTail d) d.rules) 0 d.rules
def outsR (d : Desg) : Int × Int := eachP (namedR (fun p : Outp => p.name) (fun _ => false) (fun p => if isNodeL d.nodes p.node = true then 0 else 9) d.outs) 0 d.outs
def attrsR (d : Desg) : Int × Int := eachP (fun _ a => attrErrR d a) 0 d.attrs
def designErrR (d : Desg) : Int × Int := firstP [(0, if isNameS d.name = true then 0 else 4), (0, if 12 < d.inputs.length then 8 else 0), portsR d, (0, if 40 < d.inputs.length + d.elements.length then 8 else 0), elemsR d,
 nodesErrR (leavesD d) d.nodes, (0, if 16 < d.rules.length then 8 else 0), rulesR d, (0, if 12 < d.outs.length then 8 else 0), outsR d, (0, if 16 < d.attrs.length then 8 else 0), attrsR d]
theorem bb (b : Bool) : b = true ∨ b = false := by cases b <;> simp
theorem qQ (n : Int) : (decide ((1 : Int) ≤ n) && decide (n ≤ 16)) = isW n := rfl
variable {F : Nat} (hF : 1000000 < F)
def namesG {α : Type} (nm : α → ByteArray) (e : α → Int) (_ : Nat) (x : α) (ns : List ByteArray) : Int × List ByteArray := (firstL [nameErr ns (nm x), e x], addName (nm x) ns)
theorem nS {α : Type} (nm : α → ByteArray) (e : α → Int) (before : ByteArray → Bool) (full : List α) (ns : List ByteArray) (hn : ∀ s, hasName s ns = before s) :
  (eachL (namesG nm e) 0 full ns).1 = eachP (namedR nm before e full) 0 full ∧ ((eachP (namedR nm before e full) 0 full).2 = 0 → ∀ s, hasName s (eachL (namesG nm e) 0 full ns).2 = (full.any (fun q => decide (nm q = s)) || before s)) :=
 sW nm (namesG nm e) e before (fun _ _ _ => rfl) full (namedR nm before e full) (fun _ _ _ => rfl) full 0 ns rfl (fun s => by simp [hn])
theorem qR {S : Type} {o : Oc (Nat × Int × S) S} {v : (Int × Int) × S} (h : ocEv o = v) {β : Type} (f : Int → Int → S → β) {K : Oc (Nat × Int × S) S → Option β}
  (ha : ∀ x, K (.a x) = some (f (x.1 : Int) x.2.1 x.2.2)) (hb : ∀ s, K (.b s) = some (f 0 0 s)) : (some o).bind K = some (f v.1.1 v.1.2 v.2) := by
 subst h; cases o with
 | a x => exact ha x
 | b s => exact hb s
include hF in
theorem BS (l : List Port) (hl : l.length ≤ 1000000) (hn : ∀ p ∈ l, p.name.size ≤ 1000000) (ns : List ByteArray) :
  let v := eachL (namesG (fun p : Port => p.name) (fun p => if isW p.width = true then 0 else 2)) 0 l ns
  gO F ns ns l = some (v.1.1, v.1.2, v.2, v.2) := by
 intro v
 have h1 : cT F l F (0, ns, ns) = dW F l l 0 (ns, ns) := jR F l hl l 0 F (ns, ns) rfl (by omega)
 have h2 := qm (L := dW F l) (fun i x s => bB F s.1 s.2 (i : Int) x)
  (fun _ x (s : List ByteArray × List ByteArray) => (firstL [nameErr s.1 x.name, nameErr s.2 x.name, if isW x.width = true then 0 else 2], (addName x.name s.1, addName x.name s.2)))
  (fun i s => by cases s; rfl) (fun x r i s => by cases s; rfl) l 0 (ns, ns) (fun j x s hj => by
   have hp := hn x (List.mem_of_getElem? hj)
   simp only [bB, dQ, if_pos hp, Option.bind_some, qQ, firstL]
   by_cases h1 : nameErr s.1 x.name = 0 <;> by_cases h2 : nameErr s.2 x.name = 0 <;> rcases bb (isW x.width) with h3 | h3 <;> simp [h1, h2, h3])
 have h3 := (sX _ l 0 (ns, ns)).trans (sZ (fun p : Port => p.name) (fun p => if isW p.width = true then 0 else 2) l 0 ns)
 unfold gO
 rw [h1, h2]
 exact qR h3 (fun a b s => (a, b, s.1, s.2)) (fun _ => rfl) (fun _ => rfl)
include hF in
theorem BT (l : List Elem) (hl : l.length ≤ 1000000) (hn : ∀ p ∈ l, p.name.size ≤ 1000000) (ns : List ByteArray) :
  let v := eachL (namesG (fun p : Elem => p.name) elemTail) 0 l ns
  fR F ns l = some (v.1.1, v.1.2, v.2) := by
 intro v
 have h1 : bJ F l F (0, ns) = db F l l 0 ns := jf F l hl l 0 F ns rfl (by omega)
 have h2 := qm (L := db F l) (fun i x s => bC F s (i : Int) x) (namesG (fun p : Elem => p.name) elemTail) (fun i s => rfl) (fun x r i s => rfl) l 0 ns (fun j x s hj => by
   have hp := hn x (List.mem_of_getElem? hj)
   have hk : (decide ((0 : Int) ≤ x.kind) && decide (x.kind ≤ 1)) = kindOk x.kind := rfl
   have hc : (decide ((0 : Int) ≤ x.clk) && decide (x.clk ≤ 3)) = clkOk x.clk := rfl
   simp only [bC, dQ, if_pos hp, Option.bind_some, qQ, namesG, firstL, elemTail, hk, hc]
   have h5 : isW x.width = true → 0 ≤ x.width := fun h4 => by unfold isW at h4; simp at h4; omega
   rcases bb (kindOk x.kind) with h3 | h3 <;> rcases bb (isW x.width) with h4 | h4 <;> by_cases h1 : nameErr s x.name = 0 <;> rcases bb (fitsN x.init x.width) with h6 | h6 <;> rcases bb (clkOk x.clk) with h7 | h7 <;> simp [h1, h3, h4, h6, h7, h5])
 unfold fR
 rw [h1, h2]
 exact qR (sX _ l 0 ns) (fun a b s => (a, b, s)) (fun _ => rfl) (fun _ => rfl)
theorem uD (hF : 1000000 < F) (d : Desg) (h1 : d.inputs.length ≤ 1000) (h2 : d.elements.length ≤ 1000) : ff F d = some (leavesD d) := by
 have k1 : ∀ (r : List Port) (i : Nat) (o : List Int), o.length + r.length ≤ 1000000 → bV F d r i o = some (o ++ r.map (·.width)) := by
  intro r
  induction r with
  | nil => intro i o _; simp [bV]
  | cons x r ih => intro i o h; simp only [List.length_cons] at h; rw [bV, if_pos (by omega), ih _ _ (by simp; omega)]; simp
 have k2 : ∀ (r : List Elem) (i : Nat) (o : List Int), o.length + r.length ≤ 1000000 → bW F d r i o = some (o ++ r.map (·.width)) := by
  intro r
  induction r with
  | nil => intro i o _; simp [bW]
  | cons x r ih => intro i o h; simp only [List.length_cons] at h; rw [bW, if_pos (by omega), ih _ _ (by simp; omega)]; simp
 have e1 : bK F d F ([], 0) = _ := jg F d (by omega) d.inputs 0 F [] rfl (by omega)
 have e2 : bL F d F (d.inputs.map (·.width), 0) = _ := jh F d (by omega) d.elements 0 F (d.inputs.map (·.width)) rfl (by omega)
 unfold ff
 rw [e1, k1 _ _ _ (by simp; omega), Option.bind_some, List.nil_append, e2, k2 _ _ _ (by simp; omega), Option.bind_some]
 rfl
theorem qn (d : Desg) (n : Int) (h : d.nodes.length ≤ 1000) : dD F d n = some (isNodeL d.nodes n) := by
 unfold dD; rw [if_pos (in_m (by omega))]; rfl
theorem ng {nodes : List Node} {n : Int} (h : isNodeL nodes n = true) : ∃ x, idxI nodes n = some x ∧ x.width = widthL nodes n := by
 unfold isNodeL at h
 simp only [Bool.and_eq_true, decide_eq_true_eq] at h
 obtain ⟨x, h1, h2⟩ := ky (l := nodes) (i := n) h.1 (by omega)
 exact ⟨x, h1, by unfold widthL; rw [h2]⟩
theorem wu {d : Desg} {n : Int} (h : inLen d.elements.length n = true) : ∃ x, idxI d.elements n = some x ∧ x.width = elemW d n := by
 unfold inLen at h
 simp only [Bool.and_eq_true, decide_eq_true_eq] at h
 obtain ⟨x, h1, h2⟩ := ky (l := d.elements) (i := n) h.1 (by omega)
 exact ⟨x, h1, by unfold elemW; rw [h2]⟩
theorem qo (d : Desg) (n : Int) (h : d.nodes.length ≤ 1000) : aQ F d n = some (condL d.nodes n) := by
 unfold aQ condL
 rw [qn d n h, Option.bind_some]
 rcases bb (isNodeL d.nodes n) with hn | hn
 ·obtain ⟨x, h1, h2⟩ := ng hn; simp [h1, h2, hn]
 ·simp [hn]
theorem xt (d : Desg) (w : Wri) (h : d.nodes.length ≤ 1000) (he : d.elements.length ≤ 1000) : fl F d w = some (writeErrR d w) := by
 unfold fl writeErrR
 rw [if_pos (in_m (by omega))]
 have hi : (decide ((0 : Int) ≤ w.element) && decide (w.element ≤ (d.elements.length : Int) - 1)) = inLen d.elements.length w.element := rfl
 simp only [hi, qo d w.cond h, qn d w.value h, Option.bind_some]
 rcases bb (inLen d.elements.length w.element) with h1 | h1 <;> rcases bb (condL d.nodes w.cond) with h2 | h2 <;> rcases bb (isNodeL d.nodes w.value) with h3 | h3 <;> simp only [h1, h2, h3, if_true, if_false, Bool.false_eq_true, Bool.true_eq_false]
 obtain ⟨x, h4, h5⟩ := ng h3
 obtain ⟨y, h6, h7⟩ := wu h1
 simp only [h4, h6, h5, h7, Option.bind_some]
 by_cases h8 : widthL d.nodes w.value = elemW d w.element <;> simp [h8]
theorem oc_p {o : Oc (Nat × Int) Unit} {v : Int × Int} (h : ocPv o = v) {β : Type} (f : Int → Int → β) {K : Oc (Nat × Int) Unit → Option β}
  (ha : ∀ x, K (.a x) = some (f (x.1 : Int) x.2)) (hb : ∀ s, K (.b s) = some (f 0 0)) : (some o).bind K = some (f v.1 v.2) := by
 subst h; cases o with
 | a x => exact ha x
 | b s => exact hb s
include hF in
theorem AN (d : Desg) (l : List Wri) (hl : l.length ≤ 1000000) (h : d.nodes.length ≤ 1000) (he : d.elements.length ≤ 1000) : aZ F d l = some (eachP (fun _ w => writeErrR d w) 0 l) := by
 have h1 : bM F l d F 0 = _ := ji F l d hl l 0 F () rfl (by omega)
 have h2 := kz (L := ek F l d) (fun i x => bk F d (i : Int) x) (fun _ w => writeErrR d w) (fun i s => rfl) (fun x r i s => rfl) l 0 (fun j x _ => by
  unfold bk; rw [xt d x h he]; rfl)
 unfold aZ
 rw [h1, h2]
 exact oc_p (na _ l 0) (fun a b => (a, b)) (fun _ => rfl) (fun _ => rfl)
include hF in
theorem BU (d : Desg) (l : List Rul) (hl : l.length ≤ 1000000) (hn : ∀ p ∈ l, p.name.size ≤ 1000000) (hw : ∀ p ∈ l, p.writes.length ≤ 1000000) (h : d.nodes.length ≤ 1000) (he : d.elements.length ≤ 1000) (ns : List ByteArray) :
  let v := eachL (namesG (fun p : Rul => p.name) (ruleTail d)) 0 l ns
  fS F ns d l = some (v.1.1, v.1.2, v.2) := by
 intro v
 have h1 : bN F l d F (0, ns) = dc F l d l 0 ns := jj F l d hl l 0 F ns rfl (by omega)
 have h2 := qm (L := dc F l d) (fun i x s => bD F s d (i : Int) x) (namesG (fun p : Rul => p.name) (ruleTail d)) (fun i s => rfl) (fun x r i s => rfl) l 0 ns (fun j x s hj => by
   have hp := hn x (List.mem_of_getElem? hj)
   have hw' := hw x (List.mem_of_getElem? hj)
   have hd : decide ((x.writes.length : Int) ≤ 16) = !decide (16 < x.writes.length) := by rw [Bool.eq_iff_iff]; simp; omega
   simp only [bD, if_pos hp, qo d _ h, AN hF d _ hw' h he, Option.bind_some, namesG, firstL, ruleTail, writesErrR, hd]
   by_cases h1 : nameErr s x.name = 0 <;> rcases bb (condL d.nodes x.guard) with h4 | h4 <;> by_cases h2 : 16 < x.writes.length <;> by_cases h3 : (eachP (fun _ w => writeErrR d w) 0 x.writes).2 = 0 <;> simp [h1, h2, h3, h4])
 unfold fS
 rw [h1, h2]
 exact qR (sX _ l 0 ns) (fun a b s => (a, b, s)) (fun _ => rfl) (fun _ => rfl)
include hF in
theorem FY (d : Desg) (l : List Outp) (hl : l.length ≤ 1000000) (hn : ∀ p ∈ l, p.name.size ≤ 1000000) (h : d.nodes.length ≤ 1000) (ns : List ByteArray) :
  let v := eachL (namesG (fun p : Outp => p.name) (fun p => if isNodeL d.nodes p.node = true then 0 else 9)) 0 l ns
  fT F ns d l = some (v.1.1, v.1.2, v.2) := by
 intro v
 have h1 : bO F l d F (0, ns) = de F l d l 0 ns := jk F l d hl l 0 F ns rfl (by omega)
 have h2 := qm (L := de F l d) (fun i x s => bE F s d (i : Int) x) (namesG (fun p : Outp => p.name) (fun p => if isNodeL d.nodes p.node = true then 0 else 9)) (fun i s => rfl) (fun x r i s => rfl) l 0 ns (fun j x s hj => by
   have hp := hn x (List.mem_of_getElem? hj)
   simp only [bE, if_pos hp, qn d _ h, Option.bind_some, namesG, firstL]
   by_cases h1 : nameErr s x.name = 0 <;> rcases bb (isNodeL d.nodes x.node) with h2 | h2 <;> simp [h1, h2])
 unfold fT
 rw [h1, h2]
 exact qR (sX _ l 0 ns) (fun a b s => (a, b, s)) (fun _ => rfl) (fun _ => rfl)
include hF in
theorem xu (l : List Int) (n : Int) (hl : l.length ≤ 1000000) : ez F l n = some (l.any fun m => decide (m = n)) := by
 have k : ∀ (r : List Int) (i : Nat), ∃ o, dI F l n r i () = some o ∧ (match o with | .a _ => true | .b _ => false) = r.any fun m => decide (m = n) := by
  intro r
  induction r with
  | nil => intro i; exact ⟨_, rfl, rfl⟩
  | cons x r ih =>
   intro i
   simp only [dI, List.any_cons]
   by_cases h : n = x
   ·simp [h]
   ·have h' : ¬ x = n := fun e => h e.symm
    simpa [h, h'] using ih (i + 1)
 have h1 : ck F l n F 0 = _ := jF F l n hl l 0 F () rfl (by omega)
 obtain ⟨o, h2, h3⟩ := k l 0
 unfold ez iv
 rw [h1, h2, ← h3]
 cases o <;> simp
include hF in
theorem BV (d : Desg) (a : Attr) (hr : d.rules.length ≤ 1000) (ha : a.rules.length ≤ 1000) : fU F d a a.rules = some (eachP (attrItem d a.rules) 0 a.rules) := by
 have h1 : bP F a.rules d a F 0 = _ := jl F a.rules d a (by omega) a.rules 0 F () rfl (by omega)
 have h2 := kz (L := eo F a.rules d a) (fun i x => be F d a (i : Int) x) (attrItem d a.rules) (fun i s => rfl) (fun x r i s => rfl) a.rules 0 (fun j x hj => by
  have hlt := aa hj
  have hi : (decide ((0 : Int) ≤ x) && decide (x ≤ (d.rules.length : Int) - 1)) = inLen d.rules.length x := rfl
  unfold be
  rw [if_pos (in_m (by omega)), if_pos (by omega), hi, xu hF _ _ (by simp; omega)]
  simp only [Option.bind_some, attrItem, Int.toNat_natCast, Nat.zero_add]
  rcases bb (inLen d.rules.length x) with h1 | h1 <;> rcases bb ((a.rules.take j).any fun m => decide (m = x)) with h2 | h2 <;> simp only [h1, h2, if_true, if_false, Bool.false_eq_true, Bool.true_eq_false])
 unfold fU
 rw [h1, h2]
 exact oc_p (na _ a.rules 0) (fun a b => (a, b)) (fun _ => rfl) (fun _ => rfl)
include hF in
theorem BW (d : Desg) (hr : d.rules.length ≤ 1000) (hl : d.attrs.length ≤ 1000) (ha : ∀ a ∈ d.attrs, a.rules.length ≤ 1000) : fV F d d.attrs = some (attrsR d) := by
 have h1 : bQ F d.attrs d F 0 = _ := jm F d.attrs d (by omega) d.attrs 0 F () rfl (by omega)
 have h2 := kz (L := ep F d.attrs d) (fun i x => bu F d (i : Int) x) (fun _ a => attrErrR d a) (fun i s => rfl) (fun x r i s => rfl) d.attrs 0 (fun j x hj => by
  have hx := ha x (List.mem_of_getElem? hj)
  have hi : (decide ((1 : Int) ≤ (x.rules.length : Int)) && decide ((x.rules.length : Int) ≤ 16)) = !(decide (x.rules.length = 0) || decide (16 < x.rules.length)) := by generalize x.rules.length = n; rw [Bool.eq_iff_iff]; simp; omega
  unfold bu
  rw [BV hF d x hr hx, hi]
  simp only [Option.bind_some, attrErrR]
  rcases bb (decide ((0 : Int) ≤ x.kind) && decide (x.kind ≤ 3)) with h4 | h4 <;> by_cases h1 : x.rules.length = 0 <;> by_cases h2 : 16 < x.rules.length <;> by_cases h3 : (eachP (attrItem d x.rules) 0 x.rules).2 = 0 <;> simp only [h4, h1, h2, h3] <;> simp)
 unfold fV
 rw [h1, h2]
 exact oc_p (na _ d.attrs 0) (fun a b => (a, b)) (fun _ => rfl) (fun _ => rfl)
end Go.E
namespace Go.E
open Classical
theorem jo {α : Type} (f : Nat → α → Int) : ∀ (l : List α) (i : Nat), (eachP f i l).2 = 0 → ∀ j x, l[j]? = some x → f (i + j) x = 0
 | [], i, _, j, x, h => by simp at h
 | y :: l, i, h, j, x, hx => by
  simp only [eachP] at h
  split at h
  ·rename_i h0; exact absurd h h0
  ·rename_i h0
   cases j with
   | zero => simp at hx; subst hx; simpa using h0
   | succ j => have := jo f l (i + 1) h j x (by simpa using hx); rwa [show i + 1 + j = i + (j + 1) by omega] at this
theorem qp {α : Type} (f : α → Int) (l : List α) (h : (eachP (fun _ x => f x) 0 l).2 = 0) : ∀ x ∈ l, f x = 0 := fun x hx => by
 obtain ⟨j, hj⟩ := List.getElem?_of_mem hx
 exact jo _ l 0 h j x hj
theorem qq {α : Type} (f : Nat → α → Int) : ∀ (l : List α) (i : Nat), (∀ j x, l[j]? = some x → f (i + j) x = 0) → eachP f i l = (0, 0)
 | [], _, _ => rfl
 | y :: l, i, h => by
  rw [eachP, if_neg (by have := h 0 y rfl; simpa using this)]
  exact qq f l (i + 1) fun j x hj => by have := h (j + 1) x (by simpa using hj); rwa [show i + 1 + j = i + (j + 1) by omega]
theorem oW {α : Type} {nm : α → ByteArray} {before : ByteArray → Bool} {e : α → Int} {full : List α} {i : Nat} {x : α} (h : namedR nm before e full i x = 0) : isNameS (nm x) = true ∧ ((full.take i).any (fun q => decide (nm q = nm x)) || before (nm x)) = false ∧ e x = 0 := by
 unfold namedR at h
 rcases bb (isNameS (nm x)) with h1 | h1 <;> rcases bb ((full.take i).any (fun q => decide (nm q = nm x)) || before (nm x)) with h2 | h2 <;> simp only [h1, h2, if_true, if_false, Bool.true_eq_false, Bool.false_eq_true] at h
 ·exact absurd h (by decide)
 ·exact ⟨h1, h2, h⟩
 ·exact absurd h (by decide)
 ·exact absurd h (by decide)
theorem yh {d : Desg} (h : (portsR d).2 = 0) : ∀ p ∈ d.inputs, isW p.width = true := fun p hp => by
 obtain ⟨j, hj⟩ := List.getElem?_of_mem hp
 have := (oW (jo _ _ _ h j p hj)).2.2
 rcases bb (isW p.width) with h1 | h1
 ·exact h1
 ·rw [h1] at this; exact absurd this (by decide)
theorem yW {x : Elem} (h : elemTail x = 0) : kindOk x.kind = true ∧ isW x.width = true ∧ fitsN x.init x.width = true ∧ clkOk x.clk = true := by
 unfold elemTail at h
 rcases bb (kindOk x.kind) with h1 | h1 <;> rcases bb (isW x.width) with h2 | h2 <;> rcases bb (fitsN x.init x.width) with h3 | h3 <;> rcases bb (clkOk x.clk) with h4 | h4 <;> simp [h1, h2, h3, h4] at h
 exact ⟨h1, h2, h3, h4⟩
theorem qS {d : Desg} (h : (elemsR d).2 = 0) : ∀ p ∈ d.elements, kindOk p.kind = true ∧ isW p.width = true ∧ fitsN p.init p.width = true ∧ clkOk p.clk = true := fun p hp => by
 obtain ⟨j, hj⟩ := List.getElem?_of_mem hp
 exact yW (oW (jo _ _ _ h j p hj)).2.2
theorem BX {d : Desg} (h1 : (portsR d).2 = 0) (h2 : (elemsR d).2 = 0) : ∀ w ∈ leavesD d, isW w = true := fun w hw => by
 simp only [leavesD, List.mem_append, List.mem_map] at hw
 rcases hw with ⟨p, hp, rfl⟩ | ⟨p, hp, rfl⟩
 ·exact yh h1 p hp
 ·exact (qS h2 p hp).2.1
theorem rz {d : Desg} (h1 : (portsR d).2 = 0) (h2 : (elemsR d).2 = 0) (h3 : ¬ 40 < d.inputs.length + d.elements.length) : checkNodesS (leavesD d) d.nodes = nodesErrR (leavesD d) d.nodes := by
 have : eachP (fun _ n => if isW n = true then (0 : Int) else 2) 0 (leavesD d) = (0, 0) := qq _ _ _ fun j x hj => by rw [BX h1 h2 x (List.mem_of_getElem? hj)]; rfl
 unfold checkNodesS nodesErrR
 rw [if_neg (by simp [leavesD]; omega), this]
 simp
variable {F : Nat} (hF : 1000000 < F)
include hF in
theorem BY {d : Desg} (hS : FewD d) : dg F d = some (designErrR d) := by
 obtain ⟨n1, n2, n3, n4, n5, n6, n7, n8, n9, n10, n11, n12, n13, n14⟩ := hS
 have a1 := BS hF d.inputs (by omega) (fun p hp => by have := n8 p hp; omega) []
 have a2 : _ = portsR d := (nS (fun p : Port => p.name) (fun p => if isW p.width = true then 0 else 2) (fun _ => false) d.inputs [] (fun _ => rfl)).1
 have a3 : (portsR d).2 = 0 → _ := (nS (fun p : Port => p.name) (fun p => if isW p.width = true then 0 else 2) (fun _ => false) d.inputs [] (fun _ => rfl)).2
 have a4 := fun ns => BT hF d.elements (by omega) (fun p hp => by have := n9 p hp; omega) ns
 have a5 : ∀ ns, (∀ s, hasName s ns = d.inputs.any fun q => decide (q.name = s)) → (eachL (namesG (fun p : Elem => p.name) elemTail) 0 d.elements ns).1 = elemsR d := fun ns h => (nS (fun p : Elem => p.name) elemTail (fun s => d.inputs.any fun q => decide (q.name = s)) d.elements ns h).1
 have a6 := uD hF d n2 n3
 have a7 := BU hF d d.rules (by omega) (fun p hp => by have := n10 p hp; omega) (fun p hp => by have := n13 p hp; omega) n4 n3 []
 have a8 : _ = rulesR d := (nS (fun p : Rul => p.name) (ruleTail d) (fun _ => false) d.rules [] (fun _ => rfl)).1
 have a9 := FY hF d d.outs (by omega) (fun p hp => by have := n11 p hp; omega) n4 []
 have a10 : _ = outsR d := (nS (fun p : Outp => p.name) (fun p => if isNodeL d.nodes p.node = true then 0 else 9) (fun _ => false) d.outs [] (fun _ => rfl)).1
 have a11 := BW hF d n5 n7 n14
 simp only at a1 a4 a7 a9
 rw [a2] at a1
 rw [a8] at a7
 rw [a10] at a9
 unfold dg designErrR
 simp only [eQ, eR, eS, eT, eU, eV, eX, eY, eZ, eI, eJ,
  a1, a4, a6, a7, a9, a11, if_pos (show d.name.size ≤ 1000000 by omega), Option.bind_some]
 rcases bb (isNameS d.name) with hN | hN
 case inr => by_cases h12 : (d.inputs.length : Int) ≤ 12 <;> simp [hN, h12, firstP]
 by_cases h12 : (d.inputs.length : Int) ≤ 12
 case neg => simp [hN, h12, show 12 < d.inputs.length by omega, firstP]
 have h12' : ¬ 12 < d.inputs.length := by omega
 by_cases hP : (portsR d).2 = 0
 case neg => simp [hN, h12, h12', hP, firstP]
 have hi : inI ((d.inputs.length : Int) + d.elements.length) := by unfold inI; omega
 by_cases h40 : (d.inputs.length : Int) + d.elements.length ≤ 40
 case neg => simp [hN, h12, h12', hP, hi, h40, show 40 < d.inputs.length + d.elements.length by omega, firstP]
 have h40' : ¬ 40 < d.inputs.length + d.elements.length := by omega
 have a5 := a5 _ (fun s => by rw [a3 hP s, Bool.or_false])
 by_cases hE : (elemsR d).2 = 0
 case neg => simp [hN, h12, h12', hP, hi, h40, h40', a5, hE, firstP]
 have hn := rz hP hE h40'
 have hl : (leavesD d).length ≤ 1000000 := by simp [leavesD]; omega
 have hm : d.nodes.length ≤ 1000000 := by omega
 have ha : ∀ x ∈ d.nodes, x.args.length ≤ 1000000 := fun x hx => by have := n12 x hx; omega
 by_cases hM : (nodesErrR (leavesD d) d.nodes).2 = 0
 case neg => simp [hN, h12, h12', hP, hi, h40, h40', a5, hE, hl, hm, if_pos ha, hn, hM, firstP]
 by_cases h16 : (d.rules.length : Int) ≤ 16
 case neg => simp [hN, h12, h12', hP, hi, h40, h40', a5, hE, hl, hm, if_pos ha, hn, hM, h16, show 16 < d.rules.length by omega, firstP]
 have h16' : ¬ 16 < d.rules.length := by omega
 by_cases hR : (rulesR d).2 = 0
 case neg => simp [hN, h12, h12', hP, hi, h40, h40', a5, hE, hl, hm, if_pos ha, hn, hM, h16, h16', hR, firstP]
 by_cases h13 : (d.outs.length : Int) ≤ 12
 case neg => simp [hN, h12, h12', hP, hi, h40, h40', a5, hE, hl, hm, if_pos ha, hn, hM, h16, h16', hR, h13, show 12 < d.outs.length by omega, firstP]
 have h13' : ¬ 12 < d.outs.length := by omega
 by_cases hO : (outsR d).2 = 0
 case neg => simp [hN, h12, h12', hP, hi, h40, h40', a5, hE, hl, hm, if_pos ha, hn, hM, h16, h16', hR, h13, h13', hO, firstP]
 by_cases h17 : (d.attrs.length : Int) ≤ 16
 case neg => simp [hN, h12, h12', hP, hi, h40, h40', a5, hE, hl, hm, if_pos ha, hn, hM, h16, h16', hR, h13, h13', hO, h17, show 16 < d.attrs.length by omega, firstP]
 have h17' : ¬ 16 < d.attrs.length := by omega
 by_cases hA : (attrsR d).2 = 0
 case neg => simp [hN, h12, h12', hP, hi, h40, h40', a5, hE, hl, hm, if_pos ha, hn, hM, h16, h16', hR, h13, h13', hO, h17, h17', hA, firstP]
 simp [hN, h12, h12', hP, hi, h40, h40', a5, hE, hl, hm, if_pos ha, hn, hM, h16, h16', hR, h13, h13', hO, h17, h17', hA, firstP]
end Go.E
namespace Go.E
def outsS (n : Netl) (vals : List Int) : List Int := n.outs.map fun o => at0 vals o.node.toNat
def nextV (vals state : List Int) (i : Nat) (r : Reg) : Int := if at0 vals r.enable.toNat = 1 then at0 vals r.next.toNat else at0 state i
def nextL (regs : List Reg) (vals state : List Int) : Nat → List Int
 | 0 => []
 | i + 1 => nextL regs vals state i ++ [match regs[i]? with | some r => nextV vals state i r | none => 0]
def valsN (n : Netl) (inputs state : List Int) : List Int := valsL n.nodes (inputs ++ state) n.nodes.length
def stepN (n : Netl) (inputs state : List Int) : List Int × List Int := (outsS n (valsN n inputs state), nextL n.regs (valsN n inputs state) state n.regs.length)
structure NetOk (n : Netl) : Prop where
 nodes : (checkNodesS (leavesN n) n.nodes).2 = 0
 outs : ∀ o ∈ n.outs, 0 ≤ o.node ∧ o.node < n.nodes.length
 regs : ∀ r ∈ n.regs, (0 ≤ r.enable ∧ r.enable < n.nodes.length) ∧ 0 ≤ r.next ∧ r.next < n.nodes.length
 next : ∀ r ∈ n.regs, widthAt n r.next = r.width
 init : ∀ r ∈ n.regs, fitsN r.init r.width = true
 few : n.inputs.length + n.regs.length ≤ 40
end Go.E
namespace Go.E
def valErrS (ws l : List Int) : Int := if l.length = ws.length then (eachP (fun i n => if fitsN n (at0 ws i) = true then (0 : Int) else 2) 0 l).2 else 10
def inErrS (n : Netl) (l : List Int) : Int := valErrS (n.inputs.map (·.width)) l
def stErrS (n : Netl) (l : List Int) : Int := valErrS (n.regs.map (·.width)) l
def stepErrS (n : Netl) (ins st : List Int) : Int := if (checkNetS n).2 = 0 then firstL [inErrS n ins, stErrS n st] else (checkNetS n).2
def runErrS (n : Netl) (l : List (List Int)) : Int :=
 if (checkNetS n).2 = 0 then (if l.length ≤ 60 then (eachP (fun _ x => inErrS n x) 0 l).2 else 8) else (checkNetS n).2
def stAt (n : Netl) (l : List (List Int)) : Nat → List Int
 | 0 => n.regs.map (·.init)
 | i + 1 => (stepN n (l.getD i []) (stAt n l i)).2
def trAt (n : Netl) (l : List (List Int)) (i : Nat) : List Int := (stepN n (l.getD i []) (stAt n l i)).1
def trL (n : Netl) (l : List (List Int)) : Nat → List (List Int)
 | 0 => []
 | k + 1 => trL n l k ++ [trAt n l k]
def stL (n : Netl) (l : List (List Int)) : Nat → List (List Int)
 | 0 => [stAt n l 0]
 | k + 1 => stL n l k ++ [stAt n l (k + 1)]
theorem nh {n w : Int} (h1 : 1 ≤ w) (h16 : w ≤ 16) : fitsN n w = true ↔ InW n w := by
 unfold fitsN
 rw [mn (by omega)]
 have h3 := jD (k := w.toNat) (by omega)
 have h4 := pow_pos' w.toNat
 rw [ba (by omega) (by omega)]
 rw [Bool.and_eq_true, decide_eq_true_eq, decide_eq_true_eq]
 unfold InW
 omega
theorem AO {ws l : List Int} (hw : ∀ w ∈ ws, 1 ≤ w ∧ w ≤ 16) (h : valErrS ws l = 0) : l.length = ws.length ∧ ∀ (j : Nat) w v, ws[j]? = some w → l[j]? = some v → InW v w := by
 unfold valErrS at h
 split at h
 case isFalse => omega
 rename_i hlen
 refine ⟨hlen, fun j w v h1 h2 => ?_⟩
 have := oL _ l 0 h j v h2
 simp only [Nat.zero_add, fF h1] at this
 have h3 := hw w (List.mem_of_getElem? h1)
 split at this
 ·rename_i hf; exact (nh h3.1 h3.2).1 hf
 ·omega
def RegOk (n : Netl) (st : List Int) : Prop := st.length = n.regs.length ∧ ∀ (j : Nat) r v, n.regs[j]? = some r → st[j]? = some v → InW v r.width
end Go.E
set_option linter.all false
namespace Go.E
open Go.Proofs Classical
set_option maxRecDepth 100000
set_option maxHeartbeats 4000000
noncomputable section
def aY (F : Nat) (cv0 : Desg) (i : Int) (n : Int) : Option (Int) := ((idxI cv0.inputs i).bind fun x1 => (if (decide (0 ≤ x1.width) && fitsN n x1.width) = true then some 0 else some 2))
theorem fW (bs : List Nat) (H : Heap) (F : Nat) (ca0 : Nat) (cv0 : Desg) (hca0 : H[ca0]? = some (.cells [.str cv0.name, .list (cv0.inputs.map encPort), .list (cv0.elements.map encElem), .list (cv0.nodes.map encNode), .list (cv0.rules.map encRul), .list (cv0.outs.map encOutp), .list (cv0.attrs.map encAttr)])) (i : Int) (n : Int) (R : Int) (hR0 : aY F cv0 i n = some R) : callw X bs 151 [.int .i64 i, .int .i64 n, .ptr ca0 0] H = some (.int .i64 R, H) := by
 refine yw2 (rs := [.tmp 5]) (N := 16) (fn := Tryz.f151) C6 MZ ?_
 have hca0_l := aa hca0
 have hca0_a := get_app' hca0
 have hR := Kp.mk hR0
 clear hR0
 rw [aY] at hR
 obtain ⟨x1, x1_e, hR⟩ := bindE hR
 obtain ⟨x1_p, x1_e⟩ := idxE x1_e
 have k2_k := fun bs H => tF bs H n x1.width
 rcases iteE hR with ⟨c3, hR⟩ | ⟨c3, hR⟩
 ·obtain ⟨c3_1, c3_2⟩ := dT c3
  obtain rfl := someE hR
  exact zv
 ·obtain rfl := someE hR
  exact zv
def cU (F : Nat) (l : List Int) (cv0 : Desg) : Nat → Nat → Option (Oc (Nat × Int) (Unit))
 | 0, _ => none
 | k + 1, s1 => (if (decide ((s1 : Int) < (l.length : Int))) = true then ((l[s1]?).bind fun x4 => ((aY F cv0 (s1 : Int) x4).bind fun y5 => (if (decide (¬y5 = 0)) = true then some (.a (s1, y5)) else (if inI ((s1 : Int) + 1) then cU F l cv0 k (s1 + 1) else none)))) else some (.b ()))
theorem oX (bs : List Nat) (H : Heap) (F : Nat) (ca0 : Nat) (cv0 : Desg) (hca0 : H[ca0]? = some (.cells [.str cv0.name, .list (cv0.inputs.map encPort), .list (cv0.elements.map encElem), .list (cv0.nodes.map encNode), .list (cv0.rules.map encRul), .list (cv0.outs.map encOutp), .list (cv0.attrs.map encAttr)])) (l : List Int) : ∀ k s r ρ H', (∃ J2, H' = H ++ J2 ∧ ρ 1 = .func 151 [.ptr ca0 0] ∧ ρ 9 = .list (l.map (V.int .i64)) ∧ ρ 10 = .int .i64 (l.length : Int) ∧ ρ 11 = .int .i64 (s : Int)) → cU F l cv0 k s = some r → Lp X ⟨25, H.length :: bs⟩ (loopAt Tryz.f70 0) ρ H' ((fun r ex ρ H' => match r with | .a r => ∃ J2, H' = H ++ J2 ∧ ex = .ret ∧ ρ 4 = .int .i64 (r.1 : Int) ∧ ρ 5 = .int .i64 r.2 | .b r => ∃ J2, H' = H ++ J2 ∧ ex = .exit 0) r) := by
 refine ac (fun _ => rfl) ?_
 rintro k s1 r ρ H' ⟨J2, hH, h1, h9, h10, h11⟩ hR
 skip
 subst hH
 rw [cU] at hR
 have hca0_l := aa hca0
 have hca0_a := get_app' hca0
 conv => arg 3; whnf
 try refine zw ?_
 rcases iteE hR with ⟨c3, hR⟩ | ⟨c3, hR⟩
 ·obtain ⟨x4, x4_e, hR⟩ := bindE hR
  obtain ⟨y5, y5_e, hR⟩ := bindE hR
  have y5_k := fun (bs : List Nat) (l : Heap) => fW bs (H ++ l) F ca0 cv0 gt (s1 : Int) x4 y5 y5_e
  have y5_k0 := fun (bs : List Nat) => fW bs H F ca0 cv0 gt (s1 : Int) x4 y5 y5_e
  try refine zw ?_
  clear y5_k y5_k0
  rcases iteE hR with ⟨c6, hR⟩ | ⟨c6, hR⟩
  ·obtain rfl := someE hR
   refine zu ?_
   exact ⟨_, hq, rfl, sl, sl⟩
  ·obtain ⟨g7, hR⟩ := grdE hR
   have g7_w := ae g7
   refine zu ?_
   exact ⟨(s1 + 1), ⟨_, hq, sl, sl, sl, sl⟩, hR.out⟩
 ·obtain rfl := someE hR
  refine zu ?_
  exact ⟨_, hq, rfl⟩
def er (F : Nat) (l : List Int) (cv0 : Desg) : List Int → Nat → Unit → Option (Oc (Nat × Int) (Unit))
 | [], s1, _ => some (.b ())
 | x_ :: r_, s1, _ => ((aY F cv0 (s1 : Int) x_).bind fun y5 => (if (decide (¬y5 = 0)) = true then some (.a (s1, y5)) else er F l cv0 r_ (s1 + 1) ()))
theorem jp (F : Nat) (l : List Int) (cv0 : Desg) (hl_ : l.length ≤ 1000000) : ∀ r_ i_ k_ (o_ : Unit), l.drop i_ = r_ → r_.length < k_ → cU F l cv0 k_ i_ = er F l cv0 r_ i_ o_
 | _, _, 0, _, _, hk => absurd hk (Nat.not_lt_zero _)
 | [], i_, k_ + 1, _, hd, _ => by rw [cU, er]; simp only [aj hd, Bool.false_eq_true, if_false]
 | x_ :: r_, i_, k_ + 1, _, hd, hk => by
  have ih := jp F l cv0 hl_ r_ (i_ + 1) k_ () (ah hd) (Nat.lt_of_succ_lt_succ hk)
  rw [cU, er]; simp only [az hd, ap hd, if_pos (aC hd hl_), Option.bind_some, if_true, ih]
def ia (F : Nat) (cv0 : Desg) (l : List Int) : Option (Int × Int) := ((cU F l cv0 F 0).bind fun o8 => match o8 with | .a o9 => some ((o9.1 : Int), o9.2) | .b o11 => some (0, 0))
theorem qZ (bs : List Nat) (H : Heap) (F : Nat) (ca0 : Nat) (cv0 : Desg) (hca0 : H[ca0]? = some (.cells [.str cv0.name, .list (cv0.inputs.map encPort), .list (cv0.elements.map encElem), .list (cv0.nodes.map encNode), .list (cv0.rules.map encRul), .list (cv0.outs.map encOutp), .list (cv0.attrs.map encAttr)])) (l : List Int) (R : Int × Int) (hR0 : ia F cv0 l = some R) : callw X bs 70 [.list (l.map (V.int .i64)), .func 151 [.ptr ca0 0]] H = some (.tuple [.int .i64 R.1, .int .i64 R.2], H) := by
 refine yw2 (rs := [.tmp 4, .tmp 5]) (N := 25) (fn := Tryz.f70) xk70 xf70 ?_
 have hca0_l := aa hca0
 have hca0_a := get_app' hca0
 have hR := Kp.mk hR0
 clear hR0
 rw [ia] at hR
 obtain ⟨o8, o8_e, hR⟩ := bindE hR
 refine zu ?_
 refine ab (af (c := (loopAt Tryz.f70 0)) rfl (oX _ H F ca0 cv0 hca0 l _ 0 o8 _ _ ⟨[], by simp, sl, sl, sl, sl⟩ o8_e)) ?_
 rcases o8 with o9 | o11
 ·rintro ex ρ' H' ⟨J10, rfl, rfl, q4_o9, q5_o9⟩ hf
  clear hf
  obtain rfl := someE hR
  exact zv
 ·rintro ex ρ' H' ⟨J12, rfl, rfl⟩ hf
  clear hf
  obtain rfl := someE hR
  exact zv
def aB (F : Nat) (d : Desg) (inputs : List Int) : Option (Int) := (if (decide (¬(inputs.length : Int) = (d.inputs.length : Int))) = true then some 10 else ((ia F d inputs).bind fun y2 => some y2.2))
theorem dh (bs : List Nat) (H : Heap) (F : Nat) (d : Desg) (inputs : List Int) (R : Int) (hR0 : aB F d inputs = some R) : callw X bs 61 [(encDesg d), .list (inputs.map (V.int .i64))] H = some (.int .i64 R, H) := by
 refine yw2 (rs := [.tmp 4]) (N := 21) (fn := Tryz.f61) xk61 xf61 ?_
 have hR := Kp.mk hR0
 clear hR0
 rw [aB] at hR
 (try simp only [cellsDesg, encDesg, encInts])
 try refine zw ?_
 rcases iteE hR with ⟨c1, hR⟩ | ⟨c1, hR⟩
 ·obtain rfl := someE hR
  exact zv
 ·obtain ⟨y2, y2_e, hR⟩ := bindE hR
  have y2_k := fun (bs : List Nat) (J : Heap) => qZ bs (H ++ .cells [.str d.name, .list (d.inputs.map encPort), .list (d.elements.map encElem), .list (d.nodes.map encNode), .list (d.rules.map encRul), .list (d.outs.map encOutp), .list (d.attrs.map encAttr)] :: J) F H.length d gt inputs y2 y2_e
  obtain rfl := someE hR
  exact zv
def bf (F : Nat) (cv0 : Desg) (i : Int) (n : Int) : Option (Int) := ((idxI cv0.elements i).bind fun x1 => (if (decide (0 ≤ x1.width) && fitsN n x1.width) = true then some 0 else some 2))
theorem gg (bs : List Nat) (H : Heap) (F : Nat) (ca0 : Nat) (cv0 : Desg) (hca0 : H[ca0]? = some (.cells [.str cv0.name, .list (cv0.inputs.map encPort), .list (cv0.elements.map encElem), .list (cv0.nodes.map encNode), .list (cv0.rules.map encRul), .list (cv0.outs.map encOutp), .list (cv0.attrs.map encAttr)])) (i : Int) (n : Int) (R : Int) (hR0 : bf F cv0 i n = some R) : callw X bs 152 [.int .i64 i, .int .i64 n, .ptr ca0 0] H = some (.int .i64 R, H) := by
 refine yw2 (rs := [.tmp 5]) (N := 16) (fn := Tryz.f152) C7 M0 ?_
 have hca0_l := aa hca0
 have hca0_a := get_app' hca0
 have hR := Kp.mk hR0
 clear hR0
 rw [bf] at hR
 obtain ⟨x1, x1_e, hR⟩ := bindE hR
 obtain ⟨x1_p, x1_e⟩ := idxE x1_e
 have k2_k := fun bs H => tF bs H n x1.width
 rcases iteE hR with ⟨c3, hR⟩ | ⟨c3, hR⟩
 ·obtain ⟨c3_1, c3_2⟩ := dT c3
  obtain rfl := someE hR
  exact zv
 ·obtain rfl := someE hR
  exact zv
def cV (F : Nat) (l : List Int) (cv0 : Desg) : Nat → Nat → Option (Oc (Nat × Int) (Unit))
 | 0, _ => none
 | k + 1, s1 => (if (decide ((s1 : Int) < (l.length : Int))) = true then ((l[s1]?).bind fun x4 => ((bf F cv0 (s1 : Int) x4).bind fun y5 => (if (decide (¬y5 = 0)) = true then some (.a (s1, y5)) else (if inI ((s1 : Int) + 1) then cV F l cv0 k (s1 + 1) else none)))) else some (.b ()))
theorem oY (bs : List Nat) (H : Heap) (F : Nat) (ca0 : Nat) (cv0 : Desg) (hca0 : H[ca0]? = some (.cells [.str cv0.name, .list (cv0.inputs.map encPort), .list (cv0.elements.map encElem), .list (cv0.nodes.map encNode), .list (cv0.rules.map encRul), .list (cv0.outs.map encOutp), .list (cv0.attrs.map encAttr)])) (l : List Int) : ∀ k s r ρ H', (∃ J2, H' = H ++ J2 ∧ ρ 1 = .func 152 [.ptr ca0 0] ∧ ρ 9 = .list (l.map (V.int .i64)) ∧ ρ 10 = .int .i64 (l.length : Int) ∧ ρ 11 = .int .i64 (s : Int)) → cV F l cv0 k s = some r → Lp X ⟨25, H.length :: bs⟩ (loopAt Tryz.f70 0) ρ H' ((fun r ex ρ H' => match r with | .a r => ∃ J2, H' = H ++ J2 ∧ ex = .ret ∧ ρ 4 = .int .i64 (r.1 : Int) ∧ ρ 5 = .int .i64 r.2 | .b r => ∃ J2, H' = H ++ J2 ∧ ex = .exit 0) r) := by
 refine ac (fun _ => rfl) ?_
 rintro k s1 r ρ H' ⟨J2, hH, h1, h9, h10, h11⟩ hR
 skip
 subst hH
 rw [cV] at hR
 have hca0_l := aa hca0
 have hca0_a := get_app' hca0
 conv => arg 3; whnf
 try refine zw ?_
 rcases iteE hR with ⟨c3, hR⟩ | ⟨c3, hR⟩
 ·obtain ⟨x4, x4_e, hR⟩ := bindE hR
  obtain ⟨y5, y5_e, hR⟩ := bindE hR
  have y5_k := fun (bs : List Nat) (l : Heap) => gg bs (H ++ l) F ca0 cv0 gt (s1 : Int) x4 y5 y5_e
  have y5_k0 := fun (bs : List Nat) => gg bs H F ca0 cv0 gt (s1 : Int) x4 y5 y5_e
  try refine zw ?_
  clear y5_k y5_k0
  rcases iteE hR with ⟨c6, hR⟩ | ⟨c6, hR⟩
  ·obtain rfl := someE hR
   refine zu ?_
   exact ⟨_, hq, rfl, sl, sl⟩
  ·obtain ⟨g7, hR⟩ := grdE hR
   have g7_w := ae g7
   refine zu ?_
   exact ⟨(s1 + 1), ⟨_, hq, sl, sl, sl, sl⟩, hR.out⟩
 ·obtain rfl := someE hR
  refine zu ?_
  exact ⟨_, hq, rfl⟩
def eu (F : Nat) (l : List Int) (cv0 : Desg) : List Int → Nat → Unit → Option (Oc (Nat × Int) (Unit))
 | [], s1, _ => some (.b ())
 | x_ :: r_, s1, _ => ((bf F cv0 (s1 : Int) x_).bind fun y5 => (if (decide (¬y5 = 0)) = true then some (.a (s1, y5)) else eu F l cv0 r_ (s1 + 1) ()))
theorem jq (F : Nat) (l : List Int) (cv0 : Desg) (hl_ : l.length ≤ 1000000) : ∀ r_ i_ k_ (o_ : Unit), l.drop i_ = r_ → r_.length < k_ → cV F l cv0 k_ i_ = eu F l cv0 r_ i_ o_
 | _, _, 0, _, _, hk => absurd hk (Nat.not_lt_zero _)
 | [], i_, k_ + 1, _, hd, _ => by rw [cV, eu]; simp only [aj hd, Bool.false_eq_true, if_false]
 | x_ :: r_, i_, k_ + 1, _, hd, hk => by
  have ih := jq F l cv0 hl_ r_ (i_ + 1) k_ () (ah hd) (Nat.lt_of_succ_lt_succ hk)
  rw [cV, eu]; simp only [az hd, ap hd, if_pos (aC hd hl_), Option.bind_some, if_true, ih]
def ib (F : Nat) (cv0 : Desg) (l : List Int) : Option (Int × Int) := ((cV F l cv0 F 0).bind fun o8 => match o8 with | .a o9 => some ((o9.1 : Int), o9.2) | .b o11 => some (0, 0))
theorem ra (bs : List Nat) (H : Heap) (F : Nat) (ca0 : Nat) (cv0 : Desg) (hca0 : H[ca0]? = some (.cells [.str cv0.name, .list (cv0.inputs.map encPort), .list (cv0.elements.map encElem), .list (cv0.nodes.map encNode), .list (cv0.rules.map encRul), .list (cv0.outs.map encOutp), .list (cv0.attrs.map encAttr)])) (l : List Int) (R : Int × Int) (hR0 : ib F cv0 l = some R) : callw X bs 70 [.list (l.map (V.int .i64)), .func 152 [.ptr ca0 0]] H = some (.tuple [.int .i64 R.1, .int .i64 R.2], H) := by
 refine yw2 (rs := [.tmp 4, .tmp 5]) (N := 25) (fn := Tryz.f70) xk70 xf70 ?_
 have hca0_l := aa hca0
 have hca0_a := get_app' hca0
 have hR := Kp.mk hR0
 clear hR0
 rw [ib] at hR
 obtain ⟨o8, o8_e, hR⟩ := bindE hR
 refine zu ?_
 refine ab (af (c := (loopAt Tryz.f70 0)) rfl (oY _ H F ca0 cv0 hca0 l _ 0 o8 _ _ ⟨[], by simp, sl, sl, sl, sl⟩ o8_e)) ?_
 rcases o8 with o9 | o11
 ·rintro ex ρ' H' ⟨J10, rfl, rfl, q4_o9, q5_o9⟩ hf
  clear hf
  obtain rfl := someE hR
  exact zv
 ·rintro ex ρ' H' ⟨J12, rfl, rfl⟩ hf
  clear hf
  obtain rfl := someE hR
  exact zv
def aE (F : Nat) (d : Desg) (s_ : List Int) : Option (Int) := (if (decide (¬(s_.length : Int) = (d.elements.length : Int))) = true then some 10 else ((ib F d s_).bind fun y2 => some y2.2))
theorem fa (bs : List Nat) (H : Heap) (F : Nat) (d : Desg) (s_ : List Int) (R : Int) (hR0 : aE F d s_ = some R) : callw X bs 62 [(encDesg d), .list (s_.map (V.int .i64))] H = some (.int .i64 R, H) := by
 refine yw2 (rs := [.tmp 4]) (N := 21) (fn := Tryz.f62) xk62 xf62 ?_
 have hR := Kp.mk hR0
 clear hR0
 rw [aE] at hR
 (try simp only [cellsDesg, encDesg, encInts])
 try refine zw ?_
 rcases iteE hR with ⟨c1, hR⟩ | ⟨c1, hR⟩
 ·obtain rfl := someE hR
  exact zv
 ·obtain ⟨y2, y2_e, hR⟩ := bindE hR
  have y2_k := fun (bs : List Nat) (J : Heap) => ra bs (H ++ .cells [.str d.name, .list (d.inputs.map encPort), .list (d.elements.map encElem), .list (d.nodes.map encNode), .list (d.rules.map encRul), .list (d.outs.map encOutp), .list (d.attrs.map encAttr)] :: J) F H.length d gt s_ y2 y2_e
  obtain rfl := someE hR
  exact zv
def bF (F : Nat) (d : Desg) (n : Int) : Option (Int) := (if inI ((d.rules.length : Int) - 1) then (if (decide ((0 : Int) ≤ n) && decide (n ≤ ((d.rules.length : Int) - 1))) = true then some 0 else some 6) else none)
theorem gS (bs : List Nat) (H : Heap) (F : Nat) (d : Desg) (n : Int) (R : Int) (hR0 : bF F d n = some R) : callw X bs 60 [(encDesg d), .int .i64 n] H = some (.int .i64 R, H) := by
 refine yw2 (rs := [.tmp 4]) (N := 13) (fn := Tryz.f60) xk60 xf60 ?_
 have hR := Kp.mk hR0
 clear hR0
 rw [bF] at hR
 (try simp only [cellsDesg, encDesg, encInts])
 obtain ⟨g1, hR⟩ := grdE hR
 have g1_w := ae g1
 rcases iteE hR with ⟨c2, hR⟩ | ⟨c2, hR⟩
 ·obtain ⟨c2_1, c2_2⟩ := dT c2
  obtain rfl := someE hR
  exact zv
 ·obtain rfl := someE hR
  exact zv
def aM (F : Nat) (d : Desg) : Nat → ((List Int) × Nat) → Option ((List Int))
 | 0, _ => none
 | k + 1, (s9, s10) => (if (decide ((s10 : Int) < (d.elements.length : Int))) = true then ((d.elements[s10]?).bind fun x14 => (if (s9.length + 1) ≤ 1000000 then (if inI ((s10 : Int) + 1) then aM F d k ((s9 ++ [x14.init]), (s10 + 1)) else none) else none)) else some s9)
theorem kA (bs : List Nat) (H : Heap) (F : Nat) (d : Desg) (a11 : HObj) : ∀ k s r ρ H', (∃ J12, H' = H ++ a11 :: .tok 0 :: .tok s.1.length :: J12 ∧ ρ 3 = .tl (H.length + 2) (s.1.map (V.int .i64)) ∧ ρ 8 = .list (d.elements.map encElem) ∧ ρ 9 = .int .i64 (d.elements.length : Int) ∧ ρ 10 = .int .i64 (s.2 : Int)) → aM F d k s = some r → Lp X ⟨21, H.length :: bs⟩ (loopAt Tryz.f132 0) ρ H' ((fun r ex ρ H' => ∃ J12, H' = H ++ a11 :: .tok 0 :: .tok r.length :: J12 ∧ ex = .exit 0 ∧ ρ 3 = .tl (H.length + 2) (r.map (V.int .i64))) r) := by
 refine ac (fun _ => rfl) ?_
 rintro k ⟨s9, s10⟩ r ρ H' ⟨J12, hH, h3, h8, h9, h10⟩ hR
 simp only at hH h3 h8 h9 h10
 subst hH
 rw [aM] at hR
 conv => arg 3; whnf
 try refine zw ?_
 rcases iteE hR with ⟨c13, hR⟩ | ⟨c13, hR⟩
 ·obtain ⟨x14, x14_e, hR⟩ := bindE hR
  obtain ⟨g15, hR⟩ := grdE hR
  have g15_r := iq (n := (s9.length + 1)) (k := 8) g15 (by omega)
  obtain ⟨g16, hR⟩ := grdE hR
  have g16_w := ae g16
  refine zu ?_
  exact ⟨((s9 ++ [x14.init]), (s10 + 1)), ⟨_, hq, sl, sl, sl, sl⟩, hR.out⟩
 ·obtain rfl := someE hR
  refine zu ?_
  exact ⟨_, hq, rfl, sl⟩
def aN (F : Nat) (d : Desg) : List Elem → Nat → (List Int) → Option ((List Int))
 | [], s10, s9 => some s9
 | x_ :: r_, s10, s9 => (if (s9.length + 1) ≤ 1000000 then aN F d r_ (s10 + 1) (s9 ++ [x_.init]) else none)
theorem gm (F : Nat) (d : Desg) (hl_ : d.elements.length ≤ 1000000) : ∀ r_ i_ k_ (o_ : (List Int)), d.elements.drop i_ = r_ → r_.length < k_ → aM F d k_ (o_, i_) = aN F d r_ i_ o_
 | _, _, 0, _, _, hk => absurd hk (Nat.not_lt_zero _)
 | [], i_, k_ + 1, s9, hd, _ => by rw [aM, aN]; simp only [aj hd, Bool.false_eq_true, if_false]
 | x_ :: r_, i_, k_ + 1, s9, hd, hk => by
  have ih := fun o_ => gm F d hl_ r_ (i_ + 1) k_ o_ (ah hd) (Nat.lt_of_succ_lt_succ hk)
  rw [aM, aN]; simp only [az hd, ap hd, if_pos (aC hd hl_), Option.bind_some, if_true, ih]
def dL (F : Nat) (d : Desg) : Option ((List Int)) := ((aM F d F ([], 0)).bind fun o18 => some o18)
theorem mA (bs : List Nat) (H : Heap) (F : Nat) (d : Desg) (R : (List Int)) (hR0 : dL F d = some R) : callw X bs 132 [(encDesg d)] H = some (.list (R.map (V.int .i64)), H) := by
 refine yw2 (rs := [.tmp 2]) (N := 21) (fn := Tryz.f132) C1 MU ?_
 have hR := Kp.mk hR0
 clear hR0
 rw [dL] at hR
 (try simp only [cellsDesg, encDesg, encInts])
 obtain ⟨o18, o18_e, hR⟩ := bindE hR
 refine zu ?_
 refine ab (af (c := (loopAt Tryz.f132 0)) rfl (kA _ H F d _ _ ([], 0) o18 _ _ ⟨_, hq, sl, sl, sl, sl⟩ o18_e)) ?_
 rintro ex ρ' H' ⟨J19, rfl, rfl, q3_o18⟩ hf
 clear hf
 obtain rfl := someE hR
 exact zv
def aw (F : Nat) (d : Desg) : Nat → (Nat × (List Int)) → Option ((List Int))
 | 0, _ => none
 | k + 1, (s11, s13) => (if (decide ((s11 : Int) < (d.elements.length : Int))) = true then ((d.elements[s11]?).bind fun x16 => (if (decide (x16.kind = 1)) = true then ((s13[s11]?).bind fun x18 => (if inI ((s11 : Int) + 1) then aw F d k ((s11 + 1), (s13.set s11 x16.init)) else none)) else (if inI ((s11 : Int) + 1) then aw F d k ((s11 + 1), s13) else none))) else some s13)
theorem kB (bs : List Nat) (H : Heap) (F : Nat) (d : Desg) (s_ : List Int) (a12 : HObj) : ∀ k s r ρ H', (∃ J14, H' = H ++ a12 :: .tok 0 :: .arr (s.2.map (V.int .i64)) 0 :: J14 ∧ ρ 5 = .ref 1 (H.length + 2) 0 0 s_.length ∧ ρ 12 = .list (d.elements.map encElem) ∧ ρ 13 = .int .i64 (d.elements.length : Int) ∧ ρ 14 = .int .i64 (s.1 : Int) ∧ Kp (s.2.length = s_.length)) → aw F d k s = some r → Lp X ⟨29, H.length :: bs⟩ (loopAt Tryz.f73 0) ρ H' ((fun r ex ρ H' => ∃ J14, H' = H ++ a12 :: .tok 0 :: .arr (r.map (V.int .i64)) 0 :: J14 ∧ ex = .exit 0 ∧ Kp (r.length = s_.length)) r) := by
 refine ac (fun _ => rfl) ?_
 rintro k ⟨s11, s13⟩ r ρ H' ⟨J14, hH, h5, h12, h13, h14, hl0⟩ hR
 simp only at hH h5 h12 h13 h14 hl0
 subst hH
 rw [aw] at hR
 conv => arg 3; whnf
 try refine zw ?_
 rcases iteE hR with ⟨c15, hR⟩ | ⟨c15, hR⟩
 ·obtain ⟨x16, x16_e, hR⟩ := bindE hR
  try refine zw ?_
  rcases iteE hR with ⟨c17, hR⟩ | ⟨c17, hR⟩
  ·obtain ⟨x18, x18_e, hR⟩ := bindE hR
   have x18_l : s11 < s_.length := Nat.lt_of_lt_of_eq (aa x18_e) hl0.out
   obtain ⟨g19, hR⟩ := grdE hR
   have g19_w := ae g19
   refine zu ?_
   exact ⟨((s11 + 1), (s13.set s11 x16.init)), ⟨_, hq, sl, sl, sl, sl, ⟨(List.length_set.trans hl0.out)⟩⟩, hR.out⟩
  ·obtain ⟨g20, hR⟩ := grdE hR
   have g20_w := ae g20
   refine zu ?_
   exact ⟨((s11 + 1), s13), ⟨_, hq, sl, sl, sl, sl, ⟨hl0.out⟩⟩, hR.out⟩
 ·obtain rfl := someE hR
  refine zu ?_
  exact ⟨_, hq, rfl, ⟨hl0.out⟩⟩
def aH (F : Nat) (d : Desg) : List Elem → Nat → (List Int) → Option ((List Int))
 | [], s11, s13 => some s13
 | x_ :: r_, s11, s13 => (if (decide (x_.kind = 1)) = true then ((s13[s11]?).bind fun x18 => aH F d r_ (s11 + 1) (s13.set s11 x_.init)) else aH F d r_ (s11 + 1) s13)
theorem gn (F : Nat) (d : Desg) (hl_ : d.elements.length ≤ 1000000) : ∀ r_ i_ k_ (o_ : (List Int)), d.elements.drop i_ = r_ → r_.length < k_ → aw F d k_ (i_, o_) = aH F d r_ i_ o_
 | _, _, 0, _, _, hk => absurd hk (Nat.not_lt_zero _)
 | [], i_, k_ + 1, s13, hd, _ => by rw [aw, aH]; simp only [aj hd, Bool.false_eq_true, if_false]
 | x_ :: r_, i_, k_ + 1, s13, hd, hk => by
  have ih := fun o_ => gn F d hl_ r_ (i_ + 1) k_ o_ (ah hd) (Nat.lt_of_succ_lt_succ hk)
  rw [aw, aH]; simp only [az hd, ap hd, if_pos (aC hd hl_), Option.bind_some, if_true, ih]
def ay (F : Nat) (d : Desg) (s_ : List Int) : Nat → Nat → Option (Unit)
 | 0, _ => none
 | k + 1, s24 => (if (decide ((s24 : Int) < (d.elements.length : Int))) = true then ((d.elements[s24]?).bind fun x28 => (if (decide (x28.kind = 1)) = true then ((s_[s24]?).bind fun x30 => none) else (if inI ((s24 : Int) + 1) then ay F d s_ k (s24 + 1) else none))) else some ())
theorem jQ (bs : List Nat) (H : Heap) (F : Nat) (d : Desg) (s_ : List Int) (a25 : HObj) : ∀ k s r ρ H', (∃ J26, H' = H ++ a25 :: .tok 0 :: J26 ∧ ρ 5 = .list (s_.map (V.int .i64)) ∧ ρ 12 = .list (d.elements.map encElem) ∧ ρ 13 = .int .i64 (d.elements.length : Int) ∧ ρ 14 = .int .i64 (s : Int)) → ay F d s_ k s = some r → Lp X ⟨29, H.length :: bs⟩ (loopAt Tryz.f73 0) ρ H' ((fun r ex ρ H' => ∃ J26, H' = H ++ a25 :: .tok 0 :: J26 ∧ ex = .exit 0) r) := by
 refine ac (fun _ => rfl) ?_
 rintro k s24 r ρ H' ⟨J26, hH, h5, h12, h13, h14⟩ hR
 skip
 subst hH
 rw [ay] at hR
 conv => arg 3; whnf
 try refine zw ?_
 rcases iteE hR with ⟨c27, hR⟩ | ⟨c27, hR⟩
 ·obtain ⟨x28, x28_e, hR⟩ := bindE hR
  try refine zw ?_
  rcases iteE hR with ⟨c29, hR⟩ | ⟨c29, hR⟩
  ·obtain ⟨x30, x30_e, hR⟩ := bindE hR
   exact nomatch hR.out
  ·obtain ⟨g31, hR⟩ := grdE hR
   have g31_w := ae g31
   refine zu ?_
   exact ⟨(s24 + 1), ⟨_, hq, sl, sl, sl, sl⟩, hR.out⟩
 ·obtain rfl := someE hR
  refine zu ?_
  exact ⟨_, hq, rfl⟩
def cQ (F : Nat) (d : Desg) (s_ : List Int) : List Elem → Nat → Unit → Option (Unit)
 | [], s24, _ => some ()
 | x_ :: r_, s24, _ => (if (decide (x_.kind = 1)) = true then ((s_[s24]?).bind fun x30 => none) else cQ F d s_ r_ (s24 + 1) ())
theorem fX (F : Nat) (d : Desg) (s_ : List Int) (hl_ : d.elements.length ≤ 1000000) : ∀ r_ i_ k_ (o_ : Unit), d.elements.drop i_ = r_ → r_.length < k_ → ay F d s_ k_ i_ = cQ F d s_ r_ i_ o_
 | _, _, 0, _, _, hk => absurd hk (Nat.not_lt_zero _)
 | [], i_, k_ + 1, _, hd, _ => by rw [ay, cQ]; simp only [aj hd, Bool.false_eq_true, if_false]
 | x_ :: r_, i_, k_ + 1, _, hd, hk => by
  have ih := fX F d s_ hl_ r_ (i_ + 1) k_ () (ah hd) (Nat.lt_of_succ_lt_succ hk)
  rw [ay, cQ]; simp only [az hd, ap hd, if_pos (aC hd hl_), Option.bind_some, if_true, ih]
def aI (F : Nat) (d : Desg) (s_ : List Int) : Option ((List Int)) := (if s_.length ≤ 1000000 then (if (decide (0 < s_.length)) = true then ((aw F d F (0, s_)).bind fun o22 => some o22) else ((ay F d s_ F 0).bind fun o33 => some s_)) else none)
theorem ev (bs : List Nat) (H : Heap) (F : Nat) (d : Desg) (s_ : List Int) (R : (List Int)) (hR0 : aI F d s_ = some R) : callw X bs 73 [(encDesg d), .list (s_.map (V.int .i64))] H = some (.list (R.map (V.int .i64)), H) := by
 refine yw2 (rs := [.tmp 4]) (N := 29) (fn := Tryz.f73) xk73 xf73 ?_
 have hR := Kp.mk hR0
 clear hR0
 rw [aI] at hR
 (try simp only [cellsDesg, encDesg, encInts])
 obtain ⟨g1, hR⟩ := grdE hR
 rcases iteE hR with ⟨c2, hR⟩ | ⟨c2, hR⟩
 ·have c2_p := ux s_ (of_decide_eq_true c2) g1
  obtain ⟨o22, o22_e, hR⟩ := bindE hR
  refine zu ?_
  refine ab (af (c := (loopAt Tryz.f73 0)) rfl (kB _ H F d s_ _ _ (0, s_) o22 _ _ ⟨_, hq, sl, sl, sl, sl, ⟨rfl⟩⟩ o22_e)) ?_
  rintro ex ρ' H' ⟨J23, rfl, rfl, hl_o22_0⟩ hf
  have q5_o22 : ρ' 5 = .ref 1 (H.length + 2) 0 0 s_.length := (hf 5 rfl).trans (sl)
  clear hf
  obtain rfl := someE hR
  have rt0 := fI (V.int .i64) (l := o22) (n := s_.length) hl_o22_0.out
  have rt1 := ij (l := o22) (n := s_.length) hl_o22_0.out
  exact zv
 ·have c2_p := uy s_ (of_decide_eq_false c2)
  have c2_k := fun bs H => uz bs H s_ g1
  obtain ⟨o33, o33_e, hR⟩ := bindE hR
  refine zu ?_
  refine ab (af (c := (loopAt Tryz.f73 0)) rfl (jQ _ H F d s_ _ _ 0 o33 _ _ ⟨_, hq, sl, sl, sl, sl⟩ o33_e)) ?_
  clear c2_k
  rintro ex ρ' H' ⟨J34, rfl, rfl⟩ hf
  have q5_o33 : ρ' 5 = .list (s_.map (V.int .i64)) := (hf 5 rfl).trans (sl)
  clear hf
  obtain rfl := someE hR
  exact zv
def av (F : Nat) (d : Desg) (inputs : List Int) (s_ : List Int) : Option ((List Int)) := ((ff F d).bind fun y1 => (if inputs.length + s_.length ≤ 1000000 then (if y1.length ≤ 1000000 then (if d.nodes.length ≤ 1000000 then (if ∀ x ∈ d.nodes, x.args.length ≤ 1000000 then (if (checkNodesS y1 d.nodes).2 = 0 then (if LeafOk y1 (inputs ++ s_) then some ((valsL d.nodes (inputs ++ s_) d.nodes.length, (0 : Int)).1) else none) else none) else none) else none) else none) else none))
theorem cD (bs : List Nat) (H : Heap) (F : Nat) (d : Desg) (inputs : List Int) (s_ : List Int) (R : (List Int)) (hR0 : av F d inputs s_ = some R) : callw X bs 63 [(encDesg d), .list (inputs.map (V.int .i64)), .list (s_.map (V.int .i64))] H = some (.list (R.map (V.int .i64)), H) := by
 refine yw2 (rs := [.tmp 6]) (N := 24) (fn := Tryz.f63) xk63 xf63 ?_
 have hR := Kp.mk hR0
 clear hR0
 rw [av] at hR
 (try simp only [cellsDesg, encDesg, encInts])
 obtain ⟨y1, y1_e, hR⟩ := bindE hR
 have y1_k := fun bs H => kV bs H F d y1 y1_e
 (try simp only [cellsDesg, encDesg, encInts] at y1_k)
 obtain ⟨g2, hR⟩ := grdE hR
 have g2_k := fun bs H => yR bs H inputs s_ g2
 obtain ⟨g3, hR⟩ := grdE hR
 obtain ⟨g4, hR⟩ := grdE hR
 obtain ⟨g5, hR⟩ := grdE hR
 obtain ⟨g6, hR⟩ := grdE hR
 obtain ⟨g7, hR⟩ := grdE hR
 have k8_k := fun bs H => xq bs H y1 (inputs ++ s_) d.nodes g3 g4 g5 g6 g7
 obtain rfl := someE hR
 try refine zu ?_
 (refine yw1 (id := 1) [0, 1, 3, 4, 5, 6, 7, 8, 2, 9, 10, 11, 12, 13, 14, 15] [(4, 8), (4, 9), (7, 8)] ?_)
 exact zv
def au (F : Nat) (d : Desg) (rule : Int) (values : List Int) : Option (Bool) := ((idxI d.rules rule).bind fun x1 => ((idxI values x1.guard).bind fun x2 => some (decide (x2 = 1))))
theorem di (bs : List Nat) (H : Heap) (F : Nat) (d : Desg) (rule : Int) (values : List Int) (R : Bool) (hR0 : au F d rule values = some R) : callw X bs 64 [(encDesg d), .int .i64 rule, .list (values.map (V.int .i64))] H = some (.bool R, H) := by
 refine yw2 (rs := [.tmp 6]) (N := 18) (fn := Tryz.f64) xk64 xf64 ?_
 have hR := Kp.mk hR0
 clear hR0
 rw [au] at hR
 (try simp only [cellsDesg, encDesg, encInts])
 obtain ⟨x1, x1_e, hR⟩ := bindE hR
 obtain ⟨x1_p, x1_e⟩ := idxE x1_e
 obtain ⟨x2, x2_e, hR⟩ := bindE hR
 obtain ⟨x2_p, x2_e⟩ := idxE x2_e
 obtain rfl := someE hR
 exact zv
def al (F : Nat) (values : List Int) (x3 : Rul) : Nat → (Nat × (List Int)) → Option ((List Int))
 | 0, _ => none
 | k + 1, (s14, s16) => (if (decide ((s14 : Int) < (x3.writes.length : Int))) = true then ((x3.writes[s14]?).bind fun x19 => ((idxI values x19.cond).bind fun x20 => (if (decide (x20 = 1)) = true then ((idxI values x19.value).bind fun x22 => ((idxI s16 x19.element).bind fun x23 => (if inI ((s14 : Int) + 1) then al F values x3 k ((s14 + 1), (s16.set x19.element.toNat x22)) else none))) else (if inI ((s14 : Int) + 1) then al F values x3 k ((s14 + 1), s16) else none)))) else some s16)
theorem jI (bs : List Nat) (H : Heap) (F : Nat) (values : List Int) (s_ : List Int) (x3 : Rul) (a15 : HObj) : ∀ k s r ρ H', (∃ J17, H' = H ++ a15 :: .tok 0 :: .arr (s.2.map (V.int .i64)) 0 :: J17 ∧ ρ 2 = .list (values.map (V.int .i64)) ∧ ρ 9 = .ref 1 (H.length + 2) 0 0 s_.length ∧ ρ 20 = .list (x3.writes.map encWri) ∧ ρ 21 = .int .i64 (x3.writes.length : Int) ∧ ρ 22 = .int .i64 (s.1 : Int) ∧ Kp (s.2.length = s_.length)) → al F values x3 k s = some r → Lp X ⟨43, H.length :: bs⟩ (loopAt Tryz.f65 0) ρ H' ((fun r ex ρ H' => ∃ J17, H' = H ++ a15 :: .tok 0 :: .arr (r.map (V.int .i64)) 0 :: J17 ∧ ex = .exit 0 ∧ Kp (r.length = s_.length)) r) := by
 refine ac (fun _ => rfl) ?_
 rintro k ⟨s14, s16⟩ r ρ H' ⟨J17, hH, h2, h9, h20, h21, h22, hl0⟩ hR
 simp only at hH h2 h9 h20 h21 h22 hl0
 subst hH
 rw [al] at hR
 conv => arg 3; whnf
 try refine zw ?_
 rcases iteE hR with ⟨c18, hR⟩ | ⟨c18, hR⟩
 ·obtain ⟨x19, x19_e, hR⟩ := bindE hR
  obtain ⟨x20, x20_e, hR⟩ := bindE hR
  obtain ⟨x20_p, x20_e⟩ := idxE x20_e
  try refine zw ?_
  rcases iteE hR with ⟨c21, hR⟩ | ⟨c21, hR⟩
  ·obtain ⟨x22, x22_e, hR⟩ := bindE hR
   obtain ⟨x22_p, x22_e⟩ := idxE x22_e
   obtain ⟨x23, x23_e, hR⟩ := bindE hR
   obtain ⟨x23_p, x23_e⟩ := idxE x23_e
   have x23_l : x19.element.toNat < s_.length := Nat.lt_of_lt_of_eq (aa x23_e) hl0.out
   obtain ⟨g24, hR⟩ := grdE hR
   have g24_w := ae g24
   try refine zu ?_
   (refine yw0 (id := 6) oz2 ?_)
   try refine zu ?_
   exact ⟨((s14 + 1), (s16.set x19.element.toNat x22)), ⟨_, hq, sl, sl, sl, sl, sl, ⟨(List.length_set.trans hl0.out)⟩⟩, hR.out⟩
  ·obtain ⟨g25, hR⟩ := grdE hR
   have g25_w := ae g25
   refine zu ?_
   exact ⟨((s14 + 1), s16), ⟨_, hq, sl, sl, sl, sl, sl, ⟨hl0.out⟩⟩, hR.out⟩
 ·obtain rfl := someE hR
  refine zu ?_
  exact ⟨_, hq, rfl, ⟨hl0.out⟩⟩
def aJ (F : Nat) (values : List Int) (x3 : Rul) : List Wri → Nat → (List Int) → Option ((List Int))
 | [], s14, s16 => some s16
 | x_ :: r_, s14, s16 => ((idxI values x_.cond).bind fun x20 => (if (decide (x20 = 1)) = true then ((idxI values x_.value).bind fun x22 => ((idxI s16 x_.element).bind fun x23 => aJ F values x3 r_ (s14 + 1) (s16.set x_.element.toNat x22))) else aJ F values x3 r_ (s14 + 1) s16))
theorem fN (F : Nat) (values : List Int) (x3 : Rul) (hl_ : x3.writes.length ≤ 1000000) : ∀ r_ i_ k_ (o_ : (List Int)), x3.writes.drop i_ = r_ → r_.length < k_ → al F values x3 k_ (i_, o_) = aJ F values x3 r_ i_ o_
 | _, _, 0, _, _, hk => absurd hk (Nat.not_lt_zero _)
 | [], i_, k_ + 1, s16, hd, _ => by rw [al, aJ]; simp only [aj hd, Bool.false_eq_true, if_false]
 | x_ :: r_, i_, k_ + 1, s16, hd, hk => by
  have ih := fun o_ => fN F values x3 hl_ r_ (i_ + 1) k_ o_ (ah hd) (Nat.lt_of_succ_lt_succ hk)
  rw [al, aJ]; simp only [az hd, ap hd, if_pos (aC hd hl_), Option.bind_some, if_true, ih]
def an (F : Nat) (values : List Int) (s_ : List Int) (x29 : Rul) : Nat → Nat → Option (Unit)
 | 0, _ => none
 | k + 1, s30 => (if (decide ((s30 : Int) < (x29.writes.length : Int))) = true then ((x29.writes[s30]?).bind fun x34 => ((idxI values x34.cond).bind fun x35 => (if (decide (x35 = 1)) = true then ((idxI values x34.value).bind fun x37 => ((idxI s_ x34.element).bind fun x38 => none)) else (if inI ((s30 : Int) + 1) then an F values s_ x29 k (s30 + 1) else none)))) else some ())
theorem iY (bs : List Nat) (H : Heap) (F : Nat) (values : List Int) (s_ : List Int) (x29 : Rul) (a31 : HObj) : ∀ k s r ρ H', (∃ J32, H' = H ++ a31 :: .tok 0 :: J32 ∧ ρ 2 = .list (values.map (V.int .i64)) ∧ ρ 9 = .list (s_.map (V.int .i64)) ∧ ρ 20 = .list (x29.writes.map encWri) ∧ ρ 21 = .int .i64 (x29.writes.length : Int) ∧ ρ 22 = .int .i64 (s : Int)) → an F values s_ x29 k s = some r → Lp X ⟨43, H.length :: bs⟩ (loopAt Tryz.f65 0) ρ H' ((fun r ex ρ H' => ∃ J32, H' = H ++ a31 :: .tok 0 :: J32 ∧ ex = .exit 0) r) := by
 refine ac (fun _ => rfl) ?_
 rintro k s30 r ρ H' ⟨J32, hH, h2, h9, h20, h21, h22⟩ hR
 skip
 subst hH
 rw [an] at hR
 conv => arg 3; whnf
 try refine zw ?_
 rcases iteE hR with ⟨c33, hR⟩ | ⟨c33, hR⟩
 ·obtain ⟨x34, x34_e, hR⟩ := bindE hR
  obtain ⟨x35, x35_e, hR⟩ := bindE hR
  obtain ⟨x35_p, x35_e⟩ := idxE x35_e
  try refine zw ?_
  rcases iteE hR with ⟨c36, hR⟩ | ⟨c36, hR⟩
  ·obtain ⟨x37, x37_e, hR⟩ := bindE hR
   obtain ⟨x37_p, x37_e⟩ := idxE x37_e
   obtain ⟨x38, x38_e, hR⟩ := bindE hR
   obtain ⟨x38_p, x38_e⟩ := idxE x38_e
   exact nomatch hR.out
  ·obtain ⟨g39, hR⟩ := grdE hR
   have g39_w := ae g39
   refine zu ?_
   exact ⟨(s30 + 1), ⟨_, hq, sl, sl, sl, sl, sl⟩, hR.out⟩
 ·obtain rfl := someE hR
  refine zu ?_
  exact ⟨_, hq, rfl⟩
def bX (F : Nat) (values : List Int) (s_ : List Int) (x29 : Rul) : List Wri → Nat → Unit → Option (Unit)
 | [], s30, _ => some ()
 | x_ :: r_, s30, _ => ((idxI values x_.cond).bind fun x35 => (if (decide (x35 = 1)) = true then ((idxI values x_.value).bind fun x37 => ((idxI s_ x_.element).bind fun x38 => none)) else bX F values s_ x29 r_ (s30 + 1) ()))
theorem fE (F : Nat) (values : List Int) (s_ : List Int) (x29 : Rul) (hl_ : x29.writes.length ≤ 1000000) : ∀ r_ i_ k_ (o_ : Unit), x29.writes.drop i_ = r_ → r_.length < k_ → an F values s_ x29 k_ i_ = bX F values s_ x29 r_ i_ o_
 | _, _, 0, _, _, hk => absurd hk (Nat.not_lt_zero _)
 | [], i_, k_ + 1, _, hd, _ => by rw [an, bX]; simp only [aj hd, Bool.false_eq_true, if_false]
 | x_ :: r_, i_, k_ + 1, _, hd, hk => by
  have ih := fE F values s_ x29 hl_ r_ (i_ + 1) k_ () (ah hd) (Nat.lt_of_succ_lt_succ hk)
  rw [an, bX]; simp only [az hd, ap hd, if_pos (aC hd hl_), Option.bind_some, if_true, ih]
def ao (F : Nat) (d : Desg) (rule : Int) (values : List Int) (s_ : List Int) : Option ((List Int)) := (if s_.length ≤ 1000000 then (if (decide (0 < s_.length)) = true then ((idxI d.rules rule).bind fun x3 => ((al F values x3 F (0, s_)).bind fun o27 => some o27)) else ((idxI d.rules rule).bind fun x29 => ((an F values s_ x29 F 0).bind fun o41 => some s_))) else none)
theorem dE (bs : List Nat) (H : Heap) (F : Nat) (d : Desg) (rule : Int) (values : List Int) (s_ : List Int) (R : (List Int)) (hR0 : ao F d rule values s_ = some R) : callw X bs 65 [(encDesg d), .int .i64 rule, .list (values.map (V.int .i64)), .list (s_.map (V.int .i64))] H = some (.list (R.map (V.int .i64)), H) := by
 refine yw2 (rs := [.tmp 8]) (N := 43) (fn := Tryz.f65) xk65 xf65 ?_
 have hR := Kp.mk hR0
 clear hR0
 rw [ao] at hR
 (try simp only [cellsDesg, encDesg, encInts])
 obtain ⟨g1, hR⟩ := grdE hR
 rcases iteE hR with ⟨c2, hR⟩ | ⟨c2, hR⟩
 ·have c2_p := ux s_ (of_decide_eq_true c2) g1
  obtain ⟨x3, x3_e, hR⟩ := bindE hR
  obtain ⟨x3_p, x3_e⟩ := idxE x3_e
  obtain ⟨o27, o27_e, hR⟩ := bindE hR
  refine zu ?_
  refine ab (af (c := (loopAt Tryz.f65 0)) rfl (jI _ H F values s_ x3 _ _ (0, s_) o27 _ _ ⟨_, hq, sl, sl, sl, sl, sl, ⟨rfl⟩⟩ o27_e)) ?_
  rintro ex ρ' H' ⟨J28, rfl, rfl, hl_o27_0⟩ hf
  have q9_o27 : ρ' 9 = .ref 1 (H.length + 2) 0 0 s_.length := (hf 9 rfl).trans (sl)
  clear hf
  obtain rfl := someE hR
  have rt0 := fI (V.int .i64) (l := o27) (n := s_.length) hl_o27_0.out
  have rt1 := ij (l := o27) (n := s_.length) hl_o27_0.out
  exact zv
 ·have c2_p := uy s_ (of_decide_eq_false c2)
  have c2_k := fun bs H => uz bs H s_ g1
  obtain ⟨x29, x29_e, hR⟩ := bindE hR
  obtain ⟨x29_p, x29_e⟩ := idxE x29_e
  obtain ⟨o41, o41_e, hR⟩ := bindE hR
  refine zu ?_
  refine ab (af (c := (loopAt Tryz.f65 0)) rfl (iY _ H F values s_ x29 _ _ 0 o41 _ _ ⟨_, hq, sl, sl, sl, sl, sl⟩ o41_e)) ?_
  clear c2_k
  rintro ex ρ' H' ⟨J42, rfl, rfl⟩ hf
  have q9_o41 : ρ' 9 = .list (s_.map (V.int .i64)) := (hf 9 rfl).trans (sl)
  clear hf
  obtain rfl := someE hR
  exact zv
end
end Go.E
