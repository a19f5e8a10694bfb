/- Contracts of the references' base, in E: ports, outputs. Own work. -/
import Derived.Test.YtoljdokffnjapaaGreatP4
import Derived.Test.YtoljdokffnjapaaGreatP2
import Derived.Test.YtoljdokffnjapaaGreatP3
set_option linter.all false
namespace Go.E
open Classical
theorem ta : ∀ {l : List (Int × Int)}, (firstP l).2 = 0 → ∀ p ∈ l, p.2 = 0
 | [], _, p, hp => by cases hp
 | a :: l, h, p, hp => by
  rw [xr] at h
  by_cases h0 : a.2 = 0
  ·rw [if_pos h0] at h
   rcases List.mem_cons.1 hp with rfl | hp
   ·exact h0
   ·exact ta h p hp
  ·rw [if_neg h0] at h; exact absurd h h0
structure OkD (d : Desg) : Prop where
 few : FewD d
 err : (designErrR d).2 = 0
def elWs (d : Desg) : List Int := d.elements.map (·.width)
def inWs (d : Desg) : List Int := d.inputs.map (·.width)
theorem xv (d : Desg) : leavesD d = inWs d ++ elWs d := rfl
structure WriteOk (d : Desg) (w : Wri) : Prop where
 el : inLen d.elements.length w.element = true
 cond : condL d.nodes w.cond = true
 val : isNodeL d.nodes w.value = true
 wid : widthL d.nodes w.value = elemW d w.element
section
variable {d : Desg} (h : OkD d)
include h
theorem OkD.part {p : Int × Int} (hp : p ∈ [(0, if isNameS d.name = true then 0 else 4), (0, if 12 < d.inputs.length then 8 else 0), portsR d, (0, if 40 < d.inputs.length + d.elements.length then 8 else 0), elemsR d,
 nodesErrR (leavesD d) d.nodes, (0, if 16 < d.rules.length then 8 else 0), rulesR d, (0, if 12 < d.outs.length then 8 else 0), outsR d, (0, if 16 < d.attrs.length then 8 else 0), attrsR d]) : p.2 = 0 := ta h.err p hp
theorem OkD.ports : (portsR d).2 = 0 := h.part (by simp)
theorem OkD.elems : (elemsR d).2 = 0 := h.part (by simp)
theorem OkD.rules : (rulesR d).2 = 0 := h.part (by simp)
theorem OkD.outs : (outsR d).2 = 0 := h.part (by simp)
theorem OkD.sum : d.inputs.length + d.elements.length ≤ 40 := by
 have := h.part (p := (0, if 40 < d.inputs.length + d.elements.length then 8 else 0)) (by simp)
 simp only at this
 split at this
 ·omega
 ·omega
theorem OkD.check : (checkNodesS (leavesD d) d.nodes).2 = 0 := by
 rw [rz h.ports h.elems (by have := h.sum; omega)]
 exact h.part (by simp)
theorem OkD.good : GoodAll (leavesD d) d.nodes := sT h.check
theorem OkD.elW : ∀ w ∈ elWs d, 1 ≤ w ∧ w ≤ 16 := fun w hw => by
 obtain ⟨x, hx, rfl⟩ := List.mem_map.1 hw
 have := (qS h.elems x hx).2.1
 unfold isW at this; simpa using this
theorem OkD.inW : ∀ w ∈ inWs d, 1 ≤ w ∧ w ≤ 16 := fun w hw => by
 obtain ⟨x, hx, rfl⟩ := List.mem_map.1 hw
 have := yh h.ports x hx
 unfold isW at this; simpa using this
theorem OkD.rule {r : Rul} (hr : r ∈ d.rules) : condL d.nodes r.guard = true ∧ ∀ w ∈ r.writes, WriteOk d w := by
 obtain ⟨j, hj⟩ := List.getElem?_of_mem hr
 have h1 := (oW (jo _ _ _ h.rules j r hj)).2.2
 unfold ruleTail at h1
 rcases bb (condL d.nodes r.guard) with h2 | h2
 ·refine ⟨h2, fun w hw => ?_⟩
  rw [h2] at h1
  simp only [Bool.true_eq_false, if_false, writesErrR] at h1
  split at h1
  ·exact absurd h1 (by decide)
  ·have h3 := qp (fun w => writeErrR d w) r.writes h1 w hw
   unfold writeErrR at h3
   rcases bb (inLen d.elements.length w.element) with a1 | a1 <;> rcases bb (condL d.nodes w.cond) with a2 | a2 <;> rcases bb (isNodeL d.nodes w.value) with a3 | a3 <;> simp [a1, a2, a3] at h3
   exact ⟨a1, a2, a3, h3⟩
 ·rw [h2, if_pos rfl] at h1; exact absurd h1 (by decide)
theorem OkD.out {o : Outp} (ho : o ∈ d.outs) : isNodeL d.nodes o.node = true := by
 obtain ⟨j, hj⟩ := List.getElem?_of_mem ho
 have h1 := (oW (jo _ _ _ h.outs j o hj)).2.2
 rcases bb (isNodeL d.nodes o.node) with h2 | h2
 ·exact h2
 ·rw [h2] at h1; exact absurd h1 (by decide)
end
def valsD (d : Desg) (l s : List Int) : List Int := valsL d.nodes (l ++ s) d.nodes.length
def hapL (ws : List Wri) (v s : List Int) : List Int := ws.foldl (fun out w => if at0 v w.cond.toNat = 1 then out.set w.element.toNat (at0 v w.value.toNat) else out) s
def begL (els : List Elem) (s : List Int) : List Int := List.zipWith (fun (x : Elem) n => if x.kind = 1 then x.init else n) els s
def enD (v : List Int) (r : Rul) : Bool := decide (at0 v r.guard.toNat = 1)
theorem oZ {a b x y : List Int} (h1 : LeafOk a x) (h2 : LeafOk b y) : LeafOk (a ++ b) (x ++ y) := by
 refine ⟨by simp [h1.1, h2.1], fun j w v hw hv => ?_⟩
 have hl := h1.1
 rcases Nat.lt_or_ge j a.length with hj | hj
 ·rw [List.getElem?_append_left hj] at hw
  rw [List.getElem?_append_left (by omega)] at hv
  exact h1.2 j w v hw hv
 ·rw [List.getElem?_append_right hj] at hw
  rw [List.getElem?_append_right (by omega), hl] at hv
  exact h2.2 _ w v hw hv
theorem fw {ws l : List Int} (hw : ∀ w ∈ ws, 1 ≤ w ∧ w ≤ 16) : valErrS ws l = 0 ↔ LeafOk ws l := by
 refine ⟨fun h => AO hw h, fun h => ?_⟩
 unfold valErrS
 rw [if_pos h.1, qq _ _ _ fun j v hj => ?_]
 have hlt := aa hj
 have hjw : j < ws.length := by have := h.1; omega
 have hg : ws[j]? = some ws[j] := bc hjw
 have h3 := hw _ (List.mem_of_getElem? hg)
 rw [Nat.zero_add, fF hg, if_pos ((nh h3.1 h3.2).2 (h.2 j _ v hg hj))]
theorem kf {nodes : List Node} {v : List Int} {n : Int} (h : isNodeL nodes n = true) (hv : v.length = nodes.length) : idxI v n = some (at0 v n.toNat) ∧ ∃ x, nodes[n.toNat]? = some x ∧ x.width = widthL nodes n := by
 unfold isNodeL at h
 simp only [Bool.and_eq_true, decide_eq_true_eq] at h
 obtain ⟨x, h1, h2⟩ := ky (l := v) (i := n) h.1 (by omega)
 refine ⟨by rw [h1, fF h2], ?_⟩
 have hg : nodes[n.toNat]? = some (nodes[n.toNat]'(by omega)) := bc (by omega)
 exact ⟨_, hg, by unfold widthL; rw [hg]⟩
theorem kC {nodes : List Node} {n : Int} (h : condL nodes n = true) : isNodeL nodes n = true := by unfold condL at h; simp at h; exact h.1
theorem il (d : Desg) (l s : List Int) : (valsD d l s).length = d.nodes.length := gE _ _ _
theorem BZ {d : Desg} (h : OkD d) {l s : List Int} (hl : LeafOk (inWs d) l) (hs : LeafOk (elWs d) s) {n : Int} (hn : isNodeL d.nodes n = true) : InW (at0 (valsD d l s) n.toNat) (widthL d.nodes n) := by
 obtain ⟨_, x, h1, h2⟩ := kf hn (il d l s)
 rw [← h2]
 exact nR h.good (oZ hl hs) d.nodes.length (Nat.le_refl _) _ x (aa h1) h1
theorem tI {d : Desg} {n : Int} (h : inLen d.elements.length n = true) : 0 ≤ n ∧ n.toNat < d.elements.length ∧ (elWs d)[n.toNat]? = some (elemW d n) := by
 unfold inLen at h
 simp only [Bool.and_eq_true, decide_eq_true_eq] at h
 have hg : d.elements[n.toNat]? = some (d.elements[n.toNat]'(by omega)) := bc (by omega)
 refine ⟨h.1, by omega, ?_⟩
 unfold elWs elemW
 rw [List.getElem?_map, hg]; rfl
theorem Hm {ws s : List Int} (hs : LeafOk ws s) {i : Nat} {w v : Int} (hw : ws[i]? = some w) (hv : InW v w) : LeafOk ws (s.set i v) := by
 refine ⟨by simp [hs.1], fun j w' v' h1 h2 => ?_⟩
 by_cases e : j = i
 ·subst e
  rw [hw] at h1; cases h1
  rw [List.getElem?_set_self (by have := hs.1; have := aa hw; omega)] at h2
  cases h2; exact hv
 ·rw [List.getElem?_set_ne (Ne.symm e)] at h2
  exact hs.2 j w' v' h1 h2
theorem wv {d : Desg} (h : OkD d) {l s0 : List Int} (hl : LeafOk (inWs d) l) (h0 : LeafOk (elWs d) s0) : ∀ {ws : List Wri} {s : List Int}, (∀ w ∈ ws, WriteOk d w) → LeafOk (elWs d) s → LeafOk (elWs d) (hapL ws (valsD d l s0) s)
 | [], _, _, hs => hs
 | w :: r, s, hw, hs => by
  have w1 := hw w (by simp)
  unfold hapL
  rw [List.foldl_cons]
  refine wv h hl h0 (fun x hx => hw x (by simp [hx])) ?_
  split
  ·have hv := BZ h hl h0 w1.val
   rw [w1.wid] at hv
   exact Hm hs (tI w1.el).2.2 hv
  ·exact hs
theorem FZ (els : List Elem) (s : List Int) (h : s.length = els.length) : (begL els s).length = els.length := by simp [begL, h]
theorem Hn {els : List Elem} {s : List Int} {j : Nat} {x : Elem} {n : Int} (hx : els[j]? = some x) (hn : s[j]? = some n) : (begL els s)[j]? = some (if x.kind = 1 then x.init else n) := by
 unfold begL; rw [List.getElem?_zipWith, hx, hn]
theorem tc {d : Desg} (h : OkD d) {s : List Int} (hs : LeafOk (elWs d) s) : LeafOk (elWs d) (begL d.elements s) := by
 have hl : s.length = d.elements.length := by rw [hs.1]; simp [elWs]
 refine ⟨by rw [FZ _ _ hl]; simp [elWs], fun j w v h1 h2 => ?_⟩
 unfold elWs at h1
 rw [List.getElem?_map, Option.map_eq_some_iff] at h1
 obtain ⟨x, hx, rfl⟩ := h1
 have hlt := aa hx
 have hn : s[j]? = some s[j] := bc (by omega)
 rw [Hn hx hn] at h2
 cases h2
 have hm := List.mem_of_getElem? hx
 have hw := h.elW x.width (List.mem_map.2 ⟨x, hm, rfl⟩)
 split
 ·exact (nh hw.1 hw.2).1 (qS h.elems x hm).2.2.1
 ·exact hs.2 j x.width _ (by simp [elWs, hx]) hn
variable {F : Nat} (hF : 1000000 < F)
include hF in
theorem ni {d : Desg} (h : OkD d) {l s : List Int} (hl : LeafOk (inWs d) l) (hs : LeafOk (elWs d) s) : av F d l s = some (valsD d l s) := by
 have a1 := hl.1
 have a2 := hs.1
 have a3 := h.few.inputs
 have a4 := h.few.elements
 have a5 := h.few.nodes
 unfold av
 rw [uD hF d a3 a4, Option.bind_some, if_pos (by simp [inWs] at a1; simp [elWs] at a2; omega), if_pos (by simp [leavesD]; omega), if_pos (by omega), if_pos (fun x hx => by have := h.few.args x hx; omega), if_pos h.check, if_pos (show LeafOk (leavesD d) (l ++ s) from oZ hl hs)]
 rfl
theorem td {d : Desg} (h : OkD d) {v : List Int} (hv : v.length = d.nodes.length) {r : Nat} {x : Rul} (hr : d.rules[r]? = some x) : au F d (r : Int) v = some (enD v x) := by
 unfold au enD
 rw [ga, hr, Option.bind_some, (kf (kC (h.rule (List.mem_of_getElem? hr)).1) hv).1]
 rfl
include hF in
theorem rA {d : Desg} (h : OkD d) {v s : List Int} (hv : v.length = d.nodes.length) (hs : s.length = d.elements.length) {r : Nat} {x : Rul} (hr : d.rules[r]? = some x) : ao F d (r : Int) v s = some (hapL x.writes v s) := by
 have hm := List.mem_of_getElem? hr
 have hw := (h.rule hm).2
 have hl := h.few.writes x hm
 have hel := h.few.elements
 unfold ao
 rw [if_pos (by omega)]
 by_cases h0 : 0 < s.length
 ·rw [if_pos (decide_eq_true h0), ga, hr, Option.bind_some]
  have k : ∀ (ws : List Wri) (i : Nat) (s : List Int), (∀ w ∈ ws, WriteOk d w) → s.length = d.elements.length → aJ F v x ws i s = some (hapL ws v s) := by
   intro ws
   induction ws with
   | nil => intro i s _ _; rfl
   | cons w ws ih =>
    intro i s hw hs
    have w1 := hw w (by simp)
    have e1 := (kf (kC w1.cond) hv).1
    have e2 := (kf w1.val hv).1
    obtain ⟨e3, e4, _⟩ := tI w1.el
    obtain ⟨y, e5, _⟩ := ky (l := s) (i := w.element) e3 (by omega)
    simp only [aJ, e1, e2, e5, Option.bind_some, hapL, List.foldl_cons]
    by_cases hc : at0 v w.cond.toNat = 1
    ·rw [if_pos (decide_eq_true hc), if_pos hc]
     exact ih _ _ (fun z hz => hw z (by simp [hz])) (by simpa using hs)
    ·rw [if_neg (by simpa using hc), if_neg hc]
     exact ih _ _ (fun z hz => hw z (by simp [hz])) hs
  have e := fN F v x (by omega) x.writes 0 F s rfl (by omega)
  rw [e, k _ _ _ hw hs]; rfl
 ·have hd0 : d.elements.length = 0 := by omega
  have hnil : x.writes = [] := by
   cases hx : x.writes with
   | nil => rfl
   | cons w ws =>
    have := (tI (hw w (by simp [hx])).el).2.1
    omega
  rw [if_neg (by simpa using h0), ga, hr, Option.bind_some]
  have e := fE F v s x (by omega) x.writes 0 F () rfl (by omega)
  rw [e, hnil]; rfl
include hF in
theorem pa {d : Desg} (h : d.elements.length ≤ 1000) {s : List Int} (hs : s.length = d.elements.length) : aI F d s = some (begL d.elements s) := by
 unfold aI
 rw [if_pos (by omega)]
 by_cases h0 : 0 < s.length
 ·rw [if_pos (decide_eq_true h0)]
  have k : ∀ (r : List Elem) (i : Nat) (o : List Int), d.elements.drop i = r → o.length = d.elements.length → aH F d r i o = some (o.take i ++ begL r (o.drop i)) := by
   intro r
   induction r with
   | nil =>
    intro i o hd ho
    have : d.elements.length ≤ i := by simpa using hd
    rw [List.take_of_length_le (by omega)]; simp [aH, begL]
   | cons x r ih =>
    intro i o hd ho
    have hlt := ir hd
    have hg : o[i]? = some o[i] := bc (by omega)
    have hdr : o.drop i = o[i] :: o.drop (i + 1) := by rw [List.drop_eq_getElem_cons (by omega)]
    simp only [aH, hg, Option.bind_some]
    by_cases hk : x.kind = 1
    ·rw [if_pos (decide_eq_true hk), ih _ _ (ah hd) (by simpa using ho), hdr]
     simp only [begL, List.zipWith_cons_cons, hk, if_true]
     rw [List.take_set, List.drop_set_of_lt (by omega), List.take_add_one, hg]
     simp only [Option.toList_some]
     have : (List.take i o ++ [o[i]]).set i x.init = List.take i o ++ [x.init] := by
      rw [List.set_append_right _ _ (by simp; omega)]; simp; rw [Nat.min_eq_left (by omega)]; simp
     rw [this]; simp
    ·rw [if_neg (by simpa using hk), ih _ _ (ah hd) ho, hdr]
     simp only [begL, List.zipWith_cons_cons, hk, if_false]
     rw [show List.take (i + 1) o = List.take i o ++ [o[i]] by rw [List.take_add_one, hg]; rfl, List.append_assoc]; rfl
  have e := gn F d (by omega) d.elements 0 F s rfl (by omega)
  rw [e, k d.elements 0 s rfl hs]; simp
 ·have hd0 : d.elements = [] := List.eq_nil_of_length_eq_zero (by omega)
  have hs0 : s = [] := List.eq_nil_of_length_eq_zero (by omega)
  have e := fX F d s (by omega) d.elements 0 F () rfl (by omega)
  rw [if_neg (by simpa using h0), e, hd0, hs0]; rfl
end Go.E
namespace Go.E
open Go.Proofs
def stepsAt (d : Desg) (i : Nat) (v s : List Int) : List Rul → Nat → List (DStep × List Int)
 | [], _ => []
 | x :: rs, r => if enD v x = true then (⟨i, r⟩, begL d.elements (hapL x.writes v s)) :: stepsAt d i v s rs (r + 1) else stepsAt d i v s rs (r + 1)
def stepsFrom (d : Desg) (s : List Int) : List (List Int) → Nat → List (DStep × List Int)
 | [], _ => []
 | l :: ls, i => stepsAt d i (valsD d l s) s d.rules 0 ++ stepsFrom d s ls (i + 1)
def encStep (p : DStep × List Int) : List V := [encDStep p.1, .list (p.2.map (.int .i64))]
def rdList {α : Type} (f : V → Option α) : V → Option (List α)
 | .list l => l.mapM f
 | _ => none
def rdInt : V → Option Int
 | .int .i64 n => some n
 | _ => none
def rdInts : V → Option (List Int) := rdList rdInt
def rdPort : V → Option Port
 | .agg [.str s, .int .i64 n] => some ⟨s, n⟩
 | _ => none
def rdElem : V → Option Elem
 | .agg [.str s, .int .i64 a, .int .i64 b, .int .i64 c, .int .i64 e] => some ⟨s, a, b, c, e⟩
 | _ => none
def rdNode : V → Option Node
 | .agg [.int .i64 a, .int .i64 b, l, .int .i64 c] => (rdInts l).map fun l => ⟨a, b, l, c⟩
 | _ => none
def rdWri : V → Option Wri
 | .agg [.int .i64 a, .int .i64 b, .int .i64 c] => some ⟨a, b, c⟩
 | _ => none
def rdRul : V → Option Rul
 | .agg [.str s, .int .i64 a, l] => (rdList rdWri l).map fun l => ⟨s, a, l⟩
 | _ => none
def rdOutp : V → Option Outp
 | .agg [.str s, .int .i64 n] => some ⟨s, n⟩
 | _ => none
def rdAttr : V → Option Attr
 | .agg [.int .i64 a, l] => (rdInts l).map fun l => ⟨a, l⟩
 | _ => none
def rdDesg : List V → Option Desg
 | [.str s, a, b, c, d, e, f] => (rdList rdPort a).bind fun a => (rdList rdElem b).bind fun b => (rdList rdNode c).bind fun c => (rdList rdRul d).bind fun d => (rdList rdOutp e).bind fun e => (rdList rdAttr f).map fun f => ⟨s, a, b, c, d, e, f⟩
 | _ => none
theorem yi {α : Type} {f : V → Option α} {enc : α → V} (h : ∀ v x, f v = some x → v = enc x) : ∀ {l : List V} {xs : List α}, l.mapM f = some xs → l = xs.map enc
 | [], xs, e => by simp at e; subst e; rfl
 | v :: l, xs, e => by
  simp only [List.mapM_cons, Option.bind_eq_bind, Option.pure_def] at e
  obtain ⟨x, h1, h2⟩ := Option.bind_eq_some_iff.1 e
  obtain ⟨ys, h3, h4⟩ := Option.bind_eq_some_iff.1 h2
  cases h4
  rw [h v x h1, yi h h3]; rfl
theorem iw {α : Type} {f : V → Option α} {enc : α → V} (h : ∀ v x, f v = some x → v = enc x) {v : V} {xs : List α} (e : rdList f v = some xs) : v = .list (xs.map enc) := by
 unfold rdList at e
 split at e
 ·rw [yi h e]
 ·cases e
theorem rd_mapM' {α : Type} {f : V → Option α} {enc : α → V} (h : ∀ x, f (enc x) = some x) : ∀ (xs : List α), (xs.map enc).mapM f = some xs
 | [] => rfl
 | x :: xs => by rw [List.map_cons, List.mapM_cons, h, rd_mapM' h xs]; rfl
theorem Ho {v : V} {n : Int} (e : rdInt v = some n) : v = .int .i64 n := by
 unfold rdInt at e; split at e <;> cases e; rfl
theorem qT {v : V} {n : List Int} (e : rdInts v = some n) : v = encInts n := iw (enc := V.int .i64) (fun _ _ => Ho) e
theorem F0 (v : V) (x : Port) (e : rdPort v = some x) : v = encPort x := by unfold rdPort at e; split at e <;> cases e; rfl
theorem F1 (v : V) (x : Elem) (e : rdElem v = some x) : v = encElem x := by unfold rdElem at e; split at e <;> cases e; rfl
theorem Hq (v : V) (x : Wri) (e : rdWri v = some x) : v = encWri x := by unfold rdWri at e; split at e <;> cases e; rfl
theorem F2 (v : V) (x : Outp) (e : rdOutp v = some x) : v = encOutp x := by unfold rdOutp at e; split at e <;> cases e; rfl
theorem F3 (v : V) (x : Node) (e : rdNode v = some x) : v = encNode x := by
 unfold rdNode at e
 split at e
 ·obtain ⟨l, h1, rfl⟩ := Option.map_eq_some_iff.1 e
  rw [qT h1]; rfl
 ·cases e
theorem Hr (v : V) (x : Rul) (e : rdRul v = some x) : v = encRul x := by
 unfold rdRul at e
 split at e
 ·obtain ⟨l, h1, rfl⟩ := Option.map_eq_some_iff.1 e
  rw [iw Hq h1]; rfl
 ·cases e
theorem F4 (v : V) (x : Attr) (e : rdAttr v = some x) : v = encAttr x := by
 unfold rdAttr at e
 split at e
 ·obtain ⟨l, h1, rfl⟩ := Option.map_eq_some_iff.1 e
  rw [qT h1]; rfl
 ·cases e
theorem F5 {l : List V} {d : Desg} (e : rdDesg l = some d) : l = cellsDesg d := by
 unfold rdDesg at e
 split at e
 case h_2 => cases e
 obtain ⟨a, h1, e⟩ := Option.bind_eq_some_iff.1 e
 obtain ⟨b, h2, e⟩ := Option.bind_eq_some_iff.1 e
 obtain ⟨c, h3, e⟩ := Option.bind_eq_some_iff.1 e
 obtain ⟨r, h4, e⟩ := Option.bind_eq_some_iff.1 e
 obtain ⟨o, h5, e⟩ := Option.bind_eq_some_iff.1 e
 obtain ⟨f, h6, rfl⟩ := Option.map_eq_some_iff.1 e
 rw [iw F0 h1, iw F1 h2, iw F3 h3, iw Hr h4, iw F2 h5, iw F4 h6]; rfl
theorem rd_ints' (l : List Int) : rdInts (encInts l) = some l := rd_mapM' (enc := V.int .i64) (fun _ => rfl) l
theorem rd_desg' (d : Desg) : rdDesg (cellsDesg d) = some d := by
 have h1 : rdList rdPort (.list (d.inputs.map encPort)) = some d.inputs := rd_mapM' (f := rdPort) (enc := encPort) (fun _ => rfl) _
 have h2 : rdList rdElem (.list (d.elements.map encElem)) = some d.elements := rd_mapM' (f := rdElem) (enc := encElem) (fun _ => rfl) _
 have h3 : rdList rdNode (.list (d.nodes.map encNode)) = some d.nodes := rd_mapM' (fun x => by
  show (rdInts (encInts x.args)).map _ = _; rw [rd_ints']; rfl) _
 have h4 : rdList rdRul (.list (d.rules.map encRul)) = some d.rules := rd_mapM' (fun x => by
  have : rdList rdWri (.list (x.writes.map encWri)) = some x.writes := rd_mapM' (f := rdWri) (enc := encWri) (fun _ => rfl) _
  show (rdList rdWri _).map _ = _; rw [this]; rfl) _
 have h5 : rdList rdOutp (.list (d.outs.map encOutp)) = some d.outs := rd_mapM' (f := rdOutp) (enc := encOutp) (fun _ => rfl) _
 have h6 : rdList rdAttr (.list (d.attrs.map encAttr)) = some d.attrs := rd_mapM' (fun x => by
  show (rdInts (encInts x.rules)).map _ = _; rw [rd_ints']; rfl) _
 simp only [rdDesg, cellsDesg, h1, h2, h3, h4, h5, h6, Option.bind_some, Option.map_some]
def sizesB (d : Desg) : Bool := decide (d.name.size ≤ 1000) && decide (d.inputs.length ≤ 1000) && decide (d.elements.length ≤ 1000) && decide (d.nodes.length ≤ 1000) && decide (d.rules.length ≤ 1000) && decide (d.outs.length ≤ 1000) && decide (d.attrs.length ≤ 1000) &&
 (d.inputs.all fun p => decide (p.name.size ≤ 1000)) && (d.elements.all fun p => decide (p.name.size ≤ 1000)) && (d.rules.all fun p => decide (p.name.size ≤ 1000)) && (d.outs.all fun p => decide (p.name.size ≤ 1000)) &&
 (d.nodes.all fun x => decide (x.args.length ≤ 1000)) && (d.rules.all fun x => decide (x.writes.length ≤ 1000)) && (d.attrs.all fun x => decide (x.rules.length ≤ 1000))
theorem uE {d : Desg} : sizesB d = true ↔ FewD d := by
 simp only [sizesB, Bool.and_eq_true, decide_eq_true_eq, List.all_eq_true]
 constructor
 ·rintro ⟨⟨⟨⟨⟨⟨⟨⟨⟨⟨⟨⟨⟨a1, a2⟩, a3⟩, a4⟩, a5⟩, a6⟩, a7⟩, a8⟩, a9⟩, a10⟩, a11⟩, a12⟩, a13⟩, a14⟩
  exact ⟨a1, a2, a3, a4, a5, a6, a7, a8, a9, a10, a11, a12, a13, a14⟩
 ·rintro ⟨a1, a2, a3, a4, a5, a6, a7, a8, a9, a10, a11, a12, a13, a14⟩
  exact ⟨⟨⟨⟨⟨⟨⟨⟨⟨⟨⟨⟨⟨a1, a2⟩, a3⟩, a4⟩, a5⟩, a6⟩, a7⟩, a8⟩, a9⟩, a10⟩, a11⟩, a12⟩, a13⟩, a14⟩
def stepsOkB (d : Desg) (inputs : List (List Int)) (s : List Int) : Bool :=
 sizesB d && decide ((designErrR d).2 = 0) && decide (inputs.length ≤ 1000000) && (inputs.all fun l => decide (valErrS (inWs d) l = 0)) && decide (valErrS (elWs d) s = 0)
structure StepsOk (d : Desg) (inputs : List (List Int)) (s : List Int) : Prop where
 ok : OkD d
 len : inputs.length ≤ 1000000
 ins : ∀ l ∈ inputs, LeafOk (inWs d) l
 st : LeafOk (elWs d) s
theorem rB {d : Desg} {inputs : List (List Int)} {s : List Int} : stepsOkB d inputs s = true ↔ StepsOk d inputs s := by
 simp only [stepsOkB, Bool.and_eq_true, decide_eq_true_eq, List.all_eq_true, uE]
 constructor
 ·rintro ⟨⟨⟨⟨h1, h2⟩, h3⟩, h4⟩, h5⟩
  have ok : OkD d := ⟨h1, h2⟩
  exact ⟨ok, h3, fun l hl => (fw ok.inW).1 (h4 l hl), (fw ok.elW).1 h5⟩
 ·rintro ⟨ok, h3, h4, h5⟩
  exact ⟨⟨⟨⟨ok.few, ok.err⟩, h3⟩, fun l hl => (fw ok.inW).2 (h4 l hl)⟩, (fw ok.elW).2 h5⟩
def iterS (gf : Nat) (caps : List V) : Option (List (List V)) :=
 match caps with
 | [.eptr [.list ins] 0, .eptr dcs 0, .eptr [.list ss] 0] =>
  if gf = 180 then
   (rdDesg dcs).bind fun d => (rdList rdInts (.list ins)).bind fun inputs => (rdInts (.list ss)).bind fun s =>
    if stepsOkB d inputs s = true then some ((stepsFrom d s inputs 0).map encStep) else none
  else none
 | _ => none
theorem B0 {d : Desg} {inputs : List (List Int)} {s : List Int} (h : StepsOk d inputs s) :
  iterS 180 [.eptr [.list (inputs.map encInts)] 0, .eptr (cellsDesg d) 0, .eptr [.list (s.map (.int .i64))] 0] = some ((stepsFrom d s inputs 0).map encStep) := by
 have h1 : rdList rdInts (.list (inputs.map encInts)) = some inputs := rd_mapM' rd_ints' _
 have h2 : rdInts (.list (s.map (.int .i64))) = some s := rd_ints' s
 simp only [iterS, if_true, rd_desg', h1, h2, Option.bind_some, if_pos (rB.2 h)]
theorem yX {gf : Nat} {caps : List V} {l : List (List V)} (h : iterS gf caps = some l) : gf = 180 ∧ ∃ d inputs s, StepsOk d inputs s ∧
  caps = [.eptr [.list (inputs.map encInts)] 0, .eptr (cellsDesg d) 0, .eptr [.list (s.map (.int .i64))] 0] ∧ l = (stepsFrom d s inputs 0).map encStep := by
 unfold iterS at h
 split at h
 case h_2 => cases h
 split at h
 case isFalse => cases h
 rename_i hg
 obtain ⟨d, h1, h⟩ := Option.bind_eq_some_iff.1 h
 obtain ⟨inputs, h2, h⟩ := Option.bind_eq_some_iff.1 h
 obtain ⟨s, h3, h⟩ := Option.bind_eq_some_iff.1 h
 split at h
 case isFalse => cases h
 rename_i hb
 cases h
 have e2 := iw (enc := encInts) (fun _ _ => qT) h2
 have e3 := qT h3
 refine ⟨hg, d, inputs, s, rB.1 hb, ?_, rfl⟩
 cases e2
 cases e3
 rw [F5 h1]
end Go.E
namespace Go.E
open Go.Proofs
set_option maxRecDepth 100000
set_option maxHeartbeats 4000000
theorem B1 {P : Program} {a : Act} {W : World} {o : Oper} {t : TypeId} {x : Operand} {b : Bool} (hop : o.op = .unOp .not t x) (hv : a.eval x = .bool b) : (execOp a.eval o).run P W = .ok (.value (.bool (!b))) W := by
 unfold execOp
 simp only [hop, hv]
 cases b <;> simp [Op.unary, go_sem]
theorem AP {P : Program} {a : Act} {W : World} {o : Oper} {c x y : Operand} {b z : Bool} (hop : o.op = .pick c x y) (hc : a.eval c = .bool b) (hz : (if b = true then a.eval x else a.eval y) = .bool z) : (execOp a.eval o).run P W = .ok (.value (.bool z)) W := by
 unfold execOp
 simp only [hop, hc]
 have ha : asBool (.bool b) = pure b := rfl
 simp only [ha, Sem.run_bind, Sem.run_pure, Result.andThen_ok, hz]
section
variable {d : Desg} {inputs : List (List Int)} {s : List Int} {L : Nat} {J : Nat → G → World → Prop} {Jx : World → Prop} {l : List (List V)}
structure StA (d : Desg) (inputs : List (List Int)) (s : List Int) (L : Nat) (ρ : Env) : Prop where
 h0 : ρ 0 = .yld L
 h1 : ρ 1 = .eptr [.list (inputs.map encInts)] 0
 h2 : ρ 2 = .eptr [.str d.name, .list (d.inputs.map encPort), .list (d.elements.map encElem), .list (d.nodes.map encNode), .list (d.rules.map encRul), .list (d.outs.map encOutp), .list (d.attrs.map encAttr)] 0
 h3 : ρ 3 = .eptr [.list (s.map (.int .i64))] 0
 h9 : ρ 9 = .list (inputs.map encInts)
 h10 : ρ 10 = .int .i64 (inputs.length : Int)
structure StO (d : Desg) (inputs : List (List Int)) (s : List Int) (L : Nat) (l : List (List V)) (i : Nat) (ρ : Env) (k : Nat) : Prop where
 a : StA d inputs s L ρ
 h11 : ρ 11 = .int .i64 (i : Int)
 rest : l.drop k = (stepsFrom d s (inputs.drop i) i).map encStep
 le : k ≤ l.length
structure StI (d : Desg) (inputs : List (List Int)) (s : List Int) (L : Nat) (l : List (List V)) (i : Nat) (v : List Int) (r : Nat) (ρ : Env) (k : Nat) : Prop where
 a : StA d inputs s L ρ
 h11 : ρ 11 = .int .i64 (i : Int)
 h5 : ρ 5 = .int .i64 (i : Int)
 h7 : ρ 7 = .list (v.map (.int .i64))
 h23 : ρ 23 = .int .i64 (d.rules.length : Int)
 h24 : ρ 24 = .int .i64 (r : Int)
 rest : l.drop k = (stepsAt d i v s (d.rules.drop r) r ++ stepsFrom d s (inputs.drop (i + 1)) (i + 1)).map encStep
 le : k ≤ l.length
theorem AQ {α : Type} {l : List α} {k : Nat} {x : α} {r : List α} (h : l.drop k = x :: r) : l[k]? = some x ∧ l.drop (k + 1) = r ∧ k + 1 ≤ l.length := ⟨ap h, ah h, ir h⟩
theorem F6 (hm : X.P.follows .mixedOrders = true) (hC : CallOk X (callw X)) (h : StepsOk d inputs s) (hJ : JOk J) (hY : YOk X.P L l J Jx) (hl : l = (stepsFrom d s inputs 0).map encStep) (c : Code) (hc : Tryz.f180.body = some c)
  (ρ : Env) (g0 : ρ 0 = .yld L) (g1 : ρ 1 = .eptr [.list (inputs.map encInts)] 0) (g2 : ρ 2 = .eptr (cellsDesg d) 0) (g3 : ρ 3 = .eptr [.list (s.map (.int .i64))] 0) :
  IW X.P 48 J Jx c ρ 0 (fun ex _ k => (ex = .normal ∨ ex = .ret) ∧ k = l.length) := by
 obtain rfl := Option.some.inj hc
 clear hc
 obtain ⟨F, hF⟩ : ∃ F, 1000000 < F := ⟨1000001, by omega⟩
 simp only [cellsDesg] at g2
 have hi6 := h.len
 have hr6 := h.ok.few.rules
 refine fk (dV hm hC hJ fun bs H => ?_)
 repeat' first
  | (refine yw1 (id := 7) oz16 oz17 ?_)
  | (refine zs ?_; repeat' first | apply zs0 | apply zs2 | (intro hc; try have hq := dq hc)) | fail
 refine ⟨rfl, rfl, ?_⟩
 show IW X.P 48 J Jx _ _ _ _
 refine oE (xX (fun m ρ k => ∃ i, i + m = inputs.length ∧ StO d inputs s L l i ρ k) ?_ inputs.length _ _ ⟨0, by omega, ⟨⟨yw3, yw3, yw3, yw3, yw3, yw3⟩, yw3, by rw [hl]; rfl, Nat.zero_le _⟩⟩)
 rintro m ρ k ⟨i, him, ⟨⟨a0, a1, a2, a3, a9, a10⟩, a11, hrest, hle⟩⟩
 clear g0 g1 g2 g3
 rcases Nat.eq_zero_or_pos m with rfl | hm0
 ·refine ⟨0, .inr rfl, ?_⟩
  obtain rfl : i = inputs.length := by omega
  have dd : decide ((inputs.length : Int) < (inputs.length : Int)) = false := decide_eq_false (by omega)
  have hk : k = l.length := by
   rw [List.drop_length] at hrest
   have := congrArg List.length hrest
   simp [stepsFrom] at this; omega
  refine fk (dV hm hC hJ fun bs H => ?_)
  repeat' first
   | (refine yw1 (id := 7) oz16 oz17 ?_)
   | (refine zs ?_; repeat' first | apply zs0 | apply zs2 | (intro hc; try have hq := dq hc)) | fail
  refine ⟨rfl, rfl, ?_⟩
  show IW X.P 48 J Jx _ _ _ _
  refine fk (lV (b := false) (yw3) ?_)
  exact xW ⟨.inl rfl, hk⟩
 ·obtain ⟨m, rfl⟩ : ∃ m', m = m' + 1 := ⟨m - 1, by omega⟩
  refine ⟨m, .inl rfl, ?_⟩
  have hlt : i < inputs.length := by omega
  have dd : decide ((i : Int) < (inputs.length : Int)) = true := decide_eq_true (by omega)
  obtain ⟨x, hx⟩ : ∃ x, inputs[i]? = some x := ⟨_, bc hlt⟩
  have hxo := h.ins x (List.mem_of_getElem? hx)
  have hdr : inputs.drop i = x :: inputs.drop (i + 1) := by rw [List.drop_eq_getElem_cons hlt]; congr 1; rw [bc hlt] at hx; exact Option.some.inj hx
  have hw := add1 i inputs.length hlt (by omega)
  have t1 := fun bs H => cD bs H F d x s _ (ni hF h.ok hxo h.st)
  simp only [encDesg, cellsDesg] at t1
  have hvl := il d x s
  rw [hdr, stepsFrom] at hrest
  generalize valsD d x s = v at t1 hvl hrest
  refine fk (dV hm hC hJ fun bs H => ?_)
  repeat' first
   | (refine yw1 (id := 7) oz16 oz17 ?_)
   | (refine zs ?_; repeat' first | apply zs0 | apply zs2 | (intro hc; try have hq := dq hc)) | fail
  refine ⟨rfl, rfl, ?_⟩
  show IW X.P 48 J Jx _ _ _ _
  refine fk (lV (b := true) (yw3) (qP ?_))
  show IW X.P 48 J Jx _ _ _ _
  refine fk (oE (fk (dV hm hC hJ fun bs H => ?_)))
  repeat' first
   | (refine yw1 (id := 7) oz16 oz17 ?_)
   | (refine zs ?_; repeat' first | apply zs0 | apply zs2 | (intro hc; try have hq := dq hc)) | fail
  refine ⟨rfl, rfl, ?_⟩
  show IW X.P 48 J Jx _ _ _ _
  refine fk (dV hm hC hJ fun bs H => ?_)
  repeat' first
   | (refine yw1 (id := 7) oz16 oz17 ?_)
   | (refine zs ?_; repeat' first | apply zs0 | apply zs2 | (intro hc; try have hq := dq hc)) | fail
  refine ⟨rfl, rfl, ?_⟩
  show IW X.P 48 J Jx _ _ _ _
  refine fk (dV hm hC hJ fun bs H => ?_)
  repeat' first
   | (refine yw1 (id := 7) oz16 oz17 ?_)
   | (refine zs ?_; repeat' first | apply zs0 | apply zs2 | (intro hc; try have hq := dq hc)) | fail
  refine ⟨rfl, rfl, ?_⟩
  show IW X.P 48 J Jx _ _ _ _
  refine oE (xX (fun m ρ k => ∃ r, r + m = d.rules.length ∧ StI d inputs s L l i v r ρ k) ?_ d.rules.length _ _ ⟨0, by omega, ⟨⟨yw3, yw3, yw3, yw3, yw3, yw3⟩, yw3, yw3, yw3, yw3, yw3, hrest, hle⟩⟩)
  clear hrest hle a0 a1 a2 a3 a9 a10 a11
  rintro m' ρ k ⟨r, hrm, ⟨⟨a0, a1, a2, a3, a9, a10⟩, a11, a5, a7, a23, a24, hrest, hle⟩⟩
  rcases Nat.eq_zero_or_pos m' with rfl | hm0
  ·refine ⟨0, .inr rfl, ?_⟩
   obtain rfl : r = d.rules.length := by omega
   have dd2 : decide ((d.rules.length : Int) < (d.rules.length : Int)) = false := decide_eq_false (by omega)
   rw [List.drop_length, stepsAt, List.nil_append] at hrest
   refine fk (dV hm hC hJ fun bs H => ?_)
   repeat' first
    | (refine yw1 (id := 7) oz16 oz17 ?_)
    | (refine zs ?_; repeat' first | apply zs0 | apply zs2 | (intro hc; try have hq := dq hc)) | fail
   refine ⟨rfl, rfl, ?_⟩
   show IW X.P 48 J Jx _ _ _ _
   refine fk (lV (b := false) (yw3) ?_)
   refine xW ?_
   show IW X.P 48 J Jx _ _ _ _
   refine dV hm hC hJ fun bs H => ?_
   repeat' first
    | (refine yw1 (id := 7) oz16 oz17 ?_)
    | (refine zs ?_; repeat' first | apply zs0 | apply zs2 | (intro hc; try have hq := dq hc)) | fail
   exact ⟨rfl, rfl, by omega, i + 1, by omega, ⟨⟨yw3, yw3, yw3, yw3, yw3, yw3⟩, yw3, hrest, hle⟩⟩
  obtain ⟨m', rfl⟩ : ∃ z, m' = z + 1 := ⟨m' - 1, by omega⟩
  refine ⟨m', .inl rfl, ?_⟩
  have hlt2 : r < d.rules.length := by omega
  have dd2 : decide ((r : Int) < (d.rules.length : Int)) = true := decide_eq_true (by omega)
  obtain ⟨y, hy⟩ : ∃ y, d.rules[r]? = some y := ⟨_, bc hlt2⟩
  have hdr2 : d.rules.drop r = y :: d.rules.drop (r + 1) := by rw [List.drop_eq_getElem_cons hlt2]; congr 1; rw [bc hlt2] at hy; exact Option.some.inj hy
  have hw2 := add1 r d.rules.length hlt2 (by omega)
  have t2 := fun bs H => di bs H F d (r : Int) v _ (td h.ok hvl hy)
  have hsl : s.length = d.elements.length := by rw [h.st.1]; simp [elWs]
  have t3 := fun bs H => dE bs H F d (r : Int) v s _ (rA hF h.ok hvl hsl hy)
  have hpl : (hapL y.writes v s).length = d.elements.length := by
   have : ∀ (ws : List Wri) (o : List Int), (hapL ws v o).length = o.length := by
    intro ws
    induction ws with
    | nil => intro o; rfl
    | cons w ws ih => intro o; unfold hapL at ih ⊢; rw [List.foldl_cons, ih]; split <;> simp
   rw [this, hsl]
  have t4 := fun bs H => ev bs H F d (hapL y.writes v s) _ (pa hF h.ok.few.elements hpl)
  simp only [encDesg, cellsDesg] at t2 t3 t4
  rw [hdr2, stepsAt] at hrest
  refine fk (dV hm hC hJ fun bs H => ?_)
  repeat' first
   | (refine yw1 (id := 7) oz16 oz17 ?_)
   | (refine zs ?_; repeat' first | apply zs0 | apply zs2 | (intro hc; try have hq := dq hc)) | fail
  refine ⟨rfl, rfl, ?_⟩
  show IW X.P 48 J Jx _ _ _ _
  refine fk (lV (b := true) (yw3) (qP ?_))
  show IW X.P 48 J Jx _ _ _ _
  refine fk (oE (fk (dV hm hC hJ fun bs H => ?_)))
  repeat' first
   | (refine yw1 (id := 7) oz16 oz17 ?_)
   | (refine zs ?_; repeat' first | apply zs0 | apply zs2 | (intro hc; try have hq := dq hc)) | fail
  refine ⟨rfl, rfl, ?_⟩
  show IW X.P 48 J Jx _ _ _ _
  rcases bb (enD v y) with he | he
  case inr =>
   rw [he] at t2
   rw [he, if_neg (by simp)] at hrest
   refine fk (dV hm hC hJ fun bs H => ?_)
   repeat' first
    | (refine yw1 (id := 7) oz16 oz17 ?_)
    | (refine zs ?_; repeat' first | apply zs0 | apply zs2 | (intro hc; try have hq := dq hc)) | fail
   refine ⟨rfl, rfl, ?_⟩
   show IW X.P 48 J Jx _ _ _ _
   refine lV (b := false) (yw3) (qP ?_)
   show IW X.P 48 J Jx _ _ _ _
   refine dV hm hC hJ fun bs H => ?_
   repeat' first
    | (refine yw1 (id := 7) oz16 oz17 ?_)
    | (refine zs ?_; repeat' first | apply zs0 | apply zs2 | (intro hc; try have hq := dq hc)) | fail
   exact ⟨rfl, rfl, by omega, r + 1, by omega, ⟨⟨yw3, yw3, yw3, yw3, yw3, yw3⟩, yw3, yw3, yw3, yw3, yw3, hrest, hle⟩⟩
  rw [he] at t2
  rw [he, if_pos rfl, List.cons_append, List.map_cons] at hrest
  obtain ⟨hlk, hrest, hle⟩ := AQ hrest
  simp only [encStep, encDStep, cellsDStep] at hlk
  generalize begL d.elements (hapL y.writes v s) = nx at t4 hlk
  generalize hapL y.writes v s = hp at t3 t4
  intro g W a st
  refine wpIn_seq (vX hm hC hJ hY (ord := [0, 1, 2, 3, 4, 5, 6, 7, 8, 9, 10, 11, 12, 13, 14, 15]) (ps := [(9, 14)]) (y := 16) (m := 2) (by kernel_rfl) rfl rfl (by decide) rfl rfl (by intro i hi; have e := Option.some.inj hi; subst e; decide) (by kernel_rfl) (by kernel_rfl) (fun bs H => ?_) st)
  repeat' first
   | (refine yw1 (id := 7) oz16 oz17 ?_)
   | (refine zs ?_; repeat' first | apply zs0 | apply zs2 | (intro hc; try have hq := dq hc)) | fail
  refine ⟨rfl, by (simp only [seval, push_cast, *] <;> fail), yw3, by rw [hlk]; (simp only [seval, push_cast, *] <;> rfl), fun g W a st => ?_, fun W a hb hf hs hd hx => ?_⟩
  ·refine xZ hC hJ (i := 17) (m := 1) (v := .bool false) (by kernel_rfl) (by kernel_rfl) rfl (by (simp only [putO, seval, push_cast, *] <;> fail)) (by intro i hi; have e := Option.some.inj hi; subst e; decide) (fun bs H => by (simp only [putO, seval, push_cast, *] <;> rfl)) st (fun g W a st => ?_)
   refine xZ hC hJ (i := 18) (m := 0) (v := .bool false) (by kernel_rfl) (by kernel_rfl) rfl (by (simp only [putO, seval, push_cast, *] <;> fail)) (by intro i hi; have e := Option.some.inj hi; subst e; decide) (fun bs H => by (simp only [putO, seval, push_cast, *] <;> rfl)) st (fun g W a st => ya (by kernel_rfl) ?_)
   refine (lV (b := false) (by (simp only [putO, seval, push_cast, *] <;> rfl)) (qP ?_)) g W a st
   show IW X.P 48 J Jx _ _ _ _
   simp only [putO]
   refine dV hm hC hJ fun bs H => ?_
   repeat' first
    | (refine yw1 (id := 7) oz16 oz17 ?_)
    | (refine zs ?_; repeat' first | apply zs0 | apply zs2 | (intro hc; try have hq := dq hc)) | fail
   exact ⟨rfl, rfl, by omega, r + 1, by omega, ⟨⟨yw3, yw3, yw3, yw3, yw3, yw3⟩, yw3, yw3, yw3, yw3, yw3, hrest, hle⟩⟩
  ·have hb31 : a.tmps.getD 31 Go.undef = .bool true := hb 31 true (by intro e; have e := Option.some.inj e; exact absurd e (by decide)) (yw3)
   refine vY (b := fun i => if i = 31 then some true else if i = 43 then some false else none) (i := 17) (m := 1) (y := true) (by kernel_rfl) (by kernel_rfl) rfl rfl ⟨hx, fun i x h => ?_, hs, hd⟩ (fun c e => by cases e) (fun hv => B1 rfl (hv 43 false rfl)) 44 rfl (by decide) (fun W a st => ?_)
   ·by_cases e : i = 31
    ·subst e; rw [if_pos rfl] at h; cases h; exact hb31
    ·rw [if_neg e] at h
     by_cases e2 : i = 43
     ·subst e2; rw [if_pos rfl] at h; cases h; exact hf 43 rfl
     ·rw [if_neg e2] at h; cases h
   refine vY (i := 18) (m := 0) (y := true) (by kernel_rfl) (by kernel_rfl) rfl rfl st (fun c e => by cases e) (fun hv => AP (b := true) rfl (hv 31 true rfl) (by rw [if_pos rfl]; exact hv 44 true rfl)) 45 rfl (by decide) (fun W a st => ya (by kernel_rfl) ?_)
   have h45 : a.eval (.tmp 45) = .bool true := by simpa [Act.eval] using st.env 45 true rfl
   exact wpIn_cond_true h45 (wpIn_ret (.inr ⟨rfl, st.j, st.df⟩))
end
theorem xw (gf : Nat) (caps : List V) (l : List (List V)) (h : X.iter gf caps = some l) : False := by
 have hit' : iterB [] gf caps = some l := h
 unfold iterB at hit'
 split at hit'
 ·split at hit' <;> simp_all
 ·cases hit'
noncomputable def X2 : Cx := { X with iter := iterS }
theorem F7 (hm : Tryz.prog.follows .mixedOrders = true) (hC : CallOk X (callw X)) : IterOk X2 := by
 intro gf caps l hit
 have hit' : iterS gf caps = some l := hit
 obtain ⟨rfl, d, inputs, s, hok, rfl, rfl⟩ := yX hit'
 refine ⟨⟨Tryz.f180, Tryz.func180, rfl, by decide +kernel⟩, ?_⟩
 exact Fs (cx := X) (fn := Tryz.f180) Tryz.func180 rfl (fun tmps w => by simp [results, Tryz.f180, go_sem]) (fun L J Jx hJ hY => F6 hm hC hok hJ hY rfl _ rfl _ rfl rfl rfl rfl)
theorem cR {bs : List Nat} {f : Nat} {a : List V} {H : Heap} {r : V × Heap} (h : callw X bs f a H = some r) : callw X2 bs f a H = some r := BH (cx := X) (it := iterS) (fun gf caps l e => by
 have := xw gf caps l e
 exact this.elim) h
theorem x2P : X2.P = X.P := Eq.trans rfl rfl
theorem Of : X2.own = X.own := Eq.trans rfl rfl
theorem Hs : X2.thaw = X.thaw := Eq.trans rfl rfl
theorem Og : X2.vec = X.vec := Eq.trans rfl rfl
attribute [push_cast] x2P Of Hs Og
end Go.E
namespace Go.E
open Go.Proofs
set_option maxRecDepth 100000
theorem pb {α : Type} {f : α → V} : ∀ {es : List V}, (∀ el ∈ es, ∃ a, el = f a) → ∃ l : List α, es = l.map f
 | [], _ => ⟨[], rfl⟩
 | e :: r, h => by
  obtain ⟨a, ha⟩ := h e (by simp)
  obtain ⟨l, hl⟩ := pb (es := r) fun el hm => h el (by simp [hm])
  exact ⟨a :: l, by rw [ha, hl]; rfl⟩
theorem iZ {α : Type} {f : α → V} {n : Nat} {t e : TypeId} {xs : List V} (hu : Tryz.prog.underlying t = some (.slice e)) (hr : isRow (Tryz.prog.underlying e) = true)
  (hf : ∀ ys, CellsT Tryz.prog n e ys → ∃ a, V.agg ys = f a) (h : CellsT Tryz.prog (n + 1) t xs) : ∃ l : List α, xs = [.list (l.map f)] := by
 unfold CellsT at h
 simp only [hu, hr, if_true] at h
 obtain ⟨es, rfl, _, he⟩ := h
 obtain ⟨l, hl⟩ := pb (f := f) (es := es) fun el hm => by
  obtain ⟨h1, h2⟩ := he el hm
  obtain ⟨a, ha⟩ := hf _ h1
  exact ⟨a, h2.trans ha⟩
 exact ⟨l, by rw [hl]⟩
theorem lZ (n : Nat) (xs : List V) (h : CellsT Tryz.prog (n + 1) 3 xs) : ∃ i : Int, xs = [.int .i64 i] := by
 simp only [CellsT, Tryz.underlying3] at h
 obtain ⟨i, rfl, _⟩ := h
 exact ⟨i, rfl⟩
theorem yj (n : Nat) (xs : List V) (h : CellsT Tryz.prog (n + 1) 9 xs) : ∃ s : ByteArray, xs = [.str s] := by
 simp only [CellsT, Tryz.underlying9] at h
 obtain ⟨s, rfl, _⟩ := h
 exact ⟨s, rfl⟩
theorem rZ (n : Nat) (xs : List V) (h : CellsT Tryz.prog (n + 2) 30 xs) : ∃ l : List Int, xs = [.list (l.map (.int .i64))] := by
 simp only [CellsT, Tryz.underlying30, Tryz.underlying3, isRow, Bool.false_eq_true, if_false] at h
 obtain ⟨es, rfl, _, he⟩ := h
 obtain ⟨l, hl⟩ := pb (f := V.int .i64) (es := es) fun el hm => by
  obtain ⟨⟨i, h1, _⟩, h2⟩ := he el hm
  rw [h1] at h2
  exact ⟨i, (List.cons.inj h2).1.symm⟩
 exact ⟨l, by rw [hl]⟩
theorem AR (n : Nat) (xs : List V) (h : CellsT Tryz.prog (n + 3) 40 xs) : ∃ l : List (List Int), xs = [.list (l.map encInts)] := by
 unfold CellsT at h
 simp only [Tryz.underlying40, Tryz.underlying30, isRow, Bool.false_eq_true, if_false] at h
 obtain ⟨es, rfl, _, he⟩ := h
 obtain ⟨l, hl⟩ := pb (f := encInts) (es := es) fun el hm => by
  obtain ⟨h1, h2⟩ := he el hm
  obtain ⟨a, ha⟩ := rZ n _ h1
  have h3 := h2.symm.trans ha
  exact ⟨a, (List.cons.inj h3).1⟩
 exact ⟨l, by rw [hl]⟩
theorem B2 (n : Nat) (xs : List V) (h : CellsT Tryz.prog (n + 2) 108 xs) : ∃ p : Port, V.agg xs = encPort p := by
 simp only [CellsT, Tryz.underlying108, FieldsT, Tryz.underlying9, Tryz.underlying3] at h
 obtain ⟨_, _, rfl, ⟨s, rfl, _⟩, _, _, rfl, ⟨i, rfl, _⟩, rfl⟩ := h
 exact ⟨⟨s, i⟩, rfl⟩
theorem B3 (n : Nat) (xs : List V) (h : CellsT Tryz.prog (n + 2) 112 xs) : ∃ p : Outp, V.agg xs = encOutp p := by
 simp only [CellsT, Tryz.underlying112, FieldsT, Tryz.underlying9, Tryz.underlying3] at h
 obtain ⟨_, _, rfl, ⟨s, rfl, _⟩, _, _, rfl, ⟨i, rfl, _⟩, rfl⟩ := h
 exact ⟨⟨s, i⟩, rfl⟩
theorem B4 (n : Nat) (xs : List V) (h : CellsT Tryz.prog (n + 2) 110 xs) : ∃ p : Elem, V.agg xs = encElem p := by
 simp only [CellsT, Tryz.underlying110, FieldsT, Tryz.underlying9, Tryz.underlying3] at h
 obtain ⟨_, _, rfl, ⟨s, rfl, _⟩, _, _, rfl, ⟨i, rfl, _⟩, _, _, rfl, ⟨j, rfl, _⟩, _, _, rfl, ⟨k, rfl, _⟩, _, _, rfl, ⟨l, rfl, _⟩, rfl⟩ := h
 exact ⟨⟨s, i, j, k, l⟩, rfl⟩
theorem F8 (n : Nat) (xs : List V) (h : CellsT Tryz.prog (n + 2) 80 xs) : ∃ p : Wri, V.agg xs = encWri p := by
 simp only [CellsT, Tryz.underlying80, FieldsT, Tryz.underlying3] at h
 obtain ⟨_, _, rfl, ⟨i, rfl, _⟩, _, _, rfl, ⟨j, rfl, _⟩, _, _, rfl, ⟨k, rfl, _⟩, rfl⟩ := h
 exact ⟨⟨i, j, k⟩, rfl⟩
theorem B5 (n : Nat) (xs : List V) (h : CellsT Tryz.prog (n + 3) 104 xs) : ∃ p : Node, V.agg xs = encNode p := by
 unfold CellsT at h
 simp only [Tryz.underlying104, FieldsT] at h
 obtain ⟨_, _, rfl, h1, _, _, rfl, h2, _, _, rfl, h3, _, _, rfl, h4, rfl⟩ := h
 obtain ⟨l, rfl⟩ := rZ n _ h3
 obtain ⟨i, rfl⟩ := lZ (n + 1) _ h1
 obtain ⟨j, rfl⟩ := lZ (n + 1) _ h2
 obtain ⟨k, rfl⟩ := lZ (n + 1) _ h4
 exact ⟨⟨i, j, l, k⟩, rfl⟩
theorem B6 (n : Nat) (xs : List V) (h : CellsT Tryz.prog (n + 3) 106 xs) : ∃ p : Attr, V.agg xs = encAttr p := by
 unfold CellsT at h
 simp only [Tryz.underlying106, FieldsT] at h
 obtain ⟨_, _, rfl, h1, _, _, rfl, h2, rfl⟩ := h
 obtain ⟨l, rfl⟩ := rZ n _ h2
 obtain ⟨i, rfl⟩ := lZ (n + 1) _ h1
 exact ⟨⟨i, l⟩, rfl⟩
theorem F9 (n : Nat) (xs : List V) (h : CellsT Tryz.prog (n + 4) 74 xs) : ∃ p : Rul, V.agg xs = encRul p := by
 unfold CellsT at h
 simp only [Tryz.underlying74, FieldsT] at h
 obtain ⟨_, _, rfl, h1, _, _, rfl, h2, _, _, rfl, h3, rfl⟩ := h
 obtain ⟨s, rfl⟩ := yj (n + 2) _ h1
 obtain ⟨i, rfl⟩ := lZ (n + 2) _ h2
 obtain ⟨l, rfl⟩ := iZ (f := encWri) Tryz.underlying72 (by rw [Tryz.underlying80]; rfl) (fun ys hy => F8 n ys hy) h3
 exact ⟨⟨s, i, l⟩, rfl⟩
theorem B7 (n : Nat) (xs : List V) (h : CellsT Tryz.prog (n + 6) 29 xs) : ∃ m : Desg, xs = cellsDesg m := by
 unfold CellsT at h
 simp only [Tryz.underlying29, FieldsT] at h
 obtain ⟨_, _, rfl, h1, _, _, rfl, h2, _, _, rfl, h3, _, _, rfl, h4, _, _, rfl, h5, _, _, rfl, h6, _, _, rfl, h7, rfl⟩ := h
 obtain ⟨s, rfl⟩ := yj (n + 4) _ h1
 obtain ⟨l2, rfl⟩ := iZ (f := encPort) Tryz.underlying22 (by rw [Tryz.underlying108]; rfl) (fun ys hy => B2 (n + 2) ys hy) h2
 obtain ⟨l3, rfl⟩ := iZ (f := encElem) Tryz.underlying23 (by rw [Tryz.underlying110]; rfl) (fun ys hy => B4 (n + 2) ys hy) h3
 obtain ⟨l4, rfl⟩ := iZ (f := encNode) Tryz.underlying24 (by rw [Tryz.underlying104]; rfl) (fun ys hy => B5 (n + 1) ys hy) h4
 obtain ⟨l5, rfl⟩ := iZ (f := encRul) Tryz.underlying25 (by rw [Tryz.underlying74]; rfl) (fun ys hy => F9 n ys hy) h5
 obtain ⟨l6, rfl⟩ := iZ (f := encOutp) Tryz.underlying26 (by rw [Tryz.underlying112]; rfl) (fun ys hy => B3 (n + 2) ys hy) h6
 obtain ⟨l7, rfl⟩ := iZ (f := encAttr) Tryz.underlying27 (by rw [Tryz.underlying106]; rfl) (fun ys hy => B6 (n + 1) ys hy) h7
 exact ⟨⟨s, l2, l3, l4, l5, l6, l7⟩, rfl⟩
end Go.E
set_option linter.all false
namespace Go.E
open Go.Proofs Classical
set_option maxRecDepth 100000
set_option maxHeartbeats 20000000
noncomputable section
def dt (F : Nat) (s1_ : List Int) (s2_ : List Int) : Nat → Nat → Option (Oc (Bool) (Unit))
 | 0, _ => none
 | k + 1, s2 => (if (decide ((s2 : Int) < (s1_.length : Int))) = true then ((s1_[s2]?).bind fun x5 => ((s2_[s2]?).bind fun x6 => (if (decide (¬x5 = x6)) = true then some (.a false) else (if inI ((s2 : Int) + 1) then dt F s1_ s2_ k (s2 + 1) else none)))) else some (.b ()))
theorem pG (bs : List Nat) (H : Heap) (F : Nat) (s1_ : List Int) (s2_ : List Int) : ∀ k s r ρ H', (∃ J3, H' = H ++ J3 ∧ ρ 0 = .list (s1_.map (V.int .i64)) ∧ ρ 1 = .list (s2_.map (V.int .i64)) ∧ ρ 12 = .int .i64 (s1_.length : Int) ∧ ρ 13 = .int .i64 (s : Int)) → dt F s1_ s2_ k s = some r → Lp X ⟨26, H.length :: bs⟩ (loopAt Tryz.f136 0) ρ H' ((fun r ex ρ H' => match r with | .a r => ∃ J3, H' = H ++ J3 ∧ ex = .ret ∧ ρ 4 = .bool r | .b r => ∃ J3, H' = H ++ J3 ∧ ex = .exit 0) r) := by
 refine ac (fun _ => rfl) ?_
 rintro k s2 r ρ H' ⟨J3, hH, h0, h1, h12, h13⟩ hR
 skip
 subst hH
 rw [dt] at hR
 conv => arg 3; whnf
 try refine zw ?_
 rcases iteE hR with ⟨c4, hR⟩ | ⟨c4, hR⟩
 ·obtain ⟨x5, x5_e, hR⟩ := bindE hR
  obtain ⟨x6, x6_e, hR⟩ := bindE hR
  try refine zu ?_
  (refine yw0 (id := 6) oz1 ?_)
  try refine zw ?_
  rcases iteE hR with ⟨c7, hR⟩ | ⟨c7, hR⟩
  ·obtain rfl := someE hR
   refine zu ?_
   exact ⟨_, hq, rfl, sl⟩
  ·obtain ⟨g8, hR⟩ := grdE hR
   have g8_w := ae g8
   refine zu ?_
   exact ⟨(s2 + 1), ⟨_, hq, sl, sl, sl, sl⟩, hR.out⟩
 ·obtain rfl := someE hR
  refine zu ?_
  exact ⟨_, hq, rfl⟩
def dJ (F : Nat) (s1_ : List Int) (s2_ : List Int) : List Int → Nat → Unit → Option (Oc (Bool) (Unit))
 | [], s2, _ => some (.b ())
 | x_ :: r_, s2, _ => ((s2_[s2]?).bind fun x6 => (if (decide (¬x_ = x6)) = true then some (.a false) else dJ F s1_ s2_ r_ (s2 + 1) ()))
theorem jJ (F : Nat) (s1_ : List Int) (s2_ : List Int) (hl_ : s1_.length ≤ 1000000) : ∀ r_ i_ k_ (o_ : Unit), s1_.drop i_ = r_ → r_.length < k_ → dt F s1_ s2_ k_ i_ = dJ F s1_ s2_ r_ i_ o_
 | _, _, 0, _, _, hk => absurd hk (Nat.not_lt_zero _)
 | [], i_, k_ + 1, _, hd, _ => by rw [dt, dJ]; simp only [aj hd, Bool.false_eq_true, if_false]
 | x_ :: r_, i_, k_ + 1, _, hd, hk => by
  have ih := jJ F s1_ s2_ hl_ r_ (i_ + 1) k_ () (ah hd) (Nat.lt_of_succ_lt_succ hk)
  rw [dt, dJ]; simp only [az hd, ap hd, if_pos (aC hd hl_), Option.bind_some, if_true, ih]
def gp (F : Nat) (s1_ : List Int) (s2_ : List Int) : Option (Bool) := (if (decide (¬(s1_.length : Int) = (s2_.length : Int))) = true then some false else ((dt F s1_ s2_ F 0).bind fun o9 => match o9 with | .a o10 => some o10 | .b o12 => some true))
theorem sa (bs : List Nat) (H : Heap) (F : Nat) (s1_ : List Int) (s2_ : List Int) (R : Bool) (hR0 : gp F s1_ s2_ = some R) : callw X bs 136 [.list (s1_.map (V.int .i64)), .list (s2_.map (V.int .i64))] H = some (.bool R, H) := by
 refine yw2 (rs := [.tmp 4]) (N := 26) (fn := Tryz.f136) C3 MW ?_
 have hR := Kp.mk hR0
 clear hR0
 rw [gp] at hR
 try refine zw ?_
 rcases iteE hR with ⟨c1, hR⟩ | ⟨c1, hR⟩
 ·obtain rfl := someE hR
  exact zv
 ·obtain ⟨o9, o9_e, hR⟩ := bindE hR
  refine zu ?_
  refine ab (af (c := (loopAt Tryz.f136 0)) rfl (pG _ H F s1_ s2_ _ 0 o9 _ _ ⟨[], by simp, sl, sl, sl, sl⟩ o9_e)) ?_
  rcases o9 with o10 | o12
  ·rintro ex ρ' H' ⟨J11, rfl, rfl, q4_o10⟩ hf
   clear hf
   obtain rfl := someE hR
   exact zv
  ·rintro ex ρ' H' ⟨J13, rfl, rfl⟩ hf
   clear hf
   obtain rfl := someE hR
   exact zv
def bm (F : Nat) (cv0 : List Int) (v : DVisit) : Option (Bool) := ((gp F v.state cv0).bind fun y1 => some y1)
theorem gq (bs : List Nat) (H : Heap) (F : Nat) (ca0 : Nat) (cv0 : List Int) (hca0 : H[ca0]? = some (.cells [.list (cv0.map (V.int .i64))])) (v : DVisit) (R : Bool) (hR0 : bm F cv0 v = some R) : callw X bs 160 [(encDVisit v), .ptr ca0 0] H = some (.bool R, H) := by
 refine yw2 (rs := [.tmp 3]) (N := 8) (fn := Tryz.f160) Dc M6 ?_
 have hca0_l := aa hca0
 have hca0_a := get_app' hca0
 have hR := Kp.mk hR0
 clear hR0
 rw [bm] at hR
 (try simp only [cellsDStep, cellsDVisit, encDStep, encDVisit, encInts])
 obtain ⟨y1, y1_e, hR⟩ := bindE hR
 have y1_k := fun bs H => sa bs H F v.state cv0 y1 y1_e
 obtain rfl := someE hR
 exact zv
def aD (F : Nat) (cv0 : List DVisit) (cv1 : List Int) (lv0 : Nat) : Nat → Nat → Option (Oc (Nat) (Unit))
 | 0, _ => none
 | k + 1, s1 => (if (decide ((s1 : Int) < (lv0 : Int))) = true then ((cv0[s1]?).bind fun x4 => ((bm F cv1 x4).bind fun y5 => (if y5 = true then some (.a s1) else (if inI ((s1 : Int) + 1) then aD F cv0 cv1 lv0 k (s1 + 1) else none)))) else some (.b ()))
theorem lL (bs : List Nat) (H : Heap) (F : Nat) (ca0 : Nat) (ca1 : Nat) (cv0 : List DVisit) (vv0 : Nat) (lv0 : Nat) (cv1 : List Int) (hca0 : H[ca0]? = some (.arr (cv0.map encDVisit) vv0)) (hl_ca0 : cv0.length = lv0) (hca1 : H[ca1]? = some (.cells [.list (cv1.map (V.int .i64))])) : ∀ k s r ρ H', (∃ J2, H' = H ++ J2 ∧ ρ 0 = .ref 4 ca0 vv0 0 lv0 ∧ ρ 1 = .func 160 [.ptr ca1 0] ∧ ρ 7 = .int .i64 (lv0 : Int) ∧ ρ 8 = .int .i64 (s : Int)) → aD F cv0 cv1 lv0 k s = some r → Lp X ⟨19, H.length :: bs⟩ (loopAt Tryz.f82 0) ρ H' ((fun r ex ρ H' => match r with | .a r => ∃ J2, H' = H ++ J2 ∧ ex = .ret ∧ ρ 4 = .int .i64 (r : Int) | .b r => ∃ J2, H' = H ++ J2 ∧ ex = .exit 0) r) := by
 refine ac (fun _ => rfl) ?_
 rintro k s1 r ρ H' ⟨J2, hH, h0, h1, h7, h8⟩ hR
 skip
 subst hH
 rw [aD] at hR
 have hca0_l := aa hca0
 have hca0_a := get_app' hca0
 have hca1_l := aa hca1
 have hca1_a := get_app' hca1
 conv => arg 3; whnf
 try refine zw ?_
 rcases iteE hR with ⟨c3, hR⟩ | ⟨c3, hR⟩
 ·obtain ⟨x4, x4_e, hR⟩ := bindE hR
  have x4_l : s1 < lv0 := Nat.lt_of_lt_of_eq (aa x4_e) hl_ca0
  obtain ⟨y5, y5_e, hR⟩ := bindE hR
  have y5_k := fun (bs : List Nat) (l : Heap) => gq bs (H ++ l) F ca1 cv1 gt x4 y5 y5_e
  (try simp only [cellsDStep, cellsDVisit, encDStep, encDVisit, encInts] at y5_k)
  have y5_k0 := fun (bs : List Nat) => gq bs H F ca1 cv1 gt x4 y5 y5_e
  (try simp only [cellsDStep, cellsDVisit, encDStep, encDVisit, encInts] at y5_k0)
  try refine zw ?_
  clear y5_k y5_k0
  rcases iteE hR with ⟨c6, hR⟩ | ⟨c6, hR⟩
  ·obtain rfl := someE hR
   refine zu ?_
   exact ⟨_, hq, rfl, sl⟩
  ·obtain ⟨g7, hR⟩ := grdE hR
   have g7_w := ae g7
   refine zu ?_
   exact ⟨(s1 + 1), ⟨_, hq, sl, sl, sl, sl⟩, hR.out⟩
 ·obtain rfl := someE hR
  refine zu ?_
  exact ⟨_, hq, rfl⟩
def fy (F : Nat) (cv0 : List DVisit) (cv1 : List Int) (lv0 : Nat) : Option (Int) := ((aD F cv0 cv1 lv0 F 0).bind fun o8 => match o8 with | .a o9 => some (o9 : Int) | .b o11 => some (-1))
theorem iN (bs : List Nat) (H : Heap) (F : Nat) (ca0 : Nat) (ca1 : Nat) (cv0 : List DVisit) (vv0 : Nat) (lv0 : Nat) (cv1 : List Int) (hca0 : H[ca0]? = some (.arr (cv0.map encDVisit) vv0)) (hl_ca0 : cv0.length = lv0) (hca1 : H[ca1]? = some (.cells [.list (cv1.map (V.int .i64))])) (R : Int) (hR0 : fy F cv0 cv1 lv0 = some R) : callw X bs 82 [.ref 4 ca0 vv0 0 lv0, .func 160 [.ptr ca1 0]] H = some (.int .i64 R, H) := by
 refine yw2 (rs := [.tmp 4]) (N := 19) (fn := Tryz.f82) xk82 xf82 ?_
 have hca0_l := aa hca0
 have hca0_a := get_app' hca0
 have hca1_l := aa hca1
 have hca1_a := get_app' hca1
 have hR := Kp.mk hR0
 clear hR0
 rw [fy] at hR
 obtain ⟨o8, o8_e, hR⟩ := bindE hR
 refine zu ?_
 refine ab (af (c := (loopAt Tryz.f82 0)) rfl (lL _ H F ca0 ca1 cv0 vv0 lv0 cv1 hca0 hl_ca0 hca1 _ 0 o8 _ _ ⟨[], by simp, sl, sl, sl, sl⟩ o8_e)) ?_
 rcases o8 with o9 | o11
 ·rintro ex ρ' H' ⟨J10, rfl, rfl, q4_o9⟩ hf
  clear hf
  obtain rfl := someE hR
  exact zv
 ·rintro ex ρ' H' ⟨J12, rfl, rfl⟩ hf
  clear hf
  obtain rfl := someE hR
  exact zv
def nj (F : Nat) (cv0 : List DVisit) (cv1 : List Int) (lv0 : Nat) : Option (Bool) := ((fy F cv0 cv1 lv0).bind fun y1 => some (decide ((0 : Int) ≤ y1)))
theorem xy (bs : List Nat) (H : Heap) (F : Nat) (ca0 : Nat) (ca1 : Nat) (cv0 : List DVisit) (vv0 : Nat) (lv0 : Nat) (cv1 : List Int) (hca0 : H[ca0]? = some (.arr (cv0.map encDVisit) vv0)) (hl_ca0 : cv0.length = lv0) (hca1 : H[ca1]? = some (.cells [.list (cv1.map (V.int .i64))])) (R : Bool) (hR0 : nj F cv0 cv1 lv0 = some R) : callw X bs 159 [.ref 4 ca0 vv0 0 lv0, .func 160 [.ptr ca1 0]] H = some (.bool R, H) := by
 refine yw2 (rs := [.tmp 4]) (N := 9) (fn := Tryz.f159) Db M5 ?_
 have hca0_l := aa hca0
 have hca0_a := get_app' hca0
 have hca1_l := aa hca1
 have hca1_a := get_app' hca1
 have hR := Kp.mk hR0
 clear hR0
 rw [nj] at hR
 obtain ⟨y1, y1_e, hR⟩ := bindE hR
 have y1_k := fun (bs : List Nat) (l : Heap) => iN bs (H ++ l) F ca0 ca1 cv0 vv0 lv0 cv1 gt hl_ca0 gt y1 y1_e
 have y1_k0 := fun (bs : List Nat) => iN bs H F ca0 ca1 cv0 vv0 lv0 cv1 gt hl_ca0 gt y1 y1_e
 obtain rfl := someE hR
 exact zv
end
end Go.E
namespace Go.E
open Classical
def knownV (l : List DVisit) (s : List Int) : Bool := l.any fun v => decide (v.state = s)
def reachR (i : Nat) : List (DStep × List Int) → List DVisit → Option (Oc (List DVisit) Unit)
 | [], l => some (.a l)
 | x :: r, l => if knownV l x.2 = true then reachR i r l else if l.length = 300 then some (.b ()) else reachR i r (l ++ [⟨x.2, (i : Int), x.1⟩])
def reachF (d : Desg) (inputs : List (List Int)) : Nat → Nat × List DVisit → Option (Oc (List DVisit) Unit)
 | 0, _ => none
 | k + 1, (i, l) => match l[i]? with
  | none => some (.a l)
  | some v => (reachR i (stepsFrom d v.state inputs 0) l).bind fun o => match o with | .a l' => reachF d inputs k (i + 1, l') | .b _ => some (.b ())
def resetD (d : Desg) : List Int := d.elements.map (·.init)
def startD (d : Desg) : List DVisit := [⟨begL d.elements (resetD d), -1, ⟨0, 0⟩⟩]
def searchD (d : Desg) (inputs : List (List Int)) : List DVisit × Int := match reachF d inputs 302 (0, startD d) with
 | some (.a l) => (l, 0)
 | _ => ([], 16)
structure VisOk (d : Desg) (l : List DVisit) : Prop where
 len : l.length ≤ 300
 st : ∀ v ∈ l, LeafOk (elWs d) v.state
theorem te {d : Desg} (h : OkD d) {x s : List Int} (hx : LeafOk (inWs d) x) (hs : LeafOk (elWs d) s) (i : Nat) : ∀ (rs : List Rul) (r : Nat), (∀ y ∈ rs, y ∈ d.rules) → ∀ p ∈ stepsAt d i (valsD d x s) s rs r, LeafOk (elWs d) p.2
 | [], _, _, p, hp => by cases hp
 | y :: rs, r, hr, p, hp => by
  unfold stepsAt at hp
  have ih := te h hx hs i rs (r + 1) (fun z hz => hr z (by simp [hz]))
  split at hp
  ·rcases List.mem_cons.1 hp with rfl | hp
   ·exact tc h (wv h hx hs (h.rule (hr y (by simp))).2 hs)
   ·exact ih p hp
  ·exact ih p hp
theorem jK {d : Desg} (h : OkD d) {s : List Int} (hs : LeafOk (elWs d) s) : ∀ (ls : List (List Int)) (i : Nat), (∀ x ∈ ls, LeafOk (inWs d) x) → ∀ p ∈ stepsFrom d s ls i, LeafOk (elWs d) p.2
 | [], _, _, p, hp => by cases hp
 | x :: ls, i, hl, p, hp => by
  unfold stepsFrom at hp
  rcases List.mem_append.1 hp with hp | hp
  ·exact te h (hl x (by simp)) hs i d.rules 0 (fun _ h => h) p hp
  ·exact jK h hs ls (i + 1) (fun y hy => hl y (by simp [hy])) p hp
theorem kD {d : Desg} (i : Nat) : ∀ {xs : List (DStep × List Int)} {l l' : List DVisit}, (∀ p ∈ xs, LeafOk (elWs d) p.2) → VisOk d l → reachR i xs l = some (.a l') → VisOk d l' ∧ l.length ≤ l'.length
 | [], l, l', _, hv, h => by cases h; exact ⟨hv, Nat.le_refl _⟩
 | x :: xs, l, l', hp, hv, h => by
  unfold reachR at h
  have hp' := fun p hq => hp p (List.mem_cons_of_mem x hq)
  split at h
  ·exact kD i hp' hv h
  ·split at h
   ·cases h
   ·rename_i h3
    have := kD i (l := l ++ [⟨x.2, (i : Int), x.1⟩]) hp' ⟨by have := hv.len; simp; omega, fun v hm => by
     rcases List.mem_append.1 hm with hm | hm
     ·exact hv.st v hm
     ·obtain rfl := List.mem_singleton.1 hm; exact hp x (by simp)⟩ h
    exact ⟨this.1, by have h5 := this.2; simp at h5; omega⟩
theorem B8 {d : Desg} (h : OkD d) : LeafOk (elWs d) (resetD d) := by
 refine ⟨by simp [resetD, elWs], fun j w v h1 h2 => ?_⟩
 unfold elWs at h1; unfold resetD at h2
 rw [List.getElem?_map, Option.map_eq_some_iff] at h1 h2
 obtain ⟨x, hx, rfl⟩ := h1
 obtain ⟨y, hy, rfl⟩ := h2
 rw [hx] at hy; cases hy
 have hm := List.mem_of_getElem? hx
 have hw := h.elW x.width (List.mem_map.2 ⟨x, hm, rfl⟩)
 exact (nh hw.1 hw.2).1 (qS h.elems x hm).2.2.1
theorem ja {d : Desg} (h : OkD d) : VisOk d (startD d) := ⟨by simp [startD], fun v hv => by obtain rfl := List.mem_singleton.1 hv; exact tc h (B8 h)⟩
theorem nv (i : Nat) : ∀ (xs : List (DStep × List Int)) (l : List DVisit), ∃ o, reachR i xs l = some o
 | [], l => ⟨_, rfl⟩
 | x :: xs, l => by
  unfold reachR
  split
  ·exact nv i xs l
  ·split
   ·exact ⟨_, rfl⟩
   ·exact nv i xs _
theorem iO {d : Desg} (h : OkD d) {inputs : List (List Int)} (hi : ∀ x ∈ inputs, LeafOk (inWs d) x) : ∀ (k i : Nat) (l : List DVisit), VisOk d l → 301 < k + i → i ≤ 301 → ∃ o, reachF d inputs k (i, l) = some o
 | 0, i, l, _, h1, h2 => by omega
 | k + 1, i, l, hv, h1, h2 => by
  unfold reachF
  split
  ·exact ⟨_, rfl⟩
  ·rename_i v hvi
   have hlt := aa hvi
   have hl := hv.len
   obtain ⟨o, ho⟩ := nv i (stepsFrom d v.state inputs 0) l
   rw [ho, Option.bind_some]
   cases o with
   | b u => exact ⟨_, rfl⟩
   | a l' => exact iO h hi k (i + 1) l' (kD i (jK h (hv.st v (List.mem_of_getElem? hvi)) inputs 0 hi) hv ho).1 (by omega) (by omega)
variable {F : Nat} (hF : 1000000 < F)
include hF in
theorem sb (a b : List Int) (ha : a.length ≤ 1000000) : gp F a b = some (decide (a = b)) := by
 unfold gp
 by_cases hl : a.length = b.length
 ·have k : ∀ (r : List Int) (i : Nat), a.drop i = r → a.take i = b.take i → ∃ o, dJ F a b r i () = some o ∧ (match o with | .a x => x = false ∧ a ≠ b | .b _ => a = b) := by
   intro r
   induction r with
   | nil =>
    intro i hd ht
    have h1 : a.length ≤ i := by simpa using hd
    rw [List.take_of_length_le h1, List.take_of_length_le (by omega)] at ht
    exact ⟨_, rfl, ht⟩
   | cons x r ih =>
    intro i hd ht
    have hlt := ir hd
    have hx := ap hd
    have hb : b[i]? = some b[i] := bc (by omega)
    simp only [dJ, hb, Option.bind_some]
    by_cases h : x = b[i]
    ·rw [if_neg (by simp [h])]
     refine ih (i + 1) (ah hd) ?_
     rw [List.take_add_one, List.take_add_one, hx, hb, ht, h]
    ·rw [if_pos (by simpa using h)]
     refine ⟨_, rfl, rfl, fun e => h ?_⟩
     subst e
     rw [hx] at hb; exact Option.some.inj hb
  have e := jJ F a b ha a 0 F () rfl (by omega)
  obtain ⟨o, h1, h2⟩ := k a 0 rfl rfl
  rw [if_neg (by simp [hl]), e, h1]
  cases o with
  | a x => obtain ⟨rfl, h3⟩ := h2; simp [h3]
  | b x => simp only at h2; simp [h2]
 ·have hne : a ≠ b := fun e => hl (by rw [e])
  rw [if_pos (by simp; omega)]; simp [hne]
include hF in
theorem yY (l : List DVisit) (s : List Int) (hl : l.length ≤ 1000) (hs : ∀ v ∈ l, v.state.length ≤ 1000000) : nj F l s l.length = some (knownV l s) := by
 unfold nj fy
 rcases rY (fun i => match l[i]? with | some v => decide (v.state = s) | none => false) l.length with ⟨m, h1, h2, h3⟩ | h4
 ·have hk : knownV l s = true := by
   rw [bc h1] at h2
   exact List.any_eq_true.2 ⟨_, List.getElem_mem h1, h2⟩
  have e := ql (L := aD F l s l.length) (fun i => i) m (.a m) (fun k i hi => by
   have hg : l[i]? = some l[i] := bc (by omega)
   have hq := h3 i hi
   simp only [hg] at hq
   rw [aD, lt_n i _ (by omega), if_pos rfl, hg, Option.bind_some, bm, sb hF _ _ (hs _ (List.getElem_mem (by omega))), hq]
   simp [in_1 (show i ≤ 1000000 by omega)]) (fun k => by
   have hg : l[m]? = some l[m] := bc h1
   have hq := h2
   simp only [hg] at hq
   rw [aD, lt_n m _ h1, if_pos rfl, hg, Option.bind_some, bm, sb hF _ _ (hs _ (List.getElem_mem h1)), hq]
   simp) F 0 (by omega) (by omega)
  rw [e, hk]
  simp
 ·have hk : knownV l s = false := by
   unfold knownV
   rw [List.any_eq_false]
   intro v hv
   obtain ⟨j, hj⟩ := List.getElem?_of_mem hv
   have := h4 j (aa hj)
   simp only [hj] at this
   simpa using this
  have e := ql (L := aD F l s l.length) (fun i => i) l.length (.b ()) (fun k i hi => by
   have hg : l[i]? = some l[i] := bc hi
   have hq := h4 i hi
   simp only [hg] at hq
   rw [aD, lt_n i _ hi, if_pos rfl, hg, Option.bind_some, bm, sb hF _ _ (hs _ (List.getElem_mem hi)), hq]
   simp [in_1 (show i ≤ 1000000 by omega)]) (fun k => by rw [aD, oV]; rfl) F 0 (by omega) (by omega)
  rw [e, hk]
  simp
end Go.E
namespace Go.E
theorem AS (bs : List Nat) (H : Heap) (b : Bool) (e : Int) : callw X2 bs 72 [.bool b, .int .i64 e] H = some (.int .i64 (if b = true then 0 else e), H) := cR (pC bs H b e)
theorem yZ (bs : List Nat) (H : Heap) (a b : Int) : callw X2 bs 59 [.list [.int .i64 a, .int .i64 b]] H = some (.int .i64 (firstL [a, b]), H) := cR (nP bs H a b)
attribute [push_cast] AS yZ
end Go.E
namespace Go.E
open Go.Proofs
set_option maxRecDepth 100000
set_option maxHeartbeats 4000000
theorem B9 (bs : List Nat) (H : Heap) (d : Desg) (inputs : List (List Int)) (s : List Int) : callw X bs 143 [encDesg d, .list (inputs.map encInts), .list (s.map (.int .i64))] H = some (.func 180 [.eptr [.list (inputs.map encInts)] 0, .eptr (cellsDesg d) 0, .eptr [.list (s.map (.int .i64))] 0], H) := by
 refine yw2 (rs := [.tmp 6]) (N := 8) (fn := Tryz.f143) C4 MX ?_
 simp only [encDesg, cellsDesg]
 all_goals try (refine zs ?_; repeat' first | apply zs0 | apply zs2 | (intro hc; try have hq := dq hc))
theorem Ca {F : Nat} (hF : 1000000 < F) {d : Desg} (h : d.elements.length ≤ 1000) : dL F d = some (resetD d) := by
 have k : ∀ (r : List Elem) (i : Nat) (o : List Int), o.length + r.length ≤ 1000000 → aN F d r i o = some (o ++ r.map (·.init)) := by
  intro r
  induction r with
  | nil => intro i o _; simp [aN]
  | cons x r ih => intro i o h; simp only [List.length_cons] at h; rw [aN, if_pos (by omega), ih _ _ (by simp; omega)]; simp
 have e : aM F d F ([], 0) = _ := gm F d (by omega) d.elements 0 F [] rfl (by omega)
 unfold dL
 rw [e, k _ _ _ (by simp; omega), Option.bind_some]
 rfl
theorem Ht {A HX : Heap} {c : HObj} {n : Nat} (h : HX = A ++ [c]) (hn : n = A.length) : HX[n]? = some c := by subst h; subst hn; simp
noncomputable def reachV (d : Desg) (i : Nat) : List (DStep × List Int) → List DVisit → Option (Oc (List DVisit) Unit)
 | [], l => some (.a l)
 | x :: r, l => open Classical in if LeafOk (elWs d) x.2 then (if knownV l x.2 = true then reachV d i r l else if l.length = 300 then some (.b ()) else reachV d i r (l ++ [⟨x.2, (i : Int), x.1⟩])) else none
theorem uF {d : Desg} (i : Nat) : ∀ {xs : List (DStep × List Int)} (l : List DVisit), (∀ p ∈ xs, LeafOk (elWs d) p.2) → reachV d i xs l = reachR i xs l
 | [], _, _ => rfl
 | x :: xs, l, h => by
  have ih := fun l => uF (d := d) i (xs := xs) l (fun p hp => h p (by simp [hp]))
  unfold reachV reachR
  rw [if_pos (h x (by simp)), ih, ih]
theorem Cb (bs : List Nat) (H : Heap) (d : Desg) (inputs : List (List Int)) (s : List Int) (st : StepsOk d inputs s) (i : Nat) (J : Heap) (ρ : Env) (h4 : ρ 4 = .ptr (H.length + 1) 0) (h5 : ρ 5 = .ptr (H.length + 2) 0) (h6 : ρ 6 = .ptr (H.length + 3) 0) (h7 : ρ 7 = .ptr (H.length + (J.length + 5)) 0)
  (h29 : ρ 29 = .func 180 [.eptr [.list (inputs.map encInts)] 0, .eptr (cellsDesg d) 0, .eptr [.list (s.map (.int .i64))] 0]) :
  ∀ l r H', (VisOk d l ∧ ∃ ver J2, H' = H ++ .cells [.str d.name, .list (d.inputs.map encPort), .list (d.elements.map encElem), .list (d.nodes.map encNode), .list (d.rules.map encRul), .list (d.outs.map encOutp), .list (d.attrs.map encAttr)] :: .cells [.nilS] :: .cells [.int .i64 0] :: .cells [.ref 4 (H.length + 4) ver 0 l.length] :: .arr (l.map encDVisit) ver :: (J ++ .cells [.int .i64 (i : Int)] :: J2)) →
   reachV d i (stepsFrom d s inputs 0) l = some r → Ev X2 ⟨47, H.length :: bs⟩ (.rangeFunc (.tmp 29) #[30, 31] (rangeAt Tryz.f81 0).1 (rangeAt Tryz.f81 0).2) ρ H'
    ((fun r ex ρ' H' => ρ' = ρ ∧ match r with
     | .a l => ex = .normal ∧ ∃ ver J2, H' = H ++ .cells [.str d.name, .list (d.inputs.map encPort), .list (d.elements.map encElem), .list (d.nodes.map encNode), .list (d.rules.map encRul), .list (d.outs.map encOutp), .list (d.attrs.map encAttr)] :: .cells [.nilS] :: .cells [.int .i64 0] :: .cells [.ref 4 (H.length + 4) ver 0 l.length] :: .arr (l.map encDVisit) ver :: (J ++ .cells [.int .i64 (i : Int)] :: J2)
     | .b _ => ex = .ret ∧ ∃ J2, H' = H ++ .cells [.str d.name, .list (d.inputs.map encPort), .list (d.elements.map encElem), .list (d.nodes.map encNode), .list (d.rules.map encRul), .list (d.outs.map encOutp), .list (d.attrs.map encAttr)] :: .cells [.nilS] :: .cells [.int .i64 16] :: J2) r) := by
 obtain ⟨F, hF⟩ : ∃ F, 1000000 < F := ⟨1000001, by omega⟩
 have hel := st.ok.few.elements
 refine BF (g := encStep) (L0 := stepsFrom d s inputs 0) (S := reachV d i) (put := fun x => (ρ.put 30 (encDStep x.1)).put 31 (.list (x.2.map (.int .i64)))) h29 (B0 st) (fun _ => rfl) (fun x => by simp only [encStep, putAll, List.zip_cons_cons, List.zip_nil_right]; rfl) ?_ ?_
 ·rintro l r H' ⟨hv, ver, J2, hH⟩ hR
  have hR := hR.out
  cases hR
  exact ⟨rfl, rfl, ver, J2, hH⟩
 ·rintro x xs l r H' ⟨hv, ver, J2, rfl⟩ hR
  have hR := hR.out
  unfold reachV at hR
  by_cases hx : LeafOk (elWs d) x.2
  case neg => rw [if_neg hx] at hR; cases hR
  rw [if_pos hx] at hR
  have hel2 : (elWs d).length = d.elements.length := by simp [elWs]
  have t1 := fun bs H ca0 ca1 ver h0 h1 => cR (xy bs H F ca0 ca1 l ver l.length x.2 h0 rfl h1 _ (yY hF l x.2 (by have := hv.len; omega) (fun v hm => by have := (hv.st v hm).1; omega)))
  have hlen := hv.len
  have hroom := iq (n := l.length + 1) (k := 48) (by omega) (by omega)
  have hta := fI encDVisit (l := l) (n := l.length) rfl
  have hlt := ij (l := l) (n := l.length) rfl
  have t2 : ∀ bs, callw X2 bs 159 [.ref 4 (H.length + 4) ver 0 l.length, .func 160 [.ptr (H.length + (J.length + (J2.length + 1 + 1) + 1 + 1 + 1 + 1 + 1)) 0]]
    (H ++ .cells [.str d.name, .list (d.inputs.map encPort), .list (d.elements.map encElem), .list (d.nodes.map encNode), .list (d.rules.map encRul), .list (d.outs.map encOutp), .list (d.attrs.map encAttr)] :: .cells [.nilS] :: .cells [.int .i64 0] :: .cells [.ref 4 (H.length + 4) ver 0 l.length] :: .arr (l.map encDVisit) ver ::
     (J ++ .cells [.int .i64 (i : Int)] :: (J2 ++ [.cells [.int .i64 x.1.inputs, .int .i64 x.1.rule], .cells [.list (x.2.map (.int .i64))]]))) = some (.bool (knownV l x.2), _) := fun bs =>
   t1 bs _ _ _ ver (by simp) (Ht (A := H ++ .cells [.str d.name, .list (d.inputs.map encPort), .list (d.elements.map encElem), .list (d.nodes.map encNode), .list (d.rules.map encRul), .list (d.outs.map encOutp), .list (d.attrs.map encAttr)] :: .cells [.nilS] :: .cells [.int .i64 0] :: .cells [.ref 4 (H.length + 4) ver 0 l.length] :: .arr (l.map encDVisit) ver ::
     (J ++ .cells [.int .i64 (i : Int)] :: (J2 ++ [.cells [.int .i64 x.1.inputs, .int .i64 x.1.rule]]))) (by simp) (by simp))
  clear t1
  rcases bb (knownV l x.2) with hk | hk
  ·rw [hk, if_pos rfl] at hR
   rw [hk] at t2
   replace hR : Kp (reachV d i xs l = some r) := ⟨hR⟩
   replace hv : Kp (VisOk d l) := ⟨hv⟩
   clear hx hel hel2 hF st
   conv => arg 3; whnf
   repeat' first
    | (refine yw1 (id := 1) oz18 oz19 ?_)
    | (refine yw0 (id := 5) oz0 ?_)
    | (refine zs ?_; repeat' first | apply zs0 | apply zs2 | (intro hc; try have hq := dq hc)) | fail
   conv => arg 3; whnf
   repeat' first
    | (refine yw1 (id := 1) oz18 oz19 ?_)
    | (refine yw0 (id := 5) oz0 ?_)
    | (refine zs ?_; repeat' first | apply zs0 | apply zs2 | (intro hc; try have hq := dq hc)) | fail
   exact ⟨l, ⟨hv.out, ver, _, hq⟩, hR.out⟩
  rw [hk] at t2
  rw [hk, if_neg (by simp)] at hR
  by_cases h3 : l.length = 300
  ·rw [if_pos h3] at hR
   obtain rfl := Option.some.inj hR
   have dd : decide ((l.length : Int) = 300) = true := decide_eq_true (by omega)
   clear hx hel hel2 hF st hR hv h3
   conv => arg 3; whnf
   repeat' first
    | (refine yw1 (id := 1) oz18 oz19 ?_)
    | (refine yw0 (id := 5) oz0 ?_)
    | (refine zs ?_; repeat' first | apply zs0 | apply zs2 | (intro hc; try have hq := dq hc)) | fail
   conv => arg 3; whnf
   repeat' first
    | (refine yw1 (id := 1) oz18 oz19 ?_)
    | (refine yw0 (id := 5) oz0 ?_)
    | (refine zs ?_; repeat' first | apply zs0 | apply zs2 | (intro hc; try have hq := dq hc)) | fail
   exact ⟨rfl, rfl, _, hq⟩
  ·rw [if_neg h3] at hR
   have dd : decide ((l.length : Int) = 300) = false := decide_eq_false (by omega)
   have hv2 : Kp (VisOk d (l ++ [⟨x.2, (i : Int), x.1⟩])) := ⟨by have := hv.len; simp; omega, fun v hm => by
     rcases List.mem_append.1 hm with hm | hm
     ·exact hv.st v hm
     ·obtain rfl := List.mem_singleton.1 hm; exact hx⟩
   replace hR : Kp (reachV d i xs (l ++ [⟨x.2, (i : Int), x.1⟩]) = some r) := ⟨hR⟩
   have rm1 : 48 ≤ roomB := by unfold roomB; omega
   clear hx hel hel2 hF st hv h3
   conv => arg 3; whnf
   repeat' first
    | (refine yw1 (id := 1) oz18 oz19 ?_)
    | (refine yw0 (id := 5) oz0 ?_)
    | (refine zs ?_; repeat' first | apply zs0 | apply zs2 | (intro hc; try have hq := dq hc)) | fail
   conv => arg 3; whnf
   repeat' first
    | (refine yw1 (id := 1) oz18 oz19 ?_)
    | (refine yw0 (id := 5) oz0 ?_)
    | (refine zs ?_; repeat' first | apply zs0 | apply zs2 | (intro hc; try have hq := dq hc)) | fail
   exact ⟨l ++ [⟨x.2, (i : Int), x.1⟩], ⟨hv2.out, ver + 1, J2 ++ [.cells [.int .i64 x.1.inputs, .int .i64 x.1.rule], .cells [.list (x.2.map (.int .i64))]], by simp [encDVisit, cellsDVisit]⟩, hR.out⟩
def rxH (d : Desg) (H : Heap) (l : List DVisit) (ver : Nat) (J : Heap) : Heap := H ++ .cells [.str d.name, .list (d.inputs.map encPort), .list (d.elements.map encElem), .list (d.nodes.map encNode), .list (d.rules.map encRul), .list (d.outs.map encOutp), .list (d.attrs.map encAttr)] :: .cells [.nilS] :: .cells [.int .i64 0] :: .cells [.ref 4 (H.length + 4) ver 0 l.length] :: .arr (l.map encDVisit) ver :: J
def rxRep (d : Desg) (inputs : List (List Int)) (H : Heap) (s : Nat × List DVisit) (ρ : Env) (H' : Heap) : Prop :=
 ∃ ver J, H' = rxH d H s.2 ver (J ++ [.cells [.int .i64 (s.1 : Int)]]) ∧ ρ 1 = .list (inputs.map encInts) ∧ ρ 2 = .ptr H.length 0 ∧ ρ 4 = .ptr (H.length + 1) 0 ∧ ρ 5 = .ptr (H.length + 2) 0 ∧ ρ 6 = .ptr (H.length + 3) 0 ∧ ρ 7 = .ptr (H.length + (J.length + 5)) 0 ∧ VisOk d s.2 ∧ s.1 ≤ s.2.length
def rxQ (d : Desg) (H : Heap) (r : Oc (List DVisit) Unit) (ex : Ex) (ρ' : Env) (H' : Heap) : Prop :=
 match r with
 | .a l => ex = .exit 0 ∧ VisOk d l ∧ ρ' 4 = .ptr (H.length + 1) 0 ∧ ρ' 5 = .ptr (H.length + 2) 0 ∧ ρ' 6 = .ptr (H.length + 3) 0 ∧ ∃ ver J, H' = rxH d H l ver J
 | .b _ => ex = .ret ∧ ρ' 4 = .ptr (H.length + 1) 0 ∧ ρ' 5 = .ptr (H.length + 2) 0 ∧ ∃ J, H' = H ++ .cells [.str d.name, .list (d.inputs.map encPort), .list (d.elements.map encElem), .list (d.nodes.map encNode), .list (d.rules.map encRul), .list (d.outs.map encOutp), .list (d.attrs.map encAttr)] :: .cells [.nilS] :: .cells [.int .i64 16] :: J
theorem Ga (bs : List Nat) (H : Heap) (d : Desg) (inputs : List (List Int)) (hd : OkD d) (h6 : inputs.length ≤ 1000000) (hin : ∀ x ∈ inputs, LeafOk (inWs d) x) :
  ∀ k s r ρ H', rxRep d inputs H s ρ H' → reachF d inputs k s = some r → Lp X2 ⟨47, H.length :: bs⟩ (loopAt Tryz.f81 0) ρ H' (rxQ d H r) := by
 refine ac (S := reachF d inputs) (rep := rxRep d inputs H) (Q := rxQ d H) (fun _ => rfl) ?_
 rintro k ⟨i, l⟩ r ρ H' ⟨ver, J, hH, h1, h2, h4, h5, h6', h7, hv, hi⟩ hR
 simp only at hH hv hi
 have hlen := hv.len
 have hR := hR.out
 rw [reachF] at hR
 rcases Nat.lt_or_ge i l.length with hlt | hge
 case inr =>
  have hn : l[i]? = none := by rw [List.getElem?_eq_none_iff]; omega
  rw [hn] at hR
  obtain rfl := Option.some.inj hR
  have dd : decide ((i : Int) < (l.length : Int)) = false := decide_eq_false (by omega)
  unfold rxH at hH
  subst hH
  replace hv : Kp (VisOk d l) := ⟨hv⟩
  clear hR hn hi hge hin hd
  conv => arg 3; whnf
  repeat' first
   | (refine yw1 (id := 1) oz18 oz19 ?_)
   | (refine yw0 (id := 5) oz0 ?_)
   | (refine zs ?_; repeat' first | apply zs0 | apply zs2 | (intro hc; try have hq := dq hc)) | fail
  exact ⟨rfl, hv.out, yw3, yw3, yw3, ver, J ++ [.cells [.int .i64 (i : Int)]], rfl⟩
 obtain ⟨v, hvi⟩ : ∃ v, l[i]? = some v := ⟨_, bc hlt⟩
 rw [hvi] at hR
 simp only at hR
 have dd : decide ((i : Int) < (l.length : Int)) = true := decide_eq_true (by omega)
 have hst : StepsOk d inputs v.state := ⟨hd, h6, hin, hv.st v (List.mem_of_getElem? hvi)⟩
 have t1 := fun bs H => cR (B9 bs H d inputs v.state)
 simp only [encDesg, cellsDesg] at t1
 have hw := add1 i l.length hlt (by omega)
 obtain ⟨o, ho, hR⟩ := Option.bind_eq_some_iff.1 hR
 have hall := jK hd hst.st inputs 0 hin
 have hge : ∀ ver J, (rxH d H l ver J)[H.length + 4]? = some (.arr (l.map encDVisit) ver) := fun ver J => by simp [rxH]
 have hget : (l.map encDVisit)[i]? = some (encDVisit v) := by simp [hvi]
 have hlm : i < (l.map encDVisit).length := by simpa using hlt
 unfold rxH at hH
 subst hH
 conv => arg 3; whnf
 repeat' first
  | (refine yw1 (id := 1) oz18 oz19 ?_)
  | (refine yw0 (id := 5) oz0 ?_)
  | (refine zs ?_; repeat' first | apply zs0 | apply zs2 | (intro hc; try have hq := dq hc)) | fail
 refine Fr (GR (c := .rangeFunc (.tmp 29) #[30, 31] (rangeAt Tryz.f81 0).1 (rangeAt Tryz.f81 0).2) rfl (Cb bs H d inputs v.state hst i J _ (yw3) (yw3) (yw3) (yw3) (by simp only [cellsDesg]; (simp only [seval, push_cast, *] <;> rfl)) l o _ ⟨hv, ver, [], rfl⟩ (by rw [uF i l hall]; exact ho))) ?_
 cases o with
 | b u =>
  obtain rfl := Option.some.inj hR
  rintro ex ρ' H' ⟨rfl, rfl, J2, rfl⟩
  clear hR hge hget hlm hall hst hin hd hv ho hi
  repeat' first
   | (refine yw1 (id := 1) oz18 oz19 ?_)
   | (refine yw0 (id := 5) oz0 ?_)
   | (refine zs ?_; repeat' first | apply zs0 | apply zs2 | (intro hc; try have hq := dq hc)) | fail
  exact ⟨rfl, yw3, yw3, J2, rfl⟩
 | a l' =>
  rintro ex ρ' H' ⟨rfl, rfl, ver', J2, rfl⟩
  obtain ⟨hv', hle⟩ := kD i hall hv ho
  have hw2 := add1 i 1000000 (by omega) (by omega)
  replace hv' : Kp (VisOk d l') := ⟨hv'⟩
  replace hR : Kp (reachF d inputs k (i + 1, l') = some r) := ⟨hR⟩
  replace hle : Kp (i + 1 ≤ l'.length) := ⟨by omega⟩
  clear hge hget hlm hall hst hin hd hv ho hi hlt hw dd
  repeat' first
   | (refine yw1 (id := 1) oz18 oz19 ?_)
   | (refine yw0 (id := 5) oz0 ?_)
   | (refine zs ?_; repeat' first | apply zs0 | apply zs2 | (intro hc; try have hq := dq hc)) | fail
  exact ⟨(i + 1, l'), ⟨ver', J ++ .cells [.int .i64 (i : Int)] :: J2, by simp [rxH], yw3, yw3, yw3, yw3, yw3, by (simp only [seval, push_cast, *] <;> first | rfl | (congr 1; first | omega | (simp; omega) | simp)), hv'.out, hle.out⟩, hR.out⟩
def rxR : Oc (List DVisit) Unit → V
 | .a l => .tuple [.list (l.map encDVisit), .int .i64 0]
 | .b _ => .tuple [.nilS, .int .i64 16]
theorem tf (bs : List Nat) (H : Heap) (d : Desg) (inputs : List (List Int)) (hd : OkD d) (h6 : inputs.length ≤ 1000000) (hin : ∀ x ∈ inputs, LeafOk (inWs d) x) (o : Oc (List DVisit) Unit) (ho : reachF d inputs 302 (0, startD d) = some o) : callw X2 bs 81 [encDesg d, .list (inputs.map encInts)] H = some (rxR o, H) := by
 refine yw2 (rs := [.cell 4 137, .cell 5 35]) (N := 47) (fn := Tryz.f81) rfl xf81 ?_
 obtain ⟨F, hF⟩ : ∃ F, 1000000 < F := ⟨1000001, by omega⟩
 have hel := hd.few.elements
 have t1 := fun bs H => cR (mA bs H F d _ (Ca hF hel))
 have t2 := fun bs H => cR (ev bs H F d (resetD d) _ (pa hF hel (by simp [resetD])))
 have key := Ga bs H d inputs hd h6 hin 302 (0, startD d) o
 have hv0 := ja hd
 simp only [encDesg, cellsDesg] at t1 t2
 have rm1 : 48 ≤ roomB := by unfold roomB; omega
 have hs1 : startD d = [⟨begL d.elements (resetD d), -1, ⟨0, 0⟩⟩] := rfl
 generalize begL d.elements (resetD d) = s0 at t2 hs1
 generalize resetD d = z0 at t1 t2
 clear hel hF
 repeat' first
  | (refine yw1 (id := 1) oz18 oz19 ?_)
  | (refine yw0 (id := 5) oz0 ?_)
  | (refine zs ?_; repeat' first | apply zs0 | apply zs2 | (intro hc; try have hq := dq hc)) | fail
 refine ab (af (c := loopAt Tryz.f81 0) rfl (key _ _ ⟨0, [], by rw [hs1]; simp [rxH, encDVisit, cellsDVisit], yw3, yw3, yw3, yw3, yw3, yw3, hv0, Nat.zero_le _⟩ ho)) ?_
 clear key hv0 hs1 t1 t2 ho hin hd
 cases o with
 | b u =>
  rintro ex ρ' H' ⟨rfl, q4, q5, J2, rfl⟩ -
  unfold rxR
  repeat' first
   | (refine yw1 (id := 1) oz18 oz19 ?_)
   | (refine yw0 (id := 5) oz0 ?_)
   | (refine zs ?_; repeat' first | apply zs0 | apply zs2 | (intro hc; try have hq := dq hc)) | fail
 | a l =>
  rintro ex ρ' H' ⟨rfl, hv, q4, q5, q6, ver, J2, rfl⟩ -
  have hlen := hv.len
  have hta := fI encDVisit (l := l) (n := l.length) rfl
  have hlt := ij (l := l) (n := l.length) rfl
  unfold rxR rxH
  clear hv
  repeat' first
   | (refine yw1 (id := 1) oz18 oz19 ?_)
   | (refine yw0 (id := 5) oz0 ?_)
   | (refine zs ?_; repeat' first | apply zs0 | apply zs2 | (intro hc; try have hq := dq hc)) | fail
theorem Gb (bs : List Nat) (H : Heap) (d : Desg) (inputs : List (List Int)) (hd : OkD d) (h6 : inputs.length ≤ 1000000) (hin : ∀ x ∈ inputs, LeafOk (inWs d) x) (he : ¬(searchD d inputs).2 = 0) :
  callw X2 bs 81 [encDesg d, .list (inputs.map encInts)] H = some (.tuple [.nilS, .int .i64 16], H) := by
 obtain ⟨o, ho⟩ := iO hd hin 302 0 (startD d) (ja hd) (by omega) (by omega)
 cases o with
 | a l => exact absurd (by unfold searchD; rw [ho]) he
 | b u => exact tf bs H d inputs hd h6 hin _ ho
theorem Gc (bs : List Nat) (H : Heap) (d : Desg) (inputs : List (List Int)) (hd : OkD d) (h6 : inputs.length ≤ 1000000) (hin : ∀ x ∈ inputs, LeafOk (inWs d) x) (he : (searchD d inputs).2 = 0) :
  callw X2 bs 81 [encDesg d, .list (inputs.map encInts)] H = some (.tuple [.list ((searchD d inputs).1.map encDVisit), .int .i64 0], H) := by
 obtain ⟨o, ho⟩ := iO hd hin 302 0 (startD d) (ja hd) (by omega) (by omega)
 cases o with
 | a l =>
  have : searchD d inputs = (l, 0) := by unfold searchD; rw [ho]
  rw [this]
  exact tf bs H d inputs hd h6 hin _ ho
 | b u =>
  have : searchD d inputs = ([], 16) := by unfold searchD; rw [ho]
  rw [this] at he; exact absurd he (by decide)
end Go.E
set_option linter.all false
namespace Go.E
open Go.Proofs Classical
set_option maxRecDepth 100000
set_option maxHeartbeats 20000000
noncomputable section
theorem z43 {cx : Cx} {n0 : Nat} {H' : Heap} {ρ : Env} {H1 : Heap} {r1 r2 r3 : ResultVar} {u1 u2 u3 v1 v2 v3 : V} (h1 : resV cx.P ρ H1 r1 = some u1) (h2 : resV cx.P ρ H1 r2 = some u2) (h3 : resV cx.P ρ H1 r3 = some u3)
  (k1 : frz 6 n0 H1 u1 = some v1) (k2 : frz 6 n0 H1 u2 = some v2) (k3 : frz 6 n0 H1 u3 = some v3) (hh : H1.take n0 = H') : Leaf cx [r1, r2, r3] n0 (.tuple [v1, v2, v3]) H' .ret ρ H1 :=
 by unfold Leaf; exact ⟨trivial, [u1, u2, u3], [v1, v2, v3], by simp [h1, h2, h3], by simp [k1, k2, k3], rfl, hh⟩
theorem tJ (bs : List Nat) (H : Heap) (a b c d : Int) : callw X bs 59 [.list [.int .i64 a, .int .i64 b, .int .i64 c, .int .i64 d]] H = some (.int .i64 (firstL [a, b, c, d]), H) := jC bs H [a, b, c, d] (by simp)
attribute [push_cast] tJ
def fm (F : Nat) (d : Desg) (rule : Int) (inputs : List Int) (s_ : List Int) : Option ((List Int) × Int) := ((bZ F d).bind fun y1 => (if (decide (y1.2 = 0)) = true then ((bF F y1.1 rule).bind fun y3 => ((aB F y1.1 inputs).bind fun y4 => ((aE F y1.1 s_).bind fun y5 => (if (decide (¬y3 = 0)) = true then some ([], y3) else (if (decide (¬y4 = 0)) = true then some ([], y4) else (if (decide (¬y5 = 0)) = true then some ([], y5) else ((av F y1.1 inputs s_).bind fun y9 => ((au F y1.1 rule y9).bind fun y10 => (if y10 = true then ((ao F y1.1 rule y9 s_).bind fun y12 => some (y12, 0)) else some ([], 24)))))))))) else (if (decide (¬y1.2 = 0)) = true then some ([], y1.2) else ((av F y1.1 inputs s_).bind fun y14 => ((au F y1.1 rule y14).bind fun y15 => (if y15 = true then ((ao F y1.1 rule y14 s_).bind fun y17 => some (y17, 0)) else some ([], 24)))))))
theorem pH (bs : List Nat) (H : Heap) (F : Nat) (d : Desg) (rule : Int) (inputs : List Int) (s_ : List Int) (R : (List Int) × Int) (hR0 : fm F d rule inputs s_ = some R) : callw X bs 13 [(encDesg d), .int .i64 rule, .list (inputs.map (V.int .i64)), .list (s_.map (V.int .i64))] H = some (.tuple [.list (R.1.map (V.int .i64)), .int .i64 R.2], H) := by
 refine yw2 (rs := [.tmp 8, .tmp 9]) (N := 48) (fn := Tryz.f13) xk13 xf13 ?_
 have hR := Kp.mk hR0
 clear hR0
 rw [fm] at hR
 (try simp only [cellsDesg, encDesg, encInts])
 obtain ⟨y1, y1_e, hR⟩ := bindE hR
 have y1_k := fun bs H => jG bs H F d y1 y1_e
 (try simp only [cellsDesg, encDesg, encInts] at y1_k)
 try refine zw ?_
 clear y1_k
 rcases iteE hR with ⟨c2, hR⟩ | ⟨c2, hR⟩
 ·obtain ⟨y3, y3_e, hR⟩ := bindE hR
  have y3_k := fun bs H => gS bs H F y1.1 rule y3 y3_e
  (try simp only [cellsDesg, encDesg, encInts] at y3_k)
  obtain ⟨y4, y4_e, hR⟩ := bindE hR
  have y4_k := fun bs H => dh bs H F y1.1 inputs y4 y4_e
  (try simp only [cellsDesg, encDesg, encInts] at y4_k)
  obtain ⟨y5, y5_e, hR⟩ := bindE hR
  have y5_k := fun bs H => fa bs H F y1.1 s_ y5 y5_e
  (try simp only [cellsDesg, encDesg, encInts] at y5_k)
  rcases iteE hR with ⟨c6, hR⟩ | ⟨c6, hR⟩
  ·have c6_p := of_decide_eq_true c6
   obtain rfl := someE hR
   try refine zu ?_
   (refine yw1 (id := 3) oz50 oz51 ?_)
   exact zv
  ·have c6_p := Decidable.not_not.1 (of_decide_eq_false c6)
   rcases iteE hR with ⟨c7, hR⟩ | ⟨c7, hR⟩
   ·have c7_p := of_decide_eq_true c7
    obtain rfl := someE hR
    try refine zu ?_
    (refine yw1 (id := 3) oz50 oz51 ?_)
    exact zv
   ·have c7_p := Decidable.not_not.1 (of_decide_eq_false c7)
    rcases iteE hR with ⟨c8, hR⟩ | ⟨c8, hR⟩
    ·have c8_p := of_decide_eq_true c8
     obtain rfl := someE hR
     try refine zu ?_
     (refine yw1 (id := 3) oz50 oz51 ?_)
     exact zv
    ·have c8_p := Decidable.not_not.1 (of_decide_eq_false c8)
     obtain ⟨y9, y9_e, hR⟩ := bindE hR
     have y9_k := fun bs H => cD bs H F y1.1 inputs s_ y9 y9_e
     (try simp only [cellsDesg, encDesg, encInts] at y9_k)
     obtain ⟨y10, y10_e, hR⟩ := bindE hR
     have y10_k := fun bs H => di bs H F y1.1 rule y9 y10 y10_e
     (try simp only [cellsDesg, encDesg, encInts] at y10_k)
     try refine zu ?_
     (refine yw1 (id := 3) oz50 oz51 ?_)
     try refine zw ?_
     clear y3_k y4_k y5_k y9_k y10_k
     rcases iteE hR with ⟨c11, hR⟩ | ⟨c11, hR⟩
     ·obtain ⟨y12, y12_e, hR⟩ := bindE hR
      have y12_k := fun bs H => dE bs H F y1.1 rule y9 s_ y12 y12_e
      (try simp only [cellsDesg, encDesg, encInts] at y12_k)
      obtain rfl := someE hR
      exact zv
     ·obtain rfl := someE hR
      exact zv
 ·try refine zw ?_
  rcases iteE hR with ⟨c13, hR⟩ | ⟨c13, hR⟩
  ·obtain rfl := someE hR
   exact zv
  ·obtain ⟨y14, y14_e, hR⟩ := bindE hR
   have y14_k := fun bs H => cD bs H F y1.1 inputs s_ y14 y14_e
   (try simp only [cellsDesg, encDesg, encInts] at y14_k)
   obtain ⟨y15, y15_e, hR⟩ := bindE hR
   have y15_k := fun bs H => di bs H F y1.1 rule y14 y15 y15_e
   (try simp only [cellsDesg, encDesg, encInts] at y15_k)
   try refine zw ?_
   clear y14_k y15_k
   rcases iteE hR with ⟨c16, hR⟩ | ⟨c16, hR⟩
   ·obtain ⟨y17, y17_e, hR⟩ := bindE hR
    have y17_k := fun bs H => dE bs H F y1.1 rule y14 s_ y17 y17_e
    (try simp only [cellsDesg, encDesg, encInts] at y17_k)
    obtain rfl := someE hR
    exact zv
   ·obtain rfl := someE hR
    exact zv
def eL (F : Nat) (cv0 : Desg) (a0_ : Int) (n : Int) : Option (Int) := ((bF F cv0 n).bind fun y1 => some y1)
theorem kE (bs : List Nat) (H : Heap) (F : Nat) (ca0 : Nat) (cv0 : Desg) (hca0 : H[ca0]? = some (.cells [.str cv0.name, .list (cv0.inputs.map encPort), .list (cv0.elements.map encElem), .list (cv0.nodes.map encNode), .list (cv0.rules.map encRul), .list (cv0.outs.map encOutp), .list (cv0.attrs.map encAttr)])) (a0_ : Int) (n : Int) (R : Int) (hR0 : eL F cv0 a0_ n = some R) : callw X bs 71 [.int .i64 a0_, .int .i64 n, .ptr ca0 0] H = some (.int .i64 R, H) := by
 refine yw2 (rs := [.tmp 5]) (N := 9) (fn := Tryz.f71) xk71 xf71 ?_
 have hca0_l := aa hca0
 have hca0_a := get_app' hca0
 have hR := Kp.mk hR0
 clear hR0
 rw [eL] at hR
 obtain ⟨y1, y1_e, hR⟩ := bindE hR
 have y1_k := fun bs H => gS bs H F cv0 n y1 y1_e
 (try simp only [cellsDesg, encDesg, encInts] at y1_k)
 obtain rfl := someE hR
 exact zv
def cq (F : Nat) (l : List Int) (cv0 : Desg) : Nat → Nat → Option (Oc (Nat × Int) (Unit))
 | 0, _ => none
 | k + 1, s1 => (if (decide ((s1 : Int) < (l.length : Int))) = true then ((l[s1]?).bind fun x4 => ((eL F cv0 (s1 : Int) x4).bind fun y5 => (if (decide (¬y5 = 0)) = true then some (.a (s1, y5)) else (if inI ((s1 : Int) + 1) then cq F l cv0 k (s1 + 1) else none)))) else some (.b ()))
theorem nT (bs : List Nat) (H : Heap) (F : Nat) (ca0 : Nat) (cv0 : Desg) (hca0 : H[ca0]? = some (.cells [.str cv0.name, .list (cv0.inputs.map encPort), .list (cv0.elements.map encElem), .list (cv0.nodes.map encNode), .list (cv0.rules.map encRul), .list (cv0.outs.map encOutp), .list (cv0.attrs.map encAttr)])) (l : List Int) : ∀ k s r ρ H', (∃ J2, H' = H ++ J2 ∧ ρ 1 = .func 71 [.ptr ca0 0] ∧ ρ 9 = .list (l.map (V.int .i64)) ∧ ρ 10 = .int .i64 (l.length : Int) ∧ ρ 11 = .int .i64 (s : Int)) → cq F l cv0 k s = some r → Lp X ⟨25, H.length :: bs⟩ (loopAt Tryz.f70 0) ρ H' ((fun r ex ρ H' => match r with | .a r => ∃ J2, H' = H ++ J2 ∧ ex = .ret ∧ ρ 4 = .int .i64 (r.1 : Int) ∧ ρ 5 = .int .i64 r.2 | .b r => ∃ J2, H' = H ++ J2 ∧ ex = .exit 0) r) := by
 refine ac (fun _ => rfl) ?_
 rintro k s1 r ρ H' ⟨J2, hH, h1, h9, h10, h11⟩ hR
 skip
 subst hH
 rw [cq] at hR
 have hca0_l := aa hca0
 have hca0_a := get_app' hca0
 conv => arg 3; whnf
 try refine zw ?_
 rcases iteE hR with ⟨c3, hR⟩ | ⟨c3, hR⟩
 ·obtain ⟨x4, x4_e, hR⟩ := bindE hR
  obtain ⟨y5, y5_e, hR⟩ := bindE hR
  have y5_k := fun (bs : List Nat) (l : Heap) => kE bs (H ++ l) F ca0 cv0 gt (s1 : Int) x4 y5 y5_e
  have y5_k0 := fun (bs : List Nat) => kE bs H F ca0 cv0 gt (s1 : Int) x4 y5 y5_e
  try refine zw ?_
  clear y5_k y5_k0
  rcases iteE hR with ⟨c6, hR⟩ | ⟨c6, hR⟩
  ·obtain rfl := someE hR
   refine zu ?_
   exact ⟨_, hq, rfl, sl, sl⟩
  ·obtain ⟨g7, hR⟩ := grdE hR
   have g7_w := ae g7
   refine zu ?_
   exact ⟨(s1 + 1), ⟨_, hq, sl, sl, sl, sl⟩, hR.out⟩
 ·obtain rfl := someE hR
  refine zu ?_
  exact ⟨_, hq, rfl⟩
def dX (F : Nat) (l : List Int) (cv0 : Desg) : List Int → Nat → Unit → Option (Oc (Nat × Int) (Unit))
 | [], s1, _ => some (.b ())
 | x_ :: r_, s1, _ => ((eL F cv0 (s1 : Int) x_).bind fun y5 => (if (decide (¬y5 = 0)) = true then some (.a (s1, y5)) else dX F l cv0 r_ (s1 + 1) ()))
theorem iP (F : Nat) (l : List Int) (cv0 : Desg) (hl_ : l.length ≤ 1000000) : ∀ r_ i_ k_ (o_ : Unit), l.drop i_ = r_ → r_.length < k_ → cq F l cv0 k_ i_ = dX F l cv0 r_ i_ o_
 | _, _, 0, _, _, hk => absurd hk (Nat.not_lt_zero _)
 | [], i_, k_ + 1, _, hd, _ => by rw [cq, dX]; simp only [aj hd, Bool.false_eq_true, if_false]
 | x_ :: r_, i_, k_ + 1, _, hd, hk => by
  have ih := iP F l cv0 hl_ r_ (i_ + 1) k_ () (ah hd) (Nat.lt_of_succ_lt_succ hk)
  rw [cq, dX]; simp only [az hd, ap hd, if_pos (aC hd hl_), Option.bind_some, if_true, ih]
def fK (F : Nat) (cv0 : Desg) (l : List Int) : Option (Int × Int) := ((cq F l cv0 F 0).bind fun o8 => match o8 with | .a o9 => some ((o9.1 : Int), o9.2) | .b o11 => some (0, 0))
theorem qr (bs : List Nat) (H : Heap) (F : Nat) (ca0 : Nat) (cv0 : Desg) (hca0 : H[ca0]? = some (.cells [.str cv0.name, .list (cv0.inputs.map encPort), .list (cv0.elements.map encElem), .list (cv0.nodes.map encNode), .list (cv0.rules.map encRul), .list (cv0.outs.map encOutp), .list (cv0.attrs.map encAttr)])) (l : List Int) (R : Int × Int) (hR0 : fK F cv0 l = some R) : callw X bs 70 [.list (l.map (V.int .i64)), .func 71 [.ptr ca0 0]] H = some (.tuple [.int .i64 R.1, .int .i64 R.2], H) := by
 refine yw2 (rs := [.tmp 4, .tmp 5]) (N := 25) (fn := Tryz.f70) xk70 xf70 ?_
 have hca0_l := aa hca0
 have hca0_a := get_app' hca0
 have hR := Kp.mk hR0
 clear hR0
 rw [fK] at hR
 obtain ⟨o8, o8_e, hR⟩ := bindE hR
 refine zu ?_
 refine ab (af (c := (loopAt Tryz.f70 0)) rfl (nT _ H F ca0 cv0 hca0 l _ 0 o8 _ _ ⟨[], by simp, sl, sl, sl, sl⟩ o8_e)) ?_
 rcases o8 with o9 | o11
 ·rintro ex ρ' H' ⟨J10, rfl, rfl, q4_o9, q5_o9⟩ hf
  clear hf
  obtain rfl := someE hR
  exact zv
 ·rintro ex ρ' H' ⟨J12, rfl, rfl⟩ hf
  clear hf
  obtain rfl := someE hR
  exact zv
def bx (F : Nat) (rules : List Int) (inputs : List Int) (y1 : Desg × Int) : Nat → ((List Int) × (List (List Int)) × Nat) → Option (Oc ((List (List Int)) × Nat) ((List (List Int))))
 | 0, _ => none
 | k + 1, (s24, s25, s26) => (if (decide ((s26 : Int) < (rules.length : Int))) = true then ((rules[s26]?).bind fun x30 => ((av F y1.1 inputs s24).bind fun y31 => ((au F y1.1 x30 y31).bind fun y32 => (if y32 = true then ((ao F y1.1 x30 y31 s24).bind fun y34 => (if (s25.length + 1) ≤ 1000000 then (if inI ((s26 : Int) + 1) then bx F rules inputs y1 k (y34, (s25 ++ [y34]), (s26 + 1)) else none) else none)) else some (.a (s25, s26)))))) else some (.b s25))
theorem jT (bs : List Nat) (H : Heap) (F : Nat) (rules : List Int) (inputs : List Int) (y1 : Desg × Int) (a27 : HObj) : ∀ k s r ρ H', (∃ J28, H' = H ++ a27 :: .tok 0 :: .cells [.str y1.1.name, .list (y1.1.inputs.map encPort), .list (y1.1.elements.map encElem), .list (y1.1.nodes.map encNode), .list (y1.1.rules.map encRul), .list (y1.1.outs.map encOutp), .list (y1.1.attrs.map encAttr)] :: .tok s.2.1.length :: J28 ∧ ρ 1 = .list (rules.map (V.int .i64)) ∧ ρ 2 = .list (inputs.map (V.int .i64)) ∧ ρ 11 = .ptr (H.length + 2) 0 ∧ ρ 15 = .list (s.1.map (V.int .i64)) ∧ ρ 16 = .tl (H.length + 3) (s.2.1.map encInts) ∧ ρ 54 = .list (rules.map (V.int .i64)) ∧ ρ 55 = .int .i64 (rules.length : Int) ∧ ρ 56 = .int .i64 (s.2.2 : Int)) → bx F rules inputs y1 k s = some r → Lp X ⟨85, H.length :: bs⟩ (loopAt Tryz.f16 0) ρ H' ((fun r ex ρ H' => match r with | .a r => ∃ J28, H' = H ++ a27 :: .tok 0 :: .cells [.str y1.1.name, .list (y1.1.inputs.map encPort), .list (y1.1.elements.map encElem), .list (y1.1.nodes.map encNode), .list (y1.1.rules.map encRul), .list (y1.1.outs.map encOutp), .list (y1.1.attrs.map encAttr)] :: .tok r.1.length :: J28 ∧ ex = .ret ∧ ρ 8 = .tl (H.length + 3) (r.1.map encInts) ∧ ρ 9 = .int .i64 (r.2 : Int) ∧ ρ 10 = .int .i64 0 | .b r => ∃ J28, H' = H ++ a27 :: .tok 0 :: .cells [.str y1.1.name, .list (y1.1.inputs.map encPort), .list (y1.1.elements.map encElem), .list (y1.1.nodes.map encNode), .list (y1.1.rules.map encRul), .list (y1.1.outs.map encOutp), .list (y1.1.attrs.map encAttr)] :: .tok r.length :: J28 ∧ ex = .exit 0 ∧ ρ 16 = .tl (H.length + 3) (r.map encInts)) r) := by
 refine ac (fun _ => rfl) ?_
 rintro k ⟨s24, s25, s26⟩ r ρ H' ⟨J28, hH, h1, h2, h11, h15, h16, h54, h55, h56⟩ hR
 simp only at hH h1 h2 h11 h15 h16 h54 h55 h56
 subst hH
 rw [bx] at hR
 conv => arg 3; whnf
 try refine zw ?_
 rcases iteE hR with ⟨c29, hR⟩ | ⟨c29, hR⟩
 ·obtain ⟨x30, x30_e, hR⟩ := bindE hR
  obtain ⟨y31, y31_e, hR⟩ := bindE hR
  have y31_k := fun bs H => cD bs H F y1.1 inputs s24 y31 y31_e
  (try simp only [cellsDesg, encDesg, encInts] at y31_k)
  obtain ⟨y32, y32_e, hR⟩ := bindE hR
  have y32_k := fun bs H => di bs H F y1.1 x30 y31 y32 y32_e
  (try simp only [cellsDesg, encDesg, encInts] at y32_k)
  try refine zw ?_
  clear y31_k y32_k
  rcases iteE hR with ⟨c33, hR⟩ | ⟨c33, hR⟩
  ·obtain ⟨y34, y34_e, hR⟩ := bindE hR
   have y34_k := fun bs H => dE bs H F y1.1 x30 y31 s24 y34 y34_e
   (try simp only [cellsDesg, encDesg, encInts] at y34_k)
   obtain ⟨g35, hR⟩ := grdE hR
   have g35_r := iq (n := (s25.length + 1)) (k := 24) g35 (by omega)
   obtain ⟨g36, hR⟩ := grdE hR
   have g36_w := ae g36
   refine zu ?_
   exact ⟨(y34, (s25 ++ [y34]), (s26 + 1)), ⟨_, hq, sl, sl, sl, sl, sl, sl, sl, sl⟩, hR.out⟩
  ·obtain rfl := someE hR
   refine zu ?_
   exact ⟨_, hq, rfl, sl, sl, sl⟩
 ·obtain rfl := someE hR
  refine zu ?_
  exact ⟨_, hq, rfl, sl⟩
def dK (F : Nat) (rules : List Int) (inputs : List Int) (y1 : Desg × Int) : List Int → Nat → ((List Int) × (List (List Int))) → Option (Oc ((List (List Int)) × Nat) ((List (List Int))))
 | [], s26, (s24, s25) => some (.b s25)
 | x_ :: r_, s26, (s24, s25) => ((av F y1.1 inputs s24).bind fun y31 => ((au F y1.1 x_ y31).bind fun y32 => (if y32 = true then ((ao F y1.1 x_ y31 s24).bind fun y34 => (if (s25.length + 1) ≤ 1000000 then dK F rules inputs y1 r_ (s26 + 1) (y34, (s25 ++ [y34])) else none)) else some (.a (s25, s26)))))
theorem jL (F : Nat) (rules : List Int) (inputs : List Int) (y1 : Desg × Int) (hl_ : rules.length ≤ 1000000) : ∀ r_ i_ k_ (o_ : (List Int) × (List (List Int))), rules.drop i_ = r_ → r_.length < k_ → bx F rules inputs y1 k_ (o_.1, o_.2, i_) = dK F rules inputs y1 r_ i_ o_
 | _, _, 0, _, _, hk => absurd hk (Nat.not_lt_zero _)
 | [], i_, k_ + 1, ⟨s24, s25⟩, hd, _ => by rw [bx, dK]; simp only [aj hd, Bool.false_eq_true, if_false]
 | x_ :: r_, i_, k_ + 1, ⟨s24, s25⟩, hd, hk => by
  have ih := fun o_ => jL F rules inputs y1 hl_ r_ (i_ + 1) k_ o_ (ah hd) (Nat.lt_of_succ_lt_succ hk)
  simp only [Prod.forall] at ih
  rw [bx, dK]; simp only [az hd, ap hd, if_pos (aC hd hl_), Option.bind_some, if_true, ih]
def gr (F : Nat) (d : Desg) (rules : List Int) (inputs : List Int) (s_ : List Int) : Option ((List (List Int)) × Int × Int) := ((bZ F d).bind fun y1 => (if (decide (y1.2 = 0)) = true then ((fK F y1.1 rules).bind fun y3 => (if (decide ((rules.length : Int) ≤ 60)) = true then ((aB F y1.1 inputs).bind fun y5 => ((aE F y1.1 s_).bind fun y6 => (if (decide (¬y3.2 = 0)) = true then some ([], 0, y3.2) else (if (decide (¬y5 = 0)) = true then some ([], 0, y5) else (if (decide (¬y6 = 0)) = true then some ([], 0, y6) else ((aI F y1.1 s_).bind fun y10 => ((bx F rules inputs y1 F (y10, [y10], 0)).bind fun o37 => match o37 with | .a o38 => some (o38.1, (o38.2 : Int), 0) | .b o40 => some (o40, (rules.length : Int), 0)))))))) else ((aB F y1.1 inputs).bind fun y42 => ((aE F y1.1 s_).bind fun y43 => some ([], 0, 8))))) else (if (decide (¬y1.2 = 0)) = true then some ([], 0, y1.2) else ((aI F y1.1 s_).bind fun y45 => ((bx F rules inputs y1 F (y45, [y45], 0)).bind fun o72 => match o72 with | .a o73 => some (o73.1, (o73.2 : Int), 0) | .b o75 => some (o75, (rules.length : Int), 0))))))
theorem sc (bs : List Nat) (H : Heap) (F : Nat) (d : Desg) (rules : List Int) (inputs : List Int) (s_ : List Int) (R : (List (List Int)) × Int × Int) (hR0 : gr F d rules inputs s_ = some R) : callw X bs 16 [(encDesg d), .list (rules.map (V.int .i64)), .list (inputs.map (V.int .i64)), .list (s_.map (V.int .i64))] H = some (.tuple [.list (R.1.map encInts), .int .i64 R.2.1, .int .i64 R.2.2], H) := by
 refine yw2 (rs := [.tmp 8, .tmp 9, .tmp 10]) (N := 85) (fn := Tryz.f16) xk16 xf16 ?_
 have hR := Kp.mk hR0
 clear hR0
 rw [gr] at hR
 (try simp only [cellsDesg, encDesg, encInts])
 obtain ⟨y1, y1_e, hR⟩ := bindE hR
 have y1_k := fun bs H => jG bs H F d y1 y1_e
 (try simp only [cellsDesg, encDesg, encInts] at y1_k)
 try refine zw ?_
 clear y1_k
 rcases iteE hR with ⟨c2, hR⟩ | ⟨c2, hR⟩
 ·obtain ⟨y3, y3_e, hR⟩ := bindE hR
  have y3_k := fun (bs : List Nat) (u0 u1 : HObj) (J : Heap) => qr bs (H ++ u0 :: u1 :: .cells [.str y1.1.name, .list (y1.1.inputs.map encPort), .list (y1.1.elements.map encElem), .list (y1.1.nodes.map encNode), .list (y1.1.rules.map encRul), .list (y1.1.outs.map encOutp), .list (y1.1.attrs.map encAttr)] :: J) F (H.length + 2) y1.1 gt rules y3 y3_e
  rcases iteE hR with ⟨c4, hR⟩ | ⟨c4, hR⟩
  ·obtain ⟨y5, y5_e, hR⟩ := bindE hR
   have y5_k := fun bs H => dh bs H F y1.1 inputs y5 y5_e
   (try simp only [cellsDesg, encDesg, encInts] at y5_k)
   obtain ⟨y6, y6_e, hR⟩ := bindE hR
   have y6_k := fun bs H => fa bs H F y1.1 s_ y6 y6_e
   (try simp only [cellsDesg, encDesg, encInts] at y6_k)
   rcases iteE hR with ⟨c7, hR⟩ | ⟨c7, hR⟩
   ·have c7_p := of_decide_eq_true c7
    obtain rfl := someE hR
    try refine zu ?_
    (refine yw1 (id := 4) oz40 oz41 ?_)
    try refine zu ?_
    all_goals (apply z43; (simp only [seval, push_cast, *]; with_reducible rfl); (simp only [seval, push_cast, *]; with_reducible rfl); (simp only [seval, push_cast, *]; with_reducible rfl); all_goals (first | (simp only [seval, push_cast, *] <;> fail) | (simp only [seval, push_cast] <;> fail) | (rw [bA rfl] <;> (simp [*] <;> fail))))
   ·have c7_p := Decidable.not_not.1 (of_decide_eq_false c7)
    rcases iteE hR with ⟨c8, hR⟩ | ⟨c8, hR⟩
    ·have c8_p := of_decide_eq_true c8
     obtain rfl := someE hR
     try refine zu ?_
     (refine yw1 (id := 4) oz40 oz41 ?_)
     try refine zu ?_
     all_goals (apply z43; (simp only [seval, push_cast, *]; with_reducible rfl); (simp only [seval, push_cast, *]; with_reducible rfl); (simp only [seval, push_cast, *]; with_reducible rfl); all_goals (first | (simp only [seval, push_cast, *] <;> fail) | (simp only [seval, push_cast] <;> fail) | (rw [bA rfl] <;> (simp [*] <;> fail))))
    ·have c8_p := Decidable.not_not.1 (of_decide_eq_false c8)
     rcases iteE hR with ⟨c9, hR⟩ | ⟨c9, hR⟩
     ·have c9_p := of_decide_eq_true c9
      obtain rfl := someE hR
      try refine zu ?_
      (refine yw1 (id := 4) oz40 oz41 ?_)
      try refine zu ?_
      all_goals (apply z43; (simp only [seval, push_cast, *]; with_reducible rfl); (simp only [seval, push_cast, *]; with_reducible rfl); (simp only [seval, push_cast, *]; with_reducible rfl); all_goals (first | (simp only [seval, push_cast, *] <;> fail) | (simp only [seval, push_cast] <;> fail) | (rw [bA rfl] <;> (simp [*] <;> fail))))
     ·have c9_p := Decidable.not_not.1 (of_decide_eq_false c9)
      obtain ⟨y10, y10_e, hR⟩ := bindE hR
      have y10_k := fun bs H => ev bs H F y1.1 s_ y10 y10_e
      (try simp only [cellsDesg, encDesg, encInts] at y10_k)
      obtain ⟨o37, o37_e, hR⟩ := bindE hR
      try refine zu ?_
      (refine yw1 (id := 4) oz40 oz41 ?_)
      try refine zu ?_
      refine ab (af (c := (loopAt Tryz.f16 0)) rfl (jT _ H F rules inputs y1 _ _ (y10, [y10], 0) o37 _ _ ⟨_, hq, sl, sl, sl, sl, sl, sl, sl, sl⟩ o37_e)) ?_
      clear y3_k y5_k y6_k y10_k
      rcases o37 with o38 | o40
      ·rintro ex ρ' H' ⟨J39, rfl, rfl, q8_o38, q9_o38, q10_o38⟩ hf
       clear hf
       obtain rfl := someE hR
       refine zu ?_
       all_goals (apply z43; (simp only [seval, push_cast, *]; with_reducible rfl); (simp only [seval, push_cast, *]; with_reducible rfl); (simp only [seval, push_cast, *]; with_reducible rfl); all_goals (first | (simp only [seval, push_cast, *] <;> fail) | (simp only [seval, push_cast] <;> fail) | (rw [bA rfl] <;> (simp [*] <;> fail))))
      ·rintro ex ρ' H' ⟨J41, rfl, rfl, q16_o40⟩ hf
       have q1_o40 : ρ' 1 = .list (rules.map (V.int .i64)) := (hf 1 rfl).trans (sl)
       clear hf
       obtain rfl := someE hR
       refine zu ?_
       all_goals (apply z43; (simp only [seval, push_cast, *]; with_reducible rfl); (simp only [seval, push_cast, *]; with_reducible rfl); (simp only [seval, push_cast, *]; with_reducible rfl); all_goals (first | (simp only [seval, push_cast, *] <;> fail) | (simp only [seval, push_cast] <;> fail) | (rw [bA rfl] <;> (simp [*] <;> fail))))
  ·obtain ⟨y42, y42_e, hR⟩ := bindE hR
   have y42_k := fun bs H => dh bs H F y1.1 inputs y42 y42_e
   (try simp only [cellsDesg, encDesg, encInts] at y42_k)
   obtain ⟨y43, y43_e, hR⟩ := bindE hR
   have y43_k := fun bs H => fa bs H F y1.1 s_ y43 y43_e
   (try simp only [cellsDesg, encDesg, encInts] at y43_k)
   obtain rfl := someE hR
   try refine zu ?_
   (refine yw1 (id := 4) oz40 oz41 ?_)
   try refine zu ?_
   all_goals (apply z43; (simp only [seval, push_cast, *]; with_reducible rfl); (simp only [seval, push_cast, *]; with_reducible rfl); (simp only [seval, push_cast, *]; with_reducible rfl); all_goals (first | (simp only [seval, push_cast, *] <;> fail) | (simp only [seval, push_cast] <;> fail) | (rw [bA rfl] <;> (simp [*] <;> fail))))
 ·try refine zw ?_
  rcases iteE hR with ⟨c44, hR⟩ | ⟨c44, hR⟩
  ·obtain rfl := someE hR
   refine zu ?_
   all_goals (apply z43; (simp only [seval, push_cast, *]; with_reducible rfl); (simp only [seval, push_cast, *]; with_reducible rfl); (simp only [seval, push_cast, *]; with_reducible rfl); all_goals (first | (simp only [seval, push_cast, *] <;> fail) | (simp only [seval, push_cast] <;> fail) | (rw [bA rfl] <;> (simp [*] <;> fail))))
  ·obtain ⟨y45, y45_e, hR⟩ := bindE hR
   have y45_k := fun bs H => ev bs H F y1.1 s_ y45 y45_e
   (try simp only [cellsDesg, encDesg, encInts] at y45_k)
   obtain ⟨o72, o72_e, hR⟩ := bindE hR
   refine zu ?_
   refine ab (af (c := (loopAt Tryz.f16 0)) rfl (jT _ H F rules inputs y1 _ _ (y45, [y45], 0) o72 _ _ ⟨_, hq, sl, sl, sl, sl, sl, sl, sl, sl⟩ o72_e)) ?_
   clear y45_k
   rcases o72 with o73 | o75
   ·rintro ex ρ' H' ⟨J74, rfl, rfl, q8_o73, q9_o73, q10_o73⟩ hf
    clear hf
    obtain rfl := someE hR
    refine zu ?_
    all_goals (apply z43; (simp only [seval, push_cast, *]; with_reducible rfl); (simp only [seval, push_cast, *]; with_reducible rfl); (simp only [seval, push_cast, *]; with_reducible rfl); all_goals (first | (simp only [seval, push_cast, *] <;> fail) | (simp only [seval, push_cast] <;> fail) | (rw [bA rfl] <;> (simp [*] <;> fail))))
   ·rintro ex ρ' H' ⟨J76, rfl, rfl, q16_o75⟩ hf
    have q1_o75 : ρ' 1 = .list (rules.map (V.int .i64)) := (hf 1 rfl).trans (sl)
    clear hf
    obtain rfl := someE hR
    refine zu ?_
    all_goals (apply z43; (simp only [seval, push_cast, *]; with_reducible rfl); (simp only [seval, push_cast, *]; with_reducible rfl); (simp only [seval, push_cast, *]; with_reducible rfl); all_goals (first | (simp only [seval, push_cast, *] <;> fail) | (simp only [seval, push_cast] <;> fail) | (rw [bA rfl] <;> (simp [*] <;> fail))))
def Cc (F : Nat) (d : Desg) : Option ((List Int) × Int) := ((bZ F d).bind fun y1 => (if (decide (¬y1.2 = 0)) = true then some ([], y1.2) else ((dL F y1.1).bind fun y3 => some (y3, 0))))
def Cd (F : Nat) (d : Desg) (s_ : List Int) : Option ((List Int) × Int) := ((bZ F d).bind fun y1 => (if (decide (y1.2 = 0)) = true then ((aE F y1.1 s_).bind fun y3 => (if (decide (¬y3 = 0)) = true then some ([], y3) else ((aI F y1.1 s_).bind fun y5 => some (y5, 0)))) else (if (decide (¬y1.2 = 0)) = true then some ([], y1.2) else ((aI F y1.1 s_).bind fun y7 => some (y7, 0)))))
def kF (F : Nat) (d : Desg) (inputs : List Int) (s_ : List Int) : Option (Desg × Int) := ((bZ F d).bind fun y1 => (if (decide (y1.2 = 0)) = true then ((aB F y1.1 inputs).bind fun y3 => ((aE F y1.1 s_).bind fun y4 => (if (decide (¬y3 = 0)) = true then some (y1.1, y3) else (if (decide (¬y4 = 0)) = true then some (y1.1, y4) else some (y1.1, 0))))) else some (y1.1, y1.2)))
def gu (F : Nat) (d : Desg) (y1 : Desg × Int) (y3 : List Int) : Nat → ((List Int) × Nat) → Option ((List Int))
 | 0, _ => none
 | k + 1, (s13, s14) => (if (decide ((s14 : Int) < (d.rules.length : Int))) = true then ((au F y1.1 (s14 : Int) y3).bind fun y18 => (if y18 = true then (if (s13.length + 1) ≤ 1000000 then (if inI ((s14 : Int) + 1) then gu F d y1 y3 k ((s13 ++ [(s14 : Int)]), (s14 + 1)) else none) else none) else (if inI ((s14 : Int) + 1) then gu F d y1 y3 k (s13, (s14 + 1)) else none))) else some s13)
def AT (F : Nat) (d : Desg) (inputs : List Int) (s_ : List Int) : Option ((List Int) × Int) := ((kF F d inputs s_).bind fun y1 => (if (decide (¬y1.2 = 0)) = true then some ([], y1.2) else ((av F y1.1 inputs s_).bind fun y3 => ((gu F d y1 y3 F ([], 0)).bind fun o24 => some (o24, 0)))))
def jr (F : Nat) (d : Desg) (y3 : List Int) : Nat → ((List Int) × Nat) → Option ((List Int))
 | 0, _ => none
 | k + 1, (s14, s15) => (if (decide ((s15 : Int) < (d.outs.length : Int))) = true then ((d.outs[s15]?).bind fun x20 => ((idxI y3 x20.node).bind fun x21 => (if (s14.length + 1) ≤ 1000000 then (if inI ((s15 : Int) + 1) then jr F d y3 k ((s14 ++ [x21]), (s15 + 1)) else none) else none))) else some s14)
def mI (F : Nat) (d : Desg) (y3 : List Int) : List Outp → Nat → (List Int) → Option ((List Int))
 | [], s15, s14 => some s14
 | x_ :: r_, s15, s14 => ((idxI y3 x_.node).bind fun x21 => (if (s14.length + 1) ≤ 1000000 then mI F d y3 r_ (s15 + 1) (s14 ++ [x21]) else none))
def AU (F : Nat) (d : Desg) (inputs : List Int) (s_ : List Int) : Option ((List Int) × Int) := ((kF F d inputs s_).bind fun y1 => (if (decide (¬y1.2 = 0)) = true then some ([], y1.2) else ((av F y1.1 inputs s_).bind fun y3 => ((jr F d y3 F ([], 0)).bind fun o25 => some (o25, 0)))))
end
end Go.E
namespace Go.E
open Go.Proofs
set_option maxRecDepth 100000
set_option maxHeartbeats 4000000
theorem or19 {k : Nat} (h : k < 19) : k = 0 ∨ k = 1 ∨ k = 2 ∨ k = 3 ∨ k = 4 ∨ k = 5 ∨ k = 6 ∨ k = 7 ∨ k = 8 ∨ k = 9 ∨ k = 10 ∨ k = 11 ∨ k = 12 ∨ k = 13 ∨ k = 14 ∨ k = 15 ∨ k = 16 ∨ k = 17 ∨ k = 18 := by omega
theorem Oh : argC 0 = 0 := rfl
theorem Oi : argC 1 = 0 := rfl
theorem Oj : argC 2 = 1 := rfl
theorem Ok : argC 3 = 2 := rfl
theorem Ol : argC 4 = 2 := rfl
theorem Om : argC 5 = 2 := rfl
theorem Oo : argC 6 = 2 := rfl
theorem Oq : argC 7 = 2 := rfl
theorem Ot : argC 8 = 2 := rfl
theorem Ou : argC 9 = 2 := rfl
theorem Hu : argC 10 = 2 := rfl
theorem Hv : argC 11 = 2 := rfl
theorem Hw : argC 12 = 3 := rfl
theorem Hx : argC 13 = 2 := rfl
theorem Hy : argC 14 = 1 := rfl
theorem Hz : argC 15 = 1 := rfl
theorem HA : argC 16 = 1 := rfl
theorem HB : argC 17 = 2 := rfl
theorem HC : argC 18 = 2 := rfl
attribute [push_cast] Oh Oi Oj Ok Ol Om Oo Oq Ot Ou Hu Hv Hw Hx Hy Hz HA HB HC
theorem ww (bs : List Nat) (H : Heap) (k : Nat) (n : Int) (h : k < 19) (hn : n = (k : Int)) : callw X bs 221 [.int .i64 n] H = some (.int .i64 (argC k : Nat), H) := by
 refine yw2 (rs := [.tmp 2]) (N := 14) (fn := Tryz.f221) D6 N0 ?_
 rcases or19 h with rfl | rfl | rfl | rfl | rfl | rfl | rfl | rfl | rfl | rfl | rfl | rfl | rfl | rfl | rfl | rfl | rfl | rfl | rfl
 all_goals clear h
 all_goals try (refine zs ?_; repeat' first | apply zs0 | apply zs2 | (intro hc; try have hq := dq hc))
end Go.E
namespace Go.E
open Go.Proofs
set_option maxRecDepth 100000
set_option maxHeartbeats 4000000
theorem AV (bs : List Nat) (H : Heap) (x : Node) (nodes : List Node) (hl : x.args.length ≤ 1000000) (hargs : ∀ n ∈ x.args, 0 ≤ n ∧ n < nodes.length) :
  ∀ i ρ H', i ≤ x.args.length → (∃ ws, ws = widthsOf nodes (x.args.take i) ∧ H' = H ++ [.cells [.int .i64 x.op, .int .i64 x.width, .list (x.args.map (.int .i64)), .int .i64 x.value], .tok ws.length] ∧ ρ 0 = .list (nodes.map encNode) ∧ ρ 3 = .ptr H.length 0 ∧ ρ 5 = .tl (H.length + 1) (ws.map (.int .i64)) ∧ ρ 6 = .int .i64 i) →
   Lp X ⟨133, bs⟩ (loopAt Tryz.f222 0) ρ H' fun ex ρ' H' => H' = H ++ [.cells [.int .i64 x.op, .int .i64 x.width, .list (x.args.map (.int .i64)), .int .i64 x.value], .tok x.args.length] ∧ ex = .exit 0 ∧ ρ' 5 = .tl (H.length + 1) ((widthsOf nodes x.args).map (.int .i64)) := by
 refine dH ?_ ?_
 ·rintro i ρ H' hi ⟨ws, hws, rfl, h0, h3, h5, h6⟩
  have hget : x.args[i]? = some x.args[i] := by simp [hi]
  have hm := hargs x.args[i] (List.getElem_mem hi)
  have htk : x.args.take (i + 1) = x.args.take i ++ [x.args[i]] := by rw [List.take_add_one, hget]; rfl
  generalize x.args[i] = n at hget hm htk
  obtain ⟨m, rfl⟩ : ∃ m : Nat, n = m := ⟨n.toNat, by omega⟩
  have hlt : m < nodes.length := by omega
  have hget2 : nodes[m]? = some nodes[m] := by simp [hlt]
  have hsn := iW nodes (x.args.take i) m nodes[m] (by simp)
  generalize nodes[m] = y at hget2 hsn
  have hlen : ws.length = i := by rw [hws]; simp [widthsOf]; omega
  have hroom := oG ws.length (by omega)
  have hw := add1 i x.args.length hi hl
  rw [← hws, ← htk] at hsn
  replace hsn : Kp (widthsOf nodes (x.args.take (i + 1)) = ws ++ [y.width]) := ⟨hsn⟩
  clear htk hm hws hlen hargs
  conv => arg 3; whnf
  repeat' first
   | (refine yw0 (id := 8) oz5 ?_)
   | (refine yw0 (id := 15) oz52 ?_)
   | (refine yw0 (id := 19) oz38 ?_)
   | (refine yw0 (id := 21) oz53 ?_)
   | (refine yw0 (id := 23) oz20 ?_)
   | (refine yw0 (id := 25) oz2 ?_)
   | (refine yw0 (id := 28) oz5 ?_)
   | (refine yw0 (id := 29) oz5 ?_)
   | (refine zs ?_; repeat' first | apply zs0 | apply zs2 | (intro hc; try have hq := dq hc)) | fail
  exact ⟨ws ++ [y.width], hsn.out.symm, by simp, yw3, yw3, by simp [push_cast], yw3⟩
 ·rintro ρ H' ⟨ws, hws, rfl, h0, h3, h5, h6⟩
  rw [List.take_length] at hws
  have hlen : ws.length = x.args.length := by rw [hws]; simp [widthsOf]
  replace hws : Kp (ws = widthsOf nodes x.args) := ⟨hws⟩
  replace hlen : Kp (ws.length = x.args.length) := ⟨hlen⟩
  clear hargs
  conv => arg 3; whnf
  repeat' first
   | (refine yw0 (id := 8) oz5 ?_)
   | (refine yw0 (id := 15) oz52 ?_)
   | (refine yw0 (id := 19) oz38 ?_)
   | (refine yw0 (id := 21) oz53 ?_)
   | (refine yw0 (id := 23) oz20 ?_)
   | (refine yw0 (id := 25) oz2 ?_)
   | (refine yw0 (id := 28) oz5 ?_)
   | (refine yw0 (id := 29) oz5 ?_)
   | (refine zs ?_; repeat' first | apply zs0 | apply zs2 | (intro hc; try have hq := dq hc)) | fail
  exact ⟨by rw [hlen.out], rfl, by rw [← hws.out]; (simp only [seval, push_cast, *] <;> rfl)⟩
theorem len1 {l : List Int} (h : l.length = 1) : ∃ a, l = [a] := by match l, h with | [a], _ => exact ⟨a, rfl⟩
theorem len2 {l : List Int} (h : l.length = 2) : ∃ a b, l = [a, b] := by match l, h with | [a, b], _ => exact ⟨a, b, rfl⟩
theorem len3 {l : List Int} (h : l.length = 3) : ∃ a b c, l = [a, b, c] := by match l, h with | [a, b, c], _ => exact ⟨a, b, c, rfl⟩
theorem wx (bs : List Nat) (H : Heap) (x : Node) (nodes : List Node) (k : Nat) (hk : x.op = (k : Int)) (hk19 : k < 19) (hk2 : 2 ≤ k) (ha : x.args.length = argC k) (hargs : ∀ n ∈ x.args, 0 ≤ n ∧ n < nodes.length) : callw X bs 222 [.list (nodes.map encNode), encNode x] H = some (.bool (fitsS k x.width (widthsOf nodes x.args) x.value), H) := by
 refine yw2 (rs := [.tmp 4]) (N := 133) (fn := Tryz.f222) D7 N1 ?_
 have hloop := fun bs ρ => AV bs H x nodes (by rw [ha]; have := FO k; omega) hargs 0 ρ
 have hwl : (widthsOf nodes x.args).length = argC k := by simpa [widthsOf] using ha
 generalize hg : widthsOf nodes x.args = ws at hwl
 rw [hg] at hloop
 rw [hk] at hloop
 clear hargs ha
 rcases or19 hk19 with rfl | rfl | rfl | rfl | rfl | rfl | rfl | rfl | rfl | rfl | rfl | rfl | rfl | rfl | rfl | rfl | rfl | rfl | rfl
 all_goals try (exfalso; omega)
 all_goals clear hk19 hk2
 repeat' first
  | (refine yw0 (id := 8) oz5 ?_)
  | (refine yw0 (id := 15) oz52 ?_)
  | (refine yw0 (id := 19) oz38 ?_)
  | (refine yw0 (id := 21) oz53 ?_)
  | (refine yw0 (id := 23) oz20 ?_)
  | (refine yw0 (id := 25) oz2 ?_)
  | (refine yw0 (id := 28) oz5 ?_)
  | (refine yw0 (id := 29) oz5 ?_)
  | (refine zs ?_; repeat' first | apply zs0 | apply zs2 | (intro hc; try have hq := dq hc)) | fail
 all_goals refine ab (af (c := loopAt Tryz.f222 0) rfl (hloop _ _ _ (by omega) ⟨[], rfl, rfl, yw3, yw3, yw3, yw3⟩)) ?_
 all_goals clear hloop
 all_goals rintro ex ρ' H' ⟨rfl, rfl, h5⟩ hf
 all_goals have f3 := hf 3 rfl
 all_goals simp only [seval, push_cast] at f3
 all_goals clear hf hg
 all_goals first | (obtain ⟨w0, rfl⟩ := len1 hwl) | (obtain ⟨w0, w1, rfl⟩ := len2 hwl) | (obtain ⟨w0, w1, w2, rfl⟩ := len3 hwl)
 all_goals clear hwl
 all_goals simp only [fitsS, at0, List.getD_cons_zero, List.getD_cons_succ, List.any_cons, List.any_nil, Bool.or_false]
 all_goals try clear hk
 repeat' first
  | (refine yw0 (id := 8) oz5 ?_)
  | (refine yw0 (id := 15) oz52 ?_)
  | (refine yw0 (id := 19) oz38 ?_)
  | (refine yw0 (id := 21) oz53 ?_)
  | (refine yw0 (id := 23) oz20 ?_)
  | (refine yw0 (id := 25) oz2 ?_)
  | (refine yw0 (id := 28) oz5 ?_)
  | (refine yw0 (id := 29) oz5 ?_)
  | (refine zs ?_; repeat' first | apply zs0 | apply zs2 | (intro hc; try have hq := dq hc)) | fail
end Go.E
namespace Go.E
open Go.Proofs
set_option maxRecDepth 100000
set_option maxHeartbeats 4000000
def oddP (i : Nat) (n : Int) : Bool := !(decide (0 ≤ n) && decide (n ≤ (i : Int) - 1))
theorem HD (bs : List Nat) (H : Heap) (x : Node) (i : Nat) (hl : x.args.length ≤ 1000000) (hi : i ≤ 1000000) (R : Bool) :
  ∀ j ρ H', j ≤ x.args.length → (H' = H ++ [.cells [.int .i64 x.op, .int .i64 x.width, .list (x.args.map (.int .i64)), .int .i64 x.value]] ∧ ρ 2 = .int .i64 i ∧ ρ 7 = .ptr H.length 0 ∧ ρ 8 = .int .i64 j ∧ Kp ((x.args.drop j).any (oddP i) = R)) →
   Lp X ⟨84, bs⟩ (loopAt Tryz.f178 0) ρ H' fun ex ρ' H' => H' = H ++ [.cells [.int .i64 x.op, .int .i64 x.width, .list (x.args.map (.int .i64)), .int .i64 x.value]] ∧ ((ex = .exit 0 ∧ R = false) ∨ (ex = .ret ∧ ρ' 6 = .int .i64 9 ∧ R = true)) := by
 have hi1 := sub1 i hi
 refine dH ?_ ?_
 ·rintro j ρ H' hj ⟨rfl, h2, h7, h8, hR⟩
  have hget : x.args[j]? = some x.args[j] := by simp [hj]
  generalize x.args[j] = n at hget
  have hw := add1 j x.args.length hj hl
  replace hR := hR.out
  rw [fP hget, List.any_cons] at hR
  replace hR : Kp ((oddP i n || (x.args.drop (j + 1)).any (oddP i)) = R) := ⟨hR⟩
  conv => arg 3; whnf
  repeat' first
   | (refine yw1 (id := 6) oz5 oz15 ?_)
   | (refine yw0 (id := 23) oz0 ?_)
   | (refine zs ?_; repeat' first | apply zs0 | apply zs2 | (intro hc; try have hq := dq hc)) | fail
  all_goals replace hR := hR.out
  all_goals unfold oddP at hR
  ·rw [hc] at hR
   exact ⟨rfl, .inr ⟨rfl, yw3, by rw [← hR]; rfl⟩⟩
  ·rw [hc] at hR
   exact ⟨rfl, yw3, yw3, yw3, ⟨by rw [← hR]; rfl⟩⟩
 ·rintro ρ H' ⟨rfl, h2, h7, h8, hR⟩
  replace hR := hR.out
  rw [List.drop_length, List.any_nil] at hR
  replace hR : Kp (false = R) := ⟨hR⟩
  conv => arg 3; whnf
  repeat' first
   | (refine yw1 (id := 6) oz5 oz15 ?_)
   | (refine yw0 (id := 23) oz0 ?_)
   | (refine zs ?_; repeat' first | apply zs0 | apply zs2 | (intro hc; try have hq := dq hc)) | fail
  exact ⟨rfl, .inl ⟨rfl, hR.out.symm⟩⟩
theorem za (bs : List Nat) (H : Heap) (leaves : List Int) (nodes : List Node) (i : Nat) (x : Node) (hx : nodes[i]? = some x) (hl : leaves.length ≤ 1000000) (hn : nodes.length ≤ 1000000) (hal : x.args.length ≤ 1000000) : callw X bs 178 [.list (leaves.map (.int .i64)), .list (nodes.map encNode), .int .i64 i] H = some (.int .i64 (nodeErrS leaves nodes i x), H) := by
 refine yw2 (rs := [.tmp 6]) (N := 84) (fn := Tryz.f178) Du No ?_
 have hi : i < nodes.length := (List.getElem?_eq_some_iff.1 hx).1
 unfold nodeErrS
 by_cases hop : 0 ≤ x.op ∧ x.op ≤ 18
 case neg =>
  have hb : (decide (0 ≤ x.op) && decide (x.op ≤ 18)) = false := by rw [Bool.and_eq_false_iff, decide_eq_false_iff_not, decide_eq_false_iff_not]; omega
  rw [if_pos hop]
  clear hop
  repeat' first
   | (refine yw1 (id := 6) oz5 oz15 ?_)
   | (refine yw0 (id := 23) oz0 ?_)
   | (refine zs ?_; repeat' first | apply zs0 | apply zs2 | (intro hc; try have hq := dq hc)) | fail
 rw [if_neg (by simpa using hop)]
 obtain ⟨k, hk⟩ : ∃ k : Nat, x.op = k := ⟨x.op.toNat, by omega⟩
 have hk19 : k < 19 := by omega
 have hk18 : (k : Int) ≤ 18 := by omega
 rw [hk, Int.toNat_natCast]
 have hac := fun bs H => ww bs H k x.op hk19 hk
 rw [hk] at hac
 cases hw : isW x.width with
 | false =>
  rw [if_pos rfl]
  unfold isW at hw
  clear hop
  repeat' first
   | (refine yw1 (id := 6) oz5 oz15 ?_)
   | (refine yw0 (id := 23) oz0 ?_)
   | (refine zs ?_; repeat' first | apply zs0 | apply zs2 | (intro hc; try have hq := dq hc)) | fail
 | true =>
 rw [if_neg (by simp)]
 have hw0 : 0 ≤ x.width := by simp only [isW, Bool.and_eq_true, decide_eq_true_eq] at hw; omega
 unfold isW at hw
 by_cases hlen : x.args.length = argC k
 case neg =>
  have dl : ¬ ((x.args.length : Int) = ((argC k : Nat) : Int)) := by omega
  rw [if_pos hlen]
  clear hop hlen
  repeat' first
   | (refine yw1 (id := 6) oz5 oz15 ?_)
   | (refine yw0 (id := 23) oz0 ?_)
   | (refine zs ?_; repeat' first | apply zs0 | apply zs2 | (intro hc; try have hq := dq hc)) | fail
 rw [if_neg (by simpa using hlen)]
 have dl : (x.args.length : Int) = ((argC k : Nat) : Int) := by omega
 have hloop := fun bs ρ => HD bs H x i hal (by omega) (x.args.any (oddP i)) 0 ρ
 rw [hk] at hloop
 have hodd : x.args.any (fun n => !(decide (0 ≤ n) && decide (n ≤ (i : Int) - 1))) = x.args.any (oddP i) := rfl
 rw [hodd]
 have dl2 : Kp ((x.args.length : Int) = ((argC k : Nat) : Int)) := ⟨dl⟩
 have dl3 : decide ((x.args.length : Int) = ((argC k : Nat) : Int)) = true := decide_eq_true dl
 clear hop hodd dl
 repeat' first
  | (refine yw1 (id := 6) oz5 oz15 ?_)
  | (refine yw0 (id := 23) oz0 ?_)
  | (refine zs ?_; repeat' first | apply zs0 | apply zs2 | (intro hc; try have hq := dq hc)) | fail
 refine ab (af (c := loopAt Tryz.f178 0) rfl (hloop _ _ _ (by omega) ⟨rfl, yw3, yw3, yw3, ⟨rfl⟩⟩)) ?_
 clear hloop
 rintro ex ρ' H' ⟨rfl, ⟨rfl, ho⟩ | ⟨rfl, h6, ho⟩⟩ hf
 case inr =>
  rw [ho, if_pos rfl]
  repeat' first
   | (refine yw1 (id := 6) oz5 oz15 ?_)
   | (refine yw0 (id := 23) oz0 ?_)
   | (refine zs ?_; repeat' first | apply zs0 | apply zs2 | (intro hc; try have hq := dq hc)) | fail
 rw [ho, if_neg (by simp)]
 have f7 := hf 7 rfl
 have f0 := hf 0 rfl
 have f1 := hf 1 rfl
 simp only [seval, push_cast] at f7 f0 f1
 clear hf
 have hargs : ∀ n ∈ x.args, 0 ≤ n ∧ n < nodes.length := fun n hnm => by
  rw [List.any_eq_false] at ho
  have := ho n hnm
  simp only [oddP, Bool.not_eq_true', Bool.and_eq_false_iff, decide_eq_false_iff_not, not_or, Decidable.not_not] at this
  omega
 have hlen : x.args.length = argC k := by have := dl2.out; omega
 have hwf := fun bs H (h2 : 2 ≤ k) => wx bs H x nodes k hk hk19 h2 hlen hargs
 have hfits := fun bs H => tD bs H x.value x.width hw0
 simp only [encNode, encInts, hk] at hwf
 clear hargs ho hlen hac dl3
 by_cases h0 : k = 0
 ·subst h0
  have hG : fitsG x.value x.width = fitsN x.value x.width := by unfold fitsG fitsN; rw [decide_eq_true hw0]; rfl
  simp only [valueErrS, if_true, hG, fitsS]
  clear hwf hG
  cases hv : fitsN x.value x.width
  ·simp only [Bool.false_eq_true, if_false]
   repeat' first
    | (refine yw1 (id := 6) oz5 oz15 ?_)
    | (refine yw0 (id := 23) oz0 ?_)
    | (refine zs ?_; repeat' first | apply zs0 | apply zs2 | (intro hc; try have hq := dq hc)) | fail
  ·simp only [if_true]
   repeat' first
    | (refine yw1 (id := 6) oz5 oz15 ?_)
    | (refine yw0 (id := 23) oz0 ?_)
    | (refine zs ?_; repeat' first | apply zs0 | apply zs2 | (intro hc; try have hq := dq hc)) | fail
 have d0 : decide ((k : Int) = 0) = false := nat0 k 0 h0
 by_cases h1 : k = 1
 ·subst h1
  have hw := sub1 leaves.length hl
  clear hwf hfits
  simp only [valueErrS, if_true, if_neg h0, fitsS]
  by_cases hv : 0 ≤ x.value ∧ x.value < leaves.length
  ·obtain ⟨v, hvv⟩ : ∃ v : Nat, x.value = v := ⟨x.value.toNat, by omega⟩
   have hlt : v < leaves.length := by omega
   have hget : leaves[v]? = some leaves[v] := by simp [hlt]
   have hat : at0 leaves v = leaves[v] := by simp [at0, List.getD, hget]
   rw [if_pos hv, hvv, Int.toNat_natCast, hat]
   have hb : (decide (0 ≤ (v : Int)) && decide ((v : Int) ≤ (leaves.length : Int) - 1)) = true := by rw [Bool.and_eq_true, decide_eq_true_eq, decide_eq_true_eq]; omega
   have hle : (v : Int) ≤ (leaves.length : Int) - 1 := by omega
   clear hv hat
   generalize leaves[v] = y at hget
   by_cases hy : y = x.width
   ·rw [if_pos hy]
    repeat' first
     | (refine yw1 (id := 6) oz5 oz15 ?_)
     | (refine yw0 (id := 23) oz0 ?_)
     | (refine zs ?_; repeat' first | apply zs0 | apply zs2 | (intro hc; try have hq := dq hc)) | fail
   ·rw [if_neg hy]
    repeat' first
     | (refine yw1 (id := 6) oz5 oz15 ?_)
     | (refine yw0 (id := 23) oz0 ?_)
     | (refine zs ?_; repeat' first | apply zs0 | apply zs2 | (intro hc; try have hq := dq hc)) | fail
  ·have hb : (decide (0 ≤ x.value) && decide (x.value ≤ (leaves.length : Int) - 1)) = false := by
    rw [Bool.and_eq_false_iff, decide_eq_false_iff_not, decide_eq_false_iff_not]; omega
   rw [if_neg hv]
   clear hv
   repeat' first
    | (refine yw1 (id := 6) oz5 oz15 ?_)
    | (refine yw0 (id := 23) oz0 ?_)
    | (refine zs ?_; repeat' first | apply zs0 | apply zs2 | (intro hc; try have hq := dq hc)) | fail
 have d1 : decide ((k : Int) = 1) = false := nat0 k 1 h1
 replace hwf := fun bs H => hwf bs H (by omega)
 clear hfits
 generalize hg : fitsS k x.width (widthsOf nodes x.args) x.value = fb at hwf
 by_cases h2 : k = 14
 ·subst h2
  clear hg
  have e14 : ((14 : Nat) : Int) = 14 := rfl
  rw [e14] at hwf
  simp only [valueErrS, if_true, if_neg h0, if_neg h1]
  cases hv : (decide (0 ≤ x.value) && decide (x.value ≤ 15))
  ·simp only [Bool.false_eq_true, if_false]
   repeat' first
    | (refine yw1 (id := 6) oz5 oz15 ?_)
    | (refine yw0 (id := 23) oz0 ?_)
    | (refine zs ?_; repeat' first | apply zs0 | apply zs2 | (intro hc; try have hq := dq hc)) | fail
  ·simp only [if_true]
   cases fb
   ·repeat' first
     | (refine yw1 (id := 6) oz5 oz15 ?_)
     | (refine yw0 (id := 23) oz0 ?_)
     | (refine zs ?_; repeat' first | apply zs0 | apply zs2 | (intro hc; try have hq := dq hc)) | fail
   ·repeat' first
     | (refine yw1 (id := 6) oz5 oz15 ?_)
     | (refine yw0 (id := 23) oz0 ?_)
     | (refine zs ?_; repeat' first | apply zs0 | apply zs2 | (intro hc; try have hq := dq hc)) | fail
 have d2 : decide ((k : Int) = 14) = false := nat0 k 14 h2
 have hhv : hasV k = false := by
  rcases or19 hk19 with rfl | rfl | rfl | rfl | rfl | rfl | rfl | rfl | rfl | rfl | rfl | rfl | rfl | rfl | rfl | rfl | rfl | rfl | rfl <;> first | rfl | (exfalso; omega)
 simp only [valueErrS, if_neg h0, if_neg h1, if_neg h2, hhv]
 clear h0 h1 h2 hg
 by_cases hv : x.value = 0
 ·rw [hv] at hwf
  cases fb
  ·repeat' first
    | (refine yw1 (id := 6) oz5 oz15 ?_)
    | (refine yw0 (id := 23) oz0 ?_)
    | (refine zs ?_; repeat' first | apply zs0 | apply zs2 | (intro hc; try have hq := dq hc)) | fail
  ·repeat' first
    | (refine yw1 (id := 6) oz5 oz15 ?_)
    | (refine yw0 (id := 23) oz0 ?_)
    | (refine zs ?_; repeat' first | apply zs0 | apply zs2 | (intro hc; try have hq := dq hc)) | fail
 ·cases fb
  ·repeat' first
    | (refine yw1 (id := 6) oz5 oz15 ?_)
    | (refine yw0 (id := 23) oz0 ?_)
    | (refine zs ?_; repeat' first | apply zs0 | apply zs2 | (intro hc; try have hq := dq hc)) | fail
  ·repeat' first
    | (refine yw1 (id := 6) oz5 oz15 ?_)
    | (refine yw0 (id := 23) oz0 ?_)
    | (refine zs ?_; repeat' first | apply zs0 | apply zs2 | (intro hc; try have hq := dq hc)) | fail
end Go.E
namespace Go.E
open Go.Proofs
set_option maxRecDepth 100000
set_option maxHeartbeats 4000000
theorem xz (bs : List Nat) (H : Heap) (leaves : List Int) (nodes : List Node) (hl : leaves.length ≤ 1000000) (hn : nodes.length ≤ 1000000) (hal : ∀ x ∈ nodes, x.args.length ≤ 1000000) : callw X bs 128 [.list (leaves.map (.int .i64)), .list (nodes.map encNode)] H = some (.tuple [.int .i64 (nodesErrR leaves nodes).1, .int .i64 (nodesErrR leaves nodes).2], H) := by
 refine yw2 (rs := [.tmp 4, .tmp 5]) (N := 25) (fn := Tryz.f128) CX MQ ?_
 have key : ∀ (R : Int × Int) (bs : List Nat) i ρ H', i ≤ nodes.length → (H' = H ∧ ρ 0 = .list (leaves.map (.int .i64)) ∧ ρ 1 = .list (nodes.map encNode) ∧ ρ 6 = .int .i64 i ∧ Kp (eachP (nodeErrS leaves nodes) i (nodes.drop i) = R)) →
   Lp X ⟨25, bs⟩ (loopAt Tryz.f128 0) ρ H' fun ex ρ' H' => H' = H ∧ ((ex = .exit 0 ∧ R = (0, 0)) ∨ (ex = .ret ∧ ρ' 4 = .int .i64 R.1 ∧ ρ' 5 = .int .i64 R.2)) := by
  intro R bs
  refine dH ?_ ?_
  ·rintro i ρ H' hi ⟨rfl, h0, h1, h6, hR⟩
   have hget : nodes[i]? = some nodes[i] := by simp [hi]
   have hne := fun bs H => za bs H leaves nodes i nodes[i] hget hl hn (hal _ (List.getElem_mem hi))
   have hw := add1 i nodes.length hi hn
   replace hR := hR.out
   rw [fP hget, eachP] at hR
   generalize nodeErrS leaves nodes i nodes[i] = e at hne hR
   replace hR : Kp ((if e ≠ 0 then ((i : Int), e) else eachP (nodeErrS leaves nodes) (i + 1) (nodes.drop (i + 1))) = R) := ⟨hR⟩
   clear hget hal
   conv => arg 3; whnf
   all_goals try (refine zs ?_; repeat' first | apply zs0 | apply zs2 | (intro hc; try have hq := dq hc))
   ·have hc : e ≠ 0 := by simpa using hc
    rw [← hR.out, if_pos hc]
    exact ⟨rfl, .inr ⟨rfl, yw3, yw3⟩⟩
   ·have hc : e = 0 := by simpa using hc
    exact ⟨rfl, yw3, yw3, yw3, ⟨by rw [← hR.out, if_neg (by simp [hc])]⟩⟩
  ·rintro ρ H' ⟨rfl, h0, h1, h6, hR⟩
   replace hR := hR.out
   rw [List.drop_length, eachP] at hR
   replace hR : Kp ((0, 0) = R) := ⟨hR⟩
   clear hal
   conv => arg 3; whnf
   all_goals try (refine zs ?_; repeat' first | apply zs0 | apply zs2 | (intro hc; try have hq := dq hc))
   exact ⟨rfl, .inl ⟨rfl, hR.out.symm⟩⟩
 clear hal
 unfold nodesErrR
 by_cases h : 400 < nodes.length
 ·rw [if_pos h]
  have d : (400 : Int) < nodes.length := by omega
  clear key
  all_goals try (refine zs ?_; repeat' first | apply zs0 | apply zs2 | (intro hc; try have hq := dq hc))
 rw [if_neg h]
 have d : decide ((400 : Int) < nodes.length) = false := decide_eq_false (by omega)
 all_goals try (refine zs ?_; repeat' first | apply zs0 | apply zs2 | (intro hc; try have hq := dq hc))
 refine ab (af (c := loopAt Tryz.f128 0) rfl (key (eachP (nodeErrS leaves nodes) 0 nodes) _ 0 _ _ (by omega) ⟨rfl, yw3, yw3, yw3, ⟨rfl⟩⟩)) ?_
 clear key
 rintro ex ρ' H' ⟨rfl, ⟨rfl, h2⟩ | ⟨rfl, h2, h3⟩⟩ -
 ·rw [h2]
  all_goals try (refine zs ?_; repeat' first | apply zs0 | apply zs2 | (intro hc; try have hq := dq hc))
 ·all_goals try (refine zs ?_; repeat' first | apply zs0 | apply zs2 | (intro hc; try have hq := dq hc))
end Go.E
