/- Plain law of chapter 15: which sets of states are closed. Own work. -/
import Derived.Test.YtoljdokffnjapaaGreatP6
import Derived.Test.YtoljdokffnjapaaGreatP2
import Derived.Test.YtoljdokffnjapaaGreatP5
import Derived.Test.YtoljdokffnjapaaGreatP4
set_option linter.all false
namespace Go.E
open Classical
theorem pQ {α : Type} [DecidableEq α] {L : List α → Nat → Unit → Option (Oc Bool Unit)} (a b : List α) (eq : α → α → Option Bool) (hl : a.length = b.length) (h0 : ∀ i s, L [] i s = some (.b ()))
  (h1 : ∀ x r i s, L (x :: r) i s = (b[i]?).bind fun y => (eq x y).bind fun e => if e = true then L r (i + 1) () else some (.a false)) (he : ∀ x ∈ a, ∀ y ∈ b, eq x y = some (decide (x = y))) :
  ∀ (r : List α) (i : Nat), a.drop i = r → a.take i = b.take i → ∃ o, L r i () = some o ∧ (match o with | .a x => x = false ∧ a ≠ b | .b _ => a = b)
 | [], i, hd, ht => by
  have h2 : a.length ≤ i := by simpa using hd
  rw [List.take_of_length_le h2, List.take_of_length_le (by omega)] at ht
  exact ⟨_, h0 i (), ht⟩
 | x :: r, i, hd, ht => by
  have hlt := gm hd
  have hx := ak hd
  have hb : b[i]? = some (b[i]'(by omega)) := aS (by omega)
  rw [h1, hb, Option.bind_some, he x (List.mem_of_getElem? hx) _ (List.mem_of_getElem? hb), Option.bind_some]
  by_cases h : x = b[i]'(by omega)
  ·rw [if_pos (decide_eq_true h)]
   refine pQ a b eq hl h0 h1 he r (i + 1) (ah hd) ?_
   rw [List.take_add_one, List.take_add_one, hx, hb, ht, h]
  ·rw [if_neg (by simpa using h)]
   refine ⟨_, rfl, rfl, fun e => h ?_⟩
   subst e
   rw [hx] at hb; exact Option.some.inj hb
variable {F : Nat} (hF : 1000000 < F)
include hF in
theorem tN (a b : List Int) (ha : a.length ≤ 1000000) : cq F a b = some (decide (a = b)) := by
 unfold cq
 by_cases hl : a.length = b.length
 ·have e := lA F a b ha a 0 F () rfl (by omega)
  obtain ⟨o, h1, h2⟩ := pQ (L := eP F a b) a b (fun x y => some (decide (x = y))) hl (fun _ _ => rfl) (fun x r i _ => by
   rw [eP]; congr 1; funext y; by_cases h : x = y <;> simp [h]) (fun _ _ _ _ => rfl) a 0 rfl rfl
  rw [if_neg (by simp [hl]), e, h1]
  cases o with
  | a x => obtain ⟨rfl, h3⟩ := h2; simp [h3]
  | b x => simp only at h2; simp [h2]
 ·have hne : a ≠ b := fun e => hl (by rw [e])
  rw [if_pos (by simp; omega)]; simp [hne]
include hF in
theorem GD (a b : List (List Int)) (ha : a.length ≤ 1000000) (hx : ∀ x ∈ a, x.length ≤ 1000000) : iq F a b = some (decide (a = b)) := by
 unfold iq
 by_cases hl : a.length = b.length
 ·have e := kC F a b ha a 0 F () rfl (by omega)
  obtain ⟨o, h1, h2⟩ := pQ (L := fy F a b) a b (fun x y => cq F x y) hl (fun _ _ => rfl) (fun x r i _ => rfl) (fun x h y _ => tN hF x y (hx x h)) a 0 rfl rfl
  rw [if_neg (by simp [hl]), e, h1]
  cases o with
  | a x => obtain ⟨rfl, h3⟩ := h2; simp [h3]
  | b x => simp only at h2; simp [h2]
 ·have hne : a ≠ b := fun e => hl (by rw [e])
  rw [if_pos (by simp; omega)]; simp [hne]
include hF in
theorem xY (a b : List DStep) (ha : a.length ≤ 1000000) : fz F a b = some (decide (a = b)) := by
 unfold fz
 by_cases hl : a.length = b.length
 ·have e := iO F a b ha a 0 F () rfl (by omega)
  obtain ⟨o, h1, h2⟩ := pQ (L := dA F a b) a b (fun x y => some (decide (x = y))) hl (fun _ _ => rfl) (fun x r i _ => rfl) (fun _ _ _ _ => rfl) a 0 rfl rfl
  rw [if_neg (by simp [hl]), e, h1]
  cases o with
  | a x => obtain ⟨rfl, h3⟩ := h2; simp [h3]
  | b x => simp only at h2; simp [h2]
 ·have hne : a ≠ b := fun e => hl (by rw [e])
  rw [if_pos (by simp; omega)]; simp [hne]
include hF in
theorem rZ (ws l : List Int) (hw : ∀ w ∈ ws, 1 ≤ w ∧ w ≤ 16) (hl : l.length ≤ 1000000) : er F ws l = some (valErrS ws l) := by
 unfold er
 by_cases hn : ws.length = l.length
 case neg => rw [if_pos (by simp; omega)]; unfold valErrS; rw [if_neg (by omega)]
 rw [if_neg (by simp; omega)]
 unfold ie
 rw [if_neg (by simp; omega)]
 have e := jm F ws l hl l 0 F () rfl (by omega)
 have k : ∀ (r : List Int) (i : Nat), l.drop i = r → cZ F ws l r i () = some (if (eachP (fun i n => if fitsN n (at0 ws i) = true then (0 : Int) else 2) i r).2 = 0 then .b () else .a false) ∧
   ((eachP (fun i n => if fitsN n (at0 ws i) = true then (0 : Int) else 2) i r).2 = 0 ∨ (eachP (fun i n => if fitsN n (at0 ws i) = true then (0 : Int) else 2) i r).2 = 2) := by
  intro r
  induction r with
  | nil => intro i _; exact ⟨rfl, .inl rfl⟩
  | cons x r ih =>
   intro i hd
   have hlt := gm hd
   have hg : ws[i]? = some (ws[i]'(by omega)) := aS (by omega)
   have hw1 := hw _ (List.mem_of_getElem? hg)
   simp only [cZ, eachP]
   rw [hg, Option.bind_some, if_pos (by omega), fW hg]
   rcases bb (fitsN x (ws[i]'(by omega))) with h | h
   ·simpa [h] using ih (i + 1) (ah hd)
   ·simp [h]
 obtain ⟨k1, k2⟩ := k l 0 rfl
 rw [e, k1]
 unfold valErrS
 rw [if_pos hn.symm]
 rcases k2 with k2 | k2 <;> simp [k2]
include hF in
theorem GE {d : Desg} (h : OkD d) (l : List Int) (hl : l.length ≤ 1000000) : dk F d l = some (valErrS (inWs d) l) := by
 unfold dk
 have e : (leavesD d).take d.inputs.length = inWs d := by rw [rV, List.take_left' (by simp [inWs])]
 rw [qU hF d h.few.inputs h.few.elements, Option.bind_some, if_pos (by simp [leavesD]), e, rZ hF _ _ h.inW hl]; rfl
include hF in
theorem GF {d : Desg} (h : OkD d) (l : List Int) (hl : l.length ≤ 1000000) : eQ F d l = some (valErrS (elWs d) l) := by
 unfold eQ
 have e : (leavesD d).drop d.inputs.length = elWs d := by rw [rV, List.drop_left' (by simp [inWs])]
 rw [qU hF d h.few.inputs h.few.elements, Option.bind_some, if_pos (by simp [leavesD]), e, rZ hF _ _ h.elW hl]; rfl
include hF in
theorem EH {d : Desg} (h : FewD d) : gP F d = some (designErrR d).2 := by
 unfold gP
 rw [Bd hF h]; rfl
include hF in
theorem Cz {d : Desg} (h : d.elements.length ≤ 1000) : gO F d = some (resetD d) := by
 unfold gO
 have e := ko F d (by omega) d.elements 0 F (List.replicate d.elements.length 0) rfl (by omega)
 have k : ∀ (r : List Elem) (i : Nat) (o : List Int), d.elements.drop i = r → o.length = d.elements.length → cE F d r i o = some (o.take i ++ r.map (·.init)) := by
  intro r
  induction r with
  | nil =>
   intro i o hd ho
   have : d.elements.length ≤ i := by simpa using hd
   rw [cE, List.take_of_length_le (by omega)]; simp
  | cons x r ih =>
   intro i o hd ho
   have hlt := gm hd
   have hg : o[i]? = some (o[i]'(by omega)) := aS (by omega)
   rw [cE, hg, Option.bind_some, ih (i + 1) _ (ah hd) (by simpa using ho), List.take_add_one, List.getElem?_set_self (by omega), List.take_set, List.set_eq_of_length_le (by simp; omega)]
   simp
 rw [if_pos (by omega), e, k d.elements 0 _ rfl (by simp)]
 simp [resetD]
theorem zN (d : Desg) (s : List Int) : dX F d s = aF F d s := by
 have k0 : ∀ k st, ec F d k st = aw F d k st := by
  intro k
  induction k with
  | zero => intro st; rfl
  | succ k ih => rintro ⟨a, b⟩; rw [ec, aw]; simp only [ih]
 have k1 : ∀ k st, ep F d s k st = ay F d s k st := by
  intro k
  induction k with
  | zero => intro st; rfl
  | succ k ih => intro a; rw [ep, ay]; simp only [ih]
 unfold dX aF
 simp only [k0, k1]
include hF in
theorem uk {d : Desg} (h : d.elements.length ≤ 1000) {s : List Int} (hs : s.length = d.elements.length) : dX F d s = some (begL d.elements s) := by
 rw [zN, kN hF h hs]
theorem xe {d : Desg} (h : OkD d) {l s : List Int} (hl : LeafOk (inWs d) l) (hs : LeafOk (elWs d) s) : l.length + s.length ≤ 1000000 := by
 have a1 := hl.1
 have a2 := hs.1
 have a3 := h.few.inputs
 have a4 := h.few.elements
 simp [inWs] at a1; simp [elWs] at a2; omega
theorem yI {d : Desg} (h : OkD d) {l s : List Int} (hl : LeafOk (inWs d) l) (hs : LeafOk (elWs d) s) : ∃ ws, GoodAll ws d.nodes ∧ LeafOk ws (l ++ s) := ⟨leavesD d, h.good, pH hl hs⟩
theorem yJ {d : Desg} (h : OkD d) : ∀ x ∈ d.nodes, x.args.length ≤ 1000000 := fun x hx => by have := h.few.args x hx; omega
theorem Bk {d : Desg} (ok : OkD d) {r : Int} (hr : ruleErrR d r = 0) {l s : List Int} (hl : LeafOk (inWs d) l) (hs : LeafOk (elWs d) s) : gB F d r l s = some (enAt d (valsD d l s) r.toNat) := by
 obtain ⟨x, hx, e⟩ := ru hr
 have hi : idxI d.rules r = some x := by rw [e, gb, hx]
 unfold gB
 rw [hi, Option.bind_some, if_pos (xe ok hl hs), if_pos ok.few.nodes, if_pos (yJ ok), if_pos (yI ok hl hs)]
 have := (mG (nN (ok.rule (List.mem_of_getElem? hx)).1) (jR d l s)).1
 unfold valsD at this
 rw [this, Option.bind_some, show enAt d (valsD d l s) r.toNat = enD (valsD d l s) x by simp only [enAt, hx]]
 rfl
include hF in
theorem zO {d : Desg} (ok : OkD d) {r : Int} (hr : ruleErrR d r = 0) {l s : List Int} (hl : LeafOk (inWs d) l) (hs : LeafOk (elWs d) s) : ff F d r l s = some (hapD d r l s) := by
 have e : ff F d r l s = ap F d r (valsD d l s) s := by
  have k0 : ∀ x k st, cF F d l s x k st = am F (valsD d l s) x k st := by
   intro x k
   induction k with
   | zero => intro st; rfl
   | succ k ih => rintro ⟨a, b⟩; rw [cF, am]; simp only [ih, valsD]
  have k1 : ∀ x k st, cY F d l s x k st = ao F (valsD d l s) s x k st := by
   intro x k
   induction k with
   | zero => intro st; rfl
   | succ k ih => intro a; rw [cY, ao]; simp only [ih, valsD]
  unfold ff ap
  simp only [k0, k1]
  rw [if_pos (xe ok hl hs), if_pos ok.few.nodes, if_pos (yJ ok), if_pos (yI ok hl hs)]
 rw [e, dn_hap' hF ok hr hs]
theorem GG {d : Desg} {i : Nat} (h : i < d.rules.length) : ruleErrR d (i : Int) = 0 := by
 unfold ruleErrR inLen; rw [if_pos]; simp only [Bool.and_eq_true, decide_eq_true_eq]; omega
theorem xf {α : Type} {L : List α → Nat → Unit → Option (Oc Int Unit)} (f : α → Option Int) (g : α → Int) (h0 : ∀ i s, L [] i s = some (.b ()))
  (h1 : ∀ x r i s, L (x :: r) i s = (f x).bind fun y => if (decide (¬y = 0)) = true then some (.a y) else L r (i + 1) ()) : ∀ (r : List α) (i : Nat), (∀ x ∈ r, f x = some (g x)) →
   L r i () = some (if (eachP (fun _ x => g x) i r).2 = 0 then .b () else .a (eachP (fun _ x => g x) i r).2)
 | [], i, _ => h0 i ()
 | x :: r, i, hf => by
  rw [h1, hf x (by simp), Option.bind_some, eachP]
  by_cases h : g x = 0
  ·rw [if_neg (by simp [h]), xf f g h0 h1 r (i + 1) (fun y hy => hf y (by simp [hy]))]
   simp only [h, ne_eq, not_true_eq_false, if_false]
  ·rw [if_pos (by simpa using h), if_pos h, if_neg h]
include hF in
theorem r_listsErr' {d : Desg} (ok : OkD d) (iS : List (List Int)) (hl : iS.length ≤ 1000) (hi : ∀ l ∈ iS, l.length ≤ 1000000) : eR F d iS = some (listsErrR d iS) := by
 unfold eR listsErrR
 rw [if_pos ok.err]
 by_cases h0 : iS.length = 0
 ·rw [if_pos (by simp [h0]), if_pos h0]
 rw [if_neg (by simpa using h0), if_neg h0]
 by_cases h1 : 16 < iS.length
 ·rw [if_pos (by simp; omega), if_pos h1]
 rw [if_neg (by simp; omega), if_neg h1]
 have e : bB F d iS F 0 = _ := iZ F d iS (by omega) iS 0 F () rfl (by omega)
 rw [e, xf (L := dU F d iS) (fun r => dk F d r) (fun r => valErrS (inWs d) r) (fun _ _ => rfl) (fun _ _ _ _ => rfl) iS 0 (fun r hr => GE hF ok r (hi r hr)), Option.bind_some]
 by_cases h2 : (eachP (fun _ l => valErrS (inWs d) l) 0 iS).2 = 0
 ·rw [if_pos h2, h2]
 ·rw [if_neg h2]
include hF in
theorem zP {d : Desg} (h : FewD d) (iS : List (List Int)) (hl : iS.length ≤ 1000) (hi : ∀ l ∈ iS, l.length ≤ 1000000) : fP F d iS = some (listsErrR d iS) := by
 unfold fP
 rw [EH hF h, Option.bind_some]
 by_cases he : (designErrR d).2 = 0
 ·rw [if_pos (by simp [he]), r_listsErr' hF ⟨h, he⟩ iS hl hi]; rfl
 ·rw [if_neg (by simp [he])]; unfold listsErrR; rw [if_neg he]
end Go.E
namespace Go.E
open Go.Proofs Classical
set_option maxRecDepth 100000
set_option maxHeartbeats 400000
noncomputable section
end
end Go.E
namespace Go.E
open Classical
theorem Bl (d : Desg) : begL d.elements (resetD d) = resetD d := by
 unfold resetD
 generalize d.elements = els
 induction els with
 | nil => rfl
 | cons x els ih =>
  unfold begL at ih ⊢
  simp only [List.map_cons, List.zipWith_cons_cons, ih]
  by_cases h : x.kind = 1 <;> simp [h]
structure VisF (d : Desg) (l : List DVisit) : Prop where
 ok : VisOk d l
 fix : ∀ v ∈ l, begL d.elements v.state = v.state
theorem VisF.more {d : Desg} {l : List DVisit} (h : VisF d l) {v : DVisit} (hl : l.length < 300) (hv : LeafOk (elWs d) v.state) (hf : begL d.elements v.state = v.state) : VisF d (l ++ [v]) := by
 refine ⟨⟨by simp; omega, fun w hw => ?_⟩, fun w hw => ?_⟩
 ·rcases List.mem_append.1 hw with hw | hw
  ·exact h.ok.st w hw
  ·obtain rfl := List.mem_singleton.1 hw; exact hv
 ·rcases List.mem_append.1 hw with hw | hw
  ·exact h.fix w hw
  ·obtain rfl := List.mem_singleton.1 hw; exact hf
variable {F : Nat} (hF : 1000000 < F)
include hF in
theorem Ib {d : Desg} (ok : OkD d) {iS : List (List Int)} (hin : ∀ x ∈ iS, LeafOk (inWs d) x) {k r : Nat} {li : List Int} (hk : iS[k]? = some li) {x : Rul} (hr : d.rules[r]? = some x) {s : List Int} (hs : LeafOk (elWs d) s) (hf : begL d.elements s = s) :
  iv F d iS (⟨(k : Int), (r : Int)⟩ : DStep) s = some (if enD (valsD d li s) x = true then (begL d.elements (hapL x.writes (valsD d li s) s), true) else ([], false)) := by
 have hl := hin li (List.mem_of_getElem? hk)
 have hel := ok.few.elements
 have hr0 := GG (d := d) (aa hr)
 have hlen : s.length = d.elements.length := by rw [hs.1]; simp [elWs]
 unfold iv
 simp only
 rw [uk hF hel hlen, Option.bind_some, hf, gb, hk, Option.bind_some, Bk ok hr0 hl hs, Option.bind_some, Int.toNat_natCast, show enAt d (valsD d li s) r = enD (valsD d li s) x by simp only [enAt, hr]]
 cases enD (valsD d li s) x
 ·rfl
 ·have hh := yH ok hr0 hl hs
  have e : hapD d (r : Int) li s = hapL x.writes (valsD d li s) s := by simp only [hapD, Int.toNat_natCast, hr]
  simp only [if_true]
  rw [zO hF ok hr0 hl hs, Option.bind_some, uk hF hel (by rw [hh.1]; simp [elWs]), Option.bind_some, e]
end Go.E
namespace Go.E
open Go.Proofs Classical
set_option maxRecDepth 100000
set_option maxHeartbeats 2000000
noncomputable section
def dJ (F : Nat) (a : List Int) (b : List Int) : Nat → Nat → Option (Oc (Bool) (Unit))
 | 0, _ => none
 | k + 1, s1 => (if (decide ((s1 : Int) < (a.length : Int))) = true then (if (decide ((s1 : Int) < (b.length : Int))) = true then ((a[s1]?).bind fun x5 => ((b[s1]?).bind fun x6 => (if (decide (¬x5 = x6)) = true then some (.a (decide (x5 < x6))) else (if inI ((s1 : Int) + 1) then dJ F a b k (s1 + 1) else none)))) else some (.b ())) else some (.b ()))
theorem qo (bs : List Nat) (H : Heap) (F : Nat) (a : List Int) (b : List Int) : ∀ k s r ρ H', (∃ J2, H' = H ++ J2 ∧ ρ 0 = .list (a.map (V.int .i64)) ∧ ρ 1 = .list (b.map (V.int .i64)) ∧ ρ 5 = .int .i64 (s : Int)) → dJ F a b k s = some r → Lp X ⟨41, H.length :: bs⟩ (loopAt Tryz.f144 0) ρ H' ((fun r ex ρ H' => match r with | .a r => ∃ J2, H' = H ++ J2 ∧ ex = .ret ∧ ρ 4 = .bool r | .b r => ∃ J2, H' = H ++ J2 ∧ ex = .exit 0) r) := by
 refine ae (fun _ => rfl) ?_
 rintro k s1 r ρ H' ⟨J2, hH, h0, h1, h5⟩ hR
 skip
 subst hH
 rw [dJ] at hR
 conv => arg 3; whnf
 try refine zw ?_
 rcases iteE hR with ⟨c3, hR⟩ | ⟨c3, hR⟩
 ·try refine zw ?_
  rcases iteE hR with ⟨c4, hR⟩ | ⟨c4, hR⟩
  ·obtain ⟨x5, x5_e, hR⟩ := bindE hR
   obtain ⟨x6, x6_e, hR⟩ := bindE hR
   try refine zu ?_
   (refine yw0 (id := 4) oz1 ?_)
   try refine zw ?_
   rcases iteE hR with ⟨c7, hR⟩ | ⟨c7, hR⟩
   ·obtain rfl := someE hR
    try refine zu ?_
    (refine yw0 (id := 5) oz2 ?_)
    try refine zu ?_
    exact ⟨_, hq, rfl, sl⟩
   ·obtain ⟨g10, hR⟩ := grdE hR
    have g10_w := ac g10
    refine zu ?_
    exact ⟨(s1 + 1), ⟨_, hq, sl, sl, sl⟩, hR.out⟩
  ·obtain rfl := someE hR
   refine zu ?_
   exact ⟨_, hq, rfl⟩
 ·obtain rfl := someE hR
  refine zu ?_
  exact ⟨_, hq, rfl⟩
def dS (F : Nat) (a : List Int) (b : List Int) : List Int → Nat → Unit → Option (Oc (Bool) (Unit))
 | [], s1, _ => some (.b ())
 | x_ :: r_, s1, _ => (if (decide ((s1 : Int) < (b.length : Int))) = true then ((b[s1]?).bind fun x6 => (if (decide (¬x_ = x6)) = true then some (.a (decide (x_ < x6))) else dS F a b r_ (s1 + 1) ())) else some (.b ()))
theorem kw (F : Nat) (a : List Int) (b : List Int) (hl_ : a.length ≤ 1000000) : ∀ r_ i_ k_ (o_ : Unit), a.drop i_ = r_ → r_.length < k_ → dJ F a b k_ i_ = dS F a b r_ i_ o_
 | _, _, 0, _, _, hk => absurd hk (Nat.not_lt_zero _)
 | [], i_, k_ + 1, _, hd, _ => by rw [dJ, dS]; simp only [ai hd, Bool.false_eq_true, if_false]
 | x_ :: r_, i_, k_ + 1, _, hd, hk => by
  have ih := kw F a b hl_ r_ (i_ + 1) k_ () (ah hd) (Nat.lt_of_succ_lt_succ hk)
  rw [dJ, dS]; simp only [aq hd, ak hd, if_pos (av hd hl_), Option.bind_some, if_true, ih]
def fY (F : Nat) (a : List Int) (b : List Int) : Option (Bool) := ((dJ F a b F 0).bind fun o11 => match o11 with | .a o12 => some o12 | .b o14 => some (decide ((a.length : Int) < (b.length : Int))))
theorem sK (bs : List Nat) (H : Heap) (F : Nat) (a : List Int) (b : List Int) (R : Bool) (hR0 : fY F a b = some R) : callw X bs 144 [.list (a.map (V.int .i64)), .list (b.map (V.int .i64))] H = some (.bool R, H) := by
 refine yw2 (rs := [.tmp 4]) (N := 41) (fn := Tryz.f144) Dp Tryz.func144 ?_
 have hR := Kp.mk hR0
 clear hR0
 rw [fY] at hR
 obtain ⟨o11, o11_e, hR⟩ := bindE hR
 refine zu ?_
 refine ab (af (c := (loopAt Tryz.f144 0)) rfl (qo _ H F a b _ 0 o11 _ _ ⟨[], by simp, sl, sl, sl⟩ o11_e)) ?_
 rcases o11 with o12 | o14
 ·rintro ex ρ' H' ⟨J13, rfl, rfl, q4_o12⟩ hf
  clear hf
  obtain rfl := someE hR
  exact zv
 ·rintro ex ρ' H' ⟨J15, rfl, rfl⟩ hf
  have q0_o14 : ρ' 0 = .list (a.map (V.int .i64)) := (hf 0 rfl).trans (sl)
  have q1_o14 : ρ' 1 = .list (b.map (V.int .i64)) := (hf 1 rfl).trans (sl)
  clear hf
  obtain rfl := someE hR
  exact zv
def eM (F : Nat) (l : List (List Int)) (state : List Int) : Nat → Nat → Option (Oc (Bool) (Unit))
 | 0, _ => none
 | k + 1, s1 => (if (decide ((s1 : Int) < (l.length : Int))) = true then ((l[s1]?).bind fun x4 => ((cq F x4 state).bind fun y5 => (if y5 = true then some (.a true) else (if inI ((s1 : Int) + 1) then eM F l state k (s1 + 1) else none)))) else some (.b ()))
theorem rE (bs : List Nat) (H : Heap) (F : Nat) (l : List (List Int)) (state : List Int) : ∀ k s r ρ H', (∃ J2, H' = H ++ J2 ∧ ρ 0 = .list (l.map encInts) ∧ ρ 1 = .list (state.map (V.int .i64)) ∧ ρ 5 = .int .i64 (s : Int)) → eM F l state k s = some r → Lp X ⟨18, H.length :: bs⟩ (loopAt Tryz.f145 0) ρ H' ((fun r ex ρ H' => match r with | .a r => ∃ J2, H' = H ++ J2 ∧ ex = .ret ∧ ρ 4 = .bool r | .b r => ∃ J2, H' = H ++ J2 ∧ ex = .exit 0) r) := by
 refine ae (fun _ => rfl) ?_
 rintro k s1 r ρ H' ⟨J2, hH, h0, h1, h5⟩ hR
 skip
 subst hH
 rw [eM] at hR
 conv => arg 3; whnf
 try refine zw ?_
 rcases iteE hR with ⟨c3, hR⟩ | ⟨c3, hR⟩
 ·obtain ⟨x4, x4_e, hR⟩ := bindE hR
  obtain ⟨y5, y5_e, hR⟩ := bindE hR
  have y5_k := fun bs H => iT bs H F x4 state y5 y5_e
  try refine zw ?_
  clear y5_k
  rcases iteE hR with ⟨c6, hR⟩ | ⟨c6, hR⟩
  ·obtain rfl := someE hR
   refine zu ?_
   exact ⟨_, hq, rfl, sl⟩
  ·obtain ⟨g7, hR⟩ := grdE hR
   have g7_w := ac g7
   refine zu ?_
   exact ⟨(s1 + 1), ⟨_, hq, sl, sl, sl⟩, hR.out⟩
 ·obtain rfl := someE hR
  refine zu ?_
  exact ⟨_, hq, rfl⟩
def eT (F : Nat) (l : List (List Int)) (state : List Int) : List (List Int) → Nat → Unit → Option (Oc (Bool) (Unit))
 | [], s1, _ => some (.b ())
 | x_ :: r_, s1, _ => ((cq F x_ state).bind fun y5 => (if y5 = true then some (.a true) else eT F l state r_ (s1 + 1) ()))
theorem lC (F : Nat) (l : List (List Int)) (state : List Int) (hl_ : l.length ≤ 1000000) : ∀ r_ i_ k_ (o_ : Unit), l.drop i_ = r_ → r_.length < k_ → eM F l state k_ i_ = eT F l state r_ i_ o_
 | _, _, 0, _, _, hk => absurd hk (Nat.not_lt_zero _)
 | [], i_, k_ + 1, _, hd, _ => by rw [eM, eT]; simp only [ai hd, Bool.false_eq_true, if_false]
 | x_ :: r_, i_, k_ + 1, _, hd, hk => by
  have ih := lC F l state hl_ r_ (i_ + 1) k_ () (ah hd) (Nat.lt_of_succ_lt_succ hk)
  rw [eM, eT]; simp only [aq hd, ak hd, if_pos (av hd hl_), Option.bind_some, if_true, ih]
def gS (F : Nat) (l : List (List Int)) (state : List Int) : Option (Bool) := ((eM F l state F 0).bind fun o8 => match o8 with | .a o9 => some o9 | .b o11 => some false)
theorem oR (bs : List Nat) (H : Heap) (F : Nat) (l : List (List Int)) (state : List Int) (R : Bool) (hR0 : gS F l state = some R) : callw X bs 145 [.list (l.map encInts), .list (state.map (V.int .i64))] H = some (.bool R, H) := by
 refine yw2 (rs := [.tmp 4]) (N := 18) (fn := Tryz.f145) Dr Tryz.func145 ?_
 have hR := Kp.mk hR0
 clear hR0
 rw [gS] at hR
 obtain ⟨o8, o8_e, hR⟩ := bindE hR
 refine zu ?_
 refine ab (af (c := (loopAt Tryz.f145 0)) rfl (rE _ H F l state _ 0 o8 _ _ ⟨[], by simp, sl, sl, sl⟩ o8_e)) ?_
 rcases o8 with o9 | o11
 ·rintro ex ρ' H' ⟨J10, rfl, rfl, q4_o9⟩ hf
  clear hf
  obtain rfl := someE hR
  exact zv
 ·rintro ex ρ' H' ⟨J12, rfl, rfl⟩ hf
  clear hf
  obtain rfl := someE hR
  exact zv
def aH (F : Nat) (d : Desg) (sS : List (List Int)) : Nat → Nat → Option (Oc (Nat × Int) (Unit))
 | 0, _ => none
 | k + 1, s2 => (if (decide ((s2 : Int) < (sS.length : Int))) = true then ((sS[s2]?).bind fun x5 => ((eQ F d x5).bind fun y6 => (if (decide (¬y6 = 0)) = true then some (.a (s2, y6)) else ((dX F d x5).bind fun y10 => ((cq F y10 x5).bind fun y11 => (if y11 = true then (if (decide ((0 : Int) < (s2 : Int))) = true then (if inI ((s2 : Int) - 1) then ((idxI sS ((s2 : Int) - 1)).bind fun x15 => ((fY F x15 x5).bind fun y17 => (if y17 = true then (if inI ((s2 : Int) + 1) then aH F d sS k (s2 + 1) else none) else some (.a (s2, 9))))) else none) else (if inI ((s2 : Int) + 1) then aH F d sS k (s2 + 1) else none)) else some (.a (s2, 3)))))))) else some (.b ()))
theorem lG (bs : List Nat) (H : Heap) (F : Nat) (d : Desg) (iS : List (List Int)) (sS : List (List Int)) : ∀ k s r ρ H', (∃ J3, H' = H ++ .cells [.str d.name, .list (d.inputs.map encPort), .list (d.elements.map encElem), .list (d.nodes.map encNode), .list (d.rules.map encRul), .list (d.outs.map encOutp), .list (d.attrs.map encAttr)] :: J3 ∧ ρ 1 = .list (iS.map encInts) ∧ ρ 2 = .list (sS.map encInts) ∧ ρ 3 = .ptr H.length 0 ∧ ρ 8 = .int .i64 (s : Int)) → aH F d sS k s = some r → Lp X ⟨108, H.length :: bs⟩ (loopAt Tryz.f49 0) ρ H' ((fun r ex ρ H' => match r with | .a r => ∃ J3, H' = H ++ .cells [.str d.name, .list (d.inputs.map encPort), .list (d.elements.map encElem), .list (d.nodes.map encNode), .list (d.rules.map encRul), .list (d.outs.map encOutp), .list (d.attrs.map encAttr)] :: J3 ∧ ex = .ret ∧ ρ 6 = .int .i64 (r.1 : Int) ∧ ρ 7 = .int .i64 r.2 | .b r => ∃ J3, H' = H ++ .cells [.str d.name, .list (d.inputs.map encPort), .list (d.elements.map encElem), .list (d.nodes.map encNode), .list (d.rules.map encRul), .list (d.outs.map encOutp), .list (d.attrs.map encAttr)] :: J3 ∧ ex = .exit 0) r) := by
 refine ae (fun _ => rfl) ?_
 rintro k s2 r ρ H' ⟨J3, hH, h1, h2, h3, h8⟩ hR
 skip
 subst hH
 rw [aH] at hR
 conv => arg 3; whnf
 try refine zw ?_
 rcases iteE hR with ⟨c4, hR⟩ | ⟨c4, hR⟩
 ·obtain ⟨x5, x5_e, hR⟩ := bindE hR
  obtain ⟨y6, y6_e, hR⟩ := bindE hR
  have y6_k := fun bs H => qk bs H F d x5 y6 y6_e
  (try simp only [cellsDesg, encDesg, encInts] at y6_k)
  try refine zu ?_
  (refine yw0 (id := 6) oz5 ?_)
  try refine zw ?_
  clear y6_k
  rcases iteE hR with ⟨c7, hR⟩ | ⟨c7, hR⟩
  ·obtain rfl := someE hR
   refine zu ?_
   exact ⟨_, hq, rfl, sl, sl⟩
  ·obtain ⟨y10, y10_e, hR⟩ := bindE hR
   have y10_k := fun bs H => kq bs H F d x5 y10 y10_e
   (try simp only [cellsDesg, encDesg, encInts] at y10_k)
   obtain ⟨y11, y11_e, hR⟩ := bindE hR
   have y11_k := fun bs H => iT bs H F y10 x5 y11 y11_e
   try refine zu ?_
   (refine yw1 (id := 9) [0, 1, 2, 3, 4, 6, 7, 8, 9, 5, 10, 11] [(8, 9)] ?_)
   try refine zw ?_
   clear y10_k y11_k
   rcases iteE hR with ⟨c12, hR⟩ | ⟨c12, hR⟩
   ·try refine zu ?_
    (refine yw0 (id := 11) oz38 ?_)
    try refine zw ?_
    rcases iteE hR with ⟨c13, hR⟩ | ⟨c13, hR⟩
    ·obtain ⟨g14, hR⟩ := grdE hR
     have g14_w := ac g14
     obtain ⟨x15, x15_e, hR⟩ := bindE hR
     obtain ⟨x15_p, x15_e⟩ := idxE x15_e
     obtain ⟨y17, y17_e, hR⟩ := bindE hR
     have y17_k := fun bs H => sK bs H F x15 x5 y17 y17_e
     try refine zw ?_
     clear y17_k
     rcases iteE hR with ⟨c18, hR⟩ | ⟨c18, hR⟩
     ·obtain ⟨g19, hR⟩ := grdE hR
      have g19_w := ac g19
      refine zu ?_
      exact ⟨(s2 + 1), ⟨_, hq, sl, sl, sl, sl⟩, hR.out⟩
     ·obtain rfl := someE hR
      refine zu ?_
      exact ⟨_, hq, rfl, sl, sl⟩
    ·obtain ⟨g20, hR⟩ := grdE hR
     have g20_w := ac g20
     refine zu ?_
     exact ⟨(s2 + 1), ⟨_, hq, sl, sl, sl, sl⟩, hR.out⟩
   ·obtain rfl := someE hR
    refine zu ?_
    exact ⟨_, hq, rfl, sl, sl⟩
 ·obtain rfl := someE hR
  refine zu ?_
  exact ⟨_, hq, rfl⟩
def aW (F : Nat) (d : Desg) (sS : List (List Int)) : List (List Int) → Nat → Unit → Option (Oc (Nat × Int) (Unit))
 | [], s2, _ => some (.b ())
 | x_ :: r_, s2, _ => ((eQ F d x_).bind fun y6 => (if (decide (¬y6 = 0)) = true then some (.a (s2, y6)) else ((dX F d x_).bind fun y10 => ((cq F y10 x_).bind fun y11 => (if y11 = true then (if (decide ((0 : Int) < (s2 : Int))) = true then (if inI ((s2 : Int) - 1) then ((idxI sS ((s2 : Int) - 1)).bind fun x15 => ((fY F x15 x_).bind fun y17 => (if y17 = true then aW F d sS r_ (s2 + 1) () else some (.a (s2, 9))))) else none) else aW F d sS r_ (s2 + 1) ()) else some (.a (s2, 3)))))))
theorem gX (F : Nat) (d : Desg) (sS : List (List Int)) (hl_ : sS.length ≤ 1000000) : ∀ r_ i_ k_ (o_ : Unit), sS.drop i_ = r_ → r_.length < k_ → aH F d sS k_ i_ = aW F d sS r_ i_ o_
 | _, _, 0, _, _, hk => absurd hk (Nat.not_lt_zero _)
 | [], i_, k_ + 1, _, hd, _ => by rw [aH, aW]; simp only [ai hd, Bool.false_eq_true, if_false]
 | x_ :: r_, i_, k_ + 1, _, hd, hk => by
  have ih := gX F d sS hl_ r_ (i_ + 1) k_ () (ah hd) (Nat.lt_of_succ_lt_succ hk)
  rw [aH, aW]; simp only [aq hd, ak hd, if_pos (av hd hl_), Option.bind_some, if_true, ih]
def aU (F : Nat) (d : Desg) (iS : List (List Int)) (sS : List (List Int)) (s29 : Nat) (s32 : Nat) : Nat → Nat → Option (Oc (Nat) (Unit))
 | 0, _ => none
 | k + 1, s35 => (if (decide ((s35 : Int) < (d.rules.length : Int))) = true then ((sS[s29]?).bind fun x38 => ((iv F d iS (⟨(s32 : Int), (s35 : Int)⟩ : DStep) x38).bind fun y39 => (if y39.2 = true then ((gS F sS y39.1).bind fun y41 => (if y41 = true then (if inI ((s35 : Int) + 1) then aU F d iS sS s29 s32 k (s35 + 1) else none) else some (.a s29))) else (if inI ((s35 : Int) + 1) then aU F d iS sS s29 s32 k (s35 + 1) else none)))) else some (.b ()))
theorem lH (bs : List Nat) (H : Heap) (F : Nat) (d : Desg) (iS : List (List Int)) (sS : List (List Int)) (s29 : Nat) (s32 : Nat) : ∀ k s r ρ H', (∃ J36, H' = H ++ .cells [.str d.name, .list (d.inputs.map encPort), .list (d.elements.map encElem), .list (d.nodes.map encNode), .list (d.rules.map encRul), .list (d.outs.map encOutp), .list (d.attrs.map encAttr)] :: J36 ∧ ρ 1 = .list (iS.map encInts) ∧ ρ 2 = .list (sS.map encInts) ∧ ρ 3 = .ptr H.length 0 ∧ ρ 10 = .int .i64 (s29 : Int) ∧ ρ 11 = .int .i64 (s32 : Int) ∧ ρ 12 = .int .i64 (s : Int)) → aU F d iS sS s29 s32 k s = some r → Lp X ⟨108, H.length :: bs⟩ (loopAt Tryz.f49 3) ρ H' ((fun r ex ρ H' => match r with | .a r => ∃ J36, H' = H ++ .cells [.str d.name, .list (d.inputs.map encPort), .list (d.elements.map encElem), .list (d.nodes.map encNode), .list (d.rules.map encRul), .list (d.outs.map encOutp), .list (d.attrs.map encAttr)] :: J36 ∧ ex = .ret ∧ ρ 6 = .int .i64 (r : Int) ∧ ρ 7 = .int .i64 21 | .b r => ∃ J36, H' = H ++ .cells [.str d.name, .list (d.inputs.map encPort), .list (d.elements.map encElem), .list (d.nodes.map encNode), .list (d.rules.map encRul), .list (d.outs.map encOutp), .list (d.attrs.map encAttr)] :: J36 ∧ ex = .exit 6) r) := by
 refine ae (fun _ => rfl) ?_
 rintro k s35 r ρ H' ⟨J36, hH, h1, h2, h3, h10, h11, h12⟩ hR
 skip
 subst hH
 rw [aU] at hR
 conv => arg 3; whnf
 try refine zw ?_
 rcases iteE hR with ⟨c37, hR⟩ | ⟨c37, hR⟩
 ·obtain ⟨x38, x38_e, hR⟩ := bindE hR
  obtain ⟨y39, y39_e, hR⟩ := bindE hR
  have y39_k := fun bs H => tM bs H F d iS (⟨(s32 : Int), (s35 : Int)⟩ : DStep) x38 y39 y39_e
  (try simp only [cellsDStep, cellsDesg, encDStep, encDesg, encInts] at y39_k)
  try refine zu ?_
  (refine yw0 (id := 24) oz38 ?_)
  try refine zw ?_
  clear y39_k
  rcases iteE hR with ⟨c40, hR⟩ | ⟨c40, hR⟩
  ·obtain ⟨y41, y41_e, hR⟩ := bindE hR
   have y41_k := fun bs H => oR bs H F sS y39.1 y41 y41_e
   try refine zw ?_
   clear y41_k
   rcases iteE hR with ⟨c42, hR⟩ | ⟨c42, hR⟩
   ·obtain ⟨g43, hR⟩ := grdE hR
    have g43_w := ac g43
    refine zu ?_
    exact ⟨(s35 + 1), ⟨_, hq, sl, sl, sl, sl, sl, sl⟩, hR.out⟩
   ·obtain rfl := someE hR
    refine zu ?_
    exact ⟨_, hq, rfl, sl, sl⟩
  ·obtain ⟨g44, hR⟩ := grdE hR
   have g44_w := ac g44
   refine zu ?_
   exact ⟨(s35 + 1), ⟨_, hq, sl, sl, sl, sl, sl, sl⟩, hR.out⟩
 ·obtain rfl := someE hR
  refine zu ?_
  exact ⟨_, hq, rfl⟩
def bj (F : Nat) (d : Desg) (iS : List (List Int)) (sS : List (List Int)) (s29 : Nat) : Nat → Nat → Option (Oc (Nat) (Unit))
 | 0, _ => none
 | k + 1, s32 => (if (decide ((s32 : Int) < (iS.length : Int))) = true then ((aU F d iS sS s29 s32 F 0).bind fun o45 => match o45 with | .a o46 => some (.a o46) | .b o48 => (if inI ((s32 : Int) + 1) then bj F d iS sS s29 k (s32 + 1) else none)) else some (.b ()))
theorem lI (bs : List Nat) (H : Heap) (F : Nat) (d : Desg) (iS : List (List Int)) (sS : List (List Int)) (s29 : Nat) : ∀ k s r ρ H', (∃ J33, H' = H ++ .cells [.str d.name, .list (d.inputs.map encPort), .list (d.elements.map encElem), .list (d.nodes.map encNode), .list (d.rules.map encRul), .list (d.outs.map encOutp), .list (d.attrs.map encAttr)] :: J33 ∧ ρ 1 = .list (iS.map encInts) ∧ ρ 2 = .list (sS.map encInts) ∧ ρ 3 = .ptr H.length 0 ∧ ρ 10 = .int .i64 (s29 : Int) ∧ ρ 11 = .int .i64 (s : Int)) → bj F d iS sS s29 k s = some r → Lp X ⟨108, H.length :: bs⟩ (loopAt Tryz.f49 2) ρ H' ((fun r ex ρ H' => match r with | .a r => ∃ J33, H' = H ++ .cells [.str d.name, .list (d.inputs.map encPort), .list (d.elements.map encElem), .list (d.nodes.map encNode), .list (d.rules.map encRul), .list (d.outs.map encOutp), .list (d.attrs.map encAttr)] :: J33 ∧ ex = .ret ∧ ρ 6 = .int .i64 (r : Int) ∧ ρ 7 = .int .i64 21 | .b r => ∃ J33, H' = H ++ .cells [.str d.name, .list (d.inputs.map encPort), .list (d.elements.map encElem), .list (d.nodes.map encNode), .list (d.rules.map encRul), .list (d.outs.map encOutp), .list (d.attrs.map encAttr)] :: J33 ∧ ex = .exit 4) r) := by
 refine ae (fun _ => rfl) ?_
 rintro k s32 r ρ H' ⟨J33, hH, h1, h2, h3, h10, h11⟩ hR
 skip
 subst hH
 rw [bj] at hR
 conv => arg 3; whnf
 try refine zw ?_
 rcases iteE hR with ⟨c34, hR⟩ | ⟨c34, hR⟩
 ·obtain ⟨o45, o45_e, hR⟩ := bindE hR
  refine zu ?_
  refine ab (af (c := (loopAt Tryz.f49 3)) rfl (lH _ H F d iS sS s29 s32 _ 0 o45 _ _ ⟨_, hq, sl, sl, sl, sl, sl, sl⟩ o45_e)) ?_
  rcases o45 with o46 | o48
  ·rintro ex ρ' H' ⟨J47, rfl, rfl, q6_o46, q7_o46⟩ hf
   clear hf
   obtain rfl := someE hR
   refine zu ?_
   exact ⟨_, hq, rfl, sl, sl⟩
  ·rintro ex ρ' H' ⟨J49, rfl, rfl⟩ hf
   have q1_o48 : ρ' 1 = .list (iS.map encInts) := (hf 1 rfl).trans (sl)
   have q2_o48 : ρ' 2 = .list (sS.map encInts) := (hf 2 rfl).trans (sl)
   have q3_o48 : ρ' 3 = .ptr H.length 0 := (hf 3 rfl).trans (sl)
   have q10_o48 : ρ' 10 = .int .i64 (s29 : Int) := (hf 10 rfl).trans (sl)
   have q11_o48 : ρ' 11 = .int .i64 (s32 : Int) := (hf 11 rfl).trans (sl)
   clear hf
   obtain ⟨g50, hR⟩ := grdE hR
   have g50_w := ac g50
   refine zu ?_
   exact ⟨(s32 + 1), ⟨_, hq, sl, sl, sl, sl, sl⟩, hR.out⟩
 ·obtain rfl := someE hR
  refine zu ?_
  exact ⟨_, hq, rfl⟩
def bk (F : Nat) (d : Desg) (iS : List (List Int)) (sS : List (List Int)) : Nat → Nat → Option (Oc (Nat) (Unit))
 | 0, _ => none
 | k + 1, s29 => (if (decide ((s29 : Int) < (sS.length : Int))) = true then ((bj F d iS sS s29 F 0).bind fun o51 => match o51 with | .a o52 => some (.a o52) | .b o54 => (if inI ((s29 : Int) + 1) then bk F d iS sS k (s29 + 1) else none)) else some (.b ()))
theorem lJ (bs : List Nat) (H : Heap) (F : Nat) (d : Desg) (iS : List (List Int)) (sS : List (List Int)) : ∀ k s r ρ H', (∃ J30, H' = H ++ .cells [.str d.name, .list (d.inputs.map encPort), .list (d.elements.map encElem), .list (d.nodes.map encNode), .list (d.rules.map encRul), .list (d.outs.map encOutp), .list (d.attrs.map encAttr)] :: J30 ∧ ρ 1 = .list (iS.map encInts) ∧ ρ 2 = .list (sS.map encInts) ∧ ρ 3 = .ptr H.length 0 ∧ ρ 10 = .int .i64 (s : Int)) → bk F d iS sS k s = some r → Lp X ⟨108, H.length :: bs⟩ (loopAt Tryz.f49 1) ρ H' ((fun r ex ρ H' => match r with | .a r => ∃ J30, H' = H ++ .cells [.str d.name, .list (d.inputs.map encPort), .list (d.elements.map encElem), .list (d.nodes.map encNode), .list (d.rules.map encRul), .list (d.outs.map encOutp), .list (d.attrs.map encAttr)] :: J30 ∧ ex = .ret ∧ ρ 6 = .int .i64 (r : Int) ∧ ρ 7 = .int .i64 21 | .b r => ∃ J30, H' = H ++ .cells [.str d.name, .list (d.inputs.map encPort), .list (d.elements.map encElem), .list (d.nodes.map encNode), .list (d.rules.map encRul), .list (d.outs.map encOutp), .list (d.attrs.map encAttr)] :: J30 ∧ ex = .exit 2) r) := by
 refine ae (fun _ => rfl) ?_
 rintro k s29 r ρ H' ⟨J30, hH, h1, h2, h3, h10⟩ hR
 skip
 subst hH
 rw [bk] at hR
 conv => arg 3; whnf
 try refine zw ?_
 rcases iteE hR with ⟨c31, hR⟩ | ⟨c31, hR⟩
 ·obtain ⟨o51, o51_e, hR⟩ := bindE hR
  refine zu ?_
  refine ab (af (c := (loopAt Tryz.f49 2)) rfl (lI _ H F d iS sS s29 _ 0 o51 _ _ ⟨_, hq, sl, sl, sl, sl, sl⟩ o51_e)) ?_
  rcases o51 with o52 | o54
  ·rintro ex ρ' H' ⟨J53, rfl, rfl, q6_o52, q7_o52⟩ hf
   clear hf
   obtain rfl := someE hR
   refine zu ?_
   exact ⟨_, hq, rfl, sl, sl⟩
  ·rintro ex ρ' H' ⟨J55, rfl, rfl⟩ hf
   have q1_o54 : ρ' 1 = .list (iS.map encInts) := (hf 1 rfl).trans (sl)
   have q2_o54 : ρ' 2 = .list (sS.map encInts) := (hf 2 rfl).trans (sl)
   have q3_o54 : ρ' 3 = .ptr H.length 0 := (hf 3 rfl).trans (sl)
   have q10_o54 : ρ' 10 = .int .i64 (s29 : Int) := (hf 10 rfl).trans (sl)
   clear hf
   obtain ⟨g56, hR⟩ := grdE hR
   have g56_w := ac g56
   refine zu ?_
   exact ⟨(s29 + 1), ⟨_, hq, sl, sl, sl, sl⟩, hR.out⟩
 ·obtain rfl := someE hR
  refine zu ?_
  exact ⟨_, hq, rfl⟩
def ew (F : Nat) (d : Desg) (iS : List (List Int)) (sS : List (List Int)) : Option (Int × Int) := (if (decide ((300 : Int) < (sS.length : Int))) = true then some (0, 8) else ((aH F d sS F 0).bind fun o21 => match o21 with | .a o22 => some ((o22.1 : Int), o22.2) | .b o24 => ((gO F d).bind fun y26 => ((gS F sS y26).bind fun y27 => (if y27 = true then ((bk F d iS sS F 0).bind fun o57 => match o57 with | .a o58 => some ((o58 : Int), 21) | .b o60 => some (0, 0)) else some (0, 6))))))
theorem nv (bs : List Nat) (H : Heap) (F : Nat) (d : Desg) (iS : List (List Int)) (sS : List (List Int)) (R : Int × Int) (hR0 : ew F d iS sS = some R) : callw X bs 49 [(encDesg d), .list (iS.map encInts), .list (sS.map encInts)] H = some (.tuple [.int .i64 R.1, .int .i64 R.2], H) := by
 refine yw2 (rs := [.tmp 6, .tmp 7]) (N := 108) (fn := Tryz.f49) xk49 Tryz.func49 ?_
 have hR := Kp.mk hR0
 clear hR0
 rw [ew] at hR
 (try simp only [cellsDesg, encDesg, encInts])
 try refine zw ?_
 rcases iteE hR with ⟨c1, hR⟩ | ⟨c1, hR⟩
 ·obtain rfl := someE hR
  exact zv
 ·obtain ⟨o21, o21_e, hR⟩ := bindE hR
  refine zu ?_
  refine ab (af (c := (loopAt Tryz.f49 0)) rfl (lG _ H F d iS sS _ 0 o21 _ _ ⟨_, hq, sl, sl, sl, sl⟩ o21_e)) ?_
  rcases o21 with o22 | o24
  ·rintro ex ρ' H' ⟨J23, rfl, rfl, q6_o22, q7_o22⟩ hf
   clear hf
   obtain rfl := someE hR
   exact zv
  ·rintro ex ρ' H' ⟨J25, rfl, rfl⟩ hf
   have q1_o24 : ρ' 1 = .list (iS.map encInts) := (hf 1 rfl).trans (sl)
   have q2_o24 : ρ' 2 = .list (sS.map encInts) := (hf 2 rfl).trans (sl)
   have q3_o24 : ρ' 3 = .ptr H.length 0 := (hf 3 rfl).trans (sl)
   clear hf
   obtain ⟨y26, y26_e, hR⟩ := bindE hR
   have y26_k := fun bs H => sF bs H F d y26 y26_e
   (try simp only [cellsDesg, encDesg, encInts] at y26_k)
   obtain ⟨y27, y27_e, hR⟩ := bindE hR
   have y27_k := fun bs H => oR bs H F sS y26 y27 y27_e
   try refine zw ?_
   clear y26_k y27_k
   rcases iteE hR with ⟨c28, hR⟩ | ⟨c28, hR⟩
   ·obtain ⟨o57, o57_e, hR⟩ := bindE hR
    refine zu ?_
    refine ab (af (c := (loopAt Tryz.f49 1)) rfl (lJ _ H F d iS sS _ 0 o57 _ _ ⟨_, hq, sl, sl, sl, sl⟩ o57_e)) ?_
    rcases o57 with o58 | o60
    ·rintro ex ρ' H' ⟨J59, rfl, rfl, q6_o58, q7_o58⟩ hf
     clear hf
     obtain rfl := someE hR
     exact zv
    ·rintro ex ρ' H' ⟨J61, rfl, rfl⟩ hf
     clear hf
     obtain rfl := someE hR
     exact zv
   ·obtain rfl := someE hR
    exact zv
def jq (F : Nat) (x : Int) : Option (Bool) := some (decide (¬x = x))
theorem qa (bs : List Nat) (H : Heap) (F : Nat) (x : Int) (R : Bool) (hR0 : jq F x = some R) : callw X bs 223 [.int .i64 x] H = some (.bool R, H) := by
 refine yw2 (rs := [.tmp 2]) (N := 6) (fn := Tryz.f223) Ew Tryz.func223 ?_
 have hR := Kp.mk hR0
 clear hR0
 rw [jq] at hR
 obtain rfl := someE hR
 exact zv
def fJ (F : Nat) (x : Int) (y : Int) : Option (Int) := ((jq F x).bind fun y1 => ((jq F y).bind fun y2 => (if y1 = true then (if y2 = true then some 0 else some (-1)) else (if y2 = true then some 1 else (if (decide (x < y)) = true then some (-1) else (if (decide (y < x)) = true then some 1 else some 0))))))
theorem nR (bs : List Nat) (H : Heap) (F : Nat) (x : Int) (y : Int) (R : Int) (hR0 : fJ F x y = some R) : callw X bs 179 [.int .i64 x, .int .i64 y] H = some (.int .i64 R, H) := by
 refine yw2 (rs := [.tmp 4]) (N := 20) (fn := Tryz.f179) DQ Tryz.func179 ?_
 have hR := Kp.mk hR0
 clear hR0
 rw [fJ] at hR
 obtain ⟨y1, y1_e, hR⟩ := bindE hR
 have y1_k := fun bs H => qa bs H F x y1 y1_e
 obtain ⟨y2, y2_e, hR⟩ := bindE hR
 have y2_k := fun bs H => qa bs H F y y2 y2_e
 try refine zw ?_
 clear y1_k y2_k
 rcases iteE hR with ⟨c3, hR⟩ | ⟨c3, hR⟩
 ·try refine zw ?_
  rcases iteE hR with ⟨c4, hR⟩ | ⟨c4, hR⟩
  ·obtain rfl := someE hR
   exact zv
  ·obtain rfl := someE hR
   exact zv
 ·try refine zw ?_
  rcases iteE hR with ⟨c5, hR⟩ | ⟨c5, hR⟩
  ·obtain rfl := someE hR
   exact zv
  ·try refine zw ?_
   rcases iteE hR with ⟨c6, hR⟩ | ⟨c6, hR⟩
   ·obtain rfl := someE hR
    exact zv
   ·try refine zw ?_
    rcases iteE hR with ⟨c7, hR⟩ | ⟨c7, hR⟩
    ·obtain rfl := someE hR
     exact zv
    ·obtain rfl := someE hR
     exact zv
def bm (F : Nat) (s1_ : List Int) (s2_ : List Int) : Nat → Nat → Option (Oc (Int) (Unit))
 | 0, _ => none
 | k + 1, s1 => (if (decide ((s1 : Int) < (s1_.length : Int))) = true then ((s1_[s1]?).bind fun x4 => (if (decide ((s2_.length : Int) ≤ (s1 : Int))) = true then some (.a 1) else ((s2_[s1]?).bind fun x6 => ((fJ F x4 x6).bind fun y7 => (if (decide (¬y7 = 0)) = true then some (.a y7) else (if inI ((s1 : Int) + 1) then bm F s1_ s2_ k (s1 + 1) else none)))))) else some (.b ()))
theorem oS (bs : List Nat) (H : Heap) (F : Nat) (s1_ : List Int) (s2_ : List Int) : ∀ k s r ρ H', (∃ J2, H' = H ++ J2 ∧ ρ 0 = .list (s1_.map (V.int .i64)) ∧ ρ 1 = .list (s2_.map (V.int .i64)) ∧ ρ 9 = .list (s1_.map (V.int .i64)) ∧ ρ 10 = .int .i64 (s1_.length : Int) ∧ ρ 11 = .int .i64 (s : Int)) → bm F s1_ s2_ k s = some r → Lp X ⟨36, H.length :: bs⟩ (loopAt Tryz.f137 0) ρ H' ((fun r ex ρ H' => match r with | .a r => ∃ J2, H' = H ++ J2 ∧ ex = .ret ∧ ρ 4 = .int .i64 r | .b r => ∃ J2, H' = H ++ J2 ∧ ex = .exit 0) r) := by
 refine ae (fun _ => rfl) ?_
 rintro k s1 r ρ H' ⟨J2, hH, h0, h1, h9, h10, h11⟩ hR
 skip
 subst hH
 rw [bm] at hR
 conv => arg 3; whnf
 try refine zw ?_
 rcases iteE hR with ⟨c3, hR⟩ | ⟨c3, hR⟩
 ·obtain ⟨x4, x4_e, hR⟩ := bindE hR
  try refine zw ?_
  rcases iteE hR with ⟨c5, hR⟩ | ⟨c5, hR⟩
  ·obtain rfl := someE hR
   refine zu ?_
   exact ⟨_, hq, rfl, sl⟩
  ·obtain ⟨x6, x6_e, hR⟩ := bindE hR
   obtain ⟨y7, y7_e, hR⟩ := bindE hR
   have y7_k := fun bs H => nR bs H F x4 x6 y7 y7_e
   try refine zw ?_
   clear y7_k
   rcases iteE hR with ⟨c8, hR⟩ | ⟨c8, hR⟩
   ·obtain rfl := someE hR
    refine zu ?_
    exact ⟨_, hq, rfl, sl⟩
   ·obtain ⟨g9, hR⟩ := grdE hR
    have g9_w := ac g9
    refine zu ?_
    exact ⟨(s1 + 1), ⟨_, hq, sl, sl, sl, sl, sl⟩, hR.out⟩
 ·obtain rfl := someE hR
  refine zu ?_
  exact ⟨_, hq, rfl⟩
def db (F : Nat) (s1_ : List Int) (s2_ : List Int) : List Int → Nat → Unit → Option (Oc (Int) (Unit))
 | [], s1, _ => some (.b ())
 | x_ :: r_, s1, _ => (if (decide ((s2_.length : Int) ≤ (s1 : Int))) = true then some (.a 1) else ((s2_[s1]?).bind fun x6 => ((fJ F x_ x6).bind fun y7 => (if (decide (¬y7 = 0)) = true then some (.a y7) else db F s1_ s2_ r_ (s1 + 1) ()))))
theorem jr (F : Nat) (s1_ : List Int) (s2_ : List Int) (hl_ : s1_.length ≤ 1000000) : ∀ r_ i_ k_ (o_ : Unit), s1_.drop i_ = r_ → r_.length < k_ → bm F s1_ s2_ k_ i_ = db F s1_ s2_ r_ i_ o_
 | _, _, 0, _, _, hk => absurd hk (Nat.not_lt_zero _)
 | [], i_, k_ + 1, _, hd, _ => by rw [bm, db]; simp only [ai hd, Bool.false_eq_true, if_false]
 | x_ :: r_, i_, k_ + 1, _, hd, hk => by
  have ih := jr F s1_ s2_ hl_ r_ (i_ + 1) k_ () (ah hd) (Nat.lt_of_succ_lt_succ hk)
  rw [bm, db]; simp only [aq hd, ak hd, if_pos (av hd hl_), Option.bind_some, if_true, ih]
def aI (F : Nat) (s1_ : List Int) (s2_ : List Int) : Option (Int) := ((bm F s1_ s2_ F 0).bind fun o10 => match o10 with | .a o11 => some o11 | .b o13 => (if (decide ((s1_.length : Int) < (s2_.length : Int))) = true then some (-1) else some 0))
theorem gC (bs : List Nat) (H : Heap) (F : Nat) (s1_ : List Int) (s2_ : List Int) (R : Int) (hR0 : aI F s1_ s2_ = some R) : callw X bs 137 [.list (s1_.map (V.int .i64)), .list (s2_.map (V.int .i64))] H = some (.int .i64 R, H) := by
 refine yw2 (rs := [.tmp 4]) (N := 36) (fn := Tryz.f137) Di Tryz.func137 ?_
 have hR := Kp.mk hR0
 clear hR0
 rw [aI] at hR
 obtain ⟨o10, o10_e, hR⟩ := bindE hR
 refine zu ?_
 refine ab (af (c := (loopAt Tryz.f137 0)) rfl (oS _ H F s1_ s2_ _ 0 o10 _ _ ⟨[], by simp, sl, sl, sl, sl, sl⟩ o10_e)) ?_
 rcases o10 with o11 | o13
 ·rintro ex ρ' H' ⟨J12, rfl, rfl, q4_o11⟩ hf
  clear hf
  obtain rfl := someE hR
  exact zv
 ·rintro ex ρ' H' ⟨J14, rfl, rfl⟩ hf
  have q0_o13 : ρ' 0 = .list (s1_.map (V.int .i64)) := (hf 0 rfl).trans (sl)
  have q1_o13 : ρ' 1 = .list (s2_.map (V.int .i64)) := (hf 1 rfl).trans (sl)
  clear hf
  try refine zw ?_
  rcases iteE hR with ⟨c15, hR⟩ | ⟨c15, hR⟩
  ·obtain rfl := someE hR
   exact zv
  ·obtain rfl := someE hR
   exact zv
def bu (F : Nat) (cv0 : Desg) (cv1 : List (List Int)) (i : Int) (s_ : List Int) : Option (Int) := ((aO F cv0 s_).bind fun y1 => (if (decide (¬y1 = 0)) = true then some y1 else ((aF F cv0 s_).bind fun y3 => ((fX F y3 s_).bind fun y4 => (if y4 = true then (if (decide (i = 0)) = true then some 0 else (if inI (i - 1) then (if (decide ((0 : Int) < (i - 1))) = true then ((idxI cv1 (i - 1)).bind fun x9 => ((aI F x9 s_).bind fun y10 => (if (decide (y10 < 0)) = true then some 0 else some 9))) else ((cv1[0]?).bind fun x12 => ((aI F x12 s_).bind fun y13 => (if (decide (y13 < 0)) = true then some 0 else some 9)))) else none)) else (if (decide (i = 0)) = true then some 3 else (if inI (i - 1) then (if (decide ((0 : Int) < (i - 1))) = true then ((idxI cv1 (i - 1)).bind fun x18 => ((aI F x18 s_).bind fun y19 => (if (decide (y19 < 0)) = true then some 3 else some 3))) else ((cv1[0]?).bind fun x21 => ((aI F x21 s_).bind fun y22 => (if (decide (y22 < 0)) = true then some 3 else some 3)))) else none)))))))
theorem iD (bs : List Nat) (H : Heap) (F : Nat) (ca0 : Nat) (ca1 : Nat) (cv0 : Desg) (cv1 : List (List Int)) (hca0 : H[ca0]? = some (.cells [.str cv0.name, .list (cv0.inputs.map encPort), .list (cv0.elements.map encElem), .list (cv0.nodes.map encNode), .list (cv0.rules.map encRul), .list (cv0.outs.map encOutp), .list (cv0.attrs.map encAttr)])) (hca1 : H[ca1]? = some (.cells [.list (cv1.map encInts)])) (i : Int) (s_ : List Int) (R : Int) (hR0 : bu F cv0 cv1 i s_ = some R) : callw X bs 135 [.int .i64 i, .list (s_.map (V.int .i64)), .ptr ca0 0, .ptr ca1 0] H = some (.int .i64 R, H) := by
 refine yw2 (rs := [.tmp 6]) (N := 36) (fn := Tryz.f135) Dg Tryz.func135 ?_
 have hca0_l := aa hca0
 have hca0_a := get_app' hca0
 have hca1_l := aa hca1
 have hca1_a := get_app' hca1
 have hR := Kp.mk hR0
 clear hR0
 rw [bu] at hR
 obtain ⟨y1, y1_e, hR⟩ := bindE hR
 have y1_k := fun bs H => dL bs H F cv0 s_ y1 y1_e
 (try simp only [cellsDesg, encDesg, encInts] at y1_k)
 try refine zw ?_
 clear y1_k
 rcases iteE hR with ⟨c2, hR⟩ | ⟨c2, hR⟩
 ·obtain rfl := someE hR
  exact zv
 ·obtain ⟨y3, y3_e, hR⟩ := bindE hR
  have y3_k := fun bs H => bR bs H F cv0 s_ y3 y3_e
  (try simp only [cellsDesg, encDesg, encInts] at y3_k)
  obtain ⟨y4, y4_e, hR⟩ := bindE hR
  have y4_k := fun bs H => nh bs H F y3 s_ y4 y4_e
  rcases iteE hR with ⟨c5, hR⟩ | ⟨c5, hR⟩
  ·try refine zw ?_
   clear y3_k y4_k
   rcases iteE hR with ⟨c6, hR⟩ | ⟨c6, hR⟩
   ·obtain rfl := someE hR
    exact zv
   ·obtain ⟨g7, hR⟩ := grdE hR
    have g7_w := ac g7
    rcases iteE hR with ⟨c8, hR⟩ | ⟨c8, hR⟩
    ·have c8_p := of_decide_eq_true c8
     obtain ⟨x9, x9_e, hR⟩ := bindE hR
     obtain ⟨x9_p, x9_e⟩ := idxE x9_e
     obtain ⟨y10, y10_e, hR⟩ := bindE hR
     have y10_k := fun bs H => gC bs H F x9 s_ y10 y10_e
     rcases iteE hR with ⟨c11, hR⟩ | ⟨c11, hR⟩
     ·obtain rfl := someE hR
      exact zv
     ·obtain rfl := someE hR
      exact zv
    ·have c8_p := of_decide_eq_false c8
     obtain ⟨x12, x12_e, hR⟩ := bindE hR
     obtain ⟨y13, y13_e, hR⟩ := bindE hR
     have y13_k := fun bs H => gC bs H F x12 s_ y13 y13_e
     rcases iteE hR with ⟨c14, hR⟩ | ⟨c14, hR⟩
     ·obtain rfl := someE hR
      exact zv
     ·obtain rfl := someE hR
      exact zv
  ·try refine zw ?_
   clear y3_k y4_k
   rcases iteE hR with ⟨c15, hR⟩ | ⟨c15, hR⟩
   ·obtain rfl := someE hR
    exact zv
   ·obtain ⟨g16, hR⟩ := grdE hR
    have g16_w := ac g16
    rcases iteE hR with ⟨c17, hR⟩ | ⟨c17, hR⟩
    ·have c17_p := of_decide_eq_true c17
     obtain ⟨x18, x18_e, hR⟩ := bindE hR
     obtain ⟨x18_p, x18_e⟩ := idxE x18_e
     obtain ⟨y19, y19_e, hR⟩ := bindE hR
     have y19_k := fun bs H => gC bs H F x18 s_ y19 y19_e
     rcases iteE hR with ⟨c20, hR⟩ | ⟨c20, hR⟩
     ·obtain rfl := someE hR
      exact zv
     ·obtain rfl := someE hR
      exact zv
    ·have c17_p := of_decide_eq_false c17
     obtain ⟨x21, x21_e, hR⟩ := bindE hR
     obtain ⟨y22, y22_e, hR⟩ := bindE hR
     have y22_k := fun bs H => gC bs H F x21 s_ y22 y22_e
     rcases iteE hR with ⟨c23, hR⟩ | ⟨c23, hR⟩
     ·obtain rfl := someE hR
      exact zv
     ·obtain rfl := someE hR
      exact zv
def cL (F : Nat) (l : List (List Int)) (cv0 : Desg) (cv1 : List (List Int)) : Nat → Nat → Option (Oc (Nat × Int) (Unit))
 | 0, _ => none
 | k + 1, s1 => (if (decide ((s1 : Int) < (l.length : Int))) = true then ((l[s1]?).bind fun x4 => ((bu F cv0 cv1 (s1 : Int) x4).bind fun y5 => (if (decide (¬y5 = 0)) = true then some (.a (s1, y5)) else (if inI ((s1 : Int) + 1) then cL F l cv0 cv1 k (s1 + 1) else none)))) else some (.b ()))
theorem oT (bs : List Nat) (H : Heap) (F : Nat) (ca0 : Nat) (ca1 : Nat) (cv0 : Desg) (cv1 : List (List Int)) (hca0 : H[ca0]? = some (.cells [.str cv0.name, .list (cv0.inputs.map encPort), .list (cv0.elements.map encElem), .list (cv0.nodes.map encNode), .list (cv0.rules.map encRul), .list (cv0.outs.map encOutp), .list (cv0.attrs.map encAttr)])) (hca1 : H[ca1]? = some (.cells [.list (cv1.map encInts)])) (l : List (List Int)) : ∀ k s r ρ H', (∃ J2, H' = H ++ J2 ∧ ρ 1 = .func 135 [.ptr ca0 0, .ptr ca1 0] ∧ ρ 9 = .list (l.map encInts) ∧ ρ 10 = .int .i64 (l.length : Int) ∧ ρ 11 = .int .i64 (s : Int)) → cL F l cv0 cv1 k s = some r → Lp X ⟨25, H.length :: bs⟩ (loopAt Tryz.f134 0) ρ H' ((fun r ex ρ H' => match r with | .a r => ∃ J2, H' = H ++ J2 ∧ ex = .ret ∧ ρ 4 = .int .i64 (r.1 : Int) ∧ ρ 5 = .int .i64 r.2 | .b r => ∃ J2, H' = H ++ J2 ∧ ex = .exit 0) r) := by
 refine ae (fun _ => rfl) ?_
 rintro k s1 r ρ H' ⟨J2, hH, h1, h9, h10, h11⟩ hR
 skip
 subst hH
 rw [cL] at hR
 have hca0_l := aa hca0
 have hca0_a := get_app' hca0
 have hca1_l := aa hca1
 have hca1_a := get_app' hca1
 conv => arg 3; whnf
 try refine zw ?_
 rcases iteE hR with ⟨c3, hR⟩ | ⟨c3, hR⟩
 ·obtain ⟨x4, x4_e, hR⟩ := bindE hR
  obtain ⟨y5, y5_e, hR⟩ := bindE hR
  have y5_k := fun (bs : List Nat) (l : Heap) => iD bs (H ++ l) F ca0 ca1 cv0 cv1 gt gt (s1 : Int) x4 y5 y5_e
  have y5_k0 := fun (bs : List Nat) => iD bs H F ca0 ca1 cv0 cv1 gt gt (s1 : Int) x4 y5 y5_e
  try refine zw ?_
  clear y5_k y5_k0
  rcases iteE hR with ⟨c6, hR⟩ | ⟨c6, hR⟩
  ·obtain rfl := someE hR
   refine zu ?_
   exact ⟨_, hq, rfl, sl, sl⟩
  ·obtain ⟨g7, hR⟩ := grdE hR
   have g7_w := ac g7
   refine zu ?_
   exact ⟨(s1 + 1), ⟨_, hq, sl, sl, sl, sl⟩, hR.out⟩
 ·obtain rfl := someE hR
  refine zu ?_
  exact ⟨_, hq, rfl⟩
def ey (F : Nat) (l : List (List Int)) (cv0 : Desg) (cv1 : List (List Int)) : List (List Int) → Nat → Unit → Option (Oc (Nat × Int) (Unit))
 | [], s1, _ => some (.b ())
 | x_ :: r_, s1, _ => ((bu F cv0 cv1 (s1 : Int) x_).bind fun y5 => (if (decide (¬y5 = 0)) = true then some (.a (s1, y5)) else ey F l cv0 cv1 r_ (s1 + 1) ()))
theorem js (F : Nat) (l : List (List Int)) (cv0 : Desg) (cv1 : List (List Int)) (hl_ : l.length ≤ 1000000) : ∀ r_ i_ k_ (o_ : Unit), l.drop i_ = r_ → r_.length < k_ → cL F l cv0 cv1 k_ i_ = ey F l cv0 cv1 r_ i_ o_
 | _, _, 0, _, _, hk => absurd hk (Nat.not_lt_zero _)
 | [], i_, k_ + 1, _, hd, _ => by rw [cL, ey]; simp only [ai hd, Bool.false_eq_true, if_false]
 | x_ :: r_, i_, k_ + 1, _, hd, hk => by
  have ih := js F l cv0 cv1 hl_ r_ (i_ + 1) k_ () (ah hd) (Nat.lt_of_succ_lt_succ hk)
  rw [cL, ey]; simp only [aq hd, ak hd, if_pos (av hd hl_), Option.bind_some, if_true, ih]
def gj (F : Nat) (cv0 : Desg) (cv1 : List (List Int)) (l : List (List Int)) : Option (Int × Int) := ((cL F l cv0 cv1 F 0).bind fun o8 => match o8 with | .a o9 => some ((o9.1 : Int), o9.2) | .b o11 => some (0, 0))
theorem qY (bs : List Nat) (H : Heap) (F : Nat) (ca0 : Nat) (ca1 : Nat) (cv0 : Desg) (cv1 : List (List Int)) (hca0 : H[ca0]? = some (.cells [.str cv0.name, .list (cv0.inputs.map encPort), .list (cv0.elements.map encElem), .list (cv0.nodes.map encNode), .list (cv0.rules.map encRul), .list (cv0.outs.map encOutp), .list (cv0.attrs.map encAttr)])) (hca1 : H[ca1]? = some (.cells [.list (cv1.map encInts)])) (l : List (List Int)) (R : Int × Int) (hR0 : gj F cv0 cv1 l = some R) : callw X bs 134 [.list (l.map encInts), .func 135 [.ptr ca0 0, .ptr ca1 0]] H = some (.tuple [.int .i64 R.1, .int .i64 R.2], H) := by
 refine yw2 (rs := [.tmp 4, .tmp 5]) (N := 25) (fn := Tryz.f134) vH Tryz.func134 ?_
 have hca0_l := aa hca0
 have hca0_a := get_app' hca0
 have hca1_l := aa hca1
 have hca1_a := get_app' hca1
 have hR := Kp.mk hR0
 clear hR0
 rw [gj] at hR
 obtain ⟨o8, o8_e, hR⟩ := bindE hR
 refine zu ?_
 refine ab (af (c := (loopAt Tryz.f134 0)) rfl (oT _ H F ca0 ca1 cv0 cv1 hca0 hca1 l _ 0 o8 _ _ ⟨[], by simp, sl, sl, sl, sl⟩ o8_e)) ?_
 rcases o8 with o9 | o11
 ·rintro ex ρ' H' ⟨J10, rfl, rfl, q4_o9, q5_o9⟩ hf
  clear hf
  obtain rfl := someE hR
  exact zv
 ·rintro ex ρ' H' ⟨J12, rfl, rfl⟩ hf
  clear hf
  obtain rfl := someE hR
  exact zv
def dc (F : Nat) (s1_ : List Int) (s2_ : List Int) : Nat → Nat → Option (Oc (Int) (Unit))
 | 0, _ => none
 | k + 1, s1 => (if (decide ((s1 : Int) < (s1_.length : Int))) = true then ((s1_[s1]?).bind fun x4 => (if (decide ((s2_.length : Int) ≤ (s1 : Int))) = true then some (.a 1) else ((s2_[s1]?).bind fun x6 => ((fJ F x4 x6).bind fun y7 => (if (decide (¬y7 = 0)) = true then some (.a y7) else (if inI ((s1 : Int) + 1) then dc F s1_ s2_ k (s1 + 1) else none)))))) else some (.b ()))
theorem nw (bs : List Nat) (H : Heap) (F : Nat) (s1_ : List Int) (s2_ : List Int) : ∀ k s r ρ H', (∃ J2, H' = H ++ J2 ∧ ρ 0 = .list (s1_.map (V.int .i64)) ∧ ρ 1 = .list (s2_.map (V.int .i64)) ∧ ρ 9 = .list (s1_.map (V.int .i64)) ∧ ρ 10 = .int .i64 (s1_.length : Int) ∧ ρ 11 = .int .i64 (s : Int)) → dc F s1_ s2_ k s = some r → Lp X ⟨36, H.length :: bs⟩ (loopAt Tryz.f141 0) ρ H' ((fun r ex ρ H' => match r with | .a r => ∃ J2, H' = H ++ J2 ∧ ex = .ret ∧ ρ 4 = .int .i64 r | .b r => ∃ J2, H' = H ++ J2 ∧ ex = .exit 0) r) := by
 refine ae (fun _ => rfl) ?_
 rintro k s1 r ρ H' ⟨J2, hH, h0, h1, h9, h10, h11⟩ hR
 skip
 subst hH
 rw [dc] at hR
 conv => arg 3; whnf
 try refine zw ?_
 rcases iteE hR with ⟨c3, hR⟩ | ⟨c3, hR⟩
 ·obtain ⟨x4, x4_e, hR⟩ := bindE hR
  try refine zw ?_
  rcases iteE hR with ⟨c5, hR⟩ | ⟨c5, hR⟩
  ·obtain rfl := someE hR
   refine zu ?_
   exact ⟨_, hq, rfl, sl⟩
  ·obtain ⟨x6, x6_e, hR⟩ := bindE hR
   obtain ⟨y7, y7_e, hR⟩ := bindE hR
   have y7_k := fun bs H => nR bs H F x4 x6 y7 y7_e
   try refine zw ?_
   clear y7_k
   rcases iteE hR with ⟨c8, hR⟩ | ⟨c8, hR⟩
   ·obtain rfl := someE hR
    refine zu ?_
    exact ⟨_, hq, rfl, sl⟩
   ·obtain ⟨g9, hR⟩ := grdE hR
    have g9_w := ac g9
    refine zu ?_
    exact ⟨(s1 + 1), ⟨_, hq, sl, sl, sl, sl, sl⟩, hR.out⟩
 ·obtain rfl := someE hR
  refine zu ?_
  exact ⟨_, hq, rfl⟩
def fC (F : Nat) (s1_ : List Int) (s2_ : List Int) : Option (Int) := ((dc F s1_ s2_ F 0).bind fun o10 => match o10 with | .a o11 => some o11 | .b o13 => (if (decide ((s1_.length : Int) < (s2_.length : Int))) = true then some (-1) else some 0))
theorem pR (bs : List Nat) (H : Heap) (F : Nat) (s1_ : List Int) (s2_ : List Int) (R : Int) (hR0 : fC F s1_ s2_ = some R) : callw X bs 141 [.list (s1_.map (V.int .i64)), .list (s2_.map (V.int .i64))] H = some (.int .i64 R, H) := by
 refine yw2 (rs := [.tmp 4]) (N := 36) (fn := Tryz.f141) Dm Tryz.func141 ?_
 have hR := Kp.mk hR0
 clear hR0
 rw [fC] at hR
 obtain ⟨o10, o10_e, hR⟩ := bindE hR
 refine zu ?_
 refine ab (af (c := (loopAt Tryz.f141 0)) rfl (nw _ H F s1_ s2_ _ 0 o10 _ _ ⟨[], by simp, sl, sl, sl, sl, sl⟩ o10_e)) ?_
 rcases o10 with o11 | o13
 ·rintro ex ρ' H' ⟨J12, rfl, rfl, q4_o11⟩ hf
  clear hf
  obtain rfl := someE hR
  exact zv
 ·rintro ex ρ' H' ⟨J14, rfl, rfl⟩ hf
  have q0_o13 : ρ' 0 = .list (s1_.map (V.int .i64)) := (hf 0 rfl).trans (sl)
  have q1_o13 : ρ' 1 = .list (s2_.map (V.int .i64)) := (hf 1 rfl).trans (sl)
  clear hf
  try refine zw ?_
  rcases iteE hR with ⟨c15, hR⟩ | ⟨c15, hR⟩
  ·obtain rfl := someE hR
   exact zv
  ·obtain rfl := someE hR
   exact zv
def aQ (F : Nat) (a : List Int) (b : List Int) : Option (Int) := ((fC F a b).bind fun y1 => some y1)
theorem gY (bs : List Nat) (H : Heap) (F : Nat) (a : List Int) (b : List Int) (R : Int) (hR0 : aQ F a b = some R) : callw X bs 140 [.list (a.map (V.int .i64)), .list (b.map (V.int .i64))] H = some (.int .i64 R, H) := by
 refine yw2 (rs := [.tmp 4]) (N := 8) (fn := Tryz.f140) Dl Tryz.func140 ?_
 have hR := Kp.mk hR0
 clear hR0
 rw [aQ] at hR
 obtain ⟨y1, y1_e, hR⟩ := bindE hR
 have y1_k := fun bs H => pR bs H F a b y1 y1_e
 obtain rfl := someE hR
 exact zv
def aR (F : Nat) (x : List (List Int)) (target : List Int) : Nat → (Nat × Nat) → Option (Nat)
 | 0, _ => none
 | k + 1, (s1, s2) => (if (decide ((s1 : Int) < (s2 : Int))) = true then (if inI ((s1 : Int) + (s2 : Int)) then (if inI ((s1 : Int) + (s2 : Int)) then ((some ((s1 + s2) / 2)).bind fun m7 => (if inI (m7 : Int) then ((x[m7]?).bind fun x9 => ((aQ F x9 target).bind fun y10 => (if (decide (y10 < 0)) = true then (if inI ((m7 : Int) + 1) then aR F x target k ((m7 + 1), s2) else none) else aR F x target k (s1, m7)))) else none)) else none) else none) else some s1)
theorem kx (bs : List Nat) (H : Heap) (F : Nat) (x : List (List Int)) (target : List Int) : ∀ k s r ρ H', (∃ J3, H' = H ++ J3 ∧ ρ 0 = .list (x.map encInts) ∧ ρ 1 = .list (target.map (V.int .i64)) ∧ ρ 2 = .func 140 [] ∧ ρ 8 = .int .i64 (x.length : Int) ∧ ρ 9 = .int .i64 (s.1 : Int) ∧ ρ 10 = .int .i64 (s.2 : Int)) → aR F x target k s = some r → Lp X ⟨49, H.length :: bs⟩ (loopAt Tryz.f139 0) ρ H' ((fun r ex ρ H' => ∃ J3, H' = H ++ J3 ∧ ex = .exit 0 ∧ ρ 9 = .int .i64 (r : Int)) r) := by
 refine ae (fun _ => rfl) ?_
 rintro k ⟨s1, s2⟩ r ρ H' ⟨J3, hH, h0, h1, h2, h8, h9, h10⟩ hR
 simp only at hH h0 h1 h2 h8 h9 h10
 subst hH
 rw [aR] at hR
 conv => arg 3; whnf
 try refine zw ?_
 rcases iteE hR with ⟨c4, hR⟩ | ⟨c4, hR⟩
 ·obtain ⟨g5, hR⟩ := grdE hR
  have g5_w := ac g5
  obtain ⟨g6, hR⟩ := grdE hR
  have g6_w := BW (x := ((s1 : Int) + (s2 : Int))) (by omega) g6
  obtain ⟨m7, m7_e, hR⟩ := bindE hR
  have m7_h := He (n := (s1 + s2)) (x := ((s1 : Int) + (s2 : Int))) (Option.some.inj m7_e) (by omega)
  obtain ⟨g8, hR⟩ := grdE hR
  have g8_w := ac g8
  obtain ⟨x9, x9_e, hR⟩ := bindE hR
  obtain ⟨y10, y10_e, hR⟩ := bindE hR
  have y10_k := fun bs H => gY bs H F x9 target y10 y10_e
  try refine zw ?_
  clear y10_k
  rcases iteE hR with ⟨c11, hR⟩ | ⟨c11, hR⟩
  ·obtain ⟨g12, hR⟩ := grdE hR
   have g12_w := ac g12
   refine zu ?_
   exact ⟨((m7 + 1), s2), ⟨_, hq, sl, sl, sl, sl, sl, sl⟩, hR.out⟩
  ·refine zu ?_
   exact ⟨(s1, m7), ⟨_, hq, sl, sl, sl, sl, sl, sl⟩, hR.out⟩
 ·obtain rfl := someE hR
  refine zu ?_
  exact ⟨_, hq, rfl, sl⟩
def eB (F : Nat) (x : List (List Int)) (target : List Int) : Option (Int × Bool) := ((aR F x target F (0, x.length)).bind fun o14 => (if (decide ((o14 : Int) < (x.length : Int))) = true then ((x[o14]?).bind fun x17 => ((aQ F x17 target).bind fun y18 => some ((o14 : Int), (decide (y18 = 0))))) else some ((o14 : Int), false)))
theorem gZ (bs : List Nat) (H : Heap) (F : Nat) (x : List (List Int)) (target : List Int) (R : Int × Bool) (hR0 : eB F x target = some R) : callw X bs 139 [.list (x.map encInts), .list (target.map (V.int .i64)), .func 140 []] H = some (.tuple [.int .i64 R.1, .bool R.2], H) := by
 refine yw2 (rs := [.tmp 6, .tmp 7]) (N := 49) (fn := Tryz.f139) Dk Tryz.func139 ?_
 have hR := Kp.mk hR0
 clear hR0
 rw [eB] at hR
 obtain ⟨o14, o14_e, hR⟩ := bindE hR
 refine zu ?_
 refine ab (af (c := (loopAt Tryz.f139 0)) rfl (kx _ H F x target _ (0, x.length) o14 _ _ ⟨[], by simp, sl, sl, sl, sl, sl, sl⟩ o14_e)) ?_
 rintro ex ρ' H' ⟨J15, rfl, rfl, q9_o14⟩ hf
 have q0_o14 : ρ' 0 = .list (x.map encInts) := (hf 0 rfl).trans (sl)
 have q1_o14 : ρ' 1 = .list (target.map (V.int .i64)) := (hf 1 rfl).trans (sl)
 have q2_o14 : ρ' 2 = .func 140 [] := (hf 2 rfl).trans (sl)
 have q8_o14 : ρ' 8 = .int .i64 (x.length : Int) := (hf 8 rfl).trans (sl)
 clear hf
 try refine zw ?_
 rcases iteE hR with ⟨c16, hR⟩ | ⟨c16, hR⟩
 ·obtain ⟨x17, x17_e, hR⟩ := bindE hR
  obtain ⟨y18, y18_e, hR⟩ := bindE hR
  have y18_k := fun bs H => gY bs H F x17 target y18 y18_e
  obtain rfl := someE hR
  exact zv
 ·obtain rfl := someE hR
  exact zv
def cg (F : Nat) (cv0 : List (List Int)) (s_ : List Int) : Option (Bool) := ((eB F cv0 s_).bind fun y1 => some y1.2)
theorem fT (bs : List Nat) (H : Heap) (F : Nat) (ca0 : Nat) (cv0 : List (List Int)) (hca0 : H[ca0]? = some (.cells [.list (cv0.map encInts)])) (s_ : List Int) (R : Bool) (hR0 : cg F cv0 s_ = some R) : callw X bs 138 [.list (s_.map (V.int .i64)), .ptr ca0 0] H = some (.bool R, H) := by
 refine yw2 (rs := [.tmp 3]) (N := 13) (fn := Tryz.f138) Dj Tryz.func138 ?_
 have hca0_l := aa hca0
 have hca0_a := get_app' hca0
 have hR := Kp.mk hR0
 clear hR0
 rw [cg] at hR
 obtain ⟨y1, y1_e, hR⟩ := bindE hR
 have y1_k := fun (bs : List Nat) (l : Heap) => gZ bs (H ++ l) F  cv0 s_ y1 y1_e
 have y1_k0 := fun (bs : List Nat) => gZ bs H F  cv0 s_ y1 y1_e
 obtain rfl := someE hR
 exact zv
def aL (F : Nat) (cv3 : List (List Int)) : List (DStep × List Int) → Nat → Option (Oc (Nat) (Nat))
 | [], s8 => some (.a s8)
 | x10 :: r_, s8 => ((cg F cv3 x10.2).bind fun y11 => (if y11 = true then aL F cv3 r_ s8 else some (.b 21)))
theorem kP (bs : List Nat) (H : Heap) (F : Nat) (ca0 : Nat) (ca1 : Nat) (ca2 : Nat) (ca3 : Nat) (cv0 : Desg) (cv1 : List (List Int)) (cv3 : List (List Int)) (hca0 : H[ca0]? = some (.cells [.str cv0.name, .list (cv0.inputs.map encPort), .list (cv0.elements.map encElem), .list (cv0.nodes.map encNode), .list (cv0.rules.map encRul), .list (cv0.outs.map encOutp), .list (cv0.attrs.map encAttr)])) (hca1 : H[ca1]? = some (.cells [.list (cv1.map encInts)])) (hca2 : H[ca2]? = some (.cells [.func 138 [.ptr ca3 0]])) (hca3 : H[ca3]? = some (.cells [.list (cv3.map encInts)])) (s_ : List Int) (ρ : Env) (h4 : ρ 4 = .ptr ca2 0) (h7 : ρ 7 = .ptr H.length 0) (h13 : ρ 13 = .func 180 [.eptr [.list (cv1.map encInts)] 0, .eptr [.str cv0.name, .list (cv0.inputs.map encPort), .list (cv0.elements.map encElem), .list (cv0.nodes.map encNode), .list (cv0.rules.map encRul), .list (cv0.outs.map encOutp), .list (cv0.attrs.map encAttr)] 0, .eptr [.list (s_.map (V.int .i64))] 0]) (hi3 : X2.iter 180 [.eptr [.list (cv1.map encInts)] 0, .eptr [.str cv0.name, .list (cv0.inputs.map encPort), .list (cv0.elements.map encElem), .list (cv0.nodes.map encNode), .list (cv0.rules.map encRul), .list (cv0.outs.map encOutp), .list (cv0.attrs.map encAttr)] 0, .eptr [.list (s_.map (V.int .i64))] 0] = some ((stepsFrom cv0 s_ cv1 0).map encStep)) : ∀ s r H', (∃ J9, H' = H ++ .cells [.int .i64 (s : Int)] :: J9) → aL F cv3 (stepsFrom cv0 s_ cv1 0) s = some r → Ev X2 ⟨20, H.length :: bs⟩ (.rangeFunc (.tmp 13) #[14, 15] (rangeAt Tryz.f142 0).1 (rangeAt Tryz.f142 0).2) ρ H' ((fun r ex ρ' H' => match r with | .a r => ρ' = ρ ∧ ∃ J9, H' = H ++ .cells [.int .i64 (r : Int)] :: J9 ∧ ex = .normal | .b r => ρ' = ρ ∧ ∃ J9, H' = H ++ .cells [.int .i64 (r : Int)] :: J9 ∧ ex = .ret) r) := by
 refine ww (g := encStep) (L0 := (stepsFrom cv0 s_ cv1 0)) (S := aL F cv3) (rep := fun s H' => ∃ J9, H' = H ++ .cells [.int .i64 (s : Int)] :: J9) (Q := fun r ex ρ' H' => match r with | .a r => ρ' = ρ ∧ ∃ J9, H' = H ++ .cells [.int .i64 (r : Int)] :: J9 ∧ ex = .normal | .b r => ρ' = ρ ∧ ∃ J9, H' = H ++ .cells [.int .i64 (r : Int)] :: J9 ∧ ex = .ret) (put := fun x => ((ρ.put 14 (.agg [.int .i64 x.1.inputs, .int .i64 x.1.rule])).put 15 (.list (x.2.map (V.int .i64))))) h13 hi3 (fun _ => rfl) (fun x => by simp only [putAll, List.zip_cons_cons, List.zip_nil_right]; rfl) ?_ ?_
 ·rintro s8 r H' ⟨J9, hH⟩ hR
  rw [aL] at hR
  obtain rfl := someE hR
  exact ⟨rfl, J9, hH, rfl⟩
 ·rintro x10 r_ s8 r H' ⟨J9, hH⟩ hR
  (try dsimp only at hH ⊢)
  subst hH
  rw [aL] at hR
  have hca0_l := aa hca0
  have hca0_a := get_app' hca0
  have hca1_l := aa hca1
  have hca1_a := get_app' hca1
  have hca2_l := aa hca2
  have hca2_a := get_app' hca2
  have hca3_l := aa hca3
  have hca3_a := get_app' hca3
  conv => arg 3; whnf
  refine zu ?_
  conv => arg 3; whnf
  obtain ⟨y11, y11_e, hR⟩ := bindE hR
  have y11_k := fun (bs : List Nat) (l : Heap) => bF (fT bs (H ++ l) F ca3 cv3 gt x10.2 y11 y11_e)
  have y11_k0 := fun (bs : List Nat) => bF (fT bs H F ca3 cv3 gt x10.2 y11 y11_e)
  try refine zw ?_
  clear y11_k y11_k0
  rcases iteE hR with ⟨c12, hR⟩ | ⟨c12, hR⟩
  ·refine zu ?_
   exact ⟨s8, ⟨_, hq⟩, hR.out⟩
  ·obtain rfl := someE hR
   refine zu ?_
   exact ⟨rfl, _, hq, rfl⟩
def bv (F : Nat) (cv0 : Desg) (cv1 : List (List Int)) (cv3 : List (List Int)) (a0_ : Int) (s_ : List Int) : Option (Int) := (if StepsOk cv0 cv1 s_ then ((aL F cv3 (stepsFrom cv0 s_ cv1 0) 0).bind fun o13 => match o13 with | .a o14 => some 0 | .b o16 => some (o16 : Int)) else none)
theorem iE (bs : List Nat) (H : Heap) (F : Nat) (ca0 : Nat) (ca1 : Nat) (ca2 : Nat) (ca3 : Nat) (cv0 : Desg) (cv1 : List (List Int)) (cv3 : List (List Int)) (hca0 : H[ca0]? = some (.cells [.str cv0.name, .list (cv0.inputs.map encPort), .list (cv0.elements.map encElem), .list (cv0.nodes.map encNode), .list (cv0.rules.map encRul), .list (cv0.outs.map encOutp), .list (cv0.attrs.map encAttr)])) (hca1 : H[ca1]? = some (.cells [.list (cv1.map encInts)])) (hca2 : H[ca2]? = some (.cells [.func 138 [.ptr ca3 0]])) (hca3 : H[ca3]? = some (.cells [.list (cv3.map encInts)])) (a0_ : Int) (s_ : List Int) (R : Int) (hR0 : bv F cv0 cv1 cv3 a0_ s_ = some R) : callw X2 bs 142 [.int .i64 a0_, .list (s_.map (V.int .i64)), .ptr ca0 0, .ptr ca1 0, .ptr ca2 0] H = some (.int .i64 R, H) := by
 refine yw2 (rs := [.cell 7 35]) (N := 20) (fn := Tryz.f142) Dn Tryz.func142 ?_
 have hca0_l := aa hca0
 have hca0_a := get_app' hca0
 have hca1_l := aa hca1
 have hca1_a := get_app' hca1
 have hca2_l := aa hca2
 have hca2_a := get_app' hca2
 have hca3_l := aa hca3
 have hca3_a := get_app' hca3
 have hR := Kp.mk hR0
 clear hR0
 rw [bv] at hR
 have k1_k := fun bs H => bF (wU bs H cv0 cv1 s_)
 (try simp only [cellsDesg, encDesg] at k1_k)
 obtain ⟨g2, hR⟩ := grdE hR
 have hi3 := wT g2
 (try simp only [cellsDesg] at hi3)
 obtain ⟨o13, o13_e, hR⟩ := bindE hR
 refine zu ?_
 refine yr (AE (c := (.rangeFunc (.tmp 13) #[14, 15] (rangeAt Tryz.f142 0).1 (rangeAt Tryz.f142 0).2)) rfl (kP _ H F ca0 ca1 ca2 ca3 cv0 cv1 cv3 hca0 hca1 hca2 hca3 s_ _ sl sl sl hi3 0 o13 _ ⟨_, hq⟩ o13_e)) ?_
 clear k1_k
 rcases o13 with o14 | o16
 ·rintro ex ρ' H' ⟨rfl, J15, rfl, rfl⟩
  obtain rfl := someE hR
  exact zv
 ·rintro ex ρ' H' ⟨rfl, J17, rfl, rfl⟩
  obtain rfl := someE hR
  exact zv
def cM (F : Nat) (l : List (List Int)) (cv0 : Desg) (cv1 : List (List Int)) (cv3 : List (List Int)) : Nat → Nat → Option (Oc (Nat × Int) (Unit))
 | 0, _ => none
 | k + 1, s1 => (if (decide ((s1 : Int) < (l.length : Int))) = true then ((l[s1]?).bind fun x4 => ((bv F cv0 cv1 cv3 (s1 : Int) x4).bind fun y5 => (if (decide (¬y5 = 0)) = true then some (.a (s1, y5)) else (if inI ((s1 : Int) + 1) then cM F l cv0 cv1 cv3 k (s1 + 1) else none)))) else some (.b ()))
theorem oU (bs : List Nat) (H : Heap) (F : Nat) (ca0 : Nat) (ca1 : Nat) (ca2 : Nat) (ca3 : Nat) (cv0 : Desg) (cv1 : List (List Int)) (cv3 : List (List Int)) (hca0 : H[ca0]? = some (.cells [.str cv0.name, .list (cv0.inputs.map encPort), .list (cv0.elements.map encElem), .list (cv0.nodes.map encNode), .list (cv0.rules.map encRul), .list (cv0.outs.map encOutp), .list (cv0.attrs.map encAttr)])) (hca1 : H[ca1]? = some (.cells [.list (cv1.map encInts)])) (hca2 : H[ca2]? = some (.cells [.func 138 [.ptr ca3 0]])) (hca3 : H[ca3]? = some (.cells [.list (cv3.map encInts)])) (l : List (List Int)) : ∀ k s r ρ H', (∃ J2, H' = H ++ J2 ∧ ρ 1 = .func 142 [.ptr ca0 0, .ptr ca1 0, .ptr ca2 0] ∧ ρ 9 = .list (l.map encInts) ∧ ρ 10 = .int .i64 (l.length : Int) ∧ ρ 11 = .int .i64 (s : Int)) → cM F l cv0 cv1 cv3 k s = some r → Lp X2 ⟨25, H.length :: bs⟩ (loopAt Tryz.f134 0) ρ H' ((fun r ex ρ H' => match r with | .a r => ∃ J2, H' = H ++ J2 ∧ ex = .ret ∧ ρ 4 = .int .i64 (r.1 : Int) ∧ ρ 5 = .int .i64 r.2 | .b r => ∃ J2, H' = H ++ J2 ∧ ex = .exit 0) r) := by
 refine ae (fun _ => rfl) ?_
 rintro k s1 r ρ H' ⟨J2, hH, h1, h9, h10, h11⟩ hR
 skip
 subst hH
 rw [cM] at hR
 have hca0_l := aa hca0
 have hca0_a := get_app' hca0
 have hca1_l := aa hca1
 have hca1_a := get_app' hca1
 have hca2_l := aa hca2
 have hca2_a := get_app' hca2
 have hca3_l := aa hca3
 have hca3_a := get_app' hca3
 conv => arg 3; whnf
 try refine zw ?_
 rcases iteE hR with ⟨c3, hR⟩ | ⟨c3, hR⟩
 ·obtain ⟨x4, x4_e, hR⟩ := bindE hR
  obtain ⟨y5, y5_e, hR⟩ := bindE hR
  have y5_k := fun (bs : List Nat) (l : Heap) => iE bs (H ++ l) F ca0 ca1 ca2 ca3 cv0 cv1 cv3 gt gt gt gt (s1 : Int) x4 y5 y5_e
  have y5_k0 := fun (bs : List Nat) => iE bs H F ca0 ca1 ca2 ca3 cv0 cv1 cv3 gt gt gt gt (s1 : Int) x4 y5 y5_e
  try refine zw ?_
  clear y5_k y5_k0
  rcases iteE hR with ⟨c6, hR⟩ | ⟨c6, hR⟩
  ·obtain rfl := someE hR
   refine zu ?_
   exact ⟨_, hq, rfl, sl, sl⟩
  ·obtain ⟨g7, hR⟩ := grdE hR
   have g7_w := ac g7
   refine zu ?_
   exact ⟨(s1 + 1), ⟨_, hq, sl, sl, sl, sl⟩, hR.out⟩
 ·obtain rfl := someE hR
  refine zu ?_
  exact ⟨_, hq, rfl⟩
def ez (F : Nat) (l : List (List Int)) (cv0 : Desg) (cv1 : List (List Int)) (cv3 : List (List Int)) : List (List Int) → Nat → Unit → Option (Oc (Nat × Int) (Unit))
 | [], s1, _ => some (.b ())
 | x_ :: r_, s1, _ => ((bv F cv0 cv1 cv3 (s1 : Int) x_).bind fun y5 => (if (decide (¬y5 = 0)) = true then some (.a (s1, y5)) else ez F l cv0 cv1 cv3 r_ (s1 + 1) ()))
theorem jt (F : Nat) (l : List (List Int)) (cv0 : Desg) (cv1 : List (List Int)) (cv3 : List (List Int)) (hl_ : l.length ≤ 1000000) : ∀ r_ i_ k_ (o_ : Unit), l.drop i_ = r_ → r_.length < k_ → cM F l cv0 cv1 cv3 k_ i_ = ez F l cv0 cv1 cv3 r_ i_ o_
 | _, _, 0, _, _, hk => absurd hk (Nat.not_lt_zero _)
 | [], i_, k_ + 1, _, hd, _ => by rw [cM, ez]; simp only [ai hd, Bool.false_eq_true, if_false]
 | x_ :: r_, i_, k_ + 1, _, hd, hk => by
  have ih := jt F l cv0 cv1 cv3 hl_ r_ (i_ + 1) k_ () (ah hd) (Nat.lt_of_succ_lt_succ hk)
  rw [cM, ez]; simp only [aq hd, ak hd, if_pos (av hd hl_), Option.bind_some, if_true, ih]
def gk (F : Nat) (cv0 : Desg) (cv1 : List (List Int)) (cv3 : List (List Int)) (l : List (List Int)) : Option (Int × Int) := ((cM F l cv0 cv1 cv3 F 0).bind fun o8 => match o8 with | .a o9 => some ((o9.1 : Int), o9.2) | .b o11 => some (0, 0))
theorem qZ (bs : List Nat) (H : Heap) (F : Nat) (ca0 : Nat) (ca1 : Nat) (ca2 : Nat) (ca3 : Nat) (cv0 : Desg) (cv1 : List (List Int)) (cv3 : List (List Int)) (hca0 : H[ca0]? = some (.cells [.str cv0.name, .list (cv0.inputs.map encPort), .list (cv0.elements.map encElem), .list (cv0.nodes.map encNode), .list (cv0.rules.map encRul), .list (cv0.outs.map encOutp), .list (cv0.attrs.map encAttr)])) (hca1 : H[ca1]? = some (.cells [.list (cv1.map encInts)])) (hca2 : H[ca2]? = some (.cells [.func 138 [.ptr ca3 0]])) (hca3 : H[ca3]? = some (.cells [.list (cv3.map encInts)])) (l : List (List Int)) (R : Int × Int) (hR0 : gk F cv0 cv1 cv3 l = some R) : callw X2 bs 134 [.list (l.map encInts), .func 142 [.ptr ca0 0, .ptr ca1 0, .ptr ca2 0]] H = some (.tuple [.int .i64 R.1, .int .i64 R.2], H) := by
 refine yw2 (rs := [.tmp 4, .tmp 5]) (N := 25) (fn := Tryz.f134) vH Tryz.func134 ?_
 have hca0_l := aa hca0
 have hca0_a := get_app' hca0
 have hca1_l := aa hca1
 have hca1_a := get_app' hca1
 have hca2_l := aa hca2
 have hca2_a := get_app' hca2
 have hca3_l := aa hca3
 have hca3_a := get_app' hca3
 have hR := Kp.mk hR0
 clear hR0
 rw [gk] at hR
 obtain ⟨o8, o8_e, hR⟩ := bindE hR
 refine zu ?_
 refine ab (af (c := (loopAt Tryz.f134 0)) rfl (oU _ H F ca0 ca1 ca2 ca3 cv0 cv1 cv3 hca0 hca1 hca2 hca3 l _ 0 o8 _ _ ⟨[], by simp, sl, sl, sl, sl⟩ o8_e)) ?_
 rcases o8 with o9 | o11
 ·rintro ex ρ' H' ⟨J10, rfl, rfl, q4_o9, q5_o9⟩ hf
  clear hf
  obtain rfl := someE hR
  exact zv
 ·rintro ex ρ' H' ⟨J12, rfl, rfl⟩ hf
  clear hf
  obtain rfl := someE hR
  exact zv
def eA (F : Nat) (d : Desg) (iS : List (List Int)) (sS : List (List Int)) : Option (Int × Int) := ((ev F d iS).bind fun y1 => (if (decide ((sS.length : Int) ≤ 300)) = true then (if (decide (¬y1.2 = 0)) = true then some (0, y1.2) else ((gj F y1.1 sS sS).bind fun y4 => (if (decide (¬y4.2 = 0)) = true then some (y4.1, y4.2) else ((dT F y1.1).bind fun y6 => ((aF F y1.1 y6).bind fun y7 => ((cg F sS y7).bind fun y8 => (if y8 = true then ((gk F y1.1 iS sS sS).bind fun y10 => some (y10.1, y10.2)) else some (0, 6)))))))) else (if (decide (¬y1.2 = 0)) = true then some (0, y1.2) else some (0, 8))))
theorem ny (bs : List Nat) (H : Heap) (F : Nat) (d : Desg) (iS : List (List Int)) (sS : List (List Int)) (R : Int × Int) (hR0 : eA F d iS sS = some R) : callw X2 bs 48 [(encDesg d), .list (iS.map encInts), .list (sS.map encInts)] H = some (.tuple [.int .i64 R.1, .int .i64 R.2], H) := by
 refine yw2 (rs := [.tmp 6, .tmp 7]) (N := 52) (fn := Tryz.f48) xk48 Tryz.func48 ?_
 have hR := Kp.mk hR0
 clear hR0
 rw [eA] at hR
 (try simp only [cellsDesg, encDesg, encInts])
 obtain ⟨y1, y1_e, hR⟩ := bindE hR
 have y1_k := fun bs H => bF (ks bs H F d iS y1 y1_e)
 (try simp only [cellsDesg, encDesg, encInts] at y1_k)
 rcases iteE hR with ⟨c2, hR⟩ | ⟨c2, hR⟩
 ·rcases iteE hR with ⟨c3, hR⟩ | ⟨c3, hR⟩
  ·have c3_p := of_decide_eq_true c3
   obtain rfl := someE hR
   exact zv
  ·have c3_p := Decidable.not_not.1 (of_decide_eq_false c3)
   obtain ⟨y4, y4_e, hR⟩ := bindE hR
   have y4_k := fun (bs : List Nat) (u0 u1 : HObj) (J : Heap) => bF (qY bs (H ++ u0 :: u1 :: .cells [.list (sS.map encInts)] :: .cells [.str y1.1.name, .list (y1.1.inputs.map encPort), .list (y1.1.elements.map encElem), .list (y1.1.nodes.map encNode), .list (y1.1.rules.map encRul), .list (y1.1.outs.map encOutp), .list (y1.1.attrs.map encAttr)] :: J) F (H.length + 3) (H.length + 2) y1.1 sS gt gt sS y4 y4_e)
   try refine zw ?_
   clear y1_k y4_k
   rcases iteE hR with ⟨c5, hR⟩ | ⟨c5, hR⟩
   ·obtain rfl := someE hR
    exact zv
   ·obtain ⟨y6, y6_e, hR⟩ := bindE hR
    have y6_k := fun bs H => bF (iK bs H F y1.1 y6 y6_e)
    (try simp only [cellsDesg, encDesg, encInts] at y6_k)
    obtain ⟨y7, y7_e, hR⟩ := bindE hR
    have y7_k := fun bs H => bF (bR bs H F y1.1 y6 y7 y7_e)
    (try simp only [cellsDesg, encDesg, encInts] at y7_k)
    obtain ⟨y8, y8_e, hR⟩ := bindE hR
    have y8_k := fun (bs : List Nat) (u0 u1 : HObj) (J : Heap) => bF (fT bs (H ++ u0 :: u1 :: .cells [.list (sS.map encInts)] :: J) F (H.length + 2) sS gt y7 y8 y8_e)
    try refine zu ?_
    (refine yw1 (id := 9) oz5 [(0, 3), (0, 4), (1, 3)] ?_)
    try refine zw ?_
    clear y6_k y7_k y8_k
    rcases iteE hR with ⟨c9, hR⟩ | ⟨c9, hR⟩
    ·obtain ⟨y10, y10_e, hR⟩ := bindE hR
     have y10_k := fun (bs : List Nat) (u0 : HObj) (J : Heap) => qZ bs (H ++ u0 :: .cells [.list (iS.map encInts)] :: .cells [.list (sS.map encInts)] :: .cells [.str y1.1.name, .list (y1.1.inputs.map encPort), .list (y1.1.elements.map encElem), .list (y1.1.nodes.map encNode), .list (y1.1.rules.map encRul), .list (y1.1.outs.map encOutp), .list (y1.1.attrs.map encAttr)] :: .cells [.func 138 [.ptr (H.length + 2) 0]] :: J) F (H.length + 3) (H.length + 1) (H.length + 4) (H.length + 2) y1.1 iS sS gt gt gt gt sS y10 y10_e
     obtain rfl := someE hR
     exact zv
    ·obtain rfl := someE hR
     exact zv
 ·rcases iteE hR with ⟨c11, hR⟩ | ⟨c11, hR⟩
  ·have c11_p := of_decide_eq_true c11
   obtain rfl := someE hR
   exact zv
  ·have c11_p := Decidable.not_not.1 (of_decide_eq_false c11)
   obtain rfl := someE hR
   exact zv
end
end Go.E
namespace Go.E
open Classical
variable {F : Nat} (hF : 1000000 < F)
theorem Nt (x y : Int) : fJ F x y = some (cmpI x y) := by
 unfold fJ jq cmpI
 simp only [Option.bind_some, not_true_eq_false, decide_false, Bool.false_eq_true, if_false, gt_iff_lt]
 by_cases h : x < y
 ·simp [h]
 ·by_cases h2 : y < x <;> simp [h, h2]
def cmpV (a b : List Int) : Oc Int Unit → Int
 | .a x => x
 | .b _ => if a.length < b.length then -1 else 0
include hF in
theorem ra (a b : List Int) (ha : a.length ≤ 1000000) : aI F a b = some (cmpL a b) := by
 have k : ∀ (r : List Int) (i : Nat), a.drop i = r → i ≤ a.length → i ≤ b.length → ∃ o, db F a b r i () = some o ∧ cmpV a b o = cmpL r (b.drop i) := by
  intro r
  induction r with
  | nil =>
   intro i hd h1 h2
   have : a.length ≤ i := by simpa using hd
   refine ⟨_, rfl, ?_⟩
   rcases hb : b.drop i with _ | ⟨y, s⟩
   ·have : b.length ≤ i := by simpa using hb
    simp only [cmpV, cmpL]; rw [if_neg (by omega)]
   ·have := gm hb
    simp only [cmpV, cmpL]; rw [if_pos (by omega)]
  | cons x r ih =>
   intro i hd h1 h2
   have hlt := gm hd
   rw [db]
   by_cases hb : b.length ≤ i
   ·rw [if_pos (decide_eq_true (by omega)), List.drop_of_length_le hb]
    exact ⟨_, rfl, rfl⟩
   ·have hg : b[i]? = some (b[i]'(by omega)) := aS (by omega)
    rw [if_neg (by simp; omega), hg, Option.bind_some, Nt, Option.bind_some, List.drop_eq_getElem_cons (show i < b.length by omega), cmpL]
    by_cases h : cmpI x (b[i]'(by omega)) = 0
    ·rw [if_neg (by simp [h]), if_neg (by simpa using h)]
     exact ih (i + 1) (ah hd) hlt (by omega)
    ·rw [if_pos (by simpa using h), if_pos h]
     exact ⟨_, rfl, rfl⟩
 obtain ⟨o, h1, h2⟩ := k a 0 rfl (by omega) (by omega)
 have e := jr F a b ha a 0 F () rfl (by omega)
 unfold aI
 rw [e, h1, Option.bind_some]
 simp only [List.drop_zero] at h2
 rw [← h2]
 cases o with
 | a x => rfl
 | b u => simp only [cmpV]; by_cases h : a.length < b.length <;> simp [h]
theorem rb (a b : List Int) : fC F a b = aI F a b := by
 have k0 : ∀ k st, dc F a b k st = bm F a b k st := by
  intro k
  induction k with
  | zero => intro st; rfl
  | succ k ih => intro st; rw [dc, bm]; simp only [ih]
 unfold fC aI
 simp only [k0]
def AscL (l : List (List Int)) : Prop := ∀ (i j : Nat) (x y : List Int), i < j → l[i]? = some x → l[j]? = some y → befL x y = true
theorem Ic {l : List (List Int)} (h : ∀ i x y, l[i]? = some x → l[i + 1]? = some y → befL x y = true) : AscL l := by
 intro i j
 induction j with
 | zero => intro x y hij; omega
 | succ j ih =>
  intro x y hij hx hy
  have hlt := aa hy
  have hg : l[j]? = some (l[j]'(by omega)) := aS (by omega)
  rcases Nat.lt_or_ge i j with h1 | h1
  ·exact iP _ _ _ (ih x _ h1 hx hg) (h j _ y hg hy)
  ·obtain rfl : i = j := by omega
   exact h i x y hx hy
include hF in
theorem sL {l : List (List Int)} (ha : AscL l) (hl : l.length ≤ 1000) (hx : ∀ x ∈ l, x.length ≤ 1000000) (t : List Int) : ∀ (k i j : Nat), j - i < k → i ≤ j → j ≤ l.length →
  (∀ m x, m < i → l[m]? = some x → befL x t = true) → (∀ m x, j ≤ m → l[m]? = some x → befL x t = false) →
   ∃ p, p ≤ l.length ∧ aR F l t k (i, j) = some p ∧ (∀ m x, m < p → l[m]? = some x → befL x t = true) ∧ (∀ m x, p ≤ m → l[m]? = some x → befL x t = false)
 | 0, i, j, h, _, _, _, _ => by omega
 | k + 1, i, j, h, hij, hj, h1, h2 => by
  rw [aR]
  rcases Nat.lt_or_ge i j with hlt | hge
  ·have hm : (i + j) / 2 < l.length := by omega
   have hg := aS hm
   have hi : inI ((i : Int) + (j : Int)) := by unfold inI; omega
   have hb : aQ F l[(i + j) / 2] t = some (cmpL l[(i + j) / 2] t) := by
    unfold aQ
    rw [rb, ra hF _ _ (hx _ (List.mem_of_getElem? hg))]; rfl
   rw [lt_n i j hlt, if_pos rfl, if_pos hi, if_pos hi, Option.bind_some, if_pos (by unfold inI; omega), hg, Option.bind_some, hb, Option.bind_some]
   cases hbf : befL l[(i + j) / 2] t
   ·rw [if_neg (by rw [decide_eq_true_eq, oA, hbf]; simp)]
    refine sL ha hl hx t k i ((i + j) / 2) (by omega) (by omega) (by omega) h1 (fun m x hm2 hmx => ?_)
    rcases Nat.lt_or_ge ((i + j) / 2) m with h3 | h3
    ·cases hc : befL x t with
     | false => rfl
     | true => rw [iP _ _ _ (ha _ m _ x h3 hg hmx) hc] at hbf; cases hbf
    ·obtain rfl : m = (i + j) / 2 := by omega
     rw [hg] at hmx; cases hmx; exact hbf
   ·rw [if_pos (by rw [decide_eq_true_eq, oA, hbf]), if_pos (in_1 (by omega))]
    refine sL ha hl hx t k ((i + j) / 2 + 1) j (by omega) (by omega) hj (fun m x hm2 hmx => ?_) h2
    rcases Nat.lt_or_ge m ((i + j) / 2) with h3 | h3
    ·exact iP _ _ _ (ha m _ x _ h3 hmx hg) hbf
    ·obtain rfl : m = (i + j) / 2 := by omega
     rw [hg] at hmx; cases hmx; exact hbf
  ·obtain rfl : i = j := by omega
   rw [pD, if_neg (by simp)]
   exact ⟨i, hj, rfl, h1, h2⟩
def hasL (l : List (List Int)) (s : List Int) : Bool := l.any fun x => decide (x = s)
include hF in
theorem EI {l : List (List Int)} (ha : AscL l) (hl : l.length ≤ 1000) (hx : ∀ x ∈ l, x.length ≤ 1000000) (t : List Int) : cg F l t = some (hasL l t) := by
 obtain ⟨p, h0, h1, h2, h3⟩ := sL hF ha hl hx t F 0 l.length (by omega) (by omega) (by omega) (fun m x h _ => by omega) (fun m x h hg => by have := aa hg; omega)
 unfold cg eB
 rw [h1, Option.bind_some]
 have key : hasL l t = true ↔ l[p]? = some t := by
  unfold hasL
  rw [List.any_eq_true]
  constructor
  ·rintro ⟨x, hm, hq⟩
   have hq := of_decide_eq_true hq
   subst hq
   obtain ⟨q, hq⟩ := List.getElem?_of_mem hm
   rcases Nat.lt_or_ge q p with h4 | h4
   ·have := h2 q x h4 hq; rw [sv] at this; cases this
   ·rcases Nat.lt_or_ge p q with h5 | h5
    ·have hg := aS (show p < l.length by have := aa hq; omega)
     have h6 := h3 p _ (Nat.le_refl _) hg
     rw [ha p q _ x h5 hg hq] at h6; cases h6
    ·obtain rfl : p = q := by omega
     exact hq
  ·intro h
   exact ⟨t, List.mem_of_getElem? h, by simp⟩
 rcases Nat.lt_or_ge p l.length with hlt | hge
 ·have hg := aS hlt
  have hb : aQ F l[p] t = some (cmpL l[p] t) := by
   unfold aQ
   rw [rb, ra hF _ _ (hx _ (List.mem_of_getElem? hg))]; rfl
  rw [lt_n p _ hlt, if_pos rfl, hg, Option.bind_some, hb]
  simp only [Option.bind_some]
  congr 1
  rw [Bool.eq_iff_iff, decide_eq_true_eq, yq, key, hg, Option.some.injEq]
 ·rw [if_neg (by simp; omega)]
  simp only [Option.bind_some]
  congr 1
  cases hh : hasL l t with
  | false => rfl
  | true => have := aa (key.1 hh); omega
include hF in
theorem EJ (l : List (List Int)) (hl : l.length ≤ 1000) (hx : ∀ x ∈ l, x.length ≤ 1000000) (t : List Int) : gS F l t = some (hasL l t) := by
 have k : ∀ (r : List (List Int)) (i : Nat), (∀ x ∈ r, x ∈ l) → eT F l t r i () = some (if (r.any fun x => decide (x = t)) = true then .a true else .b ()) := by
  intro r
  induction r with
  | nil => intro i _; rfl
  | cons x r ih =>
   intro i h
   rw [eT, tN hF x t (hx x (h x (by simp))), Option.bind_some, List.any_cons, ih (i + 1) (fun y hy => h y (by simp [hy]))]
   by_cases e : x = t <;> simp [e]
 have e := lC F l t (by omega) l 0 F () rfl (by omega)
 unfold gS
 rw [e, k l 0 (fun x h => h), Option.bind_some]
 unfold hasL
 cases l.any fun x => decide (x = t) <;> rfl
def ordAt (l : List (List Int)) (i : Nat) (s : List Int) : Bool := match i with
 | 0 => true
 | j + 1 => match l[j]? with | some x => befL x s | none => false
def chk1 (d : Desg) (l : List (List Int)) (i : Nat) (s : List Int) : Int := if valErrS (elWs d) s = 0 then (if begL d.elements s = s then (if ordAt l i s = true then 0 else 9) else 3) else valErrS (elWs d) s
include hF in
theorem Id {d : Desg} (ok : OkD d) {l : List (List Int)} (hl : l.length ≤ 1000) (hx : ∀ x ∈ l, x.length ≤ 1000000) {i : Nat} {s : List Int} (hi : l[i]? = some s) : bu F d l (i : Int) s = some (chk1 d l i s) := by
 have hs := hx s (List.mem_of_getElem? hi)
 have hlt := aa hi
 unfold bu chk1
 rw [uj hF ok s hs, Option.bind_some]
 by_cases h1 : valErrS (elWs d) s = 0
 case neg => rw [if_pos (by simpa using h1), if_neg h1]
 have hb := uf d.elements s (by rw [tJ h1]; simp [elWs])
 have hel := ok.few.elements
 rw [if_neg (by simp [h1]), if_pos h1, kN hF hel (by rw [tJ h1]; simp [elWs]), Option.bind_some, pJ hF _ _ (by omega), Option.bind_some]
 cases i with
 | zero => by_cases h2 : begL d.elements s = s <;> simp [h2, ordAt]
 | succ j =>
  have hj : l[j]? = some (l[j]'(by omega)) := aS (by omega)
  have e1 : ((j + 1 : Nat) : Int) - 1 = (j : Int) := by omega
  have hc := ra hF (l[j]'(by omega)) s (hx _ (List.mem_of_getElem? hj))
  have e0 : ¬ ((j + 1 : Nat) : Int) = 0 := by omega
  rw [e1]
  simp only [gb, ordAt, hj, if_pos (show inI (j : Int) by unfold inI; omega), e0, decide_false, Bool.false_eq_true, if_false]
  have h0 : ∀ (c : Int), (if decide ((0 : Int) < (j : Int)) = true then ((some (l[j]'(by omega))).bind fun x9 => (aI F x9 s).bind fun y10 => if decide (y10 < 0) = true then some 0 else some c) else l[0]?.bind fun x12 => (aI F x12 s).bind fun y13 => if decide (y13 < 0) = true then some 0 else some c) = some (if befL (l[j]'(by omega)) s = true then 0 else c) := fun c => by
   have hd : (if decide (cmpL (l[j]'(by omega)) s < 0) = true then some (0 : Int) else some c) = some (if befL (l[j]'(by omega)) s = true then 0 else c) := by
    by_cases h : befL (l[j]'(by omega)) s = true
    ·rw [if_pos (decide_eq_true ((oA _ _).2 h)), if_pos h]
    ·rw [if_neg (by rw [decide_eq_true_eq, oA]; exact h), if_neg h]
   by_cases hz : 0 < j
   ·rw [if_pos (decide_eq_true (by omega)), Option.bind_some, hc, Option.bind_some, hd]
   ·obtain rfl : j = 0 := by omega
    rw [if_neg (by simp), hj, Option.bind_some, hc, Option.bind_some, hd]
  have h3 : (if decide ((0 : Int) < (j : Int)) = true then ((some (l[j]'(by omega))).bind fun x18 => (aI F x18 s).bind fun y19 => if decide (y19 < 0) = true then some 3 else some 3) else l[0]?.bind fun x21 => (aI F x21 s).bind fun y22 => if decide (y22 < 0) = true then some 3 else some 3) = some (3 : Int) := by
   by_cases hz : 0 < j
   ·rw [if_pos (decide_eq_true (by omega)), Option.bind_some, hc, Option.bind_some]; split <;> rfl
   ·obtain rfl : j = 0 := by omega
    rw [if_neg (by simp), hj, Option.bind_some, hc, Option.bind_some]; split <;> rfl
  by_cases h2 : begL d.elements s = s
  ·rw [if_pos (decide_eq_true h2), if_pos h2, h0]
  ·rw [if_neg (by simpa using h2), if_neg h2, h3]
include hF in
theorem CA {d : Desg} (ok : OkD d) {l : List (List Int)} (hl : l.length ≤ 1000) (hx : ∀ x ∈ l, x.length ≤ 1000000) : gj F d l l = some (eachP (chk1 d l) 0 l) := by
 have e := js F l d l (by omega) l 0 F () rfl (by omega)
 have k := ji (L := ey F l d l) (fun i n => bu F d l (i : Int) n) (chk1 d l) (fun i s => rfl) (fun x r i s => rfl) l 0 (fun j x hj => by
  rw [Nat.zero_add]; exact Id hF ok hl hx hj)
 unfold gj
 rw [e, k, ← jw]
 generalize ocP _ 0 l = o
 cases o <;> rfl
theorem yK {d : Desg} (ok : OkD d) {l : List (List Int)} (h : (eachP (chk1 d l) 0 l).2 = 0) : AscL l ∧ ∀ s ∈ l, LeafOk (elWs d) s ∧ begL d.elements s = s := by
 have h1 := iJ _ _ _ h
 have h2 : ∀ i s, l[i]? = some s → valErrS (elWs d) s = 0 ∧ begL d.elements s = s ∧ ordAt l i s = true := fun i s hi => by
  have := h1 i s hi
  rw [Nat.zero_add] at this
  unfold chk1 at this
  split at this
  case isFalse h0 => exact absurd this h0
  rename_i h0
  split at this
  case isFalse => exact absurd this (by decide)
  rename_i h3
  split at this
  case isFalse => exact absurd this (by decide)
  rename_i h4
  exact ⟨h0, h3, h4⟩
 refine ⟨Ic fun i x y hx hy => ?_, fun s hs => ?_⟩
 ·have := (h2 (i + 1) y hy).2.2
  simp only [ordAt, hx] at this; exact this
 ·obtain ⟨i, hi⟩ := List.getElem?_of_mem hs
  exact ⟨(fw ok.elW).1 (h2 i s hi).1, (h2 i s hi).2.1⟩
def openS (d : Desg) (iS sS : List (List Int)) (s : List Int) : Int := if ((stepsFrom d s iS 0).all fun p => hasL sS p.2) = true then 0 else 21
include hF in
theorem GH {d : Desg} (ok : OkD d) {iS sS : List (List Int)} (hi : iS.length ≤ 1000) (hin : ∀ x ∈ iS, LeafOk (inWs d) x) (ha : AscL sS) (hl : sS.length ≤ 1000) (hx : ∀ x ∈ sS, x.length ≤ 1000000) (i : Int) {s : List Int} (hs : LeafOk (elWs d) s) :
  bv F d iS sS i s = some (openS d iS sS s) := by
 have k : ∀ (r : List (DStep × List Int)), aL F sS r 0 = some (if (r.all fun p => hasL sS p.2) = true then .a 0 else .b 21) := by
  intro r
  induction r with
  | nil => rfl
  | cons x r ih =>
   rw [aL, EI hF ha hl hx, Option.bind_some, ih, List.all_cons]
   cases hasL sS x.2 <;> simp
 unfold bv openS
 rw [if_pos (show StepsOk d iS s from ⟨ok, by omega, hin, hs⟩), k, Option.bind_some]
 cases (stepsFrom d s iS 0).all fun p => hasL sS p.2 <;> rfl
include hF in
theorem CB {d : Desg} (ok : OkD d) {iS sS : List (List Int)} (hi : iS.length ≤ 1000) (hin : ∀ x ∈ iS, LeafOk (inWs d) x) (ha : AscL sS) (hl : sS.length ≤ 1000) (hx : ∀ x ∈ sS, x.length ≤ 1000000) (hs : ∀ s ∈ sS, LeafOk (elWs d) s) :
  gk F d iS sS sS = some (eachP (fun _ s => openS d iS sS s) 0 sS) := by
 have e := jt F sS d iS sS (by omega) sS 0 F () rfl (by omega)
 have k := ji (L := ez F sS d iS sS) (fun i n => bv F d iS sS (i : Int) n) (fun _ s => openS d iS sS s) (fun i s => rfl) (fun x r i s => rfl) sS 0 (fun j x hj => GH hF ok hi hin ha hl hx _ (hs x (List.mem_of_getElem? hj)))
 unfold gk
 rw [e, k, ← jw]
 generalize ocP _ 0 sS = o
 cases o <;> rfl
def closedR (d : Desg) (iS sS : List (List Int)) : Int × Int :=
 if 300 < sS.length then (0, 8) else if (eachP (chk1 d sS) 0 sS).2 = 0 then (if hasL sS (resetD d) = true then eachP (fun _ s => openS d iS sS s) 0 sS else (0, 6)) else eachP (chk1 d sS) 0 sS
include hF in
theorem CC {d : Desg} (h : FewD d) (iS sS : List (List Int)) (hi : iS.length ≤ 1000) (hi2 : ∀ l ∈ iS, l.length ≤ 1000000) (hl : sS.length ≤ 1000) (hx : ∀ x ∈ sS, x.length ≤ 1000000) :
  eA F d iS sS = some (if listsErrR d iS = 0 then closedR d iS sS else (0, listsErrR d iS)) := by
 unfold eA closedR
 rw [rY hF h iS (by omega) hi2, Option.bind_some]
 by_cases he : listsErrR d iS = 0
 case neg =>
  rw [if_neg he]
  by_cases h3 : (sS.length : Int) ≤ 300
  ·rw [if_pos (decide_eq_true h3), if_pos (by simpa using he)]
  ·rw [if_neg (by simpa using h3), if_pos (by simpa using he)]
 obtain ⟨ok, _, _, hin⟩ := sH h he
 rw [if_pos he]
 by_cases h3 : 300 < sS.length
 ·rw [if_neg (by simp; omega), if_neg (by simp [he]), if_pos h3]
 rw [if_pos (decide_eq_true (by omega)), if_neg (by simp [he]), if_neg h3, CA hF ok hl hx, Option.bind_some]
 by_cases h1 : (eachP (chk1 d sS) 0 sS).2 = 0
 case neg => rw [if_pos (by simpa using h1), if_neg h1]
 obtain ⟨ha, hs⟩ := yK ok h1
 rw [if_neg (by simp [h1]), if_pos h1, wV hF h.elements, Option.bind_some, kN hF h.elements (by simp [resetD]), Option.bind_some, Bl, EI hF ha hl hx, Option.bind_some]
 cases hasL sS (resetD d)
 ·rfl
 ·simp only [if_true]
  rw [CB hF ok hi hin ha hl hx (fun s h => (hs s h).1)]; rfl
end Go.E
