/- Plain law of chapter 15: what functions of the reference answer. Own work. -/
import Derived.Test.YtoljdokffnjapaaGreatP5
import Derived.Test.YtoljdokffnjapaaGreatP6
import Derived.Test.YtoljdokffnjapaaGreatP4
import Derived.Test.YtoljdokffnjapaaGreatP2
set_option linter.all false
namespace Go.E
open Classical
theorem sB {α β : Type} {L : List α → Nat → List β → Option (List β)} (f : α → Option β) (g : α → β) (h0 : ∀ i o, L [] i o = some o)
  (h1 : ∀ x r i o, L (x :: r) i o = (f x).bind fun y => if o.length + 1 ≤ 1000000 then L r (i + 1) (o ++ [y]) else none) :
  ∀ r i o, (∀ x ∈ r, f x = some (g x)) → o.length + r.length ≤ 1000000 → L r i o = some (o ++ r.map g)
 | [], i, o, _, _ => by rw [h0]; simp
 | x :: r, i, o, hf, hl => by
  simp only [List.length_cons] at hl
  rw [h1, hf x (by simp), Option.bind_some, if_pos (by omega), sB f g h0 h1 r (i + 1) (o ++ [g x]) (fun y hy => hf y (by simp [hy])) (by simp; omega)]
  simp
def atAll (p : Nat → Bool) (n : Nat) : List Int := ((List.range n).filter p).map fun (i : Nat) => (i : Int)
theorem zf (p : Nat → Bool) (n : Nat) : atAll p (n + 1) = if p n = true then atAll p n ++ [(n : Int)] else atAll p n := by
 unfold atAll
 rw [List.range_succ, List.filter_append, List.map_append]
 cases h : p n <;> simp [h]
theorem uT (p : Nat → Bool) (n : Nat) : (atAll p n).length ≤ n := by
 unfold atAll; rw [List.length_map]; exact Nat.le_trans (List.length_filter_le _ _) (by simp)
theorem wH {L : Nat → (List Int × Nat) → Option (List Int)} (n : Nat) (p : Nat → Bool) (hn : n ≤ 1000)
  (step : ∀ k i o, i < n → o.length ≤ i → L (k + 1) (o, i) = L k (if p i = true then o ++ [(i : Int)] else o, i + 1)) (last : ∀ k o, L (k + 1) (o, n) = some o) (k : Nat) (h : n < k) : L k ([], 0) = some (atAll p n) := by
 have h0 : ([] : List Int) = atAll p 0 := rfl
 rw [h0]
 refine ou (L := L) (fun i => (atAll p i, i)) n (atAll p n) (fun k i hi => ?_) (fun k => last k _) k 0 (by omega) (by omega)
 rw [step k i _ hi (uT p i), zf]
variable {F : Nat} (hF : 1000000 < F)
include hF in
theorem oK {d : Desg} (h : FewD d) : bL F d = some (d, (designErrR d).2) := by
 unfold bL; rw [sr hF h]; rfl
include hF in
theorem rj {d : Desg} (h : OkD d) (l : List Int) (hl : l.length ≤ 1000000) : aE F d l = some (valErrS (inWs d) l) := by
 unfold aE valErrS
 by_cases hn : l.length = d.inputs.length
 case neg => rw [if_pos (decide_eq_true (by omega)), if_neg (by simpa [inWs] using hn)]
 rw [if_neg (by simp; omega), if_pos (by simpa [inWs] using hn)]
 have e := jE F l d hl l 0 F () rfl (by omega)
 have k := kU (L := eJ F l d) (fun i n => bh F d (i : Int) n) (fun i n => if fitsN n (at0 (inWs d) i) = true then (0 : Int) else 2) (fun i s => rfl) (fun x r i s => rfl) l 0 (fun j x hj => by
  have hlt := aa hj
  have hg : d.inputs[j]? = some (d.inputs[j]'(by omega)) := bu (by omega)
  generalize d.inputs[j]'(by omega) = y at hg
  have hw := h.inW y.width (List.mem_map.2 ⟨_, List.mem_of_getElem? hg, rfl⟩)
  have ha : at0 (inWs d) j = y.width := fW (by unfold inWs; rw [List.getElem?_map, hg]; rfl)
  unfold bh
  rw [Nat.zero_add, iC, hg, Option.bind_some, decide_eq_true (show (0 : Int) ≤ y.width by omega), Bool.true_and, ha]
  split <;> rfl)
 unfold iv
 rw [e, k, ← nD]
 generalize ocP _ 0 l = o
 cases o <;> rfl
include hF in
theorem rk {d : Desg} (h : OkD d) (l : List Int) (hl : l.length ≤ 1000000) : aK F d l = some (valErrS (elWs d) l) := by
 unfold aK valErrS
 by_cases hn : l.length = d.elements.length
 case neg => rw [if_pos (decide_eq_true (by omega)), if_neg (by simpa [elWs] using hn)]
 rw [if_neg (by simp; omega), if_pos (by simpa [elWs] using hn)]
 have e := jF F l d hl l 0 F () rfl (by omega)
 have k := kU (L := eK F l d) (fun i n => bo F d (i : Int) n) (fun i n => if fitsN n (at0 (elWs d) i) = true then (0 : Int) else 2) (fun i s => rfl) (fun x r i s => rfl) l 0 (fun j x hj => by
  have hlt := aa hj
  have hg : d.elements[j]? = some (d.elements[j]'(by omega)) := bu (by omega)
  generalize d.elements[j]'(by omega) = y at hg
  have hw := h.elW y.width (List.mem_map.2 ⟨_, List.mem_of_getElem? hg, rfl⟩)
  have ha : at0 (elWs d) j = y.width := fW (by unfold elWs; rw [List.getElem?_map, hg]; rfl)
  unfold bo
  rw [Nat.zero_add, iC, hg, Option.bind_some, decide_eq_true (show (0 : Int) ≤ y.width by omega), Bool.true_and, ha]
  split <;> rfl)
 unfold iw
 rw [e, k, ← nD]
 generalize ocP _ 0 l = o
 cases o <;> rfl
def resetOfR (d : Desg) : List Int × Int := if (designErrR d).2 = 0 then (resetD d, 0) else ([], (designErrR d).2)
include hF in
theorem AO {d : Desg} (h : FewD d) : gb F d = some (resetOfR d) := by
 unfold gb resetOfR
 rw [oK hF h, Option.bind_some]
 by_cases he : (designErrR d).2 = 0
 ·rw [if_neg (by simp [he]), if_pos he, wD hF h.elements]; rfl
 ·rw [if_pos (by simpa using he), if_neg he]
def begunOfR (d : Desg) (s : List Int) : List Int × Int := if (designErrR d).2 = 0 then (if valErrS (elWs d) s = 0 then (begL d.elements s, 0) else ([], valErrS (elWs d) s)) else ([], (designErrR d).2)
theorem Hx {ws l : List Int} (h : valErrS ws l = 0) : l.length = ws.length := by
 unfold valErrS at h; split at h
 ·assumption
 ·omega
include hF in
theorem AP {d : Desg} (h : FewD d) (s : List Int) (hs : s.length ≤ 1000000) : gc F d s = some (begunOfR d s) := by
 unfold gc begunOfR
 rw [oK hF h, Option.bind_some]
 by_cases he : (designErrR d).2 = 0
 ·have ok : OkD d := ⟨h, he⟩
  rw [if_pos (by simp [he]), if_pos he, rk hF ok s hs, Option.bind_some]
  by_cases h2 : valErrS (elWs d) s = 0
  ·rw [if_neg (by simp [h2]), if_pos h2, mS hF h.elements (by rw [Hx h2]; simp [elWs])]; rfl
  ·rw [if_pos (by simpa using h2), if_neg h2]
 ·rw [if_neg (by simp [he]), if_pos (by simpa using he), if_neg he]
def openErrR (d : Desg) (l s : List Int) : Int := if (designErrR d).2 = 0 then (if valErrS (inWs d) l = 0 then valErrS (elWs d) s else valErrS (inWs d) l) else (designErrR d).2
include hF in
theorem rR {d : Desg} (h : FewD d) (l s : List Int) (hl : l.length ≤ 1000000) (hs : s.length ≤ 1000000) : er F d l s = some (d, openErrR d l s) := by
 unfold er openErrR
 rw [oK hF h, Option.bind_some]
 by_cases he : (designErrR d).2 = 0
 ·have ok : OkD d := ⟨h, he⟩
  rw [if_pos (by simp [he]), if_pos he, rk hF ok s hs, rj hF ok l hl, Option.bind_some, Option.bind_some]
  by_cases h1 : valErrS (inWs d) l = 0 <;> by_cases h2 : valErrS (elWs d) s = 0 <;> simp [h1, h2]
 ·rw [if_neg (by simp [he]), if_neg he]
theorem yq {d : Desg} (h : FewD d) {l s : List Int} (he : openErrR d l s = 0) : OkD d ∧ LeafOk (inWs d) l ∧ LeafOk (elWs d) s := by
 unfold openErrR at he
 split at he
 case isFalse h1 => exact absurd he h1
 rename_i h1
 have ok : OkD d := ⟨h, h1⟩
 split at he
 case isFalse h2 => exact absurd he h2
 rename_i h2
 exact ⟨ok, (aT ok.inW).1 h2, (aT ok.elW).1 he⟩
def enAt (d : Desg) (v : List Int) (i : Nat) : Bool := match d.rules[i]? with | some x => enD v x | none => false
def outsD (d : Desg) (v : List Int) : List Int := d.outs.map fun o => at0 v o.node.toNat
def enabledInR (d : Desg) (l s : List Int) : List Int × Int := if openErrR d l s = 0 then (atAll (enAt d (valsD d l s)) d.rules.length, 0) else ([], openErrR d l s)
def outputsInR (d : Desg) (l s : List Int) : List Int × Int := if openErrR d l s = 0 then (outsD d (valsD d l s), 0) else ([], openErrR d l s)
include hF in
theorem xF {d : Desg} (h : FewD d) (l s : List Int) (hl : l.length ≤ 1000000) (hs : s.length ≤ 1000000) : fu F d l s = some (enabledInR d l s) := by
 unfold fu enabledInR
 rw [rR hF h l s hl hs, Option.bind_some]
 by_cases he : openErrR d l s = 0
 case neg => rw [if_pos (by simpa using he), if_neg he]
 obtain ⟨ok, h1, h2⟩ := yq h he
 rw [if_neg (by simp [he]), if_pos he, jH hF ok h1 h2, Option.bind_some, wH (L := bp F d (d, openErrR d l s) (valsD d l s)) d.rules.length (enAt d (valsD d l s)) h.rules (fun k i o hi ho => ?_) (fun k o => ?_) F (by have := h.rules; omega)]
 ·rfl
 ·have := h.rules
  have hg := bu hi
  rw [bp, lt_n i _ hi, if_pos rfl, pD ok (gB d l s) hg, Option.bind_some]
  simp only [enAt, hg]
  cases enD (valsD d l s) d.rules[i]
  ·simp only [Bool.false_eq_true, if_false]; rw [if_pos (in_1 (by omega))]
  ·simp only [if_true]; rw [if_pos (by omega), if_pos (in_1 (by omega))]
 ·rw [bp, nC]; rfl
include hF in
theorem xG {d : Desg} (h : FewD d) (l s : List Int) (hl : l.length ≤ 1000000) (hs : s.length ≤ 1000000) : fw F d l s = some (outputsInR d l s) := by
 unfold fw outputsInR
 rw [rR hF h l s hl hs, Option.bind_some]
 by_cases he : openErrR d l s = 0
 case neg => rw [if_pos (by simpa using he), if_neg he]
 obtain ⟨ok, h1, h2⟩ := yq h he
 have ho := h.outs
 have e : bq F d (valsD d l s) F ([], 0) = _ := iG F d (valsD d l s) (by omega) d.outs 0 F [] rfl (by omega)
 rw [if_neg (by simp [he]), if_pos he, jH hF ok h1 h2, Option.bind_some, e, sB (L := dF F d (valsD d l s)) (fun o => idxI (valsD d l s) o.node) (fun o => at0 (valsD d l s) o.node.toNat) (fun _ _ => rfl) (fun _ _ _ _ => rfl) d.outs 0 [] (fun o ho => (jG (ok.out ho) (gB d l s)).1) (by simp; omega)]
 rfl
def ruleErrR (d : Desg) (r : Int) : Int := if inLen d.rules.length r = true then 0 else 6
theorem uU {d : Desg} (h : FewD d) (r : Int) : bS F d r = some (ruleErrR d r) := by
 have := h.rules
 unfold bS ruleErrR inLen
 rw [if_pos (in_m (by omega))]
 split <;> rfl
theorem rl {d : Desg} {r : Int} (h : ruleErrR d r = 0) : ∃ x, d.rules[r.toNat]? = some x ∧ r = (r.toNat : Int) := by
 unfold ruleErrR inLen at h
 split at h
 ·rename_i h1
  simp only [Bool.and_eq_true, decide_eq_true_eq] at h1
  exact ⟨_, bu (show r.toNat < d.rules.length by omega), by omega⟩
 ·omega
def hapErrR (d : Desg) (r : Int) (l s : List Int) : Int := if (designErrR d).2 = 0 then (if ruleErrR d r = 0 then (if valErrS (inWs d) l = 0 then valErrS (elWs d) s else valErrS (inWs d) l) else ruleErrR d r) else (designErrR d).2
def hapD (d : Desg) (r : Int) (l s : List Int) : List Int := match d.rules[r.toNat]? with | some x => hapL x.writes (valsD d l s) s | none => []
def happenedR (d : Desg) (r : Int) (l s : List Int) : List Int × Int :=
 if hapErrR d r l s = 0 then (if enAt d (valsD d l s) r.toNat = true then (hapD d r l s, 0) else ([], 24)) else ([], hapErrR d r l s)
theorem dn_en' {d : Desg} (ok : OkD d) {r : Int} (hr : ruleErrR d r = 0) (l s : List Int) : av F d r (valsD d l s) = some (enAt d (valsD d l s) r.toNat) := by
 obtain ⟨x, hx, e⟩ := rl hr
 have := pD (F := F) ok (gB d l s) hx
 rw [← e] at this
 rw [this]; simp only [enAt, hx]
include hF in
theorem dn_hap' {d : Desg} (ok : OkD d) {r : Int} (hr : ruleErrR d r = 0) {l s : List Int} (hs : LeafOk (elWs d) s) : aq F d r (valsD d l s) s = some (hapD d r l s) := by
 obtain ⟨x, hx, e⟩ := rl hr
 have := rP hF ok (gB d l s) (s := s) (by rw [hs.1]; simp [elWs]) hx
 rw [← e] at this
 rw [this]; simp only [hapD, hx]
theorem oL {d : Desg} (ok : OkD d) {r : Int} (hr : ruleErrR d r = 0) {l s : List Int} (hl : LeafOk (inWs d) l) (hs : LeafOk (elWs d) s) : LeafOk (elWs d) (hapD d r l s) := by
 obtain ⟨x, hx, e⟩ := rl hr
 simp only [hapD, hx]
 exact wB ok hl hs (ok.rule (List.mem_of_getElem? hx)).2 hs
include hF in
theorem pJ {d : Desg} (h : FewD d) (r : Int) (l s : List Int) (hl : l.length ≤ 1000000) (hs : s.length ≤ 1000000) : dI F d r l s = some (happenedR d r l s) := by
 unfold dI happenedR
 rw [oK hF h, Option.bind_some]
 by_cases he : (designErrR d).2 = 0
 case neg =>
  have e : hapErrR d r l s = (designErrR d).2 := by simp [hapErrR, he]
  rw [if_neg (by simp [he]), if_pos (by simpa using he), e, if_neg he]
 have ok : OkD d := ⟨h, he⟩
 rw [if_pos (by simp [he]), uU h, rj hF ok l hl, rk hF ok s hs, Option.bind_some, Option.bind_some, Option.bind_some]
 by_cases h1 : ruleErrR d r = 0
 case neg =>
  have e : hapErrR d r l s = ruleErrR d r := by simp [hapErrR, he, h1]
  rw [if_pos (by simpa using h1), e, if_neg h1]
 by_cases h2 : valErrS (inWs d) l = 0
 case neg =>
  have e : hapErrR d r l s = valErrS (inWs d) l := by simp [hapErrR, he, h1, h2]
  rw [if_neg (by simp [h1]), if_pos (by simpa using h2), e, if_neg h2]
 by_cases h3 : valErrS (elWs d) s = 0
 case neg =>
  have e : hapErrR d r l s = valErrS (elWs d) s := by simp [hapErrR, he, h1, h2]
  rw [if_neg (by simp [h1]), if_neg (by simp [h2]), if_pos (by simpa using h3), e, if_neg h3]
 have e : hapErrR d r l s = 0 := by simp [hapErrR, he, h1, h2, h3]
 have hl' := (aT ok.inW).1 h2
 have hs' := (aT ok.elW).1 h3
 rw [if_neg (by simp [h1]), if_neg (by simp [h2]), if_neg (by simp [h3]), e, if_pos rfl, jH hF ok hl' hs', Option.bind_some, dn_en' ok h1, Option.bind_some]
 cases enAt d (valsD d l s) r.toNat
 ·rfl
 ·simp only [if_true]; rw [dn_hap' hF ok h1 hs']; rfl
def runGo (d : Desg) (l : List Int) : List Int → Nat → List Int → List (List Int) → List (List Int) × Nat
 | [], i, _, out => (out, i)
 | r :: rs, i, s, out => if enAt d (valsD d l s) r.toNat = true then runGo d l rs (i + 1) (hapD d r l s) (out ++ [hapD d r l s]) else (out, i)
def runR (d : Desg) (rules l s : List Int) : List (List Int) × Nat := runGo d l rules 0 (begL d.elements s) [begL d.elements s]
def runErrR (d : Desg) (rules l s : List Int) : Int :=
 if (designErrR d).2 = 0 then (if 60 < rules.length then 8 else if (eachP (fun _ r => ruleErrR d r) 0 rules).2 = 0 then (if valErrS (inWs d) l = 0 then valErrS (elWs d) s else valErrS (inWs d) l) else (eachP (fun _ r => ruleErrR d r) 0 rules).2) else (designErrR d).2
def runOfR (d : Desg) (rules l s : List Int) : List (List Int) × Int × Int := if runErrR d rules l s = 0 then ((runR d rules l s).1, ((runR d rules l s).2 : Int), 0) else ([], 0, runErrR d rules l s)
def ocRun : Oc (List (List Int) × Nat) (List (List Int)) → Nat → List (List Int) × Nat
 | .a o, _ => o
 | .b o, n => (o, n)
include hF in
theorem wI {d : Desg} (ok : OkD d) {l : List Int} (hl : LeafOk (inWs d) l) (rules : List Int) (e : Int) (hr : rules.length ≤ 1000) : ∀ (rs : List Int) (i : Nat) (s : List Int) (out : List (List Int)), rules.drop i = rs → i ≤ rules.length → (∀ r ∈ rs, ruleErrR d r = 0) → LeafOk (elWs d) s → out.length = i + 1 →
  ∃ o, dY F rules l (d, e) rs i (s, out) = some o ∧ ocRun o rules.length = runGo d l rs i s out
 | [], i, s, out, hd, hi, _, hs, ho => by
  have : rules.length ≤ i := by simpa using hd
  obtain rfl : i = rules.length := by omega
  exact ⟨_, rfl, rfl⟩
 | r :: rs, i, s, out, hd, hi, hrs, hs, ho => by
  have h1 := hrs r (by simp)
  have hlt := jT hd
  simp only [dY, runGo]
  rw [jH hF ok hl hs, Option.bind_some, dn_en' ok h1, Option.bind_some]
  cases enAt d (valsD d l s) r.toNat
  ·exact ⟨_, rfl, rfl⟩
  ·simp only [if_true]
   rw [dn_hap' hF ok h1 hs, Option.bind_some, if_pos (by omega)]
   exact wI ok hl rules e hr rs (i + 1) _ _ (ai hd) hlt (fun x hx => hrs x (by simp [hx])) (oL ok h1 hl hs) (by simp; omega)
include hF in
theorem zg {d : Desg} (h : FewD d) (l : List Int) (hl : l.length ≤ 1000000) : ga F d l = some (eachP (fun _ r => ruleErrR d r) 0 l) := by
 have e := jd F l d hl l 0 F () rfl (by omega)
 have k := kU (L := ep F l d) (fun i n => eY F d (i : Int) n) (fun _ r => ruleErrR d r) (fun i s => rfl) (fun x r i s => rfl) l 0 (fun j x hj => by
  unfold eY
  rw [uU h]; rfl)
 unfold ga
 rw [e, k, ← nD]
 generalize ocP _ 0 l = o
 cases o <;> rfl
include hF in
theorem tW {d : Desg} (h : FewD d) (rules l s : List Int) (hr : rules.length ≤ 1000) (hl : l.length ≤ 1000000) (hs : s.length ≤ 1000000) : eZ F d rules l s = some (runOfR d rules l s) := by
 unfold eZ runOfR
 rw [oK hF h, Option.bind_some]
 by_cases he : (designErrR d).2 = 0
 case neg =>
  have e : runErrR d rules l s = (designErrR d).2 := by simp [runErrR, he]
  rw [if_neg (by simp [he]), if_pos (by simpa using he), e, if_neg he]
 have ok : OkD d := ⟨h, he⟩
 rw [if_pos (by simp [he]), zg hF h rules (by omega), rj hF ok l hl, rk hF ok s hs, Option.bind_some, Option.bind_some, Option.bind_some, Option.bind_some, Option.bind_some]
 by_cases h0 : 60 < rules.length
 ·have e : runErrR d rules l s = 8 := by simp [runErrR, he, h0]
  rw [if_neg (by simp; omega), e]; rfl
 rw [if_pos (decide_eq_true (by omega))]
 by_cases h1 : (eachP (fun _ r => ruleErrR d r) 0 rules).2 = 0
 case neg =>
  have e : runErrR d rules l s = (eachP (fun _ r => ruleErrR d r) 0 rules).2 := by simp [runErrR, he, h0, h1]
  rw [if_pos (by simpa using h1), e, if_neg h1]
 by_cases h2 : valErrS (inWs d) l = 0
 case neg =>
  have e : runErrR d rules l s = valErrS (inWs d) l := by simp [runErrR, he, h0, h1, h2]
  rw [if_neg (by simp [h1]), if_pos (by simpa using h2), e, if_neg h2]
 by_cases h3 : valErrS (elWs d) s = 0
 case neg =>
  have e : runErrR d rules l s = valErrS (elWs d) s := by simp [runErrR, he, h0, h1, h2]
  rw [if_neg (by simp [h1]), if_neg (by simp [h2]), if_pos (by simpa using h3), e, if_neg h3]
 have e : runErrR d rules l s = 0 := by simp [runErrR, he, h0, h1, h2, h3]
 have hl' := (aT ok.inW).1 h2
 have hs' := (aT ok.elW).1 h3
 have hb := oz ok hs'
 have e1 : bK F rules l (d, (designErrR d).2) F (begL d.elements s, [begL d.elements s], 0) = _ := kb F rules l (d, (designErrR d).2) (by omega) rules 0 F (begL d.elements s, [begL d.elements s]) rfl (by omega)
 obtain ⟨o, e2, e3⟩ := wI hF ok hl' rules (designErrR d).2 hr rules 0 (begL d.elements s) [begL d.elements s] rfl (by omega) (fun r hr => nF (fun r => ruleErrR d r) rules h1 r hr) hb rfl
 rw [if_neg (by simp [h1]), if_neg (by simp [h2]), if_neg (by simp [h3]), e, if_pos rfl, mS hF h.elements (by rw [hs'.1]; simp [elWs]), Option.bind_some, e1, e2, Option.bind_some]
 unfold runR
 rw [← e3]
 cases o <;> rfl
end Go.E
set_option linter.all false
namespace Go.E
open Go.Proofs Classical
set_option maxRecDepth 100000
set_option maxHeartbeats 20000000
noncomputable section
theorem xH (l : List DStep) : List.mapM (takeElem 2) (l.map encDStep) = some (l.map encDStep) := eU fun x => by simp [takeElem, encDStep, cellsDStep, V.norm, gI, V.cells, V.pure, V.pureL, V.isCell]
attribute [push_cast] xH
theorem Hy (bs : List Nat) (H : Heap) (a : Nat) : callw X bs 86 [.tl a []] H = some (.undef, H) := by
 refine yw2 (rs := []) (N := 28) (fn := Tryz.f86) xk86 xf86 ?_
 repeat' first
  | (refine yw0 (id := 3) oz53 ?_)
  | (refine zs ?_; repeat' first | apply zs0 | apply zs2 | (intro hc; try have hq := dq hc)) | fail
 all_goals try (refine di ?_)
 repeat' first
  | (refine yw0 (id := 3) oz53 ?_)
  | (refine zs ?_; repeat' first | apply zs0 | apply zs2 | (intro hc; try have hq := dq hc)) | fail
 exact Co (fun _ h_ => by cases h_) rfl (by simp)
def dE (F : Nat) (cv0 : Desg) (a0_ : Int) (l : List Int) : Option (Int) := ((aE F cv0 l).bind fun y1 => some y1)
theorem jh (bs : List Nat) (H : Heap) (F : Nat) (ca0 : Nat) (cv0 : Desg) (hca0 : H[ca0]? = some (.cells [.str cv0.name, .list (cv0.inputs.map encPort), .list (cv0.elements.map encElem), .list (cv0.nodes.map encNode), .list (cv0.rules.map encRul), .list (cv0.outs.map encOutp), .list (cv0.attrs.map encAttr)])) (a0_ : Int) (l : List Int) (R : Int) (hR0 : dE F cv0 a0_ l = some R) : callw X bs 158 [.int .i64 a0_, .list (l.map (V.int .i64)), .ptr ca0 0] H = some (.int .i64 R, H) := by
 refine yw2 (rs := [.tmp 5]) (N := 9) (fn := Tryz.f158) C6 MP ?_
 have hca0_l := aa hca0
 have hca0_a := get_app' hca0
 have hR := Kp.mk hR0
 clear hR0
 rw [dE] at hR
 obtain ⟨y1, y1_e, hR⟩ := bindE hR
 have y1_k := fun bs H => bR bs H F cv0 l y1 y1_e
 (try simp only [cellsDesg, encDesg, encInts] at y1_k)
 obtain rfl := someE hR
 exact zv
def cP (F : Nat) (l : List (List Int)) (cv0 : Desg) : Nat → Nat → Option (Oc (Nat × Int) (Unit))
 | 0, _ => none
 | k + 1, s1 => (if (decide ((s1 : Int) < (l.length : Int))) = true then ((l[s1]?).bind fun x4 => ((dE F cv0 (s1 : Int) x4).bind fun y5 => (if (decide (¬y5 = 0)) = true then some (.a (s1, y5)) else (if inI ((s1 : Int) + 1) then cP F l cv0 k (s1 + 1) else none)))) else some (.b ()))
theorem oM (bs : List Nat) (H : Heap) (F : Nat) (ca0 : Nat) (cv0 : Desg) (hca0 : H[ca0]? = some (.cells [.str cv0.name, .list (cv0.inputs.map encPort), .list (cv0.elements.map encElem), .list (cv0.nodes.map encNode), .list (cv0.rules.map encRul), .list (cv0.outs.map encOutp), .list (cv0.attrs.map encAttr)])) (l : List (List Int)) : ∀ k s r ρ H', (∃ J2, H' = H ++ J2 ∧ ρ 1 = .func 158 [.ptr ca0 0] ∧ ρ 9 = .list (l.map encInts) ∧ ρ 10 = .int .i64 (l.length : Int) ∧ ρ 11 = .int .i64 (s : Int)) → cP F l cv0 k s = some r → Lp X ⟨25, H.length :: bs⟩ (loopAt Tryz.f134 0) ρ H' ((fun r ex ρ H' => match r with | .a r => ∃ J2, H' = H ++ J2 ∧ ex = .ret ∧ ρ 4 = .int .i64 (r.1 : Int) ∧ ρ 5 = .int .i64 r.2 | .b r => ∃ J2, H' = H ++ J2 ∧ ex = .exit 0) r) := by
 refine ae (fun _ => rfl) ?_
 rintro k s1 r ρ H' ⟨J2, hH, h1, h9, h10, h11⟩ hR
 skip
 subst hH
 rw [cP] at hR
 have hca0_l := aa hca0
 have hca0_a := get_app' hca0
 conv => arg 3; whnf
 try refine zw ?_
 rcases iteE hR with ⟨c3, hR⟩ | ⟨c3, hR⟩
 ·obtain ⟨x4, x4_e, hR⟩ := bindE hR
  obtain ⟨y5, y5_e, hR⟩ := bindE hR
  have y5_k := fun (bs : List Nat) (l : Heap) => jh bs (H ++ l) F ca0 cv0 gt (s1 : Int) x4 y5 y5_e
  have y5_k0 := fun (bs : List Nat) => jh bs H F ca0 cv0 gt (s1 : Int) x4 y5 y5_e
  try refine zw ?_
  clear y5_k y5_k0
  rcases iteE hR with ⟨c6, hR⟩ | ⟨c6, hR⟩
  ·obtain rfl := someE hR
   refine zu ?_
   exact ⟨_, hq, rfl, sl, sl⟩
  ·obtain ⟨g7, hR⟩ := grdE hR
   have g7_w := af g7
   refine zu ?_
   exact ⟨(s1 + 1), ⟨_, hq, sl, sl, sl, sl⟩, hR.out⟩
 ·obtain rfl := someE hR
  refine zu ?_
  exact ⟨_, hq, rfl⟩
def eA (F : Nat) (l : List (List Int)) (cv0 : Desg) : List (List Int) → Nat → Unit → Option (Oc (Nat × Int) (Unit))
 | [], s1, _ => some (.b ())
 | x_ :: r_, s1, _ => ((dE F cv0 (s1 : Int) x_).bind fun y5 => (if (decide (¬y5 = 0)) = true then some (.a (s1, y5)) else eA F l cv0 r_ (s1 + 1) ()))
theorem ji (F : Nat) (l : List (List Int)) (cv0 : Desg) (hl_ : l.length ≤ 1000000) : ∀ r_ i_ k_ (o_ : Unit), l.drop i_ = r_ → r_.length < k_ → cP F l cv0 k_ i_ = eA F l cv0 r_ i_ o_
 | _, _, 0, _, _, hk => absurd hk (Nat.not_lt_zero _)
 | [], i_, k_ + 1, _, hd, _ => by rw [cP, eA]; simp only [ao hd, Bool.false_eq_true, if_false]
 | x_ :: r_, i_, k_ + 1, _, hd, hk => by
  have ih := ji F l cv0 hl_ r_ (i_ + 1) k_ () (ai hd) (Nat.lt_of_succ_lt_succ hk)
  rw [cP, eA]; simp only [aF hd, aw hd, if_pos (aG hd hl_), Option.bind_some, if_true, ih]
def gh (F : Nat) (cv0 : Desg) (l : List (List Int)) : Option (Int × Int) := ((cP F l cv0 F 0).bind fun o8 => match o8 with | .a o9 => some ((o9.1 : Int), o9.2) | .b o11 => some (0, 0))
theorem qP (bs : List Nat) (H : Heap) (F : Nat) (ca0 : Nat) (cv0 : Desg) (hca0 : H[ca0]? = some (.cells [.str cv0.name, .list (cv0.inputs.map encPort), .list (cv0.elements.map encElem), .list (cv0.nodes.map encNode), .list (cv0.rules.map encRul), .list (cv0.outs.map encOutp), .list (cv0.attrs.map encAttr)])) (l : List (List Int)) (R : Int × Int) (hR0 : gh F cv0 l = some R) : callw X bs 134 [.list (l.map encInts), .func 158 [.ptr ca0 0]] H = some (.tuple [.int .i64 R.1, .int .i64 R.2], H) := by
 refine yw2 (rs := [.tmp 4, .tmp 5]) (N := 25) (fn := Tryz.f134) CZ MH ?_
 have hca0_l := aa hca0
 have hca0_a := get_app' hca0
 have hR := Kp.mk hR0
 clear hR0
 rw [gh] at hR
 obtain ⟨o8, o8_e, hR⟩ := bindE hR
 refine zu ?_
 refine ac (ah (c := (loopAt Tryz.f134 0)) rfl (oM _ H F ca0 cv0 hca0 l _ 0 o8 _ _ ⟨[], by simp, sl, sl, sl, sl⟩ o8_e)) ?_
 rcases o8 with o9 | o11
 ·rintro ex ρ' H' ⟨J10, rfl, rfl, q4_o9, q5_o9⟩ hf
  clear hf
  obtain rfl := someE hR
  exact zv
 ·rintro ex ρ' H' ⟨J12, rfl, rfl⟩ hf
  clear hf
  obtain rfl := someE hR
  exact zv
def fz (F : Nat) (d : Desg) (inputs : List (List Int)) : Option (Desg × Int) := ((bL F d).bind fun y1 => (if (decide (¬y1.2 = 0)) = true then some (y1.1, y1.2) else ((gh F y1.1 inputs).bind fun y3 => (if (decide ((0 : Int) < (inputs.length : Int))) = true then (if (decide ((inputs.length : Int) ≤ 16)) = true then (if (decide (¬y3.2 = 0)) = true then some (y1.1, y3.2) else some (y1.1, 0)) else some (y1.1, 8)) else (if (decide ((inputs.length : Int) ≤ 16)) = true then some (y1.1, 10) else some (y1.1, 10))))))
theorem pK (bs : List Nat) (H : Heap) (F : Nat) (d : Desg) (inputs : List (List Int)) (R : Desg × Int) (hR0 : fz F d inputs = some R) : callw X bs 79 [(encDesg d), .list (inputs.map encInts)] H = some (.tuple [(encDesg R.1), .int .i64 R.2], H) := by
 refine yw2 (rs := [.cell 4 114, .tmp 5]) (N := 37) (fn := Tryz.f79) xk79 xf79 ?_
 have hR := Kp.mk hR0
 clear hR0
 rw [fz] at hR
 (try simp only [cellsDesg, encDesg, encInts])
 obtain ⟨y1, y1_e, hR⟩ := bindE hR
 have y1_k := fun bs H => eH bs H F d y1 y1_e
 (try simp only [cellsDesg, encDesg, encInts] at y1_k)
 try refine zw ?_
 clear y1_k
 rcases iteE hR with ⟨c2, hR⟩ | ⟨c2, hR⟩
 ·obtain rfl := someE hR
  exact zv
 ·obtain ⟨y3, y3_e, hR⟩ := bindE hR
  have y3_k := fun (bs : List Nat) (u0 u1 : HObj) (J : Heap) => qP bs (H ++ u0 :: u1 :: .cells [.str y1.1.name, .list (y1.1.inputs.map encPort), .list (y1.1.elements.map encElem), .list (y1.1.nodes.map encNode), .list (y1.1.rules.map encRul), .list (y1.1.outs.map encOutp), .list (y1.1.attrs.map encAttr)] :: J) F (H.length + 2) y1.1 gt inputs y3 y3_e
  rcases iteE hR with ⟨c4, hR⟩ | ⟨c4, hR⟩
  ·rcases iteE hR with ⟨c5, hR⟩ | ⟨c5, hR⟩
   ·rcases iteE hR with ⟨c6, hR⟩ | ⟨c6, hR⟩
    ·have c6_p := of_decide_eq_true c6
     obtain rfl := someE hR
     try refine zu ?_
     (refine yw1 (id := 5) oz42 oz43 ?_)
     exact zv
    ·have c6_p := Decidable.not_not.1 (of_decide_eq_false c6)
     obtain rfl := someE hR
     try refine zu ?_
     (refine yw1 (id := 5) oz42 oz43 ?_)
     exact zv
   ·obtain rfl := someE hR
    try refine zu ?_
    (refine yw1 (id := 5) oz42 oz43 ?_)
    exact zv
  ·rcases iteE hR with ⟨c7, hR⟩ | ⟨c7, hR⟩
   ·obtain rfl := someE hR
    try refine zu ?_
    (refine yw1 (id := 5) oz42 oz43 ?_)
    exact zv
   ·obtain rfl := someE hR
    try refine zu ?_
    (refine yw1 (id := 5) oz42 oz43 ?_)
    exact zv
def dg (F : Nat) (cv0 : Desg) (cv1 : DVisit) (cv2 : Int) (a0_ : List Int) : Option (Bool) := ((ay F cv0 a0_ cv1.state).bind fun y1 => ((idxI y1 cv2).bind fun x2 => some (decide (x2 = 0))))
theorem iS (bs : List Nat) (H : Heap) (F : Nat) (ca0 : Nat) (ca1 : Nat) (ca2 : Nat) (cv0 : Desg) (cv1 : DVisit) (cv2 : Int) (hca0 : H[ca0]? = some (.cells [.str cv0.name, .list (cv0.inputs.map encPort), .list (cv0.elements.map encElem), .list (cv0.nodes.map encNode), .list (cv0.rules.map encRul), .list (cv0.outs.map encOutp), .list (cv0.attrs.map encAttr)])) (hca1 : H[ca1]? = some (.cells [.list (cv1.state.map (V.int .i64)), .int .i64 cv1.prev, .int .i64 cv1.step.inputs, .int .i64 cv1.step.rule])) (hca2 : H[ca2]? = some (.cells [.int .i64 cv2])) (a0_ : List Int) (R : Bool) (hR0 : dg F cv0 cv1 cv2 a0_ = some R) : callw X bs 85 [.list (a0_.map (V.int .i64)), .ptr ca0 0, .ptr ca1 0, .ptr ca2 0] H = some (.bool R, H) := by
 refine yw2 (rs := [.tmp 5]) (N := 15) (fn := Tryz.f85) xk85 xf85 ?_
 have hca0_l := aa hca0
 have hca0_a := get_app' hca0
 have hca1_l := aa hca1
 have hca1_a := get_app' hca1
 have hca2_l := aa hca2
 have hca2_a := get_app' hca2
 have hR := Kp.mk hR0
 clear hR0
 rw [dg] at hR
 obtain ⟨y1, y1_e, hR⟩ := bindE hR
 have y1_k := fun bs H => aZ bs H F cv0 a0_ cv1.state y1 y1_e
 (try simp only [cellsDesg, encDesg, encInts] at y1_k)
 obtain ⟨x2, x2_e, hR⟩ := bindE hR
 obtain ⟨x2_p, x2_e⟩ := idxE x2_e
 obtain rfl := someE hR
 try refine zu ?_
 (refine yw1 (id := 1) [0, 1, 2, 3, 5, 4, 6, 7, 8, 9] [(4, 5)] ?_)
 exact zv
def bv (F : Nat) (s_ : List (List Int)) (cv0 : Desg) (cv1 : DVisit) (cv2 : Int) : Nat → Nat → Option (Oc (Nat) (Unit))
 | 0, _ => none
 | k + 1, s1 => (if (decide ((s1 : Int) < (s_.length : Int))) = true then ((s_[s1]?).bind fun x4 => ((dg F cv0 cv1 cv2 x4).bind fun y5 => (if y5 = true then some (.a s1) else (if inI ((s1 : Int) + 1) then bv F s_ cv0 cv1 cv2 k (s1 + 1) else none)))) else some (.b ()))
theorem mg (bs : List Nat) (H : Heap) (F : Nat) (ca0 : Nat) (ca1 : Nat) (ca2 : Nat) (cv0 : Desg) (cv1 : DVisit) (cv2 : Int) (hca0 : H[ca0]? = some (.cells [.str cv0.name, .list (cv0.inputs.map encPort), .list (cv0.elements.map encElem), .list (cv0.nodes.map encNode), .list (cv0.rules.map encRul), .list (cv0.outs.map encOutp), .list (cv0.attrs.map encAttr)])) (hca1 : H[ca1]? = some (.cells [.list (cv1.state.map (V.int .i64)), .int .i64 cv1.prev, .int .i64 cv1.step.inputs, .int .i64 cv1.step.rule])) (hca2 : H[ca2]? = some (.cells [.int .i64 cv2])) (s_ : List (List Int)) : ∀ k s r ρ H', (∃ J2, H' = H ++ J2 ∧ ρ 0 = .list (s_.map encInts) ∧ ρ 1 = .func 85 [.ptr ca0 0, .ptr ca1 0, .ptr ca2 0] ∧ ρ 7 = .int .i64 (s_.length : Int) ∧ ρ 8 = .int .i64 (s : Int)) → bv F s_ cv0 cv1 cv2 k s = some r → Lp X ⟨19, H.length :: bs⟩ (loopAt Tryz.f161 0) ρ H' ((fun r ex ρ H' => match r with | .a r => ∃ J2, H' = H ++ J2 ∧ ex = .ret ∧ ρ 4 = .int .i64 (r : Int) | .b r => ∃ J2, H' = H ++ J2 ∧ ex = .exit 0) r) := by
 refine ae (fun _ => rfl) ?_
 rintro k s1 r ρ H' ⟨J2, hH, h0, h1, h7, h8⟩ hR
 skip
 subst hH
 rw [bv] at hR
 have hca0_l := aa hca0
 have hca0_a := get_app' hca0
 have hca1_l := aa hca1
 have hca1_a := get_app' hca1
 have hca2_l := aa hca2
 have hca2_a := get_app' hca2
 conv => arg 3; whnf
 try refine zw ?_
 rcases iteE hR with ⟨c3, hR⟩ | ⟨c3, hR⟩
 ·obtain ⟨x4, x4_e, hR⟩ := bindE hR
  obtain ⟨y5, y5_e, hR⟩ := bindE hR
  have y5_k := fun (bs : List Nat) (l : Heap) => iS bs (H ++ l) F ca0 ca1 ca2 cv0 cv1 cv2 gt gt gt x4 y5 y5_e
  have y5_k0 := fun (bs : List Nat) => iS bs H F ca0 ca1 ca2 cv0 cv1 cv2 gt gt gt x4 y5 y5_e
  try refine zw ?_
  clear y5_k y5_k0
  rcases iteE hR with ⟨c6, hR⟩ | ⟨c6, hR⟩
  ·obtain rfl := someE hR
   refine zu ?_
   exact ⟨_, hq, rfl, sl⟩
  ·obtain ⟨g7, hR⟩ := grdE hR
   have g7_w := af g7
   refine zu ?_
   exact ⟨(s1 + 1), ⟨_, hq, sl, sl, sl, sl⟩, hR.out⟩
 ·obtain rfl := someE hR
  refine zu ?_
  exact ⟨_, hq, rfl⟩
def cZ (F : Nat) (s_ : List (List Int)) (cv0 : Desg) (cv1 : DVisit) (cv2 : Int) : List (List Int) → Nat → Unit → Option (Oc (Nat) (Unit))
 | [], s1, _ => some (.b ())
 | x_ :: r_, s1, _ => ((dg F cv0 cv1 cv2 x_).bind fun y5 => (if y5 = true then some (.a s1) else cZ F s_ cv0 cv1 cv2 r_ (s1 + 1) ()))
theorem im (F : Nat) (s_ : List (List Int)) (cv0 : Desg) (cv1 : DVisit) (cv2 : Int) (hl_ : s_.length ≤ 1000000) : ∀ r_ i_ k_ (o_ : Unit), s_.drop i_ = r_ → r_.length < k_ → bv F s_ cv0 cv1 cv2 k_ i_ = cZ F s_ cv0 cv1 cv2 r_ i_ o_
 | _, _, 0, _, _, hk => absurd hk (Nat.not_lt_zero _)
 | [], i_, k_ + 1, _, hd, _ => by rw [bv, cZ]; simp only [ao hd, Bool.false_eq_true, if_false]
 | x_ :: r_, i_, k_ + 1, _, hd, hk => by
  have ih := im F s_ cv0 cv1 cv2 hl_ r_ (i_ + 1) k_ () (ai hd) (Nat.lt_of_succ_lt_succ hk)
  rw [bv, cZ]; simp only [aF hd, aw hd, if_pos (aG hd hl_), Option.bind_some, if_true, ih]
def fR (F : Nat) (cv0 : Desg) (cv1 : DVisit) (cv2 : Int) (s_ : List (List Int)) : Option (Int) := ((bv F s_ cv0 cv1 cv2 F 0).bind fun o8 => match o8 with | .a o9 => some (o9 : Int) | .b o11 => some (-1))
theorem jj (bs : List Nat) (H : Heap) (F : Nat) (ca0 : Nat) (ca1 : Nat) (ca2 : Nat) (cv0 : Desg) (cv1 : DVisit) (cv2 : Int) (hca0 : H[ca0]? = some (.cells [.str cv0.name, .list (cv0.inputs.map encPort), .list (cv0.elements.map encElem), .list (cv0.nodes.map encNode), .list (cv0.rules.map encRul), .list (cv0.outs.map encOutp), .list (cv0.attrs.map encAttr)])) (hca1 : H[ca1]? = some (.cells [.list (cv1.state.map (V.int .i64)), .int .i64 cv1.prev, .int .i64 cv1.step.inputs, .int .i64 cv1.step.rule])) (hca2 : H[ca2]? = some (.cells [.int .i64 cv2])) (s_ : List (List Int)) (R : Int) (hR0 : fR F cv0 cv1 cv2 s_ = some R) : callw X bs 161 [.list (s_.map encInts), .func 85 [.ptr ca0 0, .ptr ca1 0, .ptr ca2 0]] H = some (.int .i64 R, H) := by
 refine yw2 (rs := [.tmp 4]) (N := 19) (fn := Tryz.f161) C9 MS ?_
 have hca0_l := aa hca0
 have hca0_a := get_app' hca0
 have hca1_l := aa hca1
 have hca1_a := get_app' hca1
 have hca2_l := aa hca2
 have hca2_a := get_app' hca2
 have hR := Kp.mk hR0
 clear hR0
 rw [fR] at hR
 obtain ⟨o8, o8_e, hR⟩ := bindE hR
 refine zu ?_
 refine ac (ah (c := (loopAt Tryz.f161 0)) rfl (mg _ H F ca0 ca1 ca2 cv0 cv1 cv2 hca0 hca1 hca2 s_ _ 0 o8 _ _ ⟨[], by simp, sl, sl, sl, sl⟩ o8_e)) ?_
 rcases o8 with o9 | o11
 ·rintro ex ρ' H' ⟨J10, rfl, rfl, q4_o9⟩ hf
  clear hf
  obtain rfl := someE hR
  exact zv
 ·rintro ex ρ' H' ⟨J12, rfl, rfl⟩ hf
  clear hf
  obtain rfl := someE hR
  exact zv
def fG (F : Nat) (cv0 : Desg) (cv1 : DVisit) (cv2 : Int) (s_ : List (List Int)) : Option (Bool) := ((fR F cv0 cv1 cv2 s_).bind fun y1 => some (decide ((0 : Int) ≤ y1)))
theorem nk (bs : List Nat) (H : Heap) (F : Nat) (ca0 : Nat) (ca1 : Nat) (ca2 : Nat) (cv0 : Desg) (cv1 : DVisit) (cv2 : Int) (hca0 : H[ca0]? = some (.cells [.str cv0.name, .list (cv0.inputs.map encPort), .list (cv0.elements.map encElem), .list (cv0.nodes.map encNode), .list (cv0.rules.map encRul), .list (cv0.outs.map encOutp), .list (cv0.attrs.map encAttr)])) (hca1 : H[ca1]? = some (.cells [.list (cv1.state.map (V.int .i64)), .int .i64 cv1.prev, .int .i64 cv1.step.inputs, .int .i64 cv1.step.rule])) (hca2 : H[ca2]? = some (.cells [.int .i64 cv2])) (s_ : List (List Int)) (R : Bool) (hR0 : fG F cv0 cv1 cv2 s_ = some R) : callw X bs 84 [.list (s_.map encInts), .func 85 [.ptr ca0 0, .ptr ca1 0, .ptr ca2 0]] H = some (.bool R, H) := by
 refine yw2 (rs := [.tmp 4]) (N := 9) (fn := Tryz.f84) xk84 xf84 ?_
 have hca0_l := aa hca0
 have hca0_a := get_app' hca0
 have hca1_l := aa hca1
 have hca1_a := get_app' hca1
 have hca2_l := aa hca2
 have hca2_a := get_app' hca2
 have hR := Kp.mk hR0
 clear hR0
 rw [fG] at hR
 obtain ⟨y1, y1_e, hR⟩ := bindE hR
 have y1_k := fun (bs : List Nat) (l : Heap) => jj bs (H ++ l) F ca0 ca1 ca2 cv0 cv1 cv2 gt gt gt s_ y1 y1_e
 have y1_k0 := fun (bs : List Nat) => jj bs H F ca0 ca1 ca2 cv0 cv1 cv2 gt gt gt s_ y1 y1_e
 obtain rfl := someE hR
 exact zv
def cQ (F : Nat) (cv0 : List (List Int)) (cv1 : Desg) (cv2 : Int) (v : DVisit) : Option (Bool) := ((fG F cv1 v cv2 cv0).bind fun y1 => some y1)
theorem jK (bs : List Nat) (H : Heap) (F : Nat) (ca0 : Nat) (ca1 : Nat) (ca2 : Nat) (cv0 : List (List Int)) (cv1 : Desg) (cv2 : Int) (hca0 : H[ca0]? = some (.cells [.list (cv0.map encInts)])) (hca1 : H[ca1]? = some (.cells [.str cv1.name, .list (cv1.inputs.map encPort), .list (cv1.elements.map encElem), .list (cv1.nodes.map encNode), .list (cv1.rules.map encRul), .list (cv1.outs.map encOutp), .list (cv1.attrs.map encAttr)])) (hca2 : H[ca2]? = some (.cells [.int .i64 cv2])) (v : DVisit) (R : Bool) (hR0 : cQ F cv0 cv1 cv2 v = some R) : callw X bs 83 [(encDVisit v), .ptr ca0 0, .ptr ca1 0, .ptr ca2 0] H = some (.bool R, H) := by
 refine yw2 (rs := [.tmp 5]) (N := 9) (fn := Tryz.f83) xk83 xf83 ?_
 have hca0_l := aa hca0
 have hca0_a := get_app' hca0
 have hca1_l := aa hca1
 have hca1_a := get_app' hca1
 have hca2_l := aa hca2
 have hca2_a := get_app' hca2
 have hR := Kp.mk hR0
 clear hR0
 rw [cQ] at hR
 (try simp only [cellsDStep, cellsDVisit, encDStep, encDVisit, encInts])
 obtain ⟨y1, y1_e, hR⟩ := bindE hR
 have y1_k := fun (bs : List Nat) (J : Heap) => nk bs (H ++ .cells [.list (v.state.map (V.int .i64)), .int .i64 v.prev, .int .i64 v.step.inputs, .int .i64 v.step.rule] :: J) F ca1 H.length ca2 cv1 v cv2 gt gt gt cv0 y1 y1_e
 obtain rfl := someE hR
 exact zv
def bw (F : Nat) (s_ : List DVisit) (cv0 : List (List Int)) (cv1 : Desg) (cv2 : Int) : Nat → Nat → Option (Oc (Nat) (Unit))
 | 0, _ => none
 | k + 1, s1 => (if (decide ((s1 : Int) < (s_.length : Int))) = true then ((s_[s1]?).bind fun x4 => ((cQ F cv0 cv1 cv2 x4).bind fun y5 => (if y5 = true then some (.a s1) else (if inI ((s1 : Int) + 1) then bw F s_ cv0 cv1 cv2 k (s1 + 1) else none)))) else some (.b ()))
theorem mh (bs : List Nat) (H : Heap) (F : Nat) (ca0 : Nat) (ca1 : Nat) (ca2 : Nat) (cv0 : List (List Int)) (cv1 : Desg) (cv2 : Int) (hca0 : H[ca0]? = some (.cells [.list (cv0.map encInts)])) (hca1 : H[ca1]? = some (.cells [.str cv1.name, .list (cv1.inputs.map encPort), .list (cv1.elements.map encElem), .list (cv1.nodes.map encNode), .list (cv1.rules.map encRul), .list (cv1.outs.map encOutp), .list (cv1.attrs.map encAttr)])) (hca2 : H[ca2]? = some (.cells [.int .i64 cv2])) (s_ : List DVisit) : ∀ k s r ρ H', (∃ J2, H' = H ++ J2 ∧ ρ 0 = .list (s_.map encDVisit) ∧ ρ 1 = .func 83 [.ptr ca0 0, .ptr ca1 0, .ptr ca2 0] ∧ ρ 7 = .int .i64 (s_.length : Int) ∧ ρ 8 = .int .i64 (s : Int)) → bw F s_ cv0 cv1 cv2 k s = some r → Lp X ⟨19, H.length :: bs⟩ (loopAt Tryz.f82 0) ρ H' ((fun r ex ρ H' => match r with | .a r => ∃ J2, H' = H ++ J2 ∧ ex = .ret ∧ ρ 4 = .int .i64 (r : Int) | .b r => ∃ J2, H' = H ++ J2 ∧ ex = .exit 0) r) := by
 refine ae (fun _ => rfl) ?_
 rintro k s1 r ρ H' ⟨J2, hH, h0, h1, h7, h8⟩ hR
 skip
 subst hH
 rw [bw] at hR
 have hca0_l := aa hca0
 have hca0_a := get_app' hca0
 have hca1_l := aa hca1
 have hca1_a := get_app' hca1
 have hca2_l := aa hca2
 have hca2_a := get_app' hca2
 conv => arg 3; whnf
 try refine zw ?_
 rcases iteE hR with ⟨c3, hR⟩ | ⟨c3, hR⟩
 ·obtain ⟨x4, x4_e, hR⟩ := bindE hR
  obtain ⟨y5, y5_e, hR⟩ := bindE hR
  have y5_k := fun (bs : List Nat) (l : Heap) => jK bs (H ++ l) F ca0 ca1 ca2 cv0 cv1 cv2 gt gt gt x4 y5 y5_e
  (try simp only [cellsDStep, cellsDVisit, encDStep, encDVisit, encInts] at y5_k)
  have y5_k0 := fun (bs : List Nat) => jK bs H F ca0 ca1 ca2 cv0 cv1 cv2 gt gt gt x4 y5 y5_e
  (try simp only [cellsDStep, cellsDVisit, encDStep, encDVisit, encInts] at y5_k0)
  try refine zw ?_
  clear y5_k y5_k0
  rcases iteE hR with ⟨c6, hR⟩ | ⟨c6, hR⟩
  ·obtain rfl := someE hR
   refine zu ?_
   exact ⟨_, hq, rfl, sl⟩
  ·obtain ⟨g7, hR⟩ := grdE hR
   have g7_w := af g7
   refine zu ?_
   exact ⟨(s1 + 1), ⟨_, hq, sl, sl, sl, sl⟩, hR.out⟩
 ·obtain rfl := someE hR
  refine zu ?_
  exact ⟨_, hq, rfl⟩
def da (F : Nat) (s_ : List DVisit) (cv0 : List (List Int)) (cv1 : Desg) (cv2 : Int) : List DVisit → Nat → Unit → Option (Oc (Nat) (Unit))
 | [], s1, _ => some (.b ())
 | x_ :: r_, s1, _ => ((cQ F cv0 cv1 cv2 x_).bind fun y5 => (if y5 = true then some (.a s1) else da F s_ cv0 cv1 cv2 r_ (s1 + 1) ()))
theorem io (F : Nat) (s_ : List DVisit) (cv0 : List (List Int)) (cv1 : Desg) (cv2 : Int) (hl_ : s_.length ≤ 1000000) : ∀ r_ i_ k_ (o_ : Unit), s_.drop i_ = r_ → r_.length < k_ → bw F s_ cv0 cv1 cv2 k_ i_ = da F s_ cv0 cv1 cv2 r_ i_ o_
 | _, _, 0, _, _, hk => absurd hk (Nat.not_lt_zero _)
 | [], i_, k_ + 1, _, hd, _ => by rw [bw, da]; simp only [ao hd, Bool.false_eq_true, if_false]
 | x_ :: r_, i_, k_ + 1, _, hd, hk => by
  have ih := io F s_ cv0 cv1 cv2 hl_ r_ (i_ + 1) k_ () (ai hd) (Nat.lt_of_succ_lt_succ hk)
  rw [bw, da]; simp only [aF hd, aw hd, if_pos (aG hd hl_), Option.bind_some, if_true, ih]
def fS (F : Nat) (cv0 : List (List Int)) (cv1 : Desg) (cv2 : Int) (s_ : List DVisit) : Option (Int) := ((bw F s_ cv0 cv1 cv2 F 0).bind fun o8 => match o8 with | .a o9 => some (o9 : Int) | .b o11 => some (-1))
theorem nV (bs : List Nat) (H : Heap) (F : Nat) (ca0 : Nat) (ca1 : Nat) (ca2 : Nat) (cv0 : List (List Int)) (cv1 : Desg) (cv2 : Int) (hca0 : H[ca0]? = some (.cells [.list (cv0.map encInts)])) (hca1 : H[ca1]? = some (.cells [.str cv1.name, .list (cv1.inputs.map encPort), .list (cv1.elements.map encElem), .list (cv1.nodes.map encNode), .list (cv1.rules.map encRul), .list (cv1.outs.map encOutp), .list (cv1.attrs.map encAttr)])) (hca2 : H[ca2]? = some (.cells [.int .i64 cv2])) (s_ : List DVisit) (R : Int) (hR0 : fS F cv0 cv1 cv2 s_ = some R) : callw X bs 82 [.list (s_.map encDVisit), .func 83 [.ptr ca0 0, .ptr ca1 0, .ptr ca2 0]] H = some (.int .i64 R, H) := by
 refine yw2 (rs := [.tmp 4]) (N := 19) (fn := Tryz.f82) xk82 xf82 ?_
 have hca0_l := aa hca0
 have hca0_a := get_app' hca0
 have hca1_l := aa hca1
 have hca1_a := get_app' hca1
 have hca2_l := aa hca2
 have hca2_a := get_app' hca2
 have hR := Kp.mk hR0
 clear hR0
 rw [fS] at hR
 obtain ⟨o8, o8_e, hR⟩ := bindE hR
 refine zu ?_
 refine ac (ah (c := (loopAt Tryz.f82 0)) rfl (mh _ H F ca0 ca1 ca2 cv0 cv1 cv2 hca0 hca1 hca2 s_ _ 0 o8 _ _ ⟨[], by simp, sl, sl, sl, sl⟩ o8_e)) ?_
 rcases o8 with o9 | o11
 ·rintro ex ρ' H' ⟨J10, rfl, rfl, q4_o9⟩ hf
  clear hf
  obtain rfl := someE hR
  exact zv
 ·rintro ex ρ' H' ⟨J12, rfl, rfl⟩ hf
  clear hf
  obtain rfl := someE hR
  exact zv
def cR (F : Nat) : Nat → (Nat × Int × (List DStep)) → Option ((List DStep))
 | 0, _ => none
 | k + 1, (s14, s15, s16) => (if (decide ((s14 : Int) < s15)) = true then ((idxI s16 s15).bind fun x19 => ((s16[s14]?).bind fun x20 => ((idxI (s16.set s14 x19) s15).bind fun x23 => (if inI ((s14 : Int) + 1) then (if inI (s15 - 1) then cR F k ((s14 + 1), (s15 - 1), ((s16.set s14 x19).set s15.toNat x20)) else none) else none)))) else some s16)
theorem oN (bs : List Nat) (H : Heap) (F : Nat) (ca0 : Nat) (cv0 : List DStep) (vv0 : Nat) (lv0 : Nat) (hca0 : ca0 < H.length) (hl_ca0 : cv0.length = lv0) : ∀ k s r ρ H', (∃ J17, H' = (H.set ca0 (.arr (s.2.2.map encDStep) vv0)) ++ J17 ∧ ρ 0 = .ref 2 ca0 vv0 0 lv0 ∧ ρ 2 = .int .i64 (s.1 : Int) ∧ ρ 3 = .int .i64 s.2.1 ∧ Kp (s.2.2.length = lv0)) → cR F k s = some r → Lp X ⟨28, H.length :: bs⟩ (loopAt Tryz.f86 0) ρ H' ((fun r ex ρ H' => ∃ J17, H' = (H.set ca0 (.arr (r.map encDStep) vv0)) ++ J17 ∧ ex = .exit 0 ∧ Kp (r.length = lv0)) r) := by
 refine ae (fun _ => rfl) ?_
 rintro k ⟨s14, s15, s16⟩ r ρ H' ⟨J17, hH, h0, h2, h3, hl0⟩ hR
 simp only at hH h0 h2 h3 hl0
 subst hH
 rw [cR] at hR
 have hca0_a := @gp H (h := hca0)
 have hca0_b := @ei H (h := hca0)
 have hca0_s := @fZ H (h := hca0)
 conv => arg 3; whnf
 try refine zw ?_
 rcases iteE hR with ⟨c18, hR⟩ | ⟨c18, hR⟩
 ·obtain ⟨x19, x19_e, hR⟩ := bindE hR
  obtain ⟨x19_p, x19_e⟩ := idxE x19_e
  have x19_l : s15.toNat < lv0 := Nat.lt_of_lt_of_eq (aa x19_e) hl0.out
  obtain ⟨x20, x20_e, hR⟩ := bindE hR
  have x20_l : s14 < lv0 := Nat.lt_of_lt_of_eq (aa x20_e) hl0.out
  have ms22 := (List.map_set (f := encDStep) (l := s16) (i := s14) (a := x19)).symm
  simp only [cellsDStep, encDStep, encInts] at ms22
  obtain ⟨x23, x23_e, hR⟩ := bindE hR
  obtain ⟨x23_p, x23_e⟩ := idxE x23_e
  have x23_l : s15.toNat < lv0 := Nat.lt_of_lt_of_eq (aa x23_e) (List.length_set.trans hl0.out)
  have ms24 := (List.map_set (f := encDStep) (l := (s16.set s14 x19)) (i := s15.toNat) (a := x20)).symm
  simp only [cellsDStep, encDStep, encInts] at ms24
  obtain ⟨g25, hR⟩ := grdE hR
  have g25_w := af g25
  obtain ⟨g26, hR⟩ := grdE hR
  have g26_w := af g26
  try refine zu ?_
  (refine yw0 (id := 3) oz53 ?_)
  try refine zu ?_
  exact ⟨((s14 + 1), (s15 - 1), ((s16.set s14 x19).set s15.toNat x20)), ⟨_, hq, sl, sl, sl, ⟨(List.length_set.trans (List.length_set.trans hl0.out))⟩⟩, hR.out⟩
 ·obtain rfl := someE hR
  refine zu ?_
  exact ⟨_, hq, rfl, ⟨hl0.out⟩⟩
def gi (F : Nat) (cv0 : List DStep) (lv0 : Nat) : Option ((List DStep)) := (if inI ((lv0 : Int) - 1) then ((cR F F (0, ((lv0 : Int) - 1), cv0)).bind fun o28 => some o28) else none)
theorem qQ (bs : List Nat) (H : Heap) (F : Nat) (ca0 : Nat) (cv0 : List DStep) (vv0 : Nat) (lv0 : Nat) (hca0 : ca0 < H.length) (hl_ca0 : cv0.length = lv0) (R : (List DStep)) (hR0 : gi F cv0 lv0 = some R) : callw X bs 86 [.ref 2 ca0 vv0 0 lv0] (H.set ca0 (.arr (cv0.map encDStep) vv0)) = some (.undef, (H.set ca0 (.arr (R.map encDStep) vv0))) := by
 refine yw2 (rs := []) (N := 28) (fn := Tryz.f86) xk86 xf86 ?_
 simp only [List.length_set]
 have hca0_a := @gp H (h := hca0)
 have hca0_b := @ei H (h := hca0)
 have hca0_s := @fZ H (h := hca0)
 have hR := Kp.mk hR0
 clear hR0
 rw [gi] at hR
 obtain ⟨g1, hR⟩ := grdE hR
 have g1_w := af g1
 obtain ⟨o28, o28_e, hR⟩ := bindE hR
 refine zu ?_
 refine ac (ah (c := (loopAt Tryz.f86 0)) rfl (oN _ H F ca0 cv0 vv0 lv0 hca0 hl_ca0 _ (0, ((lv0 : Int) - 1), cv0) o28 _ _ ⟨[], by simp, sl, sl, sl, ⟨hl_ca0⟩⟩ o28_e)) ?_
 rintro ex ρ' H' ⟨J29, rfl, rfl, hl_o28_0⟩ hf
 clear hf
 obtain rfl := someE hR
 refine zu ?_
 all_goals exact Co (fun _ h_ => by cases h_) rfl (by first | exact List.take_left' (by simp only [List.length_set]) | exact List.take_of_length_le (by simp only [List.length_set, Nat.le_refl]) | simp)
def cD (F : Nat) (inputs : List (List Int)) (y1 : Desg × Int) : Nat → (Int × (List DStep) × Nat) → Option ((List DStep) × Nat)
 | 0, _ => none
 | k + 1, (s53, s60, s61) => ((idxI ((searchD y1.1 inputs).1) s53).bind fun x63 => (if (decide ((0 : Int) ≤ x63.prev)) = true then (if (s60.length + 1) ≤ 1000000 then cD F inputs y1 k (x63.prev, (s60 ++ [x63.step]), (s61 + 1)) else none) else some (s60, s61)))
theorem mY (bs : List Nat) (H : Heap) (F : Nat) (inputs : List (List Int)) (y1 : Desg × Int) (a54 : HObj) (a55 : HObj) (a56 : HObj) (a57 : HObj) (a58 : HObj) (a59 : HObj) : ∀ k s r ρ H', (∃ J62, H' = H ++ a54 :: a55 :: a56 :: .tok 0 :: a57 :: a58 :: a59 :: .arr (s.2.1.map encDStep) s.2.2 :: J62 ∧ ρ 10 = .list (((searchD y1.1 inputs).1).map encDVisit) ∧ ρ 11 = .int .i64 s.1 ∧ ρ 12 = .ref 2 (H.length + 7) s.2.2 0 s.2.1.length) → cD F inputs y1 k s = some r → Lp X2 ⟨65, H.length :: bs⟩ (loopAt Tryz.f30 0) ρ H' ((fun r ex ρ H' => ∃ J62, H' = H ++ a54 :: a55 :: a56 :: .tok 0 :: a57 :: a58 :: a59 :: .arr (r.1.map encDStep) r.2 :: J62 ∧ ex = .exit 0 ∧ ρ 12 = .ref 2 (H.length + 7) r.2 0 r.1.length) r) := by
 refine ae (fun _ => rfl) ?_
 rintro k ⟨s53, s60, s61⟩ r ρ H' ⟨J62, hH, h10, h11, h12⟩ hR
 simp only at hH h10 h11 h12
 subst hH
 rw [cD] at hR
 conv => arg 3; whnf
 obtain ⟨x63, x63_e, hR⟩ := bindE hR
 obtain ⟨x63_p, x63_e⟩ := idxE x63_e
 try refine zw ?_
 rcases iteE hR with ⟨c64, hR⟩ | ⟨c64, hR⟩
 ·obtain ⟨g66, hR⟩ := grdE hR
  have g66_r := gZ (n := (s60.length + 1)) (k := 16) g66 (by omega)
  have g66_t := hU encDStep (l := s60) (n := s60.length) rfl
  have g66_u := jS (l := s60) (n := s60.length) rfl
  have g66_m := (List.map_append (f := encDStep) (l₁ := s60) (l₂ := [x63.step])).symm
  simp only [cellsDStep, encDStep, encInts, List.map_cons, List.map_nil] at g66_m
  refine zu ?_
  exact ⟨(x63.prev, (s60 ++ [x63.step]), (s61 + 1)), ⟨_, hq, sl, sl, sl⟩, hR.out⟩
 ·obtain rfl := someE hR
  refine zu ?_
  exact ⟨_, hq, rfl, sl⟩
def fN (F : Nat) (d : Desg) (inputs : List (List Int)) (node : Int) : Option ((List DStep) × Int) := ((fz F d inputs).bind fun y1 => ((aY F d node).bind fun y2 => (if y2 = true then (if (decide (¬y1.2 = 0)) = true then some ([], y1.2) else (if OkD y1.1 then (if inputs.length ≤ 1000000 then (if ∀ l ∈ inputs, LeafOk (inWs y1.1) l then (if (decide (¬(searchD y1.1 inputs).2 = 0)) = true then some ([], 16) else ((fS F inputs y1.1 node ((searchD y1.1 inputs).1)).bind fun y10 => (if (decide (y10 < 0)) = true then some ([], 12) else ((idxI ((searchD y1.1 inputs).1) y10).bind fun x22 => (if (decide ((0 : Int) ≤ x22.prev)) = true then ((cD F inputs y1 F (x22.prev, [x22.step], 0)).bind fun o69 => ((gi F o69.1 o69.1.length).bind fun y71 => (if y71.length = o69.1.length then some (y71, 0) else none))) else some ([], 0)))))) else none) else none) else none)) else (if (decide (¬y1.2 = 0)) = true then some ([], y1.2) else some ([], 9)))))
theorem qh (bs : List Nat) (H : Heap) (F : Nat) (d : Desg) (inputs : List (List Int)) (node : Int) (R : (List DStep) × Int) (hR0 : fN F d inputs node = some R) : callw X2 bs 30 [(encDesg d), .list (inputs.map encInts), .int .i64 node] H = some (.tuple [.list (R.1.map encDStep), .int .i64 R.2], H) := by
 refine yw2 (rs := [.tmp 6, .tmp 7]) (N := 65) (fn := Tryz.f30) xk30 xf30 ?_
 have hR := Kp.mk hR0
 clear hR0
 rw [fN] at hR
 (try simp only [cellsDesg, encDesg, encInts])
 obtain ⟨y1, y1_e, hR⟩ := bindE hR
 have y1_k := fun bs H => ab (pK bs H F d inputs y1 y1_e)
 (try simp only [cellsDesg, encDesg, encInts] at y1_k)
 obtain ⟨y2, y2_e, hR⟩ := bindE hR
 have y2_k := fun bs H => ab (fl bs H F d node y2 y2_e)
 (try simp only [cellsDesg, encDesg, encInts] at y2_k)
 rcases iteE hR with ⟨c3, hR⟩ | ⟨c3, hR⟩
 ·rcases iteE hR with ⟨c4, hR⟩ | ⟨c4, hR⟩
  ·have c4_p := of_decide_eq_true c4
   obtain rfl := someE hR
   exact zv
  ·have c4_p := Decidable.not_not.1 (of_decide_eq_false c4)
   obtain ⟨g5, hR⟩ := grdE hR
   obtain ⟨g6, hR⟩ := grdE hR
   obtain ⟨g7, hR⟩ := grdE hR
   rcases iteE hR with ⟨c9, hR⟩ | ⟨c9, hR⟩
   ·have c8_k := fun bs H => F2 bs H y1.1 inputs g5 g6 g7 (of_decide_eq_true c9)
    (try simp only [cellsDStep, cellsDVisit, cellsDesg, encDStep, encDVisit, encDesg, encInts] at c8_k)
    obtain rfl := someE hR
    exact zv
   ·have c8_k := fun bs H => F3 bs H y1.1 inputs g5 g6 g7 (Decidable.not_not.1 (of_decide_eq_false c9))
    (try simp only [cellsDStep, cellsDVisit, cellsDesg, encDStep, encDVisit, encDesg, encInts] at c8_k)
    obtain ⟨y10, y10_e, hR⟩ := bindE hR
    have y10_k := fun (bs : List Nat) (u0 u1 : HObj) (J : Heap) => ab (nV bs (H ++ u0 :: .cells [.list (inputs.map encInts)] :: .cells [.int .i64 node] :: u1 :: .cells [.str y1.1.name, .list (y1.1.inputs.map encPort), .list (y1.1.elements.map encElem), .list (y1.1.nodes.map encNode), .list (y1.1.rules.map encRul), .list (y1.1.outs.map encOutp), .list (y1.1.attrs.map encAttr)] :: J) F (H.length + 1) (H.length + 4) (H.length + 2) inputs y1.1 node gt gt gt ((searchD y1.1 inputs).1) y10 y10_e)
    try refine zw ?_
    clear y1_k y2_k c8_k y10_k
    rcases iteE hR with ⟨c11, hR⟩ | ⟨c11, hR⟩
    ·obtain rfl := someE hR
     exact zv
    ·refine zu ?_
     refine di ?_
     obtain ⟨x22, x22_e, hR⟩ := bindE hR
     obtain ⟨x22_p, x22_e⟩ := idxE x22_e
     try refine zw ?_
     rcases iteE hR with ⟨c23, hR⟩ | ⟨c23, hR⟩
     ·have rm16 : 16 ≤ roomB := by unfold roomB; omega
      obtain ⟨o69, o69_e, hR⟩ := bindE hR
      refine zu ?_
      refine ac (ah (c := (loopAt Tryz.f30 0)) rfl (mY _ H F inputs y1 _ _ _ _ _ _ _ (x22.prev, [x22.step], 0) o69 _ _ ⟨_, hq, sl, sl, sl⟩ o69_e)) ?_
      rintro ex ρ' H' ⟨J70, rfl, rfl, q12_o69⟩ hf
      clear hf
      obtain ⟨y71, y71_e, hR⟩ := bindE hR
      have y71_k := fun (bs : List Nat) (u0 u1 u2 u3 u4 u5 u6 : HObj) (J : Heap) => by
       have h_ := ab (qQ bs (H ++ u0 :: u1 :: u2 :: u3 :: u4 :: u5 :: u6 :: .arr (o69.1.map encDStep) o69.2 :: J) F (H.length + 7) o69.1 o69.2 o69.1.length ln rfl y71 y71_e)
       (try simp only [aA, an, aX, aQ, aR, aD, List.set_cons_succ, List.set_cons_zero, List.set_set, ak] at h_)
       exact h_
      obtain ⟨g72, hR⟩ := grdE hR
      obtain rfl := someE hR
      have rt0 := hU encDStep (l := y71) (n := o69.1.length) g72
      have rt1 := jS (l := y71) (n := o69.1.length) g72
      exact zv
     ·have rv73_k := fun bs H_ => ab (Hy bs H_ ((H.length + 5)))
      obtain rfl := someE hR
      exact zv
 ·rcases iteE hR with ⟨c74, hR⟩ | ⟨c74, hR⟩
  ·have c74_p := of_decide_eq_true c74
   obtain rfl := someE hR
   exact zv
  ·have c74_p := Decidable.not_not.1 (of_decide_eq_false c74)
   obtain rfl := someE hR
   exact zv
end
end Go.E
namespace Go.E
open Classical
def idxO {α : Type} (p : α → Bool) : Nat → List α → Oc Nat Unit
 | _, [] => .b ()
 | i, x :: r => if p x = true then .a i else idxO p (i + 1) r
theorem AQ {α : Type} (p : α → Bool) : ∀ (l : List α) (i j : Nat), idxO p i l = .a j → i ≤ j ∧ ∃ x, l[j - i]? = some x ∧ p x = true
 | [], i, j, h => by cases h
 | x :: r, i, j, h => by
  unfold idxO at h
  by_cases hp : p x = true
  ·rw [if_pos hp] at h; cases h; exact ⟨Nat.le_refl _, x, by simp, hp⟩
  ·rw [if_neg hp] at h
   obtain ⟨h1, y, h2, h3⟩ := AQ p r (i + 1) j h
   refine ⟨by omega, y, ?_, h3⟩
   rw [show j - i = (j - (i + 1)) + 1 by omega]; simpa using h2
theorem wJ {α : Type} (p : α → Bool) : ∀ (l : List α) (i : Nat), (match idxO p i l with | .a _ => true | .b _ => false) = l.any p
 | [], i => rfl
 | x :: r, i => by
  unfold idxO
  rw [List.any_cons]
  by_cases hp : p x = true
  ·simp [hp]
  ·rw [if_neg hp, wJ p r (i + 1)]; simp [hp]
theorem sC {α : Type} {L : List α → Nat → Unit → Option (Oc Nat Unit)} (f : α → Option Bool) (g : α → Bool) (h0 : ∀ i s, L [] i s = some (.b ()))
  (h1 : ∀ x r i s, L (x :: r) i s = (f x).bind fun y => if y = true then some (.a i) else L r (i + 1) ()) : ∀ (r : List α) (i : Nat), (∀ x ∈ r, f x = some (g x)) → L r i () = some (idxO g i r)
 | [], i, _ => h0 i ()
 | x :: r, i, hf => by
  rw [h1, hf x (by simp), Option.bind_some, idxO, sC f g h0 h1 r (i + 1) (fun y hy => hf y (by simp [hy]))]
  cases g x <;> simp
def OrdV (l : List DVisit) : Prop := ∀ (j : Nat) v, l[j]? = some v → -1 ≤ v.prev ∧ v.prev < (j : Int)
theorem pL (i : Nat) : ∀ {xs : List (DStep × List Int)} {l l' : List DVisit}, i < l.length → OrdV l → reachR i xs l = some (.a l') → OrdV l' ∧ l.length ≤ l'.length
 | [], l, l', _, hv, h => by cases h; exact ⟨hv, Nat.le_refl _⟩
 | x :: xs, l, l', hi, hv, h => by
  unfold reachR at h
  split at h
  ·exact pL i hi hv h
  ·split at h
   ·cases h
   ·have := pL i (l := l ++ [⟨x.2, (i : Int), x.1⟩]) (by simp; omega) (fun j v hj => by
     rcases Nat.lt_or_ge j l.length with h1 | h1
     ·rw [List.getElem?_append_left h1] at hj; exact hv j v hj
     ·rw [List.getElem?_append_right h1] at hj
      rcases hq : j - l.length with _ | q
      ·rw [hq] at hj; cases hj; simp only; omega
      ·rw [hq] at hj; simp at hj) h
    exact ⟨this.1, by have h5 := this.2; simp at h5; omega⟩
theorem tB {d : Desg} {inputs : List (List Int)} (P : List DVisit → Prop) (hstep : ∀ i v l l', l[i]? = some v → P l → reachR i (stepsFrom d v.state inputs 0) l = some (.a l') → P l') :
  ∀ k i l l', P l → reachF d inputs k (i, l) = some (.a l') → P l'
 | 0, i, l, l', _, h => by cases h
 | k + 1, i, l, l', hp, h => by
  unfold reachF at h
  split at h
  ·cases h; exact hp
  ·rename_i v hvi
   obtain ⟨o, ho, h⟩ := Option.bind_eq_some_iff.1 h
   cases o with
   | b u => cases h
   | a l2 => exact tB P hstep k (i + 1) l2 l' (hstep i v l l2 hvi hp ho) h
theorem AR {d : Desg} (h : OkD d) {inputs : List (List Int)} (hi : ∀ x ∈ inputs, LeafOk (inWs d) x) (he : (searchD d inputs).2 = 0) : VisOk d (searchD d inputs).1 ∧ OrdV (searchD d inputs).1 ∧ reachF d inputs 302 (0, startD d) = some (.a (searchD d inputs).1) := by
 obtain ⟨o, ho⟩ := kM h hi 302 0 (startD d) (mT h) (by omega) (by omega)
 cases o with
 | b u =>
  have : searchD d inputs = ([], 16) := by unfold searchD; rw [ho]
  rw [this] at he; exact absurd he (by decide)
 | a l =>
  have e : searchD d inputs = (l, 0) := by unfold searchD; rw [ho]
  rw [e]
  have := tB (fun l => VisOk d l ∧ OrdV l) (fun i v l l' hv hp hr => ⟨(kX i (ka h (hp.1.st v (List.mem_of_getElem? hv)) inputs 0 hi) hp.1 hr).1, (pL i (aa hv) hp.2 hr).1⟩) 302 0 (startD d) l
   ⟨mT h, fun j v hj => by
    rcases j with _ | j
    ·cases hj; simp only; omega
    ·simp [startD] at hj⟩ ho
  exact ⟨this.1, this.2, ho⟩
def trail (l : List DVisit) : Nat → Int → List DStep
 | 0, _ => []
 | k + 1, i => match l[i.toNat]? with
  | some v => if 0 ≤ v.prev then v.step :: trail l k v.prev else []
  | none => []
theorem pM {l : List DVisit} (ho : OrdV l) : ∀ (k m i : Nat), i < k → i < m → trail l k i = trail l m i
 | 0, m, i, h, _ => by omega
 | k + 1, 0, i, _, h => by omega
 | k + 1, m + 1, i, h1, h2 => by
  unfold trail
  rw [Int.toNat_natCast]
  cases hv : l[i]? with
  | none => rfl
  | some v =>
   have := ho i v hv
   simp only
   by_cases hp : 0 ≤ v.prev
   ·rw [if_pos hp, if_pos hp]
    have e : v.prev = (v.prev.toNat : Int) := by omega
    rw [e, pM ho k m v.prev.toNat (by omega) (by omega)]
   ·rw [if_neg hp, if_neg hp]
theorem uV (l : List DVisit) : ∀ k i, (trail l k i).length ≤ k
 | 0, i => by simp [trail]
 | k + 1, i => by
  unfold trail
  split
  ·split
   ·have := uV l k (by assumption : DVisit).prev; simp; omega
   ·simp
  ·simp
variable {F : Nat} (hF : 1000000 < F)
theorem wK {α : Type} (l : List α) (i : Nat) (h : i < l.length) : l.reverse[i]? = l[l.length - 1 - i]? := by rw [List.getElem?_reverse h]
def revAt {α : Type} (l : List α) (i : Nat) : List α := l.reverse.take i ++ (l.drop i).take (l.length - 2 * i) ++ (l.reverse).drop (l.length - i)
theorem lk {α : Type} (l : List α) (i j : Nat) (hi : 2 * i ≤ l.length) (hi2 : i ≤ l.length) (hj : j < l.length) : (revAt l i)[j]? = if j < i ∨ l.length - i ≤ j then l.reverse[j]? else l[j]? := by
 unfold revAt
 rw [List.append_assoc]
 rcases Nat.lt_or_ge j i with h1 | h1
 ·rw [List.getElem?_append_left (by simp; omega), List.getElem?_take_of_lt h1, if_pos (.inl h1)]
 ·rw [List.getElem?_append_right (by simp; omega)]
  simp only [List.length_take, List.length_reverse]
  rw [Nat.min_eq_left hi2]
  rcases Nat.lt_or_ge j (l.length - i) with h2 | h2
  ·rw [if_neg (by omega), List.getElem?_append_left (by simp; omega), List.getElem?_take_of_lt (by omega), List.getElem?_drop]
   congr 1; omega
  ·rw [if_pos (.inr h2), List.getElem?_append_right (by simp; omega)]
   simp only [List.length_take, List.length_drop, List.getElem?_drop]
   congr 1; omega
theorem nJ {α : Type} (l : List α) (i : Nat) (hi : 2 * i ≤ l.length) (hi2 : i ≤ l.length) : (revAt l i).length = l.length := by
 unfold revAt; simp; omega
theorem F6 {α : Type} (l : List α) : revAt l 0 = l := by simp [revAt]
theorem AS {α : Type} (l : List α) (i : Nat) (h1 : l.length ≤ 2 * i + 1) (hi : 2 * i ≤ l.length) (hi2 : i ≤ l.length) : revAt l i = l.reverse := by
 refine List.ext_getElem? fun j => ?_
 rcases Nat.lt_or_ge j l.length with hj | hj
 ·rw [lk l i j hi hi2 hj]
  split
  ·rfl
  ·rw [wK l j hj]; congr 1; omega
 ·rw [List.getElem?_eq_none (by rw [nJ l i hi hi2]; exact hj), List.getElem?_eq_none (by simpa using hj)]
theorem zh {α : Type} (l : List α) (i : Nat) (x y : α) (h : 2 * i + 1 < l.length) (hx : l[i]? = some x) (hy : l[l.length - 1 - i]? = some y) :
  ((revAt l i).set i y).set (l.length - 1 - i) x = revAt l (i + 1) := by
 refine List.ext_getElem? fun j => ?_
 have hl := nJ l i (by omega) (by omega)
 rcases Nat.lt_or_ge j l.length with hj | hj
 ·rw [lk l (i + 1) j (by omega) (by omega) hj]
  by_cases e1 : l.length - 1 - i = j
  ·subst e1
   rw [List.getElem?_set_self (by simp [hl]; omega), if_pos (.inr (by omega)), wK l _ hj, show l.length - 1 - (l.length - 1 - i) = i by omega, hx]
  ·rw [List.getElem?_set_ne e1]
   by_cases e2 : i = j
   ·subst e2
    rw [List.getElem?_set_self (by rw [hl]; omega), if_pos (.inl (by omega)), wK l _ hj, hy]
   ·rw [List.getElem?_set_ne e2, lk l i j (by omega) (by omega) hj]
    by_cases c : j < i ∨ l.length - i ≤ j
    ·rw [if_pos c, if_pos (by omega)]
    ·rw [if_neg c, if_neg (by omega)]
 ·rw [List.getElem?_eq_none (by simp [hl]; exact hj), List.getElem?_eq_none (by rw [nJ l _ (by omega) (by omega)]; exact hj)]
theorem wL {α : Type} {L : Nat → (Nat × Int × List α) → Option (List α)} (l : List α) (hl : l.length ≤ 1000000)
  (step : ∀ k (i : Nat) (j : Int) (s : List α), (i : Int) < j → L (k + 1) (i, j, s) = (idxI s j).bind fun x => (s[i]?).bind fun y => (idxI (s.set i x) j).bind fun _ => if inI ((i : Int) + 1) then (if inI (j - 1) then L k (i + 1, j - 1, (s.set i x).set j.toNat y) else none) else none)
  (last : ∀ k (i : Nat) (j : Int) (s : List α), ¬(i : Int) < j → L (k + 1) (i, j, s) = some s) :
  ∀ (n i k : Nat), l.length ≤ 2 * i + n → 2 * i ≤ l.length → i ≤ l.length → n < k → L k (i, (l.length : Int) - 1 - i, revAt l i) = some l.reverse
 | n, i, 0, _, _, _, h => by omega
 | n, i, k + 1, h1, h2, h3, h4 => by
  by_cases hlt : (i : Int) < (l.length : Int) - 1 - i
  ·have hi : i < l.length := by omega
   have hj : l.length - 1 - i < l.length := by omega
   have en : ((l.length : Int) - 1 - i).toNat = l.length - 1 - i := by omega
   have hx : l[i]? = some l[i] := bu hi
   have hy : l[l.length - 1 - i]? = some l[l.length - 1 - i] := bu hj
   have a1 : idxI (revAt l i) ((l.length : Int) - 1 - i) = some l[l.length - 1 - i] := by
    unfold idxI; rw [if_pos (by omega), en, lk l i _ h2 h3 hj, if_neg (by omega), hy]
   have a2 : (revAt l i)[i]? = some l[i] := by rw [lk l i _ h2 h3 hi, if_neg (by omega), hx]
   have a3 : ∃ z, idxI ((revAt l i).set i l[l.length - 1 - i]) ((l.length : Int) - 1 - i) = some z := by
    obtain ⟨z, hz, _⟩ := kT (l := (revAt l i).set i l[l.length - 1 - i]) (i := (l.length : Int) - 1 - i) (by omega) (by simp [nJ l i h2 h3]; omega)
    exact ⟨z, hz⟩
   obtain ⟨z, a3⟩ := a3
   rw [step k i _ _ hlt, a1, Option.bind_some, a2, Option.bind_some, a3, Option.bind_some, if_pos (in_1 (by omega)), if_pos (by unfold inI; omega), en, zh l i _ _ (by omega) hx hy]
   have := wL l hl step last (n - 2) (i + 1) k (by omega) (by omega) (by omega) (by omega)
   rwa [show (l.length : Int) - 1 - (i + 1 : Nat) = (l.length : Int) - 1 - i - 1 by omega] at this
  ·rw [last k i _ _ hlt, AS l i (by omega) h2 h3]
include hF in
theorem AT (l : List DStep) (hl : l.length ≤ 1000000) : gi F l l.length = some l.reverse := by
 unfold gi
 have := wL (L := cR F) l hl (fun k i j s h => by rw [cR, if_pos (decide_eq_true h)]) (fun k i j s h => by rw [cR, if_neg (by simpa using h)]) l.length 0 F (by omega) (by omega) (by omega) (by omega)
 rw [F6, show (l.length : Int) - 1 - (0 : Nat) = (l.length : Int) - 1 by omega] at this
 rw [if_pos (in_m (by omega)), this]; rfl
def listsErrR (d : Desg) (inputs : List (List Int)) : Int := if (designErrR d).2 = 0 then (if inputs.length = 0 then 10 else if 16 < inputs.length then 8 else (eachP (fun _ l => valErrS (inWs d) l) 0 inputs).2) else (designErrR d).2
include hF in
theorem xI {d : Desg} (h : FewD d) (inputs : List (List Int)) (hl : inputs.length ≤ 1000000) (hi : ∀ l ∈ inputs, l.length ≤ 1000000) : fz F d inputs = some (d, listsErrR d inputs) := by
 unfold fz listsErrR
 rw [oK hF h, Option.bind_some]
 by_cases he : (designErrR d).2 = 0
 case neg => rw [if_pos (by simpa using he), if_neg he]
 have ok : OkD d := ⟨h, he⟩
 have e := ji F inputs d hl inputs 0 F () rfl (by omega)
 have k := kU (L := eA F inputs d) (fun i n => dE F d (i : Int) n) (fun _ l => valErrS (inWs d) l) (fun i s => rfl) (fun x r i s => rfl) inputs 0 (fun j x hj => by
  unfold dE
  rw [rj hF ok x (hi x (List.mem_of_getElem? hj))]; rfl)
 have k2 : gh F d inputs = some (eachP (fun _ l => valErrS (inWs d) l) 0 inputs) := by
  unfold gh
  rw [e, k, ← nD]
  generalize ocP _ 0 inputs = o
  cases o <;> rfl
 rw [if_neg (by simp [he]), if_pos he, k2, Option.bind_some]
 by_cases h0 : inputs.length = 0
 ·rw [if_neg (by simp [h0]), if_pos h0]; simp [h0]
 rw [if_pos (decide_eq_true (by omega)), if_neg h0]
 by_cases h1 : 16 < inputs.length
 ·rw [if_neg (by simp; omega), if_pos h1]
 rw [if_pos (decide_eq_true (by omega)), if_neg h1]
 by_cases h2 : (eachP (fun _ l => valErrS (inWs d) l) 0 inputs).2 = 0
 ·rw [if_neg (by simp [h2]), h2]
 ·rw [if_pos (by simpa using h2)]
theorem Ch {d : Desg} (h : FewD d) {inputs : List (List Int)} (he : listsErrR d inputs = 0) : OkD d ∧ 0 < inputs.length ∧ inputs.length ≤ 16 ∧ ∀ l ∈ inputs, LeafOk (inWs d) l := by
 unfold listsErrR at he
 split at he
 case isFalse h1 => exact absurd he h1
 rename_i h1
 have ok : OkD d := ⟨h, h1⟩
 split at he
 ·omega
 split at he
 ·omega
 exact ⟨ok, by omega, by omega, fun l hl => (aT ok.inW).1 (nF (fun l => valErrS (inWs d) l) inputs he l hl)⟩
def brokenV (d : Desg) (inputs : List (List Int)) (node : Int) (s : List Int) : Bool := inputs.any fun x => decide (at0 (valsD d x s) node.toNat = 0)
def brokenByR (d : Desg) (inputs : List (List Int)) (node : Int) : List DStep × Int :=
 if listsErrR d inputs = 0 then
  if condL d.nodes node = true then
   if (searchD d inputs).2 = 0 then
    match idxO (fun v => brokenV d inputs node v.state) 0 (searchD d inputs).1 with
    | .a i => ((trail (searchD d inputs).1 (i + 1) i).reverse, 0)
    | .b _ => ([], 12)
   else ([], 16)
  else ([], 9)
 else ([], listsErrR d inputs)
include hF in
theorem AU {d : Desg} (ok : OkD d) {inputs : List (List Int)} (hi : ∀ l ∈ inputs, LeafOk (inWs d) l) (hl : inputs.length ≤ 1000) {node : Int} (hn : condL d.nodes node = true) {v : DVisit} (hv : LeafOk (elWs d) v.state) :
  cQ F inputs d node v = some (brokenV d inputs node v.state) := by
 unfold cQ fG fR
 have e := im F inputs d v node (by omega) inputs 0 F () rfl (by omega)
 have k := sC (L := cZ F inputs d v node) (fun x => dg F d v node x) (fun x => decide (at0 (valsD d x v.state) node.toNat = 0)) (fun _ _ => rfl) (fun _ _ _ _ => rfl) inputs 0 (fun x hx => by
  unfold dg
  rw [jH hF ok (hi x hx) hv, Option.bind_some, (jG (nH hn) (gB d x v.state)).1]; rfl)
 rw [e, k, brokenV, ← wJ _ inputs 0]
 cases idxO _ 0 inputs <;> simp
theorem tC {d : Desg} {inputs : List (List Int)} (e : Int) (ho : OrdV (searchD d inputs).1) (hl : (searchD d inputs).1.length ≤ 1000) : ∀ (k i : Nat) (acc : List DStep) (ver : Nat), i < k → i < (searchD d inputs).1.length → acc.length + i ≤ 10000 →
  ∃ v2, cD F inputs (d, e) k ((i : Int), acc, ver) = some (acc ++ trail (searchD d inputs).1 (i + 1) i, v2)
 | 0, i, acc, ver, h, _, _ => by omega
 | k + 1, i, acc, ver, h, hi, ha => by
  rw [cD, trail]
  simp only [iC, Int.toNat_natCast]
  have hg := bu hi
  have hp := ho i _ hg
  rw [hg, Option.bind_some]
  by_cases h0 : 0 ≤ (searchD d inputs).1[i].prev
  ·rw [if_pos (decide_eq_true h0), if_pos (by omega)]
   simp only [if_pos h0]
   have e1 : (searchD d inputs).1[i].prev = ((searchD d inputs).1[i].prev.toNat : Int) := by omega
   obtain ⟨v2, h2⟩ := tC e ho hl k (searchD d inputs).1[i].prev.toNat (acc ++ [(searchD d inputs).1[i].step]) (ver + 1) (by omega) (by omega) (by simp; omega)
   refine ⟨v2, ?_⟩
   rw [← e1] at h2
   rw [h2, List.append_assoc]
   have := pM ho i ((searchD d inputs).1[i].prev.toNat + 1) (searchD d inputs).1[i].prev.toNat (by omega) (by omega)
   rw [← e1] at this
   rw [this]; rfl
  ·rw [if_neg (by simpa using h0)]
   simp only [if_neg h0, List.append_nil]
   exact ⟨ver, rfl⟩
include hF in
theorem zi {d : Desg} (h : FewD d) (inputs : List (List Int)) (node : Int) (hl : inputs.length ≤ 1000) (hi : ∀ l ∈ inputs, l.length ≤ 1000000) : fN F d inputs node = some (brokenByR d inputs node) := by
 unfold fN brokenByR
 rw [xI hF h inputs (by omega) hi, Option.bind_some]
 have hc : aY F d node = some (condL d.nodes node) := qC d node h.nodes
 rw [hc, Option.bind_some]
 by_cases he : listsErrR d inputs = 0
 case neg =>
  rw [if_neg he]
  cases condL d.nodes node
  ·rw [if_neg (by simp), if_pos (by simpa using he)]
  ·rw [if_pos rfl, if_pos (by simpa using he)]
 obtain ⟨ok, h1, h2, h3⟩ := Ch h he
 rw [if_pos he]
 rcases bb (condL d.nodes node) with hn | hn
 case inr => rw [hn, if_neg (by simp), if_neg (by simp [he]), if_neg (by simp)]
 rw [hn, if_pos rfl, if_neg (by simp [he]), if_pos rfl, if_pos ok, if_pos (by omega), if_pos h3]
 by_cases hs : (searchD d inputs).2 = 0
 case neg => rw [if_pos (by simpa using hs), if_neg hs]
 rw [if_neg (by simp [hs]), if_pos hs]
 obtain ⟨hv, ho, _⟩ := AR ok h3 hs
 have hlen := hv.len
 have e := io F (searchD d inputs).1 inputs d node (by omega) (searchD d inputs).1 0 F () rfl (by omega)
 have k := sC (L := da F (searchD d inputs).1 inputs d node) (fun v => cQ F inputs d node v) (fun v => brokenV d inputs node v.state) (fun _ _ => rfl) (fun _ _ _ _ => rfl) (searchD d inputs).1 0 (fun v hm => AU hF ok h3 hl hn (hv.st v hm))
 unfold fS
 rw [e, k, Option.bind_some]
 cases hx : idxO (fun v => brokenV d inputs node v.state) 0 (searchD d inputs).1 with
 | b u => rfl
 | a i =>
  obtain ⟨_, v, hvi, hb⟩ := AQ _ _ _ _ hx
  rw [Nat.sub_zero] at hvi
  have hlt := aa hvi
  simp only [Option.bind_some]
  rw [if_neg (by simp), iC, hvi, Option.bind_some]
  have hp := ho i v hvi
  by_cases h0 : 0 ≤ v.prev
  ·have e1 : v.prev = (v.prev.toNat : Int) := by omega
   obtain ⟨v2, h2⟩ := tC (F := F) (listsErrR d inputs) ho (by omega) F v.prev.toNat [v.step] 0 (by omega) (by omega) (by simp; omega)
   rw [← e1] at h2
   have htr : trail (searchD d inputs).1 (i + 1) i = [v.step] ++ trail (searchD d inputs).1 (v.prev.toNat + 1) v.prev := by
    rw [trail, Int.toNat_natCast, hvi]
    simp only [if_pos h0]
    have := pM ho i (v.prev.toNat + 1) v.prev.toNat (by omega) (by omega)
    rw [← e1] at this
    rw [this]; rfl
   rw [if_pos (decide_eq_true h0), h2, Option.bind_some, ← htr]
   have hle := uV (searchD d inputs).1 (i + 1) i
   simp only
   rw [AT hF _ (by omega), Option.bind_some, if_pos (by simp)]
  ·rw [if_neg (by simpa using h0), trail, Int.toNat_natCast, hvi]
   simp [h0]
end Go.E
set_option linter.all false
namespace Go.E
open Go.Proofs Classical
set_option maxRecDepth 100000
set_option maxHeartbeats 1000000
noncomputable section
def dT (F : Nat) (d : Desg) (rules : List Int) (inputs : List Int) : Nat → ((List Int) × (List (List Int)) × Nat) → Option (Oc ((List (List Int)) × Nat) ((List (List Int))))
 | 0, _ => none
 | k + 1, (s14, s15, s16) => (if (decide ((s16 : Int) < (rules.length : Int))) = true then ((rules[s16]?).bind fun x19 => ((aH F d x19 inputs s14).bind fun y20 => (if y20 = true then ((aB F d x19 inputs s14).bind fun y23 => (if (s15.length + 1) ≤ 1000000 then (if inI ((s16 : Int) + 1) then dT F d rules inputs k (y23, (s15 ++ [y23]), (s16 + 1)) else none) else none)) else some (.a (s15, s16))))) else some (.b s15))
theorem ry (bs : List Nat) (H : Heap) (F : Nat) (d : Desg) (rules : List Int) (inputs : List Int) : ∀ k s r ρ H', (∃ J17, H' = H ++ .cells [.str d.name, .list (d.inputs.map encPort), .list (d.elements.map encElem), .list (d.nodes.map encNode), .list (d.rules.map encRul), .list (d.outs.map encOutp), .list (d.attrs.map encAttr)] :: .tok 0 :: .tok s.2.1.length :: J17 ∧ ρ 1 = .list (rules.map (V.int .i64)) ∧ ρ 2 = .list (inputs.map (V.int .i64)) ∧ ρ 4 = .ptr H.length 0 ∧ ρ 10 = .list (s.1.map (V.int .i64)) ∧ ρ 11 = .tl (H.length + 2) (s.2.1.map encInts) ∧ ρ 12 = .int .i64 (s.2.2 : Int)) → dT F d rules inputs k s = some r → Lp X ⟨50, H.length :: bs⟩ (loopAt Tryz.f23 0) ρ H' ((fun r ex ρ H' => match r with | .a r => ∃ J17, H' = H ++ .cells [.str d.name, .list (d.inputs.map encPort), .list (d.elements.map encElem), .list (d.nodes.map encNode), .list (d.rules.map encRul), .list (d.outs.map encOutp), .list (d.attrs.map encAttr)] :: .tok 0 :: .tok r.1.length :: J17 ∧ ex = .ret ∧ ρ 8 = .tl (H.length + 2) (r.1.map encInts) ∧ ρ 9 = .int .i64 (r.2 : Int) | .b r => ∃ J17, H' = H ++ .cells [.str d.name, .list (d.inputs.map encPort), .list (d.elements.map encElem), .list (d.nodes.map encNode), .list (d.rules.map encRul), .list (d.outs.map encOutp), .list (d.attrs.map encAttr)] :: .tok 0 :: .tok r.length :: J17 ∧ ex = .exit 0 ∧ ρ 11 = .tl (H.length + 2) (r.map encInts)) r) := by
 refine ae (fun _ => rfl) ?_
 rintro k ⟨s14, s15, s16⟩ r ρ H' ⟨J17, hH, h1, h2, h4, h10, h11, h12⟩ hR
 simp only at hH h1 h2 h4 h10 h11 h12
 subst hH
 rw [dT] at hR
 conv => arg 3; whnf
 try refine zw ?_
 rcases iteE hR with ⟨c18, hR⟩ | ⟨c18, hR⟩
 ·obtain ⟨x19, x19_e, hR⟩ := bindE hR
  obtain ⟨y20, y20_e, hR⟩ := bindE hR
  have y20_k := fun bs H => cH bs H F d x19 inputs s14 y20 y20_e
  (try simp only [cellsDesg, encDesg, encInts] at y20_k)
  try refine zu ?_
  (refine yw0 (id := 6) oz1 ?_)
  try refine zw ?_
  clear y20_k
  rcases iteE hR with ⟨c21, hR⟩ | ⟨c21, hR⟩
  ·obtain ⟨y23, y23_e, hR⟩ := bindE hR
   have y23_k := fun bs H => dp bs H F d x19 inputs s14 y23 y23_e
   (try simp only [cellsDesg, encDesg, encInts] at y23_k)
   obtain ⟨g24, hR⟩ := grdE hR
   have g24_r := gZ (n := (s15.length + 1)) (k := 24) g24 (by omega)
   obtain ⟨g25, hR⟩ := grdE hR
   have g25_w := af g25
   try refine zu ?_
   (refine yw0 (id := 8) oz1 ?_)
   try refine zu ?_
   exact ⟨(y23, (s15 ++ [y23]), (s16 + 1)), ⟨_, hq, sl, sl, sl, sl, sl, sl⟩, hR.out⟩
  ·obtain rfl := someE hR
   refine zu ?_
   exact ⟨_, hq, rfl, sl, sl⟩
 ·obtain rfl := someE hR
  refine zu ?_
  exact ⟨_, hq, rfl, sl⟩
def eS (F : Nat) (d : Desg) (rules : List Int) (inputs : List Int) : List Int → Nat → ((List Int) × (List (List Int))) → Option (Oc ((List (List Int)) × Nat) ((List (List Int))))
 | [], s16, (s14, s15) => some (.b s15)
 | x_ :: r_, s16, (s14, s15) => ((aH F d x_ inputs s14).bind fun y20 => (if y20 = true then ((aB F d x_ inputs s14).bind fun y23 => (if (s15.length + 1) ≤ 1000000 then eS F d rules inputs r_ (s16 + 1) (y23, (s15 ++ [y23])) else none)) else some (.a (s15, s16))))
theorem lm (F : Nat) (d : Desg) (rules : List Int) (inputs : List Int) (hl_ : rules.length ≤ 1000000) : ∀ r_ i_ k_ (o_ : (List Int) × (List (List Int))), rules.drop i_ = r_ → r_.length < k_ → dT F d rules inputs k_ (o_.1, o_.2, i_) = eS F d rules inputs r_ i_ o_
 | _, _, 0, _, _, hk => absurd hk (Nat.not_lt_zero _)
 | [], i_, k_ + 1, ⟨s14, s15⟩, hd, _ => by rw [dT, eS]; simp only [ao hd, Bool.false_eq_true, if_false]
 | x_ :: r_, i_, k_ + 1, ⟨s14, s15⟩, hd, hk => by
  have ih := fun o_ => lm F d rules inputs hl_ r_ (i_ + 1) k_ o_ (ai hd) (Nat.lt_of_succ_lt_succ hk)
  simp only [Prod.forall] at ih
  rw [dT, eS]; simp only [aF hd, aw hd, if_pos (aG hd hl_), Option.bind_some, if_true, ih]
def fC (F : Nat) (d : Desg) (rules : List Int) (inputs : List Int) (state : List Int) : Option ((List (List Int)) × Int) := ((dx F d state).bind fun y1 => ((dT F d rules inputs F (y1, [y1], 0)).bind fun o26 => match o26 with | .a o27 => some (o27.1, (o27.2 : Int)) | .b o29 => some (o29, (rules.length : Int))))
theorem iN (bs : List Nat) (H : Heap) (F : Nat) (d : Desg) (rules : List Int) (inputs : List Int) (state : List Int) (R : (List (List Int)) × Int) (hR0 : fC F d rules inputs state = some R) : callw X bs 23 [(encDesg d), .list (rules.map (V.int .i64)), .list (inputs.map (V.int .i64)), .list (state.map (V.int .i64))] H = some (.tuple [.list (R.1.map encInts), .int .i64 R.2], H) := by
 refine yw2 (rs := [.tmp 8, .tmp 9]) (N := 50) (fn := Tryz.f23) xk23 xf23 ?_
 have hR := Kp.mk hR0
 clear hR0
 rw [fC] at hR
 (try simp only [cellsDesg, encDesg, encInts])
 obtain ⟨y1, y1_e, hR⟩ := bindE hR
 have y1_k := fun bs H => kg bs H F d state y1 y1_e
 (try simp only [cellsDesg, encDesg, encInts] at y1_k)
 obtain ⟨o26, o26_e, hR⟩ := bindE hR
 refine zu ?_
 refine ac (ah (c := (loopAt Tryz.f23 0)) rfl (ry _ H F d rules inputs _ (y1, [y1], 0) o26 _ _ ⟨_, hq, sl, sl, sl, sl, sl, sl⟩ o26_e)) ?_
 clear y1_k
 rcases o26 with o27 | o29
 ·rintro ex ρ' H' ⟨J28, rfl, rfl, q8_o27, q9_o27⟩ hf
  clear hf
  obtain rfl := someE hR
  exact zv
 ·rintro ex ρ' H' ⟨J30, rfl, rfl, q11_o29⟩ hf
  have q1_o29 : ρ' 1 = .list (rules.map (V.int .i64)) := (hf 1 rfl).trans (sl)
  clear hf
  obtain rfl := someE hR
  exact zv
def cm (F : Nat) (d : Desg) (rules : List Int) : Nat → Nat → Option (Oc (Int) (Unit))
 | 0, _ => none
 | k + 1, s2 => (if (decide ((s2 : Int) < (rules.length : Int))) = true then ((rules[s2]?).bind fun x5 => ((cw F d x5).bind fun y6 => (if (decide (¬y6 = 0)) = true then some (.a y6) else (if inI ((s2 : Int) + 1) then cm F d rules k (s2 + 1) else none)))) else some (.b ()))
theorem pN (bs : List Nat) (H : Heap) (F : Nat) (d : Desg) (rules : List Int) (inputs : List Int) (state : List Int) : ∀ k s r ρ H', (∃ J3, H' = H ++ .cells [.str d.name, .list (d.inputs.map encPort), .list (d.elements.map encElem), .list (d.nodes.map encNode), .list (d.rules.map encRul), .list (d.outs.map encOutp), .list (d.attrs.map encAttr)] :: J3 ∧ ρ 1 = .list (rules.map (V.int .i64)) ∧ ρ 2 = .list (inputs.map (V.int .i64)) ∧ ρ 3 = .list (state.map (V.int .i64)) ∧ ρ 4 = .ptr H.length 0 ∧ ρ 9 = .int .i64 (s : Int)) → cm F d rules k s = some r → Lp X ⟨39, H.length :: bs⟩ (loopAt Tryz.f22 0) ρ H' ((fun r ex ρ H' => match r with | .a r => ∃ J3, H' = H ++ .cells [.str d.name, .list (d.inputs.map encPort), .list (d.elements.map encElem), .list (d.nodes.map encNode), .list (d.rules.map encRul), .list (d.outs.map encOutp), .list (d.attrs.map encAttr)] :: J3 ∧ ex = .ret ∧ ρ 8 = .int .i64 r | .b r => ∃ J3, H' = H ++ .cells [.str d.name, .list (d.inputs.map encPort), .list (d.elements.map encElem), .list (d.nodes.map encNode), .list (d.rules.map encRul), .list (d.outs.map encOutp), .list (d.attrs.map encAttr)] :: J3 ∧ ex = .exit 0) r) := by
 refine ae (fun _ => rfl) ?_
 rintro k s2 r ρ H' ⟨J3, hH, h1, h2, h3, h4, h9⟩ hR
 skip
 subst hH
 rw [cm] at hR
 conv => arg 3; whnf
 try refine zw ?_
 rcases iteE hR with ⟨c4, hR⟩ | ⟨c4, hR⟩
 ·obtain ⟨x5, x5_e, hR⟩ := bindE hR
  obtain ⟨y6, y6_e, hR⟩ := bindE hR
  have y6_k := fun bs H => iI bs H F d x5 y6 y6_e
  (try simp only [cellsDesg, encDesg, encInts] at y6_k)
  try refine zu ?_
  (refine yw0 (id := 6) oz5 ?_)
  try refine zw ?_
  clear y6_k
  rcases iteE hR with ⟨c7, hR⟩ | ⟨c7, hR⟩
  ·obtain rfl := someE hR
   refine zu ?_
   exact ⟨_, hq, rfl, sl⟩
  ·obtain ⟨g8, hR⟩ := grdE hR
   have g8_w := af g8
   refine zu ?_
   exact ⟨(s2 + 1), ⟨_, hq, sl, sl, sl, sl, sl⟩, hR.out⟩
 ·obtain rfl := someE hR
  refine zu ?_
  exact ⟨_, hq, rfl⟩
def eN (F : Nat) (d : Desg) (rules : List Int) : List Int → Nat → Unit → Option (Oc (Int) (Unit))
 | [], s2, _ => some (.b ())
 | x_ :: r_, s2, _ => ((cw F d x_).bind fun y6 => (if (decide (¬y6 = 0)) = true then some (.a y6) else eN F d rules r_ (s2 + 1) ()))
theorem jL (F : Nat) (d : Desg) (rules : List Int) (hl_ : rules.length ≤ 1000000) : ∀ r_ i_ k_ (o_ : Unit), rules.drop i_ = r_ → r_.length < k_ → cm F d rules k_ i_ = eN F d rules r_ i_ o_
 | _, _, 0, _, _, hk => absurd hk (Nat.not_lt_zero _)
 | [], i_, k_ + 1, _, hd, _ => by rw [cm, eN]; simp only [ao hd, Bool.false_eq_true, if_false]
 | x_ :: r_, i_, k_ + 1, _, hd, hk => by
  have ih := jL F d rules hl_ r_ (i_ + 1) k_ () (ai hd) (Nat.lt_of_succ_lt_succ hk)
  rw [cm, eN]; simp only [aF hd, aw hd, if_pos (aG hd hl_), Option.bind_some, if_true, ih]
def fH (F : Nat) (d : Desg) (rules : List Int) (inputs : List Int) (state : List Int) : Option (Int) := (if (decide ((60 : Int) < (rules.length : Int))) = true then some 8 else ((cm F d rules F 0).bind fun o9 => match o9 with | .a o10 => some o10 | .b o12 => ((aJ F d inputs).bind fun y14 => (if (decide (¬y14 = 0)) = true then some y14 else ((cI F d state).bind fun y16 => some y16)))))
theorem lM (bs : List Nat) (H : Heap) (F : Nat) (d : Desg) (rules : List Int) (inputs : List Int) (state : List Int) (R : Int) (hR0 : fH F d rules inputs state = some R) : callw X bs 22 [(encDesg d), .list (rules.map (V.int .i64)), .list (inputs.map (V.int .i64)), .list (state.map (V.int .i64))] H = some (.int .i64 R, H) := by
 refine yw2 (rs := [.tmp 8]) (N := 39) (fn := Tryz.f22) xk22 xf22 ?_
 have hR := Kp.mk hR0
 clear hR0
 rw [fH] at hR
 (try simp only [cellsDesg, encDesg, encInts])
 try refine zw ?_
 rcases iteE hR with ⟨c1, hR⟩ | ⟨c1, hR⟩
 ·obtain rfl := someE hR
  exact zv
 ·obtain ⟨o9, o9_e, hR⟩ := bindE hR
  refine zu ?_
  refine ac (ah (c := (loopAt Tryz.f22 0)) rfl (pN _ H F d rules inputs state _ 0 o9 _ _ ⟨_, hq, sl, sl, sl, sl, sl⟩ o9_e)) ?_
  rcases o9 with o10 | o12
  ·rintro ex ρ' H' ⟨J11, rfl, rfl, q8_o10⟩ hf
   clear hf
   obtain rfl := someE hR
   exact zv
  ·rintro ex ρ' H' ⟨J13, rfl, rfl⟩ hf
   have q2_o12 : ρ' 2 = .list (inputs.map (V.int .i64)) := (hf 2 rfl).trans (sl)
   have q3_o12 : ρ' 3 = .list (state.map (V.int .i64)) := (hf 3 rfl).trans (sl)
   have q4_o12 : ρ' 4 = .ptr H.length 0 := (hf 4 rfl).trans (sl)
   clear hf
   obtain ⟨y14, y14_e, hR⟩ := bindE hR
   have y14_k := fun bs H => cv bs H F d inputs y14 y14_e
   (try simp only [cellsDesg, encDesg, encInts] at y14_k)
   try refine zw ?_
   clear y14_k
   rcases iteE hR with ⟨c15, hR⟩ | ⟨c15, hR⟩
   ·obtain rfl := someE hR
    exact zv
   ·obtain ⟨y16, y16_e, hR⟩ := bindE hR
    have y16_k := fun bs H => gj bs H F d state y16 y16_e
    (try simp only [cellsDesg, encDesg, encInts] at y16_k)
    obtain rfl := someE hR
    exact zv
def ki (F : Nat) (d : Desg) (l : List (List Int)) : Nat → Nat → Option (Oc (Int) (Unit))
 | 0, _ => none
 | k + 1, s3 => (if (decide ((s3 : Int) < (l.length : Int))) = true then ((l[s3]?).bind fun x6 => ((aJ F d x6).bind fun y7 => (if (decide (¬y7 = 0)) = true then some (.a y7) else (if inI ((s3 : Int) + 1) then ki F d l k (s3 + 1) else none)))) else some (.b ()))
def nW (F : Nat) (d : Desg) (l : List (List Int)) : List (List Int) → Nat → Unit → Option (Oc (Int) (Unit))
 | [], s3, _ => some (.b ())
 | x_ :: r_, s3, _ => ((aJ F d x_).bind fun y7 => (if (decide (¬y7 = 0)) = true then some (.a y7) else nW F d l r_ (s3 + 1) ()))
def lN (F : Nat) (d : Desg) (l : List (List Int)) : Option (Int) := (if (decide ((l.length : Int) = 0)) = true then some 10 else (if (decide ((16 : Int) < (l.length : Int))) = true then some 8 else ((ki F d l F 0).bind fun o10 => match o10 with | .a o11 => some o11 | .b o13 => some 0)))
def Gc (F : Nat) (d : Desg) (inputs : List (List Int)) (x : DStep) (state : List Int) : Option ((List Int) × Bool) := ((dx F d state).bind fun y1 => ((idxI inputs x.inputs).bind fun x2 => ((aH F d x.rule x2 y1).bind fun y3 => (if y3 = true then ((aB F d x.rule x2 y1).bind fun y6 => ((dx F d y6).bind fun y7 => some (y7, true))) else some ([], false)))))
def kj (F : Nat) (d : Desg) (inputs : List (List Int)) (node : Int) (state : List Int) : Nat → Nat → Option (Oc (Bool) (Unit))
 | 0, _ => none
 | k + 1, s1 => (if (decide ((s1 : Int) < (inputs.length : Int))) = true then ((inputs[s1]?).bind fun x4 => (if x4.length + state.length ≤ 1000000 then (if d.nodes.length ≤ 1000 then (if ∀ x ∈ d.nodes, x.args.length ≤ 1000000 then (if ∃ ws, GoodAll ws d.nodes ∧ LeafOk ws (x4 ++ state) then ((idxI (valsL d.nodes (x4 ++ state) d.nodes.length) node).bind fun x11 => (if (decide (x11 = 0)) = true then some (.a true) else (if inI ((s1 : Int) + 1) then kj F d inputs node state k (s1 + 1) else none))) else none) else none) else none) else none)) else some (.b ()))
def nX (F : Nat) (d : Desg) (inputs : List (List Int)) (node : Int) (state : List Int) : List (List Int) → Nat → Unit → Option (Oc (Bool) (Unit))
 | [], s1, _ => some (.b ())
 | x_ :: r_, s1, _ => (if x_.length + state.length ≤ 1000000 then (if d.nodes.length ≤ 1000 then (if ∀ x ∈ d.nodes, x.args.length ≤ 1000000 then (if ∃ ws, GoodAll ws d.nodes ∧ LeafOk ws (x_ ++ state) then ((idxI (valsL d.nodes (x_ ++ state) d.nodes.length) node).bind fun x11 => (if (decide (x11 = 0)) = true then some (.a true) else nX F d inputs node state r_ (s1 + 1) ())) else none) else none) else none) else none)
def A5 (F : Nat) (d : Desg) (inputs : List (List Int)) (node : Int) (state : List Int) : Option (Bool) := ((kj F d inputs node state F 0).bind fun o14 => match o14 with | .a o15 => some o15 | .b o17 => some false)
def kl (F : Nat) (l : List (List Int)) : Nat → Nat → Option (Oc (Bool) (Unit))
 | 0, _ => none
 | k + 1, s2 => (if (decide ((s2 : Int) < (l.length : Int))) = true then ((l[s2]?).bind fun x5 => (if (decide ((45 : Int) < (x5.length : Int))) = true then some (.a false) else (if inI ((s2 : Int) + 1) then kl F l k (s2 + 1) else none))) else some (.b ()))
def nY (F : Nat) (l : List (List Int)) : List (List Int) → Nat → Unit → Option (Oc (Bool) (Unit))
 | [], s2, _ => some (.b ())
 | x_ :: r_, s2, _ => (if (decide ((45 : Int) < (x_.length : Int))) = true then some (.a false) else nY F l r_ (s2 + 1) ())
def A6 (F : Nat) (l : List (List Int)) (most : Int) : Option (Bool) := (if (decide (most < (l.length : Int))) = true then some false else ((kl F l F 0).bind fun o8 => match o8 with | .a o9 => some o9 | .b o11 => some true))
def A7 (F : Nat) (d : Desg) (inputs : List (List Int)) : Option (Int) := ((eM F d).bind fun y1 => (if (decide (y1 = 0)) = true then ((lN F d inputs).bind fun y3 => some y3) else some y1))
def iU (F : Nat) (d : Desg) : Nat → (Int × Nat) → Option (Int)
 | 0, _ => none
 | k + 1, (s10, s11) => (if (decide ((s11 : Int) < (d.elements.length : Int))) = true then ((d.elements[s11]?).bind fun x14 => (if (decide (x14.kind = 0)) = true then (if inI (s10 + x14.width) then (if inI ((s11 : Int) + 1) then iU F d k ((s10 + x14.width), (s11 + 1)) else none) else none) else (if inI ((s11 : Int) + 1) then iU F d k (s10, (s11 + 1)) else none))) else some s10)
def ku (F : Nat) (d : Desg) : List Elem → Nat → Int → Option (Int)
 | [], s11, s10 => some s10
 | x_ :: r_, s11, s10 => (if (decide (x_.kind = 0)) = true then (if inI (s10 + x_.width) then ku F d r_ (s11 + 1) (s10 + x_.width) else none) else ku F d r_ (s11 + 1) s10)
def tX (F : Nat) (d : Desg) (inputs : List (List Int)) : Option (Bool) := ((iU F d F (0, 0)).bind fun o21 => (if (decide (o21 ≤ 7)) = true then (if (decide ((inputs.length : Int) ≤ 4)) = true then some (decide ((d.nodes.length : Int) ≤ 40)) else some false) else some false))
def F7 (F : Nat) (d : Desg) (inputs : List (List Int)) : Option (Bool) := ((eM F d).bind fun y1 => (if (decide (y1 = 0)) = true then ((lN F d inputs).bind fun y3 => (if (decide (y3 = 0)) = true then ((tX F d inputs).bind fun y5 => some (!y5)) else some false)) else some false))
end
end Go.E
set_option linter.all false
namespace Go.E
open Go.Proofs Classical
set_option maxRecDepth 100000
set_option maxHeartbeats 400000
noncomputable section
def bW (F : Nat) (a : List DStep) (b : List DStep) : Nat → Nat → Option (Oc (Bool) (Unit))
 | 0, _ => none
 | k + 1, s2 => (if (decide ((s2 : Int) < (a.length : Int))) = true then ((a[s2]?).bind fun x5 => ((b[s2]?).bind fun x6 => (if (decide (x5 = x6)) = true then (if inI ((s2 : Int) + 1) then bW F a b k (s2 + 1) else none) else some (.a false)))) else some (.b ()))
theorem nl (bs : List Nat) (H : Heap) (F : Nat) (a : List DStep) (b : List DStep) : ∀ k s r ρ H', (∃ J3, H' = H ++ J3 ∧ ρ 0 = .list (a.map encDStep) ∧ ρ 1 = .list (b.map encDStep) ∧ ρ 5 = .int .i64 (s : Int)) → bW F a b k s = some r → Lp X ⟨26, H.length :: bs⟩ (loopAt Tryz.f35 0) ρ H' ((fun r ex ρ H' => match r with | .a r => ∃ J3, H' = H ++ J3 ∧ ex = .ret ∧ ρ 4 = .bool r | .b r => ∃ J3, H' = H ++ J3 ∧ ex = .exit 0) r) := by
 refine ae (fun _ => rfl) ?_
 rintro k s2 r ρ H' ⟨J3, hH, h0, h1, h5⟩ hR
 skip
 subst hH
 rw [bW] at hR
 conv => arg 3; whnf
 try refine zw ?_
 rcases iteE hR with ⟨c4, hR⟩ | ⟨c4, hR⟩
 ·obtain ⟨x5, x5_e, hR⟩ := bindE hR
  obtain ⟨x6, x6_e, hR⟩ := bindE hR
  have q7 := BL x5 x6
  simp only [cellsDStep, encDStep, encInts] at q7
  try refine zu ?_
  (refine yw0 (id := 6) oz1 ?_)
  try refine zw ?_
  rcases iteE hR with ⟨c8, hR⟩ | ⟨c8, hR⟩
  ·obtain ⟨g9, hR⟩ := grdE hR
   have g9_w := af g9
   refine zu ?_
   exact ⟨(s2 + 1), ⟨_, hq, sl, sl, sl⟩, hR.out⟩
  ·obtain rfl := someE hR
   refine zu ?_
   exact ⟨_, hq, rfl, sl⟩
 ·obtain rfl := someE hR
  refine zu ?_
  exact ⟨_, hq, rfl⟩
def dG (F : Nat) (a : List DStep) (b : List DStep) : List DStep → Nat → Unit → Option (Oc (Bool) (Unit))
 | [], s2, _ => some (.b ())
 | x_ :: r_, s2, _ => ((b[s2]?).bind fun x6 => (if (decide (x_ = x6)) = true then dG F a b r_ (s2 + 1) () else some (.a false)))
theorem iJ (F : Nat) (a : List DStep) (b : List DStep) (hl_ : a.length ≤ 1000000) : ∀ r_ i_ k_ (o_ : Unit), a.drop i_ = r_ → r_.length < k_ → bW F a b k_ i_ = dG F a b r_ i_ o_
 | _, _, 0, _, _, hk => absurd hk (Nat.not_lt_zero _)
 | [], i_, k_ + 1, _, hd, _ => by rw [bW, dG]; simp only [ao hd, Bool.false_eq_true, if_false]
 | x_ :: r_, i_, k_ + 1, _, hd, hk => by
  have ih := iJ F a b hl_ r_ (i_ + 1) k_ () (ai hd) (Nat.lt_of_succ_lt_succ hk)
  rw [bW, dG]; simp only [aF hd, aw hd, if_pos (aG hd hl_), Option.bind_some, if_true, ih]
def fD (F : Nat) (a : List DStep) (b : List DStep) : Option (Bool) := (if (decide (¬(a.length : Int) = (b.length : Int))) = true then some false else ((bW F a b F 0).bind fun o10 => match o10 with | .a o11 => some o11 | .b o13 => some true))
theorem pO (bs : List Nat) (H : Heap) (F : Nat) (a : List DStep) (b : List DStep) (R : Bool) (hR0 : fD F a b = some R) : callw X bs 35 [.list (a.map encDStep), .list (b.map encDStep)] H = some (.bool R, H) := by
 refine yw2 (rs := [.tmp 4]) (N := 26) (fn := Tryz.f35) xk35 xf35 ?_
 have hR := Kp.mk hR0
 clear hR0
 rw [fD] at hR
 try refine zw ?_
 rcases iteE hR with ⟨c1, hR⟩ | ⟨c1, hR⟩
 ·obtain rfl := someE hR
  exact zv
 ·obtain ⟨o10, o10_e, hR⟩ := bindE hR
  refine zu ?_
  refine ac (ah (c := (loopAt Tryz.f35 0)) rfl (nl _ H F a b _ 0 o10 _ _ ⟨[], by simp, sl, sl, sl⟩ o10_e)) ?_
  rcases o10 with o11 | o13
  ·rintro ex ρ' H' ⟨J12, rfl, rfl, q4_o11⟩ hf
   clear hf
   obtain rfl := someE hR
   exact zv
  ·rintro ex ρ' H' ⟨J14, rfl, rfl⟩ hf
   clear hf
   obtain rfl := someE hR
   exact zv
def exD : Desg := ⟨⟨#[115, 119, 97, 112]⟩, [⟨⟨#[103, 111]⟩, 1⟩], [⟨⟨#[120]⟩, 0, 4, 3, 0⟩, ⟨⟨#[121]⟩, 0, 4, 9, 0⟩, ⟨⟨#[119]⟩, 1, 1, 0, 0⟩],
 [⟨1, 1, [], 0⟩, ⟨1, 4, [], 1⟩, ⟨1, 4, [], 2⟩, ⟨10, 1, [1, 2], 0⟩, ⟨3, 1, [0, 3], 0⟩, ⟨0, 4, [], 1⟩, ⟨6, 4, [1, 5], 0⟩, ⟨0, 1, [], 1⟩, ⟨1, 1, [], 3⟩],
 [⟨⟨#[101, 120, 99, 104, 97, 110, 103, 101]⟩, 4, [⟨0, 7, 2⟩, ⟨1, 7, 1⟩]⟩, ⟨⟨#[99, 111, 117, 110, 116]⟩, 7, [⟨0, 7, 6⟩, ⟨2, 7, 7⟩]⟩], [⟨⟨#[98, 105, 103]⟩, 3⟩], []⟩
def exV : V := .agg [.str exD.name, .list (exD.inputs.map encPort), .list (exD.elements.map encElem), .list (exD.nodes.map encNode), .list (exD.rules.map encRul), .list (exD.outs.map encOutp), .nilS]
theorem AV (bs : List Nat) (H : Heap)  : callw X bs 57 [] H = some (exV, H) := by
 refine yw2 (rs := [.cell 0 29]) (N := 32) (fn := Tryz.f57) xk57 xf57 ?_
 all_goals try (refine zs ?_; repeat' first | apply zs0 | apply zs2 | (intro hc; try have hq := dq hc))
 apply qV
 ·simp
 ·(simp only [seval, push_cast, *] <;> rfl)
 ·rw [bM rfl]; rfl
 ·simp only [seval, push_cast]
theorem cn2 {f : Nat} {args args' : List V} {H : Heap} {bs : List Nat} {r : Option (V × Heap)} (h : callw X2 bs f args' H = r) (hk : X2.keep f = false) (hn : args.map V.norm = args'.map V.norm) : callw X2 bs f args H = r := (jR hk hn).trans h
theorem F8 (bs : List Nat) (H : Heap) (F : Nat) (h1 : dI F exD 0 [1] [3, 9, 0] = some ([9, 3, 0], 0)) (h2 : eZ F exD [1, 1] [0] [3, 9, 1] = some ([[3, 9, 0], [4, 9, 1], [5, 9, 1]], 2, 0)) (h3 : fN F exD [[0], [1]] 3 = some ([⟨1, 0⟩], 0)) (h4 : aj F [9, 3, 0] [9, 3, 0] = some true) (h5 : cy F [[3, 9, 0], [4, 9, 1], [5, 9, 1]] [[3, 9, 0], [4, 9, 1], [5, 9, 1]] = some true) (h6 : fD F [⟨1, 0⟩] [⟨1, 0⟩] = some true) : callw X2 bs 11 [] H = some (.bool true, H) := by
 refine yw2 (rs := [.tmp 0]) (N := 65) (fn := Tryz.f11) rfl xf11 ?_
 have y0 := fun bs H => ab (AV bs H)
 have y1 : ∀ bs H, callw X2 bs 13 [exV, .int .i64 0, .list [.int .i64 1], .list [.int .i64 3, .int .i64 9, .int .i64 0]] H = some (.tuple [.list [.int .i64 9, .int .i64 3, .int .i64 0], .int .i64 0], H) := fun bs H => cn2 (ab (iu bs H F exD 0 [1] [3, 9, 0] _ h1)) rfl rfl
 have y2 : ∀ bs H, callw X2 bs 16 [exV, .list [.int .i64 1, .int .i64 1], .list [.int .i64 0], .list [.int .i64 3, .int .i64 9, .int .i64 1]] H = some (.tuple [.list [.list [.int .i64 3, .int .i64 9, .int .i64 0], .list [.int .i64 4, .int .i64 9, .int .i64 1], .list [.int .i64 5, .int .i64 9, .int .i64 1]], .int .i64 2, .int .i64 0], H) := fun bs H => cn2 (ab (jo bs H F exD [1, 1] [0] [3, 9, 1] _ h2)) rfl rfl
 have y3 : ∀ bs H t, callw X2 bs 30 [exV, .tl t [.list [.int .i64 0], .list [.int .i64 1]], .int .i64 3] H = some (.tuple [.list [.agg [.int .i64 1, .int .i64 0]], .int .i64 0], H) := fun bs H t => cn2 (qh bs H F exD [[0], [1]] 3 _ h3) rfl rfl
 have y4 : ∀ bs H, callw X2 bs 26 [.list [.int .i64 9, .int .i64 3, .int .i64 0], .list [.int .i64 9, .int .i64 3, .int .i64 0]] H = some (.bool true, H) := fun bs H => ab (ax bs H F [9, 3, 0] [9, 3, 0] _ h4)
 have y5 : ∀ bs H t, callw X2 bs 24 [.list [.list [.int .i64 3, .int .i64 9, .int .i64 0], .list [.int .i64 4, .int .i64 9, .int .i64 1], .list [.int .i64 5, .int .i64 9, .int .i64 1]], .tl t [.list [.int .i64 3, .int .i64 9, .int .i64 0], .list [.int .i64 4, .int .i64 9, .int .i64 1], .list [.int .i64 5, .int .i64 9, .int .i64 1]]] H = some (.bool true, H) := fun bs H t => cn2 (ab (gC bs H F [[3, 9, 0], [4, 9, 1], [5, 9, 1]] [[3, 9, 0], [4, 9, 1], [5, 9, 1]] _ h5)) rfl rfl
 have y6 : ∀ bs H, callw X2 bs 35 [.list [.agg [.int .i64 1, .int .i64 0]], .list [.agg [.int .i64 1, .int .i64 0]]] H = some (.bool true, H) := fun bs H => ab (pO bs H F [⟨1, 0⟩] [⟨1, 0⟩] _ h6)
 clear h1 h2 h3 h4 h5 h6
 all_goals try (refine zs ?_; repeat' first | apply zs0 | apply zs2 | (intro hc; try have hq := dq hc))
end
end Go.E
namespace Go.E
open Classical
theorem pP {α : Type} [DecidableEq α] {L : List α → Nat → Unit → Option (Oc Bool Unit)} (a b : List α) (eq : α → α → Option Bool) (hl : a.length = b.length) (h0 : ∀ i s, L [] i s = some (.b ()))
  (h1 : ∀ x r i s, L (x :: r) i s = (b[i]?).bind fun y => (eq x y).bind fun e => if e = true then L r (i + 1) () else some (.a false)) (he : ∀ x ∈ a, ∀ y ∈ b, eq x y = some (decide (x = y))) :
  ∀ (r : List α) (i : Nat), a.drop i = r → a.take i = b.take i → ∃ o, L r i () = some o ∧ (match o with | .a x => x = false ∧ a ≠ b | .b _ => a = b)
 | [], i, hd, ht => by
  have h2 : a.length ≤ i := by simpa using hd
  rw [List.take_of_length_le h2, List.take_of_length_le (by omega)] at ht
  exact ⟨_, h0 i (), ht⟩
 | x :: r, i, hd, ht => by
  have hlt := jT hd
  have hx := aw hd
  have hb : b[i]? = some (b[i]'(by omega)) := bu (by omega)
  rw [h1, hb, Option.bind_some, he x (List.mem_of_getElem? hx) _ (List.mem_of_getElem? hb), Option.bind_some]
  by_cases h : x = b[i]'(by omega)
  ·rw [if_pos (decide_eq_true h)]
   refine pP a b eq hl h0 h1 he r (i + 1) (ai hd) ?_
   rw [List.take_add_one, List.take_add_one, hx, hb, ht, h]
  ·rw [if_neg (by simpa using h)]
   refine ⟨_, rfl, rfl, fun e => h ?_⟩
   subst e
   rw [hx] at hb; exact Option.some.inj hb
variable {F : Nat} (hF : 1000000 < F)
include hF in
theorem lq (a b : List Int) (ha : a.length ≤ 1000000) : aj F a b = some (decide (a = b)) := by
 unfold aj
 by_cases hl : a.length = b.length
 ·have e := li F a b ha a 0 F () rfl (by omega)
  obtain ⟨o, h1, h2⟩ := pP (L := eR F a b) a b (fun x y => some (decide (x = y))) hl (fun _ _ => rfl) (fun x r i _ => by
   rw [eR]; congr 1; funext y; by_cases h : x = y <;> simp [h]) (fun _ _ _ _ => rfl) a 0 rfl rfl
  rw [if_neg (by simp [hl]), e, h1]
  cases o with
  | a x => obtain ⟨rfl, h3⟩ := h2; simp [h3]
  | b x => simp only at h2; simp [h2]
 ·have hne : a ≠ b := fun e => hl (by rw [e])
  rw [if_pos (by simp; omega)]; simp [hne]
include hF in
theorem tY (a b : List (List Int)) (ha : a.length ≤ 1000000) (hx : ∀ x ∈ a, x.length ≤ 1000000) : cy F a b = some (decide (a = b)) := by
 unfold cy
 by_cases hl : a.length = b.length
 ·have e := ks F a b ha a 0 F () rfl (by omega)
  obtain ⟨o, h1, h2⟩ := pP (L := fy F a b) a b (fun x y => aj F x y) hl (fun _ _ => rfl) (fun x r i _ => rfl) (fun x h y _ => lq hF x y (hx x h)) a 0 rfl rfl
  rw [if_neg (by simp [hl]), e, h1]
  cases o with
  | a x => obtain ⟨rfl, h3⟩ := h2; simp [h3]
  | b x => simp only at h2; simp [h2]
 ·have hne : a ≠ b := fun e => hl (by rw [e])
  rw [if_pos (by simp; omega)]; simp [hne]
include hF in
theorem xJ (a b : List DStep) (ha : a.length ≤ 1000000) : fD F a b = some (decide (a = b)) := by
 unfold fD
 by_cases hl : a.length = b.length
 ·have e := iJ F a b ha a 0 F () rfl (by omega)
  obtain ⟨o, h1, h2⟩ := pP (L := dG F a b) a b (fun x y => some (decide (x = y))) hl (fun _ _ => rfl) (fun x r i _ => rfl) (fun _ _ _ _ => rfl) a 0 rfl rfl
  rw [if_neg (by simp [hl]), e, h1]
  cases o with
  | a x => obtain ⟨rfl, h3⟩ := h2; simp [h3]
  | b x => simp only at h2; simp [h2]
 ·have hne : a ≠ b := fun e => hl (by rw [e])
  rw [if_pos (by simp; omega)]; simp [hne]
include hF in
theorem rS (ws l : List Int) (hw : ∀ w ∈ ws, 1 ≤ w ∧ w ≤ 16) (hl : l.length ≤ 1000000) : ey F ws l = some (valErrS ws l) := by
 unfold ey
 by_cases hn : ws.length = l.length
 case neg => rw [if_pos (by simp; omega)]; unfold valErrS; rw [if_neg (by omega)]
 rw [if_neg (by simp; omega)]
 unfold ia
 rw [if_neg (by simp; omega)]
 have e := jf F ws l hl l 0 F () rfl (by omega)
 have k : ∀ (r : List Int) (i : Nat), l.drop i = r → de F ws l r i () = some (if (eachP (fun i n => if fitsN n (at0 ws i) = true then (0 : Int) else 2) i r).2 = 0 then .b () else .a false) ∧
   ((eachP (fun i n => if fitsN n (at0 ws i) = true then (0 : Int) else 2) i r).2 = 0 ∨ (eachP (fun i n => if fitsN n (at0 ws i) = true then (0 : Int) else 2) i r).2 = 2) := by
  intro r
  induction r with
  | nil => intro i _; exact ⟨rfl, .inl rfl⟩
  | cons x r ih =>
   intro i hd
   have hlt := jT hd
   have hg : ws[i]? = some (ws[i]'(by omega)) := bu (by omega)
   have hw1 := hw _ (List.mem_of_getElem? hg)
   simp only [de, eachP]
   rw [hg, Option.bind_some, if_pos (by omega), fW hg]
   rcases bb (fitsN x (ws[i]'(by omega))) with h | h
   ·simpa [h] using ih (i + 1) (ai hd)
   ·simp [h]
 obtain ⟨k1, k2⟩ := k l 0 rfl
 rw [e, k1]
 unfold valErrS
 rw [if_pos hn.symm]
 rcases k2 with k2 | k2 <;> simp [k2]
include hF in
theorem rm {d : Desg} (h : OkD d) (l : List Int) (hl : l.length ≤ 1000000) : aJ F d l = some (valErrS (inWs d) l) := by
 unfold aJ
 have e : (leavesD d).take d.inputs.length = inWs d := by rw [rO, List.take_left' (by simp [inWs])]
 rw [qN hF d h.few.inputs h.few.elements, Option.bind_some, if_pos (by simp [leavesD]), e, rS hF _ _ h.inW hl]; rfl
include hF in
theorem rn {d : Desg} (h : OkD d) (l : List Int) (hl : l.length ≤ 1000000) : cI F d l = some (valErrS (elWs d) l) := by
 unfold cI
 have e : (leavesD d).drop d.inputs.length = elWs d := by rw [rO, List.drop_left' (by simp [inWs])]
 rw [qN hF d h.few.inputs h.few.elements, Option.bind_some, if_pos (by simp [leavesD]), e, rS hF _ _ h.elW hl]; rfl
include hF in
theorem zj {d : Desg} (h : FewD d) : eM F d = some (designErrR d).2 := by
 unfold eM
 rw [uS hF h]; rfl
theorem qR {d : Desg} (h : FewD d) (r : Int) : cw F d r = some (ruleErrR d r) := by
 have := h.rules
 unfold cw ruleErrR inLen
 rw [if_pos (in_m (by omega))]
 split <;> rfl
include hF in
theorem Ci {d : Desg} (h : d.elements.length ≤ 1000) : gQ F d = some (resetD d) := by
 unfold gQ
 have e := kf F d (by omega) d.elements 0 F (List.replicate d.elements.length 0) rfl (by omega)
 have k : ∀ (r : List Elem) (i : Nat) (o : List Int), d.elements.drop i = r → o.length = d.elements.length → cM F d r i o = some (o.take i ++ r.map (·.init)) := by
  intro r
  induction r with
  | nil =>
   intro i o hd ho
   have : d.elements.length ≤ i := by simpa using hd
   rw [cM, List.take_of_length_le (by omega)]; simp
  | cons x r ih =>
   intro i o hd ho
   have hlt := jT hd
   have hg : o[i]? = some (o[i]'(by omega)) := bu (by omega)
   rw [cM, hg, Option.bind_some, ih (i + 1) _ (ai hd) (by simpa using ho), List.take_add_one, List.getElem?_set_self (by omega), List.take_set, List.set_eq_of_length_le (by simp; omega)]
   simp
 rw [if_pos (by omega), e, k d.elements 0 _ rfl (by simp)]
 simp [resetD]
theorem zk (d : Desg) (s : List Int) : dx F d s = aO F d s := by
 have k0 : ∀ k st, eg F d k st = az F d k st := by
  intro k
  induction k with
  | zero => intro st; rfl
  | succ k ih => rintro ⟨a, b⟩; rw [eg, az]; simp only [ih]
 have k1 : ∀ k st, ew F d s k st = aC F d s k st := by
  intro k
  induction k with
  | zero => intro st; rfl
  | succ k ih => intro a; rw [ew, aC]; simp only [ih]
 unfold dx aO
 simp only [k0, k1]
include hF in
theorem yr {d : Desg} (h : d.elements.length ≤ 1000) {s : List Int} (hs : s.length = d.elements.length) : dx F d s = some (begL d.elements s) := by
 rw [zk, mS hF h hs]
theorem sD {d : Desg} (h : OkD d) {l s : List Int} (hl : LeafOk (inWs d) l) (hs : LeafOk (elWs d) s) : l.length + s.length ≤ 1000000 := by
 have a1 := hl.1
 have a2 := hs.1
 have a3 := h.few.inputs
 have a4 := h.few.elements
 simp [inWs] at a1; simp [elWs] at a2; omega
theorem tZ {d : Desg} (h : OkD d) {l s : List Int} (hl : LeafOk (inWs d) l) (hs : LeafOk (elWs d) s) : ∃ ws, GoodAll ws d.nodes ∧ LeafOk ws (l ++ s) := ⟨leavesD d, h.good, pC hl hs⟩
theorem ua {d : Desg} (h : OkD d) : ∀ x ∈ d.nodes, x.args.length ≤ 1000000 := fun x hx => by have := h.few.args x hx; omega
theorem nK {d : Desg} (ok : OkD d) {r : Int} (hr : ruleErrR d r = 0) {l s : List Int} (hl : LeafOk (inWs d) l) (hs : LeafOk (elWs d) s) : aH F d r l s = some (enAt d (valsD d l s) r.toNat) := by
 obtain ⟨x, hx, e⟩ := rl hr
 have hi : idxI d.rules r = some x := by rw [e, iC, hx]
 unfold aH
 rw [hi, Option.bind_some, if_pos (sD ok hl hs), if_pos ok.few.nodes, if_pos (ua ok), if_pos (tZ ok hl hs)]
 have := (jG (nH (ok.rule (List.mem_of_getElem? hx)).1) (gB d l s)).1
 unfold valsD at this
 rw [this, Option.bind_some, show enAt d (valsD d l s) r.toNat = enD (valsD d l s) x by simp only [enAt, hx]]
 rfl
include hF in
theorem pQ {d : Desg} (ok : OkD d) {r : Int} (hr : ruleErrR d r = 0) {l s : List Int} (hl : LeafOk (inWs d) l) (hs : LeafOk (elWs d) s) : aB F d r l s = some (hapD d r l s) := by
 have e : aB F d r l s = aq F d r (valsD d l s) s := by
  have k0 : ∀ x k st, cN F d l s x k st = am F (valsD d l s) x k st := by
   intro x k
   induction k with
   | zero => intro st; rfl
   | succ k ih => rintro ⟨a, b⟩; rw [cN, am]; simp only [ih, valsD]
  have k1 : ∀ x k st, dc F d l s x k st = ap F (valsD d l s) s x k st := by
   intro x k
   induction k with
   | zero => intro st; rfl
   | succ k ih => intro a; rw [dc, ap]; simp only [ih, valsD]
  unfold aB aq
  simp only [k0, k1]
  rw [if_pos (sD ok hl hs), if_pos ok.few.nodes, if_pos (ua ok), if_pos (tZ ok hl hs)]
 rw [e, dn_hap' hF ok hr hs]
theorem F9 {d : Desg} {i : Nat} (h : i < d.rules.length) : ruleErrR d (i : Int) = 0 := by
 unfold ruleErrR inLen; rw [if_pos]; simp only [Bool.and_eq_true, decide_eq_true_eq]; omega
include hF in
theorem AW {d : Desg} (ok : OkD d) {l s : List Int} (hl : LeafOk (inWs d) l) (hs : LeafOk (elWs d) s) : dt F d l s = some (atAll (enAt d (valsD d l s)) d.rules.length) := by
 have hr := ok.few.rules
 unfold dt
 rw [wH (L := bI F d l s) d.rules.length (enAt d (valsD d l s)) hr (fun k i o hi ho => ?_) (fun k o => ?_) F (by omega)]
 ·rfl
 ·rw [bI, lt_n i _ hi, if_pos rfl, nK ok (F9 hi) hl hs, Option.bind_some, Int.toNat_natCast]
  cases enAt d (valsD d l s) i
  ·simp only [Bool.false_eq_true, if_false]; rw [if_pos (in_1 (by omega))]
  ·simp only [if_true]; rw [if_pos (by omega), if_pos (in_1 (by omega))]
 ·rw [bI, nC]; rfl
include hF in
theorem AX {d : Desg} (ok : OkD d) {l s : List Int} (hl : LeafOk (inWs d) l) (hs : LeafOk (elWs d) s) : du F d l s = some (outsD d (valsD d l s)) := by
 have ho := ok.few.outs
 have e : bJ F d l s F ([], 0) = _ := jg F d l s (by omega) d.outs 0 F [] rfl (by omega)
 unfold du
 rw [if_pos (sD ok hl hs), if_pos ok.few.nodes, if_pos (ua ok), if_pos (tZ ok hl hs), e, sB (L := ez F d l s) (fun o => idxI (valsD d l s) o.node) (fun o => at0 (valsD d l s) o.node.toNat) (fun _ _ => rfl) (fun _ _ _ _ => rfl) d.outs 0 [] (fun o ho => (jG (ok.out ho) (gB d l s)).1) (by simp; omega)]
 rfl
include hF in
theorem tD {d : Desg} (ok : OkD d) {l : List Int} (hl : LeafOk (inWs d) l) (rules : List Int) (hr : rules.length ≤ 1000) : ∀ (rs : List Int) (i : Nat) (s : List Int) (out : List (List Int)), rules.drop i = rs → i ≤ rules.length → (∀ r ∈ rs, ruleErrR d r = 0) → LeafOk (elWs d) s → out.length = i + 1 →
  ∃ o, eS F d rules l rs i (s, out) = some o ∧ ocRun o rules.length = runGo d l rs i s out
 | [], i, s, out, hd, hi, _, hs, ho => by
  have : rules.length ≤ i := by simpa using hd
  obtain rfl : i = rules.length := by omega
  exact ⟨_, rfl, rfl⟩
 | r :: rs, i, s, out, hd, hi, hrs, hs, ho => by
  have h1 := hrs r (by simp)
  have hlt := jT hd
  simp only [eS, runGo]
  rw [nK ok h1 hl hs, Option.bind_some]
  cases enAt d (valsD d l s) r.toNat
  ·exact ⟨_, rfl, rfl⟩
  ·simp only [if_true]
   rw [pQ hF ok h1 hl hs, Option.bind_some, if_pos (by omega)]
   exact tD ok hl rules hr rs (i + 1) _ _ (ai hd) hlt (fun x hx => hrs x (by simp [hx])) (oL ok h1 hl hs) (by simp; omega)
include hF in
theorem Ee {d : Desg} (ok : OkD d) {l s : List Int} (hl : LeafOk (inWs d) l) (hs : LeafOk (elWs d) s) (rules : List Int) (hr : rules.length ≤ 1000) (hrs : ∀ r ∈ rules, ruleErrR d r = 0) : fC F d rules l s = some ((runR d rules l s).1, ((runR d rules l s).2 : Int)) := by
 unfold fC
 have e1 : dT F d rules l F (begL d.elements s, [begL d.elements s], 0) = _ := lm F d rules l (by omega) rules 0 F (begL d.elements s, [begL d.elements s]) rfl (by omega)
 obtain ⟨o, e2, e3⟩ := tD hF ok hl rules hr rules 0 (begL d.elements s) [begL d.elements s] rfl (by omega) hrs (oz ok hs) rfl
 rw [yr hF ok.few.elements (by rw [hs.1]; simp [elWs]), Option.bind_some, e1, e2, Option.bind_some]
 unfold runR
 rw [← e3]
 cases o <;> rfl
def runErrV (d : Desg) (rules l s : List Int) : Int :=
 if 60 < rules.length then 8 else if (eachP (fun _ r => ruleErrR d r) 0 rules).2 = 0 then (if valErrS (inWs d) l = 0 then valErrS (elWs d) s else valErrS (inWs d) l) else (eachP (fun _ r => ruleErrR d r) 0 rules).2
theorem wM {α : Type} {L : List α → Nat → Unit → Option (Oc Int Unit)} (f : α → Option Int) (g : α → Int) (h0 : ∀ i s, L [] i s = some (.b ()))
  (h1 : ∀ x r i s, L (x :: r) i s = (f x).bind fun y => if (decide (¬y = 0)) = true then some (.a y) else L r (i + 1) ()) : ∀ (r : List α) (i : Nat), (∀ x ∈ r, f x = some (g x)) →
   L r i () = some (if (eachP (fun _ x => g x) i r).2 = 0 then .b () else .a (eachP (fun _ x => g x) i r).2)
 | [], i, _ => h0 i ()
 | x :: r, i, hf => by
  rw [h1, hf x (by simp), Option.bind_some, eachP]
  by_cases h : g x = 0
  ·rw [if_neg (by simp [h]), wM f g h0 h1 r (i + 1) (fun y hy => hf y (by simp [hy]))]
   simp only [h, ne_eq, not_true_eq_false, if_false]
  ·rw [if_pos (by simpa using h), if_pos h, if_neg h]
include hF in
theorem wN {d : Desg} (ok : OkD d) (rules l s : List Int) (hr : rules.length ≤ 1000) (hl : l.length ≤ 1000000) (hs : s.length ≤ 1000000) : fH F d rules l s = some (runErrV d rules l s) := by
 unfold fH runErrV
 by_cases h0 : 60 < rules.length
 ·rw [if_pos (decide_eq_true (by omega)), if_pos h0]
 rw [if_neg (by simp; omega), if_neg h0]
 have e : cm F d rules F 0 = _ := jL F d rules (by omega) rules 0 F () rfl (by omega)
 rw [e, wM (L := eN F d rules) (fun r => cw F d r) (fun r => ruleErrR d r) (fun _ _ => rfl) (fun _ _ _ _ => rfl) rules 0 (fun r _ => qR ok.few r), Option.bind_some]
 by_cases h1 : (eachP (fun _ r => ruleErrR d r) 0 rules).2 = 0
 ·rw [if_pos h1, if_pos h1]
  simp only
  rw [rm hF ok l hl, rn hF ok s hs, Option.bind_some, Option.bind_some]
  by_cases h2 : valErrS (inWs d) l = 0 <;> simp [h2]
 ·rw [if_neg h1, if_neg h1]
end Go.E
