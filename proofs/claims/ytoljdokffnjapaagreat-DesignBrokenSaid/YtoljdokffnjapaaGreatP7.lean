/- Plain law of chapter 15: the search of the reference is that of the program. Own work. -/
import Derived.Test.YtoljdokffnjapaaGreatP5
import Derived.Test.YtoljdokffnjapaaGreatP6
import Derived.Test.YtoljdokffnjapaaGreatP4
import Derived.Test.YtoljdokffnjapaaGreatP2
set_option linter.all false
namespace Go.E
open Classical
def atAll (p : Nat → Bool) (n : Nat) : List Int := ((List.range n).filter p).map fun (i : Nat) => (i : Int)
variable {F : Nat} (hF : 1000000 < F)
include hF in
theorem wz {d : Desg} (h : FewD d) : bZ F d = some (d, (designErrR d).2) := by
 unfold bZ; rw [BY hF h]; rfl
include hF in
theorem tL {d : Desg} (h : OkD d) (l : List Int) (hl : l.length ≤ 1000000) : aB F d l = some (valErrS (inWs d) l) := by
 unfold aB valErrS
 by_cases hn : l.length = d.inputs.length
 case neg => rw [if_pos (decide_eq_true (by omega)), if_neg (by simpa [inWs] using hn)]
 rw [if_neg (by simp; omega), if_pos (by simpa [inWs] using hn)]
 have e := jp F l d hl l 0 F () rfl (by omega)
 have k := kz (L := er F l d) (fun i n => aY F d (i : Int) n) (fun i n => if fitsN n (at0 (inWs d) i) = true then (0 : Int) else 2) (fun i s => rfl) (fun x r i s => rfl) l 0 (fun j x hj => by
  have hlt := aa hj
  have hg : d.inputs[j]? = some (d.inputs[j]'(by omega)) := bc (by omega)
  generalize d.inputs[j]'(by omega) = y at hg
  have hw := h.inW y.width (List.mem_map.2 ⟨_, List.mem_of_getElem? hg, rfl⟩)
  have ha : at0 (inWs d) j = y.width := fF (by unfold inWs; rw [List.getElem?_map, hg]; rfl)
  unfold aY
  rw [Nat.zero_add, ga, hg, Option.bind_some, decide_eq_true (show (0 : Int) ≤ y.width by omega), Bool.true_and, ha]
  split <;> rfl)
 unfold ia
 rw [e, k, ← na]
 generalize ocP _ 0 l = o
 cases o <;> rfl
include hF in
theorem yk {d : Desg} (h : OkD d) (l : List Int) (hl : l.length ≤ 1000000) : aE F d l = some (valErrS (elWs d) l) := by
 unfold aE valErrS
 by_cases hn : l.length = d.elements.length
 case neg => rw [if_pos (decide_eq_true (by omega)), if_neg (by simpa [elWs] using hn)]
 rw [if_neg (by simp; omega), if_pos (by simpa [elWs] using hn)]
 have e := jq F l d hl l 0 F () rfl (by omega)
 have k := kz (L := eu F l d) (fun i n => bf F d (i : Int) n) (fun i n => if fitsN n (at0 (elWs d) i) = true then (0 : Int) else 2) (fun i s => rfl) (fun x r i s => rfl) l 0 (fun j x hj => by
  have hlt := aa hj
  have hg : d.elements[j]? = some (d.elements[j]'(by omega)) := bc (by omega)
  generalize d.elements[j]'(by omega) = y at hg
  have hw := h.elW y.width (List.mem_map.2 ⟨_, List.mem_of_getElem? hg, rfl⟩)
  have ha : at0 (elWs d) j = y.width := fF (by unfold elWs; rw [List.getElem?_map, hg]; rfl)
  unfold bf
  rw [Nat.zero_add, ga, hg, Option.bind_some, decide_eq_true (show (0 : Int) ≤ y.width by omega), Bool.true_and, ha]
  split <;> rfl)
 unfold ib
 rw [e, k, ← na]
 generalize ocP _ 0 l = o
 cases o <;> rfl
def resetOfR (d : Desg) : List Int × Int := if (designErrR d).2 = 0 then (resetD d, 0) else ([], (designErrR d).2)
def begunOfR (d : Desg) (s : List Int) : List Int × Int := if (designErrR d).2 = 0 then (if valErrS (elWs d) s = 0 then (begL d.elements s, 0) else ([], valErrS (elWs d) s)) else ([], (designErrR d).2)
def openErrR (d : Desg) (l s : List Int) : Int := if (designErrR d).2 = 0 then (if valErrS (inWs d) l = 0 then valErrS (elWs d) s else valErrS (inWs d) l) else (designErrR d).2
def enAt (d : Desg) (v : List Int) (i : Nat) : Bool := match d.rules[i]? with | some x => enD v x | none => false
def outsD (d : Desg) (v : List Int) : List Int := d.outs.map fun o => at0 v o.node.toNat
def enabledInR (d : Desg) (l s : List Int) : List Int × Int := if openErrR d l s = 0 then (atAll (enAt d (valsD d l s)) d.rules.length, 0) else ([], openErrR d l s)
def outputsInR (d : Desg) (l s : List Int) : List Int × Int := if openErrR d l s = 0 then (outsD d (valsD d l s), 0) else ([], openErrR d l s)
def ruleErrR (d : Desg) (r : Int) : Int := if inLen d.rules.length r = true then 0 else 6
theorem uH {d : Desg} (h : FewD d) (r : Int) : bF F d r = some (ruleErrR d r) := by
 have := h.rules
 unfold bF ruleErrR inLen
 rw [if_pos (in_m (by omega))]
 split <;> rfl
theorem qV {d : Desg} {r : Int} (h : ruleErrR d r = 0) : ∃ x, d.rules[r.toNat]? = some x ∧ r = (r.toNat : Int) := by
 unfold ruleErrR inLen at h
 split at h
 ·rename_i h1
  simp only [Bool.and_eq_true, decide_eq_true_eq] at h1
  exact ⟨_, bc (show r.toNat < d.rules.length by omega), by omega⟩
 ·omega
def hapErrR (d : Desg) (r : Int) (l s : List Int) : Int := if (designErrR d).2 = 0 then (if ruleErrR d r = 0 then (if valErrS (inWs d) l = 0 then valErrS (elWs d) s else valErrS (inWs d) l) else ruleErrR d r) else (designErrR d).2
def hapD (d : Desg) (r : Int) (l s : List Int) : List Int := match d.rules[r.toNat]? with | some x => hapL x.writes (valsD d l s) s | none => []
def happenedR (d : Desg) (r : Int) (l s : List Int) : List Int × Int :=
 if hapErrR d r l s = 0 then (if enAt d (valsD d l s) r.toNat = true then (hapD d r l s, 0) else ([], 24)) else ([], hapErrR d r l s)
theorem dn_en' {d : Desg} (ok : OkD d) {r : Int} (hr : ruleErrR d r = 0) (l s : List Int) : au F d r (valsD d l s) = some (enAt d (valsD d l s) r.toNat) := by
 obtain ⟨x, hx, e⟩ := qV hr
 have := td (F := F) ok (il d l s) hx
 rw [← e] at this
 rw [this]; simp only [enAt, hx]
include hF in
theorem dn_hap' {d : Desg} (ok : OkD d) {r : Int} (hr : ruleErrR d r = 0) {l s : List Int} (hs : LeafOk (elWs d) s) : ao F d r (valsD d l s) s = some (hapD d r l s) := by
 obtain ⟨x, hx, e⟩ := qV hr
 have := rA hF ok (il d l s) (s := s) (by rw [hs.1]; simp [elWs]) hx
 rw [← e] at this
 rw [this]; simp only [hapD, hx]
theorem tM {d : Desg} (ok : OkD d) {r : Int} (hr : ruleErrR d r = 0) {l s : List Int} (hl : LeafOk (inWs d) l) (hs : LeafOk (elWs d) s) : LeafOk (elWs d) (hapD d r l s) := by
 obtain ⟨x, hx, e⟩ := qV hr
 simp only [hapD, hx]
 exact wv ok hl hs (ok.rule (List.mem_of_getElem? hx)).2 hs
include hF in
theorem zc {d : Desg} (h : FewD d) (r : Int) (l s : List Int) (hl : l.length ≤ 1000000) (hs : s.length ≤ 1000000) : fm F d r l s = some (happenedR d r l s) := by
 unfold fm happenedR
 rw [wz hF h, Option.bind_some]
 by_cases he : (designErrR d).2 = 0
 case neg =>
  have e : hapErrR d r l s = (designErrR d).2 := by simp [hapErrR, he]
  rw [if_neg (by simp [he]), if_pos (by simpa using he), e, if_neg he]
 have ok : OkD d := ⟨h, he⟩
 rw [if_pos (by simp [he]), uH h, tL hF ok l hl, yk hF ok s hs, Option.bind_some, Option.bind_some, Option.bind_some]
 by_cases h1 : ruleErrR d r = 0
 case neg =>
  have e : hapErrR d r l s = ruleErrR d r := by simp [hapErrR, he, h1]
  rw [if_pos (by simpa using h1), e, if_neg h1]
 by_cases h2 : valErrS (inWs d) l = 0
 case neg =>
  have e : hapErrR d r l s = valErrS (inWs d) l := by simp [hapErrR, he, h1, h2]
  rw [if_neg (by simp [h1]), if_pos (by simpa using h2), e, if_neg h2]
 by_cases h3 : valErrS (elWs d) s = 0
 case neg =>
  have e : hapErrR d r l s = valErrS (elWs d) s := by simp [hapErrR, he, h1, h2]
  rw [if_neg (by simp [h1]), if_neg (by simp [h2]), if_pos (by simpa using h3), e, if_neg h3]
 have e : hapErrR d r l s = 0 := by simp [hapErrR, he, h1, h2, h3]
 have hl' := (fw ok.inW).1 h2
 have hs' := (fw ok.elW).1 h3
 rw [if_neg (by simp [h1]), if_neg (by simp [h2]), if_neg (by simp [h3]), e, if_pos rfl, ni hF ok hl' hs', Option.bind_some, dn_en' ok h1, Option.bind_some]
 cases enAt d (valsD d l s) r.toNat
 ·rfl
 ·simp only [if_true]; rw [dn_hap' hF ok h1 hs']; rfl
def runGo (d : Desg) (l : List Int) : List Int → Nat → List Int → List (List Int) → List (List Int) × Nat
 | [], i, _, out => (out, i)
 | r :: rs, i, s, out => if enAt d (valsD d l s) r.toNat = true then runGo d l rs (i + 1) (hapD d r l s) (out ++ [hapD d r l s]) else (out, i)
def runR (d : Desg) (rules l s : List Int) : List (List Int) × Nat := runGo d l rules 0 (begL d.elements s) [begL d.elements s]
def runErrR (d : Desg) (rules l s : List Int) : Int :=
 if (designErrR d).2 = 0 then (if 60 < rules.length then 8 else if (eachP (fun _ r => ruleErrR d r) 0 rules).2 = 0 then (if valErrS (inWs d) l = 0 then valErrS (elWs d) s else valErrS (inWs d) l) else (eachP (fun _ r => ruleErrR d r) 0 rules).2) else (designErrR d).2
def runOfR (d : Desg) (rules l s : List Int) : List (List Int) × Int × Int := if runErrR d rules l s = 0 then ((runR d rules l s).1, ((runR d rules l s).2 : Int), 0) else ([], 0, runErrR d rules l s)
def ocRun : Oc (List (List Int) × Nat) (List (List Int)) → Nat → List (List Int) × Nat
 | .a o, _ => o
 | .b o, n => (o, n)
include hF in
theorem wA {d : Desg} (ok : OkD d) {l : List Int} (hl : LeafOk (inWs d) l) (rules : List Int) (e : Int) (hr : rules.length ≤ 1000) : ∀ (rs : List Int) (i : Nat) (s : List Int) (out : List (List Int)), rules.drop i = rs → i ≤ rules.length → (∀ r ∈ rs, ruleErrR d r = 0) → LeafOk (elWs d) s → out.length = i + 1 →
  ∃ o, dK F rules l (d, e) rs i (s, out) = some o ∧ ocRun o rules.length = runGo d l rs i s out
 | [], i, s, out, hd, hi, _, hs, ho => by
  have : rules.length ≤ i := by simpa using hd
  obtain rfl : i = rules.length := by omega
  exact ⟨_, rfl, rfl⟩
 | r :: rs, i, s, out, hd, hi, hrs, hs, ho => by
  have h1 := hrs r (by simp)
  have hlt := ir hd
  simp only [dK, runGo]
  rw [ni hF ok hl hs, Option.bind_some, dn_en' ok h1, Option.bind_some]
  cases enAt d (valsD d l s) r.toNat
  ·exact ⟨_, rfl, rfl⟩
  ·simp only [if_true]
   rw [dn_hap' hF ok h1 hs, Option.bind_some, if_pos (by omega)]
   exact wA ok hl rules e hr rs (i + 1) _ _ (ah hd) hlt (fun x hx => hrs x (by simp [hx])) (tM ok h1 hl hs) (by simp; omega)
include hF in
theorem zf {d : Desg} (h : FewD d) (l : List Int) (hl : l.length ≤ 1000000) : fK F d l = some (eachP (fun _ r => ruleErrR d r) 0 l) := by
 have e := iP F l d hl l 0 F () rfl (by omega)
 have k := kz (L := dX F l d) (fun i n => eL F d (i : Int) n) (fun _ r => ruleErrR d r) (fun i s => rfl) (fun x r i s => rfl) l 0 (fun j x hj => by
  unfold eL
  rw [uH h]; rfl)
 unfold fK
 rw [e, k, ← na]
 generalize ocP _ 0 l = o
 cases o <;> rfl
include hF in
theorem Gf {d : Desg} (h : FewD d) (rules l s : List Int) (hr : rules.length ≤ 1000) (hl : l.length ≤ 1000000) (hs : s.length ≤ 1000000) : gr F d rules l s = some (runOfR d rules l s) := by
 unfold gr runOfR
 rw [wz hF h, Option.bind_some]
 by_cases he : (designErrR d).2 = 0
 case neg =>
  have e : runErrR d rules l s = (designErrR d).2 := by simp [runErrR, he]
  rw [if_neg (by simp [he]), if_pos (by simpa using he), e, if_neg he]
 have ok : OkD d := ⟨h, he⟩
 rw [if_pos (by simp [he]), zf hF h rules (by omega), tL hF ok l hl, yk hF ok s hs, Option.bind_some, Option.bind_some, Option.bind_some, Option.bind_some, Option.bind_some]
 by_cases h0 : 60 < rules.length
 ·have e : runErrR d rules l s = 8 := by simp [runErrR, he, h0]
  rw [if_neg (by simp; omega), e]; rfl
 rw [if_pos (decide_eq_true (by omega))]
 by_cases h1 : (eachP (fun _ r => ruleErrR d r) 0 rules).2 = 0
 case neg =>
  have e : runErrR d rules l s = (eachP (fun _ r => ruleErrR d r) 0 rules).2 := by simp [runErrR, he, h0, h1]
  rw [if_pos (by simpa using h1), e, if_neg h1]
 by_cases h2 : valErrS (inWs d) l = 0
 case neg =>
  have e : runErrR d rules l s = valErrS (inWs d) l := by simp [runErrR, he, h0, h1, h2]
  rw [if_neg (by simp [h1]), if_pos (by simpa using h2), e, if_neg h2]
 by_cases h3 : valErrS (elWs d) s = 0
 case neg =>
  have e : runErrR d rules l s = valErrS (elWs d) s := by simp [runErrR, he, h0, h1, h2]
  rw [if_neg (by simp [h1]), if_neg (by simp [h2]), if_pos (by simpa using h3), e, if_neg h3]
 have e : runErrR d rules l s = 0 := by simp [runErrR, he, h0, h1, h2, h3]
 have hl' := (fw ok.inW).1 h2
 have hs' := (fw ok.elW).1 h3
 have hb := tc ok hs'
 have e1 : bx F rules l (d, (designErrR d).2) F (begL d.elements s, [begL d.elements s], 0) = _ := jL F rules l (d, (designErrR d).2) (by omega) rules 0 F (begL d.elements s, [begL d.elements s]) rfl (by omega)
 obtain ⟨o, e2, e3⟩ := wA hF ok hl' rules (designErrR d).2 hr rules 0 (begL d.elements s) [begL d.elements s] rfl (by omega) (fun r hr => qp (fun r => ruleErrR d r) rules h1 r hr) hb rfl
 rw [if_neg (by simp [h1]), if_neg (by simp [h2]), if_neg (by simp [h3]), e, if_pos rfl, pa hF h.elements (by rw [hs'.1]; simp [elWs]), Option.bind_some, e1, e2, Option.bind_some]
 unfold runR
 rw [← e3]
 cases o <;> rfl
end Go.E
set_option linter.all false
namespace Go.E
open Go.Proofs Classical
set_option maxRecDepth 100000
set_option maxHeartbeats 20000000
noncomputable section
theorem HG (bs : List Nat) (H : Heap) (a : Nat) : callw X bs 86 [.tl a []] H = some (.undef, H) := by
 refine yw2 (rs := []) (N := 28) (fn := Tryz.f86) xk86 xf86 ?_
 repeat' first
  | (refine yw0 (id := 3) oz54 ?_)
  | (refine zs ?_; repeat' first | apply zs0 | apply zs2 | (intro hc; try have hq := dq hc)) | fail
 all_goals try (refine cS ?_)
 repeat' first
  | (refine yw0 (id := 3) oz54 ?_)
  | (refine zs ?_; repeat' first | apply zs0 | apply zs2 | (intro hc; try have hq := dq hc)) | fail
 exact Cu (fun _ h_ => by cases h_) rfl (by simp)
def dk (F : Nat) (cv0 : Desg) (a0_ : Int) (l : List Int) : Option (Int) := ((aB F cv0 l).bind fun y1 => some y1)
theorem iS (bs : List Nat) (H : Heap) (F : Nat) (ca0 : Nat) (cv0 : Desg) (hca0 : H[ca0]? = some (.cells [.str cv0.name, .list (cv0.inputs.map encPort), .list (cv0.elements.map encElem), .list (cv0.nodes.map encNode), .list (cv0.rules.map encRul), .list (cv0.outs.map encOutp), .list (cv0.attrs.map encAttr)])) (a0_ : Int) (l : List Int) (R : Int) (hR0 : dk F cv0 a0_ l = some R) : callw X bs 158 [.int .i64 a0_, .list (l.map (V.int .i64)), .ptr ca0 0] H = some (.int .i64 R, H) := by
 refine yw2 (rs := [.tmp 5]) (N := 9) (fn := Tryz.f158) Da M4 ?_
 have hca0_l := aa hca0
 have hca0_a := get_app' hca0
 have hR := Kp.mk hR0
 clear hR0
 rw [dk] at hR
 obtain ⟨y1, y1_e, hR⟩ := bindE hR
 have y1_k := fun bs H => dh bs H F cv0 l y1 y1_e
 (try simp only [cellsDesg, encDesg, encInts] at y1_k)
 obtain rfl := someE hR
 exact zv
def cy (F : Nat) (l : List (List Int)) (cv0 : Desg) : Nat → Nat → Option (Oc (Nat × Int) (Unit))
 | 0, _ => none
 | k + 1, s1 => (if (decide ((s1 : Int) < (l.length : Int))) = true then ((l[s1]?).bind fun x4 => ((dk F cv0 (s1 : Int) x4).bind fun y5 => (if (decide (¬y5 = 0)) = true then some (.a (s1, y5)) else (if inI ((s1 : Int) + 1) then cy F l cv0 k (s1 + 1) else none)))) else some (.b ()))
theorem of (bs : List Nat) (H : Heap) (F : Nat) (ca0 : Nat) (cv0 : Desg) (hca0 : H[ca0]? = some (.cells [.str cv0.name, .list (cv0.inputs.map encPort), .list (cv0.elements.map encElem), .list (cv0.nodes.map encNode), .list (cv0.rules.map encRul), .list (cv0.outs.map encOutp), .list (cv0.attrs.map encAttr)])) (l : List (List Int)) : ∀ k s r ρ H', (∃ J2, H' = H ++ J2 ∧ ρ 1 = .func 158 [.ptr ca0 0] ∧ ρ 9 = .list (l.map encInts) ∧ ρ 10 = .int .i64 (l.length : Int) ∧ ρ 11 = .int .i64 (s : Int)) → cy F l cv0 k s = some r → Lp X ⟨25, H.length :: bs⟩ (loopAt Tryz.f134 0) ρ H' ((fun r ex ρ H' => match r with | .a r => ∃ J2, H' = H ++ J2 ∧ ex = .ret ∧ ρ 4 = .int .i64 (r.1 : Int) ∧ ρ 5 = .int .i64 r.2 | .b r => ∃ J2, H' = H ++ J2 ∧ ex = .exit 0) r) := by
 refine ac (fun _ => rfl) ?_
 rintro k s1 r ρ H' ⟨J2, hH, h1, h9, h10, h11⟩ hR
 skip
 subst hH
 rw [cy] at hR
 have hca0_l := aa hca0
 have hca0_a := get_app' hca0
 conv => arg 3; whnf
 try refine zw ?_
 rcases iteE hR with ⟨c3, hR⟩ | ⟨c3, hR⟩
 ·obtain ⟨x4, x4_e, hR⟩ := bindE hR
  obtain ⟨y5, y5_e, hR⟩ := bindE hR
  have y5_k := fun (bs : List Nat) (l : Heap) => iS bs (H ++ l) F ca0 cv0 gt (s1 : Int) x4 y5 y5_e
  have y5_k0 := fun (bs : List Nat) => iS bs H F ca0 cv0 gt (s1 : Int) x4 y5 y5_e
  try refine zw ?_
  clear y5_k y5_k0
  rcases iteE hR with ⟨c6, hR⟩ | ⟨c6, hR⟩
  ·obtain rfl := someE hR
   refine zu ?_
   exact ⟨_, hq, rfl, sl, sl⟩
  ·obtain ⟨g7, hR⟩ := grdE hR
   have g7_w := ae g7
   refine zu ?_
   exact ⟨(s1 + 1), ⟨_, hq, sl, sl, sl, sl⟩, hR.out⟩
 ·obtain rfl := someE hR
  refine zu ?_
  exact ⟨_, hq, rfl⟩
def ef (F : Nat) (l : List (List Int)) (cv0 : Desg) : List (List Int) → Nat → Unit → Option (Oc (Nat × Int) (Unit))
 | [], s1, _ => some (.b ())
 | x_ :: r_, s1, _ => ((dk F cv0 (s1 : Int) x_).bind fun y5 => (if (decide (¬y5 = 0)) = true then some (.a (s1, y5)) else ef F l cv0 r_ (s1 + 1) ()))
theorem iT (F : Nat) (l : List (List Int)) (cv0 : Desg) (hl_ : l.length ≤ 1000000) : ∀ r_ i_ k_ (o_ : Unit), l.drop i_ = r_ → r_.length < k_ → cy F l cv0 k_ i_ = ef F l cv0 r_ i_ o_
 | _, _, 0, _, _, hk => absurd hk (Nat.not_lt_zero _)
 | [], i_, k_ + 1, _, hd, _ => by rw [cy, ef]; simp only [aj hd, Bool.false_eq_true, if_false]
 | x_ :: r_, i_, k_ + 1, _, hd, hk => by
  have ih := iT F l cv0 hl_ r_ (i_ + 1) k_ () (ah hd) (Nat.lt_of_succ_lt_succ hk)
  rw [cy, ef]; simp only [az hd, ap hd, if_pos (aC hd hl_), Option.bind_some, if_true, ih]
def fL (F : Nat) (cv0 : Desg) (l : List (List Int)) : Option (Int × Int) := ((cy F l cv0 F 0).bind fun o8 => match o8 with | .a o9 => some ((o9.1 : Int), o9.2) | .b o11 => some (0, 0))
theorem qC (bs : List Nat) (H : Heap) (F : Nat) (ca0 : Nat) (cv0 : Desg) (hca0 : H[ca0]? = some (.cells [.str cv0.name, .list (cv0.inputs.map encPort), .list (cv0.elements.map encElem), .list (cv0.nodes.map encNode), .list (cv0.rules.map encRul), .list (cv0.outs.map encOutp), .list (cv0.attrs.map encAttr)])) (l : List (List Int)) (R : Int × Int) (hR0 : fL F cv0 l = some R) : callw X bs 134 [.list (l.map encInts), .func 158 [.ptr ca0 0]] H = some (.tuple [.int .i64 R.1, .int .i64 R.2], H) := by
 refine yw2 (rs := [.tmp 4, .tmp 5]) (N := 25) (fn := Tryz.f134) C2 MV ?_
 have hca0_l := aa hca0
 have hca0_a := get_app' hca0
 have hR := Kp.mk hR0
 clear hR0
 rw [fL] at hR
 obtain ⟨o8, o8_e, hR⟩ := bindE hR
 refine zu ?_
 refine ab (af (c := (loopAt Tryz.f134 0)) rfl (of _ H F ca0 cv0 hca0 l _ 0 o8 _ _ ⟨[], by simp, sl, sl, sl, sl⟩ o8_e)) ?_
 rcases o8 with o9 | o11
 ·rintro ex ρ' H' ⟨J10, rfl, rfl, q4_o9, q5_o9⟩ hf
  clear hf
  obtain rfl := someE hR
  exact zv
 ·rintro ex ρ' H' ⟨J12, rfl, rfl⟩ hf
  clear hf
  obtain rfl := someE hR
  exact zv
def fd (F : Nat) (d : Desg) (inputs : List (List Int)) : Option (Desg × Int) := ((bZ F d).bind fun y1 => (if (decide (¬y1.2 = 0)) = true then some (y1.1, y1.2) else ((fL F y1.1 inputs).bind fun y3 => (if (decide ((0 : Int) < (inputs.length : Int))) = true then (if (decide ((inputs.length : Int) ≤ 16)) = true then (if (decide (¬y3.2 = 0)) = true then some (y1.1, y3.2) else some (y1.1, 0)) else some (y1.1, 8)) else (if (decide ((inputs.length : Int) ≤ 16)) = true then some (y1.1, 10) else some (y1.1, 10))))))
theorem pi (bs : List Nat) (H : Heap) (F : Nat) (d : Desg) (inputs : List (List Int)) (R : Desg × Int) (hR0 : fd F d inputs = some R) : callw X bs 79 [(encDesg d), .list (inputs.map encInts)] H = some (.tuple [(encDesg R.1), .int .i64 R.2], H) := by
 refine yw2 (rs := [.cell 4 114, .tmp 5]) (N := 37) (fn := Tryz.f79) xk79 xf79 ?_
 have hR := Kp.mk hR0
 clear hR0
 rw [fd] at hR
 (try simp only [cellsDesg, encDesg, encInts])
 obtain ⟨y1, y1_e, hR⟩ := bindE hR
 have y1_k := fun bs H => jG bs H F d y1 y1_e
 (try simp only [cellsDesg, encDesg, encInts] at y1_k)
 try refine zw ?_
 clear y1_k
 rcases iteE hR with ⟨c2, hR⟩ | ⟨c2, hR⟩
 ·obtain rfl := someE hR
  exact zv
 ·obtain ⟨y3, y3_e, hR⟩ := bindE hR
  have y3_k := fun (bs : List Nat) (u0 u1 : HObj) (J : Heap) => qC bs (H ++ u0 :: u1 :: .cells [.str y1.1.name, .list (y1.1.inputs.map encPort), .list (y1.1.elements.map encElem), .list (y1.1.nodes.map encNode), .list (y1.1.rules.map encRul), .list (y1.1.outs.map encOutp), .list (y1.1.attrs.map encAttr)] :: J) F (H.length + 2) y1.1 gt inputs y3 y3_e
  rcases iteE hR with ⟨c4, hR⟩ | ⟨c4, hR⟩
  ·rcases iteE hR with ⟨c5, hR⟩ | ⟨c5, hR⟩
   ·rcases iteE hR with ⟨c6, hR⟩ | ⟨c6, hR⟩
    ·have c6_p := of_decide_eq_true c6
     obtain rfl := someE hR
     try refine zu ?_
     (refine yw1 (id := 5) oz42 oz43 ?_)
     exact zv
    ·have c6_p := Decidable.not_not.1 (of_decide_eq_false c6)
     obtain rfl := someE hR
     try refine zu ?_
     (refine yw1 (id := 5) oz42 oz43 ?_)
     exact zv
   ·obtain rfl := someE hR
    try refine zu ?_
    (refine yw1 (id := 5) oz42 oz43 ?_)
    exact zv
  ·rcases iteE hR with ⟨c7, hR⟩ | ⟨c7, hR⟩
   ·obtain rfl := someE hR
    try refine zu ?_
    (refine yw1 (id := 5) oz42 oz43 ?_)
    exact zv
   ·obtain rfl := someE hR
    try refine zu ?_
    (refine yw1 (id := 5) oz42 oz43 ?_)
    exact zv
def cP (F : Nat) (cv0 : Desg) (cv1 : DVisit) (cv2 : Int) (a0_ : List Int) : Option (Bool) := ((av F cv0 a0_ cv1.state).bind fun y1 => ((idxI y1 cv2).bind fun x2 => some (decide (x2 = 0))))
theorem iC (bs : List Nat) (H : Heap) (F : Nat) (ca0 : Nat) (ca1 : Nat) (ca2 : Nat) (cv0 : Desg) (cv1 : DVisit) (cv2 : Int) (hca0 : H[ca0]? = some (.cells [.str cv0.name, .list (cv0.inputs.map encPort), .list (cv0.elements.map encElem), .list (cv0.nodes.map encNode), .list (cv0.rules.map encRul), .list (cv0.outs.map encOutp), .list (cv0.attrs.map encAttr)])) (hca1 : H[ca1]? = some (.cells [.list (cv1.state.map (V.int .i64)), .int .i64 cv1.prev, .int .i64 cv1.step.inputs, .int .i64 cv1.step.rule])) (hca2 : H[ca2]? = some (.cells [.int .i64 cv2])) (a0_ : List Int) (R : Bool) (hR0 : cP F cv0 cv1 cv2 a0_ = some R) : callw X bs 85 [.list (a0_.map (V.int .i64)), .ptr ca0 0, .ptr ca1 0, .ptr ca2 0] H = some (.bool R, H) := by
 refine yw2 (rs := [.tmp 5]) (N := 15) (fn := Tryz.f85) xk85 xf85 ?_
 have hca0_l := aa hca0
 have hca0_a := get_app' hca0
 have hca1_l := aa hca1
 have hca1_a := get_app' hca1
 have hca2_l := aa hca2
 have hca2_a := get_app' hca2
 have hR := Kp.mk hR0
 clear hR0
 rw [cP] at hR
 obtain ⟨y1, y1_e, hR⟩ := bindE hR
 have y1_k := fun bs H => cD bs H F cv0 a0_ cv1.state y1 y1_e
 (try simp only [cellsDesg, encDesg, encInts] at y1_k)
 obtain ⟨x2, x2_e, hR⟩ := bindE hR
 obtain ⟨x2_p, x2_e⟩ := idxE x2_e
 obtain rfl := someE hR
 try refine zu ?_
 (refine yw1 (id := 1) [0, 1, 2, 3, 5, 4, 6, 7, 8, 9] [(4, 5)] ?_)
 exact zv
def bi (F : Nat) (s_ : List (List Int)) (cv0 : Desg) (cv1 : DVisit) (cv2 : Int) : Nat → Nat → Option (Oc (Nat) (Unit))
 | 0, _ => none
 | k + 1, s1 => (if (decide ((s1 : Int) < (s_.length : Int))) = true then ((s_[s1]?).bind fun x4 => ((cP F cv0 cv1 cv2 x4).bind fun y5 => (if y5 = true then some (.a s1) else (if inI ((s1 : Int) + 1) then bi F s_ cv0 cv1 cv2 k (s1 + 1) else none)))) else some (.b ()))
theorem lM (bs : List Nat) (H : Heap) (F : Nat) (ca0 : Nat) (ca1 : Nat) (ca2 : Nat) (cv0 : Desg) (cv1 : DVisit) (cv2 : Int) (hca0 : H[ca0]? = some (.cells [.str cv0.name, .list (cv0.inputs.map encPort), .list (cv0.elements.map encElem), .list (cv0.nodes.map encNode), .list (cv0.rules.map encRul), .list (cv0.outs.map encOutp), .list (cv0.attrs.map encAttr)])) (hca1 : H[ca1]? = some (.cells [.list (cv1.state.map (V.int .i64)), .int .i64 cv1.prev, .int .i64 cv1.step.inputs, .int .i64 cv1.step.rule])) (hca2 : H[ca2]? = some (.cells [.int .i64 cv2])) (s_ : List (List Int)) : ∀ k s r ρ H', (∃ J2, H' = H ++ J2 ∧ ρ 0 = .list (s_.map encInts) ∧ ρ 1 = .func 85 [.ptr ca0 0, .ptr ca1 0, .ptr ca2 0] ∧ ρ 7 = .int .i64 (s_.length : Int) ∧ ρ 8 = .int .i64 (s : Int)) → bi F s_ cv0 cv1 cv2 k s = some r → Lp X ⟨19, H.length :: bs⟩ (loopAt Tryz.f161 0) ρ H' ((fun r ex ρ H' => match r with | .a r => ∃ J2, H' = H ++ J2 ∧ ex = .ret ∧ ρ 4 = .int .i64 (r : Int) | .b r => ∃ J2, H' = H ++ J2 ∧ ex = .exit 0) r) := by
 refine ac (fun _ => rfl) ?_
 rintro k s1 r ρ H' ⟨J2, hH, h0, h1, h7, h8⟩ hR
 skip
 subst hH
 rw [bi] at hR
 have hca0_l := aa hca0
 have hca0_a := get_app' hca0
 have hca1_l := aa hca1
 have hca1_a := get_app' hca1
 have hca2_l := aa hca2
 have hca2_a := get_app' hca2
 conv => arg 3; whnf
 try refine zw ?_
 rcases iteE hR with ⟨c3, hR⟩ | ⟨c3, hR⟩
 ·obtain ⟨x4, x4_e, hR⟩ := bindE hR
  obtain ⟨y5, y5_e, hR⟩ := bindE hR
  have y5_k := fun (bs : List Nat) (l : Heap) => iC bs (H ++ l) F ca0 ca1 ca2 cv0 cv1 cv2 gt gt gt x4 y5 y5_e
  have y5_k0 := fun (bs : List Nat) => iC bs H F ca0 ca1 ca2 cv0 cv1 cv2 gt gt gt x4 y5 y5_e
  try refine zw ?_
  clear y5_k y5_k0
  rcases iteE hR with ⟨c6, hR⟩ | ⟨c6, hR⟩
  ·obtain rfl := someE hR
   refine zu ?_
   exact ⟨_, hq, rfl, sl⟩
  ·obtain ⟨g7, hR⟩ := grdE hR
   have g7_w := ae g7
   refine zu ?_
   exact ⟨(s1 + 1), ⟨_, hq, sl, sl, sl, sl⟩, hR.out⟩
 ·obtain rfl := someE hR
  refine zu ?_
  exact ⟨_, hq, rfl⟩
def cK (F : Nat) (s_ : List (List Int)) (cv0 : Desg) (cv1 : DVisit) (cv2 : Int) : List (List Int) → Nat → Unit → Option (Oc (Nat) (Unit))
 | [], s1, _ => some (.b ())
 | x_ :: r_, s1, _ => ((cP F cv0 cv1 cv2 x_).bind fun y5 => (if y5 = true then some (.a s1) else cK F s_ cv0 cv1 cv2 r_ (s1 + 1) ()))
theorem gU (F : Nat) (s_ : List (List Int)) (cv0 : Desg) (cv1 : DVisit) (cv2 : Int) (hl_ : s_.length ≤ 1000000) : ∀ r_ i_ k_ (o_ : Unit), s_.drop i_ = r_ → r_.length < k_ → bi F s_ cv0 cv1 cv2 k_ i_ = cK F s_ cv0 cv1 cv2 r_ i_ o_
 | _, _, 0, _, _, hk => absurd hk (Nat.not_lt_zero _)
 | [], i_, k_ + 1, _, hd, _ => by rw [bi, cK]; simp only [aj hd, Bool.false_eq_true, if_false]
 | x_ :: r_, i_, k_ + 1, _, hd, hk => by
  have ih := gU F s_ cv0 cv1 cv2 hl_ r_ (i_ + 1) k_ () (ah hd) (Nat.lt_of_succ_lt_succ hk)
  rw [bi, cK]; simp only [az hd, ap hd, if_pos (aC hd hl_), Option.bind_some, if_true, ih]
def fz (F : Nat) (cv0 : Desg) (cv1 : DVisit) (cv2 : Int) (s_ : List (List Int)) : Option (Int) := ((bi F s_ cv0 cv1 cv2 F 0).bind fun o8 => match o8 with | .a o9 => some (o9 : Int) | .b o11 => some (-1))
theorem iU (bs : List Nat) (H : Heap) (F : Nat) (ca0 : Nat) (ca1 : Nat) (ca2 : Nat) (cv0 : Desg) (cv1 : DVisit) (cv2 : Int) (hca0 : H[ca0]? = some (.cells [.str cv0.name, .list (cv0.inputs.map encPort), .list (cv0.elements.map encElem), .list (cv0.nodes.map encNode), .list (cv0.rules.map encRul), .list (cv0.outs.map encOutp), .list (cv0.attrs.map encAttr)])) (hca1 : H[ca1]? = some (.cells [.list (cv1.state.map (V.int .i64)), .int .i64 cv1.prev, .int .i64 cv1.step.inputs, .int .i64 cv1.step.rule])) (hca2 : H[ca2]? = some (.cells [.int .i64 cv2])) (s_ : List (List Int)) (R : Int) (hR0 : fz F cv0 cv1 cv2 s_ = some R) : callw X bs 161 [.list (s_.map encInts), .func 85 [.ptr ca0 0, .ptr ca1 0, .ptr ca2 0]] H = some (.int .i64 R, H) := by
 refine yw2 (rs := [.tmp 4]) (N := 19) (fn := Tryz.f161) Dd M7 ?_
 have hca0_l := aa hca0
 have hca0_a := get_app' hca0
 have hca1_l := aa hca1
 have hca1_a := get_app' hca1
 have hca2_l := aa hca2
 have hca2_a := get_app' hca2
 have hR := Kp.mk hR0
 clear hR0
 rw [fz] at hR
 obtain ⟨o8, o8_e, hR⟩ := bindE hR
 refine zu ?_
 refine ab (af (c := (loopAt Tryz.f161 0)) rfl (lM _ H F ca0 ca1 ca2 cv0 cv1 cv2 hca0 hca1 hca2 s_ _ 0 o8 _ _ ⟨[], by simp, sl, sl, sl, sl⟩ o8_e)) ?_
 rcases o8 with o9 | o11
 ·rintro ex ρ' H' ⟨J10, rfl, rfl, q4_o9⟩ hf
  clear hf
  obtain rfl := someE hR
  exact zv
 ·rintro ex ρ' H' ⟨J12, rfl, rfl⟩ hf
  clear hf
  obtain rfl := someE hR
  exact zv
def fg (F : Nat) (cv0 : Desg) (cv1 : DVisit) (cv2 : Int) (s_ : List (List Int)) : Option (Bool) := ((fz F cv0 cv1 cv2 s_).bind fun y1 => some (decide ((0 : Int) ≤ y1)))
theorem mN (bs : List Nat) (H : Heap) (F : Nat) (ca0 : Nat) (ca1 : Nat) (ca2 : Nat) (cv0 : Desg) (cv1 : DVisit) (cv2 : Int) (hca0 : H[ca0]? = some (.cells [.str cv0.name, .list (cv0.inputs.map encPort), .list (cv0.elements.map encElem), .list (cv0.nodes.map encNode), .list (cv0.rules.map encRul), .list (cv0.outs.map encOutp), .list (cv0.attrs.map encAttr)])) (hca1 : H[ca1]? = some (.cells [.list (cv1.state.map (V.int .i64)), .int .i64 cv1.prev, .int .i64 cv1.step.inputs, .int .i64 cv1.step.rule])) (hca2 : H[ca2]? = some (.cells [.int .i64 cv2])) (s_ : List (List Int)) (R : Bool) (hR0 : fg F cv0 cv1 cv2 s_ = some R) : callw X bs 84 [.list (s_.map encInts), .func 85 [.ptr ca0 0, .ptr ca1 0, .ptr ca2 0]] H = some (.bool R, H) := by
 refine yw2 (rs := [.tmp 4]) (N := 9) (fn := Tryz.f84) xk84 xf84 ?_
 have hca0_l := aa hca0
 have hca0_a := get_app' hca0
 have hca1_l := aa hca1
 have hca1_a := get_app' hca1
 have hca2_l := aa hca2
 have hca2_a := get_app' hca2
 have hR := Kp.mk hR0
 clear hR0
 rw [fg] at hR
 obtain ⟨y1, y1_e, hR⟩ := bindE hR
 have y1_k := fun (bs : List Nat) (l : Heap) => iU bs (H ++ l) F ca0 ca1 ca2 cv0 cv1 cv2 gt gt gt s_ y1 y1_e
 have y1_k0 := fun (bs : List Nat) => iU bs H F ca0 ca1 ca2 cv0 cv1 cv2 gt gt gt s_ y1 y1_e
 obtain rfl := someE hR
 exact zv
def cz (F : Nat) (cv0 : List (List Int)) (cv1 : Desg) (cv2 : Int) (v : DVisit) : Option (Bool) := ((fg F cv1 v cv2 cv0).bind fun y1 => some y1)
theorem jt (bs : List Nat) (H : Heap) (F : Nat) (ca0 : Nat) (ca1 : Nat) (ca2 : Nat) (cv0 : List (List Int)) (cv1 : Desg) (cv2 : Int) (hca0 : H[ca0]? = some (.cells [.list (cv0.map encInts)])) (hca1 : H[ca1]? = some (.cells [.str cv1.name, .list (cv1.inputs.map encPort), .list (cv1.elements.map encElem), .list (cv1.nodes.map encNode), .list (cv1.rules.map encRul), .list (cv1.outs.map encOutp), .list (cv1.attrs.map encAttr)])) (hca2 : H[ca2]? = some (.cells [.int .i64 cv2])) (v : DVisit) (R : Bool) (hR0 : cz F cv0 cv1 cv2 v = some R) : callw X bs 83 [(encDVisit v), .ptr ca0 0, .ptr ca1 0, .ptr ca2 0] H = some (.bool R, H) := by
 refine yw2 (rs := [.tmp 5]) (N := 9) (fn := Tryz.f83) xk83 xf83 ?_
 have hca0_l := aa hca0
 have hca0_a := get_app' hca0
 have hca1_l := aa hca1
 have hca1_a := get_app' hca1
 have hca2_l := aa hca2
 have hca2_a := get_app' hca2
 have hR := Kp.mk hR0
 clear hR0
 rw [cz] at hR
 (try simp only [cellsDStep, cellsDVisit, encDStep, encDVisit, encInts])
 obtain ⟨y1, y1_e, hR⟩ := bindE hR
 have y1_k := fun (bs : List Nat) (J : Heap) => mN bs (H ++ .cells [.list (v.state.map (V.int .i64)), .int .i64 v.prev, .int .i64 v.step.inputs, .int .i64 v.step.rule] :: J) F ca1 H.length ca2 cv1 v cv2 gt gt gt cv0 y1 y1_e
 obtain rfl := someE hR
 exact zv
def bj (F : Nat) (s_ : List DVisit) (cv0 : List (List Int)) (cv1 : Desg) (cv2 : Int) : Nat → Nat → Option (Oc (Nat) (Unit))
 | 0, _ => none
 | k + 1, s1 => (if (decide ((s1 : Int) < (s_.length : Int))) = true then ((s_[s1]?).bind fun x4 => ((cz F cv0 cv1 cv2 x4).bind fun y5 => (if y5 = true then some (.a s1) else (if inI ((s1 : Int) + 1) then bj F s_ cv0 cv1 cv2 k (s1 + 1) else none)))) else some (.b ()))
theorem lN (bs : List Nat) (H : Heap) (F : Nat) (ca0 : Nat) (ca1 : Nat) (ca2 : Nat) (cv0 : List (List Int)) (cv1 : Desg) (cv2 : Int) (hca0 : H[ca0]? = some (.cells [.list (cv0.map encInts)])) (hca1 : H[ca1]? = some (.cells [.str cv1.name, .list (cv1.inputs.map encPort), .list (cv1.elements.map encElem), .list (cv1.nodes.map encNode), .list (cv1.rules.map encRul), .list (cv1.outs.map encOutp), .list (cv1.attrs.map encAttr)])) (hca2 : H[ca2]? = some (.cells [.int .i64 cv2])) (s_ : List DVisit) : ∀ k s r ρ H', (∃ J2, H' = H ++ J2 ∧ ρ 0 = .list (s_.map encDVisit) ∧ ρ 1 = .func 83 [.ptr ca0 0, .ptr ca1 0, .ptr ca2 0] ∧ ρ 7 = .int .i64 (s_.length : Int) ∧ ρ 8 = .int .i64 (s : Int)) → bj F s_ cv0 cv1 cv2 k s = some r → Lp X ⟨19, H.length :: bs⟩ (loopAt Tryz.f82 0) ρ H' ((fun r ex ρ H' => match r with | .a r => ∃ J2, H' = H ++ J2 ∧ ex = .ret ∧ ρ 4 = .int .i64 (r : Int) | .b r => ∃ J2, H' = H ++ J2 ∧ ex = .exit 0) r) := by
 refine ac (fun _ => rfl) ?_
 rintro k s1 r ρ H' ⟨J2, hH, h0, h1, h7, h8⟩ hR
 skip
 subst hH
 rw [bj] at hR
 have hca0_l := aa hca0
 have hca0_a := get_app' hca0
 have hca1_l := aa hca1
 have hca1_a := get_app' hca1
 have hca2_l := aa hca2
 have hca2_a := get_app' hca2
 conv => arg 3; whnf
 try refine zw ?_
 rcases iteE hR with ⟨c3, hR⟩ | ⟨c3, hR⟩
 ·obtain ⟨x4, x4_e, hR⟩ := bindE hR
  obtain ⟨y5, y5_e, hR⟩ := bindE hR
  have y5_k := fun (bs : List Nat) (l : Heap) => jt bs (H ++ l) F ca0 ca1 ca2 cv0 cv1 cv2 gt gt gt x4 y5 y5_e
  (try simp only [cellsDStep, cellsDVisit, encDStep, encDVisit, encInts] at y5_k)
  have y5_k0 := fun (bs : List Nat) => jt bs H F ca0 ca1 ca2 cv0 cv1 cv2 gt gt gt x4 y5 y5_e
  (try simp only [cellsDStep, cellsDVisit, encDStep, encDVisit, encInts] at y5_k0)
  try refine zw ?_
  clear y5_k y5_k0
  rcases iteE hR with ⟨c6, hR⟩ | ⟨c6, hR⟩
  ·obtain rfl := someE hR
   refine zu ?_
   exact ⟨_, hq, rfl, sl⟩
  ·obtain ⟨g7, hR⟩ := grdE hR
   have g7_w := ae g7
   refine zu ?_
   exact ⟨(s1 + 1), ⟨_, hq, sl, sl, sl, sl⟩, hR.out⟩
 ·obtain rfl := someE hR
  refine zu ?_
  exact ⟨_, hq, rfl⟩
def cL (F : Nat) (s_ : List DVisit) (cv0 : List (List Int)) (cv1 : Desg) (cv2 : Int) : List DVisit → Nat → Unit → Option (Oc (Nat) (Unit))
 | [], s1, _ => some (.b ())
 | x_ :: r_, s1, _ => ((cz F cv0 cv1 cv2 x_).bind fun y5 => (if y5 = true then some (.a s1) else cL F s_ cv0 cv1 cv2 r_ (s1 + 1) ()))
theorem gV (F : Nat) (s_ : List DVisit) (cv0 : List (List Int)) (cv1 : Desg) (cv2 : Int) (hl_ : s_.length ≤ 1000000) : ∀ r_ i_ k_ (o_ : Unit), s_.drop i_ = r_ → r_.length < k_ → bj F s_ cv0 cv1 cv2 k_ i_ = cL F s_ cv0 cv1 cv2 r_ i_ o_
 | _, _, 0, _, _, hk => absurd hk (Nat.not_lt_zero _)
 | [], i_, k_ + 1, _, hd, _ => by rw [bj, cL]; simp only [aj hd, Bool.false_eq_true, if_false]
 | x_ :: r_, i_, k_ + 1, _, hd, hk => by
  have ih := gV F s_ cv0 cv1 cv2 hl_ r_ (i_ + 1) k_ () (ah hd) (Nat.lt_of_succ_lt_succ hk)
  rw [bj, cL]; simp only [az hd, ap hd, if_pos (aC hd hl_), Option.bind_some, if_true, ih]
def fC (F : Nat) (cv0 : List (List Int)) (cv1 : Desg) (cv2 : Int) (s_ : List DVisit) : Option (Int) := ((bj F s_ cv0 cv1 cv2 F 0).bind fun o8 => match o8 with | .a o9 => some (o9 : Int) | .b o11 => some (-1))
theorem nC (bs : List Nat) (H : Heap) (F : Nat) (ca0 : Nat) (ca1 : Nat) (ca2 : Nat) (cv0 : List (List Int)) (cv1 : Desg) (cv2 : Int) (hca0 : H[ca0]? = some (.cells [.list (cv0.map encInts)])) (hca1 : H[ca1]? = some (.cells [.str cv1.name, .list (cv1.inputs.map encPort), .list (cv1.elements.map encElem), .list (cv1.nodes.map encNode), .list (cv1.rules.map encRul), .list (cv1.outs.map encOutp), .list (cv1.attrs.map encAttr)])) (hca2 : H[ca2]? = some (.cells [.int .i64 cv2])) (s_ : List DVisit) (R : Int) (hR0 : fC F cv0 cv1 cv2 s_ = some R) : callw X bs 82 [.list (s_.map encDVisit), .func 83 [.ptr ca0 0, .ptr ca1 0, .ptr ca2 0]] H = some (.int .i64 R, H) := by
 refine yw2 (rs := [.tmp 4]) (N := 19) (fn := Tryz.f82) xk82 xf82 ?_
 have hca0_l := aa hca0
 have hca0_a := get_app' hca0
 have hca1_l := aa hca1
 have hca1_a := get_app' hca1
 have hca2_l := aa hca2
 have hca2_a := get_app' hca2
 have hR := Kp.mk hR0
 clear hR0
 rw [fC] at hR
 obtain ⟨o8, o8_e, hR⟩ := bindE hR
 refine zu ?_
 refine ab (af (c := (loopAt Tryz.f82 0)) rfl (lN _ H F ca0 ca1 ca2 cv0 cv1 cv2 hca0 hca1 hca2 s_ _ 0 o8 _ _ ⟨[], by simp, sl, sl, sl, sl⟩ o8_e)) ?_
 rcases o8 with o9 | o11
 ·rintro ex ρ' H' ⟨J10, rfl, rfl, q4_o9⟩ hf
  clear hf
  obtain rfl := someE hR
  exact zv
 ·rintro ex ρ' H' ⟨J12, rfl, rfl⟩ hf
  clear hf
  obtain rfl := someE hR
  exact zv
def cA (F : Nat) : Nat → (Nat × Int × (List DStep)) → Option ((List DStep))
 | 0, _ => none
 | k + 1, (s14, s15, s16) => (if (decide ((s14 : Int) < s15)) = true then ((idxI s16 s15).bind fun x19 => ((s16[s14]?).bind fun x20 => ((idxI (s16.set s14 x19) s15).bind fun x23 => (if inI ((s14 : Int) + 1) then (if inI (s15 - 1) then cA F k ((s14 + 1), (s15 - 1), ((s16.set s14 x19).set s15.toNat x20)) else none) else none)))) else some s16)
theorem og (bs : List Nat) (H : Heap) (F : Nat) (ca0 : Nat) (cv0 : List DStep) (vv0 : Nat) (lv0 : Nat) (hca0 : ca0 < H.length) (hl_ca0 : cv0.length = lv0) : ∀ k s r ρ H', (∃ J17, H' = (H.set ca0 (.arr (s.2.2.map encDStep) vv0)) ++ J17 ∧ ρ 0 = .ref 2 ca0 vv0 0 lv0 ∧ ρ 2 = .int .i64 (s.1 : Int) ∧ ρ 3 = .int .i64 s.2.1 ∧ Kp (s.2.2.length = lv0)) → cA F k s = some r → Lp X ⟨28, H.length :: bs⟩ (loopAt Tryz.f86 0) ρ H' ((fun r ex ρ H' => ∃ J17, H' = (H.set ca0 (.arr (r.map encDStep) vv0)) ++ J17 ∧ ex = .exit 0 ∧ Kp (r.length = lv0)) r) := by
 refine ac (fun _ => rfl) ?_
 rintro k ⟨s14, s15, s16⟩ r ρ H' ⟨J17, hH, h0, h2, h3, hl0⟩ hR
 simp only at hH h0 h2 h3 hl0
 subst hH
 rw [cA] at hR
 have hca0_a := @fQ H (h := hca0)
 have hca0_b := @dU H (h := hca0)
 have hca0_s := @fJ H (h := hca0)
 conv => arg 3; whnf
 try refine zw ?_
 rcases iteE hR with ⟨c18, hR⟩ | ⟨c18, hR⟩
 ·obtain ⟨x19, x19_e, hR⟩ := bindE hR
  obtain ⟨x19_p, x19_e⟩ := idxE x19_e
  have x19_l : s15.toNat < lv0 := Nat.lt_of_lt_of_eq (aa x19_e) hl0.out
  obtain ⟨x20, x20_e, hR⟩ := bindE hR
  have x20_l : s14 < lv0 := Nat.lt_of_lt_of_eq (aa x20_e) hl0.out
  have ms22 := (List.map_set (f := encDStep) (l := s16) (i := s14) (a := x19)).symm
  simp only [cellsDStep, encDStep, encInts] at ms22
  obtain ⟨x23, x23_e, hR⟩ := bindE hR
  obtain ⟨x23_p, x23_e⟩ := idxE x23_e
  have x23_l : s15.toNat < lv0 := Nat.lt_of_lt_of_eq (aa x23_e) (List.length_set.trans hl0.out)
  have ms24 := (List.map_set (f := encDStep) (l := (s16.set s14 x19)) (i := s15.toNat) (a := x20)).symm
  simp only [cellsDStep, encDStep, encInts] at ms24
  obtain ⟨g25, hR⟩ := grdE hR
  have g25_w := ae g25
  obtain ⟨g26, hR⟩ := grdE hR
  have g26_w := ae g26
  try refine zu ?_
  (refine yw0 (id := 3) oz54 ?_)
  try refine zu ?_
  exact ⟨((s14 + 1), (s15 - 1), ((s16.set s14 x19).set s15.toNat x20)), ⟨_, hq, sl, sl, sl, ⟨(List.length_set.trans (List.length_set.trans hl0.out))⟩⟩, hR.out⟩
 ·obtain rfl := someE hR
  refine zu ?_
  exact ⟨_, hq, rfl, ⟨hl0.out⟩⟩
def fM (F : Nat) (cv0 : List DStep) (lv0 : Nat) : Option ((List DStep)) := (if inI ((lv0 : Int) - 1) then ((cA F F (0, ((lv0 : Int) - 1), cv0)).bind fun o28 => some o28) else none)
theorem qD (bs : List Nat) (H : Heap) (F : Nat) (ca0 : Nat) (cv0 : List DStep) (vv0 : Nat) (lv0 : Nat) (hca0 : ca0 < H.length) (hl_ca0 : cv0.length = lv0) (R : (List DStep)) (hR0 : fM F cv0 lv0 = some R) : callw X bs 86 [.ref 2 ca0 vv0 0 lv0] (H.set ca0 (.arr (cv0.map encDStep) vv0)) = some (.undef, (H.set ca0 (.arr (R.map encDStep) vv0))) := by
 refine yw2 (rs := []) (N := 28) (fn := Tryz.f86) xk86 xf86 ?_
 simp only [List.length_set]
 have hca0_a := @fQ H (h := hca0)
 have hca0_b := @dU H (h := hca0)
 have hca0_s := @fJ H (h := hca0)
 have hR := Kp.mk hR0
 clear hR0
 rw [fM] at hR
 obtain ⟨g1, hR⟩ := grdE hR
 have g1_w := ae g1
 obtain ⟨o28, o28_e, hR⟩ := bindE hR
 refine zu ?_
 refine ab (af (c := (loopAt Tryz.f86 0)) rfl (og _ H F ca0 cv0 vv0 lv0 hca0 hl_ca0 _ (0, ((lv0 : Int) - 1), cv0) o28 _ _ ⟨[], by simp, sl, sl, sl, ⟨hl_ca0⟩⟩ o28_e)) ?_
 rintro ex ρ' H' ⟨J29, rfl, rfl, hl_o28_0⟩ hf
 clear hf
 obtain rfl := someE hR
 refine zu ?_
 all_goals exact Cu (fun _ h_ => by cases h_) rfl (by first | exact List.take_left' (by simp only [List.length_set]) | exact List.take_of_length_le (by simp only [List.length_set, Nat.le_refl]) | simp)
def cg (F : Nat) (inputs : List (List Int)) (y1 : Desg × Int) : Nat → (Int × (List DStep) × Nat) → Option ((List DStep) × Nat)
 | 0, _ => none
 | k + 1, (s53, s60, s61) => ((idxI ((searchD y1.1 inputs).1) s53).bind fun x63 => (if (decide ((0 : Int) ≤ x63.prev)) = true then (if (s60.length + 1) ≤ 1000000 then cg F inputs y1 k (x63.prev, (s60 ++ [x63.step]), (s61 + 1)) else none) else some (s60, s61)))
theorem mG (bs : List Nat) (H : Heap) (F : Nat) (inputs : List (List Int)) (y1 : Desg × Int) (a54 : HObj) (a55 : HObj) (a56 : HObj) (a57 : HObj) (a58 : HObj) (a59 : HObj) : ∀ k s r ρ H', (∃ J62, H' = H ++ a54 :: a55 :: a56 :: .tok 0 :: a57 :: a58 :: a59 :: .arr (s.2.1.map encDStep) s.2.2 :: J62 ∧ ρ 10 = .list (((searchD y1.1 inputs).1).map encDVisit) ∧ ρ 11 = .int .i64 s.1 ∧ ρ 12 = .ref 2 (H.length + 7) s.2.2 0 s.2.1.length) → cg F inputs y1 k s = some r → Lp X2 ⟨65, H.length :: bs⟩ (loopAt Tryz.f30 0) ρ H' ((fun r ex ρ H' => ∃ J62, H' = H ++ a54 :: a55 :: a56 :: .tok 0 :: a57 :: a58 :: a59 :: .arr (r.1.map encDStep) r.2 :: J62 ∧ ex = .exit 0 ∧ ρ 12 = .ref 2 (H.length + 7) r.2 0 r.1.length) r) := by
 refine ac (fun _ => rfl) ?_
 rintro k ⟨s53, s60, s61⟩ r ρ H' ⟨J62, hH, h10, h11, h12⟩ hR
 simp only at hH h10 h11 h12
 subst hH
 rw [cg] at hR
 conv => arg 3; whnf
 obtain ⟨x63, x63_e, hR⟩ := bindE hR
 obtain ⟨x63_p, x63_e⟩ := idxE x63_e
 try refine zw ?_
 rcases iteE hR with ⟨c64, hR⟩ | ⟨c64, hR⟩
 ·obtain ⟨g66, hR⟩ := grdE hR
  have g66_r := iq (n := (s60.length + 1)) (k := 16) g66 (by omega)
  have g66_t := fI encDStep (l := s60) (n := s60.length) rfl
  have g66_u := ij (l := s60) (n := s60.length) rfl
  have g66_m := (List.map_append (f := encDStep) (l₁ := s60) (l₂ := [x63.step])).symm
  simp only [cellsDStep, encDStep, encInts, List.map_cons, List.map_nil] at g66_m
  refine zu ?_
  exact ⟨(x63.prev, (s60 ++ [x63.step]), (s61 + 1)), ⟨_, hq, sl, sl, sl⟩, hR.out⟩
 ·obtain rfl := someE hR
  refine zu ?_
  exact ⟨_, hq, rfl, sl⟩
def eD (F : Nat) (d : Desg) (inputs : List (List Int)) (node : Int) : Option ((List DStep) × Int) := ((fd F d inputs).bind fun y1 => ((aQ F d node).bind fun y2 => (if y2 = true then (if (decide (¬y1.2 = 0)) = true then some ([], y1.2) else (if OkD y1.1 then (if inputs.length ≤ 1000000 then (if ∀ l ∈ inputs, LeafOk (inWs y1.1) l then (if (decide (¬(searchD y1.1 inputs).2 = 0)) = true then some ([], 16) else ((fC F inputs y1.1 node ((searchD y1.1 inputs).1)).bind fun y10 => (if (decide (y10 < 0)) = true then some ([], 12) else ((idxI ((searchD y1.1 inputs).1) y10).bind fun x22 => (if (decide ((0 : Int) ≤ x22.prev)) = true then ((cg F inputs y1 F (x22.prev, [x22.step], 0)).bind fun o69 => ((fM F o69.1 o69.1.length).bind fun y71 => (if y71.length = o69.1.length then some (y71, 0) else none))) else some ([], 0)))))) else none) else none) else none)) else (if (decide (¬y1.2 = 0)) = true then some ([], y1.2) else some ([], 9)))))
theorem jW (bs : List Nat) (H : Heap) (F : Nat) (d : Desg) (inputs : List (List Int)) (node : Int) (R : (List DStep) × Int) (hR0 : eD F d inputs node = some R) : callw X2 bs 30 [(encDesg d), .list (inputs.map encInts), .int .i64 node] H = some (.tuple [.list (R.1.map encDStep), .int .i64 R.2], H) := by
 refine yw2 (rs := [.tmp 6, .tmp 7]) (N := 65) (fn := Tryz.f30) xk30 xf30 ?_
 have hR := Kp.mk hR0
 clear hR0
 rw [eD] at hR
 (try simp only [cellsDesg, encDesg, encInts])
 obtain ⟨y1, y1_e, hR⟩ := bindE hR
 have y1_k := fun bs H => cR (pi bs H F d inputs y1 y1_e)
 (try simp only [cellsDesg, encDesg, encInts] at y1_k)
 obtain ⟨y2, y2_e, hR⟩ := bindE hR
 have y2_k := fun bs H => cR (eW bs H F d node y2 y2_e)
 (try simp only [cellsDesg, encDesg, encInts] at y2_k)
 rcases iteE hR with ⟨c3, hR⟩ | ⟨c3, hR⟩
 ·rcases iteE hR with ⟨c4, hR⟩ | ⟨c4, hR⟩
  ·have c4_p := of_decide_eq_true c4
   obtain rfl := someE hR
   exact zv
  ·have c4_p := Decidable.not_not.1 (of_decide_eq_false c4)
   obtain ⟨g5, hR⟩ := grdE hR
   obtain ⟨g6, hR⟩ := grdE hR
   obtain ⟨g7, hR⟩ := grdE hR
   rcases iteE hR with ⟨c9, hR⟩ | ⟨c9, hR⟩
   ·have c8_k := fun bs H => Gb bs H y1.1 inputs g5 g6 g7 (of_decide_eq_true c9)
    (try simp only [cellsDStep, cellsDVisit, cellsDesg, encDStep, encDVisit, encDesg, encInts] at c8_k)
    obtain rfl := someE hR
    exact zv
   ·have c8_k := fun bs H => Gc bs H y1.1 inputs g5 g6 g7 (Decidable.not_not.1 (of_decide_eq_false c9))
    (try simp only [cellsDStep, cellsDVisit, cellsDesg, encDStep, encDVisit, encDesg, encInts] at c8_k)
    obtain ⟨y10, y10_e, hR⟩ := bindE hR
    have y10_k := fun (bs : List Nat) (u0 u1 : HObj) (J : Heap) => cR (nC bs (H ++ u0 :: .cells [.list (inputs.map encInts)] :: .cells [.int .i64 node] :: u1 :: .cells [.str y1.1.name, .list (y1.1.inputs.map encPort), .list (y1.1.elements.map encElem), .list (y1.1.nodes.map encNode), .list (y1.1.rules.map encRul), .list (y1.1.outs.map encOutp), .list (y1.1.attrs.map encAttr)] :: J) F (H.length + 1) (H.length + 4) (H.length + 2) inputs y1.1 node gt gt gt ((searchD y1.1 inputs).1) y10 y10_e)
    try refine zw ?_
    clear y1_k y2_k c8_k y10_k
    rcases iteE hR with ⟨c11, hR⟩ | ⟨c11, hR⟩
    ·obtain rfl := someE hR
     exact zv
    ·refine zu ?_
     refine cS ?_
     obtain ⟨x22, x22_e, hR⟩ := bindE hR
     obtain ⟨x22_p, x22_e⟩ := idxE x22_e
     try refine zw ?_
     rcases iteE hR with ⟨c23, hR⟩ | ⟨c23, hR⟩
     ·have rm16 : 16 ≤ roomB := by unfold roomB; omega
      obtain ⟨o69, o69_e, hR⟩ := bindE hR
      refine zu ?_
      refine ab (af (c := (loopAt Tryz.f30 0)) rfl (mG _ H F inputs y1 _ _ _ _ _ _ _ (x22.prev, [x22.step], 0) o69 _ _ ⟨_, hq, sl, sl, sl⟩ o69_e)) ?_
      rintro ex ρ' H' ⟨J70, rfl, rfl, q12_o69⟩ hf
      clear hf
      obtain ⟨y71, y71_e, hR⟩ := bindE hR
      have y71_k := fun (bs : List Nat) (u0 u1 u2 u3 u4 u5 u6 : HObj) (J : Heap) => by
       have h_ := cR (qD bs (H ++ u0 :: u1 :: u2 :: u3 :: u4 :: u5 :: u6 :: .arr (o69.1.map encDStep) o69.2 :: J) F (H.length + 7) o69.1 o69.2 o69.1.length ln rfl y71 y71_e)
       (try simp only [ax, am, aP, aK, aL, aA, List.set_cons_succ, List.set_cons_zero, List.set_set, ai] at h_)
       exact h_
      obtain ⟨g72, hR⟩ := grdE hR
      obtain rfl := someE hR
      have rt0 := fI encDStep (l := y71) (n := o69.1.length) g72
      have rt1 := ij (l := y71) (n := o69.1.length) g72
      exact zv
     ·have rv73_k := fun bs H_ => cR (HG bs H_ ((H.length + 5)))
      obtain rfl := someE hR
      exact zv
 ·rcases iteE hR with ⟨c74, hR⟩ | ⟨c74, hR⟩
  ·have c74_p := of_decide_eq_true c74
   obtain rfl := someE hR
   exact zv
  ·have c74_p := Decidable.not_not.1 (of_decide_eq_false c74)
   obtain rfl := someE hR
   exact zv
end
end Go.E
namespace Go.E
open Classical
def idxO {α : Type} (p : α → Bool) : Nat → List α → Oc Nat Unit
 | _, [] => .b ()
 | i, x :: r => if p x = true then .a i else idxO p (i + 1) r
theorem wB {α : Type} (p : α → Bool) : ∀ (l : List α) (i j : Nat), idxO p i l = .a j → i ≤ j ∧ ∃ x, l[j - i]? = some x ∧ p x = true
 | [], i, j, h => by cases h
 | x :: r, i, j, h => by
  unfold idxO at h
  by_cases hp : p x = true
  ·rw [if_pos hp] at h; cases h; exact ⟨Nat.le_refl _, x, by simp, hp⟩
  ·rw [if_neg hp] at h
   obtain ⟨h1, y, h2, h3⟩ := wB p r (i + 1) j h
   refine ⟨by omega, y, ?_, h3⟩
   rw [show j - i = (j - (i + 1)) + 1 by omega]; simpa using h2
theorem wC {α : Type} (p : α → Bool) : ∀ (l : List α) (i : Nat), (match idxO p i l with | .a _ => true | .b _ => false) = l.any p
 | [], i => rfl
 | x :: r, i => by
  unfold idxO
  rw [List.any_cons]
  by_cases hp : p x = true
  ·simp [hp]
  ·rw [if_neg hp, wC p r (i + 1)]; simp [hp]
theorem sf {α : Type} {L : List α → Nat → Unit → Option (Oc Nat Unit)} (f : α → Option Bool) (g : α → Bool) (h0 : ∀ i s, L [] i s = some (.b ()))
  (h1 : ∀ x r i s, L (x :: r) i s = (f x).bind fun y => if y = true then some (.a i) else L r (i + 1) ()) : ∀ (r : List α) (i : Nat), (∀ x ∈ r, f x = some (g x)) → L r i () = some (idxO g i r)
 | [], i, _ => h0 i ()
 | x :: r, i, hf => by
  rw [h1, hf x (by simp), Option.bind_some, idxO, sf f g h0 h1 r (i + 1) (fun y hy => hf y (by simp [hy]))]
  cases g x <;> simp
def OrdV (l : List DVisit) : Prop := ∀ (j : Nat) v, l[j]? = some v → -1 ≤ v.prev ∧ v.prev < (j : Int)
theorem pj (i : Nat) : ∀ {xs : List (DStep × List Int)} {l l' : List DVisit}, i < l.length → OrdV l → reachR i xs l = some (.a l') → OrdV l' ∧ l.length ≤ l'.length
 | [], l, l', _, hv, h => by cases h; exact ⟨hv, Nat.le_refl _⟩
 | x :: xs, l, l', hi, hv, h => by
  unfold reachR at h
  split at h
  ·exact pj i hi hv h
  ·split at h
   ·cases h
   ·have := pj i (l := l ++ [⟨x.2, (i : Int), x.1⟩]) (by simp; omega) (fun j v hj => by
     rcases Nat.lt_or_ge j l.length with h1 | h1
     ·rw [List.getElem?_append_left h1] at hj; exact hv j v hj
     ·rw [List.getElem?_append_right h1] at hj
      rcases hq : j - l.length with _ | q
      ·rw [hq] at hj; cases hj; simp only; omega
      ·rw [hq] at hj; simp at hj) h
    exact ⟨this.1, by have h5 := this.2; simp at h5; omega⟩
theorem th {d : Desg} {inputs : List (List Int)} (P : List DVisit → Prop) (hstep : ∀ i v l l', l[i]? = some v → P l → reachR i (stepsFrom d v.state inputs 0) l = some (.a l') → P l') :
  ∀ k i l l', P l → reachF d inputs k (i, l) = some (.a l') → P l'
 | 0, i, l, l', _, h => by cases h
 | k + 1, i, l, l', hp, h => by
  unfold reachF at h
  split at h
  ·cases h; exact hp
  ·rename_i v hvi
   obtain ⟨o, ho, h⟩ := Option.bind_eq_some_iff.1 h
   cases o with
   | b u => cases h
   | a l2 => exact th P hstep k (i + 1) l2 l' (hstep i v l l2 hvi hp ho) h
theorem qE {d : Desg} (h : OkD d) {inputs : List (List Int)} (hi : ∀ x ∈ inputs, LeafOk (inWs d) x) (he : (searchD d inputs).2 = 0) : VisOk d (searchD d inputs).1 ∧ OrdV (searchD d inputs).1 ∧ reachF d inputs 302 (0, startD d) = some (.a (searchD d inputs).1) := by
 obtain ⟨o, ho⟩ := iO h hi 302 0 (startD d) (ja h) (by omega) (by omega)
 cases o with
 | b u =>
  have : searchD d inputs = ([], 16) := by unfold searchD; rw [ho]
  rw [this] at he; exact absurd he (by decide)
 | a l =>
  have e : searchD d inputs = (l, 0) := by unfold searchD; rw [ho]
  rw [e]
  have := th (fun l => VisOk d l ∧ OrdV l) (fun i v l l' hv hp hr => ⟨(kD i (jK h (hp.1.st v (List.mem_of_getElem? hv)) inputs 0 hi) hp.1 hr).1, (pj i (aa hv) hp.2 hr).1⟩) 302 0 (startD d) l
   ⟨ja h, fun j v hj => by
    rcases j with _ | j
    ·cases hj; simp only; omega
    ·simp [startD] at hj⟩ ho
  exact ⟨this.1, this.2, ho⟩
def trail (l : List DVisit) : Nat → Int → List DStep
 | 0, _ => []
 | k + 1, i => match l[i.toNat]? with
  | some v => if 0 ≤ v.prev then v.step :: trail l k v.prev else []
  | none => []
theorem lO {l : List DVisit} (ho : OrdV l) : ∀ (k m i : Nat), i < k → i < m → trail l k i = trail l m i
 | 0, m, i, h, _ => by omega
 | k + 1, 0, i, _, h => by omega
 | k + 1, m + 1, i, h1, h2 => by
  unfold trail
  rw [Int.toNat_natCast]
  cases hv : l[i]? with
  | none => rfl
  | some v =>
   have := ho i v hv
   simp only
   by_cases hp : 0 ≤ v.prev
   ·rw [if_pos hp, if_pos hp]
    have e : v.prev = (v.prev.toNat : Int) := by omega
    rw [e, lO ho k m v.prev.toNat (by omega) (by omega)]
   ·rw [if_neg hp, if_neg hp]
theorem qF (l : List DVisit) : ∀ k i, (trail l k i).length ≤ k
 | 0, i => by simp [trail]
 | k + 1, i => by
  unfold trail
  split
  ·split
   ·have := qF l k (by assumption : DVisit).prev; simp; omega
   ·simp
  ·simp
variable {F : Nat} (hF : 1000000 < F)
theorem wD {α : Type} (l : List α) (i : Nat) (h : i < l.length) : l.reverse[i]? = l[l.length - 1 - i]? := by rw [List.getElem?_reverse h]
def revAt {α : Type} (l : List α) (i : Nat) : List α := l.reverse.take i ++ (l.drop i).take (l.length - 2 * i) ++ (l.reverse).drop (l.length - i)
theorem kP {α : Type} (l : List α) (i j : Nat) (hi : 2 * i ≤ l.length) (hi2 : i ≤ l.length) (hj : j < l.length) : (revAt l i)[j]? = if j < i ∨ l.length - i ≤ j then l.reverse[j]? else l[j]? := by
 unfold revAt
 rw [List.append_assoc]
 rcases Nat.lt_or_ge j i with h1 | h1
 ·rw [List.getElem?_append_left (by simp; omega), List.getElem?_take_of_lt h1, if_pos (.inl h1)]
 ·rw [List.getElem?_append_right (by simp; omega)]
  simp only [List.length_take, List.length_reverse]
  rw [Nat.min_eq_left hi2]
  rcases Nat.lt_or_ge j (l.length - i) with h2 | h2
  ·rw [if_neg (by omega), List.getElem?_append_left (by simp; omega), List.getElem?_take_of_lt (by omega), List.getElem?_drop]
   congr 1; omega
  ·rw [if_pos (.inr h2), List.getElem?_append_right (by simp; omega)]
   simp only [List.length_take, List.length_drop, List.getElem?_drop]
   congr 1; omega
theorem nl {α : Type} (l : List α) (i : Nat) (hi : 2 * i ≤ l.length) (hi2 : i ≤ l.length) : (revAt l i).length = l.length := by
 unfold revAt; simp; omega
theorem Gg {α : Type} (l : List α) : revAt l 0 = l := by simp [revAt]
theorem AY {α : Type} (l : List α) (i : Nat) (h1 : l.length ≤ 2 * i + 1) (hi : 2 * i ≤ l.length) (hi2 : i ≤ l.length) : revAt l i = l.reverse := by
 refine List.ext_getElem? fun j => ?_
 rcases Nat.lt_or_ge j l.length with hj | hj
 ·rw [kP l i j hi hi2 hj]
  split
  ·rfl
  ·rw [wD l j hj]; congr 1; omega
 ·rw [List.getElem?_eq_none (by rw [nl l i hi hi2]; exact hj), List.getElem?_eq_none (by simpa using hj)]
theorem zg {α : Type} (l : List α) (i : Nat) (x y : α) (h : 2 * i + 1 < l.length) (hx : l[i]? = some x) (hy : l[l.length - 1 - i]? = some y) :
  ((revAt l i).set i y).set (l.length - 1 - i) x = revAt l (i + 1) := by
 refine List.ext_getElem? fun j => ?_
 have hl := nl l i (by omega) (by omega)
 rcases Nat.lt_or_ge j l.length with hj | hj
 ·rw [kP l (i + 1) j (by omega) (by omega) hj]
  by_cases e1 : l.length - 1 - i = j
  ·subst e1
   rw [List.getElem?_set_self (by simp [hl]; omega), if_pos (.inr (by omega)), wD l _ hj, show l.length - 1 - (l.length - 1 - i) = i by omega, hx]
  ·rw [List.getElem?_set_ne e1]
   by_cases e2 : i = j
   ·subst e2
    rw [List.getElem?_set_self (by rw [hl]; omega), if_pos (.inl (by omega)), wD l _ hj, hy]
   ·rw [List.getElem?_set_ne e2, kP l i j (by omega) (by omega) hj]
    by_cases c : j < i ∨ l.length - i ≤ j
    ·rw [if_pos c, if_pos (by omega)]
    ·rw [if_neg c, if_neg (by omega)]
 ·rw [List.getElem?_eq_none (by simp [hl]; exact hj), List.getElem?_eq_none (by rw [nl l _ (by omega) (by omega)]; exact hj)]
theorem wE {α : Type} {L : Nat → (Nat × Int × List α) → Option (List α)} (l : List α) (hl : l.length ≤ 1000000)
  (step : ∀ k (i : Nat) (j : Int) (s : List α), (i : Int) < j → L (k + 1) (i, j, s) = (idxI s j).bind fun x => (s[i]?).bind fun y => (idxI (s.set i x) j).bind fun _ => if inI ((i : Int) + 1) then (if inI (j - 1) then L k (i + 1, j - 1, (s.set i x).set j.toNat y) else none) else none)
  (last : ∀ k (i : Nat) (j : Int) (s : List α), ¬(i : Int) < j → L (k + 1) (i, j, s) = some s) :
  ∀ (n i k : Nat), l.length ≤ 2 * i + n → 2 * i ≤ l.length → i ≤ l.length → n < k → L k (i, (l.length : Int) - 1 - i, revAt l i) = some l.reverse
 | n, i, 0, _, _, _, h => by omega
 | n, i, k + 1, h1, h2, h3, h4 => by
  by_cases hlt : (i : Int) < (l.length : Int) - 1 - i
  ·have hi : i < l.length := by omega
   have hj : l.length - 1 - i < l.length := by omega
   have en : ((l.length : Int) - 1 - i).toNat = l.length - 1 - i := by omega
   have hx : l[i]? = some l[i] := bc hi
   have hy : l[l.length - 1 - i]? = some l[l.length - 1 - i] := bc hj
   have a1 : idxI (revAt l i) ((l.length : Int) - 1 - i) = some l[l.length - 1 - i] := by
    unfold idxI; rw [if_pos (by omega), en, kP l i _ h2 h3 hj, if_neg (by omega), hy]
   have a2 : (revAt l i)[i]? = some l[i] := by rw [kP l i _ h2 h3 hi, if_neg (by omega), hx]
   have a3 : ∃ z, idxI ((revAt l i).set i l[l.length - 1 - i]) ((l.length : Int) - 1 - i) = some z := by
    obtain ⟨z, hz, _⟩ := ky (l := (revAt l i).set i l[l.length - 1 - i]) (i := (l.length : Int) - 1 - i) (by omega) (by simp [nl l i h2 h3]; omega)
    exact ⟨z, hz⟩
   obtain ⟨z, a3⟩ := a3
   rw [step k i _ _ hlt, a1, Option.bind_some, a2, Option.bind_some, a3, Option.bind_some, if_pos (in_1 (by omega)), if_pos (by unfold inI; omega), en, zg l i _ _ (by omega) hx hy]
   have := wE l hl step last (n - 2) (i + 1) k (by omega) (by omega) (by omega) (by omega)
   rwa [show (l.length : Int) - 1 - (i + 1 : Nat) = (l.length : Int) - 1 - i - 1 by omega] at this
  ·rw [last k i _ _ hlt, AY l i (by omega) h2 h3]
include hF in
theorem AZ (l : List DStep) (hl : l.length ≤ 1000000) : fM F l l.length = some l.reverse := by
 unfold fM
 have := wE (L := cA F) l hl (fun k i j s h => by rw [cA, if_pos (decide_eq_true h)]) (fun k i j s h => by rw [cA, if_neg (by simpa using h)]) l.length 0 F (by omega) (by omega) (by omega) (by omega)
 rw [Gg, show (l.length : Int) - 1 - (0 : Nat) = (l.length : Int) - 1 by omega] at this
 rw [if_pos (in_m (by omega)), this]; rfl
def listsErrR (d : Desg) (inputs : List (List Int)) : Int := if (designErrR d).2 = 0 then (if inputs.length = 0 then 10 else if 16 < inputs.length then 8 else (eachP (fun _ l => valErrS (inWs d) l) 0 inputs).2) else (designErrR d).2
include hF in
theorem xA {d : Desg} (h : FewD d) (inputs : List (List Int)) (hl : inputs.length ≤ 1000000) (hi : ∀ l ∈ inputs, l.length ≤ 1000000) : fd F d inputs = some (d, listsErrR d inputs) := by
 unfold fd listsErrR
 rw [wz hF h, Option.bind_some]
 by_cases he : (designErrR d).2 = 0
 case neg => rw [if_pos (by simpa using he), if_neg he]
 have ok : OkD d := ⟨h, he⟩
 have e := iT F inputs d hl inputs 0 F () rfl (by omega)
 have k := kz (L := ef F inputs d) (fun i n => dk F d (i : Int) n) (fun _ l => valErrS (inWs d) l) (fun i s => rfl) (fun x r i s => rfl) inputs 0 (fun j x hj => by
  unfold dk
  rw [tL hF ok x (hi x (List.mem_of_getElem? hj))]; rfl)
 have k2 : fL F d inputs = some (eachP (fun _ l => valErrS (inWs d) l) 0 inputs) := by
  unfold fL
  rw [e, k, ← na]
  generalize ocP _ 0 inputs = o
  cases o <;> rfl
 rw [if_neg (by simp [he]), if_pos he, k2, Option.bind_some]
 by_cases h0 : inputs.length = 0
 ·rw [if_neg (by simp [h0]), if_pos h0]; simp [h0]
 rw [if_pos (decide_eq_true (by omega)), if_neg h0]
 by_cases h1 : 16 < inputs.length
 ·rw [if_neg (by simp; omega), if_pos h1]
 rw [if_pos (decide_eq_true (by omega)), if_neg h1]
 by_cases h2 : (eachP (fun _ l => valErrS (inWs d) l) 0 inputs).2 = 0
 ·rw [if_neg (by simp [h2]), h2]
 ·rw [if_pos (by simpa using h2)]
theorem wF {d : Desg} (h : FewD d) {inputs : List (List Int)} (he : listsErrR d inputs = 0) : OkD d ∧ 0 < inputs.length ∧ inputs.length ≤ 16 ∧ ∀ l ∈ inputs, LeafOk (inWs d) l := by
 unfold listsErrR at he
 split at he
 case isFalse h1 => exact absurd he h1
 rename_i h1
 have ok : OkD d := ⟨h, h1⟩
 split at he
 ·omega
 split at he
 ·omega
 exact ⟨ok, by omega, by omega, fun l hl => (fw ok.inW).1 (qp (fun l => valErrS (inWs d) l) inputs he l hl)⟩
def brokenV (d : Desg) (inputs : List (List Int)) (node : Int) (s : List Int) : Bool := inputs.any fun x => decide (at0 (valsD d x s) node.toNat = 0)
def brokenByR (d : Desg) (inputs : List (List Int)) (node : Int) : List DStep × Int :=
 if listsErrR d inputs = 0 then
  if condL d.nodes node = true then
   if (searchD d inputs).2 = 0 then
    match idxO (fun v => brokenV d inputs node v.state) 0 (searchD d inputs).1 with
    | .a i => ((trail (searchD d inputs).1 (i + 1) i).reverse, 0)
    | .b _ => ([], 12)
   else ([], 16)
  else ([], 9)
 else ([], listsErrR d inputs)
include hF in
theorem A0 {d : Desg} (ok : OkD d) {inputs : List (List Int)} (hi : ∀ l ∈ inputs, LeafOk (inWs d) l) (hl : inputs.length ≤ 1000) {node : Int} (hn : condL d.nodes node = true) {v : DVisit} (hv : LeafOk (elWs d) v.state) :
  cz F inputs d node v = some (brokenV d inputs node v.state) := by
 unfold cz fg fz
 have e := gU F inputs d v node (by omega) inputs 0 F () rfl (by omega)
 have k := sf (L := cK F inputs d v node) (fun x => cP F d v node x) (fun x => decide (at0 (valsD d x v.state) node.toNat = 0)) (fun _ _ => rfl) (fun _ _ _ _ => rfl) inputs 0 (fun x hx => by
  unfold cP
  rw [ni hF ok (hi x hx) hv, Option.bind_some, (kf (kC hn) (il d x v.state)).1]; rfl)
 rw [e, k, brokenV, ← wC _ inputs 0]
 cases idxO _ 0 inputs <;> simp
theorem ti {d : Desg} {inputs : List (List Int)} (e : Int) (ho : OrdV (searchD d inputs).1) (hl : (searchD d inputs).1.length ≤ 1000) : ∀ (k i : Nat) (acc : List DStep) (ver : Nat), i < k → i < (searchD d inputs).1.length → acc.length + i ≤ 10000 →
  ∃ v2, cg F inputs (d, e) k ((i : Int), acc, ver) = some (acc ++ trail (searchD d inputs).1 (i + 1) i, v2)
 | 0, i, acc, ver, h, _, _ => by omega
 | k + 1, i, acc, ver, h, hi, ha => by
  rw [cg, trail]
  simp only [ga, Int.toNat_natCast]
  have hg := bc hi
  have hp := ho i _ hg
  rw [hg, Option.bind_some]
  by_cases h0 : 0 ≤ (searchD d inputs).1[i].prev
  ·rw [if_pos (decide_eq_true h0), if_pos (by omega)]
   simp only [if_pos h0]
   have e1 : (searchD d inputs).1[i].prev = ((searchD d inputs).1[i].prev.toNat : Int) := by omega
   obtain ⟨v2, h2⟩ := ti e ho hl k (searchD d inputs).1[i].prev.toNat (acc ++ [(searchD d inputs).1[i].step]) (ver + 1) (by omega) (by omega) (by simp; omega)
   refine ⟨v2, ?_⟩
   rw [← e1] at h2
   rw [h2, List.append_assoc]
   have := lO ho i ((searchD d inputs).1[i].prev.toNat + 1) (searchD d inputs).1[i].prev.toNat (by omega) (by omega)
   rw [← e1] at this
   rw [this]; rfl
  ·rw [if_neg (by simpa using h0)]
   simp only [if_neg h0, List.append_nil]
   exact ⟨ver, rfl⟩
include hF in
theorem tj {d : Desg} (h : FewD d) (inputs : List (List Int)) (node : Int) (hl : inputs.length ≤ 1000) (hi : ∀ l ∈ inputs, l.length ≤ 1000000) : eD F d inputs node = some (brokenByR d inputs node) := by
 unfold eD brokenByR
 rw [xA hF h inputs (by omega) hi, Option.bind_some]
 have hc : aQ F d node = some (condL d.nodes node) := qo d node h.nodes
 rw [hc, Option.bind_some]
 by_cases he : listsErrR d inputs = 0
 case neg =>
  rw [if_neg he]
  cases condL d.nodes node
  ·rw [if_neg (by simp), if_pos (by simpa using he)]
  ·rw [if_pos rfl, if_pos (by simpa using he)]
 obtain ⟨ok, h1, h2, h3⟩ := wF h he
 rw [if_pos he]
 rcases bb (condL d.nodes node) with hn | hn
 case inr => rw [hn, if_neg (by simp), if_neg (by simp [he]), if_neg (by simp)]
 rw [hn, if_pos rfl, if_neg (by simp [he]), if_pos rfl, if_pos ok, if_pos (by omega), if_pos h3]
 by_cases hs : (searchD d inputs).2 = 0
 case neg => rw [if_pos (by simpa using hs), if_neg hs]
 rw [if_neg (by simp [hs]), if_pos hs]
 obtain ⟨hv, ho, _⟩ := qE ok h3 hs
 have hlen := hv.len
 have e := gV F (searchD d inputs).1 inputs d node (by omega) (searchD d inputs).1 0 F () rfl (by omega)
 have k := sf (L := cL F (searchD d inputs).1 inputs d node) (fun v => cz F inputs d node v) (fun v => brokenV d inputs node v.state) (fun _ _ => rfl) (fun _ _ _ _ => rfl) (searchD d inputs).1 0 (fun v hm => A0 hF ok h3 hl hn (hv.st v hm))
 unfold fC
 rw [e, k, Option.bind_some]
 cases hx : idxO (fun v => brokenV d inputs node v.state) 0 (searchD d inputs).1 with
 | b u => rfl
 | a i =>
  obtain ⟨_, v, hvi, hb⟩ := wB _ _ _ _ hx
  rw [Nat.sub_zero] at hvi
  have hlt := aa hvi
  simp only [Option.bind_some]
  rw [if_neg (by simp), ga, hvi, Option.bind_some]
  have hp := ho i v hvi
  by_cases h0 : 0 ≤ v.prev
  ·have e1 : v.prev = (v.prev.toNat : Int) := by omega
   obtain ⟨v2, h2⟩ := ti (F := F) (listsErrR d inputs) ho (by omega) F v.prev.toNat [v.step] 0 (by omega) (by omega) (by simp; omega)
   rw [← e1] at h2
   have htr : trail (searchD d inputs).1 (i + 1) i = [v.step] ++ trail (searchD d inputs).1 (v.prev.toNat + 1) v.prev := by
    rw [trail, Int.toNat_natCast, hvi]
    simp only [if_pos h0]
    have := lO ho i (v.prev.toNat + 1) v.prev.toNat (by omega) (by omega)
    rw [← e1] at this
    rw [this]; rfl
   rw [if_pos (decide_eq_true h0), h2, Option.bind_some, ← htr]
   have hle := qF (searchD d inputs).1 (i + 1) i
   simp only
   rw [AZ hF _ (by omega), Option.bind_some, if_pos (by simp)]
  ·rw [if_neg (by simpa using h0), trail, Int.toNat_natCast, hvi]
   simp [h0]
end Go.E
set_option linter.all false
namespace Go.E
open Go.Proofs Classical
set_option maxRecDepth 100000
set_option maxHeartbeats 1000000
noncomputable section
def no (F : Nat) (d : Desg) (rules : List Int) (inputs : List Int) : Nat → ((List Int) × (List (List Int)) × Nat) → Option (Oc ((List (List Int)) × Nat) ((List (List Int))))
 | 0, _ => none
 | k + 1, (s14, s15, s16) => (if (decide ((s16 : Int) < (rules.length : Int))) = true then ((rules[s16]?).bind fun x19 => ((dG F d x19 inputs s14).bind fun y20 => (if y20 = true then ((cW F d x19 inputs s14).bind fun y23 => (if (s15.length + 1) ≤ 1000000 then (if inI ((s16 : Int) + 1) then no F d rules inputs k (y23, (s15 ++ [y23]), (s16 + 1)) else none) else none)) else some (.a (s15, s16))))) else some (.b s15))
def re (F : Nat) (d : Desg) (rules : List Int) (inputs : List Int) : List Int → Nat → ((List Int) × (List (List Int))) → Option (Oc ((List (List Int)) × Nat) ((List (List Int))))
 | [], s16, (s14, s15) => some (.b s15)
 | x_ :: r_, s16, (s14, s15) => ((dG F d x_ inputs s14).bind fun y20 => (if y20 = true then ((cW F d x_ inputs s14).bind fun y23 => (if (s15.length + 1) ≤ 1000000 then re F d rules inputs r_ (s16 + 1) (y23, (s15 ++ [y23])) else none)) else some (.a (s15, s16))))
def HH (F : Nat) (d : Desg) (rules : List Int) (inputs : List Int) (state : List Int) : Option ((List (List Int)) × Int) := ((eH F d state).bind fun y1 => ((no F d rules inputs F (y1, [y1], 0)).bind fun o26 => match o26 with | .a o27 => some (o27.1, (o27.2 : Int)) | .b o29 => some (o29, (rules.length : Int))))
def fY (F : Nat) (d : Desg) (rules : List Int) : Nat → Nat → Option (Oc (Int) (Unit))
 | 0, _ => none
 | k + 1, s2 => (if (decide ((s2 : Int) < (rules.length : Int))) = true then ((rules[s2]?).bind fun x5 => ((gK F d x5).bind fun y6 => (if (decide (¬y6 = 0)) = true then some (.a y6) else (if inI ((s2 : Int) + 1) then fY F d rules k (s2 + 1) else none)))) else some (.b ()))
theorem zh (bs : List Nat) (H : Heap) (F : Nat) (d : Desg) (rules : List Int) (inputs : List Int) (state : List Int) : ∀ k s r ρ H', (∃ J3, H' = H ++ .cells [.str d.name, .list (d.inputs.map encPort), .list (d.elements.map encElem), .list (d.nodes.map encNode), .list (d.rules.map encRul), .list (d.outs.map encOutp), .list (d.attrs.map encAttr)] :: J3 ∧ ρ 1 = .list (rules.map (V.int .i64)) ∧ ρ 2 = .list (inputs.map (V.int .i64)) ∧ ρ 3 = .list (state.map (V.int .i64)) ∧ ρ 4 = .ptr H.length 0 ∧ ρ 9 = .int .i64 (s : Int)) → fY F d rules k s = some r → Lp X ⟨39, H.length :: bs⟩ (loopAt Tryz.f22 0) ρ H' ((fun r ex ρ H' => match r with | .a r => ∃ J3, H' = H ++ .cells [.str d.name, .list (d.inputs.map encPort), .list (d.elements.map encElem), .list (d.nodes.map encNode), .list (d.rules.map encRul), .list (d.outs.map encOutp), .list (d.attrs.map encAttr)] :: J3 ∧ ex = .ret ∧ ρ 8 = .int .i64 r | .b r => ∃ J3, H' = H ++ .cells [.str d.name, .list (d.inputs.map encPort), .list (d.elements.map encElem), .list (d.nodes.map encNode), .list (d.rules.map encRul), .list (d.outs.map encOutp), .list (d.attrs.map encAttr)] :: J3 ∧ ex = .exit 0) r) := by
 refine ac (fun _ => rfl) ?_
 rintro k s2 r ρ H' ⟨J3, hH, h1, h2, h3, h4, h9⟩ hR
 skip
 subst hH
 rw [fY] at hR
 conv => arg 3; whnf
 try refine zw ?_
 rcases iteE hR with ⟨c4, hR⟩ | ⟨c4, hR⟩
 ·obtain ⟨x5, x5_e, hR⟩ := bindE hR
  obtain ⟨y6, y6_e, hR⟩ := bindE hR
  have y6_k := fun bs H => qz bs H F d x5 y6 y6_e
  (try simp only [cellsDesg, encDesg, encInts] at y6_k)
  try refine zu ?_
  (refine yw0 (id := 6) oz5 ?_)
  try refine zw ?_
  clear y6_k
  rcases iteE hR with ⟨c7, hR⟩ | ⟨c7, hR⟩
  ·obtain rfl := someE hR
   refine zu ?_
   exact ⟨_, hq, rfl, sl⟩
  ·obtain ⟨g8, hR⟩ := grdE hR
   have g8_w := ae g8
   refine zu ?_
   exact ⟨(s2 + 1), ⟨_, hq, sl, sl, sl, sl, sl⟩, hR.out⟩
 ·obtain rfl := someE hR
  refine zu ?_
  exact ⟨_, hq, rfl⟩
def pk (F : Nat) (d : Desg) (rules : List Int) : List Int → Nat → Unit → Option (Oc (Int) (Unit))
 | [], s2, _ => some (.b ())
 | x_ :: r_, s2, _ => ((gK F d x_).bind fun y6 => (if (decide (¬y6 = 0)) = true then some (.a y6) else pk F d rules r_ (s2 + 1) ()))
def Ej (F : Nat) (d : Desg) (rules : List Int) (inputs : List Int) (state : List Int) : Option (Int) := (if (decide ((60 : Int) < (rules.length : Int))) = true then some 8 else ((fY F d rules F 0).bind fun o9 => match o9 with | .a o10 => some o10 | .b o12 => ((bR F d inputs).bind fun y14 => (if (decide (¬y14 = 0)) = true then some y14 else ((rd F d state).bind fun y16 => some y16)))))
def bp (F : Nat) (d : Desg) (l : List (List Int)) : Nat → Nat → Option (Oc (Int) (Unit))
 | 0, _ => none
 | k + 1, s3 => (if (decide ((s3 : Int) < (l.length : Int))) = true then ((l[s3]?).bind fun x6 => ((bR F d x6).bind fun y7 => (if (decide (¬y7 = 0)) = true then some (.a y7) else (if inI ((s3 : Int) + 1) then bp F d l k (s3 + 1) else none)))) else some (.b ()))
theorem nD (bs : List Nat) (H : Heap) (F : Nat) (d : Desg) (l : List (List Int)) : ∀ k s r ρ H', (∃ J4, H' = H ++ .cells [.str d.name, .list (d.inputs.map encPort), .list (d.elements.map encElem), .list (d.nodes.map encNode), .list (d.rules.map encRul), .list (d.outs.map encOutp), .list (d.attrs.map encAttr)] :: J4 ∧ ρ 1 = .list (l.map encInts) ∧ ρ 2 = .ptr H.length 0 ∧ ρ 5 = .int .i64 (s : Int)) → bp F d l k s = some r → Lp X ⟨28, H.length :: bs⟩ (loopAt Tryz.f78 0) ρ H' ((fun r ex ρ H' => match r with | .a r => ∃ J4, H' = H ++ .cells [.str d.name, .list (d.inputs.map encPort), .list (d.elements.map encElem), .list (d.nodes.map encNode), .list (d.rules.map encRul), .list (d.outs.map encOutp), .list (d.attrs.map encAttr)] :: J4 ∧ ex = .ret ∧ ρ 4 = .int .i64 r | .b r => ∃ J4, H' = H ++ .cells [.str d.name, .list (d.inputs.map encPort), .list (d.elements.map encElem), .list (d.nodes.map encNode), .list (d.rules.map encRul), .list (d.outs.map encOutp), .list (d.attrs.map encAttr)] :: J4 ∧ ex = .exit 0) r) := by
 refine ac (fun _ => rfl) ?_
 rintro k s3 r ρ H' ⟨J4, hH, h1, h2, h5⟩ hR
 skip
 subst hH
 rw [bp] at hR
 conv => arg 3; whnf
 try refine zw ?_
 rcases iteE hR with ⟨c5, hR⟩ | ⟨c5, hR⟩
 ·obtain ⟨x6, x6_e, hR⟩ := bindE hR
  obtain ⟨y7, y7_e, hR⟩ := bindE hR
  have y7_k := fun bs H => ph bs H F d x6 y7 y7_e
  (try simp only [cellsDesg, encDesg, encInts] at y7_k)
  try refine zu ?_
  (refine yw0 (id := 8) oz5 ?_)
  try refine zw ?_
  clear y7_k
  rcases iteE hR with ⟨c8, hR⟩ | ⟨c8, hR⟩
  ·obtain rfl := someE hR
   refine zu ?_
   exact ⟨_, hq, rfl, sl⟩
  ·obtain ⟨g9, hR⟩ := grdE hR
   have g9_w := ae g9
   refine zu ?_
   exact ⟨(s3 + 1), ⟨_, hq, sl, sl, sl⟩, hR.out⟩
 ·obtain rfl := someE hR
  refine zu ?_
  exact ⟨_, hq, rfl⟩
def dM (F : Nat) (d : Desg) (l : List (List Int)) : List (List Int) → Nat → Unit → Option (Oc (Int) (Unit))
 | [], s3, _ => some (.b ())
 | x_ :: r_, s3, _ => ((bR F d x_).bind fun y7 => (if (decide (¬y7 = 0)) = true then some (.a y7) else dM F d l r_ (s3 + 1) ()))
theorem iD (F : Nat) (d : Desg) (l : List (List Int)) (hl_ : l.length ≤ 1000000) : ∀ r_ i_ k_ (o_ : Unit), l.drop i_ = r_ → r_.length < k_ → bp F d l k_ i_ = dM F d l r_ i_ o_
 | _, _, 0, _, _, hk => absurd hk (Nat.not_lt_zero _)
 | [], i_, k_ + 1, _, hd, _ => by rw [bp, dM]; simp only [aj hd, Bool.false_eq_true, if_false]
 | x_ :: r_, i_, k_ + 1, _, hd, hk => by
  have ih := iD F d l hl_ r_ (i_ + 1) k_ () (ah hd) (Nat.lt_of_succ_lt_succ hk)
  rw [bp, dM]; simp only [az hd, ap hd, if_pos (aC hd hl_), Option.bind_some, if_true, ih]
def eE (F : Nat) (d : Desg) (l : List (List Int)) : Option (Int) := (if (decide ((l.length : Int) = 0)) = true then some 10 else (if (decide ((16 : Int) < (l.length : Int))) = true then some 8 else ((bp F d l F 0).bind fun o10 => match o10 with | .a o11 => some o11 | .b o13 => some 0)))
theorem jX (bs : List Nat) (H : Heap) (F : Nat) (d : Desg) (l : List (List Int)) (R : Int) (hR0 : eE F d l = some R) : callw X bs 78 [(encDesg d), .list (l.map encInts)] H = some (.int .i64 R, H) := by
 refine yw2 (rs := [.tmp 4]) (N := 28) (fn := Tryz.f78) xk78 xf78 ?_
 have hR := Kp.mk hR0
 clear hR0
 rw [eE] at hR
 (try simp only [cellsDesg, encDesg, encInts])
 try refine zw ?_
 rcases iteE hR with ⟨c1, hR⟩ | ⟨c1, hR⟩
 ·obtain rfl := someE hR
  exact zv
 ·try refine zw ?_
  rcases iteE hR with ⟨c2, hR⟩ | ⟨c2, hR⟩
  ·obtain rfl := someE hR
   exact zv
  ·obtain ⟨o10, o10_e, hR⟩ := bindE hR
   refine zu ?_
   refine ab (af (c := (loopAt Tryz.f78 0)) rfl (nD _ H F d l _ 0 o10 _ _ ⟨_, hq, sl, sl, sl⟩ o10_e)) ?_
   rcases o10 with o11 | o13
   ·rintro ex ρ' H' ⟨J12, rfl, rfl, q4_o11⟩ hf
    clear hf
    obtain rfl := someE hR
    exact zv
   ·rintro ex ρ' H' ⟨J14, rfl, rfl⟩ hf
    clear hf
    obtain rfl := someE hR
    exact zv
def gW (F : Nat) (d : Desg) (inputs : List (List Int)) (x : DStep) (state : List Int) : Option ((List Int) × Bool) := ((eH F d state).bind fun y1 => ((idxI inputs x.inputs).bind fun x2 => ((dG F d x.rule x2 y1).bind fun y3 => (if y3 = true then ((cW F d x.rule x2 y1).bind fun y6 => ((eH F d y6).bind fun y7 => some (y7, true))) else some ([], false)))))
theorem tp (bs : List Nat) (H : Heap) (F : Nat) (d : Desg) (inputs : List (List Int)) (x : DStep) (state : List Int) (R : (List Int) × Bool) (hR0 : gW F d inputs x state = some R) : callw X bs 146 [(encDesg d), .list (inputs.map encInts), (encDStep x), .list (state.map (V.int .i64))] H = some (.tuple [.list (R.1.map (V.int .i64)), .bool R.2], H) := by
 refine yw2 (rs := [.tmp 8, .tmp 9]) (N := 37) (fn := Tryz.f146) C5 MY ?_
 have hR := Kp.mk hR0
 clear hR0
 rw [gW] at hR
 (try simp only [cellsDStep, cellsDesg, encDStep, encDesg, encInts])
 obtain ⟨y1, y1_e, hR⟩ := bindE hR
 have y1_k := fun bs H => nk bs H F d state y1 y1_e
 (try simp only [cellsDesg, encDesg, encInts] at y1_k)
 obtain ⟨x2, x2_e, hR⟩ := bindE hR
 obtain ⟨x2_p, x2_e⟩ := idxE x2_e
 obtain ⟨y3, y3_e, hR⟩ := bindE hR
 have y3_k := fun bs H => rc bs H F d x.rule x2 y1 y3 y3_e
 (try simp only [cellsDesg, encDesg, encInts] at y3_k)
 try refine zu ?_
 (refine yw0 (id := 2) oz20 ?_)
 try refine zw ?_
 clear y1_k y3_k
 rcases iteE hR with ⟨c4, hR⟩ | ⟨c4, hR⟩
 ·obtain ⟨y6, y6_e, hR⟩ := bindE hR
  have y6_k := fun bs H => qx bs H F d x.rule x2 y1 y6 y6_e
  (try simp only [cellsDesg, encDesg, encInts] at y6_k)
  obtain ⟨y7, y7_e, hR⟩ := bindE hR
  have y7_k := fun bs H => nk bs H F d y6 y7 y7_e
  (try simp only [cellsDesg, encDesg, encInts] at y7_k)
  obtain rfl := someE hR
  try refine zu ?_
  (refine yw1 (id := 4) oz44 [(0, 10)] ?_)
  exact zv
 ·obtain rfl := someE hR
  exact zv
def bq (F : Nat) (d : Desg) (inputs : List (List Int)) (node : Int) (state : List Int) : Nat → Nat → Option (Oc (Bool) (Unit))
 | 0, _ => none
 | k + 1, s1 => (if (decide ((s1 : Int) < (inputs.length : Int))) = true then ((inputs[s1]?).bind fun x4 => (if x4.length + state.length ≤ 1000000 then (if d.nodes.length ≤ 1000 then (if ∀ x ∈ d.nodes, x.args.length ≤ 1000000 then (if ∃ ws, GoodAll ws d.nodes ∧ LeafOk ws (x4 ++ state) then ((idxI (valsL d.nodes (x4 ++ state) d.nodes.length) node).bind fun x11 => (if (decide (x11 = 0)) = true then some (.a true) else (if inI ((s1 : Int) + 1) then bq F d inputs node state k (s1 + 1) else none))) else none) else none) else none) else none)) else some (.b ()))
theorem nE (bs : List Nat) (H : Heap) (F : Nat) (d : Desg) (inputs : List (List Int)) (node : Int) (state : List Int) : ∀ k s r ρ H', (∃ J2, H' = H ++ .cells [.str d.name, .list (d.inputs.map encPort), .list (d.elements.map encElem), .list (d.nodes.map encNode), .list (d.rules.map encRul), .list (d.outs.map encOutp), .list (d.attrs.map encAttr)] :: J2 ∧ ρ 1 = .list (inputs.map encInts) ∧ ρ 2 = .int .i64 node ∧ ρ 3 = .list (state.map (V.int .i64)) ∧ ρ 4 = .ptr H.length 0 ∧ ρ 9 = .int .i64 (s : Int)) → bq F d inputs node state k s = some r → Lp X ⟨29, H.length :: bs⟩ (loopAt Tryz.f55 0) ρ H' ((fun r ex ρ H' => match r with | .a r => ∃ J2, H' = H ++ .cells [.str d.name, .list (d.inputs.map encPort), .list (d.elements.map encElem), .list (d.nodes.map encNode), .list (d.rules.map encRul), .list (d.outs.map encOutp), .list (d.attrs.map encAttr)] :: J2 ∧ ex = .ret ∧ ρ 8 = .bool r | .b r => ∃ J2, H' = H ++ .cells [.str d.name, .list (d.inputs.map encPort), .list (d.elements.map encElem), .list (d.nodes.map encNode), .list (d.rules.map encRul), .list (d.outs.map encOutp), .list (d.attrs.map encAttr)] :: J2 ∧ ex = .exit 0) r) := by
 refine ac (fun _ => rfl) ?_
 rintro k s1 r ρ H' ⟨J2, hH, h1, h2, h3, h4, h9⟩ hR
 skip
 subst hH
 rw [bq] at hR
 conv => arg 3; whnf
 try refine zw ?_
 rcases iteE hR with ⟨c3, hR⟩ | ⟨c3, hR⟩
 ·obtain ⟨x4, x4_e, hR⟩ := bindE hR
  obtain ⟨g5, hR⟩ := grdE hR
  have k6_k := fun bs H => tA bs H x4 state g5
  obtain ⟨g7, hR⟩ := grdE hR
  obtain ⟨g8, hR⟩ := grdE hR
  obtain ⟨g9, hR⟩ := grdE hR
  have k10_k := fun bs H => kS bs H _ (x4 ++ state) d.nodes g7 g8 (Classical.choose_spec g9).1 (Classical.choose_spec g9).2
  obtain ⟨x11, x11_e, hR⟩ := bindE hR
  obtain ⟨x11_p, x11_e⟩ := idxE x11_e
  try refine zu ?_
  (refine yw1 (id := 4) [0, 1, 2, 3, 4, 5, 6, 9, 7, 8, 10, 11, 12] [(1, 8)] ?_)
  try refine zw ?_
  clear k6_k k10_k
  rcases iteE hR with ⟨c12, hR⟩ | ⟨c12, hR⟩
  ·obtain rfl := someE hR
   refine zu ?_
   exact ⟨_, hq, rfl, sl⟩
  ·obtain ⟨g13, hR⟩ := grdE hR
   have g13_w := ae g13
   refine zu ?_
   exact ⟨(s1 + 1), ⟨_, hq, sl, sl, sl, sl, sl⟩, hR.out⟩
 ·obtain rfl := someE hR
  refine zu ?_
  exact ⟨_, hq, rfl⟩
def cj (F : Nat) (d : Desg) (inputs : List (List Int)) (node : Int) (state : List Int) : List (List Int) → Nat → Unit → Option (Oc (Bool) (Unit))
 | [], s1, _ => some (.b ())
 | x_ :: r_, s1, _ => (if x_.length + state.length ≤ 1000000 then (if d.nodes.length ≤ 1000 then (if ∀ x ∈ d.nodes, x.args.length ≤ 1000000 then (if ∃ ws, GoodAll ws d.nodes ∧ LeafOk ws (x_ ++ state) then ((idxI (valsL d.nodes (x_ ++ state) d.nodes.length) node).bind fun x11 => (if (decide (x11 = 0)) = true then some (.a true) else cj F d inputs node state r_ (s1 + 1) ())) else none) else none) else none) else none)
theorem iE (F : Nat) (d : Desg) (inputs : List (List Int)) (node : Int) (state : List Int) (hl_ : inputs.length ≤ 1000000) : ∀ r_ i_ k_ (o_ : Unit), inputs.drop i_ = r_ → r_.length < k_ → bq F d inputs node state k_ i_ = cj F d inputs node state r_ i_ o_
 | _, _, 0, _, _, hk => absurd hk (Nat.not_lt_zero _)
 | [], i_, k_ + 1, _, hd, _ => by rw [bq, cj]; simp only [aj hd, Bool.false_eq_true, if_false]
 | x_ :: r_, i_, k_ + 1, _, hd, hk => by
  have ih := iE F d inputs node state hl_ r_ (i_ + 1) k_ () (ah hd) (Nat.lt_of_succ_lt_succ hk)
  rw [bq, cj]; simp only [az hd, ap hd, if_pos (aC hd hl_), Option.bind_some, if_true, ih]
def eF (F : Nat) (d : Desg) (inputs : List (List Int)) (node : Int) (state : List Int) : Option (Bool) := ((bq F d inputs node state F 0).bind fun o14 => match o14 with | .a o15 => some o15 | .b o17 => some false)
theorem pN (bs : List Nat) (H : Heap) (F : Nat) (d : Desg) (inputs : List (List Int)) (node : Int) (state : List Int) (R : Bool) (hR0 : eF F d inputs node state = some R) : callw X bs 55 [(encDesg d), .list (inputs.map encInts), .int .i64 node, .list (state.map (V.int .i64))] H = some (.bool R, H) := by
 refine yw2 (rs := [.tmp 8]) (N := 29) (fn := Tryz.f55) xk55 xf55 ?_
 have hR := Kp.mk hR0
 clear hR0
 rw [eF] at hR
 (try simp only [cellsDesg, encDesg, encInts])
 obtain ⟨o14, o14_e, hR⟩ := bindE hR
 refine zu ?_
 refine ab (af (c := (loopAt Tryz.f55 0)) rfl (nE _ H F d inputs node state _ 0 o14 _ _ ⟨_, hq, sl, sl, sl, sl, sl⟩ o14_e)) ?_
 rcases o14 with o15 | o17
 ·rintro ex ρ' H' ⟨J16, rfl, rfl, q8_o15⟩ hf
  clear hf
  obtain rfl := someE hR
  exact zv
 ·rintro ex ρ' H' ⟨J18, rfl, rfl⟩ hf
  clear hf
  obtain rfl := someE hR
  exact zv
def bY (F : Nat) (l : List (List Int)) : Nat → Nat → Option (Oc (Bool) (Unit))
 | 0, _ => none
 | k + 1, s2 => (if (decide ((s2 : Int) < (l.length : Int))) = true then ((l[s2]?).bind fun x5 => (if (decide ((45 : Int) < (x5.length : Int))) = true then some (.a false) else (if inI ((s2 : Int) + 1) then bY F l k (s2 + 1) else none))) else some (.b ()))
theorem nF (bs : List Nat) (H : Heap) (F : Nat) (l : List (List Int)) : ∀ k s r ρ H', (∃ J3, H' = H ++ J3 ∧ ρ 0 = .list (l.map encInts) ∧ ρ 5 = .int .i64 (s : Int)) → bY F l k s = some r → Lp X ⟨22, H.length :: bs⟩ (loopAt Tryz.f28 0) ρ H' ((fun r ex ρ H' => match r with | .a r => ∃ J3, H' = H ++ J3 ∧ ex = .ret ∧ ρ 4 = .bool r | .b r => ∃ J3, H' = H ++ J3 ∧ ex = .exit 0) r) := by
 refine ac (fun _ => rfl) ?_
 rintro k s2 r ρ H' ⟨J3, hH, h0, h5⟩ hR
 skip
 subst hH
 rw [bY] at hR
 conv => arg 3; whnf
 try refine zw ?_
 rcases iteE hR with ⟨c4, hR⟩ | ⟨c4, hR⟩
 ·obtain ⟨x5, x5_e, hR⟩ := bindE hR
  try refine zw ?_
  rcases iteE hR with ⟨c6, hR⟩ | ⟨c6, hR⟩
  ·obtain rfl := someE hR
   refine zu ?_
   exact ⟨_, hq, rfl, sl⟩
  ·obtain ⟨g7, hR⟩ := grdE hR
   have g7_w := ae g7
   refine zu ?_
   exact ⟨(s2 + 1), ⟨_, hq, sl, sl⟩, hR.out⟩
 ·obtain rfl := someE hR
  refine zu ?_
  exact ⟨_, hq, rfl⟩
def bt (F : Nat) (l : List (List Int)) : List (List Int) → Nat → Unit → Option (Oc (Bool) (Unit))
 | [], s2, _ => some (.b ())
 | x_ :: r_, s2, _ => (if (decide ((45 : Int) < (x_.length : Int))) = true then some (.a false) else bt F l r_ (s2 + 1) ())
theorem iF (F : Nat) (l : List (List Int)) (hl_ : l.length ≤ 1000000) : ∀ r_ i_ k_ (o_ : Unit), l.drop i_ = r_ → r_.length < k_ → bY F l k_ i_ = bt F l r_ i_ o_
 | _, _, 0, _, _, hk => absurd hk (Nat.not_lt_zero _)
 | [], i_, k_ + 1, _, hd, _ => by rw [bY, bt]; simp only [aj hd, Bool.false_eq_true, if_false]
 | x_ :: r_, i_, k_ + 1, _, hd, hk => by
  have ih := iF F l hl_ r_ (i_ + 1) k_ () (ah hd) (Nat.lt_of_succ_lt_succ hk)
  rw [bY, bt]; simp only [az hd, ap hd, if_pos (aC hd hl_), Option.bind_some, if_true, ih]
def fp (F : Nat) (l : List (List Int)) (most : Int) : Option (Bool) := (if (decide (most < (l.length : Int))) = true then some false else ((bY F l F 0).bind fun o8 => match o8 with | .a o9 => some o9 | .b o11 => some true))
theorem pO (bs : List Nat) (H : Heap) (F : Nat) (l : List (List Int)) (most : Int) (R : Bool) (hR0 : fp F l most = some R) : callw X bs 28 [.list (l.map encInts), .int .i64 most] H = some (.bool R, H) := by
 refine yw2 (rs := [.tmp 4]) (N := 22) (fn := Tryz.f28) xk28 xf28 ?_
 have hR := Kp.mk hR0
 clear hR0
 rw [fp] at hR
 try refine zw ?_
 rcases iteE hR with ⟨c1, hR⟩ | ⟨c1, hR⟩
 ·obtain rfl := someE hR
  exact zv
 ·obtain ⟨o8, o8_e, hR⟩ := bindE hR
  refine zu ?_
  refine ab (af (c := (loopAt Tryz.f28 0)) rfl (nF _ H F l _ 0 o8 _ _ ⟨[], by simp, sl, sl⟩ o8_e)) ?_
  rcases o8 with o9 | o11
  ·rintro ex ρ' H' ⟨J10, rfl, rfl, q4_o9⟩ hf
   clear hf
   obtain rfl := someE hR
   exact zv
  ·rintro ex ρ' H' ⟨J12, rfl, rfl⟩ hf
   clear hf
   obtain rfl := someE hR
   exact zv
def fq (F : Nat) (d : Desg) (inputs : List (List Int)) : Option (Int) := ((gy F d).bind fun y1 => (if (decide (y1 = 0)) = true then ((eE F d inputs).bind fun y3 => some y3) else some y1))
theorem pP (bs : List Nat) (H : Heap) (F : Nat) (d : Desg) (inputs : List (List Int)) (R : Int) (hR0 : fq F d inputs = some R) : callw X bs 32 [(encDesg d), .list (inputs.map encInts)] H = some (.int .i64 R, H) := by
 refine yw2 (rs := [.tmp 4]) (N := 14) (fn := Tryz.f32) xk32 xf32 ?_
 have hR := Kp.mk hR0
 clear hR0
 rw [fq] at hR
 (try simp only [cellsDesg, encDesg, encInts])
 obtain ⟨y1, y1_e, hR⟩ := bindE hR
 have y1_k := fun bs H => oc bs H F d y1 y1_e
 (try simp only [cellsDesg, encDesg, encInts] at y1_k)
 try refine zw ?_
 clear y1_k
 rcases iteE hR with ⟨c2, hR⟩ | ⟨c2, hR⟩
 ·obtain ⟨y3, y3_e, hR⟩ := bindE hR
  have y3_k := fun bs H => jX bs H F d inputs y3 y3_e
  (try simp only [cellsDesg, encDesg, encInts] at y3_k)
  obtain rfl := someE hR
  exact zv
 ·obtain rfl := someE hR
  exact zv
def bz (F : Nat) (d : Desg) : Nat → (Int × Nat) → Option (Int)
 | 0, _ => none
 | k + 1, (s10, s11) => (if (decide ((s11 : Int) < (d.elements.length : Int))) = true then ((d.elements[s11]?).bind fun x14 => (if (decide (x14.kind = 0)) = true then (if inI (s10 + x14.width) then (if inI ((s11 : Int) + 1) then bz F d k ((s10 + x14.width), (s11 + 1)) else none) else none) else (if inI ((s11 : Int) + 1) then bz F d k (s10, (s11 + 1)) else none))) else some s10)
theorem pQ (bs : List Nat) (H : Heap) (F : Nat) (d : Desg) (inputs : List (List Int)) : ∀ k s r ρ H', (∃ J12, H' = H ++ .cells [.str d.name, .list (d.inputs.map encPort), .list (d.elements.map encElem), .list (d.nodes.map encNode), .list (d.rules.map encRul), .list (d.outs.map encOutp), .list (d.attrs.map encAttr)] :: J12 ∧ ρ 1 = .list (inputs.map encInts) ∧ ρ 2 = .ptr H.length 0 ∧ ρ 5 = .int .i64 s.1 ∧ ρ 6 = .int .i64 (s.2 : Int)) → bz F d k s = some r → Lp X ⟨42, H.length :: bs⟩ (loopAt Tryz.f54 0) ρ H' ((fun r ex ρ H' => ∃ J12, H' = H ++ .cells [.str d.name, .list (d.inputs.map encPort), .list (d.elements.map encElem), .list (d.nodes.map encNode), .list (d.rules.map encRul), .list (d.outs.map encOutp), .list (d.attrs.map encAttr)] :: J12 ∧ ex = .exit 0 ∧ ρ 5 = .int .i64 r) r) := by
 refine ac (fun _ => rfl) ?_
 rintro k ⟨s10, s11⟩ r ρ H' ⟨J12, hH, h1, h2, h5, h6⟩ hR
 simp only at hH h1 h2 h5 h6
 subst hH
 rw [bz] at hR
 conv => arg 3; whnf
 try refine zw ?_
 rcases iteE hR with ⟨c13, hR⟩ | ⟨c13, hR⟩
 ·obtain ⟨x14, x14_e, hR⟩ := bindE hR
  try refine zw ?_
  rcases iteE hR with ⟨c15, hR⟩ | ⟨c15, hR⟩
  ·obtain ⟨g17, hR⟩ := grdE hR
   have g17_w := ae g17
   obtain ⟨g18, hR⟩ := grdE hR
   have g18_w := ae g18
   refine zu ?_
   exact ⟨((s10 + x14.width), (s11 + 1)), ⟨_, hq, sl, sl, sl, sl⟩, hR.out⟩
  ·obtain ⟨g19, hR⟩ := grdE hR
   have g19_w := ae g19
   refine zu ?_
   exact ⟨(s10, (s11 + 1)), ⟨_, hq, sl, sl, sl, sl⟩, hR.out⟩
 ·obtain rfl := someE hR
  refine zu ?_
  exact ⟨_, hq, rfl, sl⟩
def cB (F : Nat) (d : Desg) : List Elem → Nat → Int → Option (Int)
 | [], s11, s10 => some s10
 | x_ :: r_, s11, s10 => (if (decide (x_.kind = 0)) = true then (if inI (s10 + x_.width) then cB F d r_ (s11 + 1) (s10 + x_.width) else none) else cB F d r_ (s11 + 1) s10)
theorem jP (F : Nat) (d : Desg) (hl_ : d.elements.length ≤ 1000000) : ∀ r_ i_ k_ (o_ : Int), d.elements.drop i_ = r_ → r_.length < k_ → bz F d k_ (o_, i_) = cB F d r_ i_ o_
 | _, _, 0, _, _, hk => absurd hk (Nat.not_lt_zero _)
 | [], i_, k_ + 1, s10, hd, _ => by rw [bz, cB]; simp only [aj hd, Bool.false_eq_true, if_false]
 | x_ :: r_, i_, k_ + 1, s10, hd, hk => by
  have ih := fun o_ => jP F d hl_ r_ (i_ + 1) k_ o_ (ah hd) (Nat.lt_of_succ_lt_succ hk)
  rw [bz, cB]; simp only [az hd, ap hd, if_pos (aC hd hl_), Option.bind_some, if_true, ih]
def gz (F : Nat) (d : Desg) (inputs : List (List Int)) : Option (Bool) := ((bz F d F (0, 0)).bind fun o21 => (if (decide (o21 ≤ 7)) = true then (if (decide ((inputs.length : Int) ≤ 4)) = true then some (decide ((d.nodes.length : Int) ≤ 40)) else some false) else some false))
theorem sg (bs : List Nat) (H : Heap) (F : Nat) (d : Desg) (inputs : List (List Int)) (R : Bool) (hR0 : gz F d inputs = some R) : callw X bs 54 [(encDesg d), .list (inputs.map encInts)] H = some (.bool R, H) := by
 refine yw2 (rs := [.tmp 4]) (N := 42) (fn := Tryz.f54) xk54 xf54 ?_
 have hR := Kp.mk hR0
 clear hR0
 rw [gz] at hR
 (try simp only [cellsDesg, encDesg, encInts])
 obtain ⟨o21, o21_e, hR⟩ := bindE hR
 refine zu ?_
 refine ab (af (c := (loopAt Tryz.f54 0)) rfl (pQ _ H F d inputs _ (0, 0) o21 _ _ ⟨_, hq, sl, sl, sl, sl⟩ o21_e)) ?_
 rintro ex ρ' H' ⟨J22, rfl, rfl, q5_o21⟩ hf
 have q1_o21 : ρ' 1 = .list (inputs.map encInts) := (hf 1 rfl).trans (sl)
 have q2_o21 : ρ' 2 = .ptr H.length 0 := (hf 2 rfl).trans (sl)
 clear hf
 try refine zw ?_
 rcases iteE hR with ⟨c23, hR⟩ | ⟨c23, hR⟩
 ·try refine zw ?_
  rcases iteE hR with ⟨c24, hR⟩ | ⟨c24, hR⟩
  ·obtain rfl := someE hR
   exact zv
  ·obtain rfl := someE hR
   exact zv
 ·obtain rfl := someE hR
  exact zv
def gA (F : Nat) (d : Desg) (inputs : List (List Int)) : Option (Bool) := ((gy F d).bind fun y1 => (if (decide (y1 = 0)) = true then ((eE F d inputs).bind fun y3 => (if (decide (y3 = 0)) = true then ((gz F d inputs).bind fun y5 => some (!y5)) else some false)) else some false))
theorem sh (bs : List Nat) (H : Heap) (F : Nat) (d : Desg) (inputs : List (List Int)) (R : Bool) (hR0 : gA F d inputs = some R) : callw X bs 29 [(encDesg d), .list (inputs.map encInts)] H = some (.bool R, H) := by
 refine yw2 (rs := [.tmp 4]) (N := 20) (fn := Tryz.f29) xk29 xf29 ?_
 have hR := Kp.mk hR0
 clear hR0
 rw [gA] at hR
 (try simp only [cellsDesg, encDesg, encInts])
 obtain ⟨y1, y1_e, hR⟩ := bindE hR
 have y1_k := fun bs H => oc bs H F d y1 y1_e
 (try simp only [cellsDesg, encDesg, encInts] at y1_k)
 try refine zw ?_
 clear y1_k
 rcases iteE hR with ⟨c2, hR⟩ | ⟨c2, hR⟩
 ·obtain ⟨y3, y3_e, hR⟩ := bindE hR
  have y3_k := fun bs H => jX bs H F d inputs y3 y3_e
  (try simp only [cellsDesg, encDesg, encInts] at y3_k)
  try refine zw ?_
  clear y3_k
  rcases iteE hR with ⟨c4, hR⟩ | ⟨c4, hR⟩
  ·obtain ⟨y5, y5_e, hR⟩ := bindE hR
   have y5_k := fun bs H => sg bs H F d inputs y5 y5_e
   (try simp only [cellsDesg, encDesg, encInts] at y5_k)
   obtain rfl := someE hR
   exact zv
  ·obtain rfl := someE hR
   exact zv
 ·obtain rfl := someE hR
  exact zv
end
end Go.E
set_option linter.all false
namespace Go.E
open Go.Proofs Classical
set_option maxRecDepth 100000
set_option maxHeartbeats 400000
noncomputable section
def bH (F : Nat) (a : List DStep) (b : List DStep) : Nat → Nat → Option (Oc (Bool) (Unit))
 | 0, _ => none
 | k + 1, s2 => (if (decide ((s2 : Int) < (a.length : Int))) = true then ((a[s2]?).bind fun x5 => ((b[s2]?).bind fun x6 => (if (decide (x5 = x6)) = true then (if inI ((s2 : Int) + 1) then bH F a b k (s2 + 1) else none) else some (.a false)))) else some (.b ()))
theorem mO (bs : List Nat) (H : Heap) (F : Nat) (a : List DStep) (b : List DStep) : ∀ k s r ρ H', (∃ J3, H' = H ++ J3 ∧ ρ 0 = .list (a.map encDStep) ∧ ρ 1 = .list (b.map encDStep) ∧ ρ 5 = .int .i64 (s : Int)) → bH F a b k s = some r → Lp X ⟨26, H.length :: bs⟩ (loopAt Tryz.f35 0) ρ H' ((fun r ex ρ H' => match r with | .a r => ∃ J3, H' = H ++ J3 ∧ ex = .ret ∧ ρ 4 = .bool r | .b r => ∃ J3, H' = H ++ J3 ∧ ex = .exit 0) r) := by
 refine ac (fun _ => rfl) ?_
 rintro k s2 r ρ H' ⟨J3, hH, h0, h1, h5⟩ hR
 skip
 subst hH
 rw [bH] at hR
 conv => arg 3; whnf
 try refine zw ?_
 rcases iteE hR with ⟨c4, hR⟩ | ⟨c4, hR⟩
 ·obtain ⟨x5, x5_e, hR⟩ := bindE hR
  obtain ⟨x6, x6_e, hR⟩ := bindE hR
  have q7 := BM x5 x6
  simp only [cellsDStep, encDStep, encInts] at q7
  try refine zu ?_
  (refine yw0 (id := 6) oz1 ?_)
  try refine zw ?_
  rcases iteE hR with ⟨c8, hR⟩ | ⟨c8, hR⟩
  ·obtain ⟨g9, hR⟩ := grdE hR
   have g9_w := ae g9
   refine zu ?_
   exact ⟨(s2 + 1), ⟨_, hq, sl, sl, sl⟩, hR.out⟩
  ·obtain rfl := someE hR
   refine zu ?_
   exact ⟨_, hq, rfl, sl⟩
 ·obtain rfl := someE hR
  refine zu ?_
  exact ⟨_, hq, rfl⟩
def dp (F : Nat) (a : List DStep) (b : List DStep) : List DStep → Nat → Unit → Option (Oc (Bool) (Unit))
 | [], s2, _ => some (.b ())
 | x_ :: r_, s2, _ => ((b[s2]?).bind fun x6 => (if (decide (x_ = x6)) = true then dp F a b r_ (s2 + 1) () else some (.a false)))
theorem io (F : Nat) (a : List DStep) (b : List DStep) (hl_ : a.length ≤ 1000000) : ∀ r_ i_ k_ (o_ : Unit), a.drop i_ = r_ → r_.length < k_ → bH F a b k_ i_ = dp F a b r_ i_ o_
 | _, _, 0, _, _, hk => absurd hk (Nat.not_lt_zero _)
 | [], i_, k_ + 1, _, hd, _ => by rw [bH, dp]; simp only [aj hd, Bool.false_eq_true, if_false]
 | x_ :: r_, i_, k_ + 1, _, hd, hk => by
  have ih := io F a b hl_ r_ (i_ + 1) k_ () (ah hd) (Nat.lt_of_succ_lt_succ hk)
  rw [bH, dp]; simp only [az hd, ap hd, if_pos (aC hd hl_), Option.bind_some, if_true, ih]
def cX (F : Nat) (a : List DStep) (b : List DStep) : Option (Bool) := (if (decide (¬(a.length : Int) = (b.length : Int))) = true then some false else ((bH F a b F 0).bind fun o10 => match o10 with | .a o11 => some o11 | .b o13 => some true))
theorem gL (bs : List Nat) (H : Heap) (F : Nat) (a : List DStep) (b : List DStep) (R : Bool) (hR0 : cX F a b = some R) : callw X bs 35 [.list (a.map encDStep), .list (b.map encDStep)] H = some (.bool R, H) := by
 refine yw2 (rs := [.tmp 4]) (N := 26) (fn := Tryz.f35) xk35 xf35 ?_
 have hR := Kp.mk hR0
 clear hR0
 rw [cX] at hR
 try refine zw ?_
 rcases iteE hR with ⟨c1, hR⟩ | ⟨c1, hR⟩
 ·obtain rfl := someE hR
  exact zv
 ·obtain ⟨o10, o10_e, hR⟩ := bindE hR
  refine zu ?_
  refine ab (af (c := (loopAt Tryz.f35 0)) rfl (mO _ H F a b _ 0 o10 _ _ ⟨[], by simp, sl, sl, sl⟩ o10_e)) ?_
  rcases o10 with o11 | o13
  ·rintro ex ρ' H' ⟨J12, rfl, rfl, q4_o11⟩ hf
   clear hf
   obtain rfl := someE hR
   exact zv
  ·rintro ex ρ' H' ⟨J14, rfl, rfl⟩ hf
   clear hf
   obtain rfl := someE hR
   exact zv
def exD : Desg := ⟨⟨#[115, 119, 97, 112]⟩, [⟨⟨#[103, 111]⟩, 1⟩], [⟨⟨#[120]⟩, 0, 4, 3, 0⟩, ⟨⟨#[121]⟩, 0, 4, 9, 0⟩, ⟨⟨#[119]⟩, 1, 1, 0, 0⟩],
 [⟨1, 1, [], 0⟩, ⟨1, 4, [], 1⟩, ⟨1, 4, [], 2⟩, ⟨10, 1, [1, 2], 0⟩, ⟨3, 1, [0, 3], 0⟩, ⟨0, 4, [], 1⟩, ⟨6, 4, [1, 5], 0⟩, ⟨0, 1, [], 1⟩, ⟨1, 1, [], 3⟩],
 [⟨⟨#[101, 120, 99, 104, 97, 110, 103, 101]⟩, 4, [⟨0, 7, 2⟩, ⟨1, 7, 1⟩]⟩, ⟨⟨#[99, 111, 117, 110, 116]⟩, 7, [⟨0, 7, 6⟩, ⟨2, 7, 7⟩]⟩], [⟨⟨#[98, 105, 103]⟩, 3⟩], []⟩
def exV : V := .agg [.str exD.name, .list (exD.inputs.map encPort), .list (exD.elements.map encElem), .list (exD.nodes.map encNode), .list (exD.rules.map encRul), .list (exD.outs.map encOutp), .nilS]
theorem A1 (bs : List Nat) (H : Heap)  : callw X bs 57 [] H = some (exV, H) := by
 refine yw2 (rs := [.cell 0 29]) (N := 32) (fn := Tryz.f57) xk57 xf57 ?_
 all_goals try (refine zs ?_; repeat' first | apply zs0 | apply zs2 | (intro hc; try have hq := dq hc))
 apply qJ
 ·simp
 ·(simp only [seval, push_cast, *] <;> rfl)
 ·rw [bA rfl]; rfl
 ·simp only [seval, push_cast]
theorem cn2 {f : Nat} {args args' : List V} {H : Heap} {bs : List Nat} {r : Option (V × Heap)} (h : callw X2 bs f args' H = r) (hk : X2.keep f = false) (hn : args.map V.norm = args'.map V.norm) : callw X2 bs f args H = r := (jB hk hn).trans h
theorem Gh (bs : List Nat) (H : Heap) (F : Nat) (h1 : fm F exD 0 [1] [3, 9, 0] = some ([9, 3, 0], 0)) (h2 : gr F exD [1, 1] [0] [3, 9, 1] = some ([[3, 9, 0], [4, 9, 1], [5, 9, 1]], 2, 0)) (h3 : eD F exD [[0], [1]] 3 = some ([⟨1, 0⟩], 0)) (h4 : ey F [9, 3, 0] [9, 3, 0] = some true) (h5 : gT F [[3, 9, 0], [4, 9, 1], [5, 9, 1]] [[3, 9, 0], [4, 9, 1], [5, 9, 1]] = some true) (h6 : cX F [⟨1, 0⟩] [⟨1, 0⟩] = some true) : callw X2 bs 11 [] H = some (.bool true, H) := by
 refine yw2 (rs := [.tmp 0]) (N := 65) (fn := Tryz.f11) rfl xf11 ?_
 have y0 := fun bs H => cR (A1 bs H)
 have y1 : ∀ bs H, callw X2 bs 13 [exV, .int .i64 0, .list [.int .i64 1], .list [.int .i64 3, .int .i64 9, .int .i64 0]] H = some (.tuple [.list [.int .i64 9, .int .i64 3, .int .i64 0], .int .i64 0], H) := fun bs H => cn2 (cR (pH bs H F exD 0 [1] [3, 9, 0] _ h1)) rfl rfl
 have y2 : ∀ bs H, callw X2 bs 16 [exV, .list [.int .i64 1, .int .i64 1], .list [.int .i64 0], .list [.int .i64 3, .int .i64 9, .int .i64 1]] H = some (.tuple [.list [.list [.int .i64 3, .int .i64 9, .int .i64 0], .list [.int .i64 4, .int .i64 9, .int .i64 1], .list [.int .i64 5, .int .i64 9, .int .i64 1]], .int .i64 2, .int .i64 0], H) := fun bs H => cn2 (cR (sc bs H F exD [1, 1] [0] [3, 9, 1] _ h2)) rfl rfl
 have y3 : ∀ bs H t, callw X2 bs 30 [exV, .tl t [.list [.int .i64 0], .list [.int .i64 1]], .int .i64 3] H = some (.tuple [.list [.agg [.int .i64 1, .int .i64 0]], .int .i64 0], H) := fun bs H t => cn2 (jW bs H F exD [[0], [1]] 3 _ h3) rfl rfl
 have y4 : ∀ bs H, callw X2 bs 26 [.list [.int .i64 9, .int .i64 3, .int .i64 0], .list [.int .i64 9, .int .i64 3, .int .i64 0]] H = some (.bool true, H) := fun bs H => cR (kh bs H F [9, 3, 0] [9, 3, 0] _ h4)
 have y5 : ∀ bs H t, callw X2 bs 24 [.list [.list [.int .i64 3, .int .i64 9, .int .i64 0], .list [.int .i64 4, .int .i64 9, .int .i64 1], .list [.int .i64 5, .int .i64 9, .int .i64 1]], .tl t [.list [.int .i64 3, .int .i64 9, .int .i64 0], .list [.int .i64 4, .int .i64 9, .int .i64 1], .list [.int .i64 5, .int .i64 9, .int .i64 1]]] H = some (.bool true, H) := fun bs H t => cn2 (cR (tg bs H F [[3, 9, 0], [4, 9, 1], [5, 9, 1]] [[3, 9, 0], [4, 9, 1], [5, 9, 1]] _ h5)) rfl rfl
 have y6 : ∀ bs H t, callw X2 bs 35 [.list [.agg [.int .i64 1, .int .i64 0]], .tl t [.agg [.int .i64 1, .int .i64 0]]] H = some (.bool true, H) := fun bs H t => cn2 (cR (gL bs H F [⟨1, 0⟩] [⟨1, 0⟩] _ h6)) rfl rfl
 clear h1 h2 h3 h4 h5 h6
 all_goals try (refine zs ?_; repeat' first | apply zs0 | apply zs2 | (intro hc; try have hq := dq hc))
end
end Go.E
namespace Go.E
open Classical
theorem pm {α : Type} [DecidableEq α] {L : List α → Nat → Unit → Option (Oc Bool Unit)} (a b : List α) (eq : α → α → Option Bool) (hl : a.length = b.length) (h0 : ∀ i s, L [] i s = some (.b ()))
  (h1 : ∀ x r i s, L (x :: r) i s = (b[i]?).bind fun y => (eq x y).bind fun e => if e = true then L r (i + 1) () else some (.a false)) (he : ∀ x ∈ a, ∀ y ∈ b, eq x y = some (decide (x = y))) :
  ∀ (r : List α) (i : Nat), a.drop i = r → a.take i = b.take i → ∃ o, L r i () = some o ∧ (match o with | .a x => x = false ∧ a ≠ b | .b _ => a = b)
 | [], i, hd, ht => by
  have h2 : a.length ≤ i := by simpa using hd
  rw [List.take_of_length_le h2, List.take_of_length_le (by omega)] at ht
  exact ⟨_, h0 i (), ht⟩
 | x :: r, i, hd, ht => by
  have hlt := ir hd
  have hx := ap hd
  have hb : b[i]? = some (b[i]'(by omega)) := bc (by omega)
  rw [h1, hb, Option.bind_some, he x (List.mem_of_getElem? hx) _ (List.mem_of_getElem? hb), Option.bind_some]
  by_cases h : x = b[i]'(by omega)
  ·rw [if_pos (decide_eq_true h)]
   refine pm a b eq hl h0 h1 he r (i + 1) (ah hd) ?_
   rw [List.take_add_one, List.take_add_one, hx, hb, ht, h]
  ·rw [if_neg (by simpa using h)]
   refine ⟨_, rfl, rfl, fun e => h ?_⟩
   subst e
   rw [hx] at hb; exact Option.some.inj hb
variable {F : Nat} (hF : 1000000 < F)
include hF in
theorem wG (a b : List Int) (ha : a.length ≤ 1000000) : ey F a b = some (decide (a = b)) := by
 unfold ey
 by_cases hl : a.length = b.length
 ·have e := kN F a b ha a 0 F () rfl (by omega)
  obtain ⟨o, h1, h2⟩ := pm (L := eC F a b) a b (fun x y => some (decide (x = y))) hl (fun _ _ => rfl) (fun x r i _ => by
   rw [eC]; congr 1; funext y; by_cases h : x = y <;> simp [h]) (fun _ _ _ _ => rfl) a 0 rfl rfl
  rw [if_neg (by simp [hl]), e, h1]
  cases o with
  | a x => obtain ⟨rfl, h3⟩ := h2; simp [h3]
  | b x => simp only at h2; simp [h2]
 ·have hne : a ≠ b := fun e => hl (by rw [e])
  rw [if_pos (by simp; omega)]; simp [hne]
include hF in
theorem Gi (a b : List (List Int)) (ha : a.length ≤ 1000000) (hx : ∀ x ∈ a, x.length ≤ 1000000) : gT F a b = some (decide (a = b)) := by
 unfold gT
 by_cases hl : a.length = b.length
 ·have e := jU F a b ha a 0 F () rfl (by omega)
  obtain ⟨o, h1, h2⟩ := pm (L := fc F a b) a b (fun x y => ey F x y) hl (fun _ _ => rfl) (fun x r i _ => rfl) (fun x h y _ => wG hF x y (hx x h)) a 0 rfl rfl
  rw [if_neg (by simp [hl]), e, h1]
  cases o with
  | a x => obtain ⟨rfl, h3⟩ := h2; simp [h3]
  | b x => simp only at h2; simp [h2]
 ·have hne : a ≠ b := fun e => hl (by rw [e])
  rw [if_pos (by simp; omega)]; simp [hne]
include hF in
theorem rC (a b : List DStep) (ha : a.length ≤ 1000000) : cX F a b = some (decide (a = b)) := by
 unfold cX
 by_cases hl : a.length = b.length
 ·have e := io F a b ha a 0 F () rfl (by omega)
  obtain ⟨o, h1, h2⟩ := pm (L := dp F a b) a b (fun x y => some (decide (x = y))) hl (fun _ _ => rfl) (fun x r i _ => rfl) (fun _ _ _ _ => rfl) a 0 rfl rfl
  rw [if_neg (by simp [hl]), e, h1]
  cases o with
  | a x => obtain ⟨rfl, h3⟩ := h2; simp [h3]
  | b x => simp only at h2; simp [h2]
 ·have hne : a ≠ b := fun e => hl (by rw [e])
  rw [if_pos (by simp; omega)]; simp [hne]
include hF in
theorem xB (ws l : List Int) (hw : ∀ w ∈ ws, 1 ≤ w ∧ w ≤ 16) (hl : l.length ≤ 1000000) : ed F ws l = some (valErrS ws l) := by
 unfold ed
 by_cases hn : ws.length = l.length
 case neg => rw [if_pos (by simp; omega)]; unfold valErrS; rw [if_neg (by omega)]
 rw [if_neg (by simp; omega)]
 unfold gJ
 rw [if_neg (by simp; omega)]
 have e := iR F ws l hl l 0 F () rfl (by omega)
 have k : ∀ (r : List Int) (i : Nat), l.drop i = r → cO F ws l r i () = some (if (eachP (fun i n => if fitsN n (at0 ws i) = true then (0 : Int) else 2) i r).2 = 0 then .b () else .a false) ∧
   ((eachP (fun i n => if fitsN n (at0 ws i) = true then (0 : Int) else 2) i r).2 = 0 ∨ (eachP (fun i n => if fitsN n (at0 ws i) = true then (0 : Int) else 2) i r).2 = 2) := by
  intro r
  induction r with
  | nil => intro i _; exact ⟨rfl, .inl rfl⟩
  | cons x r ih =>
   intro i hd
   have hlt := ir hd
   have hg : ws[i]? = some (ws[i]'(by omega)) := bc (by omega)
   have hw1 := hw _ (List.mem_of_getElem? hg)
   simp only [cO, eachP]
   rw [hg, Option.bind_some, if_pos (by omega), fF hg]
   rcases bb (fitsN x (ws[i]'(by omega))) with h | h
   ·simpa [h] using ih (i + 1) (ah hd)
   ·simp [h]
 obtain ⟨k1, k2⟩ := k l 0 rfl
 rw [e, k1]
 unfold valErrS
 rw [if_pos hn.symm]
 rcases k2 with k2 | k2 <;> simp [k2]
include hF in
theorem Gj {d : Desg} (h : OkD d) (l : List Int) (hl : l.length ≤ 1000000) : bR F d l = some (valErrS (inWs d) l) := by
 unfold bR
 have e : (leavesD d).take d.inputs.length = inWs d := by rw [xv, List.take_left' (by simp [inWs])]
 rw [uG hF d h.few.inputs h.few.elements, Option.bind_some, if_pos (by simp [leavesD]), e, xB hF _ _ h.inW hl]; rfl
include hF in
theorem Ek {d : Desg} (h : FewD d) : gy F d = some (designErrR d).2 := by
 unfold gy
 rw [AX hF h]; rfl
include hF in
theorem Cn {d : Desg} (h : d.elements.length ≤ 1000) : gx F d = some (resetD d) := by
 unfold gx
 have e := jO F d (by omega) d.elements 0 F (List.replicate d.elements.length 0) rfl (by omega)
 have k : ∀ (r : List Elem) (i : Nat) (o : List Int), d.elements.drop i = r → o.length = d.elements.length → cu F d r i o = some (o.take i ++ r.map (·.init)) := by
  intro r
  induction r with
  | nil =>
   intro i o hd ho
   have : d.elements.length ≤ i := by simpa using hd
   rw [cu, List.take_of_length_le (by omega)]; simp
  | cons x r ih =>
   intro i o hd ho
   have hlt := ir hd
   have hg : o[i]? = some (o[i]'(by omega)) := bc (by omega)
   rw [cu, hg, Option.bind_some, ih (i + 1) _ (ah hd) (by simpa using ho), List.take_add_one, List.getElem?_set_self (by omega), List.take_set, List.set_eq_of_length_le (by simp; omega)]
   simp
 rw [if_pos (by omega), e, k d.elements 0 _ rfl (by simp)]
 simp [resetD]
theorem zi (d : Desg) (s : List Int) : eH F d s = aI F d s := by
 have k0 : ∀ k st, dS F d k st = aw F d k st := by
  intro k
  induction k with
  | zero => intro st; rfl
  | succ k ih => rintro ⟨a, b⟩; rw [dS, aw]; simp only [ih]
 have k1 : ∀ k st, ec F d s k st = ay F d s k st := by
  intro k
  induction k with
  | zero => intro st; rfl
  | succ k ih => intro a; rw [ec, ay]; simp only [ih]
 unfold eH aI
 simp only [k0, k1]
include hF in
theorem yl {d : Desg} (h : d.elements.length ≤ 1000) {s : List Int} (hs : s.length = d.elements.length) : eH F d s = some (begL d.elements s) := by
 rw [zi, pa hF h hs]
theorem si {d : Desg} (h : OkD d) {l s : List Int} (hl : LeafOk (inWs d) l) (hs : LeafOk (elWs d) s) : l.length + s.length ≤ 1000000 := by
 have a1 := hl.1
 have a2 := hs.1
 have a3 := h.few.inputs
 have a4 := h.few.elements
 simp [inWs] at a1; simp [elWs] at a2; omega
theorem tN {d : Desg} (h : OkD d) {l s : List Int} (hl : LeafOk (inWs d) l) (hs : LeafOk (elWs d) s) : ∃ ws, GoodAll ws d.nodes ∧ LeafOk ws (l ++ s) := ⟨leavesD d, h.good, oZ hl hs⟩
theorem tO {d : Desg} (h : OkD d) : ∀ x ∈ d.nodes, x.args.length ≤ 1000000 := fun x hx => by have := h.few.args x hx; omega
theorem A2 {d : Desg} (ok : OkD d) {r : Int} (hr : ruleErrR d r = 0) {l s : List Int} (hl : LeafOk (inWs d) l) (hs : LeafOk (elWs d) s) : dG F d r l s = some (enAt d (valsD d l s) r.toNat) := by
 obtain ⟨x, hx, e⟩ := qV hr
 have hi : idxI d.rules r = some x := by rw [e, ga, hx]
 unfold dG
 rw [hi, Option.bind_some, if_pos (si ok hl hs), if_pos ok.few.nodes, if_pos (tO ok), if_pos (tN ok hl hs)]
 have := (kf (kC (ok.rule (List.mem_of_getElem? hx)).1) (il d l s)).1
 unfold valsD at this
 rw [this, Option.bind_some, show enAt d (valsD d l s) r.toNat = enD (valsD d l s) x by simp only [enAt, hx]]
 rfl
include hF in
theorem zj {d : Desg} (ok : OkD d) {r : Int} (hr : ruleErrR d r = 0) {l s : List Int} (hl : LeafOk (inWs d) l) (hs : LeafOk (elWs d) s) : cW F d r l s = some (hapD d r l s) := by
 have e : cW F d r l s = ao F d r (valsD d l s) s := by
  have k0 : ∀ x k st, cv F d l s x k st = al F (valsD d l s) x k st := by
   intro x k
   induction k with
   | zero => intro st; rfl
   | succ k ih => rintro ⟨a, b⟩; rw [cv, al]; simp only [ih, valsD]
  have k1 : ∀ x k st, cN F d l s x k st = an F (valsD d l s) s x k st := by
   intro x k
   induction k with
   | zero => intro st; rfl
   | succ k ih => intro a; rw [cN, an]; simp only [ih, valsD]
  unfold cW ao
  simp only [k0, k1]
  rw [if_pos (si ok hl hs), if_pos ok.few.nodes, if_pos (tO ok), if_pos (tN ok hl hs)]
 rw [e, dn_hap' hF ok hr hs]
theorem ym {d : Desg} {i : Nat} (h : i < d.rules.length) : ruleErrR d (i : Int) = 0 := by
 unfold ruleErrR inLen; rw [if_pos]; simp only [Bool.and_eq_true, decide_eq_true_eq]; omega
def runErrV (d : Desg) (rules l s : List Int) : Int :=
 if 60 < rules.length then 8 else if (eachP (fun _ r => ruleErrR d r) 0 rules).2 = 0 then (if valErrS (inWs d) l = 0 then valErrS (elWs d) s else valErrS (inWs d) l) else (eachP (fun _ r => ruleErrR d r) 0 rules).2
theorem wH {α : Type} {L : List α → Nat → Unit → Option (Oc Int Unit)} (f : α → Option Int) (g : α → Int) (h0 : ∀ i s, L [] i s = some (.b ()))
  (h1 : ∀ x r i s, L (x :: r) i s = (f x).bind fun y => if (decide (¬y = 0)) = true then some (.a y) else L r (i + 1) ()) : ∀ (r : List α) (i : Nat), (∀ x ∈ r, f x = some (g x)) →
   L r i () = some (if (eachP (fun _ x => g x) i r).2 = 0 then .b () else .a (eachP (fun _ x => g x) i r).2)
 | [], i, _ => h0 i ()
 | x :: r, i, hf => by
  rw [h1, hf x (by simp), Option.bind_some, eachP]
  by_cases h : g x = 0
  ·rw [if_neg (by simp [h]), wH f g h0 h1 r (i + 1) (fun y hy => hf y (by simp [hy]))]
   simp only [h, ne_eq, not_true_eq_false, if_false]
  ·rw [if_pos (by simpa using h), if_pos h, if_neg h]
include hF in
theorem r_listsErr' {d : Desg} (ok : OkD d) (inputs : List (List Int)) (hl : inputs.length ≤ 1000) (hi : ∀ l ∈ inputs, l.length ≤ 1000000) : eE F d inputs = some (listsErrR d inputs) := by
 unfold eE listsErrR
 rw [if_pos ok.err]
 by_cases h0 : inputs.length = 0
 ·rw [if_pos (by simp [h0]), if_pos h0]
 rw [if_neg (by simpa using h0), if_neg h0]
 by_cases h1 : 16 < inputs.length
 ·rw [if_pos (by simp; omega), if_pos h1]
 rw [if_neg (by simp; omega), if_neg h1]
 have e : bp F d inputs F 0 = _ := iD F d inputs (by omega) inputs 0 F () rfl (by omega)
 rw [e, wH (L := dM F d inputs) (fun r => bR F d r) (fun r => valErrS (inWs d) r) (fun _ _ => rfl) (fun _ _ _ _ => rfl) inputs 0 (fun r hr => Gj hF ok r (hi r hr)), Option.bind_some]
 by_cases h2 : (eachP (fun _ l => valErrS (inWs d) l) 0 inputs).2 = 0
 ·rw [if_pos h2, h2]
 ·rw [if_neg h2]
include hF in
theorem zk {d : Desg} (h : FewD d) (inputs : List (List Int)) (hl : inputs.length ≤ 1000) (hi : ∀ l ∈ inputs, l.length ≤ 1000000) : fq F d inputs = some (listsErrR d inputs) := by
 unfold fq
 rw [Ek hF h, Option.bind_some]
 by_cases he : (designErrR d).2 = 0
 ·rw [if_pos (by simp [he]), r_listsErr' hF ⟨h, he⟩ inputs hl hi]; rfl
 ·rw [if_neg (by simp [he])]; unfold listsErrR; rw [if_neg he]
end Go.E
set_option linter.all false
namespace Go.E
open Go.Proofs Classical
set_option maxRecDepth 100000
set_option maxHeartbeats 400000
noncomputable section
def dC (F : Nat) (state : List Int) (cv0 : List DFnd) (lv0 : Nat) : Nat → Nat → Option (Oc (Bool) (Unit))
 | 0, _ => none
 | k + 1, s1 => (if (decide ((s1 : Int) < (lv0 : Int))) = true then ((cv0[s1]?).bind fun x4 => ((ey F x4.state state).bind fun y5 => (if y5 = true then some (.a true) else (if inI ((s1 : Int) + 1) then dC F state cv0 lv0 k (s1 + 1) else none)))) else some (.b ()))
theorem pR (bs : List Nat) (H : Heap) (F : Nat) (ca0 : Nat) (cv0 : List DFnd) (vv0 : Nat) (lv0 : Nat) (hca0 : H[ca0]? = some (.arr (cv0.map encDFnd) vv0)) (hl_ca0 : cv0.length = lv0) (state : List Int) : ∀ k s r ρ H', (∃ J2, H' = H ++ J2 ∧ ρ 0 = .ref 4 ca0 vv0 0 lv0 ∧ ρ 1 = .list (state.map (V.int .i64)) ∧ ρ 5 = .int .i64 (s : Int)) → dC F state cv0 lv0 k s = some r → Lp X ⟨19, H.length :: bs⟩ (loopAt Tryz.f162 0) ρ H' ((fun r ex ρ H' => match r with | .a r => ∃ J2, H' = H ++ J2 ∧ ex = .ret ∧ ρ 4 = .bool r | .b r => ∃ J2, H' = H ++ J2 ∧ ex = .exit 0) r) := by
 refine ac (fun _ => rfl) ?_
 rintro k s1 r ρ H' ⟨J2, hH, h0, h1, h5⟩ hR
 skip
 subst hH
 rw [dC] at hR
 have hca0_l := aa hca0
 have hca0_a := get_app' hca0
 conv => arg 3; whnf
 try refine zw ?_
 rcases iteE hR with ⟨c3, hR⟩ | ⟨c3, hR⟩
 ·obtain ⟨x4, x4_e, hR⟩ := bindE hR
  have x4_l : s1 < lv0 := Nat.lt_of_lt_of_eq (aa x4_e) hl_ca0
  obtain ⟨y5, y5_e, hR⟩ := bindE hR
  have y5_k := fun bs H => kh bs H F x4.state state y5 y5_e
  try refine zw ?_
  clear y5_k
  rcases iteE hR with ⟨c6, hR⟩ | ⟨c6, hR⟩
  ·obtain rfl := someE hR
   refine zu ?_
   exact ⟨_, hq, rfl, sl⟩
  ·obtain ⟨g7, hR⟩ := grdE hR
   have g7_w := ae g7
   refine zu ?_
   exact ⟨(s1 + 1), ⟨_, hq, sl, sl, sl⟩, hR.out⟩
 ·obtain rfl := someE hR
  refine zu ?_
  exact ⟨_, hq, rfl⟩
def gB (F : Nat) (cv0 : List DFnd) (lv0 : Nat) (state : List Int) : Option (Bool) := ((dC F state cv0 lv0 F 0).bind fun o8 => match o8 with | .a o9 => some o9 | .b o11 => some false)
theorem sj (bs : List Nat) (H : Heap) (F : Nat) (ca0 : Nat) (cv0 : List DFnd) (vv0 : Nat) (lv0 : Nat) (hca0 : H[ca0]? = some (.arr (cv0.map encDFnd) vv0)) (hl_ca0 : cv0.length = lv0) (state : List Int) (R : Bool) (hR0 : gB F cv0 lv0 state = some R) : callw X bs 162 [.ref 4 ca0 vv0 0 lv0, .list (state.map (V.int .i64))] H = some (.bool R, H) := by
 refine yw2 (rs := [.tmp 4]) (N := 19) (fn := Tryz.f162) De M8 ?_
 have hca0_l := aa hca0
 have hca0_a := get_app' hca0
 have hR := Kp.mk hR0
 clear hR0
 rw [gB] at hR
 obtain ⟨o8, o8_e, hR⟩ := bindE hR
 refine zu ?_
 refine ab (af (c := (loopAt Tryz.f162 0)) rfl (pR _ H F ca0 cv0 vv0 lv0 hca0 hl_ca0 state _ 0 o8 _ _ ⟨[], by simp, sl, sl, sl⟩ o8_e)) ?_
 rcases o8 with o9 | o11
 ·rintro ex ρ' H' ⟨J10, rfl, rfl, q4_o9⟩ hf
  clear hf
  obtain rfl := someE hR
  exact zv
 ·rintro ex ρ' H' ⟨J12, rfl, rfl⟩ hf
  clear hf
  obtain rfl := someE hR
  exact zv
def aX (F : Nat) (d : Desg) (inputs : List (List Int)) (s319 : Nat) (s425 : Nat) : Nat → (Nat × (List DFnd) × Nat) → Option (Oc ((List DFnd) × Bool × (List DFnd) × Nat) ((List DFnd) × Nat))
 | 0, _ => none
 | k + 1, (s458, s460, s461) => (if (decide ((s458 : Int) < (d.rules.length : Int))) = true then ((s460[s319]?).bind fun x464 => ((gW F d inputs (⟨(s425 : Int), (s458 : Int)⟩ : DStep) x464.state).bind fun y465 => (if y465.2 = true then ((gB F s460 s460.length y465.1).bind fun y467 => (if y467 = true then (if inI ((s458 : Int) + 1) then aX F d inputs s319 s425 k ((s458 + 1), s460, s461) else none) else (if (decide ((s460.length : Int) = 300)) = true then some (.a ([], false, s460, s461)) else (if (s460.length + 1) ≤ 1000000 then (if inI ((s458 : Int) + 1) then aX F d inputs s319 s425 k ((s458 + 1), (s460 ++ [(⟨y465.1, (s319 : Int), (⟨(s425 : Int), (s458 : Int)⟩ : DStep)⟩ : DFnd)]), (s461 + 1)) else none) else none)))) else (if inI ((s458 : Int) + 1) then aX F d inputs s319 s425 k ((s458 + 1), s460, s461) else none)))) else some (.b (s460, s461)))
theorem pn (bs : List Nat) (H : Heap) (F : Nat) (d : Desg) (inputs : List (List Int)) (s319 : Nat) (s425 : Nat) (a459 : HObj) : ∀ k s r ρ H', (∃ J462, H' = H ++ .cells [.str d.name, .list (d.inputs.map encPort), .list (d.elements.map encElem), .list (d.nodes.map encNode), .list (d.rules.map encRul), .list (d.outs.map encOutp), .list (d.attrs.map encAttr)] :: a459 :: .arr (s.2.1.map encDFnd) s.2.2 :: J462 ∧ ρ 1 = .list (inputs.map encInts) ∧ ρ 2 = .ptr H.length 0 ∧ ρ 6 = .ref 4 (H.length + 2) s.2.2 0 s.2.1.length ∧ ρ 7 = .int .i64 (s319 : Int) ∧ ρ 8 = .int .i64 (s425 : Int) ∧ ρ 9 = .int .i64 (s.1 : Int)) → aX F d inputs s319 s425 k s = some r → Lp X ⟨69, H.length :: bs⟩ (loopAt Tryz.f88 2) ρ H' ((fun r ex ρ H' => match r with | .a r => ∃ J462, H' = H ++ .cells [.str d.name, .list (d.inputs.map encPort), .list (d.elements.map encElem), .list (d.nodes.map encNode), .list (d.rules.map encRul), .list (d.outs.map encOutp), .list (d.attrs.map encAttr)] :: a459 :: .arr (r.2.2.1.map encDFnd) r.2.2.2 :: J462 ∧ ex = .ret ∧ (∃ v, ρ 4 = v ∧ AnyL v (r.1.map encDFnd)) ∧ ρ 5 = .bool r.2.1 | .b r => ∃ J462, H' = H ++ .cells [.str d.name, .list (d.inputs.map encPort), .list (d.elements.map encElem), .list (d.nodes.map encNode), .list (d.rules.map encRul), .list (d.outs.map encOutp), .list (d.attrs.map encAttr)] :: a459 :: .arr (r.1.map encDFnd) r.2 :: J462 ∧ ex = .exit 4 ∧ ρ 6 = .ref 4 (H.length + 2) r.2 0 r.1.length) r) := by
 refine ac (fun _ => rfl) ?_
 rintro k ⟨s458, s460, s461⟩ r ρ H' ⟨J462, hH, h1, h2, h6, h7, h8, h9⟩ hR
 simp only at hH h1 h2 h6 h7 h8 h9
 subst hH
 rw [aX] at hR
 conv => arg 3; whnf
 try refine zw ?_
 rcases iteE hR with ⟨c463, hR⟩ | ⟨c463, hR⟩
 ·obtain ⟨x464, x464_e, hR⟩ := bindE hR
  have x464_l : s319 < s460.length := aa x464_e
  obtain ⟨y465, y465_e, hR⟩ := bindE hR
  have y465_k := fun bs H => tp bs H F d inputs (⟨(s425 : Int), (s458 : Int)⟩ : DStep) x464.state y465 y465_e
  (try simp only [cellsDStep, cellsDesg, encDStep, encDesg, encInts] at y465_k)
  try refine zu ?_
  (refine yw0 (id := 12) oz44 ?_)
  try refine zw ?_
  clear y465_k
  rcases iteE hR with ⟨c466, hR⟩ | ⟨c466, hR⟩
  ·obtain ⟨y467, y467_e, hR⟩ := bindE hR
   have y467_k := fun (bs : List Nat) (u0 u1 : HObj) (J : Heap) => sj bs (H ++ u0 :: u1 :: .arr (s460.map encDFnd) s461 :: J) F (H.length + 2) s460 s461 s460.length gt rfl y465.1 y467 y467_e
   try refine zw ?_
   clear y467_k
   rcases iteE hR with ⟨c468, hR⟩ | ⟨c468, hR⟩
   ·obtain ⟨g469, hR⟩ := grdE hR
    have g469_w := ae g469
    refine zu ?_
    exact ⟨((s458 + 1), s460, s461), ⟨_, hq, sl, sl, sl, sl, sl, sl⟩, hR.out⟩
   ·try refine zw ?_
    rcases iteE hR with ⟨c470, hR⟩ | ⟨c470, hR⟩
    ·obtain rfl := someE hR
     refine zu ?_
     exact ⟨_, hq, rfl, ⟨_, sl, vU⟩, sl⟩
    ·obtain ⟨g471, hR⟩ := grdE hR
     have g471_r := iq (n := (s460.length + 1)) (k := 48) g471 (by omega)
     have g471_t := fI encDFnd (l := s460) (n := s460.length) rfl
     have g471_u := ij (l := s460) (n := s460.length) rfl
     have g471_m := (List.map_append (f := encDFnd) (l₁ := s460) (l₂ := [(⟨y465.1, (s319 : Int), (⟨(s425 : Int), (s458 : Int)⟩ : DStep)⟩ : DFnd)])).symm
     simp only [cellsDFnd, cellsDStep, encDFnd, encDStep, encInts, List.map_cons, List.map_nil] at g471_m
     obtain ⟨g472, hR⟩ := grdE hR
     have g472_w := ae g472
     refine zu ?_
     exact ⟨((s458 + 1), (s460 ++ [(⟨y465.1, (s319 : Int), (⟨(s425 : Int), (s458 : Int)⟩ : DStep)⟩ : DFnd)]), (s461 + 1)), ⟨_, hq, sl, sl, sl, sl, sl, sl⟩, hR.out⟩
  ·obtain ⟨g473, hR⟩ := grdE hR
   have g473_w := ae g473
   refine zu ?_
   exact ⟨((s458 + 1), s460, s461), ⟨_, hq, sl, sl, sl, sl, sl, sl⟩, hR.out⟩
 ·obtain rfl := someE hR
  refine zu ?_
  exact ⟨_, hq, rfl, sl⟩
def bS (F : Nat) (d : Desg) (inputs : List (List Int)) (s319 : Nat) : Nat → (Nat × (List DFnd) × Nat) → Option (Oc ((List DFnd) × Bool × (List DFnd) × Nat) ((List DFnd) × Nat))
 | 0, _ => none
 | k + 1, (s425, s427, s428) => (if (decide ((s425 : Int) < (inputs.length : Int))) = true then ((aX F d inputs s319 s425 F (0, s427, s428)).bind fun o474 => match o474 with | .a o475 => some (.a (o475.1, o475.2.1, o475.2.2.1, o475.2.2.2)) | .b o477 => (if inI ((s425 : Int) + 1) then bS F d inputs s319 k ((s425 + 1), o477.1, o477.2) else none)) else some (.b (s427, s428)))
theorem po (bs : List Nat) (H : Heap) (F : Nat) (d : Desg) (inputs : List (List Int)) (s319 : Nat) (a426 : HObj) : ∀ k s r ρ H', (∃ J429, H' = H ++ .cells [.str d.name, .list (d.inputs.map encPort), .list (d.elements.map encElem), .list (d.nodes.map encNode), .list (d.rules.map encRul), .list (d.outs.map encOutp), .list (d.attrs.map encAttr)] :: a426 :: .arr (s.2.1.map encDFnd) s.2.2 :: J429 ∧ ρ 1 = .list (inputs.map encInts) ∧ ρ 2 = .ptr H.length 0 ∧ ρ 6 = .ref 4 (H.length + 2) s.2.2 0 s.2.1.length ∧ ρ 7 = .int .i64 (s319 : Int) ∧ ρ 8 = .int .i64 (s.1 : Int)) → bS F d inputs s319 k s = some r → Lp X ⟨69, H.length :: bs⟩ (loopAt Tryz.f88 1) ρ H' ((fun r ex ρ H' => match r with | .a r => ∃ J429, H' = H ++ .cells [.str d.name, .list (d.inputs.map encPort), .list (d.elements.map encElem), .list (d.nodes.map encNode), .list (d.rules.map encRul), .list (d.outs.map encOutp), .list (d.attrs.map encAttr)] :: a426 :: .arr (r.2.2.1.map encDFnd) r.2.2.2 :: J429 ∧ ex = .ret ∧ (∃ v, ρ 4 = v ∧ AnyL v (r.1.map encDFnd)) ∧ ρ 5 = .bool r.2.1 | .b r => ∃ J429, H' = H ++ .cells [.str d.name, .list (d.inputs.map encPort), .list (d.elements.map encElem), .list (d.nodes.map encNode), .list (d.rules.map encRul), .list (d.outs.map encOutp), .list (d.attrs.map encAttr)] :: a426 :: .arr (r.1.map encDFnd) r.2 :: J429 ∧ ex = .exit 2 ∧ ρ 6 = .ref 4 (H.length + 2) r.2 0 r.1.length) r) := by
 refine ac (fun _ => rfl) ?_
 rintro k ⟨s425, s427, s428⟩ r ρ H' ⟨J429, hH, h1, h2, h6, h7, h8⟩ hR
 simp only at hH h1 h2 h6 h7 h8
 subst hH
 rw [bS] at hR
 conv => arg 3; whnf
 try refine zw ?_
 rcases iteE hR with ⟨c430, hR⟩ | ⟨c430, hR⟩
 ·obtain ⟨o474, o474_e, hR⟩ := bindE hR
  refine zu ?_
  refine ab (af (c := (loopAt Tryz.f88 2)) rfl (pn _ H F d inputs s319 s425 _ _ (0, s427, s428) o474 _ _ ⟨_, hq, sl, sl, sl, sl, sl, sl⟩ o474_e)) ?_
  rcases o474 with o475 | o477
  ·rintro ex ρ' H' ⟨J476, rfl, rfl, ⟨v4_o475, q4_o475, q4_o475_a⟩, q5_o475⟩ hf
   clear hf
   obtain rfl := someE hR
   refine zu ?_
   exact ⟨_, hq, rfl, ⟨_, sl, q4_o475_a⟩, sl⟩
  ·rintro ex ρ' H' ⟨J478, rfl, rfl, q6_o477⟩ hf
   have q1_o477 : ρ' 1 = .list (inputs.map encInts) := (hf 1 rfl).trans (sl)
   have q2_o477 : ρ' 2 = .ptr H.length 0 := (hf 2 rfl).trans (sl)
   have q7_o477 : ρ' 7 = .int .i64 (s319 : Int) := (hf 7 rfl).trans (sl)
   have q8_o477 : ρ' 8 = .int .i64 (s425 : Int) := (hf 8 rfl).trans (sl)
   clear hf
   obtain ⟨g479, hR⟩ := grdE hR
   have g479_w := ae g479
   refine zu ?_
   exact ⟨((s425 + 1), o477.1, o477.2), ⟨_, hq, sl, sl, sl, sl, sl⟩, hR.out⟩
 ·obtain rfl := someE hR
  refine zu ?_
  exact ⟨_, hq, rfl, sl⟩
def cY (F : Nat) (d : Desg) (inputs : List (List Int)) : Nat → (Nat × (List DFnd) × Nat) → Option (Oc ((List DFnd) × Bool × (List DFnd) × Nat) ((List DFnd) × Nat))
 | 0, _ => none
 | k + 1, (s319, s320, s321) => (if (decide ((s319 : Int) < (s320.length : Int))) = true then ((bS F d inputs s319 F (0, s320, s321)).bind fun o480 => match o480 with | .a o481 => some (.a (o481.1, o481.2.1, o481.2.2.1, o481.2.2.2)) | .b o483 => (if inI ((s319 : Int) + 1) then cY F d inputs k ((s319 + 1), o483.1, o483.2) else none)) else some (.b (s320, s321)))
theorem pp (bs : List Nat) (H : Heap) (F : Nat) (d : Desg) (inputs : List (List Int)) : ∀ k s r ρ H', (∃ J322, H' = H ++ .cells [.str d.name, .list (d.inputs.map encPort), .list (d.elements.map encElem), .list (d.nodes.map encNode), .list (d.rules.map encRul), .list (d.outs.map encOutp), .list (d.attrs.map encAttr)] :: .tok 0 :: .arr (s.2.1.map encDFnd) s.2.2 :: J322 ∧ ρ 1 = .list (inputs.map encInts) ∧ ρ 2 = .ptr H.length 0 ∧ ρ 6 = .ref 4 (H.length + 2) s.2.2 0 s.2.1.length ∧ ρ 7 = .int .i64 (s.1 : Int)) → cY F d inputs k s = some r → Lp X ⟨69, H.length :: bs⟩ (loopAt Tryz.f88 0) ρ H' ((fun r ex ρ H' => match r with | .a r => ∃ J322, H' = H ++ .cells [.str d.name, .list (d.inputs.map encPort), .list (d.elements.map encElem), .list (d.nodes.map encNode), .list (d.rules.map encRul), .list (d.outs.map encOutp), .list (d.attrs.map encAttr)] :: .tok 0 :: .arr (r.2.2.1.map encDFnd) r.2.2.2 :: J322 ∧ ex = .ret ∧ (∃ v, ρ 4 = v ∧ AnyL v (r.1.map encDFnd)) ∧ ρ 5 = .bool r.2.1 | .b r => ∃ J322, H' = H ++ .cells [.str d.name, .list (d.inputs.map encPort), .list (d.elements.map encElem), .list (d.nodes.map encNode), .list (d.rules.map encRul), .list (d.outs.map encOutp), .list (d.attrs.map encAttr)] :: .tok 0 :: .arr (r.1.map encDFnd) r.2 :: J322 ∧ ex = .exit 0 ∧ ρ 6 = .ref 4 (H.length + 2) r.2 0 r.1.length) r) := by
 refine ac (fun _ => rfl) ?_
 rintro k ⟨s319, s320, s321⟩ r ρ H' ⟨J322, hH, h1, h2, h6, h7⟩ hR
 simp only at hH h1 h2 h6 h7
 subst hH
 rw [cY] at hR
 conv => arg 3; whnf
 try refine zw ?_
 rcases iteE hR with ⟨c323, hR⟩ | ⟨c323, hR⟩
 ·obtain ⟨o480, o480_e, hR⟩ := bindE hR
  refine zu ?_
  refine ab (af (c := (loopAt Tryz.f88 1)) rfl (po _ H F d inputs s319 _ _ (0, s320, s321) o480 _ _ ⟨_, hq, sl, sl, sl, sl, sl⟩ o480_e)) ?_
  rcases o480 with o481 | o483
  ·rintro ex ρ' H' ⟨J482, rfl, rfl, ⟨v4_o481, q4_o481, q4_o481_a⟩, q5_o481⟩ hf
   clear hf
   obtain rfl := someE hR
   refine zu ?_
   exact ⟨_, hq, rfl, ⟨_, sl, q4_o481_a⟩, sl⟩
  ·rintro ex ρ' H' ⟨J484, rfl, rfl, q6_o483⟩ hf
   have q1_o483 : ρ' 1 = .list (inputs.map encInts) := (hf 1 rfl).trans (sl)
   have q2_o483 : ρ' 2 = .ptr H.length 0 := (hf 2 rfl).trans (sl)
   have q7_o483 : ρ' 7 = .int .i64 (s319 : Int) := (hf 7 rfl).trans (sl)
   clear hf
   obtain ⟨g485, hR⟩ := grdE hR
   have g485_w := ae g485
   refine zu ?_
   exact ⟨((s319 + 1), o483.1, o483.2), ⟨_, hq, sl, sl, sl, sl⟩, hR.out⟩
 ·obtain rfl := someE hR
  refine zu ?_
  exact ⟨_, hq, rfl, sl⟩
def fZ (F : Nat) (d : Desg) (inputs : List (List Int)) : Option ((List DFnd) × Bool) := ((gx F d).bind fun y1 => ((cY F d inputs F (0, [(⟨y1, (-1), (⟨0, 0⟩ : DStep)⟩ : DFnd)], 0)).bind fun o486 => match o486 with | .a o487 => some (o487.1, o487.2.1) | .b o489 => some (o489.1, true)))
theorem rf (bs : List Nat) (H : Heap) (F : Nat) (d : Desg) (inputs : List (List Int)) (R : (List DFnd) × Bool) (hR0 : fZ F d inputs = some R) : callw X bs 88 [(encDesg d), .list (inputs.map encInts)] H = some (.tuple [.list (R.1.map encDFnd), .bool R.2], H) := by
 refine yw2 (rs := [.tmp 4, .tmp 5]) (N := 69) (fn := Tryz.f88) xk88 xf88 ?_
 have hR := Kp.mk hR0
 clear hR0
 rw [fZ] at hR
 (try simp only [cellsDesg, encDesg, encInts])
 obtain ⟨y1, y1_e, hR⟩ := bindE hR
 have y1_k := fun bs H => se bs H F d y1 y1_e
 (try simp only [cellsDesg, encDesg, encInts] at y1_k)
 obtain ⟨o486, o486_e, hR⟩ := bindE hR
 refine zu ?_
 refine ab (af (c := (loopAt Tryz.f88 0)) rfl (pp _ H F d inputs _ (0, [(⟨y1, (-1), (⟨0, 0⟩ : DStep)⟩ : DFnd)], 0) o486 _ _ ⟨_, hq, sl, sl, sl, sl⟩ o486_e)) ?_
 clear y1_k
 rcases o486 with o487 | o489
 ·rintro ex ρ' H' ⟨J488, rfl, rfl, ⟨v4_o487, q4_o487, q4_o487_a⟩, q5_o487⟩ hf
  clear hf
  obtain rfl := someE hR
  rcases q4_o487_a with hv0 | ⟨t0, hv0⟩
  all_goals exact zv
 ·rintro ex ρ' H' ⟨J490, rfl, rfl, q6_o489⟩ hf
  clear hf
  obtain rfl := someE hR
  have rt0 := fI encDFnd (l := o489.1) (n := o489.1.length) rfl
  have rt1 := ij (l := o489.1) (n := o489.1.length) rfl
  exact zv
end
end Go.E
namespace Go.E
open Classical
def toF (v : DVisit) : DFnd := ⟨v.state, v.prev, v.step⟩
theorem tP : ∀ (els : List Elem) (s : List Int), begL els (begL els s) = begL els s
 | [], _ => rfl
 | _ :: _, [] => rfl
 | x :: els, n :: s => by
  have := tP els s
  unfold begL at this ⊢
  simp only [List.zipWith_cons_cons, this]
  by_cases h : x.kind = 1 <;> simp [h]
theorem A3 (d : Desg) : begL d.elements (resetD d) = resetD d := by
 unfold resetD
 generalize d.elements = els
 induction els with
 | nil => rfl
 | cons x els ih =>
  unfold begL at ih ⊢
  simp only [List.map_cons, List.zipWith_cons_cons, ih]
  by_cases h : x.kind = 1 <;> simp [h]
theorem pq (i : Nat) : ∀ (xs ys : List (DStep × List Int)) (l : List DVisit), reachR i (xs ++ ys) l = (reachR i xs l).bind fun o => match o with | .a l' => reachR i ys l' | .b _ => some (.b ())
 | [], ys, l => rfl
 | x :: xs, ys, l => by
  rw [List.cons_append, reachR, reachR]
  split
  ·exact pq i xs ys l
  ·split
   ·rfl
   ·exact pq i xs ys _
theorem pr (i : Nat) : ∀ {xs : List (DStep × List Int)} {l l' : List DVisit}, reachR i xs l = some (.a l') → ∃ t, l' = l ++ t
 | [], l, l', h => by cases h; exact ⟨[], by simp⟩
 | x :: xs, l, l', h => by
  rw [reachR] at h
  split at h
  ·exact pr i h
  ·split at h
   ·cases h
   ·obtain ⟨t, ht⟩ := pr i h
    exact ⟨_ :: t, by rw [ht, List.append_assoc]; rfl⟩
structure VisF (d : Desg) (l : List DVisit) : Prop where
 ok : VisOk d l
 fix : ∀ v ∈ l, begL d.elements v.state = v.state
theorem VisF.more {d : Desg} {l : List DVisit} (h : VisF d l) {v : DVisit} (hl : l.length < 300) (hv : LeafOk (elWs d) v.state) (hf : begL d.elements v.state = v.state) : VisF d (l ++ [v]) := by
 refine ⟨⟨by simp; omega, fun w hw => ?_⟩, fun w hw => ?_⟩
 ·rcases List.mem_append.1 hw with hw | hw
  ·exact h.ok.st w hw
  ·obtain rfl := List.mem_singleton.1 hw; exact hv
 ·rcases List.mem_append.1 hw with hw | hw
  ·exact h.fix w hw
  ·obtain rfl := List.mem_singleton.1 hw; exact hf
variable {F : Nat} (hF : 1000000 < F)
include hF in
theorem Gk (l : List DVisit) (s : List Int) (hl : l.length ≤ 1000) (hs : ∀ v ∈ l, v.state.length ≤ 1000000) : gB F (l.map toF) l.length s = some (knownV l s) := by
 unfold gB
 rw [AM (L := dC F s (l.map toF) l.length) l.length (fun i => match l[i]? with | some v => decide (v.state = s) | none => false) true (fun k i hi => by
  have hg := bc hi
  rw [dC, lt_n i _ hi, if_pos rfl, List.getElem?_map, hg, Option.map_some, Option.bind_some, show (toF l[i]).state = l[i].state from rfl, wG hF _ _ (hs _ (List.mem_of_getElem? hg)), Option.bind_some, if_pos (in_1 (by omega))]) (fun k => by rw [dC, oV]; rfl) F (by omega)]
 rw [wq l (fun v => decide (v.state = s)) _ l.length (Nat.le_refl _) (fun i x _ hx => by simp only [hx]), List.take_length]
 unfold knownV
 cases l.any fun v => decide (v.state = s) <;> rfl
theorem Gl {d : Desg} (ok : OkD d) {l : List DVisit} (h : VisOk d l) : ∀ v ∈ l, v.state.length ≤ 1000000 := fun v hv => by
 have := (h.st v hv).1
 have h4 := ok.few.elements
 rw [this]; simp [elWs]; omega
include hF in
theorem HI {d : Desg} (ok : OkD d) {inputs : List (List Int)} (hin : ∀ x ∈ inputs, LeafOk (inWs d) x) {k r : Nat} {li : List Int} (hk : inputs[k]? = some li) {x : Rul} (hr : d.rules[r]? = some x) {s : List Int} (hs : LeafOk (elWs d) s) (hf : begL d.elements s = s) :
  gW F d inputs (⟨(k : Int), (r : Int)⟩ : DStep) s = some (if enD (valsD d li s) x = true then (begL d.elements (hapL x.writes (valsD d li s) s), true) else ([], false)) := by
 have hl := hin li (List.mem_of_getElem? hk)
 have hel := ok.few.elements
 have hr0 := ym (d := d) (aa hr)
 have hlen : s.length = d.elements.length := by rw [hs.1]; simp [elWs]
 unfold gW
 simp only
 rw [yl hF hel hlen, Option.bind_some, hf, ga, hk, Option.bind_some, A2 ok hr0 hl hs, Option.bind_some, Int.toNat_natCast, show enAt d (valsD d li s) r = enD (valsD d li s) x by simp only [enAt, hr]]
 cases enD (valsD d li s) x
 ·rfl
 ·have hh := tM ok hr0 hl hs
  have e : hapD d (r : Int) li s = hapL x.writes (valsD d li s) s := by simp only [hapD, Int.toNat_natCast, hr]
  simp only [if_true]
  rw [zj hF ok hr0 hl hs, Option.bind_some, yl hF hel (by rw [hh.1]; simp [elWs]), Option.bind_some, e]
include hF in
theorem yn {d : Desg} (ok : OkD d) {inputs : List (List Int)} (hin : ∀ x ∈ inputs, LeafOk (inWs d) x) {i k : Nat} {li : List Int} (hk : inputs[k]? = some li) {s : List Int} (hs : LeafOk (elWs d) s) (hf : begL d.elements s = s) :
  ∀ (rs : List Rul) (r fuel ver : Nat) (l : List DVisit), d.rules.drop r = rs → rs.length < fuel → VisF d l → (∃ v, l[i]? = some v ∧ v.state = s) →
   (∃ l' ver', reachR i (stepsAt d k (valsD d li s) s rs r) l = some (.a l') ∧ aX F d inputs i k fuel (r, l.map toF, ver) = some (.b (l'.map toF, ver')) ∧ VisF d l') ∨
   (∃ l2 v2, reachR i (stepsAt d k (valsD d li s) s rs r) l = some (.b ()) ∧ aX F d inputs i k fuel (r, l.map toF, ver) = some (.a ([], false, l2, v2)))
 | _, _, 0, _, _, _, h, _, _ => absurd h (Nat.not_lt_zero _)
 | [], r, fuel + 1, ver, l, hd, _, hv, _ => by
  refine .inl ⟨l, ver, rfl, ?_, hv⟩
  rw [aX, aj hd]; rfl
 | x :: rs, r, fuel + 1, ver, l, hd, hfu, hv, ⟨v, hvi, hvs⟩ => by
  have hr := ap hd
  have hlt := ir hd
  have h6 : r ≤ 1000000 := by have := ok.few.rules; omega
  have hlen := hv.ok.len
  have hget : (l.map toF)[i]? = some (toF v) := by rw [List.getElem?_map, hvi]; rfl
  rw [aX, az hd, if_pos rfl, hget, Option.bind_some, show (toF v).state = s from hvs, HI hF ok hin hk hr hs hf, Option.bind_some, stepsAt]
  have ih := fun ver l hv hg => yn (i := i) ok hin hk hs hf rs (r + 1) fuel ver l (ah hd) (Nat.lt_of_succ_lt_succ hfu) hv hg
  have i1 := in_1 h6
  cases he : enD (valsD d li s) x
  ·simp only [Bool.false_eq_true, if_false, if_pos i1]
   exact ih ver l hv ⟨v, hvi, hvs⟩
  ·have hn : LeafOk (elWs d) (begL d.elements (hapL x.writes (valsD d li s) s)) := by
    have := tM ok (ym (aa hr)) (hin li (List.mem_of_getElem? hk)) hs
    simp only [hapD, Int.toNat_natCast, hr] at this
    exact tc ok this
   simp only [if_true, List.length_map, Gk hF l _ (by omega) (Gl ok hv.ok), Option.bind_some, reachR]
   cases hkn : knownV l (begL d.elements (hapL x.writes (valsD d li s) s))
   ·simp only [Bool.false_eq_true, if_false]
    by_cases h3 : l.length = 300
    ·rw [if_pos (decide_eq_true (by omega)), if_pos h3]
     exact .inr ⟨_, _, rfl, rfl⟩
    ·rw [if_neg h3, if_neg (show ¬ decide ((l.length : Int) = 300) = true by simp; omega), if_pos (show l.length + 1 ≤ 1000000 by omega), if_pos i1]
     have := ih (ver + 1) (l ++ [⟨begL d.elements (hapL x.writes (valsD d li s) s), (i : Int), ⟨(k : Int), (r : Int)⟩⟩]) (hv.more (by omega) hn (tP _ _)) ⟨v, by rw [List.getElem?_append_left (aa hvi)]; exact hvi, hvs⟩
     rw [List.map_append] at this
     exact this
   ·simp only [if_true, if_pos i1]
    exact ih ver l hv ⟨v, hvi, hvs⟩
include hF in
theorem wI {d : Desg} (ok : OkD d) {inputs : List (List Int)} (hin : ∀ x ∈ inputs, LeafOk (inWs d) x) (h6 : inputs.length ≤ 1000) {i : Nat} {s : List Int} (hs : LeafOk (elWs d) s) (hf : begL d.elements s = s) :
  ∀ (ls : List (List Int)) (k fuel ver : Nat) (l : List DVisit), inputs.drop k = ls → ls.length < fuel → VisF d l → (∃ v, l[i]? = some v ∧ v.state = s) →
   (∃ l' ver', reachR i (stepsFrom d s ls k) l = some (.a l') ∧ bS F d inputs i fuel (k, l.map toF, ver) = some (.b (l'.map toF, ver')) ∧ VisF d l') ∨
   (∃ l2 v2, reachR i (stepsFrom d s ls k) l = some (.b ()) ∧ bS F d inputs i fuel (k, l.map toF, ver) = some (.a ([], false, l2, v2)))
 | _, _, 0, _, _, _, h, _, _ => absurd h (Nat.not_lt_zero _)
 | [], k, fuel + 1, ver, l, hd, _, hv, _ => by
  refine .inl ⟨l, ver, rfl, ?_, hv⟩
  rw [bS, aj hd]; rfl
 | li :: ls, k, fuel + 1, ver, l, hd, hfu, hv, ⟨v, hvi, hvs⟩ => by
  have hk := ap hd
  have hlt := ir hd
  rw [bS, az hd, if_pos rfl, stepsFrom, pq]
  rcases yn hF ok hin hk hs hf d.rules 0 F ver l rfl (by have := ok.few.rules; omega) hv ⟨v, hvi, hvs⟩ with ⟨l', ver', e1, e2, e3⟩ | ⟨l2, v2, e1, e2⟩
  ·rw [e1, e2, Option.bind_some, Option.bind_some]
   simp only
   rw [if_pos (in_1 (by omega))]
   obtain ⟨t, ht⟩ := pr i e1
   exact wI ok hin h6 hs hf ls (k + 1) fuel ver' l' (ah hd) (Nat.lt_of_succ_lt_succ hfu) e3 ⟨v, by rw [ht, List.getElem?_append_left (aa hvi)]; exact hvi, hvs⟩
  ·rw [e1, e2]
   exact .inr ⟨l2, v2, rfl, rfl⟩
include hF in
theorem El {d : Desg} (ok : OkD d) {inputs : List (List Int)} (hin : ∀ x ∈ inputs, LeafOk (inWs d) x) (h6 : inputs.length ≤ 1000) :
  ∀ (K fuel i ver : Nat) (l : List DVisit) (o : Oc (List DVisit) Unit), K ≤ fuel → i + K ≤ 1000 → VisF d l → reachF d inputs K (i, l) = some o →
   (∃ l' ver', o = .a l' ∧ cY F d inputs fuel (i, l.map toF, ver) = some (.b (l'.map toF, ver'))) ∨
   (∃ l2 v2, o = .b () ∧ cY F d inputs fuel (i, l.map toF, ver) = some (.a ([], false, l2, v2)))
 | 0, _, _, _, _, _, _, _, _, h => by cases h
 | K + 1, 0, _, _, _, _, h, _, _, _ => by omega
 | K + 1, fuel + 1, i, ver, l, o, hK, hi, hv, h => by
  unfold reachF at h
  rw [cY]
  rcases Nat.lt_or_ge i l.length with hlt | hge
  ·have hg := bc hlt
   rw [hg] at h
   simp only at h
   have hm := List.mem_of_getElem? hg
   rw [show ((l.map toF).length : Int) = (l.length : Int) by simp, lt_n i _ hlt, if_pos rfl]
   rcases wI hF ok hin h6 (i := i) (hv.ok.st _ hm) (hv.fix _ hm) inputs 0 F ver l rfl (by omega) hv ⟨_, hg, rfl⟩ with ⟨l', ver', e1, e2, e3⟩ | ⟨l2, v2, e1, e2⟩
   ·rw [e1, Option.bind_some] at h
    rw [e2, Option.bind_some]
    simp only at h ⊢
    rw [if_pos (in_1 (by omega))]
    exact El ok hin h6 K fuel (i + 1) ver' l' o (by omega) (by omega) e3 h
   ·rw [e1, Option.bind_some] at h
    cases h
    rw [e2]
    exact .inr ⟨l2, v2, rfl, rfl⟩
  ·have hg : l[i]? = none := List.getElem?_eq_none hge
   rw [hg] at h
   cases h
   refine .inl ⟨l, ver, rfl, ?_⟩
   rw [show ((l.map toF).length : Int) = (l.length : Int) by simp, if_neg (by simp; omega)]
include hF in
theorem Co {d : Desg} (ok : OkD d) {inputs : List (List Int)} (hin : ∀ x ∈ inputs, LeafOk (inWs d) x) (h6 : inputs.length ≤ 1000) :
  fZ F d inputs = some (if (searchD d inputs).2 = 0 then ((searchD d inputs).1.map toF, true) else ([], false)) := by
 unfold fZ
 rw [Cn hF ok.few.elements, Option.bind_some]
 obtain ⟨o, ho⟩ := iO ok hin 302 0 (startD d) (ja ok) (by omega) (by omega)
 have hst : (startD d).map toF = [(⟨resetD d, (-1), (⟨0, 0⟩ : DStep)⟩ : DFnd)] := by unfold startD; rw [A3]; rfl
 have hf : VisF d (startD d) := ⟨ja ok, fun v hv => by obtain rfl := List.mem_singleton.1 hv; exact tP _ _⟩
 rcases El hF ok hin h6 302 F 0 0 (startD d) o (by omega) (by omega) hf ho with ⟨l', ver', rfl, e⟩ | ⟨l2, v2, rfl, e⟩
 ·have hs : searchD d inputs = (l', 0) := by unfold searchD; rw [ho]
  rw [hst] at e
  rw [e, hs]; rfl
 ·have hs : searchD d inputs = ([], 16) := by unfold searchD; rw [ho]
  rw [hst] at e
  rw [e, hs]; rfl
end Go.E
