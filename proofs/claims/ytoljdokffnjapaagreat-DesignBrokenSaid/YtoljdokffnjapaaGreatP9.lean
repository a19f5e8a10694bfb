/- Laws of chapter 15 in E. Own work. -/
import Derived.Test.YtoljdokffnjapaaGreatP3
import Derived.Test.YtoljdokffnjapaaGreatP8
import Derived.Test.YtoljdokffnjapaaGreatP6
import Derived.Test.YtoljdokffnjapaaGreatP7
import Derived.Test.YtoljdokffnjapaaGreatP5
import Derived.Test.YtoljdokffnjapaaGreatP4
import Derived.Test.YtoljdokffnjapaaGreatP2
set_option linter.all false
namespace Go.E
open Go.Proofs
set_option maxRecDepth 100000
set_option maxHeartbeats 400000
structure SmallD (d : Desg) : Prop where
 inputs : d.inputs.length ≤ 1000
 elements : d.elements.length ≤ 1000
 nodes : d.nodes.length ≤ 1000
 rules : d.rules.length ≤ 1000
 outs : d.outs.length ≤ 1000
 attrs : d.attrs.length ≤ 1000
 args : ∀ x ∈ d.nodes, x.args.length ≤ 1000000
 writes : ∀ x ∈ d.rules, x.writes.length ≤ 1000000
 arules : ∀ x ∈ d.attrs, x.rules.length ≤ 1000000
theorem wK (bs : List Nat) (H : Heap) (l : List Node) (hl : l.length ≤ 1000) (ha : ∀ x ∈ l, x.args.length ≤ 1000000) : callw X bs 67 [.list (l.map encNode)] H = some (.list (l.map encNode), H) := by
 refine yw2 (rs := [.tmp 2]) (N := 32) (fn := Tryz.f67) xk67 xf67 ?_
 have key : ∀ (t : HObj) (bs : List Nat) i ρ H', i ≤ l.length → (H' = H ++ [t, .arr (fill encNode (.agg [.int .i64 0, .int .i64 0, .nilS, .int .i64 0]) l i) 0] ∧ ρ 0 = .list (l.map encNode) ∧ ρ 3 = .ref 4 (H.length + 1) 0 0 l.length ∧ ρ 4 = .int .i64 i) →
   Lp X ⟨32, H.length :: bs⟩ (loopAt Tryz.f67 0) ρ H' fun ex ρ' H' => H' = H ++ [t, .arr (l.map encNode) 0] ∧ ρ' 3 = .ref 4 (H.length + 1) 0 0 l.length ∧ ex = .exit 0 := by
  intro t bs
  refine dH ?_ ?_
  ·rintro i ρ H' hlt ⟨rfl, h0, h3, h4⟩
   have hget : l[i]? = some l[i] := by simp [hlt]
   have hw := add1 i l.length hlt (by omega)
   have hz := oH encNode (.agg [.int .i64 0, .int .i64 0, .nilS, .int .i64 0]) l i hlt
   have hs := ke encNode (.agg [.int .i64 0, .int .i64 0, .nilS, .int .i64 0]) l i l[i] hget
   have hg1 := ut encNode (.agg [.int .i64 0, .int .i64 0, .nilS, .int .i64 0]) l i l[i] hget
   have hs1 := uu encNode (.agg [.int .i64 0, .int .i64 0, .nilS, .int .i64 0]) l i l[i] hget
   have hal := ha l[i] (List.getElem_mem hlt)
   have hc := fun bs H => kw bs H l[i].args hal
   generalize l[i] = p at hget hs hg1 hs1 hal hc
   simp only [encNode, encInts] at hs hg1 hs1
   conv => arg 3; whnf
   all_goals try (refine zs ?_; repeat' first | apply zs0 | apply zs2 | (intro hc; try have hq := dq hc))
   exact ⟨yw3, yw3, yw3, yw3⟩
  ·rintro ρ H' ⟨rfl, h0, h3, h4⟩
   rw [oI]
   conv => arg 3; whnf
   all_goals try (refine zs ?_; repeat' first | apply zs0 | apply zs2 | (intro hc; try have hq := dq hc))
   exact ⟨yw3, yw3, rfl⟩
 have h1 := je (n := l.length) (k := 48) (by omega) (by omega)
 have h2 := oJ (n := l.length) (by omega)
 have h3 : Kp (fill encNode (.agg [.int .i64 0, .int .i64 0, .nilS, .int .i64 0]) l 0 = List.replicate l.length (.agg [.int .i64 0, .int .i64 0, .nilS, .int .i64 0])) := ⟨sQ _ _ _⟩
 all_goals try (refine zs ?_; repeat' first | apply zs0 | apply zs2 | (intro hc; try have hq := dq hc))
 refine ab (af (c := loopAt Tryz.f67 0) rfl (key _ _ 0 _ _ (by omega) ⟨by rw [h3.out], yw3, yw3, yw3⟩)) ?_
 rintro ex ρ' H' ⟨rfl, f3, rfl⟩ hf
 all_goals try (refine zs ?_; repeat' first | apply zs0 | apply zs2 | (intro hc; try have hq := dq hc))
theorem wL (bs : List Nat) (H : Heap) (l : List Port) (hl : l.length ≤ 1000000) : callw X bs 66 [.list (l.map encPort)] H = some (.list (l.map encPort), H) := by
 refine yw2 (rs := [.tmp 2]) (N := 6) (fn := Tryz.f66) xk66 xf66 ?_
 have h := je (k := 24) hl (by omega)
 all_goals try (refine zs ?_; repeat' first | apply zs0 | apply zs2 | (intro hc; try have hq := dq hc))
theorem tQ (bs : List Nat) (H : Heap) (l : List Outp) (hl : l.length ≤ 1000000) : callw X bs 68 [.list (l.map encOutp)] H = some (.list (l.map encOutp), H) := by
 refine yw2 (rs := [.tmp 2]) (N := 6) (fn := Tryz.f68) xk68 xf68 ?_
 have h := je (k := 24) hl (by omega)
 all_goals try (refine zs ?_; repeat' first | apply zs0 | apply zs2 | (intro hc; try have hq := dq hc))
theorem ve (bs : List Nat) (H : Heap) (l : List Wri) (hl : l.length ≤ 1000000) : callw X bs 69 [.list (l.map encWri)] H = some (.list (l.map encWri), H) := by
 refine yw2 (rs := [.tmp 2]) (N := 6) (fn := Tryz.f69) xk69 xf69 ?_
 have h := je (k := 24) hl (by omega)
 all_goals try (refine zs ?_; repeat' first | apply zs0 | apply zs2 | (intro hc; try have hq := dq hc))
theorem vf (bs : List Nat) (H : Heap) (d : Desg) (hS : SmallD d) : callw X bs 14 [encDesg d] H = some (encDesg d, H) := by
 refine yw2 (rs := [.cell 2 29]) (N := 87) (fn := Tryz.f14) xk14 xf14 ?_
 obtain ⟨s1, s2, s3, s4, s5, s6, s7, s8, s9⟩ := hS
 have key1 : ∀ (e : V) (t u : HObj) (bs : List Nat) i ρ H', i ≤ d.rules.length → (H' = H ++ [.cells [.str d.name, .list (d.inputs.map encPort), e, .list (d.nodes.map encNode), .list (d.rules.map encRul), .list (d.outs.map encOutp), .list (d.attrs.map encAttr)], t, u, .arr (fill encRul (.agg [.str ⟨#[]⟩, .int .i64 0, .nilS]) d.rules i) 0] ∧ ρ 1 = .ptr H.length 0 ∧ ρ 3 = .ref 3 (H.length + 3) 0 0 d.rules.length ∧ ρ 4 = .int .i64 i) →
   Lp X ⟨87, H.length :: bs⟩ (loopAt Tryz.f14 0) ρ H' fun ex ρ' H' => H' = H ++ [.cells [.str d.name, .list (d.inputs.map encPort), e, .list (d.nodes.map encNode), .list (d.rules.map encRul), .list (d.outs.map encOutp), .list (d.attrs.map encAttr)], t, u, .arr (d.rules.map encRul) 0] ∧ ρ' 3 = .ref 3 (H.length + 3) 0 0 d.rules.length ∧ ex = .exit 0 := by
  intro e t u bs
  refine dH ?_ ?_
  ·rintro i ρ H' hlt ⟨rfl, h1, h3, h4⟩
   have hget : d.rules[i]? = some d.rules[i] := by simp [hlt]
   have hw := add1 i d.rules.length hlt (by omega)
   have hz := oH encRul (.agg [.str ⟨#[]⟩, .int .i64 0, .nilS]) d.rules i hlt
   have hs := ke encRul (.agg [.str ⟨#[]⟩, .int .i64 0, .nilS]) d.rules i d.rules[i] hget
   have hg1 := ut encRul (.agg [.str ⟨#[]⟩, .int .i64 0, .nilS]) d.rules i d.rules[i] hget
   have hs1 := uu encRul (.agg [.str ⟨#[]⟩, .int .i64 0, .nilS]) d.rules i d.rules[i] hget
   have hal := s8 d.rules[i] (List.getElem_mem hlt)
   have hc := fun bs H => ve bs H d.rules[i].writes hal
   generalize d.rules[i] = p at hget hs hg1 hs1 hal hc
   simp only [encRul, cellsRul] at hs hg1 hs1
   conv => arg 3; whnf
   repeat' first
    | (refine yw1 (id := 1) oz32 oz33 ?_)
    | (refine yw1 (id := 13) oz34 oz35 ?_)
    | (refine zs ?_; repeat' first | apply zs0 | apply zs2 | (intro hc; try have hq := dq hc)) | fail
   exact ⟨yw3, yw3, yw3, yw3⟩
  ·rintro ρ H' ⟨rfl, h1, h3, h4⟩
   rw [oI]
   conv => arg 3; whnf
   repeat' first
    | (refine yw1 (id := 1) oz32 oz33 ?_)
    | (refine yw1 (id := 13) oz34 oz35 ?_)
    | (refine zs ?_; repeat' first | apply zs0 | apply zs2 | (intro hc; try have hq := dq hc)) | fail
   exact ⟨yw3, yw3, rfl⟩
 have key2 : ∀ (e : V) (t u v : HObj) (bs : List Nat) i ρ H', i ≤ d.attrs.length → (H' = H ++ [.cells [.str d.name, .list (d.inputs.map encPort), e, .list (d.nodes.map encNode), .list (d.rules.map encRul), .list (d.outs.map encOutp), .list (d.attrs.map encAttr)], t, u, v, .arr (fill encAttr (.agg [.int .i64 0, .nilS]) d.attrs i) 0] ∧ ρ 1 = .ptr H.length 0 ∧ ρ 5 = .ref 2 (H.length + 4) 0 0 d.attrs.length ∧ ρ 6 = .int .i64 i) →
   Lp X ⟨87, H.length :: bs⟩ (loopAt Tryz.f14 1) ρ H' fun ex ρ' H' => H' = H ++ [.cells [.str d.name, .list (d.inputs.map encPort), e, .list (d.nodes.map encNode), .list (d.rules.map encRul), .list (d.outs.map encOutp), .list (d.attrs.map encAttr)], t, u, v, .arr (d.attrs.map encAttr) 0] ∧ ρ' 5 = .ref 2 (H.length + 4) 0 0 d.attrs.length ∧ ex = .exit 2 := by
  intro e t u v bs
  refine dH ?_ ?_
  ·rintro i ρ H' hlt ⟨rfl, h1, h5, h6⟩
   have hget : d.attrs[i]? = some d.attrs[i] := by simp [hlt]
   have hw := add1 i d.attrs.length hlt (by omega)
   have hz := oH encAttr (.agg [.int .i64 0, .nilS]) d.attrs i hlt
   have hs := ke encAttr (.agg [.int .i64 0, .nilS]) d.attrs i d.attrs[i] hget
   have hal := s9 d.attrs[i] (List.getElem_mem hlt)
   have hc := fun bs H => kw bs H d.attrs[i].rules hal
   generalize d.attrs[i] = p at hget hs hal hc
   simp only [encAttr, cellsAttr] at hs
   conv => arg 3; whnf
   repeat' first
    | (refine yw1 (id := 1) oz32 oz33 ?_)
    | (refine yw1 (id := 13) oz34 oz35 ?_)
    | (refine zs ?_; repeat' first | apply zs0 | apply zs2 | (intro hc; try have hq := dq hc)) | fail
   exact ⟨yw3, yw3, yw3, yw3⟩
  ·rintro ρ H' ⟨rfl, h1, h5, h6⟩
   rw [oI]
   conv => arg 3; whnf
   repeat' first
    | (refine yw1 (id := 1) oz32 oz33 ?_)
    | (refine yw1 (id := 13) oz34 oz35 ?_)
    | (refine zs ?_; repeat' first | apply zs0 | apply zs2 | (intro hc; try have hq := dq hc)) | fail
   exact ⟨yw3, yw3, rfl⟩
 have c1 := fun bs H => wL bs H d.inputs (by omega)
 have c2 := fun bs H => wK bs H d.nodes s3 s7
 have c3 := fun bs H => tQ bs H d.outs (by omega)
 have h1 := je (n := d.elements.length) (k := 48) (by omega) (by omega)
 have h2 := je (n := d.rules.length) (k := 48) (by omega) (by omega)
 have h3 := oJ (n := d.rules.length) (by omega)
 have h4 := je (n := d.attrs.length) (k := 32) (by omega) (by omega)
 have h5 := oJ (n := d.attrs.length) (by omega)
 have h6 : Kp (fill encRul (.agg [.str ⟨#[]⟩, .int .i64 0, .nilS]) d.rules 0 = List.replicate d.rules.length (.agg [.str ⟨#[]⟩, .int .i64 0, .nilS])) := ⟨sQ _ _ _⟩
 have h7 : Kp (fill encAttr (.agg [.int .i64 0, .nilS]) d.attrs 0 = List.replicate d.attrs.length (.agg [.int .i64 0, .nilS])) := ⟨sQ _ _ _⟩
 clear s1 s2 s3 s4 s5 s6 s7 s8 s9
 repeat' first
  | (refine yw1 (id := 1) oz32 oz33 ?_)
  | (refine yw1 (id := 13) oz34 oz35 ?_)
  | (refine zs ?_; repeat' first | apply zs0 | apply zs2 | (intro hc; try have hq := dq hc)) | fail
 refine ab (af (c := loopAt Tryz.f14 0) rfl (key1 _ _ _ _ 0 _ _ (by omega) ⟨by rw [h6.out], yw3, yw3, yw3⟩)) ?_
 rintro ex ρ' H' ⟨rfl, f3, rfl⟩ hf
 have f1 := hf 1 rfl
 have f2 := hf 2 rfl
 repeat' first
  | (refine yw1 (id := 1) oz32 oz33 ?_)
  | (refine yw1 (id := 13) oz34 oz35 ?_)
  | (refine zs ?_; repeat' first | apply zs0 | apply zs2 | (intro hc; try have hq := dq hc)) | fail
 refine ab (af (c := loopAt Tryz.f14 1) rfl (key2 _ _ _ _ _ 0 _ _ (by omega) ⟨by rw [h7.out], yw3, yw3, yw3⟩)) ?_
 rintro ex ρ'' H' ⟨rfl, f5, rfl⟩ hf2
 have g1 := hf2 1 rfl
 have g2 := hf2 2 rfl
 have g3 := hf2 3 rfl
 repeat' first
  | (refine yw1 (id := 1) oz32 oz33 ?_)
  | (refine yw1 (id := 13) oz34 oz35 ?_)
  | (refine zs ?_; repeat' first | apply zs0 | apply zs2 | (intro hc; try have hq := dq hc)) | fail
end Go.E
set_option linter.all false
namespace Go.E
open Go.Proofs Classical
set_option maxRecDepth 100000
set_option maxHeartbeats 20000000
noncomputable section
def ip (F : Nat) (d : Desg) (name : ByteArray) (y10 : Int × Int) : Nat → Nat → Option (Oc (Bool) (Unit))
 | 0, _ => none
 | k + 1, s16 => (if (decide ((s16 : Int) < (d.rules.length : Int))) = true then ((d.rules[s16]?).bind fun x19 => (if (decide (x19.name = name)) = true then (if (decide (y10.2 = 0)) = true then some (.a (decide (y10.1 = (s16 : Int)))) else some (.a false)) else (if inI ((s16 : Int) + 1) then ip F d name y10 k (s16 + 1) else none))) else some (.b ()))
def kT (F : Nat) (d : Desg) (name : ByteArray) (y10 : Int × Int) : List Rul → Nat → Unit → Option (Oc (Bool) (Unit))
 | [], s16, _ => some (.b ())
 | x_ :: r_, s16, _ => (if (decide (x_.name = name)) = true then (if (decide (y10.2 = 0)) = true then some (.a (decide (y10.1 = (s16 : Int)))) else some (.a false)) else kT F d name y10 r_ (s16 + 1) ())
def yo (F : Nat) (d : Desg) (name : ByteArray) : Option (Bool) := ((gw F d).bind fun y2 => (if y2 = true then (if (decide ((40 : Int) < (name.size : Int))) = true then some true else (if SmallD d then ((dg F d).bind fun y7 => (if SmallD d then ((qk F d name).bind fun y10 => ((eB F d).bind fun y11 => (if (decide (¬y7.2 = y11.2)) = true then some false else (if (decide (¬y7.1 = y11.1)) = true then some false else (if (decide (¬y11.2 = 0)) = true then (if (decide (y10.2 = y11.2)) = true then some (decide (y10.1 = 0)) else some false) else ((ip F d name y10 F 0).bind fun o23 => match o23 with | .a o24 => some o24 | .b o26 => (if (decide (y10.2 = 6)) = true then some (decide (y10.1 = 0)) else some false))))))) else none)) else none)) else some true))
end
end Go.E
namespace Go.E
open Classical
variable {F : Nat} (hF : 1000000 < F)
include hF in
theorem zl (d : Desg) : ∃ b, gw F d = some b ∧ (b = true → FewD d) := by
 have l0 : ∀ r i, du F d r i () = _ := nf (L := du F d) (fun x => !decide ((5 : Int) < (x.args.length : Int))) (fun _ => rfl) (fun x r i => by rw [du]; cases decide ((5 : Int) < (x.args.length : Int)) <;> rfl)
 have l1 : ∀ r i, dw F d r i () = _ := nf (L := dw F d) (fun x => !decide ((20 : Int) < (x.writes.length : Int)) && !decide ((40 : Int) < (x.name.size : Int))) (fun _ => rfl) (fun x r i => by rw [dw]; cases decide ((20 : Int) < (x.writes.length : Int)) <;> cases decide ((40 : Int) < (x.name.size : Int)) <;> rfl)
 have l2 : ∀ r i, dx F d r i () = _ := nf (L := dx F d) (fun x => !decide ((20 : Int) < (x.rules.length : Int))) (fun _ => rfl) (fun x r i => by rw [dx]; cases decide ((20 : Int) < (x.rules.length : Int)) <;> rfl)
 have l3 : ∀ r i, dy F d r i () = _ := nf (L := dy F d) (fun x => !decide ((40 : Int) < (x.name.size : Int))) (fun _ => rfl) (fun x r i => by rw [dy]; cases decide ((40 : Int) < (x.name.size : Int)) <;> rfl)
 have l4 : ∀ r i, dz F d r i () = _ := nf (L := dz F d) (fun x => !decide ((40 : Int) < (x.name.size : Int))) (fun _ => rfl) (fun x r i => by rw [dz]; cases decide ((40 : Int) < (x.name.size : Int)) <;> rfl)
 have l5 : ∀ r i, dA F d r i () = _ := nf (L := dA F d) (fun x => !decide ((40 : Int) < (x.name.size : Int))) (fun _ => rfl) (fun x r i => by rw [dA]; cases decide ((40 : Int) < (x.name.size : Int)) <;> rfl)
 have key : d.name.size ≤ 40 → d.inputs.length ≤ 45 → d.elements.length ≤ 45 → d.nodes.length ≤ 405 → d.rules.length ≤ 20 → d.outs.length ≤ 20 → d.attrs.length ≤ 20 →
   ∃ b, ((cE F d F 0).bind fun o16 => match o16 with | .a o17 => some o17 | .b o19 => ((cF F d F 0).bind fun o29 => match o29 with | .a o30 => some o30 | .b o32 => ((cG F d F 0).bind fun o40 => match o40 with | .a o41 => some o41 | .b o43 => ((cH F d F 0).bind fun o51 => match o51 with | .a o52 => some o52 | .b o54 => ((cI F d F 0).bind fun o62 => match o62 with | .a o63 => some o63 | .b o65 => ((cJ F d F 0).bind fun o73 => match o73 with | .a o74 => some o74 | .b o76 => some true)))))) = some b ∧ (b = true → FewD d) := by
  intro h1 h2 h3 h4 h5 h6 h7
  refine iX ((kG F d (by omega) d.nodes 0 F () rfl (by omega)).trans (l0 _ _)) rfl fun k0 => ?_
  refine iX ((kH F d (by omega) d.rules 0 F () rfl (by omega)).trans (l1 _ _)) rfl fun k1 => ?_
  refine iX ((kI F d (by omega) d.attrs 0 F () rfl (by omega)).trans (l2 _ _)) rfl fun k2 => ?_
  refine iX ((kJ F d (by omega) d.inputs 0 F () rfl (by omega)).trans (l3 _ _)) rfl fun k3 => ?_
  refine iX ((kK F d (by omega) d.elements 0 F () rfl (by omega)).trans (l4 _ _)) rfl fun k4 => ?_
  refine iX ((kL F d (by omega) d.outs 0 F () rfl (by omega)).trans (l5 _ _)) rfl fun k5 => ?_
  simp only [List.all_eq_true, Bool.and_eq_true, Bool.not_eq_true', decide_eq_false_iff_not] at k0 k1 k2 k3 k4 k5
  exact ⟨true, rfl, fun _ => ⟨by omega, by omega, by omega, by omega, by omega, by omega, by omega, fun p hp => by have := k3 p hp; omega, fun p hp => by have := k4 p hp; omega, fun p hp => by have := k1 p hp; omega,
   fun p hp => by have := k5 p hp; omega, fun p hp => by have := k0 p hp; omega, fun p hp => by have := k1 p hp; omega, fun p hp => by have := k2 p hp; omega⟩⟩
 unfold gw
 refine gk fun c1 => gk fun c2 => gk fun c3 => ?_
 by_cases c4 : (60 : Int) < d.nodes.length
 ·rw [if_pos (decide_eq_true c4)]
  exact gk fun c5 => gk fun c6 => gk fun c7 => gk fun c8 => gk fun c9 => key (by omega) (by omega) (by omega) (by omega) (by omega) (by omega) (by omega)
 ·rw [if_neg (by simpa using c4)]
  exact gk fun c6 => gk fun c7 => gk fun c8 => gk fun c9 => key (by omega) (by omega) (by omega) (by omega) (by omega) (by omega) (by omega)
theorem FewD.small {d : Desg} (h : FewD d) : SmallD d :=
 ⟨h.inputs, h.elements, h.nodes, h.rules, h.outs, h.attrs, fun x hx => by have := h.args x hx; omega, fun x hx => by have := h.writes x hx; omega, fun x hx => by have := h.arules x hx; omega⟩
def idxN (name : ByteArray) : Nat → List Rul → Oc Nat Unit
 | _, [] => .b ()
 | i, x :: r => if x.name = name then .a i else idxN name (i + 1) r
end Go.E
set_option linter.all false
namespace Go.E
open Go.Proofs Classical
set_option maxRecDepth 100000
set_option maxHeartbeats 20000000
noncomputable section
def br (F : Nat) (l : List (List Int)) : Nat → ((List (List Int)) × Nat) → Option ((List (List Int)))
 | 0, _ => none
 | k + 1, (s10, s11) => (if (decide ((s11 : Int) < (l.length : Int))) = true then ((l[s11]?).bind fun x14 => (if x14.length ≤ 1000000 then (if (s10.length + 1) ≤ 1000000 then (if inI ((s11 : Int) + 1) then br F l k ((s10 ++ [x14]), (s11 + 1)) else none) else none) else none)) else some s10)
theorem nG (bs : List Nat) (H : Heap) (F : Nat) (l : List (List Int)) : ∀ k s r ρ H', (∃ J12, H' = H ++ .tok 0 :: .tok s.1.length :: J12 ∧ ρ 0 = .list (l.map encInts) ∧ ρ 3 = .tl (H.length + 1) (s.1.map encInts) ∧ ρ 4 = .int .i64 (s.2 : Int)) → br F l k s = some r → Lp X ⟨20, H.length :: bs⟩ (loopAt Tryz.f31 0) ρ H' ((fun r ex ρ H' => ∃ J12, H' = H ++ .tok 0 :: .tok r.length :: J12 ∧ ex = .exit 0 ∧ ρ 3 = .tl (H.length + 1) (r.map encInts)) r) := by
 refine ac (fun _ => rfl) ?_
 rintro k ⟨s10, s11⟩ r ρ H' ⟨J12, hH, h0, h3, h4⟩ hR
 simp only at hH h0 h3 h4
 subst hH
 rw [br] at hR
 conv => arg 3; whnf
 try refine zw ?_
 rcases iteE hR with ⟨c13, hR⟩ | ⟨c13, hR⟩
 ·obtain ⟨x14, x14_e, hR⟩ := bindE hR
  obtain ⟨g15, hR⟩ := grdE hR
  have k16_k := fun bs H => kw bs H x14 g15
  obtain ⟨g17, hR⟩ := grdE hR
  have g17_r := iq (n := (s10.length + 1)) (k := 24) g17 (by omega)
  obtain ⟨g18, hR⟩ := grdE hR
  have g18_w := ae g18
  refine zu ?_
  exact ⟨((s10 ++ [x14]), (s11 + 1)), ⟨_, hq, sl, sl, sl⟩, hR.out⟩
 ·obtain rfl := someE hR
  refine zu ?_
  exact ⟨_, hq, rfl, sl⟩
def dN (F : Nat) (l : List (List Int)) : List (List Int) → Nat → (List (List Int)) → Option ((List (List Int)))
 | [], s11, s10 => some s10
 | x_ :: r_, s11, s10 => (if x_.length ≤ 1000000 then (if (s10.length + 1) ≤ 1000000 then dN F l r_ (s11 + 1) (s10 ++ [x_]) else none) else none)
theorem iG (F : Nat) (l : List (List Int)) (hl_ : l.length ≤ 1000000) : ∀ r_ i_ k_ (o_ : (List (List Int))), l.drop i_ = r_ → r_.length < k_ → br F l k_ (o_, i_) = dN F l r_ i_ o_
 | _, _, 0, _, _, hk => absurd hk (Nat.not_lt_zero _)
 | [], i_, k_ + 1, s10, hd, _ => by rw [br, dN]; simp only [aj hd, Bool.false_eq_true, if_false]
 | x_ :: r_, i_, k_ + 1, s10, hd, hk => by
  have ih := fun o_ => iG F l hl_ r_ (i_ + 1) k_ o_ (ah hd) (Nat.lt_of_succ_lt_succ hk)
  rw [br, dN]; simp only [az hd, ap hd, if_pos (aC hd hl_), Option.bind_some, if_true, ih]
def ft (F : Nat) (l : List (List Int)) : Option ((List (List Int))) := ((br F l F ([], 0)).bind fun o20 => some o20)
theorem pS (bs : List Nat) (H : Heap) (F : Nat) (l : List (List Int)) (R : (List (List Int))) (hR0 : ft F l = some R) : callw X bs 31 [.list (l.map encInts)] H = some (.list (R.map encInts), H) := by
 refine yw2 (rs := [.tmp 2]) (N := 20) (fn := Tryz.f31) xk31 xf31 ?_
 have hR := Kp.mk hR0
 clear hR0
 rw [ft] at hR
 obtain ⟨o20, o20_e, hR⟩ := bindE hR
 refine zu ?_
 refine ab (af (c := (loopAt Tryz.f31 0)) rfl (nG _ H F l _ ([], 0) o20 _ _ ⟨_, hq, sl, sl, sl⟩ o20_e)) ?_
 rintro ex ρ' H' ⟨J21, rfl, rfl, q3_o20⟩ hf
 clear hf
 obtain rfl := someE hR
 exact zv
end
end Go.E
set_option linter.all false
namespace Go.E
open Go.Proofs Classical
set_option maxRecDepth 100000
set_option maxHeartbeats 20000000
noncomputable section
def cZ (F : Nat) (y1 : List DFnd × Bool) : Nat → ((List DStep) × Int) → Option ((List DStep))
 | 0, _ => none
 | k + 1, (s27, s28) => ((idxI y1.1 s28).bind fun x31 => (if (decide ((0 : Int) ≤ x31.prev)) = true then (if (1 + s27.length) ≤ 1000000 then cZ F y1 k (([x31.step] ++ s27), x31.prev) else none) else some s27))
theorem pt (bs : List Nat) (H : Heap) (F : Nat) (d : Desg) (y1 : List DFnd × Bool) (J4 : Heap) (a29 : HObj) : ∀ k s r ρ H', (∃ J30, H' = H ++ .cells [.str d.name, .list (d.inputs.map encPort), .list (d.elements.map encElem), .list (d.nodes.map encNode), .list (d.rules.map encRul), .list (d.outs.map encOutp), .list (d.attrs.map encAttr)] :: a29 :: (J4 ++ .tok 0 :: J30) ∧ ρ 8 = .list (y1.1.map encDFnd) ∧ (∃ v, ρ 11 = v ∧ AnyL v (s.1.map encDStep)) ∧ ρ 12 = .int .i64 s.2) → cZ F y1 k s = some r → Lp X ⟨58, H.length :: bs⟩ (loopAt Tryz.f34 1) ρ H' ((fun r ex ρ H' => ∃ J30, H' = H ++ .cells [.str d.name, .list (d.inputs.map encPort), .list (d.elements.map encElem), .list (d.nodes.map encNode), .list (d.rules.map encRul), .list (d.outs.map encOutp), .list (d.attrs.map encAttr)] :: a29 :: (J4 ++ .tok 0 :: J30) ∧ ex = .exit 2 ∧ (∃ v, ρ 11 = v ∧ AnyL v (r.map encDStep))) r) := by
 refine ac (fun _ => rfl) ?_
 rintro k ⟨s27, s28⟩ r ρ H' ⟨J30, hH, h8, ⟨v11_s27, h11, h11_a⟩, h12⟩ hR
 simp only at hH h8 h11 h12
 subst hH
 rw [cZ] at hR
 have h11_e := Ak h11_a
 simp only [elemsV] at h11_e
 conv => arg 3; whnf
 obtain ⟨x31, x31_e, hR⟩ := bindE hR
 obtain ⟨x31_p, x31_e⟩ := idxE x31_e
 try refine zw ?_
 rcases iteE hR with ⟨c32, hR⟩ | ⟨c32, hR⟩
 ·obtain ⟨g34, hR⟩ := grdE hR
  have g34_r := iq (n := (1 + s27.length)) (k := 16) g34 (by omega)
  refine zu ?_
  exact ⟨(([x31.step] ++ s27), x31.prev), ⟨_, hq, sl, ⟨_, sl, vU⟩, sl⟩, hR.out⟩
 ·obtain rfl := someE hR
  refine zu ?_
  exact ⟨_, hq, rfl, ⟨_, sl, h11_a⟩⟩
def bT (F : Nat) (d : Desg) (inputs : List (List Int)) (node : Int) (y1 : List DFnd × Bool) : Nat → Nat → Option (Oc ((List DStep)) (Unit))
 | 0, _ => none
 | k + 1, s3 => (if (decide ((s3 : Int) < (y1.1.length : Int))) = true then ((y1.1[s3]?).bind fun x6 => ((eF F d inputs node x6.state).bind fun y7 => (if y7 = true then ((cZ F y1 F ([], (s3 : Int))).bind fun o37 => some (.a o37)) else (if inI ((s3 : Int) + 1) then bT F d inputs node y1 k (s3 + 1) else none)))) else some (.b ()))
theorem pu (bs : List Nat) (H : Heap) (F : Nat) (d : Desg) (inputs : List (List Int)) (node : Int) (y1 : List DFnd × Bool) : ∀ k s r ρ H', (∃ J4, H' = H ++ .cells [.str d.name, .list (d.inputs.map encPort), .list (d.elements.map encElem), .list (d.nodes.map encNode), .list (d.rules.map encRul), .list (d.outs.map encOutp), .list (d.attrs.map encAttr)] :: .tok 0 :: J4 ∧ ρ 1 = .list (inputs.map encInts) ∧ ρ 2 = .int .i64 node ∧ ρ 3 = .ptr H.length 0 ∧ ρ 8 = .list (y1.1.map encDFnd) ∧ ρ 10 = .int .i64 (s : Int)) → bT F d inputs node y1 k s = some r → Lp X ⟨58, H.length :: bs⟩ (loopAt Tryz.f34 0) ρ H' ((fun r ex ρ H' => match r with | .a r => ∃ J4, H' = H ++ .cells [.str d.name, .list (d.inputs.map encPort), .list (d.elements.map encElem), .list (d.nodes.map encNode), .list (d.rules.map encRul), .list (d.outs.map encOutp), .list (d.attrs.map encAttr)] :: .tok 0 :: J4 ∧ ex = .ret ∧ (∃ v, ρ 6 = v ∧ AnyL v (r.map encDStep)) ∧ ρ 7 = .int .i64 0 | .b r => ∃ J4, H' = H ++ .cells [.str d.name, .list (d.inputs.map encPort), .list (d.elements.map encElem), .list (d.nodes.map encNode), .list (d.rules.map encRul), .list (d.outs.map encOutp), .list (d.attrs.map encAttr)] :: .tok 0 :: J4 ∧ ex = .exit 0) r) := by
 refine ac (fun _ => rfl) ?_
 rintro k s3 r ρ H' ⟨J4, hH, h1, h2, h3, h8, h10⟩ hR
 skip
 subst hH
 rw [bT] at hR
 conv => arg 3; whnf
 try refine zw ?_
 rcases iteE hR with ⟨c5, hR⟩ | ⟨c5, hR⟩
 ·obtain ⟨x6, x6_e, hR⟩ := bindE hR
  obtain ⟨y7, y7_e, hR⟩ := bindE hR
  have y7_k := fun bs H => pN bs H F d inputs node x6.state y7 y7_e
  (try simp only [cellsDesg, encDesg, encInts] at y7_k)
  try refine zu ?_
  (refine yw0 (id := 7) oz2 ?_)
  try refine zw ?_
  clear y7_k
  rcases iteE hR with ⟨c8, hR⟩ | ⟨c8, hR⟩
  ·obtain ⟨o37, o37_e, hR⟩ := bindE hR
   refine zu ?_
   refine ab (af (c := (loopAt Tryz.f34 1)) rfl (pt _ H F d y1 J4 _ _ ([], (s3 : Int)) o37 _ _ ⟨_, hq, sl, ⟨_, sl, vU⟩, sl⟩ o37_e)) ?_
   rintro ex ρ' H' ⟨J38, rfl, rfl, ⟨v11_o37, q11_o37, q11_o37_a⟩⟩ hf
   clear hf
   obtain rfl := someE hR
   refine zu ?_
   exact ⟨_, hq, rfl, ⟨_, sl, q11_o37_a⟩, sl⟩
  ·obtain ⟨g39, hR⟩ := grdE hR
   have g39_w := ae g39
   refine zu ?_
   exact ⟨(s3 + 1), ⟨_, hq, sl, sl, sl, sl, sl⟩, hR.out⟩
 ·obtain rfl := someE hR
  refine zu ?_
  exact ⟨_, hq, rfl⟩
def dm (F : Nat) (d : Desg) (inputs : List (List Int)) (node : Int) (y1 : List DFnd × Bool) : List DFnd → Nat → Unit → Option (Oc ((List DStep)) (Unit))
 | [], s3, _ => some (.b ())
 | x_ :: r_, s3, _ => ((eF F d inputs node x_.state).bind fun y7 => (if y7 = true then ((cZ F y1 F ([], (s3 : Int))).bind fun o37 => some (.a o37)) else dm F d inputs node y1 r_ (s3 + 1) ()))
theorem ju (F : Nat) (d : Desg) (inputs : List (List Int)) (node : Int) (y1 : List DFnd × Bool) (hl_ : y1.1.length ≤ 1000000) : ∀ r_ i_ k_ (o_ : Unit), y1.1.drop i_ = r_ → r_.length < k_ → bT F d inputs node y1 k_ i_ = dm F d inputs node y1 r_ i_ o_
 | _, _, 0, _, _, hk => absurd hk (Nat.not_lt_zero _)
 | [], i_, k_ + 1, _, hd, _ => by rw [bT, dm]; simp only [aj hd, Bool.false_eq_true, if_false]
 | x_ :: r_, i_, k_ + 1, _, hd, hk => by
  have ih := ju F d inputs node y1 hl_ r_ (i_ + 1) k_ () (ah hd) (Nat.lt_of_succ_lt_succ hk)
  rw [bT, dm]; simp only [az hd, ap hd, if_pos (aC hd hl_), Option.bind_some, if_true, ih]
def fh (F : Nat) (d : Desg) (inputs : List (List Int)) (node : Int) : Option ((List DStep) × Int) := ((fZ F d inputs).bind fun y1 => (if y1.2 = true then ((bT F d inputs node y1 F 0).bind fun o40 => match o40 with | .a o41 => some (o41, 0) | .b o43 => some ([], 12)) else some ([], 16)))
theorem lk (bs : List Nat) (H : Heap) (F : Nat) (d : Desg) (inputs : List (List Int)) (node : Int) (R : (List DStep) × Int) (hR0 : fh F d inputs node = some R) : callw X bs 34 [(encDesg d), .list (inputs.map encInts), .int .i64 node] H = some (.tuple [.list (R.1.map encDStep), .int .i64 R.2], H) := by
 refine yw2 (rs := [.tmp 6, .tmp 7]) (N := 58) (fn := Tryz.f34) xk34 xf34 ?_
 have hR := Kp.mk hR0
 clear hR0
 rw [fh] at hR
 (try simp only [cellsDesg, encDesg, encInts])
 obtain ⟨y1, y1_e, hR⟩ := bindE hR
 have y1_k := fun bs H => rf bs H F d inputs y1 y1_e
 (try simp only [cellsDesg, encDesg, encInts] at y1_k)
 try refine zw ?_
 clear y1_k
 rcases iteE hR with ⟨c2, hR⟩ | ⟨c2, hR⟩
 ·obtain ⟨o40, o40_e, hR⟩ := bindE hR
  refine zu ?_
  refine ab (af (c := (loopAt Tryz.f34 0)) rfl (pu _ H F d inputs node y1 _ 0 o40 _ _ ⟨_, hq, sl, sl, sl, sl, sl⟩ o40_e)) ?_
  rcases o40 with o41 | o43
  ·rintro ex ρ' H' ⟨J42, rfl, rfl, ⟨v6_o41, q6_o41, q6_o41_a⟩, q7_o41⟩ hf
   clear hf
   obtain rfl := someE hR
   rcases q6_o41_a with hv0 | ⟨t0, hv0⟩
   all_goals exact zv
  ·rintro ex ρ' H' ⟨J44, rfl, rfl⟩ hf
   clear hf
   obtain rfl := someE hR
   exact zv
 ·obtain rfl := someE hR
  exact zv
def fi (F : Nat) (d : Desg) (inputs : List (List Int)) (node : Int) : Option (Bool) := ((gw F d).bind fun y2 => (if y2 = true then ((fp F inputs 18).bind fun y4 => (if y4 = true then ((gA F d inputs).bind fun y6 => (if y6 = true then some true else (if SmallD d then ((ft F inputs).bind fun y10 => ((eD F d y10 node).bind fun y11 => ((fq F d inputs).bind fun y12 => (if (decide (y12 = 0)) = true then ((bd F d.nodes node).bind fun y14 => (if y14 = true then (if (decide (¬y12 = 0)) = true then (if (decide (y11.2 = y12)) = true then some (decide ((y11.1.length : Int) = 0)) else some false) else ((fh F d inputs node).bind fun y18 => (if (decide (y11.2 = y18.2)) = true then ((cX F y11.1 y18.1).bind fun y20 => some y20) else some false))) else (if (decide (y11.2 = 9)) = true then some (decide ((y11.1.length : Int) = 0)) else some false))) else (if (decide (¬y12 = 0)) = true then (if (decide (y11.2 = y12)) = true then some (decide ((y11.1.length : Int) = 0)) else some false) else ((fh F d inputs node).bind fun y24 => (if (decide (y11.2 = y24.2)) = true then ((cX F y11.1 y24.1).bind fun y26 => some y26) else some false))))))) else none))) else some true)) else some true))
theorem mP (bs : List Nat) (H : Heap) (F : Nat) (d : Desg) (inputs : List (List Int)) (node : Int) (R : Bool) (hR0 : fi F d inputs node = some R) : callw X2 bs 4 [(encDesg d), .list (inputs.map encInts), .int .i64 node] H = some (.bool R, H) := by
 refine yw2 (rs := [.tmp 6]) (N := 72) (fn := Tryz.f4) xk4 xf4 ?_
 have hR := Kp.mk hR0
 clear hR0
 rw [fi] at hR
 (try simp only [cellsDesg, encDesg, encInts])
 have k1_k := fun bs H => Gm bs H
 obtain ⟨y2, y2_e, hR⟩ := bindE hR
 have y2_k := fun bs H => cR (tK bs H F d y2 y2_e)
 (try simp only [cellsDesg, encDesg, encInts] at y2_k)
 try refine zw ?_
 clear k1_k y2_k
 rcases iteE hR with ⟨c3, hR⟩ | ⟨c3, hR⟩
 ·obtain ⟨y4, y4_e, hR⟩ := bindE hR
  have y4_k := fun bs H => cR (pO bs H F inputs 18 y4 y4_e)
  try refine zw ?_
  clear y4_k
  rcases iteE hR with ⟨c5, hR⟩ | ⟨c5, hR⟩
  ·obtain ⟨y6, y6_e, hR⟩ := bindE hR
   have y6_k := fun bs H => cR (sh bs H F d inputs y6 y6_e)
   (try simp only [cellsDesg, encDesg, encInts] at y6_k)
   try refine zw ?_
   clear y6_k
   rcases iteE hR with ⟨c7, hR⟩ | ⟨c7, hR⟩
   ·obtain rfl := someE hR
    exact zv
   ·obtain ⟨g8, hR⟩ := grdE hR
    have k9_k := fun bs H => cR (vf bs H d g8)
    (try simp only [cellsDesg, encDesg, encInts] at k9_k)
    obtain ⟨y10, y10_e, hR⟩ := bindE hR
    have y10_k := fun bs H => cR (pS bs H F inputs y10 y10_e)
    obtain ⟨y11, y11_e, hR⟩ := bindE hR
    have y11_k := fun bs H => jW bs H F d y10 node y11 y11_e
    (try simp only [cellsDesg, encDesg, encInts] at y11_k)
    obtain ⟨y12, y12_e, hR⟩ := bindE hR
    have y12_k := fun bs H => cR (pP bs H F d inputs y12 y12_e)
    (try simp only [cellsDesg, encDesg, encInts] at y12_k)
    try refine zw ?_
    clear k9_k y10_k y11_k y12_k
    rcases iteE hR with ⟨c13, hR⟩ | ⟨c13, hR⟩
    ·obtain ⟨y14, y14_e, hR⟩ := bindE hR
     have y14_k := fun bs H => cR (gv bs H F d.nodes node y14 y14_e)
     try refine zw ?_
     clear y14_k
     rcases iteE hR with ⟨c15, hR⟩ | ⟨c15, hR⟩
     ·try refine zw ?_
      rcases iteE hR with ⟨c16, hR⟩ | ⟨c16, hR⟩
      ·try refine zw ?_
       rcases iteE hR with ⟨c17, hR⟩ | ⟨c17, hR⟩
       ·obtain rfl := someE hR
        exact zv
       ·obtain rfl := someE hR
        exact zv
      ·obtain ⟨y18, y18_e, hR⟩ := bindE hR
       have y18_k := fun bs H => cR (lk bs H F d inputs node y18 y18_e)
       (try simp only [cellsDesg, encDesg, encInts] at y18_k)
       try refine zw ?_
       clear y18_k
       rcases iteE hR with ⟨c19, hR⟩ | ⟨c19, hR⟩
       ·obtain ⟨y20, y20_e, hR⟩ := bindE hR
        have y20_k := fun bs H => cR (gL bs H F y11.1 y18.1 y20 y20_e)
        obtain rfl := someE hR
        exact zv
       ·obtain rfl := someE hR
        exact zv
     ·try refine zw ?_
      rcases iteE hR with ⟨c21, hR⟩ | ⟨c21, hR⟩
      ·obtain rfl := someE hR
       exact zv
      ·obtain rfl := someE hR
       exact zv
    ·try refine zw ?_
     rcases iteE hR with ⟨c22, hR⟩ | ⟨c22, hR⟩
     ·try refine zw ?_
      rcases iteE hR with ⟨c23, hR⟩ | ⟨c23, hR⟩
      ·obtain rfl := someE hR
       exact zv
      ·obtain rfl := someE hR
       exact zv
     ·obtain ⟨y24, y24_e, hR⟩ := bindE hR
      have y24_k := fun bs H => cR (lk bs H F d inputs node y24 y24_e)
      (try simp only [cellsDesg, encDesg, encInts] at y24_k)
      try refine zw ?_
      clear y24_k
      rcases iteE hR with ⟨c25, hR⟩ | ⟨c25, hR⟩
      ·obtain ⟨y26, y26_e, hR⟩ := bindE hR
       have y26_k := fun bs H => cR (gL bs H F y11.1 y24.1 y26 y26_e)
       obtain rfl := someE hR
       exact zv
      ·obtain rfl := someE hR
       exact zv
  ·obtain rfl := someE hR
   exact zv
 ·obtain rfl := someE hR
  exact zv
end
end Go.E
namespace Go.E
open Classical
variable {F : Nat} (hF : 1000000 < F)
theorem uI {α : Type} {L : List α → Nat → List α → Option (List α)} (g : α → Prop) [DecidablePred g] (h0 : ∀ i o, L [] i o = some o)
  (h1 : ∀ x r i o, L (x :: r) i o = if g x then (if o.length + 1 ≤ 1000000 then L r (i + 1) (o ++ [x]) else none) else none) :
  ∀ r i o, (∀ x ∈ r, g x) → o.length + r.length ≤ 1000000 → L r i o = some (o ++ r)
 | [], i, o, _, _ => by rw [h0]; simp
 | x :: r, i, o, hf, hl => by
  simp only [List.length_cons] at hl
  rw [h1, if_pos (hf x (by simp)), if_pos (by omega), uI g h0 h1 r (i + 1) (o ++ [x]) (fun y hy => hf y (by simp [hy])) (by simp; omega)]
  simp
include hF in
theorem xC (l : List (List Int)) (hl : l.length ≤ 1000) (hx : ∀ x ∈ l, x.length ≤ 1000) : ft F l = some l := by
 unfold ft
 have e : br F l F ([], 0) = _ := iG F l (by omega) l 0 F [] rfl (by omega)
 rw [e, uI (L := dN F l) (fun x => x.length ≤ 1000000) (fun _ _ => rfl) (fun _ _ _ _ => rfl) l 0 [] (fun x h => by have := hx x h; omega) (by simp; omega)]
 rfl
include hF in
theorem A4 (l : List (List Int)) (most : Int) (hm : most ≤ 1000) : ∃ b, fp F l most = some b ∧ (b = true → l.length ≤ 1000 ∧ ∀ x ∈ l, x.length ≤ 1000) := by
 unfold fp
 have l0 : ∀ r i, bt F l r i () = _ := nf (L := bt F l) (fun x => !decide ((45 : Int) < (x.length : Int))) (fun _ => rfl) (fun x r i => by rw [bt]; cases decide ((45 : Int) < (x.length : Int)) <;> rfl)
 refine gk fun h1 => ?_
 refine iX ((iF F l (by omega) l 0 F () rfl (by omega)).trans (l0 _ _)) rfl fun k0 => ?_
 simp only [List.all_eq_true, Bool.not_eq_true', decide_eq_false_iff_not] at k0
 exact ⟨true, rfl, fun _ => ⟨by omega, fun x hx => by have := k0 x hx; omega⟩⟩
include hF in
theorem zo {d : Desg} (ok : OkD d) (inputs : List (List Int)) : ∃ b, gz F d inputs = some b := by
 have k : ∀ (r : List Elem) (i : Nat) (n : Int), (∀ x ∈ r, x ∈ d.elements) → 0 ≤ n → n + 16 * r.length ≤ 1000000 → ∃ m, cB F d r i n = some m := by
  intro r
  induction r with
  | nil => intro i n _ _ _; exact ⟨n, rfl⟩
  | cons x r ih =>
   intro i n hx h0 hn
   have hw := ok.elW x.width (List.mem_map.2 ⟨x, hx x (by simp), rfl⟩)
   simp only [List.length_cons] at hn
   rw [cB]
   by_cases hk : x.kind = 0
   ·rw [if_pos (decide_eq_true hk), if_pos (by unfold inI; omega)]
    exact ih _ _ (fun y hy => hx y (by simp [hy])) (by omega) (by omega)
   ·rw [if_neg (by simpa using hk)]
    exact ih _ _ (fun y hy => hx y (by simp [hy])) (by omega) (by omega)
 have hel := ok.few.elements
 obtain ⟨m, hm⟩ := k d.elements 0 0 (fun x h => h) (by omega) (by omega)
 have e : bz F d F (0, 0) = _ := jP F d (by omega) d.elements 0 F 0 rfl (by omega)
 unfold gz
 rw [e, hm, Option.bind_some]
 by_cases h1 : m ≤ 7
 ·by_cases h2 : (inputs.length : Int) ≤ 4 <;> simp [h1, h2]
 ·simp [h1]
include hF in
theorem zp {d : Desg} (h : FewD d) (inputs : List (List Int)) (hl : inputs.length ≤ 1000) (hi : ∀ l ∈ inputs, l.length ≤ 1000000) : ∃ b, gA F d inputs = some b := by
 unfold gA
 rw [Ek hF h, Option.bind_some]
 by_cases he : (designErrR d).2 = 0
 ·have ok : OkD d := ⟨h, he⟩
  rw [if_pos (by simp [he]), r_listsErr' hF ok inputs hl hi, Option.bind_some]
  by_cases h2 : listsErrR d inputs = 0
  ·obtain ⟨b, hb⟩ := zo hF ok inputs
   rw [if_pos (by simp [h2]), hb]; exact ⟨_, rfl⟩
  ·rw [if_neg (by simp [h2])]; exact ⟨_, rfl⟩
 ·rw [if_neg (by simp [he])]; exact ⟨_, rfl⟩
include hF in
theorem zq {d : Desg} (ok : OkD d) {inputs : List (List Int)} (hin : ∀ x ∈ inputs, LeafOk (inWs d) x) (h6 : inputs.length ≤ 1000) {node : Int} (hn : condL d.nodes node = true) {s : List Int} (hs : LeafOk (elWs d) s) :
  eF F d inputs node s = some (brokenV d inputs node s) := by
 have k : ∀ (r : List (List Int)) (i : Nat), (∀ x ∈ r, x ∈ inputs) → cj F d inputs node s r i () = some (if (r.any fun x => decide (at0 (valsD d x s) node.toNat = 0)) = true then .a true else .b ()) := by
  intro r
  induction r with
  | nil => intro i _; rfl
  | cons x r ih =>
   intro i hx
   have hl := hin x (hx x (by simp))
   have := (kf (kC hn) (il d x s)).1
   unfold valsD at this
   rw [cj, if_pos (si ok hl hs), if_pos ok.few.nodes, if_pos (tO ok), if_pos (tN ok hl hs), this, Option.bind_some, List.any_cons, ih (i + 1) (fun y hy => hx y (by simp [hy]))]
   unfold valsD
   by_cases h : at0 (valsL d.nodes (x ++ s) d.nodes.length) node.toNat = 0 <;> simp [h]
 unfold eF
 have e : bq F d inputs node s F 0 = _ := iE F d inputs node s (by omega) inputs 0 F () rfl (by omega)
 rw [e, k inputs 0 (fun x h => h), Option.bind_some]
 unfold brokenV
 cases inputs.any fun x => decide (at0 (valsD d x s) node.toNat = 0) <;> rfl
theorem yp (l : List DVisit) (ho : OrdV l) (hl : l.length ≤ 1000) (b : Bool) : ∀ (k i : Nat) (acc : List DStep), i < k → i < l.length → acc.length + i ≤ 10000 →
  cZ F (l.map toF, b) k (acc, (i : Int)) = some ((trail l (i + 1) i).reverse ++ acc)
 | 0, i, acc, h, _, _ => by omega
 | k + 1, i, acc, h, hi, ha => by
  have hg := bc hi
  have hp := ho i _ hg
  have hm : idxI (l.map toF, b).1 (i : Int) = some (toF l[i]) := by rw [ga, List.getElem?_map, hg]; rfl
  rw [cZ, hm, Option.bind_some, trail, Int.toNat_natCast, hg]
  simp only
  rw [show (toF l[i]).prev = l[i].prev from rfl, show (toF l[i]).step = l[i].step from rfl]
  by_cases h0 : 0 ≤ l[i].prev
  ·rw [if_pos (decide_eq_true h0), if_pos h0, if_pos (by omega)]
   have e1 : l[i].prev = (l[i].prev.toNat : Int) := by omega
   have ih := yp l ho hl b k l[i].prev.toNat ([l[i].step] ++ acc) (by omega) (by omega) (by simp; omega)
   have tm := lO ho i (l[i].prev.toNat + 1) l[i].prev.toNat (by omega) (by omega)
   rw [← e1] at ih tm
   rw [ih, ← tm]; simp
  ·rw [if_neg (by simpa using h0), if_neg h0]; rfl
def brokenR (d : Desg) (inputs : List (List Int)) (node : Int) : List DStep × Int :=
 if (searchD d inputs).2 = 0 then
  match idxO (fun v => brokenV d inputs node v.state) 0 (searchD d inputs).1 with
  | .a i => ((trail (searchD d inputs).1 (i + 1) i).reverse, 0)
  | .b _ => ([], 12)
 else ([], 16)
include hF in
theorem Cp {d : Desg} (ok : OkD d) {inputs : List (List Int)} (hin : ∀ x ∈ inputs, LeafOk (inWs d) x) (h6 : inputs.length ≤ 1000) {node : Int} (hn : condL d.nodes node = true) : fh F d inputs node = some (brokenR d inputs node) := by
 unfold fh brokenR
 rw [Co hF ok hin h6, Option.bind_some]
 by_cases hs : (searchD d inputs).2 = 0
 case neg => rw [if_neg hs, if_neg hs]; rfl
 obtain ⟨hv, ho, _⟩ := qE ok hin hs
 have hlen := hv.len
 rw [if_pos hs, if_pos hs]
 simp only [if_true]
 have e : bT F d inputs node ((searchD d inputs).1.map toF, true) F 0 = _ := ju F d inputs node ((searchD d inputs).1.map toF, true) (by simp; omega) ((searchD d inputs).1.map toF) 0 F () rfl (by simp; omega)
 have k : ∀ (r : List DVisit) (i : Nat), (searchD d inputs).1.drop i = r → dm F d inputs node ((searchD d inputs).1.map toF, true) (r.map toF) i () = some (match idxO (fun v => brokenV d inputs node v.state) i r with | .a j => .a (trail (searchD d inputs).1 (j + 1) j).reverse | .b _ => .b ()) := by
  intro r
  induction r with
  | nil => intro i _; rfl
  | cons v r ih =>
   intro i hd
   have hm := List.mem_of_getElem? (ap hd)
   have hlt := ir hd
   rw [List.map_cons, dm, show (toF v).state = v.state from rfl, zq hF ok hin h6 hn (hv.st v hm), Option.bind_some, idxO]
   cases brokenV d inputs node v.state
   ·simp only [Bool.false_eq_true, if_false]; exact ih (i + 1) (ah hd)
   ·simp only [if_true]
    rw [yp _ ho (by omega) true F i [] (by omega) hlt (by simp; omega)]; simp
 rw [e, k (searchD d inputs).1 0 rfl, Option.bind_some]
 cases idxO (fun v => brokenV d inputs node v.state) 0 (searchD d inputs).1 <;> rfl
include hF in
theorem zr (d : Desg) (inputs : List (List Int)) (node : Int) : fi F d inputs node = some true := by
 obtain ⟨b, hb, hS⟩ := zl hF d
 unfold fi
 rw [hb, Option.bind_some]
 cases b with
 | false => rfl
 | true =>
 have hS := hS rfl
 rw [if_pos rfl]
 obtain ⟨b2, hb2, hl⟩ := A4 hF inputs 18 (by decide)
 rw [hb2, Option.bind_some]
 cases b2 with
 | false => rfl
 | true =>
 obtain ⟨hl1, hl2⟩ := hl rfl
 have hl3 : ∀ l ∈ inputs, l.length ≤ 1000000 := fun l h => by have := hl2 l h; omega
 obtain ⟨b3, hb3⟩ := zp hF hS inputs hl1 hl3
 rw [if_pos rfl, hb3, Option.bind_some]
 cases b3 with
 | true => rfl
 | false =>
 simp only [Bool.false_eq_true, if_false, if_pos hS.small, xC hF inputs hl1 hl2, Option.bind_some, tj hF hS inputs node hl1 hl3, zk hF hS inputs hl1 hl3, qB d.nodes node hS.nodes]
 by_cases he : listsErrR d inputs = 0
 case neg => simp [brokenByR, he]
 obtain ⟨ok, h1, h2, h3⟩ := wF hS he
 cases hn : condL d.nodes node
 ·simp [brokenByR, he, hn]
 ·have e : brokenByR d inputs node = brokenR d inputs node := by
   unfold brokenByR brokenR
   rw [if_pos he, if_pos hn]
   by_cases hs : (searchD d inputs).2 = 0
   ·rw [if_pos hs, if_pos hs]
    cases idxO (fun v => brokenV d inputs node v.state) 0 (searchD d inputs).1 <;> rfl
   ·rw [if_neg hs, if_neg hs]
  have hle : (brokenR d inputs node).1.length ≤ 1000000 := by
   unfold brokenR
   split
   ·rename_i hs
    have hlen := (qE ok h3 hs).1.len
    split
    ·rename_i i hi
     obtain ⟨_, v, hv, _⟩ := wB _ _ _ _ hi
     have := aa hv
     have := qF (searchD d inputs).1 (i + 1) i
     simp; omega
    ·simp
   ·simp
  simp [he, e, Cp hF ok h3 hl1 hn, rC hF _ _ hle]
end Go.E
namespace Go.E
open Go.Proofs
theorem A5 (d : Desg) (i : List (List Int)) (n : Int) : callw X2 [] 4 [.agg (cellsDesg d), .list (i.map encInts), .int .i64 n] [] = some (.bool true, []) := mP [] [] 1000001 d i n true (zr (by decide) d i n)
end Go.E
