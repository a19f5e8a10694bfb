/- Laws of chapter 15 in E. Own work. -/
import Derived.Test.YtoljdokffnjapaaGreatP3
import Derived.Test.YtoljdokffnjapaaGreatP8
import Derived.Test.YtoljdokffnjapaaGreatP5
import Derived.Test.YtoljdokffnjapaaGreatP6
import Derived.Test.YtoljdokffnjapaaGreatP4
import Derived.Test.YtoljdokffnjapaaGreatP2
import Derived.Test.YtoljdokffnjapaaGreatP7
set_option linter.all false
namespace Go.E
open Go.Proofs
set_option maxRecDepth 100000
set_option maxHeartbeats 400000
structure SmallD (d : Desg) : Prop where
 iS : d.inputs.length ≤ 1000
 elements : d.elements.length ≤ 1000
 nodes : d.nodes.length ≤ 1000
 rules : d.rules.length ≤ 1000
 outs : d.outs.length ≤ 1000
 attrs : d.attrs.length ≤ 1000
 args : ∀ x ∈ d.nodes, x.args.length ≤ 1000000
 writes : ∀ x ∈ d.rules, x.writes.length ≤ 1000000
 arules : ∀ x ∈ d.attrs, x.rules.length ≤ 1000000
theorem xh (bs : List Nat) (H : Heap) (l : List Node) (hl : l.length ≤ 1000) (ha : ∀ x ∈ l, x.args.length ≤ 1000000) : callw X bs 67 [.list (l.map encNode)] H = some (.list (l.map encNode), H) := by
 refine yw2 (rs := [.tmp 2]) (N := 32) (fn := Tryz.f67) xk67 Tryz.func67 ?_
 have key : ∀ (t : HObj) (bs : List Nat) i ρ H', i ≤ l.length → (H' = H ++ [t, .arr (fill encNode (.agg [.int .i64 0, .int .i64 0, .nilS, .int .i64 0]) l i) 0] ∧ ρ 0 = .list (l.map encNode) ∧ ρ 3 = .ref 4 (H.length + 1) 0 0 l.length ∧ ρ 4 = .int .i64 i) →
   Lp X ⟨32, H.length :: bs⟩ (loopAt Tryz.f67 0) ρ H' fun ex ρ' H' => H' = H ++ [t, .arr (l.map encNode) 0] ∧ ρ' 3 = .ref 4 (H.length + 1) 0 0 l.length ∧ ex = .exit 0 := by
  intro t bs
  refine dO ?_ ?_
  ·rintro i ρ H' hlt ⟨rfl, h0, h3, h4⟩
   have hget : l[i]? = some l[i] := by simp [hlt]
   have hw := add1 i l.length hlt (by omega)
   have hz := pn encNode (.agg [.int .i64 0, .int .i64 0, .nilS, .int .i64 0]) l i hlt
   have hs := kM encNode (.agg [.int .i64 0, .int .i64 0, .nilS, .int .i64 0]) l i l[i] hget
   have hg1 := uQ encNode (.agg [.int .i64 0, .int .i64 0, .nilS, .int .i64 0]) l i l[i] hget
   have hs1 := uR encNode (.agg [.int .i64 0, .int .i64 0, .nilS, .int .i64 0]) l i l[i] hget
   have hal := ha l[i] (List.getElem_mem hlt)
   have hc := fun bs H => lc bs H l[i].args hal
   generalize l[i] = p at hget hs hg1 hs1 hal hc
   simp only [encNode, encInts] at hs hg1 hs1
   conv => arg 3; whnf
   all_goals try (refine zs ?_; repeat' first | apply zs0 | apply zs2 | (intro hc; try have hq := dq hc))
   exact ⟨yw3, yw3, yw3, yw3⟩
  ·rintro ρ H' ⟨rfl, h0, h3, h4⟩
   rw [po]
   conv => arg 3; whnf
   all_goals try (refine zs ?_; repeat' first | apply zs0 | apply zs2 | (intro hc; try have hq := dq hc))
   exact ⟨yw3, yw3, rfl⟩
 have h1 := jG (n := l.length) (k := 48) (by omega) (by omega)
 have h2 := pp (n := l.length) (by omega)
 have h3 : Kp (fill encNode (.agg [.int .i64 0, .int .i64 0, .nilS, .int .i64 0]) l 0 = List.replicate l.length (.agg [.int .i64 0, .int .i64 0, .nilS, .int .i64 0])) := ⟨tt _ _ _⟩
 all_goals try (refine zs ?_; repeat' first | apply zs0 | apply zs2 | (intro hc; try have hq := dq hc))
 refine ab (af (c := loopAt Tryz.f67 0) rfl (key _ _ 0 _ _ (by omega) ⟨by rw [h3.out], yw3, yw3, yw3⟩)) ?_
 rintro ex ρ' H' ⟨rfl, f3, rfl⟩ hf
 all_goals try (refine zs ?_; repeat' first | apply zs0 | apply zs2 | (intro hc; try have hq := dq hc))
theorem xi (bs : List Nat) (H : Heap) (l : List Port) (hl : l.length ≤ 1000000) : callw X bs 66 [.list (l.map encPort)] H = some (.list (l.map encPort), H) := by
 refine yw2 (rs := [.tmp 2]) (N := 6) (fn := Tryz.f66) xk66 Tryz.func66 ?_
 have h := jG (k := 24) hl (by omega)
 all_goals try (refine zs ?_; repeat' first | apply zs0 | apply zs2 | (intro hc; try have hq := dq hc))
theorem ul (bs : List Nat) (H : Heap) (l : List Outp) (hl : l.length ≤ 1000000) : callw X bs 68 [.list (l.map encOutp)] H = some (.list (l.map encOutp), H) := by
 refine yw2 (rs := [.tmp 2]) (N := 6) (fn := Tryz.f68) xk68 Tryz.func68 ?_
 have h := jG (k := 24) hl (by omega)
 all_goals try (refine zs ?_; repeat' first | apply zs0 | apply zs2 | (intro hc; try have hq := dq hc))
theorem vF (bs : List Nat) (H : Heap) (l : List Wri) (hl : l.length ≤ 1000000) : callw X bs 69 [.list (l.map encWri)] H = some (.list (l.map encWri), H) := by
 refine yw2 (rs := [.tmp 2]) (N := 6) (fn := Tryz.f69) xk69 Tryz.func69 ?_
 have h := jG (k := 24) hl (by omega)
 all_goals try (refine zs ?_; repeat' first | apply zs0 | apply zs2 | (intro hc; try have hq := dq hc))
theorem vG (bs : List Nat) (H : Heap) (d : Desg) (hS : SmallD d) : callw X bs 14 [encDesg d] H = some (encDesg d, H) := by
 refine yw2 (rs := [.cell 2 29]) (N := 87) (fn := Tryz.f14) xk14 Tryz.func14 ?_
 obtain ⟨s1, s2, s3, s4, s5, s6, s7, s8, s9⟩ := hS
 have key1 : ∀ (e : V) (t u : HObj) (bs : List Nat) i ρ H', i ≤ d.rules.length → (H' = H ++ [.cells [.str d.name, .list (d.inputs.map encPort), e, .list (d.nodes.map encNode), .list (d.rules.map encRul), .list (d.outs.map encOutp), .list (d.attrs.map encAttr)], t, u, .arr (fill encRul (.agg [.str ⟨#[]⟩, .int .i64 0, .nilS]) d.rules i) 0] ∧ ρ 1 = .ptr H.length 0 ∧ ρ 3 = .ref 3 (H.length + 3) 0 0 d.rules.length ∧ ρ 4 = .int .i64 i) →
   Lp X ⟨87, H.length :: bs⟩ (loopAt Tryz.f14 0) ρ H' fun ex ρ' H' => H' = H ++ [.cells [.str d.name, .list (d.inputs.map encPort), e, .list (d.nodes.map encNode), .list (d.rules.map encRul), .list (d.outs.map encOutp), .list (d.attrs.map encAttr)], t, u, .arr (d.rules.map encRul) 0] ∧ ρ' 3 = .ref 3 (H.length + 3) 0 0 d.rules.length ∧ ex = .exit 0 := by
  intro e t u bs
  refine dO ?_ ?_
  ·rintro i ρ H' hlt ⟨rfl, h1, h3, h4⟩
   have hget : d.rules[i]? = some d.rules[i] := by simp [hlt]
   have hw := add1 i d.rules.length hlt (by omega)
   have hz := pn encRul (.agg [.str ⟨#[]⟩, .int .i64 0, .nilS]) d.rules i hlt
   have hs := kM encRul (.agg [.str ⟨#[]⟩, .int .i64 0, .nilS]) d.rules i d.rules[i] hget
   have hg1 := uQ encRul (.agg [.str ⟨#[]⟩, .int .i64 0, .nilS]) d.rules i d.rules[i] hget
   have hs1 := uR encRul (.agg [.str ⟨#[]⟩, .int .i64 0, .nilS]) d.rules i d.rules[i] hget
   have hal := s8 d.rules[i] (List.getElem_mem hlt)
   have hc := fun bs H => vF bs H d.rules[i].writes hal
   generalize d.rules[i] = p at hget hs hg1 hs1 hal hc
   simp only [encRul, cellsRul] at hs hg1 hs1
   conv => arg 3; whnf
   repeat' first
    | (refine yw1 (id := 1) oz32 oz33 ?_)
    | (refine yw1 (id := 13) oz34 oz35 ?_)
    | (refine zs ?_; repeat' first | apply zs0 | apply zs2 | (intro hc; try have hq := dq hc)) | fail
   exact ⟨yw3, yw3, yw3, yw3⟩
  ·rintro ρ H' ⟨rfl, h1, h3, h4⟩
   rw [po]
   conv => arg 3; whnf
   repeat' first
    | (refine yw1 (id := 1) oz32 oz33 ?_)
    | (refine yw1 (id := 13) oz34 oz35 ?_)
    | (refine zs ?_; repeat' first | apply zs0 | apply zs2 | (intro hc; try have hq := dq hc)) | fail
   exact ⟨yw3, yw3, rfl⟩
 have key2 : ∀ (e : V) (t u v : HObj) (bs : List Nat) i ρ H', i ≤ d.attrs.length → (H' = H ++ [.cells [.str d.name, .list (d.inputs.map encPort), e, .list (d.nodes.map encNode), .list (d.rules.map encRul), .list (d.outs.map encOutp), .list (d.attrs.map encAttr)], t, u, v, .arr (fill encAttr (.agg [.int .i64 0, .nilS]) d.attrs i) 0] ∧ ρ 1 = .ptr H.length 0 ∧ ρ 5 = .ref 2 (H.length + 4) 0 0 d.attrs.length ∧ ρ 6 = .int .i64 i) →
   Lp X ⟨87, H.length :: bs⟩ (loopAt Tryz.f14 1) ρ H' fun ex ρ' H' => H' = H ++ [.cells [.str d.name, .list (d.inputs.map encPort), e, .list (d.nodes.map encNode), .list (d.rules.map encRul), .list (d.outs.map encOutp), .list (d.attrs.map encAttr)], t, u, v, .arr (d.attrs.map encAttr) 0] ∧ ρ' 5 = .ref 2 (H.length + 4) 0 0 d.attrs.length ∧ ex = .exit 2 := by
  intro e t u v bs
  refine dO ?_ ?_
  ·rintro i ρ H' hlt ⟨rfl, h1, h5, h6⟩
   have hget : d.attrs[i]? = some d.attrs[i] := by simp [hlt]
   have hw := add1 i d.attrs.length hlt (by omega)
   have hz := pn encAttr (.agg [.int .i64 0, .nilS]) d.attrs i hlt
   have hs := kM encAttr (.agg [.int .i64 0, .nilS]) d.attrs i d.attrs[i] hget
   have hal := s9 d.attrs[i] (List.getElem_mem hlt)
   have hc := fun bs H => lc bs H d.attrs[i].rules hal
   generalize d.attrs[i] = p at hget hs hal hc
   simp only [encAttr, cellsAttr] at hs
   conv => arg 3; whnf
   repeat' first
    | (refine yw1 (id := 1) oz32 oz33 ?_)
    | (refine yw1 (id := 13) oz34 oz35 ?_)
    | (refine zs ?_; repeat' first | apply zs0 | apply zs2 | (intro hc; try have hq := dq hc)) | fail
   exact ⟨yw3, yw3, yw3, yw3⟩
  ·rintro ρ H' ⟨rfl, h1, h5, h6⟩
   rw [po]
   conv => arg 3; whnf
   repeat' first
    | (refine yw1 (id := 1) oz32 oz33 ?_)
    | (refine yw1 (id := 13) oz34 oz35 ?_)
    | (refine zs ?_; repeat' first | apply zs0 | apply zs2 | (intro hc; try have hq := dq hc)) | fail
   exact ⟨yw3, yw3, rfl⟩
 have c1 := fun bs H => xi bs H d.inputs (by omega)
 have c2 := fun bs H => xh bs H d.nodes s3 s7
 have c3 := fun bs H => ul bs H d.outs (by omega)
 have h1 := jG (n := d.elements.length) (k := 48) (by omega) (by omega)
 have h2 := jG (n := d.rules.length) (k := 48) (by omega) (by omega)
 have h3 := pp (n := d.rules.length) (by omega)
 have h4 := jG (n := d.attrs.length) (k := 32) (by omega) (by omega)
 have h5 := pp (n := d.attrs.length) (by omega)
 have h6 : Kp (fill encRul (.agg [.str ⟨#[]⟩, .int .i64 0, .nilS]) d.rules 0 = List.replicate d.rules.length (.agg [.str ⟨#[]⟩, .int .i64 0, .nilS])) := ⟨tt _ _ _⟩
 have h7 : Kp (fill encAttr (.agg [.int .i64 0, .nilS]) d.attrs 0 = List.replicate d.attrs.length (.agg [.int .i64 0, .nilS])) := ⟨tt _ _ _⟩
 clear s1 s2 s3 s4 s5 s6 s7 s8 s9
 repeat' first
  | (refine yw1 (id := 1) oz32 oz33 ?_)
  | (refine yw1 (id := 13) oz34 oz35 ?_)
  | (refine zs ?_; repeat' first | apply zs0 | apply zs2 | (intro hc; try have hq := dq hc)) | fail
 refine ab (af (c := loopAt Tryz.f14 0) rfl (key1 _ _ _ _ 0 _ _ (by omega) ⟨by rw [h6.out], yw3, yw3, yw3⟩)) ?_
 rintro ex ρ' H' ⟨rfl, f3, rfl⟩ hf
 have f1 := hf 1 rfl
 have f2 := hf 2 rfl
 repeat' first
  | (refine yw1 (id := 1) oz32 oz33 ?_)
  | (refine yw1 (id := 13) oz34 oz35 ?_)
  | (refine zs ?_; repeat' first | apply zs0 | apply zs2 | (intro hc; try have hq := dq hc)) | fail
 refine ab (af (c := loopAt Tryz.f14 1) rfl (key2 _ _ _ _ _ 0 _ _ (by omega) ⟨by rw [h7.out], yw3, yw3, yw3⟩)) ?_
 rintro ex ρ'' H' ⟨rfl, f5, rfl⟩ hf2
 have g1 := hf2 1 rfl
 have g2 := hf2 2 rfl
 have g3 := hf2 3 rfl
 repeat' first
  | (refine yw1 (id := 1) oz32 oz33 ?_)
  | (refine yw1 (id := 13) oz34 oz35 ?_)
  | (refine zs ?_; repeat' first | apply zs0 | apply zs2 | (intro hc; try have hq := dq hc)) | fail
end Go.E
namespace Go.E
open Go.Proofs Classical
set_option maxRecDepth 100000
set_option maxHeartbeats 20000000
noncomputable section
end
end Go.E
namespace Go.E
open Classical
variable {F : Nat} (hF : 1000000 < F)
include hF in
theorem zQ (d : Desg) : ∃ b, iM F d = some b ∧ (b = true → FewD d) := by
 have l0 : ∀ r i, dC F d r i () = _ := nK (L := dC F d) (fun x => !decide ((5 : Int) < (x.args.length : Int))) (fun _ => rfl) (fun x r i => by rw [dC]; cases decide ((5 : Int) < (x.args.length : Int)) <;> rfl)
 have l1 : ∀ r i, dD F d r i () = _ := nK (L := dD F d) (fun x => !decide ((20 : Int) < (x.writes.length : Int)) && !decide ((40 : Int) < (x.name.size : Int))) (fun _ => rfl) (fun x r i => by rw [dD]; cases decide ((20 : Int) < (x.writes.length : Int)) <;> cases decide ((40 : Int) < (x.name.size : Int)) <;> rfl)
 have l2 : ∀ r i, dE F d r i () = _ := nK (L := dE F d) (fun x => !decide ((20 : Int) < (x.rules.length : Int))) (fun _ => rfl) (fun x r i => by rw [dE]; cases decide ((20 : Int) < (x.rules.length : Int)) <;> rfl)
 have l3 : ∀ r i, dF F d r i () = _ := nK (L := dF F d) (fun x => !decide ((40 : Int) < (x.name.size : Int))) (fun _ => rfl) (fun x r i => by rw [dF]; cases decide ((40 : Int) < (x.name.size : Int)) <;> rfl)
 have l4 : ∀ r i, dG F d r i () = _ := nK (L := dG F d) (fun x => !decide ((40 : Int) < (x.name.size : Int))) (fun _ => rfl) (fun x r i => by rw [dG]; cases decide ((40 : Int) < (x.name.size : Int)) <;> rfl)
 have l5 : ∀ r i, dH F d r i () = _ := nK (L := dH F d) (fun x => !decide ((40 : Int) < (x.name.size : Int))) (fun _ => rfl) (fun x r i => by rw [dH]; cases decide ((40 : Int) < (x.name.size : Int)) <;> rfl)
 have key : d.name.size ≤ 40 → d.inputs.length ≤ 45 → d.elements.length ≤ 45 → d.nodes.length ≤ 405 → d.rules.length ≤ 20 → d.outs.length ≤ 20 → d.attrs.length ≤ 20 →
   ∃ b, ((cP F d F 0).bind fun o16 => match o16 with | .a o17 => some o17 | .b o19 => ((cQ F d F 0).bind fun o29 => match o29 with | .a o30 => some o30 | .b o32 => ((cR F d F 0).bind fun o40 => match o40 with | .a o41 => some o41 | .b o43 => ((cS F d F 0).bind fun o51 => match o51 with | .a o52 => some o52 | .b o54 => ((cT F d F 0).bind fun o62 => match o62 with | .a o63 => some o63 | .b o65 => ((cU F d F 0).bind fun o73 => match o73 with | .a o74 => some o74 | .b o76 => some true)))))) = some b ∧ (b = true → FewD d) := by
  intro h1 h2 h3 h4 h5 h6 h7
  refine jy ((lm F d (by omega) d.nodes 0 F () rfl (by omega)).trans (l0 _ _)) rfl fun k0 => ?_
  refine jy ((lq F d (by omega) d.rules 0 F () rfl (by omega)).trans (l1 _ _)) rfl fun k1 => ?_
  refine jy ((lr F d (by omega) d.attrs 0 F () rfl (by omega)).trans (l2 _ _)) rfl fun k2 => ?_
  refine jy ((lu F d (by omega) d.inputs 0 F () rfl (by omega)).trans (l3 _ _)) rfl fun k3 => ?_
  refine jy ((lx F d (by omega) d.elements 0 F () rfl (by omega)).trans (l4 _ _)) rfl fun k4 => ?_
  refine jy ((ly F d (by omega) d.outs 0 F () rfl (by omega)).trans (l5 _ _)) rfl fun k5 => ?_
  simp only [List.all_eq_true, Bool.and_eq_true, Bool.not_eq_true', decide_eq_false_iff_not] at k0 k1 k2 k3 k4 k5
  exact ⟨true, rfl, fun _ => ⟨by omega, by omega, by omega, by omega, by omega, by omega, by omega, fun p hp => by have := k3 p hp; omega, fun p hp => by have := k4 p hp; omega, fun p hp => by have := k1 p hp; omega,
   fun p hp => by have := k5 p hp; omega, fun p hp => by have := k0 p hp; omega, fun p hp => by have := k1 p hp; omega, fun p hp => by have := k2 p hp; omega⟩⟩
 unfold iM
 refine gJ fun c1 => gJ fun c2 => gJ fun c3 => ?_
 by_cases c4 : (60 : Int) < d.nodes.length
 ·rw [if_pos (decide_eq_true c4)]
  exact gJ fun c5 => gJ fun c6 => gJ fun c7 => gJ fun c8 => gJ fun c9 => key (by omega) (by omega) (by omega) (by omega) (by omega) (by omega) (by omega)
 ·rw [if_neg (by simpa using c4)]
  exact gJ fun c6 => gJ fun c7 => gJ fun c8 => gJ fun c9 => key (by omega) (by omega) (by omega) (by omega) (by omega) (by omega) (by omega)
theorem FewD.small {d : Desg} (h : FewD d) : SmallD d :=
 ⟨h.inputs, h.elements, h.nodes, h.rules, h.outs, h.attrs, fun x hx => by have := h.args x hx; omega, fun x hx => by have := h.writes x hx; omega, fun x hx => by have := h.arules x hx; omega⟩
end Go.E
namespace Go.E
open Go.Proofs Classical
set_option maxRecDepth 100000
set_option maxHeartbeats 20000000
noncomputable section
def bC (F : Nat) (l : List (List Int)) : Nat → ((List (List Int)) × Nat) → Option ((List (List Int)))
 | 0, _ => none
 | k + 1, (s10, s11) => (if (decide ((s11 : Int) < (l.length : Int))) = true then ((l[s11]?).bind fun x14 => (if x14.length ≤ 1000000 then (if (s10.length + 1) ≤ 1000000 then (if inI ((s11 : Int) + 1) then bC F l k ((s10 ++ [x14]), (s11 + 1)) else none) else none) else none)) else some s10)
theorem oj (bs : List Nat) (H : Heap) (F : Nat) (l : List (List Int)) : ∀ k s r ρ H', (∃ J12, H' = H ++ .tok 0 :: .tok s.1.length :: J12 ∧ ρ 0 = .list (l.map encInts) ∧ ρ 3 = .tl (H.length + 1) (s.1.map encInts) ∧ ρ 4 = .int .i64 (s.2 : Int)) → bC F l k s = some r → Lp X ⟨20, H.length :: bs⟩ (loopAt Tryz.f31 0) ρ H' ((fun r ex ρ H' => ∃ J12, H' = H ++ .tok 0 :: .tok r.length :: J12 ∧ ex = .exit 0 ∧ ρ 3 = .tl (H.length + 1) (r.map encInts)) r) := by
 refine ae (fun _ => rfl) ?_
 rintro k ⟨s10, s11⟩ r ρ H' ⟨J12, hH, h0, h3, h4⟩ hR
 simp only at hH h0 h3 h4
 subst hH
 rw [bC] at hR
 conv => arg 3; whnf
 try refine zw ?_
 rcases iteE hR with ⟨c13, hR⟩ | ⟨c13, hR⟩
 ·obtain ⟨x14, x14_e, hR⟩ := bindE hR
  obtain ⟨g15, hR⟩ := grdE hR
  have k16_k := fun bs H => lc bs H x14 g15
  obtain ⟨g17, hR⟩ := grdE hR
  have g17_r := ka (n := (s10.length + 1)) (k := 24) g17 (by omega)
  obtain ⟨g18, hR⟩ := grdE hR
  have g18_w := ac g18
  refine zu ?_
  exact ⟨((s10 ++ [x14]), (s11 + 1)), ⟨_, hq, sl, sl, sl⟩, hR.out⟩
 ·obtain rfl := someE hR
  refine zu ?_
  exact ⟨_, hq, rfl, sl⟩
def dV (F : Nat) (l : List (List Int)) : List (List Int) → Nat → (List (List Int)) → Option ((List (List Int)))
 | [], s11, s10 => some s10
 | x_ :: r_, s11, s10 => (if x_.length ≤ 1000000 then (if (s10.length + 1) ≤ 1000000 then dV F l r_ (s11 + 1) (s10 ++ [x_]) else none) else none)
theorem jb (F : Nat) (l : List (List Int)) (hl_ : l.length ≤ 1000000) : ∀ r_ i_ k_ (o_ : (List (List Int))), l.drop i_ = r_ → r_.length < k_ → bC F l k_ (o_, i_) = dV F l r_ i_ o_
 | _, _, 0, _, _, hk => absurd hk (Nat.not_lt_zero _)
 | [], i_, k_ + 1, s10, hd, _ => by rw [bC, dV]; simp only [ai hd, Bool.false_eq_true, if_false]
 | x_ :: r_, i_, k_ + 1, s10, hd, hk => by
  have ih := fun o_ => jb F l hl_ r_ (i_ + 1) k_ o_ (ah hd) (Nat.lt_of_succ_lt_succ hk)
  rw [bC, dV]; simp only [aq hd, ak hd, if_pos (av hd hl_), Option.bind_some, if_true, ih]
def eU (F : Nat) (l : List (List Int)) : Option ((List (List Int))) := ((bC F l F ([], 0)).bind fun o20 => some o20)
theorem kF (bs : List Nat) (H : Heap) (F : Nat) (l : List (List Int)) (R : (List (List Int))) (hR0 : eU F l = some R) : callw X bs 31 [.list (l.map encInts)] H = some (.list (R.map encInts), H) := by
 refine yw2 (rs := [.tmp 2]) (N := 20) (fn := Tryz.f31) xk31 Tryz.func31 ?_
 have hR := Kp.mk hR0
 clear hR0
 rw [eU] at hR
 obtain ⟨o20, o20_e, hR⟩ := bindE hR
 refine zu ?_
 refine ab (af (c := (loopAt Tryz.f31 0)) rfl (oj _ H F l _ ([], 0) o20 _ _ ⟨_, hq, sl, sl, sl⟩ o20_e)) ?_
 rintro ex ρ' H' ⟨J21, rfl, rfl, q3_o20⟩ hf
 clear hf
 obtain rfl := someE hR
 exact zv
end
end Go.E
namespace Go.E
open Classical
variable {F : Nat} (hF : 1000000 < F)
theorem vf {α : Type} {L : List α → Nat → List α → Option (List α)} (g : α → Prop) [DecidablePred g] (h0 : ∀ i o, L [] i o = some o)
  (h1 : ∀ x r i o, L (x :: r) i o = if g x then (if o.length + 1 ≤ 1000000 then L r (i + 1) (o ++ [x]) else none) else none) :
  ∀ r i o, (∀ x ∈ r, g x) → o.length + r.length ≤ 1000000 → L r i o = some (o ++ r)
 | [], i, o, _, _ => by rw [h0]; simp
 | x :: r, i, o, hf, hl => by
  simp only [List.length_cons] at hl
  rw [h1, if_pos (hf x (by simp)), if_pos (by omega), vf g h0 h1 r (i + 1) (o ++ [x]) (fun y hy => hf y (by simp [hy])) (by simp; omega)]
  simp
include hF in
theorem sa (l : List (List Int)) (hl : l.length ≤ 1000) (hx : ∀ x ∈ l, x.length ≤ 1000) : eU F l = some l := by
 unfold eU
 have e : bC F l F ([], 0) = _ := jb F l (by omega) l 0 F [] rfl (by omega)
 rw [e, vf (L := dV F l) (fun x => x.length ≤ 1000000) (fun _ _ => rfl) (fun _ _ _ _ => rfl) l 0 [] (fun x h => by have := hx x h; omega) (by simp; omega)]
 rfl
include hF in
theorem vg (l : List (List Int)) (most : Int) (hm : most ≤ 1000) : ∃ b, eS F l most = some b ∧ (b = true → l.length ≤ 1000 ∧ ∀ x ∈ l, x.length ≤ 1000) := by
 unfold eS
 have l0 : ∀ r i, bD F l r i () = _ := nK (L := bD F l) (fun x => !decide ((45 : Int) < (x.length : Int))) (fun _ => rfl) (fun x r i => by rw [bD]; cases decide ((45 : Int) < (x.length : Int)) <;> rfl)
 refine gJ fun h1 => ?_
 refine jy ((ja F l (by omega) l 0 F () rfl (by omega)).trans (l0 _ _)) rfl fun k0 => ?_
 simp only [List.all_eq_true, Bool.not_eq_true', decide_eq_false_iff_not] at k0
 exact ⟨true, rfl, fun _ => ⟨by omega, fun x hx => by have := k0 x hx; omega⟩⟩
include hF in
theorem zR {d : Desg} (ok : OkD d) (iS : List (List Int)) : ∃ b, gQ F d iS = some b := by
 have k : ∀ (r : List Elem) (i : Nat) (n : Int), (∀ x ∈ r, x ∈ d.elements) → 0 ≤ n → n + 16 * r.length ≤ 1000000 → ∃ m, cK F d r i n = some m := by
  intro r
  induction r with
  | nil => intro i n _ _ _; exact ⟨n, rfl⟩
  | cons x r ih =>
   intro i n hx h0 hn
   have hw := ok.elW x.width (List.mem_map.2 ⟨x, hx x (by simp), rfl⟩)
   simp only [List.length_cons] at hn
   rw [cK]
   by_cases hk : x.kind = 0
   ·rw [if_pos (decide_eq_true hk), if_pos (by unfold inI; omega)]
    exact ih _ _ (fun y hy => hx y (by simp [hy])) (by omega) (by omega)
   ·rw [if_neg (by simpa using hk)]
    exact ih _ _ (fun y hy => hx y (by simp [hy])) (by omega) (by omega)
 have hel := ok.few.elements
 obtain ⟨m, hm⟩ := k d.elements 0 0 (fun x h => h) (by omega) (by omega)
 have e : bK F d F (0, 0) = _ := ku F d (by omega) d.elements 0 F 0 rfl (by omega)
 unfold gQ
 rw [e, hm, Option.bind_some]
 by_cases h1 : m ≤ 7
 ·by_cases h2 : (iS.length : Int) ≤ 4 <;> simp [h1, h2]
 ·simp [h1]
include hF in
theorem zS {d : Desg} (h : FewD d) (iS : List (List Int)) (hl : iS.length ≤ 1000) (hi : ∀ l ∈ iS, l.length ≤ 1000000) : ∃ b, gR F d iS = some b := by
 unfold gR
 rw [EH hF h, Option.bind_some]
 by_cases he : (designErrR d).2 = 0
 ·have ok : OkD d := ⟨h, he⟩
  rw [if_pos (by simp [he]), r_listsErr' hF ok iS hl hi, Option.bind_some]
  by_cases h2 : listsErrR d iS = 0
  ·obtain ⟨b, hb⟩ := zR hF ok iS
   rw [if_pos (by simp [h2]), hb]; exact ⟨_, rfl⟩
  ·rw [if_neg (by simp [h2])]; exact ⟨_, rfl⟩
 ·rw [if_neg (by simp [he])]; exact ⟨_, rfl⟩
end Go.E
namespace Go.E
open Go.Proofs Classical
set_option maxRecDepth 100000
set_option maxHeartbeats 20000000
noncomputable section
def fG (F : Nat) (d : Desg) (iS : List (List Int)) (sS : List (List Int)) : Option (Bool) := ((iM F d).bind fun y2 => (if y2 = true then ((eS F iS 18).bind fun y4 => (if y4 = true then ((eS F sS 302).bind fun y6 => (if y6 = true then ((gR F d iS).bind fun y8 => (if y8 = true then some true else (if SmallD d then ((eU F iS).bind fun y12 => ((eU F sS).bind fun y13 => ((eA F d y12 y13).bind fun y14 => ((fP F d iS).bind fun y15 => (if (decide (¬y15 = 0)) = true then (if (decide (y14.2 = y15)) = true then some (decide (y14.1 = 0)) else some false) else ((ew F d iS sS).bind fun y18 => (if (decide (y14.2 = y18.2)) = true then some (decide (y14.1 = y18.1)) else some false))))))) else none))) else some true)) else some true)) else some true))
theorem nz (bs : List Nat) (H : Heap) (F : Nat) (d : Desg) (iS : List (List Int)) (sS : List (List Int)) (R : Bool) (hR0 : fG F d iS sS = some R) : callw X2 bs 8 [(encDesg d), .list (iS.map encInts), .list (sS.map encInts)] H = some (.bool R, H) := by
 refine yw2 (rs := [.tmp 6]) (N := 69) (fn := Tryz.f8) xk8 Tryz.func8 ?_
 have hR := Kp.mk hR0
 clear hR0
 rw [fG] at hR
 (try simp only [cellsDesg, encDesg, encInts])
 have k1_k := fun bs H => GI bs H
 obtain ⟨y2, y2_e, hR⟩ := bindE hR
 have y2_k := fun bs H => bF (uh bs H F d y2 y2_e)
 (try simp only [cellsDesg, encDesg, encInts] at y2_k)
 try refine zw ?_
 clear k1_k y2_k
 rcases iteE hR with ⟨c3, hR⟩ | ⟨c3, hR⟩
 ·obtain ⟨y4, y4_e, hR⟩ := bindE hR
  have y4_k := fun bs H => bF (kE bs H F iS 18 y4 y4_e)
  try refine zw ?_
  clear y4_k
  rcases iteE hR with ⟨c5, hR⟩ | ⟨c5, hR⟩
  ·obtain ⟨y6, y6_e, hR⟩ := bindE hR
   have y6_k := fun bs H => bF (kE bs H F sS 302 y6 y6_e)
   try refine zw ?_
   clear y6_k
   rcases iteE hR with ⟨c7, hR⟩ | ⟨c7, hR⟩
   ·obtain ⟨y8, y8_e, hR⟩ := bindE hR
    have y8_k := fun bs H => bF (sJ bs H F d iS y8 y8_e)
    (try simp only [cellsDesg, encDesg, encInts] at y8_k)
    try refine zw ?_
    clear y8_k
    rcases iteE hR with ⟨c9, hR⟩ | ⟨c9, hR⟩
    ·obtain rfl := someE hR
     exact zv
    ·obtain ⟨g10, hR⟩ := grdE hR
     have k11_k := fun bs H => bF (vG bs H d g10)
     (try simp only [cellsDesg, encDesg, encInts] at k11_k)
     obtain ⟨y12, y12_e, hR⟩ := bindE hR
     have y12_k := fun bs H => bF (kF bs H F iS y12 y12_e)
     obtain ⟨y13, y13_e, hR⟩ := bindE hR
     have y13_k := fun bs H => bF (kF bs H F sS y13 y13_e)
     obtain ⟨y14, y14_e, hR⟩ := bindE hR
     have y14_k := fun bs H => ny bs H F d y12 y13 y14 y14_e
     (try simp only [cellsDesg, encDesg, encInts] at y14_k)
     obtain ⟨y15, y15_e, hR⟩ := bindE hR
     have y15_k := fun bs H => bF (qm bs H F d iS y15 y15_e)
     (try simp only [cellsDesg, encDesg, encInts] at y15_k)
     try refine zw ?_
     clear k11_k y12_k y13_k y14_k y15_k
     rcases iteE hR with ⟨c16, hR⟩ | ⟨c16, hR⟩
     ·try refine zw ?_
      rcases iteE hR with ⟨c17, hR⟩ | ⟨c17, hR⟩
      ·obtain rfl := someE hR
       exact zv
      ·obtain rfl := someE hR
       exact zv
     ·obtain ⟨y18, y18_e, hR⟩ := bindE hR
      have y18_k := fun bs H => bF (nv bs H F d iS sS y18 y18_e)
      (try simp only [cellsDesg, encDesg, encInts] at y18_k)
      try refine zw ?_
      clear y18_k
      rcases iteE hR with ⟨c19, hR⟩ | ⟨c19, hR⟩
      ·obtain rfl := someE hR
       exact zv
      ·obtain rfl := someE hR
       exact zv
   ·obtain rfl := someE hR
    exact zv
  ·obtain rfl := someE hR
   exact zv
 ·obtain rfl := someE hR
  exact zv
end
end Go.E
namespace Go.E
open Classical
variable {F : Nat} (hF : 1000000 < F)
include hF in
theorem CD (a b : List Int) (ha : a.length ≤ 1000000) : fY F a b = some (befL a b) := by
 have k : ∀ (r : List Int) (i : Nat), a.drop i = r → i ≤ a.length → ∃ o, dS F a b r i () = some o ∧ (match o with | .a x => x | .b _ => decide ((a.length : Int) < (b.length : Int))) = befL r (b.drop i) := by
  intro r
  induction r with
  | nil =>
   intro i hd h1
   have : a.length ≤ i := by simpa using hd
   refine ⟨_, rfl, ?_⟩
   simp only
   rcases hb : b.drop i with _ | ⟨y, s⟩
   ·have : b.length ≤ i := by simpa using hb
    rw [befL, decide_eq_false (by omega)]
   ·have := gm hb
    rw [befL, decide_eq_true (by omega)]
  | cons x r ih =>
   intro i hd h1
   have hlt := gm hd
   rw [dS]
   rcases Nat.lt_or_ge i b.length with hb | hb
   ·have hg := aS hb
    rw [if_pos (decide_eq_true (by omega)), hg, Option.bind_some, List.drop_eq_getElem_cons hb, befL]
    by_cases h : x = b[i]
    ·rw [if_neg (by simp [h]), if_pos h]; exact ih (i + 1) (ah hd) hlt
    ·rw [if_pos (by simpa using h), if_neg h]; exact ⟨_, rfl, rfl⟩
   ·rw [if_neg (by simp; omega), List.drop_of_length_le hb]
    refine ⟨_, rfl, ?_⟩
    simp only [befL]
    exact decide_eq_false (by omega)
 obtain ⟨o, h1, h2⟩ := k a 0 rfl (by omega)
 have e := kw F a b ha a 0 F () rfl (by omega)
 unfold fY
 rw [e, h1, Option.bind_some]
 simp only [List.drop_zero] at h2
 rw [← h2]
 cases o <;> rfl
include hF in
theorem EK {d : Desg} (ok : OkD d) {l : List (List Int)} (hl : l.length ≤ 1000) (hx : ∀ x ∈ l, x.length ≤ 1000000) : ∀ (r : List (List Int)) (i : Nat), l.drop i = r → aW F d l r i () = some (ocP (chk1 d l) i r)
 | [], i, _ => rfl
 | x :: r, i, hd => by
  have hi := ak hd
  have hlt := gm hd
  have hs := hx x (List.mem_of_getElem? hi)
  have ih := EK ok hl hx r (i + 1) (ah hd)
  have hel := ok.few.elements
  rw [aW, GF hF ok x hs, Option.bind_some, ocP, chk1]
  by_cases h1 : valErrS (elWs d) x = 0
  case neg => rw [if_pos (by simpa using h1), if_neg h1, if_neg h1]
  have hb := uf d.elements x (by rw [tJ h1]; simp [elWs])
  rw [if_neg (by simp [h1]), if_pos h1, uk hF hel (by rw [tJ h1]; simp [elWs]), Option.bind_some, tN hF _ _ (by omega), Option.bind_some]
  by_cases h2 : begL d.elements x = x
  case neg => rw [if_neg (by simpa using h2), if_neg h2, if_neg (by decide)]
  rw [if_pos (decide_eq_true h2), if_pos h2]
  cases i with
  | zero => rw [if_neg (by simp), ih]; rfl
  | succ j =>
   have hj : l[j]? = some (l[j]'(by omega)) := aS (by omega)
   have e1 : ((j + 1 : Nat) : Int) - 1 = (j : Int) := by omega
   rw [if_pos (decide_eq_true (by omega)), e1, if_pos (by unfold inI; omega), gb, hj, Option.bind_some, CD hF _ _ (hx _ (List.mem_of_getElem? hj)), Option.bind_some]
   simp only [ordAt, hj]
   cases befL (l[j]'(by omega)) x
   ·rfl
   ·simp only [if_true]; exact ih
include hF in
theorem r_l3 {d : Desg} (ok : OkD d) {iS sS : List (List Int)} (hin : ∀ x ∈ iS, LeafOk (inWs d) x) (hl : sS.length ≤ 1000) (hx : ∀ x ∈ sS, x.length ≤ 1000000) {i k : Nat} {li s : List Int} (hk : iS[k]? = some li) (hi : sS[i]? = some s) (hs : LeafOk (elWs d) s) (hf : begL d.elements s = s) :
  ∀ (rs : List Rul) (r fuel : Nat), d.rules.drop r = rs → rs.length < fuel → aU F d iS sS i k fuel r = some (if ((stepsAt d k (valsD d li s) s rs r).all fun p => hasL sS p.2) = true then .b () else .a i)
 | _, _, 0, _, h => absurd h (Nat.not_lt_zero _)
 | [], r, fuel + 1, hd, _ => by rw [aU, ai hd]; rfl
 | x :: rs, r, fuel + 1, hd, hfu => by
  have hr := ak hd
  have i1 : inI ((r : Int) + 1) := in_1 (by have := gm hd; have := ok.few.rules; omega)
  have ih := r_l3 ok hin hl hx hk hi hs hf rs (r + 1) fuel (ah hd) (Nat.lt_of_succ_lt_succ hfu)
  rw [aU, aq hd, if_pos rfl, hi, Option.bind_some, Ib hF ok hin hk hr hs hf, Option.bind_some, stepsAt]
  cases enD (valsD d li s) x
  ·simp only [Bool.false_eq_true, if_false, if_pos i1]; exact ih
  ·simp only [if_true, EJ hF sS hl hx, Option.bind_some, List.all_cons]
   cases hasL sS (begL d.elements (hapL x.writes (valsD d li s) s))
   ·simp
   ·simp only [if_true, if_pos i1, Bool.true_and]; exact ih
include hF in
theorem r_l2 {d : Desg} (ok : OkD d) {iS sS : List (List Int)} (hin : ∀ x ∈ iS, LeafOk (inWs d) x) (h6 : iS.length ≤ 1000) (hl : sS.length ≤ 1000) (hx : ∀ x ∈ sS, x.length ≤ 1000000) {i : Nat} {s : List Int} (hi : sS[i]? = some s) (hs : LeafOk (elWs d) s) (hf : begL d.elements s = s) :
  ∀ (ls : List (List Int)) (k fuel : Nat), iS.drop k = ls → ls.length < fuel → bj F d iS sS i fuel k = some (if ((stepsFrom d s ls k).all fun p => hasL sS p.2) = true then .b () else .a i)
 | _, _, 0, _, h => absurd h (Nat.not_lt_zero _)
 | [], k, fuel + 1, hd, _ => by rw [bj, ai hd]; rfl
 | li :: ls, k, fuel + 1, hd, hfu => by
  have hk := ak hd
  have i1 : inI ((k : Int) + 1) := in_1 (by have := gm hd; omega)
  have ih := r_l2 ok hin h6 hl hx hi hs hf ls (k + 1) fuel (ah hd) (Nat.lt_of_succ_lt_succ hfu)
  rw [bj, aq hd, if_pos rfl, r_l3 hF ok hin hl hx hk hi hs hf d.rules 0 F rfl (by have := ok.few.rules; omega), Option.bind_some, stepsFrom, List.all_append]
  cases (stepsAt d k (valsD d li s) s d.rules 0).all fun p => hasL sS p.2
  ·simp
  ·simp only [if_true, if_pos i1, Bool.true_and]; exact ih
include hF in
theorem r_l1 {d : Desg} (ok : OkD d) {iS sS : List (List Int)} (hin : ∀ x ∈ iS, LeafOk (inWs d) x) (h6 : iS.length ≤ 1000) (hl : sS.length ≤ 1000) (hx : ∀ x ∈ sS, x.length ≤ 1000000) (hst : ∀ s ∈ sS, LeafOk (elWs d) s ∧ begL d.elements s = s) :
  ∀ (r : List (List Int)) (i fuel : Nat), sS.drop i = r → r.length < fuel → bk F d iS sS fuel i = some (match ocP (fun _ s => openS d iS sS s) i r with | .a o => .a o.1 | .b _ => .b ())
 | _, _, 0, _, h => absurd h (Nat.not_lt_zero _)
 | [], i, fuel + 1, hd, _ => by rw [bk, ai hd]; rfl
 | s :: r, i, fuel + 1, hd, hfu => by
  have hi := ak hd
  have hm := hst s (List.mem_of_getElem? hi)
  have i1 : inI ((i : Int) + 1) := in_1 (by have := gm hd; omega)
  have ih := r_l1 ok hin h6 hl hx hst r (i + 1) fuel (ah hd) (Nat.lt_of_succ_lt_succ hfu)
  rw [bk, aq hd, if_pos rfl, r_l2 hF ok hin h6 hl hx hi hm.1 hm.2 iS 0 F rfl (by omega), Option.bind_some, ocP, openS]
  cases (stepsFrom d s iS 0).all fun p => hasL sS p.2
  ·rfl
  ·simp only [if_true, if_pos i1]; exact ih
theorem yL (d : Desg) (iS sS : List (List Int)) : ∀ (l : List (List Int)) (i : Nat) (o : Nat × Int), ocP (fun _ s => openS d iS sS s) i l = .a o → o.2 = 21
 | [], i, o, h => by cases h
 | x :: r, i, o, h => by
  rw [ocP] at h
  by_cases h0 : openS d iS sS x = 0
  ·rw [if_pos h0] at h; exact yL d iS sS r (i + 1) o h
  ·rw [if_neg h0] at h
   cases h
   unfold openS at h0 ⊢
   split at h0
   ·exact absurd rfl h0
   ·rename_i h1; rw [if_neg h1]
include hF in
theorem CE {d : Desg} (ok : OkD d) (iS sS : List (List Int)) (hi : iS.length ≤ 1000) (hin : ∀ x ∈ iS, LeafOk (inWs d) x) (hl : sS.length ≤ 1000) (hx : ∀ x ∈ sS, x.length ≤ 1000000) : ew F d iS sS = some (closedR d iS sS) := by
 unfold ew closedR
 by_cases h3 : 300 < sS.length
 ·rw [if_pos (decide_eq_true (by omega)), if_pos h3]
 have e : aH F d sS F 0 = _ := gX F d sS (by omega) sS 0 F () rfl (by omega)
 rw [if_neg (by simp; omega), if_neg h3, e, EK hF ok hl hx sS 0 rfl, Option.bind_some]
 have hv := jw (chk1 d sS) sS 0
 by_cases h1 : (eachP (chk1 d sS) 0 sS).2 = 0
 case neg =>
  rw [if_neg h1, ← hv]
  cases ho : ocP (chk1 d sS) 0 sS with
  | a o => rfl
  | b u => rw [ho] at hv; rw [← hv] at h1; exact absurd rfl h1
 obtain ⟨ha, hs⟩ := yK ok h1
 rw [if_pos h1]
 cases ho : ocP (chk1 d sS) 0 sS with
 | a o =>
  exfalso
  have : ∀ (l : List (List Int)) (i : Nat) (o : Nat × Int), ocP (chk1 d sS) i l = .a o → (eachP (chk1 d sS) i l).2 ≠ 0 := by
   intro l
   induction l with
   | nil => intro i o h; cases h
   | cons x r ih =>
    intro i o h
    rw [ocP] at h
    rw [eachP]
    by_cases h0 : chk1 d sS i x = 0
    ·rw [if_pos h0] at h; rw [if_neg (by simpa using h0)]; exact ih (i + 1) o h
    ·rw [if_pos h0]; exact h0
  exact this sS 0 o ho h1
 | b u =>
  simp only
  rw [Cz hF ok.few.elements, Option.bind_some, EJ hF sS hl hx, Option.bind_some]
  cases hasL sS (resetD d)
  ·rfl
  ·simp only [if_true]
   rw [r_l1 hF ok hin hi hl hx hs sS 0 F rfl (by omega), ← jw]
   cases ho2 : ocP (fun _ s => openS d iS sS s) 0 sS with
   | a o =>
    have := yL d iS sS sS 0 o ho2
    simp only [Option.bind_some, ocPv, this]
   | b u => rfl
include hF in
theorem zT (d : Desg) (iS sS : List (List Int)) : fG F d iS sS = some true := by
 obtain ⟨b, hb, hS⟩ := zQ hF d
 unfold fG
 rw [hb, Option.bind_some]
 cases b with
 | false => rfl
 | true =>
 have hS := hS rfl
 rw [if_pos rfl]
 obtain ⟨b2, hb2, hl⟩ := vg hF iS 18 (by decide)
 rw [hb2, Option.bind_some]
 cases b2 with
 | false => rfl
 | true =>
 obtain ⟨hl1, hl2⟩ := hl rfl
 have hl3 : ∀ l ∈ iS, l.length ≤ 1000000 := fun l h => by have := hl2 l h; omega
 rw [if_pos rfl]
 obtain ⟨b4, hb4, hm⟩ := vg hF sS 302 (by decide)
 rw [hb4, Option.bind_some]
 cases b4 with
 | false => rfl
 | true =>
 obtain ⟨hm1, hm2⟩ := hm rfl
 have hm3 : ∀ l ∈ sS, l.length ≤ 1000000 := fun l h => by have := hm2 l h; omega
 obtain ⟨b3, hb3⟩ := zS hF hS iS hl1 hl3
 rw [if_pos rfl, hb3, Option.bind_some]
 cases b3 with
 | true => rfl
 | false =>
 simp only [Bool.false_eq_true, if_false, if_pos hS.small, sa hF iS hl1 hl2, sa hF sS hm1 hm2, Option.bind_some, CC hF hS iS sS hl1 hl3 hm1 hm3, zP hF hS iS hl1 hl3]
 by_cases he : listsErrR d iS = 0
 case neg => simp [he]
 obtain ⟨ok, h1, h2, h3⟩ := sH hS he
 simp [he, CE hF ok iS sS hl1 h3 hm1 hm3]
end Go.E
namespace Go.E
open Go.Proofs
theorem Bm (d : Desg) (i s : List (List Int)) : callw X2 [] 8 [.agg (cellsDesg d), .list (i.map encInts), .list (s.map encInts)] [] = some (.bool true, []) := nz [] [] 1000001 d i s true (zT (by decide) d i s)
end Go.E
