/- Plain law of chapter 15: DesignErrors. Own work. -/
import Derived.Test.YtoljdokffnjapaaGreatP3
import Derived.Test.YtoljdokffnjapaaGreatP8
import Derived.Test.YtoljdokffnjapaaGreatP6
import Derived.Test.YtoljdokffnjapaaGreatP7
import Derived.Test.YtoljdokffnjapaaGreatP5
import Derived.Test.YtoljdokffnjapaaGreatP4
import Derived.Test.YtoljdokffnjapaaGreatP2
set_option linter.all false
namespace Go.E
open Go.Proofs
set_option maxRecDepth 100000
set_option maxHeartbeats 400000
structure SmallD (d : Desg) : Prop where
 inputs : d.inputs.length ≤ 1000
 elements : d.elements.length ≤ 1000
 nodes : d.nodes.length ≤ 1000
 rules : d.rules.length ≤ 1000
 outs : d.outs.length ≤ 1000
 attrs : d.attrs.length ≤ 1000
 args : ∀ x ∈ d.nodes, x.args.length ≤ 1000000
 writes : ∀ x ∈ d.rules, x.writes.length ≤ 1000000
 arules : ∀ x ∈ d.attrs, x.rules.length ≤ 1000000
theorem AY (l : List Wri) : List.mapM (takeElem 3) (l.map encWri) = some (l.map encWri) := eU fun _ => by simp [takeElem, encWri, cellsWri, V.norm, gI, V.cells, V.pure, V.pureL, V.isCell]
theorem zl (l : List Elem) : List.mapM (takeElem 5) (l.map encElem) = some (l.map encElem) := eU fun _ => by simp [takeElem, encElem, cellsElem, V.norm, gI, V.cells, V.pure, V.pureL, V.isCell]
attribute [push_cast] AY zl
theorem wP (bs : List Nat) (H : Heap) (l : List Node) (hl : l.length ≤ 1000) (ha : ∀ x ∈ l, x.args.length ≤ 1000000) : callw X bs 67 [.list (l.map encNode)] H = some (.list (l.map encNode), H) := by
 refine yw2 (rs := [.tmp 2]) (N := 32) (fn := Tryz.f67) xk67 xf67 ?_
 have key : ∀ (t : HObj) (bs : List Nat) i ρ H', i ≤ l.length → (H' = H ++ [t, .arr (fill encNode (.agg [.int .i64 0, .int .i64 0, .nilS, .int .i64 0]) l i) 0] ∧ ρ 0 = .list (l.map encNode) ∧ ρ 3 = .ref 4 (H.length + 1) 0 0 l.length ∧ ρ 4 = .int .i64 i) →
   Lp X ⟨32, H.length :: bs⟩ (loopAt Tryz.f67 0) ρ H' fun ex ρ' H' => H' = H ++ [t, .arr (l.map encNode) 0] ∧ ρ' 3 = .ref 4 (H.length + 1) 0 0 l.length ∧ ex = .exit 0 := by
  intro t bs
  refine dV ?_ ?_
  ·rintro i ρ H' hlt ⟨rfl, h0, h3, h4⟩
   have hget : l[i]? = some l[i] := by simp [hlt]
   have hw := add1 i l.length hlt (by omega)
   have hz := pf encNode (.agg [.int .i64 0, .int .i64 0, .nilS, .int .i64 0]) l i hlt
   have hs := kC encNode (.agg [.int .i64 0, .int .i64 0, .nilS, .int .i64 0]) l i l[i] hget
   have hg1 := uG encNode (.agg [.int .i64 0, .int .i64 0, .nilS, .int .i64 0]) l i l[i] hget
   have hs1 := uH encNode (.agg [.int .i64 0, .int .i64 0, .nilS, .int .i64 0]) l i l[i] hget
   have hal := ha l[i] (List.getElem_mem hlt)
   have hc := fun bs H => bB bs H l[i].args hal
   generalize l[i] = p at hget hs hg1 hs1 hal hc
   simp only [encNode, encInts] at hs hg1 hs1
   conv => arg 3; whnf
   all_goals try (refine zs ?_; repeat' first | apply zs0 | apply zs2 | (intro hc; try have hq := dq hc))
   exact ⟨yw3, yw3, yw3, yw3⟩
  ·rintro ρ H' ⟨rfl, h0, h3, h4⟩
   rw [pg]
   conv => arg 3; whnf
   all_goals try (refine zs ?_; repeat' first | apply zs0 | apply zs2 | (intro hc; try have hq := dq hc))
   exact ⟨yw3, yw3, rfl⟩
 have h1 := jt (n := l.length) (k := 48) (by omega) (by omega)
 have h2 := ph (n := l.length) (by omega)
 have h3 : Kp (fill encNode (.agg [.int .i64 0, .int .i64 0, .nilS, .int .i64 0]) l 0 = List.replicate l.length (.agg [.int .i64 0, .int .i64 0, .nilS, .int .i64 0])) := ⟨ti _ _ _⟩
 all_goals try (refine zs ?_; repeat' first | apply zs0 | apply zs2 | (intro hc; try have hq := dq hc))
 refine ac (ah (c := loopAt Tryz.f67 0) rfl (key _ _ 0 _ _ (by omega) ⟨by rw [h3.out], yw3, yw3, yw3⟩)) ?_
 rintro ex ρ' H' ⟨rfl, f3, rfl⟩ hf
 all_goals try (refine zs ?_; repeat' first | apply zs0 | apply zs2 | (intro hc; try have hq := dq hc))
theorem wQ (bs : List Nat) (H : Heap) (l : List Port) (hl : l.length ≤ 1000000) : callw X bs 66 [.list (l.map encPort)] H = some (.list (l.map encPort), H) := by
 refine yw2 (rs := [.tmp 2]) (N := 6) (fn := Tryz.f66) xk66 xf66 ?_
 have h := jt (k := 24) hl (by omega)
 all_goals try (refine zs ?_; repeat' first | apply zs0 | apply zs2 | (intro hc; try have hq := dq hc))
theorem uc (bs : List Nat) (H : Heap) (l : List Outp) (hl : l.length ≤ 1000000) : callw X bs 68 [.list (l.map encOutp)] H = some (.list (l.map encOutp), H) := by
 refine yw2 (rs := [.tmp 2]) (N := 6) (fn := Tryz.f68) xk68 xf68 ?_
 have h := jt (k := 24) hl (by omega)
 all_goals try (refine zs ?_; repeat' first | apply zs0 | apply zs2 | (intro hc; try have hq := dq hc))
theorem vq (bs : List Nat) (H : Heap) (l : List Wri) (hl : l.length ≤ 1000000) : callw X bs 69 [.list (l.map encWri)] H = some (.list (l.map encWri), H) := by
 refine yw2 (rs := [.tmp 2]) (N := 6) (fn := Tryz.f69) xk69 xf69 ?_
 have h := jt (k := 24) hl (by omega)
 all_goals try (refine zs ?_; repeat' first | apply zs0 | apply zs2 | (intro hc; try have hq := dq hc))
theorem dy (bs : List Nat) (H : Heap) (d : Desg) (hS : SmallD d) : callw X bs 14 [encDesg d] H = some (encDesg d, H) := by
 refine yw2 (rs := [.cell 2 29]) (N := 87) (fn := Tryz.f14) xk14 xf14 ?_
 obtain ⟨s1, s2, s3, s4, s5, s6, s7, s8, s9⟩ := hS
 have key1 : ∀ (e : V) (t u : HObj) (bs : List Nat) i ρ H', i ≤ d.rules.length → (H' = H ++ [.cells [.str d.name, .list (d.inputs.map encPort), e, .list (d.nodes.map encNode), .list (d.rules.map encRul), .list (d.outs.map encOutp), .list (d.attrs.map encAttr)], t, u, .arr (fill encRul (.agg [.str ⟨#[]⟩, .int .i64 0, .nilS]) d.rules i) 0] ∧ ρ 1 = .ptr H.length 0 ∧ ρ 3 = .ref 3 (H.length + 3) 0 0 d.rules.length ∧ ρ 4 = .int .i64 i) →
   Lp X ⟨87, H.length :: bs⟩ (loopAt Tryz.f14 0) ρ H' fun ex ρ' H' => H' = H ++ [.cells [.str d.name, .list (d.inputs.map encPort), e, .list (d.nodes.map encNode), .list (d.rules.map encRul), .list (d.outs.map encOutp), .list (d.attrs.map encAttr)], t, u, .arr (d.rules.map encRul) 0] ∧ ρ' 3 = .ref 3 (H.length + 3) 0 0 d.rules.length ∧ ex = .exit 0 := by
  intro e t u bs
  refine dV ?_ ?_
  ·rintro i ρ H' hlt ⟨rfl, h1, h3, h4⟩
   have hget : d.rules[i]? = some d.rules[i] := by simp [hlt]
   have hw := add1 i d.rules.length hlt (by omega)
   have hz := pf encRul (.agg [.str ⟨#[]⟩, .int .i64 0, .nilS]) d.rules i hlt
   have hs := kC encRul (.agg [.str ⟨#[]⟩, .int .i64 0, .nilS]) d.rules i d.rules[i] hget
   have hg1 := uG encRul (.agg [.str ⟨#[]⟩, .int .i64 0, .nilS]) d.rules i d.rules[i] hget
   have hs1 := uH encRul (.agg [.str ⟨#[]⟩, .int .i64 0, .nilS]) d.rules i d.rules[i] hget
   have hal := s8 d.rules[i] (List.getElem_mem hlt)
   have hc := fun bs H => vq bs H d.rules[i].writes hal
   generalize d.rules[i] = p at hget hs hg1 hs1 hal hc
   simp only [encRul, cellsRul] at hs hg1 hs1
   conv => arg 3; whnf
   repeat' first
    | (refine yw1 (id := 1) oz32 oz33 ?_)
    | (refine yw1 (id := 13) oz34 oz35 ?_)
    | (refine zs ?_; repeat' first | apply zs0 | apply zs2 | (intro hc; try have hq := dq hc)) | fail
   exact ⟨yw3, yw3, yw3, yw3⟩
  ·rintro ρ H' ⟨rfl, h1, h3, h4⟩
   rw [pg]
   conv => arg 3; whnf
   repeat' first
    | (refine yw1 (id := 1) oz32 oz33 ?_)
    | (refine yw1 (id := 13) oz34 oz35 ?_)
    | (refine zs ?_; repeat' first | apply zs0 | apply zs2 | (intro hc; try have hq := dq hc)) | fail
   exact ⟨yw3, yw3, rfl⟩
 have key2 : ∀ (e : V) (t u v : HObj) (bs : List Nat) i ρ H', i ≤ d.attrs.length → (H' = H ++ [.cells [.str d.name, .list (d.inputs.map encPort), e, .list (d.nodes.map encNode), .list (d.rules.map encRul), .list (d.outs.map encOutp), .list (d.attrs.map encAttr)], t, u, v, .arr (fill encAttr (.agg [.int .i64 0, .nilS]) d.attrs i) 0] ∧ ρ 1 = .ptr H.length 0 ∧ ρ 5 = .ref 2 (H.length + 4) 0 0 d.attrs.length ∧ ρ 6 = .int .i64 i) →
   Lp X ⟨87, H.length :: bs⟩ (loopAt Tryz.f14 1) ρ H' fun ex ρ' H' => H' = H ++ [.cells [.str d.name, .list (d.inputs.map encPort), e, .list (d.nodes.map encNode), .list (d.rules.map encRul), .list (d.outs.map encOutp), .list (d.attrs.map encAttr)], t, u, v, .arr (d.attrs.map encAttr) 0] ∧ ρ' 5 = .ref 2 (H.length + 4) 0 0 d.attrs.length ∧ ex = .exit 2 := by
  intro e t u v bs
  refine dV ?_ ?_
  ·rintro i ρ H' hlt ⟨rfl, h1, h5, h6⟩
   have hget : d.attrs[i]? = some d.attrs[i] := by simp [hlt]
   have hw := add1 i d.attrs.length hlt (by omega)
   have hz := pf encAttr (.agg [.int .i64 0, .nilS]) d.attrs i hlt
   have hs := kC encAttr (.agg [.int .i64 0, .nilS]) d.attrs i d.attrs[i] hget
   have hal := s9 d.attrs[i] (List.getElem_mem hlt)
   have hc := fun bs H => bB bs H d.attrs[i].rules hal
   generalize d.attrs[i] = p at hget hs hal hc
   simp only [encAttr, cellsAttr] at hs
   conv => arg 3; whnf
   repeat' first
    | (refine yw1 (id := 1) oz32 oz33 ?_)
    | (refine yw1 (id := 13) oz34 oz35 ?_)
    | (refine zs ?_; repeat' first | apply zs0 | apply zs2 | (intro hc; try have hq := dq hc)) | fail
   exact ⟨yw3, yw3, yw3, yw3⟩
  ·rintro ρ H' ⟨rfl, h1, h5, h6⟩
   rw [pg]
   conv => arg 3; whnf
   repeat' first
    | (refine yw1 (id := 1) oz32 oz33 ?_)
    | (refine yw1 (id := 13) oz34 oz35 ?_)
    | (refine zs ?_; repeat' first | apply zs0 | apply zs2 | (intro hc; try have hq := dq hc)) | fail
   exact ⟨yw3, yw3, rfl⟩
 have c1 := fun bs H => wQ bs H d.inputs (by omega)
 have c2 := fun bs H => wP bs H d.nodes s3 s7
 have c3 := fun bs H => uc bs H d.outs (by omega)
 have h1 := jt (n := d.elements.length) (k := 48) (by omega) (by omega)
 have h2 := jt (n := d.rules.length) (k := 48) (by omega) (by omega)
 have h3 := ph (n := d.rules.length) (by omega)
 have h4 := jt (n := d.attrs.length) (k := 32) (by omega) (by omega)
 have h5 := ph (n := d.attrs.length) (by omega)
 have h6 : Kp (fill encRul (.agg [.str ⟨#[]⟩, .int .i64 0, .nilS]) d.rules 0 = List.replicate d.rules.length (.agg [.str ⟨#[]⟩, .int .i64 0, .nilS])) := ⟨ti _ _ _⟩
 have h7 : Kp (fill encAttr (.agg [.int .i64 0, .nilS]) d.attrs 0 = List.replicate d.attrs.length (.agg [.int .i64 0, .nilS])) := ⟨ti _ _ _⟩
 clear s1 s2 s3 s4 s5 s6 s7 s8 s9
 repeat' first
  | (refine yw1 (id := 1) oz32 oz33 ?_)
  | (refine yw1 (id := 13) oz34 oz35 ?_)
  | (refine zs ?_; repeat' first | apply zs0 | apply zs2 | (intro hc; try have hq := dq hc)) | fail
 refine ac (ah (c := loopAt Tryz.f14 0) rfl (key1 _ _ _ _ 0 _ _ (by omega) ⟨by rw [h6.out], yw3, yw3, yw3⟩)) ?_
 rintro ex ρ' H' ⟨rfl, f3, rfl⟩ hf
 have f1 := hf 1 rfl
 have f2 := hf 2 rfl
 repeat' first
  | (refine yw1 (id := 1) oz32 oz33 ?_)
  | (refine yw1 (id := 13) oz34 oz35 ?_)
  | (refine zs ?_; repeat' first | apply zs0 | apply zs2 | (intro hc; try have hq := dq hc)) | fail
 refine ac (ah (c := loopAt Tryz.f14 1) rfl (key2 _ _ _ _ _ 0 _ _ (by omega) ⟨by rw [h7.out], yw3, yw3, yw3⟩)) ?_
 rintro ex ρ'' H' ⟨rfl, f5, rfl⟩ hf2
 have g1 := hf2 1 rfl
 have g2 := hf2 2 rfl
 have g3 := hf2 3 rfl
 repeat' first
  | (refine yw1 (id := 1) oz32 oz33 ?_)
  | (refine yw1 (id := 13) oz34 oz35 ?_)
  | (refine zs ?_; repeat' first | apply zs0 | apply zs2 | (intro hc; try have hq := dq hc)) | fail
end Go.E
set_option linter.all false
namespace Go.E
open Go.Proofs Classical
set_option maxRecDepth 100000
set_option maxHeartbeats 20000000
noncomputable section
def aV (F : Nat) (d : Desg) (name : ByteArray) (y10 : Int × Int) : Nat → Nat → Option (Oc (Bool) (Unit))
 | 0, _ => none
 | k + 1, s16 => (if (decide ((s16 : Int) < (d.rules.length : Int))) = true then ((d.rules[s16]?).bind fun x19 => (if (decide (x19.name = name)) = true then (if (decide (y10.2 = 0)) = true then some (.a (decide (y10.1 = (s16 : Int)))) else some (.a false)) else (if inI ((s16 : Int) + 1) then aV F d name y10 k (s16 + 1) else none))) else some (.b ()))
theorem ly (bs : List Nat) (H : Heap) (F : Nat) (d : Desg) (name : ByteArray) (y10 : Int × Int) : ∀ k s r ρ H', (∃ J17, H' = H ++ .cells [.str d.name, .list (d.inputs.map encPort), .list (d.elements.map encElem), .list (d.nodes.map encNode), .list (d.rules.map encRul), .list (d.outs.map encOutp), .list (d.attrs.map encAttr)] :: J17 ∧ ρ 1 = .str name ∧ ρ 2 = .ptr H.length 0 ∧ ρ 7 = .int .i64 y10.1 ∧ ρ 8 = .int .i64 y10.2 ∧ ρ 11 = .int .i64 (s : Int)) → aV F d name y10 k s = some r → Lp X2 ⟨85, H.length :: bs⟩ (loopAt Tryz.f5 0) ρ H' ((fun r ex ρ H' => match r with | .a r => ∃ J17, H' = H ++ .cells [.str d.name, .list (d.inputs.map encPort), .list (d.elements.map encElem), .list (d.nodes.map encNode), .list (d.rules.map encRul), .list (d.outs.map encOutp), .list (d.attrs.map encAttr)] :: J17 ∧ ex = .ret ∧ ρ 4 = .bool r | .b r => ∃ J17, H' = H ++ .cells [.str d.name, .list (d.inputs.map encPort), .list (d.elements.map encElem), .list (d.nodes.map encNode), .list (d.rules.map encRul), .list (d.outs.map encOutp), .list (d.attrs.map encAttr)] :: J17 ∧ ex = .exit 0) r) := by
 refine ae (fun _ => rfl) ?_
 rintro k s16 r ρ H' ⟨J17, hH, h1, h2, h7, h8, h11⟩ hR
 skip
 subst hH
 rw [aV] at hR
 conv => arg 3; whnf
 try refine zw ?_
 rcases iteE hR with ⟨c18, hR⟩ | ⟨c18, hR⟩
 ·obtain ⟨x19, x19_e, hR⟩ := bindE hR
  try refine zw ?_
  rcases iteE hR with ⟨c20, hR⟩ | ⟨c20, hR⟩
  ·try refine zw ?_
   rcases iteE hR with ⟨c21, hR⟩ | ⟨c21, hR⟩
   ·obtain rfl := someE hR
    refine zu ?_
    exact ⟨_, hq, rfl, sl⟩
   ·obtain rfl := someE hR
    refine zu ?_
    exact ⟨_, hq, rfl, sl⟩
  ·obtain ⟨g22, hR⟩ := grdE hR
   have g22_w := af g22
   refine zu ?_
   exact ⟨(s16 + 1), ⟨_, hq, sl, sl, sl, sl, sl⟩, hR.out⟩
 ·obtain rfl := someE hR
  refine zu ?_
  exact ⟨_, hq, rfl⟩
def bA (F : Nat) (d : Desg) (name : ByteArray) (y10 : Int × Int) : List Rul → Nat → Unit → Option (Oc (Bool) (Unit))
 | [], s16, _ => some (.b ())
 | x_ :: r_, s16, _ => (if (decide (x_.name = name)) = true then (if (decide (y10.2 = 0)) = true then some (.a (decide (y10.1 = (s16 : Int)))) else some (.a false)) else bA F d name y10 r_ (s16 + 1) ())
theorem gV (F : Nat) (d : Desg) (name : ByteArray) (y10 : Int × Int) (hl_ : d.rules.length ≤ 1000000) : ∀ r_ i_ k_ (o_ : Unit), d.rules.drop i_ = r_ → r_.length < k_ → aV F d name y10 k_ i_ = bA F d name y10 r_ i_ o_
 | _, _, 0, _, _, hk => absurd hk (Nat.not_lt_zero _)
 | [], i_, k_ + 1, _, hd, _ => by rw [aV, bA]; simp only [ao hd, Bool.false_eq_true, if_false]
 | x_ :: r_, i_, k_ + 1, _, hd, hk => by
  have ih := gV F d name y10 hl_ r_ (i_ + 1) k_ () (ai hd) (Nat.lt_of_succ_lt_succ hk)
  rw [aV, bA]; simp only [aF hd, aw hd, if_pos (aG hd hl_), Option.bind_some, if_true, ih]
def fI (F : Nat) (d : Desg) (name : ByteArray) : Option (Bool) := ((gg F d).bind fun y2 => (if y2 = true then (if (decide ((40 : Int) < (name.size : Int))) = true then some true else (if SmallD d then ((dC F d).bind fun y7 => (if SmallD d then ((ft F d name).bind fun y10 => ((eQ F d).bind fun y11 => (if (decide (¬y7.2 = y11.2)) = true then some false else (if (decide (¬y7.1 = y11.1)) = true then some false else (if (decide (¬y11.2 = 0)) = true then (if (decide (y10.2 = y11.2)) = true then some (decide (y10.1 = 0)) else some false) else ((aV F d name y10 F 0).bind fun o23 => match o23 with | .a o24 => some o24 | .b o26 => (if (decide (y10.2 = 6)) = true then some (decide (y10.1 = 0)) else some false))))))) else none)) else none)) else some true))
theorem no (bs : List Nat) (H : Heap) (F : Nat) (d : Desg) (name : ByteArray) (R : Bool) (hR0 : fI F d name = some R) : callw X2 bs 5 [(encDesg d), .str name] H = some (.bool R, H) := by
 refine yw2 (rs := [.tmp 4]) (N := 85) (fn := Tryz.f5) xk5 xf5 ?_
 have hR := Kp.mk hR0
 clear hR0
 rw [fI] at hR
 (try simp only [cellsDesg, encDesg, encInts])
 have k1_k := fun bs H => ub bs H
 obtain ⟨y2, y2_e, hR⟩ := bindE hR
 have y2_k := fun bs H => ab (kE bs H F d y2 y2_e)
 (try simp only [cellsDesg, encDesg, encInts] at y2_k)
 try refine zw ?_
 clear k1_k y2_k
 rcases iteE hR with ⟨c3, hR⟩ | ⟨c3, hR⟩
 ·try refine zw ?_
  rcases iteE hR with ⟨c4, hR⟩ | ⟨c4, hR⟩
  ·obtain rfl := someE hR
   exact zv
  ·obtain ⟨g5, hR⟩ := grdE hR
   have k6_k := fun bs H => ab (dy bs H d g5)
   (try simp only [cellsDesg, encDesg, encInts] at k6_k)
   obtain ⟨y7, y7_e, hR⟩ := bindE hR
   have y7_k := fun bs H => ab (ja bs H F d y7 y7_e)
   (try simp only [cellsDesg, encDesg, encInts] at y7_k)
   obtain ⟨g8, hR⟩ := grdE hR
   have k9_k := fun bs H => ab (dy bs H d g8)
   (try simp only [cellsDesg, encDesg, encInts] at k9_k)
   obtain ⟨y10, y10_e, hR⟩ := bindE hR
   have y10_k := fun bs H => ab (px bs H F d name y10 y10_e)
   (try simp only [cellsDesg, encDesg, encInts] at y10_k)
   obtain ⟨y11, y11_e, hR⟩ := bindE hR
   have y11_k := fun bs H => ab (kr bs H F d y11 y11_e)
   (try simp only [cellsDesg, encDesg, encInts] at y11_k)
   try refine zw ?_
   clear k6_k y7_k k9_k y10_k y11_k
   rcases iteE hR with ⟨c12, hR⟩ | ⟨c12, hR⟩
   ·obtain rfl := someE hR
    exact zv
   ·try refine zw ?_
    rcases iteE hR with ⟨c13, hR⟩ | ⟨c13, hR⟩
    ·obtain rfl := someE hR
     exact zv
    ·try refine zw ?_
     rcases iteE hR with ⟨c14, hR⟩ | ⟨c14, hR⟩
     ·try refine zw ?_
      rcases iteE hR with ⟨c15, hR⟩ | ⟨c15, hR⟩
      ·obtain rfl := someE hR
       exact zv
      ·obtain rfl := someE hR
       exact zv
     ·obtain ⟨o23, o23_e, hR⟩ := bindE hR
      refine zu ?_
      refine ac (ah (c := (loopAt Tryz.f5 0)) rfl (ly _ H F d name y10 _ 0 o23 _ _ ⟨_, hq, sl, sl, sl, sl, sl⟩ o23_e)) ?_
      rcases o23 with o24 | o26
      ·rintro ex ρ' H' ⟨J25, rfl, rfl, q4_o24⟩ hf
       clear hf
       obtain rfl := someE hR
       exact zv
      ·rintro ex ρ' H' ⟨J27, rfl, rfl⟩ hf
       have q7_o26 : ρ' 7 = .int .i64 y10.1 := (hf 7 rfl).trans (sl)
       have q8_o26 : ρ' 8 = .int .i64 y10.2 := (hf 8 rfl).trans (sl)
       clear hf
       try refine zw ?_
       rcases iteE hR with ⟨c28, hR⟩ | ⟨c28, hR⟩
       ·obtain rfl := someE hR
        exact zv
       ·obtain rfl := someE hR
        exact zv
 ·obtain rfl := someE hR
  exact zv
end
end Go.E
namespace Go.E
open Classical
variable {F : Nat} (hF : 1000000 < F)
include hF in
theorem pR (d : Desg) : ∃ b, gg F d = some b ∧ (b = true → FewD d) := by
 have l0 : ∀ r i, dJ F d r i () = _ := py (L := dJ F d) (fun x => !decide ((5 : Int) < (x.args.length : Int))) (fun _ => rfl) (fun x r i => by rw [dJ]; cases decide ((5 : Int) < (x.args.length : Int)) <;> rfl)
 have l1 : ∀ r i, dK F d r i () = _ := py (L := dK F d) (fun x => !decide ((20 : Int) < (x.writes.length : Int)) && !decide ((40 : Int) < (x.name.size : Int))) (fun _ => rfl) (fun x r i => by rw [dK]; cases decide ((20 : Int) < (x.writes.length : Int)) <;> cases decide ((40 : Int) < (x.name.size : Int)) <;> rfl)
 have l2 : ∀ r i, dL F d r i () = _ := py (L := dL F d) (fun x => !decide ((20 : Int) < (x.rules.length : Int))) (fun _ => rfl) (fun x r i => by rw [dL]; cases decide ((20 : Int) < (x.rules.length : Int)) <;> rfl)
 have l3 : ∀ r i, dM F d r i () = _ := py (L := dM F d) (fun x => !decide ((40 : Int) < (x.name.size : Int))) (fun _ => rfl) (fun x r i => by rw [dM]; cases decide ((40 : Int) < (x.name.size : Int)) <;> rfl)
 have l4 : ∀ r i, dN F d r i () = _ := py (L := dN F d) (fun x => !decide ((40 : Int) < (x.name.size : Int))) (fun _ => rfl) (fun x r i => by rw [dN]; cases decide ((40 : Int) < (x.name.size : Int)) <;> rfl)
 have l5 : ∀ r i, dO F d r i () = _ := py (L := dO F d) (fun x => !decide ((40 : Int) < (x.name.size : Int))) (fun _ => rfl) (fun x r i => by rw [dO]; cases decide ((40 : Int) < (x.name.size : Int)) <;> rfl)
 have key : d.name.size ≤ 40 → d.inputs.length ≤ 45 → d.elements.length ≤ 45 → d.nodes.length ≤ 405 → d.rules.length ≤ 20 → d.outs.length ≤ 20 → d.attrs.length ≤ 20 →
   ∃ b, ((cT F d F 0).bind fun o16 => match o16 with | .a o17 => some o17 | .b o19 => ((cU F d F 0).bind fun o29 => match o29 with | .a o30 => some o30 | .b o32 => ((cV F d F 0).bind fun o40 => match o40 with | .a o41 => some o41 | .b o43 => ((cW F d F 0).bind fun o51 => match o51 with | .a o52 => some o52 | .b o54 => ((cX F d F 0).bind fun o62 => match o62 with | .a o63 => some o63 | .b o65 => ((cY F d F 0).bind fun o73 => match o73 with | .a o74 => some o74 | .b o76 => some true)))))) = some b ∧ (b = true → FewD d) := by
  intro h1 h2 h3 h4 h5 h6 h7
  refine kD ((kZ F d (by omega) d.nodes 0 F () rfl (by omega)).trans (l0 _ _)) rfl fun k0 => ?_
  refine kD ((lb F d (by omega) d.rules 0 F () rfl (by omega)).trans (l1 _ _)) rfl fun k1 => ?_
  refine kD ((lc F d (by omega) d.attrs 0 F () rfl (by omega)).trans (l2 _ _)) rfl fun k2 => ?_
  refine kD ((ld F d (by omega) d.inputs 0 F () rfl (by omega)).trans (l3 _ _)) rfl fun k3 => ?_
  refine kD ((lf F d (by omega) d.elements 0 F () rfl (by omega)).trans (l4 _ _)) rfl fun k4 => ?_
  refine kD ((lg F d (by omega) d.outs 0 F () rfl (by omega)).trans (l5 _ _)) rfl fun k5 => ?_
  simp only [List.all_eq_true, Bool.and_eq_true, Bool.not_eq_true', decide_eq_false_iff_not] at k0 k1 k2 k3 k4 k5
  exact ⟨true, rfl, fun _ => ⟨by omega, by omega, by omega, by omega, by omega, by omega, by omega, fun p hp => by have := k3 p hp; omega, fun p hp => by have := k4 p hp; omega, fun p hp => by have := k1 p hp; omega,
   fun p hp => by have := k5 p hp; omega, fun p hp => by have := k0 p hp; omega, fun p hp => by have := k1 p hp; omega, fun p hp => by have := k2 p hp; omega⟩⟩
 unfold gg
 refine ik fun c1 => ik fun c2 => ik fun c3 => ?_
 by_cases c4 : (60 : Int) < d.nodes.length
 ·rw [if_pos (decide_eq_true c4)]
  exact ik fun c5 => ik fun c6 => ik fun c7 => ik fun c8 => ik fun c9 => key (by omega) (by omega) (by omega) (by omega) (by omega) (by omega) (by omega)
 ·rw [if_neg (by simpa using c4)]
  exact ik fun c6 => ik fun c7 => ik fun c8 => ik fun c9 => key (by omega) (by omega) (by omega) (by omega) (by omega) (by omega) (by omega)
theorem FewD.small {d : Desg} (h : FewD d) : SmallD d :=
 ⟨h.inputs, h.elements, h.nodes, h.rules, h.outs, h.attrs, fun x hx => by have := h.args x hx; omega, fun x hx => by have := h.writes x hx; omega, fun x hx => by have := h.arules x hx; omega⟩
def idxN (name : ByteArray) : Nat → List Rul → Oc Nat Unit
 | _, [] => .b ()
 | i, x :: r => if x.name = name then .a i else idxN name (i + 1) r
include hF in
theorem Cj {d : Desg} (hS : FewD d) (name : ByteArray) : ft F d name = some (if (designErrR d).2 = 0 then (match idxN name 0 d.rules with | .a i => ((i : Int), (0 : Int)) | .b _ => (0, 6)) else (0, (designErrR d).2)) := by
 have k : ∀ (r : List Rul) (i : Nat), cn F d.rules name r i () = some (idxN name i r) := by
  intro r
  induction r with
  | nil => intro i; rfl
  | cons x r ih =>
   intro i
   simp only [cn, eI, Option.bind_some, idxN, ih]
   by_cases h : x.name = name <;> simp [h]
 have h1 : bn F d.rules name F 0 = _ := iE F d.rules name (by have := hS.rules; omega) d.rules 0 F () rfl (by have := hS.rules; omega)
 unfold ft bL gy
 rw [sr hF hS, h1, k]
 by_cases h : (designErrR d).2 = 0
 ·simp only [Option.bind_some, h]
  cases idxN name 0 d.rules with
  | b u => simp
  | a i => cases i <;> simp <;> omega
 ·simp [h]
include hF in
theorem zo (d : Desg) (name : ByteArray) : fI F d name = some true := by
 obtain ⟨b, h1, h2⟩ := pR hF d
 unfold fI
 rw [h1, Option.bind_some]
 cases b with
 | false => rfl
 | true =>
 have hS := h2 rfl
 by_cases h40 : (40 : Int) < (name.size : Int)
 ·simp [h40]
 have k : ∀ (y : Int × Int) (r : List Rul) (i : Nat), bA F d name y r i () = some (match idxN name i r with | .a j => .a (if y.2 = 0 then decide (y.1 = (j : Int)) else false) | .b _ => .b ()) := by
  intro y r
  induction r with
  | nil => intro i; rfl
  | cons x r ih =>
   intro i
   simp only [bA, idxN, ih]
   by_cases h : x.name = name <;> by_cases h3 : y.2 = 0 <;> simp [h, h3]
 have e : ∀ y, aV F d name y F 0 = _ := fun y => gV F d name y (by have := hS.rules; omega) d.rules 0 F () rfl (by have := hS.rules; omega)
 simp only [h40, if_pos hS.small, sr hF hS, Cj hF hS, uS hF hS, Option.bind_some, e, k]
 by_cases h : (designErrR d).2 = 0
 ·simp only [h]
  cases idxN name 0 d.rules <;> simp
 ·simp [h]
end Go.E
