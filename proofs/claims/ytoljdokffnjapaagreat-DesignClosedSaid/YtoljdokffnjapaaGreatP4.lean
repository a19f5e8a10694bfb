/- Plain law of chapter 15: what a valid design does. Own work. -/
import Derived.Test.YtoljdokffnjapaaGreatP3
import Derived.Test.YtoljdokffnjapaaGreatP2
set_option linter.all false
namespace Go.E
open Go.Proofs Classical
set_option maxRecDepth 100000
set_option maxHeartbeats 400000
noncomputable section
def fh (F : Nat) (cv0 : Desg) : Option (Int × Int) := (if cv0.name.size ≤ 1000000 then (if (isNameS cv0.name) = true then (if (decide ((cv0.inputs.length : Int) ≤ 12)) = true then some (0, 0) else some (0, 8)) else (if (decide ((cv0.inputs.length : Int) ≤ 12)) = true then some (0, 4) else some (0, 4))) else none)
theorem mU (bs : List Nat) (H : Heap) (F : Nat) (ca0 : Nat) (cv0 : Desg) (hca0 : H[ca0]? = some (.cells [.str cv0.name, .list (cv0.inputs.map encPort), .list (cv0.elements.map encElem), .list (cv0.nodes.map encNode), .list (cv0.rules.map encRul), .list (cv0.outs.map encOutp), .list (cv0.attrs.map encAttr)])) (R : Int × Int) (hR0 : fh F cv0 = some R) : callw X bs 89 [.ptr ca0 0] H = some (.tuple [.int .i64 R.1, .int .i64 R.2], H) := by
 refine yw2 (rs := [.tmp 1, .tmp 2]) (N := 14) (fn := Tryz.f89) xk89 Tryz.func89 ?_
 have hca0_l := aa hca0
 have hca0_a := get_app' hca0
 have hR := Kp.mk hR0
 clear hR0
 rw [fh] at hR
 obtain ⟨g1, hR⟩ := grdE hR
 have g1_k := fun bs H => lE bs H cv0.name g1
 rcases iteE hR with ⟨c2, hR⟩ | ⟨c2, hR⟩
 ·rcases iteE hR with ⟨c3, hR⟩ | ⟨c3, hR⟩
  ·obtain rfl := someE hR
   try refine zu ?_
   (refine yw1 (id := 1) oz47 oz21 ?_)
   exact zv
  ·obtain rfl := someE hR
   try refine zu ?_
   (refine yw1 (id := 1) oz47 oz21 ?_)
   exact zv
 ·rcases iteE hR with ⟨c4, hR⟩ | ⟨c4, hR⟩
  ·obtain rfl := someE hR
   try refine zu ?_
   (refine yw1 (id := 1) oz47 oz21 ?_)
   exact zv
  ·obtain rfl := someE hR
   try refine zu ?_
   (refine yw1 (id := 1) oz47 oz21 ?_)
   exact zv
def dY (F : Nat) (n : Int) : Option (Bool) := some (decide ((1 : Int) ≤ n) && decide (n ≤ 16))
theorem iI (bs : List Nat) (H : Heap) (F : Nat) (n : Int) (R : Bool) (hR0 : dY F n = some R) : callw X bs 95 [.int .i64 n] H = some (.bool R, H) := by
 refine yw2 (rs := [.tmp 2]) (N := 5) (fn := Tryz.f95) xk95 Tryz.func95 ?_
 have hR := Kp.mk hR0
 clear hR0
 rw [dY] at hR
 obtain rfl := someE hR
 exact zv
def bM (F : Nat) (cv1 : List ByteArray) (cv3 : List ByteArray) (a0_ : Int) (p : Port) : Option (Int × (List ByteArray) × (List ByteArray)) := (if p.name.size ≤ 1000000 then (if p.name.size ≤ 1000000 then ((dY F p.width).bind fun y5 => (if y5 = true then (if (decide (¬(nameErr cv1 p.name) = 0)) = true then some ((nameErr cv1 p.name), (addName p.name cv1), (addName p.name cv3)) else (if (decide (¬(nameErr cv3 p.name) = 0)) = true then some ((nameErr cv3 p.name), (addName p.name cv1), (addName p.name cv3)) else some (0, (addName p.name cv1), (addName p.name cv3)))) else (if (decide (¬(nameErr cv1 p.name) = 0)) = true then some ((nameErr cv1 p.name), (addName p.name cv1), (addName p.name cv3)) else (if (decide (¬(nameErr cv3 p.name) = 0)) = true then some ((nameErr cv3 p.name), (addName p.name cv1), (addName p.name cv3)) else some (2, (addName p.name cv1), (addName p.name cv3)))))) else none) else none)
theorem ij (bs : List Nat) (H : Heap) (F : Nat) (ca0 : Nat) (ca1 : Nat) (ca2 : Nat) (ca3 : Nat) (cv1 : List ByteArray) (cv3 : List ByteArray) (hca0 : H[ca0]? = some (.cells [.map ca1])) (hca1 : ca1 < H.length) (hca2 : H[ca2]? = some (.cells [.map ca3])) (hca3 : ca3 < H.length) (hn_ca0_ca1 : ca0 ≠ ca1) (hn_ca2_ca1 : ca2 ≠ ca1) (hn_ca0_ca3 : ca0 ≠ ca3) (hn_ca1_ca3 : ca1 ≠ ca3) (hn_ca2_ca3 : ca2 ≠ ca3) (a0_ : Int) (p : Port) (R : Int × (List ByteArray) × (List ByteArray)) (hR0 : bM F cv1 cv3 a0_ p = some R) : callw X bs 93 [.int .i64 a0_, (encPort p), .ptr ca0 0, .ptr ca2 0] ((H.set ca1 (.map (namesM cv1))).set ca3 (.map (namesM cv3))) = some (.int .i64 R.1, ((H.set ca1 (.map (namesM R.2.1))).set ca3 (.map (namesM R.2.2)))) := by
 refine yw2 (rs := [.tmp 6]) (N := 21) (fn := Tryz.f93) xk93 Tryz.func93 ?_
 simp only [List.length_set]
 have hca0_l := aa hca0
 have hca0_a := @ml H (h := hca0) (h1 := hn_ca0_ca1) (h2 := hn_ca0_ca3)
 have hca0_b := @jf H (h := hca0) (h1 := hn_ca0_ca1) (h2 := hn_ca0_ca3)
 have hca2_l := aa hca2
 have hca2_a := @ml H (h := hca2) (h1 := hn_ca2_ca1) (h2 := hn_ca2_ca3)
 have hca2_b := @jf H (h := hca2) (h1 := hn_ca2_ca1) (h2 := hn_ca2_ca3)
 have hca1_a := @ri H (h := hca1) (hn := hn_ca1_ca3)
 have hca1_b := @mO H (h := hca1) (hn := hn_ca1_ca3)
 have hca3_a := @rj H (m := ca1) (h := hca3)
 have hca3_b := @mP H (m := ca1) (h := hca3)
 have hca1_s := @rk H (h := hca1) (hn := hn_ca1_ca3)
 have hca1_t := @mQ H (hn := hn_ca1_ca3)
 have hca3_s := @rl H (m := ca1) (h := hca3)
 have hR := Kp.mk hR0
 clear hR0
 rw [bM] at hR
 (try simp only [encInts, encPort])
 obtain ⟨g1, hR⟩ := grdE hR
 have k2_k := fun (bs : List Nat) (l : Heap) => by
  have h_ := bU bs (((H.set ca1 (.map (namesM cv1))).set ca3 (.map (namesM cv3))) ++ l) ca1 cv1 p.name g1 gt
  (try simp only [ax, an, aX, aJ, aM, az, List.set_cons_succ, List.set_cons_zero, List.set_set, aj, hca1_s, hca1_t, hca3_s] at h_)
  exact h_
 have k2_k0 := fun (bs : List Nat) => by
  have h_ := bU bs ((H.set ca1 (.map (namesM cv1))).set ca3 (.map (namesM cv3))) ca1 cv1 p.name g1 gt
  (try simp only [ax, an, aX, aJ, aM, az, List.set_cons_succ, List.set_cons_zero, List.set_set, aj, hca1_s, hca1_t, hca3_s] at h_)
  exact h_
 obtain ⟨g3, hR⟩ := grdE hR
 have k4_k := fun (bs : List Nat) (l : Heap) => by
  have h_ := bU bs (((H.set ca1 (.map (namesM (addName p.name cv1)))).set ca3 (.map (namesM cv3))) ++ l) ca3 cv3 p.name g3 gt
  (try simp only [ax, an, aX, aJ, aM, az, List.set_cons_succ, List.set_cons_zero, List.set_set, aj, hca1_s, hca1_t, hca3_s] at h_)
  exact h_
 have k4_k0 := fun (bs : List Nat) => by
  have h_ := bU bs ((H.set ca1 (.map (namesM (addName p.name cv1)))).set ca3 (.map (namesM cv3))) ca3 cv3 p.name g3 gt
  (try simp only [ax, an, aX, aJ, aM, az, List.set_cons_succ, List.set_cons_zero, List.set_set, aj, hca1_s, hca1_t, hca3_s] at h_)
  exact h_
 obtain ⟨y5, y5_e, hR⟩ := bindE hR
 have y5_k := fun bs H => iI bs H F p.width y5 y5_e
 rcases iteE hR with ⟨c6, hR⟩ | ⟨c6, hR⟩
 ·rcases iteE hR with ⟨c7, hR⟩ | ⟨c7, hR⟩
  ·have c7_p := of_decide_eq_true c7
   obtain rfl := someE hR
   try refine zu ?_
   (refine yw1 (id := 1) oz36 oz37 ?_)
   exact zv
  ·have c7_p := Decidable.not_not.1 (of_decide_eq_false c7)
   rcases iteE hR with ⟨c8, hR⟩ | ⟨c8, hR⟩
   ·have c8_p := of_decide_eq_true c8
    obtain rfl := someE hR
    try refine zu ?_
    (refine yw1 (id := 1) oz36 oz37 ?_)
    exact zv
   ·have c8_p := Decidable.not_not.1 (of_decide_eq_false c8)
    obtain rfl := someE hR
    try refine zu ?_
    (refine yw1 (id := 1) oz36 oz37 ?_)
    exact zv
 ·rcases iteE hR with ⟨c9, hR⟩ | ⟨c9, hR⟩
  ·have c9_p := of_decide_eq_true c9
   obtain rfl := someE hR
   try refine zu ?_
   (refine yw1 (id := 1) oz36 oz37 ?_)
   exact zv
  ·have c9_p := Decidable.not_not.1 (of_decide_eq_false c9)
   rcases iteE hR with ⟨c10, hR⟩ | ⟨c10, hR⟩
   ·have c10_p := of_decide_eq_true c10
    obtain rfl := someE hR
    try refine zu ?_
    (refine yw1 (id := 1) oz36 oz37 ?_)
    exact zv
   ·have c10_p := Decidable.not_not.1 (of_decide_eq_false c10)
    obtain rfl := someE hR
    try refine zu ?_
    (refine yw1 (id := 1) oz36 oz37 ?_)
    exact zv
def dh (F : Nat) (l : List Port) : Nat → (Nat × (List ByteArray) × (List ByteArray)) → Option (Oc (Nat × Int × (List ByteArray) × (List ByteArray)) ((List ByteArray) × (List ByteArray)))
 | 0, _ => none
 | k + 1, (s14, s15, s16) => (if (decide ((s14 : Int) < (l.length : Int))) = true then ((l[s14]?).bind fun x19 => ((bM F s15 s16 (s14 : Int) x19).bind fun y20 => (if (decide (¬y20.1 = 0)) = true then some (.a (s14, y20.1, y20.2.1, y20.2.2)) else (if inI ((s14 : Int) + 1) then dh F l k ((s14 + 1), y20.2.1, y20.2.2) else none)))) else some (.b (s15, s16)))
theorem qE (bs : List Nat) (H : Heap) (F : Nat) (ca0 : Nat) (ca1 : Nat) (ca2 : Nat) (ca3 : Nat) (cv1 : List ByteArray) (cv3 : List ByteArray) (hca0 : H[ca0]? = some (.cells [.map ca1])) (hca1 : ca1 < H.length) (hca2 : H[ca2]? = some (.cells [.map ca3])) (hca3 : ca3 < H.length) (hn_ca0_ca1 : ca0 ≠ ca1) (hn_ca2_ca1 : ca2 ≠ ca1) (hn_ca0_ca3 : ca0 ≠ ca3) (hn_ca1_ca3 : ca1 ≠ ca3) (hn_ca2_ca3 : ca2 ≠ ca3) (l : List Port) : ∀ k s r ρ H', (∃ J17, H' = ((H.set ca1 (.map (namesM s.2.1))).set ca3 (.map (namesM s.2.2))) ++ J17 ∧ ρ 1 = .func 93 [.ptr ca0 0, .ptr ca2 0] ∧ ρ 9 = .list (l.map encPort) ∧ ρ 10 = .int .i64 (l.length : Int) ∧ ρ 11 = .int .i64 (s.1 : Int)) → dh F l k s = some r → Lp X ⟨25, H.length :: bs⟩ (loopAt Tryz.f92 0) ρ H' ((fun r ex ρ H' => match r with | .a r => ∃ J17, H' = ((H.set ca1 (.map (namesM r.2.2.1))).set ca3 (.map (namesM r.2.2.2))) ++ J17 ∧ ex = .ret ∧ ρ 4 = .int .i64 (r.1 : Int) ∧ ρ 5 = .int .i64 r.2.1 | .b r => ∃ J17, H' = ((H.set ca1 (.map (namesM r.1))).set ca3 (.map (namesM r.2))) ++ J17 ∧ ex = .exit 0) r) := by
 refine ae (fun _ => rfl) ?_
 rintro k ⟨s14, s15, s16⟩ r ρ H' ⟨J17, hH, h1, h9, h10, h11⟩ hR
 simp only at hH h1 h9 h10 h11
 subst hH
 rw [dh] at hR
 have hca0_l := aa hca0
 have hca0_a := @ml H (h := hca0) (h1 := hn_ca0_ca1) (h2 := hn_ca0_ca3)
 have hca0_b := @jf H (h := hca0) (h1 := hn_ca0_ca1) (h2 := hn_ca0_ca3)
 have hca2_l := aa hca2
 have hca2_a := @ml H (h := hca2) (h1 := hn_ca2_ca1) (h2 := hn_ca2_ca3)
 have hca2_b := @jf H (h := hca2) (h1 := hn_ca2_ca1) (h2 := hn_ca2_ca3)
 have hca1_a := @ri H (h := hca1) (hn := hn_ca1_ca3)
 have hca1_b := @mO H (h := hca1) (hn := hn_ca1_ca3)
 have hca3_a := @rj H (m := ca1) (h := hca3)
 have hca3_b := @mP H (m := ca1) (h := hca3)
 have hca1_s := @rk H (h := hca1) (hn := hn_ca1_ca3)
 have hca1_t := @mQ H (hn := hn_ca1_ca3)
 have hca3_s := @rl H (m := ca1) (h := hca3)
 conv => arg 3; whnf
 try refine zw ?_
 rcases iteE hR with ⟨c18, hR⟩ | ⟨c18, hR⟩
 ·obtain ⟨x19, x19_e, hR⟩ := bindE hR
  obtain ⟨y20, y20_e, hR⟩ := bindE hR
  have y20_k := fun (bs : List Nat) (l : Heap) => by
   have h_ := ij bs (((H.set ca1 (.map (namesM s15))).set ca3 (.map (namesM s16))) ++ l) F ca0 ca1 ca2 ca3 s15 s16 gt ln gt ln om om om om om (s14 : Int) x19 y20 y20_e
   (try simp only [ax, an, aX, aJ, aM, az, List.set_cons_succ, List.set_cons_zero, List.set_set, aj, hca1_s, hca1_t, hca3_s] at h_)
   exact h_
  (try simp only [encInts, encPort] at y20_k)
  have y20_k0 := fun (bs : List Nat) => by
   have h_ := ij bs ((H.set ca1 (.map (namesM s15))).set ca3 (.map (namesM s16))) F ca0 ca1 ca2 ca3 s15 s16 gt ln gt ln om om om om om (s14 : Int) x19 y20 y20_e
   (try simp only [ax, an, aX, aJ, aM, az, List.set_cons_succ, List.set_cons_zero, List.set_set, aj, hca1_s, hca1_t, hca3_s] at h_)
   exact h_
  (try simp only [encInts, encPort] at y20_k0)
  try refine zw ?_
  clear y20_k y20_k0
  rcases iteE hR with ⟨c21, hR⟩ | ⟨c21, hR⟩
  ·obtain rfl := someE hR
   refine zu ?_
   exact ⟨_, hq, rfl, sl, sl⟩
  ·obtain ⟨g22, hR⟩ := grdE hR
   have g22_w := ac g22
   refine zu ?_
   exact ⟨((s14 + 1), y20.2.1, y20.2.2), ⟨_, hq, sl, sl, sl, sl⟩, hR.out⟩
 ·obtain rfl := someE hR
  refine zu ?_
  exact ⟨_, hq, rfl⟩
def eh (F : Nat) (l : List Port) : List Port → Nat → ((List ByteArray) × (List ByteArray)) → Option (Oc (Nat × Int × (List ByteArray) × (List ByteArray)) ((List ByteArray) × (List ByteArray)))
 | [], s14, (s15, s16) => some (.b (s15, s16))
 | x_ :: r_, s14, (s15, s16) => ((bM F s15 s16 (s14 : Int) x_).bind fun y20 => (if (decide (¬y20.1 = 0)) = true then some (.a (s14, y20.1, y20.2.1, y20.2.2)) else eh F l r_ (s14 + 1) (y20.2.1, y20.2.2)))
theorem kz (F : Nat) (l : List Port) (hl_ : l.length ≤ 1000000) : ∀ r_ i_ k_ (o_ : (List ByteArray) × (List ByteArray)), l.drop i_ = r_ → r_.length < k_ → dh F l k_ (i_, o_.1, o_.2) = eh F l r_ i_ o_
 | _, _, 0, _, _, hk => absurd hk (Nat.not_lt_zero _)
 | [], i_, k_ + 1, ⟨s15, s16⟩, hd, _ => by rw [dh, eh]; simp only [ai hd, Bool.false_eq_true, if_false]
 | x_ :: r_, i_, k_ + 1, ⟨s15, s16⟩, hd, hk => by
  have ih := fun o_ => kz F l hl_ r_ (i_ + 1) k_ o_ (ah hd) (Nat.lt_of_succ_lt_succ hk)
  simp only [Prod.forall] at ih
  rw [dh, eh]; simp only [aq hd, ak hd, if_pos (av hd hl_), Option.bind_some, if_true, ih]
def ik (F : Nat) (cv1 : List ByteArray) (cv3 : List ByteArray) (l : List Port) : Option (Int × Int × (List ByteArray) × (List ByteArray)) := ((dh F l F (0, cv1, cv3)).bind fun o23 => match o23 with | .a o24 => some ((o24.1 : Int), o24.2.1, o24.2.2.1, o24.2.2.2) | .b o26 => some (0, 0, o26.1, o26.2))
theorem nJ (bs : List Nat) (H : Heap) (F : Nat) (ca0 : Nat) (ca1 : Nat) (ca2 : Nat) (ca3 : Nat) (cv1 : List ByteArray) (cv3 : List ByteArray) (hca0 : H[ca0]? = some (.cells [.map ca1])) (hca1 : ca1 < H.length) (hca2 : H[ca2]? = some (.cells [.map ca3])) (hca3 : ca3 < H.length) (hn_ca0_ca1 : ca0 ≠ ca1) (hn_ca2_ca1 : ca2 ≠ ca1) (hn_ca0_ca3 : ca0 ≠ ca3) (hn_ca1_ca3 : ca1 ≠ ca3) (hn_ca2_ca3 : ca2 ≠ ca3) (l : List Port) (R : Int × Int × (List ByteArray) × (List ByteArray)) (hR0 : ik F cv1 cv3 l = some R) : callw X bs 92 [.list (l.map encPort), .func 93 [.ptr ca0 0, .ptr ca2 0]] ((H.set ca1 (.map (namesM cv1))).set ca3 (.map (namesM cv3))) = some (.tuple [.int .i64 R.1, .int .i64 R.2.1], ((H.set ca1 (.map (namesM R.2.2.1))).set ca3 (.map (namesM R.2.2.2)))) := by
 refine yw2 (rs := [.tmp 4, .tmp 5]) (N := 25) (fn := Tryz.f92) xk92 Tryz.func92 ?_
 simp only [List.length_set]
 have hca0_l := aa hca0
 have hca0_a := @ml H (h := hca0) (h1 := hn_ca0_ca1) (h2 := hn_ca0_ca3)
 have hca0_b := @jf H (h := hca0) (h1 := hn_ca0_ca1) (h2 := hn_ca0_ca3)
 have hca2_l := aa hca2
 have hca2_a := @ml H (h := hca2) (h1 := hn_ca2_ca1) (h2 := hn_ca2_ca3)
 have hca2_b := @jf H (h := hca2) (h1 := hn_ca2_ca1) (h2 := hn_ca2_ca3)
 have hca1_a := @ri H (h := hca1) (hn := hn_ca1_ca3)
 have hca1_b := @mO H (h := hca1) (hn := hn_ca1_ca3)
 have hca3_a := @rj H (m := ca1) (h := hca3)
 have hca3_b := @mP H (m := ca1) (h := hca3)
 have hca1_s := @rk H (h := hca1) (hn := hn_ca1_ca3)
 have hca1_t := @mQ H (hn := hn_ca1_ca3)
 have hca3_s := @rl H (m := ca1) (h := hca3)
 have hR := Kp.mk hR0
 clear hR0
 rw [ik] at hR
 obtain ⟨o23, o23_e, hR⟩ := bindE hR
 refine zu ?_
 refine ab (af (c := (loopAt Tryz.f92 0)) rfl (qE _ H F ca0 ca1 ca2 ca3 cv1 cv3 hca0 hca1 hca2 hca3 hn_ca0_ca1 hn_ca2_ca1 hn_ca0_ca3 hn_ca1_ca3 hn_ca2_ca3 l _ (0, cv1, cv3) o23 _ _ ⟨[], by simp, sl, sl, sl, sl⟩ o23_e)) ?_
 rcases o23 with o24 | o26
 ·rintro ex ρ' H' ⟨J25, rfl, rfl, q4_o24, q5_o24⟩ hf
  clear hf
  obtain rfl := someE hR
  exact zv
 ·rintro ex ρ' H' ⟨J27, rfl, rfl⟩ hf
  clear hf
  obtain rfl := someE hR
  exact zv
def fi (F : Nat) (cv0 : Desg) (cv2 : List ByteArray) (cv4 : List ByteArray) : Option (Int × Int × (List ByteArray) × (List ByteArray)) := ((ik F cv2 cv4 cv0.inputs).bind fun y1 => some (y1.1, y1.2.1, y1.2.2.1, y1.2.2.2))
theorem mV (bs : List Nat) (H : Heap) (F : Nat) (ca0 : Nat) (ca1 : Nat) (ca2 : Nat) (ca3 : Nat) (ca4 : Nat) (cv0 : Desg) (cv2 : List ByteArray) (cv4 : List ByteArray) (hca0 : H[ca0]? = some (.cells [.str cv0.name, .list (cv0.inputs.map encPort), .list (cv0.elements.map encElem), .list (cv0.nodes.map encNode), .list (cv0.rules.map encRul), .list (cv0.outs.map encOutp), .list (cv0.attrs.map encAttr)])) (hca1 : H[ca1]? = some (.cells [.map ca2])) (hca2 : ca2 < H.length) (hca3 : H[ca3]? = some (.cells [.map ca4])) (hca4 : ca4 < H.length) (hn_ca0_ca2 : ca0 ≠ ca2) (hn_ca1_ca2 : ca1 ≠ ca2) (hn_ca3_ca2 : ca3 ≠ ca2) (hn_ca0_ca4 : ca0 ≠ ca4) (hn_ca1_ca4 : ca1 ≠ ca4) (hn_ca2_ca4 : ca2 ≠ ca4) (hn_ca3_ca4 : ca3 ≠ ca4) (R : Int × Int × (List ByteArray) × (List ByteArray)) (hR0 : fi F cv0 cv2 cv4 = some R) : callw X bs 91 [.ptr ca0 0, .ptr ca1 0, .ptr ca3 0] ((H.set ca2 (.map (namesM cv2))).set ca4 (.map (namesM cv4))) = some (.tuple [.int .i64 R.1, .int .i64 R.2.1], ((H.set ca2 (.map (namesM R.2.2.1))).set ca4 (.map (namesM R.2.2.2)))) := by
 refine yw2 (rs := [.tmp 3, .tmp 4]) (N := 11) (fn := Tryz.f91) xk91 Tryz.func91 ?_
 simp only [List.length_set]
 have hca0_l := aa hca0
 have hca0_a := @ml H (h := hca0) (h1 := hn_ca0_ca2) (h2 := hn_ca0_ca4)
 have hca0_b := @jf H (h := hca0) (h1 := hn_ca0_ca2) (h2 := hn_ca0_ca4)
 have hca1_l := aa hca1
 have hca1_a := @ml H (h := hca1) (h1 := hn_ca1_ca2) (h2 := hn_ca1_ca4)
 have hca1_b := @jf H (h := hca1) (h1 := hn_ca1_ca2) (h2 := hn_ca1_ca4)
 have hca3_l := aa hca3
 have hca3_a := @ml H (h := hca3) (h1 := hn_ca3_ca2) (h2 := hn_ca3_ca4)
 have hca3_b := @jf H (h := hca3) (h1 := hn_ca3_ca2) (h2 := hn_ca3_ca4)
 have hca2_a := @ri H (h := hca2) (hn := hn_ca2_ca4)
 have hca2_b := @mO H (h := hca2) (hn := hn_ca2_ca4)
 have hca4_a := @rj H (m := ca2) (h := hca4)
 have hca4_b := @mP H (m := ca2) (h := hca4)
 have hca2_s := @rk H (h := hca2) (hn := hn_ca2_ca4)
 have hca2_t := @mQ H (hn := hn_ca2_ca4)
 have hca4_s := @rl H (m := ca2) (h := hca4)
 have hR := Kp.mk hR0
 clear hR0
 rw [fi] at hR
 obtain ⟨y1, y1_e, hR⟩ := bindE hR
 have y1_k := fun (bs : List Nat) (l : Heap) => by
  have h_ := nJ bs (((H.set ca2 (.map (namesM cv2))).set ca4 (.map (namesM cv4))) ++ l) F ca1 ca2 ca3 ca4 cv2 cv4 gt ln gt ln om om om om om cv0.inputs y1 y1_e
  (try simp only [ax, an, aX, aJ, aM, az, List.set_cons_succ, List.set_cons_zero, List.set_set, aj, hca2_s, hca2_t, hca4_s] at h_)
  exact h_
 have y1_k0 := fun (bs : List Nat) => by
  have h_ := nJ bs ((H.set ca2 (.map (namesM cv2))).set ca4 (.map (namesM cv4))) F ca1 ca2 ca3 ca4 cv2 cv4 gt ln gt ln om om om om om cv0.inputs y1 y1_e
  (try simp only [ax, an, aX, aJ, aM, az, List.set_cons_succ, List.set_cons_zero, List.set_set, aj, hca2_s, hca2_t, hca4_s] at h_)
  exact h_
 obtain rfl := someE hR
 exact zv
def fj (F : Nat) (cv0 : Desg) : Option (Int × Int) := (if inI ((cv0.inputs.length : Int) + (cv0.elements.length : Int)) then (if (decide (((cv0.inputs.length : Int) + (cv0.elements.length : Int)) ≤ 40)) = true then some (0, 0) else some (0, 8)) else none)
theorem mW (bs : List Nat) (H : Heap) (F : Nat) (ca0 : Nat) (cv0 : Desg) (hca0 : H[ca0]? = some (.cells [.str cv0.name, .list (cv0.inputs.map encPort), .list (cv0.elements.map encElem), .list (cv0.nodes.map encNode), .list (cv0.rules.map encRul), .list (cv0.outs.map encOutp), .list (cv0.attrs.map encAttr)])) (R : Int × Int) (hR0 : fj F cv0 = some R) : callw X bs 96 [.ptr ca0 0] H = some (.tuple [.int .i64 R.1, .int .i64 R.2], H) := by
 refine yw2 (rs := [.tmp 1, .tmp 2]) (N := 12) (fn := Tryz.f96) xk96 Tryz.func96 ?_
 have hca0_l := aa hca0
 have hca0_a := get_app' hca0
 have hR := Kp.mk hR0
 clear hR0
 rw [fj] at hR
 obtain ⟨g1, hR⟩ := grdE hR
 have g1_w := ac g1
 rcases iteE hR with ⟨c2, hR⟩ | ⟨c2, hR⟩
 ·obtain rfl := someE hR
  exact zv
 ·obtain rfl := someE hR
  exact zv
def bN (F : Nat) (cv1 : List ByteArray) (a0_ : Int) (x : Elem) : Option (Int × (List ByteArray)) := (if x.name.size ≤ 1000000 then (if (decide ((0 : Int) ≤ x.kind) && decide (x.kind ≤ 1)) = true then ((dY F x.width).bind fun y4 => (if y4 = true then (if (decide (¬(nameErr cv1 x.name) = 0)) = true then some ((nameErr cv1 x.name), (addName x.name cv1)) else (if (decide (0 ≤ x.width) && fitsN x.init x.width) = true then (if (decide ((0 : Int) ≤ x.clk) && decide (x.clk ≤ 3)) = true then some (0, (addName x.name cv1)) else some (2, (addName x.name cv1))) else some (2, (addName x.name cv1)))) else (if (decide (¬(nameErr cv1 x.name) = 0)) = true then some ((nameErr cv1 x.name), (addName x.name cv1)) else some (2, (addName x.name cv1))))) else ((dY F x.width).bind fun y11 => (if y11 = true then (if (decide (¬(nameErr cv1 x.name) = 0)) = true then some ((nameErr cv1 x.name), (addName x.name cv1)) else some (15, (addName x.name cv1))) else (if (decide (¬(nameErr cv1 x.name) = 0)) = true then some ((nameErr cv1 x.name), (addName x.name cv1)) else some (15, (addName x.name cv1)))))) else none)
theorem il (bs : List Nat) (H : Heap) (F : Nat) (ca0 : Nat) (ca1 : Nat) (cv1 : List ByteArray) (hca0 : H[ca0]? = some (.cells [.map ca1])) (hca1 : ca1 < H.length) (hn_ca0_ca1 : ca0 ≠ ca1) (a0_ : Int) (x : Elem) (R : Int × (List ByteArray)) (hR0 : bN F cv1 a0_ x = some R) : callw X bs 99 [.int .i64 a0_, (encElem x), .ptr ca0 0] (H.set ca1 (.map (namesM cv1))) = some (.int .i64 R.1, (H.set ca1 (.map (namesM R.2)))) := by
 refine yw2 (rs := [.tmp 5]) (N := 35) (fn := Tryz.f99) xk99 Tryz.func99 ?_
 simp only [List.length_set]
 have hca0_l := aa hca0
 have hca0_a := @fg H (h := hca0) (hn := hn_ca0_ca1)
 have hca0_b := @cN H (h := hca0) (hn := hn_ca0_ca1)
 have hca1_a := @gr H (h := hca1)
 have hca1_b := @ef H (h := hca1)
 have hca1_s := @gc H (h := hca1)
 have hR := Kp.mk hR0
 clear hR0
 rw [bN] at hR
 (try simp only [cellsElem, encElem, encInts])
 obtain ⟨g1, hR⟩ := grdE hR
 have k2_k := fun (bs : List Nat) (l : Heap) => by
  have h_ := bU bs ((H.set ca1 (.map (namesM cv1))) ++ l) ca1 cv1 x.name g1 gt
  (try simp only [ax, an, aX, aJ, aM, az, List.set_cons_succ, List.set_cons_zero, List.set_set, aj, hca1_s] at h_)
  exact h_
 have k2_k0 := fun (bs : List Nat) => by
  have h_ := bU bs (H.set ca1 (.map (namesM cv1))) ca1 cv1 x.name g1 gt
  (try simp only [ax, an, aX, aJ, aM, az, List.set_cons_succ, List.set_cons_zero, List.set_set, aj, hca1_s] at h_)
  exact h_
 rcases iteE hR with ⟨c3, hR⟩ | ⟨c3, hR⟩
 ·obtain ⟨c3_1, c3_2⟩ := ed c3
  obtain ⟨y4, y4_e, hR⟩ := bindE hR
  have y4_k := fun bs H => iI bs H F x.width y4 y4_e
  rcases iteE hR with ⟨c5, hR⟩ | ⟨c5, hR⟩
  ·rcases iteE hR with ⟨c6, hR⟩ | ⟨c6, hR⟩
   ·have c6_p := of_decide_eq_true c6
    obtain rfl := someE hR
    try refine zu ?_
    (refine yw1 (id := 1) oz24 oz25 ?_)
    exact zv
   ·have c6_p := Decidable.not_not.1 (of_decide_eq_false c6)
    have k7_k := fun bs H => ub bs H x.init x.width
    try refine zu ?_
    (refine yw1 (id := 1) oz24 oz25 ?_)
    try refine zw ?_
    clear k2_k k2_k0 y4_k k7_k
    rcases iteE hR with ⟨c8, hR⟩ | ⟨c8, hR⟩
    ·obtain ⟨c8_1, c8_2⟩ := ed c8
     rcases iteE hR with ⟨c9, hR⟩ | ⟨c9, hR⟩
     ·obtain ⟨c9_1, c9_2⟩ := ed c9
      obtain rfl := someE hR
      exact zv
     ·obtain rfl := someE hR
      exact zv
    ·obtain rfl := someE hR
     exact zv
  ·rcases iteE hR with ⟨c10, hR⟩ | ⟨c10, hR⟩
   ·have c10_p := of_decide_eq_true c10
    obtain rfl := someE hR
    try refine zu ?_
    (refine yw1 (id := 1) oz24 oz25 ?_)
    exact zv
   ·have c10_p := Decidable.not_not.1 (of_decide_eq_false c10)
    obtain rfl := someE hR
    try refine zu ?_
    (refine yw1 (id := 1) oz24 oz25 ?_)
    exact zv
 ·obtain ⟨y11, y11_e, hR⟩ := bindE hR
  have y11_k := fun bs H => iI bs H F x.width y11 y11_e
  rcases iteE hR with ⟨c12, hR⟩ | ⟨c12, hR⟩
  ·rcases iteE hR with ⟨c13, hR⟩ | ⟨c13, hR⟩
   ·have c13_p := of_decide_eq_true c13
    obtain rfl := someE hR
    try refine zu ?_
    (refine yw1 (id := 1) oz24 oz25 ?_)
    exact zv
   ·have c13_p := Decidable.not_not.1 (of_decide_eq_false c13)
    obtain rfl := someE hR
    try refine zu ?_
    (refine yw1 (id := 1) oz24 oz25 ?_)
    exact zv
  ·rcases iteE hR with ⟨c14, hR⟩ | ⟨c14, hR⟩
   ·have c14_p := of_decide_eq_true c14
    obtain rfl := someE hR
    try refine zu ?_
    (refine yw1 (id := 1) oz24 oz25 ?_)
    exact zv
   ·have c14_p := Decidable.not_not.1 (of_decide_eq_false c14)
    obtain rfl := someE hR
    try refine zu ?_
    (refine yw1 (id := 1) oz24 oz25 ?_)
    exact zv
def bV (F : Nat) (l : List Elem) : Nat → (Nat × (List ByteArray)) → Option (Oc (Nat × Int × (List ByteArray)) ((List ByteArray)))
 | 0, _ => none
 | k + 1, (s7, s8) => (if (decide ((s7 : Int) < (l.length : Int))) = true then ((l[s7]?).bind fun x11 => ((bN F s8 (s7 : Int) x11).bind fun y12 => (if (decide (¬y12.1 = 0)) = true then some (.a (s7, y12.1, y12.2)) else (if inI ((s7 : Int) + 1) then bV F l k ((s7 + 1), y12.2) else none)))) else some (.b s8))
theorem pu (bs : List Nat) (H : Heap) (F : Nat) (ca0 : Nat) (ca1 : Nat) (cv1 : List ByteArray) (hca0 : H[ca0]? = some (.cells [.map ca1])) (hca1 : ca1 < H.length) (hn_ca0_ca1 : ca0 ≠ ca1) (l : List Elem) : ∀ k s r ρ H', (∃ J9, H' = (H.set ca1 (.map (namesM s.2))) ++ J9 ∧ ρ 1 = .func 99 [.ptr ca0 0] ∧ ρ 9 = .list (l.map encElem) ∧ ρ 10 = .int .i64 (l.length : Int) ∧ ρ 11 = .int .i64 (s.1 : Int)) → bV F l k s = some r → Lp X ⟨25, H.length :: bs⟩ (loopAt Tryz.f98 0) ρ H' ((fun r ex ρ H' => match r with | .a r => ∃ J9, H' = (H.set ca1 (.map (namesM r.2.2))) ++ J9 ∧ ex = .ret ∧ ρ 4 = .int .i64 (r.1 : Int) ∧ ρ 5 = .int .i64 r.2.1 | .b r => ∃ J9, H' = (H.set ca1 (.map (namesM r))) ++ J9 ∧ ex = .exit 0) r) := by
 refine ae (fun _ => rfl) ?_
 rintro k ⟨s7, s8⟩ r ρ H' ⟨J9, hH, h1, h9, h10, h11⟩ hR
 simp only at hH h1 h9 h10 h11
 subst hH
 rw [bV] at hR
 have hca0_l := aa hca0
 have hca0_a := @fg H (h := hca0) (hn := hn_ca0_ca1)
 have hca0_b := @cN H (h := hca0) (hn := hn_ca0_ca1)
 have hca1_a := @gr H (h := hca1)
 have hca1_b := @ef H (h := hca1)
 have hca1_s := @gc H (h := hca1)
 conv => arg 3; whnf
 try refine zw ?_
 rcases iteE hR with ⟨c10, hR⟩ | ⟨c10, hR⟩
 ·obtain ⟨x11, x11_e, hR⟩ := bindE hR
  obtain ⟨y12, y12_e, hR⟩ := bindE hR
  have y12_k := fun (bs : List Nat) (l : Heap) => by
   have h_ := il bs ((H.set ca1 (.map (namesM s8))) ++ l) F ca0 ca1 s8 gt ln om (s7 : Int) x11 y12 y12_e
   (try simp only [ax, an, aX, aJ, aM, az, List.set_cons_succ, List.set_cons_zero, List.set_set, aj, hca1_s] at h_)
   exact h_
  (try simp only [cellsElem, encElem, encInts] at y12_k)
  have y12_k0 := fun (bs : List Nat) => by
   have h_ := il bs (H.set ca1 (.map (namesM s8))) F ca0 ca1 s8 gt ln om (s7 : Int) x11 y12 y12_e
   (try simp only [ax, an, aX, aJ, aM, az, List.set_cons_succ, List.set_cons_zero, List.set_set, aj, hca1_s] at h_)
   exact h_
  (try simp only [cellsElem, encElem, encInts] at y12_k0)
  try refine zw ?_
  clear y12_k y12_k0
  rcases iteE hR with ⟨c13, hR⟩ | ⟨c13, hR⟩
  ·obtain rfl := someE hR
   refine zu ?_
   exact ⟨_, hq, rfl, sl, sl⟩
  ·obtain ⟨g14, hR⟩ := grdE hR
   have g14_w := ac g14
   refine zu ?_
   exact ⟨((s7 + 1), y12.2), ⟨_, hq, sl, sl, sl, sl⟩, hR.out⟩
 ·obtain rfl := someE hR
  refine zu ?_
  exact ⟨_, hq, rfl⟩
def dp (F : Nat) (l : List Elem) : List Elem → Nat → (List ByteArray) → Option (Oc (Nat × Int × (List ByteArray)) ((List ByteArray)))
 | [], s7, s8 => some (.b s8)
 | x_ :: r_, s7, s8 => ((bN F s8 (s7 : Int) x_).bind fun y12 => (if (decide (¬y12.1 = 0)) = true then some (.a (s7, y12.1, y12.2)) else dp F l r_ (s7 + 1) y12.2))
theorem jH (F : Nat) (l : List Elem) (hl_ : l.length ≤ 1000000) : ∀ r_ i_ k_ (o_ : (List ByteArray)), l.drop i_ = r_ → r_.length < k_ → bV F l k_ (i_, o_) = dp F l r_ i_ o_
 | _, _, 0, _, _, hk => absurd hk (Nat.not_lt_zero _)
 | [], i_, k_ + 1, s8, hd, _ => by rw [bV, dp]; simp only [ai hd, Bool.false_eq_true, if_false]
 | x_ :: r_, i_, k_ + 1, s8, hd, hk => by
  have ih := fun o_ => jH F l hl_ r_ (i_ + 1) k_ o_ (ah hd) (Nat.lt_of_succ_lt_succ hk)
  rw [bV, dp]; simp only [aq hd, ak hd, if_pos (av hd hl_), Option.bind_some, if_true, ih]
def gu (F : Nat) (cv1 : List ByteArray) (l : List Elem) : Option (Int × Int × (List ByteArray)) := ((bV F l F (0, cv1)).bind fun o15 => match o15 with | .a o16 => some ((o16.1 : Int), o16.2.1, o16.2.2) | .b o18 => some (0, 0, o18))
theorem lK (bs : List Nat) (H : Heap) (F : Nat) (ca0 : Nat) (ca1 : Nat) (cv1 : List ByteArray) (hca0 : H[ca0]? = some (.cells [.map ca1])) (hca1 : ca1 < H.length) (hn_ca0_ca1 : ca0 ≠ ca1) (l : List Elem) (R : Int × Int × (List ByteArray)) (hR0 : gu F cv1 l = some R) : callw X bs 98 [.list (l.map encElem), .func 99 [.ptr ca0 0]] (H.set ca1 (.map (namesM cv1))) = some (.tuple [.int .i64 R.1, .int .i64 R.2.1], (H.set ca1 (.map (namesM R.2.2)))) := by
 refine yw2 (rs := [.tmp 4, .tmp 5]) (N := 25) (fn := Tryz.f98) xk98 Tryz.func98 ?_
 simp only [List.length_set]
 have hca0_l := aa hca0
 have hca0_a := @fg H (h := hca0) (hn := hn_ca0_ca1)
 have hca0_b := @cN H (h := hca0) (hn := hn_ca0_ca1)
 have hca1_a := @gr H (h := hca1)
 have hca1_b := @ef H (h := hca1)
 have hca1_s := @gc H (h := hca1)
 have hR := Kp.mk hR0
 clear hR0
 rw [gu] at hR
 obtain ⟨o15, o15_e, hR⟩ := bindE hR
 refine zu ?_
 refine ab (af (c := (loopAt Tryz.f98 0)) rfl (pu _ H F ca0 ca1 cv1 hca0 hca1 hn_ca0_ca1 l _ (0, cv1) o15 _ _ ⟨[], by simp, sl, sl, sl, sl⟩ o15_e)) ?_
 rcases o15 with o16 | o18
 ·rintro ex ρ' H' ⟨J17, rfl, rfl, q4_o16, q5_o16⟩ hf
  clear hf
  obtain rfl := someE hR
  exact zv
 ·rintro ex ρ' H' ⟨J19, rfl, rfl⟩ hf
  clear hf
  obtain rfl := someE hR
  exact zv
def fk (F : Nat) (cv0 : Desg) (cv2 : List ByteArray) : Option (Int × Int × (List ByteArray)) := ((gu F cv2 cv0.elements).bind fun y1 => some (y1.1, y1.2.1, y1.2.2))
theorem mX (bs : List Nat) (H : Heap) (F : Nat) (ca0 : Nat) (ca1 : Nat) (ca2 : Nat) (cv0 : Desg) (cv2 : List ByteArray) (hca0 : H[ca0]? = some (.cells [.str cv0.name, .list (cv0.inputs.map encPort), .list (cv0.elements.map encElem), .list (cv0.nodes.map encNode), .list (cv0.rules.map encRul), .list (cv0.outs.map encOutp), .list (cv0.attrs.map encAttr)])) (hca1 : H[ca1]? = some (.cells [.map ca2])) (hca2 : ca2 < H.length) (hn_ca0_ca2 : ca0 ≠ ca2) (hn_ca1_ca2 : ca1 ≠ ca2) (R : Int × Int × (List ByteArray)) (hR0 : fk F cv0 cv2 = some R) : callw X bs 97 [.ptr ca0 0, .ptr ca1 0] (H.set ca2 (.map (namesM cv2))) = some (.tuple [.int .i64 R.1, .int .i64 R.2.1], (H.set ca2 (.map (namesM R.2.2)))) := by
 refine yw2 (rs := [.tmp 2, .tmp 3]) (N := 10) (fn := Tryz.f97) xk97 Tryz.func97 ?_
 simp only [List.length_set]
 have hca0_l := aa hca0
 have hca0_a := @fg H (h := hca0) (hn := hn_ca0_ca2)
 have hca0_b := @cN H (h := hca0) (hn := hn_ca0_ca2)
 have hca1_l := aa hca1
 have hca1_a := @fg H (h := hca1) (hn := hn_ca1_ca2)
 have hca1_b := @cN H (h := hca1) (hn := hn_ca1_ca2)
 have hca2_a := @gr H (h := hca2)
 have hca2_b := @ef H (h := hca2)
 have hca2_s := @gc H (h := hca2)
 have hR := Kp.mk hR0
 clear hR0
 rw [fk] at hR
 obtain ⟨y1, y1_e, hR⟩ := bindE hR
 have y1_k := fun (bs : List Nat) (l : Heap) => by
  have h_ := lK bs ((H.set ca2 (.map (namesM cv2))) ++ l) F ca1 ca2 cv2 gt ln om cv0.elements y1 y1_e
  (try simp only [ax, an, aX, aJ, aM, az, List.set_cons_succ, List.set_cons_zero, List.set_set, aj, hca2_s] at h_)
  exact h_
 have y1_k0 := fun (bs : List Nat) => by
  have h_ := lK bs (H.set ca2 (.map (namesM cv2))) F ca1 ca2 cv2 gt ln om cv0.elements y1 y1_e
  (try simp only [ax, an, aX, aJ, aM, az, List.set_cons_succ, List.set_cons_zero, List.set_set, aj, hca2_s] at h_)
  exact h_
 obtain rfl := someE hR
 exact zv
def bW (F : Nat) (d : Desg) : Nat → ((List Int) × Nat) → Option ((List Int))
 | 0, _ => none
 | k + 1, (s8, s9) => (if (decide ((s9 : Int) < (d.inputs.length : Int))) = true then ((d.inputs[s9]?).bind fun x12 => (if (s8.length + 1) ≤ 1000000 then (if inI ((s9 : Int) + 1) then bW F d k ((s8 ++ [x12.width]), (s9 + 1)) else none) else none)) else some s8)
theorem pv (bs : List Nat) (H : Heap) (F : Nat) (d : Desg) : ∀ k s r ρ H', (∃ J10, H' = H ++ .cells [.str d.name, .list (d.inputs.map encPort), .list (d.elements.map encElem), .list (d.nodes.map encNode), .list (d.rules.map encRul), .list (d.outs.map encOutp), .list (d.attrs.map encAttr)] :: .tok 0 :: .tok s.1.length :: J10 ∧ ρ 1 = .ptr H.length 0 ∧ ρ 3 = .tl (H.length + 2) (s.1.map (V.int .i64)) ∧ ρ 9 = .list (d.inputs.map encPort) ∧ ρ 10 = .int .i64 (d.inputs.length : Int) ∧ ρ 11 = .int .i64 (s.2 : Int)) → bW F d k s = some r → Lp X ⟨35, H.length :: bs⟩ (loopAt Tryz.f104 0) ρ H' ((fun r ex ρ H' => ∃ J10, H' = H ++ .cells [.str d.name, .list (d.inputs.map encPort), .list (d.elements.map encElem), .list (d.nodes.map encNode), .list (d.rules.map encRul), .list (d.outs.map encOutp), .list (d.attrs.map encAttr)] :: .tok 0 :: .tok r.length :: J10 ∧ ex = .exit 0 ∧ ρ 3 = .tl (H.length + 2) (r.map (V.int .i64))) r) := by
 refine ae (fun _ => rfl) ?_
 rintro k ⟨s8, s9⟩ r ρ H' ⟨J10, hH, h1, h3, h9, h10, h11⟩ hR
 simp only at hH h1 h3 h9 h10 h11
 subst hH
 rw [bW] at hR
 conv => arg 3; whnf
 try refine zw ?_
 rcases iteE hR with ⟨c11, hR⟩ | ⟨c11, hR⟩
 ·obtain ⟨x12, x12_e, hR⟩ := bindE hR
  obtain ⟨g13, hR⟩ := grdE hR
  have g13_r := ka (n := (s8.length + 1)) (k := 8) g13 (by omega)
  obtain ⟨g14, hR⟩ := grdE hR
  have g14_w := ac g14
  refine zu ?_
  exact ⟨((s8 ++ [x12.width]), (s9 + 1)), ⟨_, hq, sl, sl, sl, sl, sl⟩, hR.out⟩
 ·obtain rfl := someE hR
  refine zu ?_
  exact ⟨_, hq, rfl, sl⟩
def cj (F : Nat) (d : Desg) : List Port → Nat → (List Int) → Option ((List Int))
 | [], s9, s8 => some s8
 | x_ :: r_, s9, s8 => (if (s8.length + 1) ≤ 1000000 then cj F d r_ (s9 + 1) (s8 ++ [x_.width]) else none)
theorem jI (F : Nat) (d : Desg) (hl_ : d.inputs.length ≤ 1000000) : ∀ r_ i_ k_ (o_ : (List Int)), d.inputs.drop i_ = r_ → r_.length < k_ → bW F d k_ (o_, i_) = cj F d r_ i_ o_
 | _, _, 0, _, _, hk => absurd hk (Nat.not_lt_zero _)
 | [], i_, k_ + 1, s8, hd, _ => by rw [bW, cj]; simp only [ai hd, Bool.false_eq_true, if_false]
 | x_ :: r_, i_, k_ + 1, s8, hd, hk => by
  have ih := fun o_ => jI F d hl_ r_ (i_ + 1) k_ o_ (ah hd) (Nat.lt_of_succ_lt_succ hk)
  rw [bW, cj]; simp only [aq hd, ak hd, if_pos (av hd hl_), Option.bind_some, if_true, ih]
def bX (F : Nat) (d : Desg) : Nat → ((List Int) × Nat) → Option ((List Int))
 | 0, _ => none
 | k + 1, (s26, s27) => (if (decide ((s27 : Int) < (d.elements.length : Int))) = true then ((d.elements[s27]?).bind fun x31 => (if (s26.length + 1) ≤ 1000000 then (if inI ((s27 : Int) + 1) then bX F d k ((s26 ++ [x31.width]), (s27 + 1)) else none) else none)) else some s26)
theorem px (bs : List Nat) (H : Heap) (F : Nat) (d : Desg) (a28 : HObj) : ∀ k s r ρ H', (∃ J29, H' = H ++ a28 :: .tok 0 :: .tok s.1.length :: J29 ∧ ρ 3 = .tl (H.length + 2) (s.1.map (V.int .i64)) ∧ ρ 22 = .list (d.elements.map encElem) ∧ ρ 23 = .int .i64 (d.elements.length : Int) ∧ ρ 24 = .int .i64 (s.2 : Int)) → bX F d k s = some r → Lp X ⟨35, H.length :: bs⟩ (loopAt Tryz.f104 1) ρ H' ((fun r ex ρ H' => ∃ J29, H' = H ++ a28 :: .tok 0 :: .tok r.length :: J29 ∧ ex = .exit 2 ∧ ρ 3 = .tl (H.length + 2) (r.map (V.int .i64))) r) := by
 refine ae (fun _ => rfl) ?_
 rintro k ⟨s26, s27⟩ r ρ H' ⟨J29, hH, h3, h22, h23, h24⟩ hR
 simp only at hH h3 h22 h23 h24
 subst hH
 rw [bX] at hR
 conv => arg 3; whnf
 try refine zw ?_
 rcases iteE hR with ⟨c30, hR⟩ | ⟨c30, hR⟩
 ·obtain ⟨x31, x31_e, hR⟩ := bindE hR
  obtain ⟨g32, hR⟩ := grdE hR
  have g32_r := ka (n := (s26.length + 1)) (k := 8) g32 (by omega)
  obtain ⟨g33, hR⟩ := grdE hR
  have g33_w := ac g33
  refine zu ?_
  exact ⟨((s26 ++ [x31.width]), (s27 + 1)), ⟨_, hq, sl, sl, sl, sl⟩, hR.out⟩
 ·obtain rfl := someE hR
  refine zu ?_
  exact ⟨_, hq, rfl, sl⟩
def ck (F : Nat) (d : Desg) : List Elem → Nat → (List Int) → Option ((List Int))
 | [], s27, s26 => some s26
 | x_ :: r_, s27, s26 => (if (s26.length + 1) ≤ 1000000 then ck F d r_ (s27 + 1) (s26 ++ [x_.width]) else none)
theorem jJ (F : Nat) (d : Desg) (hl_ : d.elements.length ≤ 1000000) : ∀ r_ i_ k_ (o_ : (List Int)), d.elements.drop i_ = r_ → r_.length < k_ → bX F d k_ (o_, i_) = ck F d r_ i_ o_
 | _, _, 0, _, _, hk => absurd hk (Nat.not_lt_zero _)
 | [], i_, k_ + 1, s26, hd, _ => by rw [bX, ck]; simp only [ai hd, Bool.false_eq_true, if_false]
 | x_ :: r_, i_, k_ + 1, s26, hd, hk => by
  have ih := fun o_ => jJ F d hl_ r_ (i_ + 1) k_ o_ (ah hd) (Nat.lt_of_succ_lt_succ hk)
  rw [bX, ck]; simp only [aq hd, ak hd, if_pos (av hd hl_), Option.bind_some, if_true, ih]
def fE (F : Nat) (d : Desg) : Option ((List Int)) := ((bW F d F ([], 0)).bind fun o16 => ((bX F d F (o16, 0)).bind fun o35 => some o35))
theorem lL (bs : List Nat) (H : Heap) (F : Nat) (d : Desg) (R : (List Int)) (hR0 : fE F d = some R) : callw X bs 104 [(encDesg d)] H = some (.list (R.map (V.int .i64)), H) := by
 refine yw2 (rs := [.tmp 2]) (N := 35) (fn := Tryz.f104) CP Tryz.func104 ?_
 have hR := Kp.mk hR0
 clear hR0
 rw [fE] at hR
 (try simp only [cellsDesg, encDesg, encInts])
 obtain ⟨o16, o16_e, hR⟩ := bindE hR
 refine zu ?_
 refine ab (af (c := (loopAt Tryz.f104 0)) rfl (pv _ H F d _ ([], 0) o16 _ _ ⟨_, hq, sl, sl, sl, sl, sl⟩ o16_e)) ?_
 rintro ex ρ' H' ⟨J17, rfl, rfl, q3_o16⟩ hf
 have q1_o16 : ρ' 1 = .ptr H.length 0 := (hf 1 rfl).trans (sl)
 clear hf
 obtain ⟨o35, o35_e, hR⟩ := bindE hR
 refine zu ?_
 refine ab (af (c := (loopAt Tryz.f104 1)) rfl (px _ H F d _ _ (o16, 0) o35 _ _ ⟨_, hq, sl, sl, sl, sl⟩ o35_e)) ?_
 rintro ex ρ' H' ⟨J36, rfl, rfl, q3_o35⟩ hf
 clear hf
 obtain rfl := someE hR
 exact zv
def fl (F : Nat) (cv0 : Desg) : Option (Int × Int) := ((fE F cv0).bind fun y1 => (if y1.length ≤ 1000000 then (if cv0.nodes.length ≤ 1000000 then (if ∀ x ∈ cv0.nodes, x.args.length ≤ 1000000 then some ((checkNodesS y1 cv0.nodes).1, (checkNodesS y1 cv0.nodes).2) else none) else none) else none))
theorem mY (bs : List Nat) (H : Heap) (F : Nat) (ca0 : Nat) (cv0 : Desg) (hca0 : H[ca0]? = some (.cells [.str cv0.name, .list (cv0.inputs.map encPort), .list (cv0.elements.map encElem), .list (cv0.nodes.map encNode), .list (cv0.rules.map encRul), .list (cv0.outs.map encOutp), .list (cv0.attrs.map encAttr)])) (R : Int × Int) (hR0 : fl F cv0 = some R) : callw X bs 102 [.ptr ca0 0] H = some (.tuple [.int .i64 R.1, .int .i64 R.2], H) := by
 refine yw2 (rs := [.tmp 1, .tmp 2]) (N := 10) (fn := Tryz.f102) CN Tryz.func102 ?_
 have hca0_l := aa hca0
 have hca0_a := get_app' hca0
 have hR := Kp.mk hR0
 clear hR0
 rw [fl] at hR
 obtain ⟨y1, y1_e, hR⟩ := bindE hR
 have y1_k := fun bs H => lL bs H F cv0 y1 y1_e
 (try simp only [cellsDesg, encDesg, encInts] at y1_k)
 obtain ⟨g2, hR⟩ := grdE hR
 obtain ⟨g3, hR⟩ := grdE hR
 obtain ⟨g4, hR⟩ := grdE hR
 have k5_k := fun bs H => pZ bs H y1 cv0.nodes g2 g3 g4
 obtain rfl := someE hR
 try refine zu ?_
 (refine yw1 (id := 1) [0, 2, 3, 1, 4, 5, 6, 7, 8] [(2, 3)] ?_)
 exact zv
def fm (F : Nat) (cv0 : Desg) : Option (Int × Int) := (if (decide ((cv0.rules.length : Int) ≤ 16)) = true then some (0, 0) else some (0, 8))
theorem mZ (bs : List Nat) (H : Heap) (F : Nat) (ca0 : Nat) (cv0 : Desg) (hca0 : H[ca0]? = some (.cells [.str cv0.name, .list (cv0.inputs.map encPort), .list (cv0.elements.map encElem), .list (cv0.nodes.map encNode), .list (cv0.rules.map encRul), .list (cv0.outs.map encOutp), .list (cv0.attrs.map encAttr)])) (R : Int × Int) (hR0 : fm F cv0 = some R) : callw X bs 105 [.ptr ca0 0] H = some (.tuple [.int .i64 R.1, .int .i64 R.2], H) := by
 refine yw2 (rs := [.tmp 1, .tmp 2]) (N := 8) (fn := Tryz.f105) CQ Tryz.func105 ?_
 have hca0_l := aa hca0
 have hca0_a := get_app' hca0
 have hR := Kp.mk hR0
 clear hR0
 rw [fm] at hR
 rcases iteE hR with ⟨c1, hR⟩ | ⟨c1, hR⟩
 ·obtain rfl := someE hR
  exact zv
 ·obtain rfl := someE hR
  exact zv
def dK (F : Nat) (d : Desg) (n : Int) : Option (Bool) := (if inI ((d.nodes.length : Int) - 1) then some (decide ((0 : Int) ≤ n) && decide (n ≤ ((d.nodes.length : Int) - 1))) else none)
theorem gG (bs : List Nat) (H : Heap) (F : Nat) (d : Desg) (n : Int) (R : Bool) (hR0 : dK F d n = some R) : callw X bs 116 [(encDesg d), .int .i64 n] H = some (.bool R, H) := by
 refine yw2 (rs := [.tmp 4]) (N := 11) (fn := Tryz.f116) C1 Tryz.func116 ?_
 have hR := Kp.mk hR0
 clear hR0
 rw [dK] at hR
 (try simp only [cellsDesg, encDesg, encInts])
 obtain ⟨g1, hR⟩ := grdE hR
 have g1_w := ac g1
 obtain rfl := someE hR
 exact zv
def aY (F : Nat) (d : Desg) (n : Int) : Option (Bool) := ((dK F d n).bind fun y1 => (if y1 = true then ((idxI d.nodes n).bind fun x3 => some (decide (x3.width = 1))) else some false))
theorem fp (bs : List Nat) (H : Heap) (F : Nat) (d : Desg) (n : Int) (R : Bool) (hR0 : aY F d n = some R) : callw X bs 80 [(encDesg d), .int .i64 n] H = some (.bool R, H) := by
 refine yw2 (rs := [.tmp 4]) (N := 17) (fn := Tryz.f80) xk80 Tryz.func80 ?_
 have hR := Kp.mk hR0
 clear hR0
 rw [aY] at hR
 (try simp only [cellsDesg, encDesg, encInts])
 obtain ⟨y1, y1_e, hR⟩ := bindE hR
 have y1_k := fun bs H => gG bs H F d n y1 y1_e
 (try simp only [cellsDesg, encDesg, encInts] at y1_k)
 try refine zw ?_
 clear y1_k
 rcases iteE hR with ⟨c2, hR⟩ | ⟨c2, hR⟩
 ·obtain ⟨x3, x3_e, hR⟩ := bindE hR
  obtain ⟨x3_p, x3_e⟩ := idxE x3_e
  obtain rfl := someE hR
  exact zv
 ·obtain rfl := someE hR
  exact zv
def fL (F : Nat) (d : Desg) (w : Wri) : Option (Int) := (if inI ((d.elements.length : Int) - 1) then (if (decide ((0 : Int) ≤ w.element) && decide (w.element ≤ ((d.elements.length : Int) - 1))) = true then ((aY F d w.cond).bind fun y3 => (if y3 = true then ((dK F d w.value).bind fun y5 => (if y5 = true then ((idxI d.nodes w.value).bind fun x7 => ((idxI d.elements w.element).bind fun x8 => (if (decide (x7.width = x8.width)) = true then some 0 else some 25))) else some 9)) else some 9)) else ((aY F d w.cond).bind fun y10 => (if y10 = true then ((dK F d w.value).bind fun y12 => (if y12 = true then some 6 else some 6)) else some 6))) else none)
theorem qb (bs : List Nat) (H : Heap) (F : Nat) (d : Desg) (w : Wri) (R : Int) (hR0 : fL F d w = some R) : callw X bs 111 [(encDesg d), (encWri w)] H = some (.int .i64 R, H) := by
 refine yw2 (rs := [.tmp 4]) (N := 46) (fn := Tryz.f111) CW Tryz.func111 ?_
 have hR := Kp.mk hR0
 clear hR0
 rw [fL] at hR
 (try simp only [cellsDesg, cellsWri, encDesg, encInts, encWri])
 obtain ⟨g1, hR⟩ := grdE hR
 have g1_w := ac g1
 rcases iteE hR with ⟨c2, hR⟩ | ⟨c2, hR⟩
 ·obtain ⟨c2_1, c2_2⟩ := ed c2
  obtain ⟨y3, y3_e, hR⟩ := bindE hR
  have y3_k := fun bs H => fp bs H F d w.cond y3 y3_e
  (try simp only [cellsDesg, encDesg, encInts] at y3_k)
  try refine zu ?_
  (refine yw1 (id := 1) oz55 [(6, 9), (6, 10), (8, 9), (8, 10)] ?_)
  try refine zw ?_
  clear y3_k
  rcases iteE hR with ⟨c4, hR⟩ | ⟨c4, hR⟩
  ·obtain ⟨y5, y5_e, hR⟩ := bindE hR
   have y5_k := fun bs H => gG bs H F d w.value y5 y5_e
   (try simp only [cellsDesg, encDesg, encInts] at y5_k)
   rcases iteE hR with ⟨c6, hR⟩ | ⟨c6, hR⟩
   ·obtain ⟨x7, x7_e, hR⟩ := bindE hR
    obtain ⟨x7_p, x7_e⟩ := idxE x7_e
    obtain ⟨x8, x8_e, hR⟩ := bindE hR
    obtain ⟨x8_p, x8_e⟩ := idxE x8_e
    rcases iteE hR with ⟨c9, hR⟩ | ⟨c9, hR⟩
    ·obtain rfl := someE hR
     try refine zu ?_
     (refine yw0 (id := 4) oz56 ?_)
     exact zv
    ·obtain rfl := someE hR
     try refine zu ?_
     (refine yw0 (id := 4) oz56 ?_)
     exact zv
   ·obtain rfl := someE hR
    exact zv
  ·obtain rfl := someE hR
   exact zv
 ·obtain ⟨y10, y10_e, hR⟩ := bindE hR
  have y10_k := fun bs H => fp bs H F d w.cond y10 y10_e
  (try simp only [cellsDesg, encDesg, encInts] at y10_k)
  try refine zu ?_
  (refine yw1 (id := 1) oz55 [(6, 9), (6, 10), (8, 9), (8, 10)] ?_)
  try refine zw ?_
  clear y10_k
  rcases iteE hR with ⟨c11, hR⟩ | ⟨c11, hR⟩
  ·obtain ⟨y12, y12_e, hR⟩ := bindE hR
   have y12_k := fun bs H => gG bs H F d w.value y12 y12_e
   (try simp only [cellsDesg, encDesg, encInts] at y12_k)
   rcases iteE hR with ⟨c13, hR⟩ | ⟨c13, hR⟩
   ·obtain rfl := someE hR
    exact zv
   ·obtain rfl := someE hR
    exact zv
  ·obtain rfl := someE hR
   exact zv
def bw (F : Nat) (cv0 : Desg) (a0_ : Int) (w : Wri) : Option (Int) := ((fL F cv0 w).bind fun y1 => some y1)
theorem gI (bs : List Nat) (H : Heap) (F : Nat) (ca0 : Nat) (cv0 : Desg) (hca0 : H[ca0]? = some (.cells [.str cv0.name, .list (cv0.inputs.map encPort), .list (cv0.elements.map encElem), .list (cv0.nodes.map encNode), .list (cv0.rules.map encRul), .list (cv0.outs.map encOutp), .list (cv0.attrs.map encAttr)])) (a0_ : Int) (w : Wri) (R : Int) (hR0 : bw F cv0 a0_ w = some R) : callw X bs 110 [.int .i64 a0_, (encWri w), .ptr ca0 0] H = some (.int .i64 R, H) := by
 refine yw2 (rs := [.tmp 5]) (N := 9) (fn := Tryz.f110) CV Tryz.func110 ?_
 have hca0_l := aa hca0
 have hca0_a := get_app' hca0
 have hR := Kp.mk hR0
 clear hR0
 rw [bw] at hR
 (try simp only [cellsWri, encInts, encWri])
 obtain ⟨y1, y1_e, hR⟩ := bindE hR
 have y1_k := fun bs H => qb bs H F cv0 w y1 y1_e
 (try simp only [cellsDesg, cellsWri, encDesg, encInts, encWri] at y1_k)
 obtain rfl := someE hR
 exact zv
def bY (F : Nat) (l : List Wri) (cv0 : Desg) : Nat → Nat → Option (Oc (Nat × Int) (Unit))
 | 0, _ => none
 | k + 1, s1 => (if (decide ((s1 : Int) < (l.length : Int))) = true then ((l[s1]?).bind fun x4 => ((bw F cv0 (s1 : Int) x4).bind fun y5 => (if (decide (¬y5 = 0)) = true then some (.a (s1, y5)) else (if inI ((s1 : Int) + 1) then bY F l cv0 k (s1 + 1) else none)))) else some (.b ()))
theorem py (bs : List Nat) (H : Heap) (F : Nat) (ca0 : Nat) (cv0 : Desg) (hca0 : H[ca0]? = some (.cells [.str cv0.name, .list (cv0.inputs.map encPort), .list (cv0.elements.map encElem), .list (cv0.nodes.map encNode), .list (cv0.rules.map encRul), .list (cv0.outs.map encOutp), .list (cv0.attrs.map encAttr)])) (l : List Wri) : ∀ k s r ρ H', (∃ J2, H' = H ++ J2 ∧ ρ 1 = .func 110 [.ptr ca0 0] ∧ ρ 9 = .list (l.map encWri) ∧ ρ 10 = .int .i64 (l.length : Int) ∧ ρ 11 = .int .i64 (s : Int)) → bY F l cv0 k s = some r → Lp X ⟨25, H.length :: bs⟩ (loopAt Tryz.f109 0) ρ H' ((fun r ex ρ H' => match r with | .a r => ∃ J2, H' = H ++ J2 ∧ ex = .ret ∧ ρ 4 = .int .i64 (r.1 : Int) ∧ ρ 5 = .int .i64 r.2 | .b r => ∃ J2, H' = H ++ J2 ∧ ex = .exit 0) r) := by
 refine ae (fun _ => rfl) ?_
 rintro k s1 r ρ H' ⟨J2, hH, h1, h9, h10, h11⟩ hR
 skip
 subst hH
 rw [bY] at hR
 have hca0_l := aa hca0
 have hca0_a := get_app' hca0
 conv => arg 3; whnf
 try refine zw ?_
 rcases iteE hR with ⟨c3, hR⟩ | ⟨c3, hR⟩
 ·obtain ⟨x4, x4_e, hR⟩ := bindE hR
  obtain ⟨y5, y5_e, hR⟩ := bindE hR
  have y5_k := fun (bs : List Nat) (l : Heap) => gI bs (H ++ l) F ca0 cv0 gt (s1 : Int) x4 y5 y5_e
  (try simp only [cellsWri, encInts, encWri] at y5_k)
  have y5_k0 := fun (bs : List Nat) => gI bs H F ca0 cv0 gt (s1 : Int) x4 y5 y5_e
  (try simp only [cellsWri, encInts, encWri] at y5_k0)
  try refine zw ?_
  clear y5_k y5_k0
  rcases iteE hR with ⟨c6, hR⟩ | ⟨c6, hR⟩
  ·obtain rfl := someE hR
   refine zu ?_
   exact ⟨_, hq, rfl, sl, sl⟩
  ·obtain ⟨g7, hR⟩ := grdE hR
   have g7_w := ac g7
   refine zu ?_
   exact ⟨(s1 + 1), ⟨_, hq, sl, sl, sl, sl⟩, hR.out⟩
 ·obtain rfl := someE hR
  refine zu ?_
  exact ⟨_, hq, rfl⟩
def eF (F : Nat) (l : List Wri) (cv0 : Desg) : List Wri → Nat → Unit → Option (Oc (Nat × Int) (Unit))
 | [], s1, _ => some (.b ())
 | x_ :: r_, s1, _ => ((bw F cv0 (s1 : Int) x_).bind fun y5 => (if (decide (¬y5 = 0)) = true then some (.a (s1, y5)) else eF F l cv0 r_ (s1 + 1) ()))
theorem jK (F : Nat) (l : List Wri) (cv0 : Desg) (hl_ : l.length ≤ 1000000) : ∀ r_ i_ k_ (o_ : Unit), l.drop i_ = r_ → r_.length < k_ → bY F l cv0 k_ i_ = eF F l cv0 r_ i_ o_
 | _, _, 0, _, _, hk => absurd hk (Nat.not_lt_zero _)
 | [], i_, k_ + 1, _, hd, _ => by rw [bY, eF]; simp only [ai hd, Bool.false_eq_true, if_false]
 | x_ :: r_, i_, k_ + 1, _, hd, hk => by
  have ih := jK F l cv0 hl_ r_ (i_ + 1) k_ () (ah hd) (Nat.lt_of_succ_lt_succ hk)
  rw [bY, eF]; simp only [aq hd, ak hd, if_pos (av hd hl_), Option.bind_some, if_true, ih]
def bh (F : Nat) (cv0 : Desg) (l : List Wri) : Option (Int × Int) := ((bY F l cv0 F 0).bind fun o8 => match o8 with | .a o9 => some ((o9.1 : Int), o9.2) | .b o11 => some (0, 0))
theorem au (bs : List Nat) (H : Heap) (F : Nat) (ca0 : Nat) (cv0 : Desg) (hca0 : H[ca0]? = some (.cells [.str cv0.name, .list (cv0.inputs.map encPort), .list (cv0.elements.map encElem), .list (cv0.nodes.map encNode), .list (cv0.rules.map encRul), .list (cv0.outs.map encOutp), .list (cv0.attrs.map encAttr)])) (l : List Wri) (R : Int × Int) (hR0 : bh F cv0 l = some R) : callw X bs 109 [.list (l.map encWri), .func 110 [.ptr ca0 0]] H = some (.tuple [.int .i64 R.1, .int .i64 R.2], H) := by
 refine yw2 (rs := [.tmp 4, .tmp 5]) (N := 25) (fn := Tryz.f109) CU Tryz.func109 ?_
 have hca0_l := aa hca0
 have hca0_a := get_app' hca0
 have hR := Kp.mk hR0
 clear hR0
 rw [bh] at hR
 obtain ⟨o8, o8_e, hR⟩ := bindE hR
 refine zu ?_
 refine ab (af (c := (loopAt Tryz.f109 0)) rfl (py _ H F ca0 cv0 hca0 l _ 0 o8 _ _ ⟨[], by simp, sl, sl, sl, sl⟩ o8_e)) ?_
 rcases o8 with o9 | o11
 ·rintro ex ρ' H' ⟨J10, rfl, rfl, q4_o9, q5_o9⟩ hf
  clear hf
  obtain rfl := someE hR
  exact zv
 ·rintro ex ρ' H' ⟨J12, rfl, rfl⟩ hf
  clear hf
  obtain rfl := someE hR
  exact zv
def bO (F : Nat) (cv1 : List ByteArray) (cv2 : Desg) (a0_ : Int) (r_ : Rul) : Option (Int × (List ByteArray)) := (if r_.name.size ≤ 1000000 then ((aY F cv2 r_.guard).bind fun y3 => (if y3 = true then (if (decide ((r_.writes.length : Int) ≤ 16)) = true then (if (decide (¬(nameErr cv1 r_.name) = 0)) = true then ((bh F cv2 r_.writes).bind fun y7 => some ((nameErr cv1 r_.name), (addName r_.name cv1))) else ((bh F cv2 r_.writes).bind fun y8 => (if (decide (¬y8.2 = 0)) = true then some (y8.2, (addName r_.name cv1)) else some (0, (addName r_.name cv1))))) else (if (decide (¬(nameErr cv1 r_.name) = 0)) = true then ((bh F cv2 r_.writes).bind fun y11 => some ((nameErr cv1 r_.name), (addName r_.name cv1))) else ((bh F cv2 r_.writes).bind fun y12 => some (8, (addName r_.name cv1))))) else (if (decide ((r_.writes.length : Int) ≤ 16)) = true then (if (decide (¬(nameErr cv1 r_.name) = 0)) = true then ((bh F cv2 r_.writes).bind fun y15 => some ((nameErr cv1 r_.name), (addName r_.name cv1))) else ((bh F cv2 r_.writes).bind fun y16 => some (9, (addName r_.name cv1)))) else (if (decide (¬(nameErr cv1 r_.name) = 0)) = true then ((bh F cv2 r_.writes).bind fun y18 => some ((nameErr cv1 r_.name), (addName r_.name cv1))) else ((bh F cv2 r_.writes).bind fun y19 => some (9, (addName r_.name cv1))))))) else none)
theorem im (bs : List Nat) (H : Heap) (F : Nat) (ca0 : Nat) (ca1 : Nat) (ca2 : Nat) (cv1 : List ByteArray) (cv2 : Desg) (hca0 : H[ca0]? = some (.cells [.map ca1])) (hca1 : ca1 < H.length) (hca2 : H[ca2]? = some (.cells [.str cv2.name, .list (cv2.inputs.map encPort), .list (cv2.elements.map encElem), .list (cv2.nodes.map encNode), .list (cv2.rules.map encRul), .list (cv2.outs.map encOutp), .list (cv2.attrs.map encAttr)])) (hn_ca0_ca1 : ca0 ≠ ca1) (hn_ca2_ca1 : ca2 ≠ ca1) (a0_ : Int) (r_ : Rul) (R : Int × (List ByteArray)) (hR0 : bO F cv1 cv2 a0_ r_ = some R) : callw X bs 108 [.int .i64 a0_, (encRul r_), .ptr ca0 0, .ptr ca2 0] (H.set ca1 (.map (namesM cv1))) = some (.int .i64 R.1, (H.set ca1 (.map (namesM R.2)))) := by
 refine yw2 (rs := [.tmp 6]) (N := 37) (fn := Tryz.f108) CT Tryz.func108 ?_
 simp only [List.length_set]
 have hca0_l := aa hca0
 have hca0_a := @fg H (h := hca0) (hn := hn_ca0_ca1)
 have hca0_b := @cN H (h := hca0) (hn := hn_ca0_ca1)
 have hca2_l := aa hca2
 have hca2_a := @fg H (h := hca2) (hn := hn_ca2_ca1)
 have hca2_b := @cN H (h := hca2) (hn := hn_ca2_ca1)
 have hca1_a := @gr H (h := hca1)
 have hca1_b := @ef H (h := hca1)
 have hca1_s := @gc H (h := hca1)
 have hR := Kp.mk hR0
 clear hR0
 rw [bO] at hR
 (try simp only [cellsRul, encInts, encRul])
 obtain ⟨g1, hR⟩ := grdE hR
 have k2_k := fun (bs : List Nat) (l : Heap) => by
  have h_ := bU bs ((H.set ca1 (.map (namesM cv1))) ++ l) ca1 cv1 r_.name g1 gt
  (try simp only [ax, an, aX, aJ, aM, az, List.set_cons_succ, List.set_cons_zero, List.set_set, aj, hca1_s] at h_)
  exact h_
 have k2_k0 := fun (bs : List Nat) => by
  have h_ := bU bs (H.set ca1 (.map (namesM cv1))) ca1 cv1 r_.name g1 gt
  (try simp only [ax, an, aX, aJ, aM, az, List.set_cons_succ, List.set_cons_zero, List.set_set, aj, hca1_s] at h_)
  exact h_
 obtain ⟨y3, y3_e, hR⟩ := bindE hR
 have y3_k := fun bs H => fp bs H F cv2 r_.guard y3 y3_e
 (try simp only [cellsDesg, encDesg, encInts] at y3_k)
 rcases iteE hR with ⟨c4, hR⟩ | ⟨c4, hR⟩
 ·rcases iteE hR with ⟨c5, hR⟩ | ⟨c5, hR⟩
  ·rcases iteE hR with ⟨c6, hR⟩ | ⟨c6, hR⟩
   ·have c6_p := of_decide_eq_true c6
    obtain ⟨y7, y7_e, hR⟩ := bindE hR
    have y7_k := fun (bs : List Nat) (l : Heap) => au bs ((H.set ca1 (.map (namesM (addName r_.name cv1)))) ++ l) F ca2 cv2 gt r_.writes y7 y7_e
    have y7_k0 := fun (bs : List Nat) => au bs (H.set ca1 (.map (namesM (addName r_.name cv1)))) F ca2 cv2 gt r_.writes y7 y7_e
    obtain rfl := someE hR
    try refine zu ?_
    (refine yw1 (id := 1) oz22 oz23 ?_)
    exact zv
   ·have c6_p := Decidable.not_not.1 (of_decide_eq_false c6)
    obtain ⟨y8, y8_e, hR⟩ := bindE hR
    have y8_k := fun (bs : List Nat) (l : Heap) => au bs ((H.set ca1 (.map (namesM (addName r_.name cv1)))) ++ l) F ca2 cv2 gt r_.writes y8 y8_e
    have y8_k0 := fun (bs : List Nat) => au bs (H.set ca1 (.map (namesM (addName r_.name cv1)))) F ca2 cv2 gt r_.writes y8 y8_e
    rcases iteE hR with ⟨c9, hR⟩ | ⟨c9, hR⟩
    ·have c9_p := of_decide_eq_true c9
     obtain rfl := someE hR
     try refine zu ?_
     (refine yw1 (id := 1) oz22 oz23 ?_)
     exact zv
    ·have c9_p := Decidable.not_not.1 (of_decide_eq_false c9)
     obtain rfl := someE hR
     try refine zu ?_
     (refine yw1 (id := 1) oz22 oz23 ?_)
     exact zv
  ·rcases iteE hR with ⟨c10, hR⟩ | ⟨c10, hR⟩
   ·have c10_p := of_decide_eq_true c10
    obtain ⟨y11, y11_e, hR⟩ := bindE hR
    have y11_k := fun (bs : List Nat) (l : Heap) => au bs ((H.set ca1 (.map (namesM (addName r_.name cv1)))) ++ l) F ca2 cv2 gt r_.writes y11 y11_e
    have y11_k0 := fun (bs : List Nat) => au bs (H.set ca1 (.map (namesM (addName r_.name cv1)))) F ca2 cv2 gt r_.writes y11 y11_e
    obtain rfl := someE hR
    try refine zu ?_
    (refine yw1 (id := 1) oz22 oz23 ?_)
    exact zv
   ·have c10_p := Decidable.not_not.1 (of_decide_eq_false c10)
    obtain ⟨y12, y12_e, hR⟩ := bindE hR
    have y12_k := fun (bs : List Nat) (l : Heap) => au bs ((H.set ca1 (.map (namesM (addName r_.name cv1)))) ++ l) F ca2 cv2 gt r_.writes y12 y12_e
    have y12_k0 := fun (bs : List Nat) => au bs (H.set ca1 (.map (namesM (addName r_.name cv1)))) F ca2 cv2 gt r_.writes y12 y12_e
    obtain rfl := someE hR
    try refine zu ?_
    (refine yw1 (id := 1) oz22 oz23 ?_)
    exact zv
 ·rcases iteE hR with ⟨c13, hR⟩ | ⟨c13, hR⟩
  ·rcases iteE hR with ⟨c14, hR⟩ | ⟨c14, hR⟩
   ·have c14_p := of_decide_eq_true c14
    obtain ⟨y15, y15_e, hR⟩ := bindE hR
    have y15_k := fun (bs : List Nat) (l : Heap) => au bs ((H.set ca1 (.map (namesM (addName r_.name cv1)))) ++ l) F ca2 cv2 gt r_.writes y15 y15_e
    have y15_k0 := fun (bs : List Nat) => au bs (H.set ca1 (.map (namesM (addName r_.name cv1)))) F ca2 cv2 gt r_.writes y15 y15_e
    obtain rfl := someE hR
    try refine zu ?_
    (refine yw1 (id := 1) oz22 oz23 ?_)
    exact zv
   ·have c14_p := Decidable.not_not.1 (of_decide_eq_false c14)
    obtain ⟨y16, y16_e, hR⟩ := bindE hR
    have y16_k := fun (bs : List Nat) (l : Heap) => au bs ((H.set ca1 (.map (namesM (addName r_.name cv1)))) ++ l) F ca2 cv2 gt r_.writes y16 y16_e
    have y16_k0 := fun (bs : List Nat) => au bs (H.set ca1 (.map (namesM (addName r_.name cv1)))) F ca2 cv2 gt r_.writes y16 y16_e
    obtain rfl := someE hR
    try refine zu ?_
    (refine yw1 (id := 1) oz22 oz23 ?_)
    exact zv
  ·rcases iteE hR with ⟨c17, hR⟩ | ⟨c17, hR⟩
   ·have c17_p := of_decide_eq_true c17
    obtain ⟨y18, y18_e, hR⟩ := bindE hR
    have y18_k := fun (bs : List Nat) (l : Heap) => au bs ((H.set ca1 (.map (namesM (addName r_.name cv1)))) ++ l) F ca2 cv2 gt r_.writes y18 y18_e
    have y18_k0 := fun (bs : List Nat) => au bs (H.set ca1 (.map (namesM (addName r_.name cv1)))) F ca2 cv2 gt r_.writes y18 y18_e
    obtain rfl := someE hR
    try refine zu ?_
    (refine yw1 (id := 1) oz22 oz23 ?_)
    exact zv
   ·have c17_p := Decidable.not_not.1 (of_decide_eq_false c17)
    obtain ⟨y19, y19_e, hR⟩ := bindE hR
    have y19_k := fun (bs : List Nat) (l : Heap) => au bs ((H.set ca1 (.map (namesM (addName r_.name cv1)))) ++ l) F ca2 cv2 gt r_.writes y19 y19_e
    have y19_k0 := fun (bs : List Nat) => au bs (H.set ca1 (.map (namesM (addName r_.name cv1)))) F ca2 cv2 gt r_.writes y19 y19_e
    obtain rfl := someE hR
    try refine zu ?_
    (refine yw1 (id := 1) oz22 oz23 ?_)
    exact zv
def bZ (F : Nat) (l : List Rul) (cv2 : Desg) : Nat → (Nat × (List ByteArray)) → Option (Oc (Nat × Int × (List ByteArray)) ((List ByteArray)))
 | 0, _ => none
 | k + 1, (s7, s8) => (if (decide ((s7 : Int) < (l.length : Int))) = true then ((l[s7]?).bind fun x11 => ((bO F s8 cv2 (s7 : Int) x11).bind fun y12 => (if (decide (¬y12.1 = 0)) = true then some (.a (s7, y12.1, y12.2)) else (if inI ((s7 : Int) + 1) then bZ F l cv2 k ((s7 + 1), y12.2) else none)))) else some (.b s8))
theorem pz (bs : List Nat) (H : Heap) (F : Nat) (ca0 : Nat) (ca1 : Nat) (ca2 : Nat) (cv1 : List ByteArray) (cv2 : Desg) (hca0 : H[ca0]? = some (.cells [.map ca1])) (hca1 : ca1 < H.length) (hca2 : H[ca2]? = some (.cells [.str cv2.name, .list (cv2.inputs.map encPort), .list (cv2.elements.map encElem), .list (cv2.nodes.map encNode), .list (cv2.rules.map encRul), .list (cv2.outs.map encOutp), .list (cv2.attrs.map encAttr)])) (hn_ca0_ca1 : ca0 ≠ ca1) (hn_ca2_ca1 : ca2 ≠ ca1) (l : List Rul) : ∀ k s r ρ H', (∃ J9, H' = (H.set ca1 (.map (namesM s.2))) ++ J9 ∧ ρ 1 = .func 108 [.ptr ca0 0, .ptr ca2 0] ∧ ρ 9 = .list (l.map encRul) ∧ ρ 10 = .int .i64 (l.length : Int) ∧ ρ 11 = .int .i64 (s.1 : Int)) → bZ F l cv2 k s = some r → Lp X ⟨25, H.length :: bs⟩ (loopAt Tryz.f107 0) ρ H' ((fun r ex ρ H' => match r with | .a r => ∃ J9, H' = (H.set ca1 (.map (namesM r.2.2))) ++ J9 ∧ ex = .ret ∧ ρ 4 = .int .i64 (r.1 : Int) ∧ ρ 5 = .int .i64 r.2.1 | .b r => ∃ J9, H' = (H.set ca1 (.map (namesM r))) ++ J9 ∧ ex = .exit 0) r) := by
 refine ae (fun _ => rfl) ?_
 rintro k ⟨s7, s8⟩ r ρ H' ⟨J9, hH, h1, h9, h10, h11⟩ hR
 simp only at hH h1 h9 h10 h11
 subst hH
 rw [bZ] at hR
 have hca0_l := aa hca0
 have hca0_a := @fg H (h := hca0) (hn := hn_ca0_ca1)
 have hca0_b := @cN H (h := hca0) (hn := hn_ca0_ca1)
 have hca2_l := aa hca2
 have hca2_a := @fg H (h := hca2) (hn := hn_ca2_ca1)
 have hca2_b := @cN H (h := hca2) (hn := hn_ca2_ca1)
 have hca1_a := @gr H (h := hca1)
 have hca1_b := @ef H (h := hca1)
 have hca1_s := @gc H (h := hca1)
 conv => arg 3; whnf
 try refine zw ?_
 rcases iteE hR with ⟨c10, hR⟩ | ⟨c10, hR⟩
 ·obtain ⟨x11, x11_e, hR⟩ := bindE hR
  obtain ⟨y12, y12_e, hR⟩ := bindE hR
  have y12_k := fun (bs : List Nat) (l : Heap) => by
   have h_ := im bs ((H.set ca1 (.map (namesM s8))) ++ l) F ca0 ca1 ca2 s8 cv2 gt ln gt om om (s7 : Int) x11 y12 y12_e
   (try simp only [ax, an, aX, aJ, aM, az, List.set_cons_succ, List.set_cons_zero, List.set_set, aj, hca1_s] at h_)
   exact h_
  (try simp only [cellsRul, encInts, encRul] at y12_k)
  have y12_k0 := fun (bs : List Nat) => by
   have h_ := im bs (H.set ca1 (.map (namesM s8))) F ca0 ca1 ca2 s8 cv2 gt ln gt om om (s7 : Int) x11 y12 y12_e
   (try simp only [ax, an, aX, aJ, aM, az, List.set_cons_succ, List.set_cons_zero, List.set_set, aj, hca1_s] at h_)
   exact h_
  (try simp only [cellsRul, encInts, encRul] at y12_k0)
  try refine zw ?_
  clear y12_k y12_k0
  rcases iteE hR with ⟨c13, hR⟩ | ⟨c13, hR⟩
  ·obtain rfl := someE hR
   refine zu ?_
   exact ⟨_, hq, rfl, sl, sl⟩
  ·obtain ⟨g14, hR⟩ := grdE hR
   have g14_w := ac g14
   refine zu ?_
   exact ⟨((s7 + 1), y12.2), ⟨_, hq, sl, sl, sl, sl⟩, hR.out⟩
 ·obtain rfl := someE hR
  refine zu ?_
  exact ⟨_, hq, rfl⟩
def dt (F : Nat) (l : List Rul) (cv2 : Desg) : List Rul → Nat → (List ByteArray) → Option (Oc (Nat × Int × (List ByteArray)) ((List ByteArray)))
 | [], s7, s8 => some (.b s8)
 | x_ :: r_, s7, s8 => ((bO F s8 cv2 (s7 : Int) x_).bind fun y12 => (if (decide (¬y12.1 = 0)) = true then some (.a (s7, y12.1, y12.2)) else dt F l cv2 r_ (s7 + 1) y12.2))
theorem jL (F : Nat) (l : List Rul) (cv2 : Desg) (hl_ : l.length ≤ 1000000) : ∀ r_ i_ k_ (o_ : (List ByteArray)), l.drop i_ = r_ → r_.length < k_ → bZ F l cv2 k_ (i_, o_) = dt F l cv2 r_ i_ o_
 | _, _, 0, _, _, hk => absurd hk (Nat.not_lt_zero _)
 | [], i_, k_ + 1, s8, hd, _ => by rw [bZ, dt]; simp only [ai hd, Bool.false_eq_true, if_false]
 | x_ :: r_, i_, k_ + 1, s8, hd, hk => by
  have ih := fun o_ => jL F l cv2 hl_ r_ (i_ + 1) k_ o_ (ah hd) (Nat.lt_of_succ_lt_succ hk)
  rw [bZ, dt]; simp only [aq hd, ak hd, if_pos (av hd hl_), Option.bind_some, if_true, ih]
def gv (F : Nat) (cv1 : List ByteArray) (cv2 : Desg) (l : List Rul) : Option (Int × Int × (List ByteArray)) := ((bZ F l cv2 F (0, cv1)).bind fun o15 => match o15 with | .a o16 => some ((o16.1 : Int), o16.2.1, o16.2.2) | .b o18 => some (0, 0, o18))
theorem lM (bs : List Nat) (H : Heap) (F : Nat) (ca0 : Nat) (ca1 : Nat) (ca2 : Nat) (cv1 : List ByteArray) (cv2 : Desg) (hca0 : H[ca0]? = some (.cells [.map ca1])) (hca1 : ca1 < H.length) (hca2 : H[ca2]? = some (.cells [.str cv2.name, .list (cv2.inputs.map encPort), .list (cv2.elements.map encElem), .list (cv2.nodes.map encNode), .list (cv2.rules.map encRul), .list (cv2.outs.map encOutp), .list (cv2.attrs.map encAttr)])) (hn_ca0_ca1 : ca0 ≠ ca1) (hn_ca2_ca1 : ca2 ≠ ca1) (l : List Rul) (R : Int × Int × (List ByteArray)) (hR0 : gv F cv1 cv2 l = some R) : callw X bs 107 [.list (l.map encRul), .func 108 [.ptr ca0 0, .ptr ca2 0]] (H.set ca1 (.map (namesM cv1))) = some (.tuple [.int .i64 R.1, .int .i64 R.2.1], (H.set ca1 (.map (namesM R.2.2)))) := by
 refine yw2 (rs := [.tmp 4, .tmp 5]) (N := 25) (fn := Tryz.f107) CS Tryz.func107 ?_
 simp only [List.length_set]
 have hca0_l := aa hca0
 have hca0_a := @fg H (h := hca0) (hn := hn_ca0_ca1)
 have hca0_b := @cN H (h := hca0) (hn := hn_ca0_ca1)
 have hca2_l := aa hca2
 have hca2_a := @fg H (h := hca2) (hn := hn_ca2_ca1)
 have hca2_b := @cN H (h := hca2) (hn := hn_ca2_ca1)
 have hca1_a := @gr H (h := hca1)
 have hca1_b := @ef H (h := hca1)
 have hca1_s := @gc H (h := hca1)
 have hR := Kp.mk hR0
 clear hR0
 rw [gv] at hR
 obtain ⟨o15, o15_e, hR⟩ := bindE hR
 refine zu ?_
 refine ab (af (c := (loopAt Tryz.f107 0)) rfl (pz _ H F ca0 ca1 ca2 cv1 cv2 hca0 hca1 hca2 hn_ca0_ca1 hn_ca2_ca1 l _ (0, cv1) o15 _ _ ⟨[], by simp, sl, sl, sl, sl⟩ o15_e)) ?_
 rcases o15 with o16 | o18
 ·rintro ex ρ' H' ⟨J17, rfl, rfl, q4_o16, q5_o16⟩ hf
  clear hf
  obtain rfl := someE hR
  exact zv
 ·rintro ex ρ' H' ⟨J19, rfl, rfl⟩ hf
  clear hf
  obtain rfl := someE hR
  exact zv
def fq (F : Nat) (cv0 : Desg) (cv2 : List ByteArray) : Option (Int × Int × (List ByteArray)) := ((gv F cv2 cv0 cv0.rules).bind fun y1 => some (y1.1, y1.2.1, y1.2.2))
theorem na (bs : List Nat) (H : Heap) (F : Nat) (ca0 : Nat) (ca1 : Nat) (ca2 : Nat) (cv0 : Desg) (cv2 : List ByteArray) (hca0 : H[ca0]? = some (.cells [.str cv0.name, .list (cv0.inputs.map encPort), .list (cv0.elements.map encElem), .list (cv0.nodes.map encNode), .list (cv0.rules.map encRul), .list (cv0.outs.map encOutp), .list (cv0.attrs.map encAttr)])) (hca1 : H[ca1]? = some (.cells [.map ca2])) (hca2 : ca2 < H.length) (hn_ca0_ca2 : ca0 ≠ ca2) (hn_ca1_ca2 : ca1 ≠ ca2) (R : Int × Int × (List ByteArray)) (hR0 : fq F cv0 cv2 = some R) : callw X bs 106 [.ptr ca0 0, .ptr ca1 0] (H.set ca2 (.map (namesM cv2))) = some (.tuple [.int .i64 R.1, .int .i64 R.2.1], (H.set ca2 (.map (namesM R.2.2)))) := by
 refine yw2 (rs := [.tmp 2, .tmp 3]) (N := 10) (fn := Tryz.f106) CR Tryz.func106 ?_
 simp only [List.length_set]
 have hca0_l := aa hca0
 have hca0_a := @fg H (h := hca0) (hn := hn_ca0_ca2)
 have hca0_b := @cN H (h := hca0) (hn := hn_ca0_ca2)
 have hca1_l := aa hca1
 have hca1_a := @fg H (h := hca1) (hn := hn_ca1_ca2)
 have hca1_b := @cN H (h := hca1) (hn := hn_ca1_ca2)
 have hca2_a := @gr H (h := hca2)
 have hca2_b := @ef H (h := hca2)
 have hca2_s := @gc H (h := hca2)
 have hR := Kp.mk hR0
 clear hR0
 rw [fq] at hR
 obtain ⟨y1, y1_e, hR⟩ := bindE hR
 have y1_k := fun (bs : List Nat) (l : Heap) => by
  have h_ := lM bs ((H.set ca2 (.map (namesM cv2))) ++ l) F ca1 ca2 ca0 cv2 cv0 gt ln gt om om cv0.rules y1 y1_e
  (try simp only [ax, an, aX, aJ, aM, az, List.set_cons_succ, List.set_cons_zero, List.set_set, aj, hca2_s] at h_)
  exact h_
 have y1_k0 := fun (bs : List Nat) => by
  have h_ := lM bs (H.set ca2 (.map (namesM cv2))) F ca1 ca2 ca0 cv2 cv0 gt ln gt om om cv0.rules y1 y1_e
  (try simp only [ax, an, aX, aJ, aM, az, List.set_cons_succ, List.set_cons_zero, List.set_set, aj, hca2_s] at h_)
  exact h_
 obtain rfl := someE hR
 exact zv
def ft (F : Nat) (cv0 : Desg) : Option (Int × Int) := (if (decide ((cv0.outs.length : Int) ≤ 12)) = true then some (0, 0) else some (0, 8))
theorem nf (bs : List Nat) (H : Heap) (F : Nat) (ca0 : Nat) (cv0 : Desg) (hca0 : H[ca0]? = some (.cells [.str cv0.name, .list (cv0.inputs.map encPort), .list (cv0.elements.map encElem), .list (cv0.nodes.map encNode), .list (cv0.rules.map encRul), .list (cv0.outs.map encOutp), .list (cv0.attrs.map encAttr)])) (R : Int × Int) (hR0 : ft F cv0 = some R) : callw X bs 112 [.ptr ca0 0] H = some (.tuple [.int .i64 R.1, .int .i64 R.2], H) := by
 refine yw2 (rs := [.tmp 1, .tmp 2]) (N := 8) (fn := Tryz.f112) CX Tryz.func112 ?_
 have hca0_l := aa hca0
 have hca0_a := get_app' hca0
 have hR := Kp.mk hR0
 clear hR0
 rw [ft] at hR
 rcases iteE hR with ⟨c1, hR⟩ | ⟨c1, hR⟩
 ·obtain rfl := someE hR
  exact zv
 ·obtain rfl := someE hR
  exact zv
def bP (F : Nat) (cv1 : List ByteArray) (cv2 : Desg) (a0_ : Int) (o : Outp) : Option (Int × (List ByteArray)) := (if o.name.size ≤ 1000000 then ((dK F cv2 o.node).bind fun y3 => (if y3 = true then (if (decide (¬(nameErr cv1 o.name) = 0)) = true then some ((nameErr cv1 o.name), (addName o.name cv1)) else some (0, (addName o.name cv1))) else (if (decide (¬(nameErr cv1 o.name) = 0)) = true then some ((nameErr cv1 o.name), (addName o.name cv1)) else some (9, (addName o.name cv1))))) else none)
theorem io (bs : List Nat) (H : Heap) (F : Nat) (ca0 : Nat) (ca1 : Nat) (ca2 : Nat) (cv1 : List ByteArray) (cv2 : Desg) (hca0 : H[ca0]? = some (.cells [.map ca1])) (hca1 : ca1 < H.length) (hca2 : H[ca2]? = some (.cells [.str cv2.name, .list (cv2.inputs.map encPort), .list (cv2.elements.map encElem), .list (cv2.nodes.map encNode), .list (cv2.rules.map encRul), .list (cv2.outs.map encOutp), .list (cv2.attrs.map encAttr)])) (hn_ca0_ca1 : ca0 ≠ ca1) (hn_ca2_ca1 : ca2 ≠ ca1) (a0_ : Int) (o : Outp) (R : Int × (List ByteArray)) (hR0 : bP F cv1 cv2 a0_ o = some R) : callw X bs 115 [.int .i64 a0_, (encOutp o), .ptr ca0 0, .ptr ca2 0] (H.set ca1 (.map (namesM cv1))) = some (.int .i64 R.1, (H.set ca1 (.map (namesM R.2)))) := by
 refine yw2 (rs := [.tmp 6]) (N := 18) (fn := Tryz.f115) C0 Tryz.func115 ?_
 simp only [List.length_set]
 have hca0_l := aa hca0
 have hca0_a := @fg H (h := hca0) (hn := hn_ca0_ca1)
 have hca0_b := @cN H (h := hca0) (hn := hn_ca0_ca1)
 have hca2_l := aa hca2
 have hca2_a := @fg H (h := hca2) (hn := hn_ca2_ca1)
 have hca2_b := @cN H (h := hca2) (hn := hn_ca2_ca1)
 have hca1_a := @gr H (h := hca1)
 have hca1_b := @ef H (h := hca1)
 have hca1_s := @gc H (h := hca1)
 have hR := Kp.mk hR0
 clear hR0
 rw [bP] at hR
 (try simp only [encInts, encOutp])
 obtain ⟨g1, hR⟩ := grdE hR
 have k2_k := fun (bs : List Nat) (l : Heap) => by
  have h_ := bU bs ((H.set ca1 (.map (namesM cv1))) ++ l) ca1 cv1 o.name g1 gt
  (try simp only [ax, an, aX, aJ, aM, az, List.set_cons_succ, List.set_cons_zero, List.set_set, aj, hca1_s] at h_)
  exact h_
 have k2_k0 := fun (bs : List Nat) => by
  have h_ := bU bs (H.set ca1 (.map (namesM cv1))) ca1 cv1 o.name g1 gt
  (try simp only [ax, an, aX, aJ, aM, az, List.set_cons_succ, List.set_cons_zero, List.set_set, aj, hca1_s] at h_)
  exact h_
 obtain ⟨y3, y3_e, hR⟩ := bindE hR
 have y3_k := fun bs H => gG bs H F cv2 o.node y3 y3_e
 (try simp only [cellsDesg, encDesg, encInts] at y3_k)
 rcases iteE hR with ⟨c4, hR⟩ | ⟨c4, hR⟩
 ·rcases iteE hR with ⟨c5, hR⟩ | ⟨c5, hR⟩
  ·have c5_p := of_decide_eq_true c5
   obtain rfl := someE hR
   try refine zu ?_
   (refine yw1 (id := 1) oz48 [(3, 6), (5, 6)] ?_)
   exact zv
  ·have c5_p := Decidable.not_not.1 (of_decide_eq_false c5)
   obtain rfl := someE hR
   try refine zu ?_
   (refine yw1 (id := 1) oz48 [(3, 6), (5, 6)] ?_)
   exact zv
 ·rcases iteE hR with ⟨c6, hR⟩ | ⟨c6, hR⟩
  ·have c6_p := of_decide_eq_true c6
   obtain rfl := someE hR
   try refine zu ?_
   (refine yw1 (id := 1) oz48 [(3, 6), (5, 6)] ?_)
   exact zv
  ·have c6_p := Decidable.not_not.1 (of_decide_eq_false c6)
   obtain rfl := someE hR
   try refine zu ?_
   (refine yw1 (id := 1) oz48 [(3, 6), (5, 6)] ?_)
   exact zv
def ca (F : Nat) (l : List Outp) (cv2 : Desg) : Nat → (Nat × (List ByteArray)) → Option (Oc (Nat × Int × (List ByteArray)) ((List ByteArray)))
 | 0, _ => none
 | k + 1, (s7, s8) => (if (decide ((s7 : Int) < (l.length : Int))) = true then ((l[s7]?).bind fun x11 => ((bP F s8 cv2 (s7 : Int) x11).bind fun y12 => (if (decide (¬y12.1 = 0)) = true then some (.a (s7, y12.1, y12.2)) else (if inI ((s7 : Int) + 1) then ca F l cv2 k ((s7 + 1), y12.2) else none)))) else some (.b s8))
theorem pA (bs : List Nat) (H : Heap) (F : Nat) (ca0 : Nat) (ca1 : Nat) (ca2 : Nat) (cv1 : List ByteArray) (cv2 : Desg) (hca0 : H[ca0]? = some (.cells [.map ca1])) (hca1 : ca1 < H.length) (hca2 : H[ca2]? = some (.cells [.str cv2.name, .list (cv2.inputs.map encPort), .list (cv2.elements.map encElem), .list (cv2.nodes.map encNode), .list (cv2.rules.map encRul), .list (cv2.outs.map encOutp), .list (cv2.attrs.map encAttr)])) (hn_ca0_ca1 : ca0 ≠ ca1) (hn_ca2_ca1 : ca2 ≠ ca1) (l : List Outp) : ∀ k s r ρ H', (∃ J9, H' = (H.set ca1 (.map (namesM s.2))) ++ J9 ∧ ρ 1 = .func 115 [.ptr ca0 0, .ptr ca2 0] ∧ ρ 9 = .list (l.map encOutp) ∧ ρ 10 = .int .i64 (l.length : Int) ∧ ρ 11 = .int .i64 (s.1 : Int)) → ca F l cv2 k s = some r → Lp X ⟨25, H.length :: bs⟩ (loopAt Tryz.f114 0) ρ H' ((fun r ex ρ H' => match r with | .a r => ∃ J9, H' = (H.set ca1 (.map (namesM r.2.2))) ++ J9 ∧ ex = .ret ∧ ρ 4 = .int .i64 (r.1 : Int) ∧ ρ 5 = .int .i64 r.2.1 | .b r => ∃ J9, H' = (H.set ca1 (.map (namesM r))) ++ J9 ∧ ex = .exit 0) r) := by
 refine ae (fun _ => rfl) ?_
 rintro k ⟨s7, s8⟩ r ρ H' ⟨J9, hH, h1, h9, h10, h11⟩ hR
 simp only at hH h1 h9 h10 h11
 subst hH
 rw [ca] at hR
 have hca0_l := aa hca0
 have hca0_a := @fg H (h := hca0) (hn := hn_ca0_ca1)
 have hca0_b := @cN H (h := hca0) (hn := hn_ca0_ca1)
 have hca2_l := aa hca2
 have hca2_a := @fg H (h := hca2) (hn := hn_ca2_ca1)
 have hca2_b := @cN H (h := hca2) (hn := hn_ca2_ca1)
 have hca1_a := @gr H (h := hca1)
 have hca1_b := @ef H (h := hca1)
 have hca1_s := @gc H (h := hca1)
 conv => arg 3; whnf
 try refine zw ?_
 rcases iteE hR with ⟨c10, hR⟩ | ⟨c10, hR⟩
 ·obtain ⟨x11, x11_e, hR⟩ := bindE hR
  obtain ⟨y12, y12_e, hR⟩ := bindE hR
  have y12_k := fun (bs : List Nat) (l : Heap) => by
   have h_ := io bs ((H.set ca1 (.map (namesM s8))) ++ l) F ca0 ca1 ca2 s8 cv2 gt ln gt om om (s7 : Int) x11 y12 y12_e
   (try simp only [ax, an, aX, aJ, aM, az, List.set_cons_succ, List.set_cons_zero, List.set_set, aj, hca1_s] at h_)
   exact h_
  (try simp only [encInts, encOutp] at y12_k)
  have y12_k0 := fun (bs : List Nat) => by
   have h_ := io bs (H.set ca1 (.map (namesM s8))) F ca0 ca1 ca2 s8 cv2 gt ln gt om om (s7 : Int) x11 y12 y12_e
   (try simp only [ax, an, aX, aJ, aM, az, List.set_cons_succ, List.set_cons_zero, List.set_set, aj, hca1_s] at h_)
   exact h_
  (try simp only [encInts, encOutp] at y12_k0)
  try refine zw ?_
  clear y12_k y12_k0
  rcases iteE hR with ⟨c13, hR⟩ | ⟨c13, hR⟩
  ·obtain rfl := someE hR
   refine zu ?_
   exact ⟨_, hq, rfl, sl, sl⟩
  ·obtain ⟨g14, hR⟩ := grdE hR
   have g14_w := ac g14
   refine zu ?_
   exact ⟨((s7 + 1), y12.2), ⟨_, hq, sl, sl, sl, sl⟩, hR.out⟩
 ·obtain rfl := someE hR
  refine zu ?_
  exact ⟨_, hq, rfl⟩
def du (F : Nat) (l : List Outp) (cv2 : Desg) : List Outp → Nat → (List ByteArray) → Option (Oc (Nat × Int × (List ByteArray)) ((List ByteArray)))
 | [], s7, s8 => some (.b s8)
 | x_ :: r_, s7, s8 => ((bP F s8 cv2 (s7 : Int) x_).bind fun y12 => (if (decide (¬y12.1 = 0)) = true then some (.a (s7, y12.1, y12.2)) else du F l cv2 r_ (s7 + 1) y12.2))
theorem jM (F : Nat) (l : List Outp) (cv2 : Desg) (hl_ : l.length ≤ 1000000) : ∀ r_ i_ k_ (o_ : (List ByteArray)), l.drop i_ = r_ → r_.length < k_ → ca F l cv2 k_ (i_, o_) = du F l cv2 r_ i_ o_
 | _, _, 0, _, _, hk => absurd hk (Nat.not_lt_zero _)
 | [], i_, k_ + 1, s8, hd, _ => by rw [ca, du]; simp only [ai hd, Bool.false_eq_true, if_false]
 | x_ :: r_, i_, k_ + 1, s8, hd, hk => by
  have ih := fun o_ => jM F l cv2 hl_ r_ (i_ + 1) k_ o_ (ah hd) (Nat.lt_of_succ_lt_succ hk)
  rw [ca, du]; simp only [aq hd, ak hd, if_pos (av hd hl_), Option.bind_some, if_true, ih]
def gw (F : Nat) (cv1 : List ByteArray) (cv2 : Desg) (l : List Outp) : Option (Int × Int × (List ByteArray)) := ((ca F l cv2 F (0, cv1)).bind fun o15 => match o15 with | .a o16 => some ((o16.1 : Int), o16.2.1, o16.2.2) | .b o18 => some (0, 0, o18))
theorem lN (bs : List Nat) (H : Heap) (F : Nat) (ca0 : Nat) (ca1 : Nat) (ca2 : Nat) (cv1 : List ByteArray) (cv2 : Desg) (hca0 : H[ca0]? = some (.cells [.map ca1])) (hca1 : ca1 < H.length) (hca2 : H[ca2]? = some (.cells [.str cv2.name, .list (cv2.inputs.map encPort), .list (cv2.elements.map encElem), .list (cv2.nodes.map encNode), .list (cv2.rules.map encRul), .list (cv2.outs.map encOutp), .list (cv2.attrs.map encAttr)])) (hn_ca0_ca1 : ca0 ≠ ca1) (hn_ca2_ca1 : ca2 ≠ ca1) (l : List Outp) (R : Int × Int × (List ByteArray)) (hR0 : gw F cv1 cv2 l = some R) : callw X bs 114 [.list (l.map encOutp), .func 115 [.ptr ca0 0, .ptr ca2 0]] (H.set ca1 (.map (namesM cv1))) = some (.tuple [.int .i64 R.1, .int .i64 R.2.1], (H.set ca1 (.map (namesM R.2.2)))) := by
 refine yw2 (rs := [.tmp 4, .tmp 5]) (N := 25) (fn := Tryz.f114) CZ Tryz.func114 ?_
 simp only [List.length_set]
 have hca0_l := aa hca0
 have hca0_a := @fg H (h := hca0) (hn := hn_ca0_ca1)
 have hca0_b := @cN H (h := hca0) (hn := hn_ca0_ca1)
 have hca2_l := aa hca2
 have hca2_a := @fg H (h := hca2) (hn := hn_ca2_ca1)
 have hca2_b := @cN H (h := hca2) (hn := hn_ca2_ca1)
 have hca1_a := @gr H (h := hca1)
 have hca1_b := @ef H (h := hca1)
 have hca1_s := @gc H (h := hca1)
 have hR := Kp.mk hR0
 clear hR0
 rw [gw] at hR
 obtain ⟨o15, o15_e, hR⟩ := bindE hR
 refine zu ?_
 refine ab (af (c := (loopAt Tryz.f114 0)) rfl (pA _ H F ca0 ca1 ca2 cv1 cv2 hca0 hca1 hca2 hn_ca0_ca1 hn_ca2_ca1 l _ (0, cv1) o15 _ _ ⟨[], by simp, sl, sl, sl, sl⟩ o15_e)) ?_
 rcases o15 with o16 | o18
 ·rintro ex ρ' H' ⟨J17, rfl, rfl, q4_o16, q5_o16⟩ hf
  clear hf
  obtain rfl := someE hR
  exact zv
 ·rintro ex ρ' H' ⟨J19, rfl, rfl⟩ hf
  clear hf
  obtain rfl := someE hR
  exact zv
def fu (F : Nat) (cv0 : Desg) (cv2 : List ByteArray) : Option (Int × Int × (List ByteArray)) := ((gw F cv2 cv0 cv0.outs).bind fun y1 => some (y1.1, y1.2.1, y1.2.2))
theorem ng (bs : List Nat) (H : Heap) (F : Nat) (ca0 : Nat) (ca1 : Nat) (ca2 : Nat) (cv0 : Desg) (cv2 : List ByteArray) (hca0 : H[ca0]? = some (.cells [.str cv0.name, .list (cv0.inputs.map encPort), .list (cv0.elements.map encElem), .list (cv0.nodes.map encNode), .list (cv0.rules.map encRul), .list (cv0.outs.map encOutp), .list (cv0.attrs.map encAttr)])) (hca1 : H[ca1]? = some (.cells [.map ca2])) (hca2 : ca2 < H.length) (hn_ca0_ca2 : ca0 ≠ ca2) (hn_ca1_ca2 : ca1 ≠ ca2) (R : Int × Int × (List ByteArray)) (hR0 : fu F cv0 cv2 = some R) : callw X bs 113 [.ptr ca0 0, .ptr ca1 0] (H.set ca2 (.map (namesM cv2))) = some (.tuple [.int .i64 R.1, .int .i64 R.2.1], (H.set ca2 (.map (namesM R.2.2)))) := by
 refine yw2 (rs := [.tmp 2, .tmp 3]) (N := 10) (fn := Tryz.f113) CY Tryz.func113 ?_
 simp only [List.length_set]
 have hca0_l := aa hca0
 have hca0_a := @fg H (h := hca0) (hn := hn_ca0_ca2)
 have hca0_b := @cN H (h := hca0) (hn := hn_ca0_ca2)
 have hca1_l := aa hca1
 have hca1_a := @fg H (h := hca1) (hn := hn_ca1_ca2)
 have hca1_b := @cN H (h := hca1) (hn := hn_ca1_ca2)
 have hca2_a := @gr H (h := hca2)
 have hca2_b := @ef H (h := hca2)
 have hca2_s := @gc H (h := hca2)
 have hR := Kp.mk hR0
 clear hR0
 rw [fu] at hR
 obtain ⟨y1, y1_e, hR⟩ := bindE hR
 have y1_k := fun (bs : List Nat) (l : Heap) => by
  have h_ := lN bs ((H.set ca2 (.map (namesM cv2))) ++ l) F ca1 ca2 ca0 cv2 cv0 gt ln gt om om cv0.outs y1 y1_e
  (try simp only [ax, an, aX, aJ, aM, az, List.set_cons_succ, List.set_cons_zero, List.set_set, aj, hca2_s] at h_)
  exact h_
 have y1_k0 := fun (bs : List Nat) => by
  have h_ := lN bs (H.set ca2 (.map (namesM cv2))) F ca1 ca2 ca0 cv2 cv0 gt ln gt om om cv0.outs y1 y1_e
  (try simp only [ax, an, aX, aJ, aM, az, List.set_cons_succ, List.set_cons_zero, List.set_set, aj, hca2_s] at h_)
  exact h_
 obtain rfl := someE hR
 exact zv
def eX (F : Nat) (cv0 : Desg) : Option (Int × Int) := (if (decide ((cv0.attrs.length : Int) ≤ 16)) = true then some (0, 0) else some (0, 8))
theorem mo (bs : List Nat) (H : Heap) (F : Nat) (ca0 : Nat) (cv0 : Desg) (hca0 : H[ca0]? = some (.cells [.str cv0.name, .list (cv0.inputs.map encPort), .list (cv0.elements.map encElem), .list (cv0.nodes.map encNode), .list (cv0.rules.map encRul), .list (cv0.outs.map encOutp), .list (cv0.attrs.map encAttr)])) (R : Int × Int) (hR0 : eX F cv0 = some R) : callw X bs 117 [.ptr ca0 0] H = some (.tuple [.int .i64 R.1, .int .i64 R.2], H) := by
 refine yw2 (rs := [.tmp 1, .tmp 2]) (N := 8) (fn := Tryz.f117) C2 Tryz.func117 ?_
 have hca0_l := aa hca0
 have hca0_a := get_app' hca0
 have hR := Kp.mk hR0
 clear hR0
 rw [eX] at hR
 rcases iteE hR with ⟨c1, hR⟩ | ⟨c1, hR⟩
 ·obtain rfl := someE hR
  exact zv
 ·obtain rfl := someE hR
  exact zv
def cy (F : Nat) (s_ : List Int) (v : Int) : Nat → Nat → Option (Oc (Nat) (Unit))
 | 0, _ => none
 | k + 1, s1 => (if (decide ((s1 : Int) < (s_.length : Int))) = true then ((s_[s1]?).bind fun x4 => (if (decide (v = x4)) = true then some (.a s1) else (if inI ((s1 : Int) + 1) then cy F s_ v k (s1 + 1) else none))) else some (.b ()))
theorem qc (bs : List Nat) (H : Heap) (F : Nat) (s_ : List Int) (v : Int) : ∀ k s r ρ H', (∃ J2, H' = H ++ J2 ∧ ρ 0 = .list (s_.map (V.int .i64)) ∧ ρ 1 = .int .i64 v ∧ ρ 7 = .int .i64 (s_.length : Int) ∧ ρ 8 = .int .i64 (s : Int)) → cy F s_ v k s = some r → Lp X ⟨19, H.length :: bs⟩ (loopAt Tryz.f175 0) ρ H' ((fun r ex ρ H' => match r with | .a r => ∃ J2, H' = H ++ J2 ∧ ex = .ret ∧ ρ 4 = .int .i64 (r : Int) | .b r => ∃ J2, H' = H ++ J2 ∧ ex = .exit 0) r) := by
 refine ae (fun _ => rfl) ?_
 rintro k s1 r ρ H' ⟨J2, hH, h0, h1, h7, h8⟩ hR
 skip
 subst hH
 rw [cy] at hR
 conv => arg 3; whnf
 try refine zw ?_
 rcases iteE hR with ⟨c3, hR⟩ | ⟨c3, hR⟩
 ·obtain ⟨x4, x4_e, hR⟩ := bindE hR
  try refine zw ?_
  rcases iteE hR with ⟨c5, hR⟩ | ⟨c5, hR⟩
  ·obtain rfl := someE hR
   refine zu ?_
   exact ⟨_, hq, rfl, sl⟩
  ·obtain ⟨g6, hR⟩ := grdE hR
   have g6_w := ac g6
   refine zu ?_
   exact ⟨(s1 + 1), ⟨_, hq, sl, sl, sl, sl⟩, hR.out⟩
 ·obtain rfl := someE hR
  refine zu ?_
  exact ⟨_, hq, rfl⟩
def dP (F : Nat) (s_ : List Int) (v : Int) : List Int → Nat → Unit → Option (Oc (Nat) (Unit))
 | [], s1, _ => some (.b ())
 | x_ :: r_, s1, _ => (if (decide (v = x_)) = true then some (.a s1) else dP F s_ v r_ (s1 + 1) ())
theorem kf (F : Nat) (s_ : List Int) (v : Int) (hl_ : s_.length ≤ 1000000) : ∀ r_ i_ k_ (o_ : Unit), s_.drop i_ = r_ → r_.length < k_ → cy F s_ v k_ i_ = dP F s_ v r_ i_ o_
 | _, _, 0, _, _, hk => absurd hk (Nat.not_lt_zero _)
 | [], i_, k_ + 1, _, hd, _ => by rw [cy, dP]; simp only [ai hd, Bool.false_eq_true, if_false]
 | x_ :: r_, i_, k_ + 1, _, hd, hk => by
  have ih := kf F s_ v hl_ r_ (i_ + 1) k_ () (ah hd) (Nat.lt_of_succ_lt_succ hk)
  rw [cy, dP]; simp only [aq hd, ak hd, if_pos (av hd hl_), Option.bind_some, if_true, ih]
def iR (F : Nat) (s_ : List Int) (v : Int) : Option (Int) := ((cy F s_ v F 0).bind fun o7 => match o7 with | .a o8 => some (o8 : Int) | .b o10 => some (-1))
theorem sA (bs : List Nat) (H : Heap) (F : Nat) (s_ : List Int) (v : Int) (R : Int) (hR0 : iR F s_ v = some R) : callw X bs 175 [.list (s_.map (V.int .i64)), .int .i64 v] H = some (.int .i64 R, H) := by
 refine yw2 (rs := [.tmp 4]) (N := 19) (fn := Tryz.f175) DN Tryz.func175 ?_
 have hR := Kp.mk hR0
 clear hR0
 rw [iR] at hR
 obtain ⟨o7, o7_e, hR⟩ := bindE hR
 refine zu ?_
 refine ab (af (c := (loopAt Tryz.f175 0)) rfl (qc _ H F s_ v _ 0 o7 _ _ ⟨[], by simp, sl, sl, sl, sl⟩ o7_e)) ?_
 rcases o7 with o8 | o10
 ·rintro ex ρ' H' ⟨J9, rfl, rfl, q4_o8⟩ hf
  clear hf
  obtain rfl := someE hR
  exact zv
 ·rintro ex ρ' H' ⟨J11, rfl, rfl⟩ hf
  clear hf
  obtain rfl := someE hR
  exact zv
def eN (F : Nat) (s_ : List Int) (v : Int) : Option (Bool) := ((iR F s_ v).bind fun y1 => some (decide ((0 : Int) ≤ y1)))
theorem kA (bs : List Nat) (H : Heap) (F : Nat) (s_ : List Int) (v : Int) (R : Bool) (hR0 : eN F s_ v = some R) : callw X bs 122 [.list (s_.map (V.int .i64)), .int .i64 v] H = some (.bool R, H) := by
 refine yw2 (rs := [.tmp 4]) (N := 9) (fn := Tryz.f122) C7 Tryz.func122 ?_
 have hR := Kp.mk hR0
 clear hR0
 rw [eN] at hR
 obtain ⟨y1, y1_e, hR⟩ := bindE hR
 have y1_k := fun bs H => sA bs H F s_ v y1 y1_e
 obtain rfl := someE hR
 exact zv
def bn (F : Nat) (cv0 : Desg) (cv1 : Attr) (i : Int) (n : Int) : Option (Int) := (if inI ((cv0.rules.length : Int) - 1) then (if 0 ≤ i ∧ 0 ≤ i.toNat ∧ i.toNat ≤ cv1.rules.length then (if (decide ((0 : Int) ≤ n) && decide (n ≤ ((cv0.rules.length : Int) - 1))) = true then ((eN F (cv1.rules.take i.toNat) n).bind fun y4 => (if y4 = true then some 23 else some 0)) else ((eN F (cv1.rules.take i.toNat) n).bind fun y6 => (if y6 = true then some 6 else some 6))) else none) else none)
theorem gE (bs : List Nat) (H : Heap) (F : Nat) (ca0 : Nat) (ca1 : Nat) (cv0 : Desg) (cv1 : Attr) (hca0 : H[ca0]? = some (.cells [.str cv0.name, .list (cv0.inputs.map encPort), .list (cv0.elements.map encElem), .list (cv0.nodes.map encNode), .list (cv0.rules.map encRul), .list (cv0.outs.map encOutp), .list (cv0.attrs.map encAttr)])) (hca1 : H[ca1]? = some (.cells [.int .i64 cv1.kind, .list (cv1.rules.map (V.int .i64))])) (i : Int) (n : Int) (R : Int) (hR0 : bn F cv0 cv1 i n = some R) : callw X bs 121 [.int .i64 i, .int .i64 n, .ptr ca0 0, .ptr ca1 0] H = some (.int .i64 R, H) := by
 refine yw2 (rs := [.tmp 6]) (N := 24) (fn := Tryz.f121) C6 Tryz.func121 ?_
 have hca0_l := aa hca0
 have hca0_a := get_app' hca0
 have hca1_l := aa hca1
 have hca1_a := get_app' hca1
 have hR := Kp.mk hR0
 clear hR0
 rw [bn] at hR
 obtain ⟨g1, hR⟩ := grdE hR
 have g1_w := ac g1
 obtain ⟨g2, hR⟩ := grdE hR
 obtain ⟨g2_q0, g2_a, g2_b⟩ := g2
 have g2_s := cutV (P := Tryz.prog) (V.int .i64) Tryz.underlying30 sz3 (fun _ => rfl) cv1.rules none (some (.int .i64 i)) 0 i.toNat rfl (boundI g2_q0) g2_a g2_b
 simp only [List.drop_zero, List.take_length] at g2_s
 rcases iteE hR with ⟨c3, hR⟩ | ⟨c3, hR⟩
 ·obtain ⟨c3_1, c3_2⟩ := ed c3
  obtain ⟨y4, y4_e, hR⟩ := bindE hR
  have y4_k := fun bs H => kA bs H F (cv1.rules.take i.toNat) n y4 y4_e
  rcases iteE hR with ⟨c5, hR⟩ | ⟨c5, hR⟩
  ·obtain rfl := someE hR
   try refine zu ?_
   (refine yw1 (id := 1) oz49 [(6, 10), (6, 11)] ?_)
   exact zv
  ·obtain rfl := someE hR
   try refine zu ?_
   (refine yw1 (id := 1) oz49 [(6, 10), (6, 11)] ?_)
   exact zv
 ·obtain ⟨y6, y6_e, hR⟩ := bindE hR
  have y6_k := fun bs H => kA bs H F (cv1.rules.take i.toNat) n y6 y6_e
  rcases iteE hR with ⟨c7, hR⟩ | ⟨c7, hR⟩
  ·obtain rfl := someE hR
   try refine zu ?_
   (refine yw1 (id := 1) oz49 [(6, 10), (6, 11)] ?_)
   exact zv
  ·obtain rfl := someE hR
   try refine zu ?_
   (refine yw1 (id := 1) oz49 [(6, 10), (6, 11)] ?_)
   exact zv
def cd (F : Nat) (l : List Int) (cv0 : Desg) (cv1 : Attr) : Nat → Nat → Option (Oc (Nat × Int) (Unit))
 | 0, _ => none
 | k + 1, s1 => (if (decide ((s1 : Int) < (l.length : Int))) = true then ((l[s1]?).bind fun x4 => ((bn F cv0 cv1 (s1 : Int) x4).bind fun y5 => (if (decide (¬y5 = 0)) = true then some (.a (s1, y5)) else (if inI ((s1 : Int) + 1) then cd F l cv0 cv1 k (s1 + 1) else none)))) else some (.b ()))
theorem pB (bs : List Nat) (H : Heap) (F : Nat) (ca0 : Nat) (ca1 : Nat) (cv0 : Desg) (cv1 : Attr) (hca0 : H[ca0]? = some (.cells [.str cv0.name, .list (cv0.inputs.map encPort), .list (cv0.elements.map encElem), .list (cv0.nodes.map encNode), .list (cv0.rules.map encRul), .list (cv0.outs.map encOutp), .list (cv0.attrs.map encAttr)])) (hca1 : H[ca1]? = some (.cells [.int .i64 cv1.kind, .list (cv1.rules.map (V.int .i64))])) (l : List Int) : ∀ k s r ρ H', (∃ J2, H' = H ++ J2 ∧ ρ 1 = .func 121 [.ptr ca0 0, .ptr ca1 0] ∧ ρ 9 = .list (l.map (V.int .i64)) ∧ ρ 10 = .int .i64 (l.length : Int) ∧ ρ 11 = .int .i64 (s : Int)) → cd F l cv0 cv1 k s = some r → Lp X ⟨25, H.length :: bs⟩ (loopAt Tryz.f70 0) ρ H' ((fun r ex ρ H' => match r with | .a r => ∃ J2, H' = H ++ J2 ∧ ex = .ret ∧ ρ 4 = .int .i64 (r.1 : Int) ∧ ρ 5 = .int .i64 r.2 | .b r => ∃ J2, H' = H ++ J2 ∧ ex = .exit 0) r) := by
 refine ae (fun _ => rfl) ?_
 rintro k s1 r ρ H' ⟨J2, hH, h1, h9, h10, h11⟩ hR
 skip
 subst hH
 rw [cd] at hR
 have hca0_l := aa hca0
 have hca0_a := get_app' hca0
 have hca1_l := aa hca1
 have hca1_a := get_app' hca1
 conv => arg 3; whnf
 try refine zw ?_
 rcases iteE hR with ⟨c3, hR⟩ | ⟨c3, hR⟩
 ·obtain ⟨x4, x4_e, hR⟩ := bindE hR
  obtain ⟨y5, y5_e, hR⟩ := bindE hR
  have y5_k := fun (bs : List Nat) (l : Heap) => gE bs (H ++ l) F ca0 ca1 cv0 cv1 gt gt (s1 : Int) x4 y5 y5_e
  have y5_k0 := fun (bs : List Nat) => gE bs H F ca0 ca1 cv0 cv1 gt gt (s1 : Int) x4 y5 y5_e
  try refine zw ?_
  clear y5_k y5_k0
  rcases iteE hR with ⟨c6, hR⟩ | ⟨c6, hR⟩
  ·obtain rfl := someE hR
   refine zu ?_
   exact ⟨_, hq, rfl, sl, sl⟩
  ·obtain ⟨g7, hR⟩ := grdE hR
   have g7_w := ac g7
   refine zu ?_
   exact ⟨(s1 + 1), ⟨_, hq, sl, sl, sl, sl⟩, hR.out⟩
 ·obtain rfl := someE hR
  refine zu ?_
  exact ⟨_, hq, rfl⟩
def eG (F : Nat) (l : List Int) (cv0 : Desg) (cv1 : Attr) : List Int → Nat → Unit → Option (Oc (Nat × Int) (Unit))
 | [], s1, _ => some (.b ())
 | x_ :: r_, s1, _ => ((bn F cv0 cv1 (s1 : Int) x_).bind fun y5 => (if (decide (¬y5 = 0)) = true then some (.a (s1, y5)) else eG F l cv0 cv1 r_ (s1 + 1) ()))
theorem jN (F : Nat) (l : List Int) (cv0 : Desg) (cv1 : Attr) (hl_ : l.length ≤ 1000000) : ∀ r_ i_ k_ (o_ : Unit), l.drop i_ = r_ → r_.length < k_ → cd F l cv0 cv1 k_ i_ = eG F l cv0 cv1 r_ i_ o_
 | _, _, 0, _, _, hk => absurd hk (Nat.not_lt_zero _)
 | [], i_, k_ + 1, _, hd, _ => by rw [cd, eG]; simp only [ai hd, Bool.false_eq_true, if_false]
 | x_ :: r_, i_, k_ + 1, _, hd, hk => by
  have ih := jN F l cv0 cv1 hl_ r_ (i_ + 1) k_ () (ah hd) (Nat.lt_of_succ_lt_succ hk)
  rw [cd, eG]; simp only [aq hd, ak hd, if_pos (av hd hl_), Option.bind_some, if_true, ih]
def gx (F : Nat) (cv0 : Desg) (cv1 : Attr) (l : List Int) : Option (Int × Int) := ((cd F l cv0 cv1 F 0).bind fun o8 => match o8 with | .a o9 => some ((o9.1 : Int), o9.2) | .b o11 => some (0, 0))
theorem rz (bs : List Nat) (H : Heap) (F : Nat) (ca0 : Nat) (ca1 : Nat) (cv0 : Desg) (cv1 : Attr) (hca0 : H[ca0]? = some (.cells [.str cv0.name, .list (cv0.inputs.map encPort), .list (cv0.elements.map encElem), .list (cv0.nodes.map encNode), .list (cv0.rules.map encRul), .list (cv0.outs.map encOutp), .list (cv0.attrs.map encAttr)])) (hca1 : H[ca1]? = some (.cells [.int .i64 cv1.kind, .list (cv1.rules.map (V.int .i64))])) (l : List Int) (R : Int × Int) (hR0 : gx F cv0 cv1 l = some R) : callw X bs 70 [.list (l.map (V.int .i64)), .func 121 [.ptr ca0 0, .ptr ca1 0]] H = some (.tuple [.int .i64 R.1, .int .i64 R.2], H) := by
 refine yw2 (rs := [.tmp 4, .tmp 5]) (N := 25) (fn := Tryz.f70) xk70 Tryz.func70 ?_
 have hca0_l := aa hca0
 have hca0_a := get_app' hca0
 have hca1_l := aa hca1
 have hca1_a := get_app' hca1
 have hR := Kp.mk hR0
 clear hR0
 rw [gx] at hR
 obtain ⟨o8, o8_e, hR⟩ := bindE hR
 refine zu ?_
 refine ab (af (c := (loopAt Tryz.f70 0)) rfl (pB _ H F ca0 ca1 cv0 cv1 hca0 hca1 l _ 0 o8 _ _ ⟨[], by simp, sl, sl, sl, sl⟩ o8_e)) ?_
 rcases o8 with o9 | o11
 ·rintro ex ρ' H' ⟨J10, rfl, rfl, q4_o9, q5_o9⟩ hf
  clear hf
  obtain rfl := someE hR
  exact zv
 ·rintro ex ρ' H' ⟨J12, rfl, rfl⟩ hf
  clear hf
  obtain rfl := someE hR
  exact zv
def bE (F : Nat) (cv0 : Desg) (a0_ : Int) (a : Attr) : Option (Int) := ((gx F cv0 a a.rules).bind fun y1 => (if (decide ((0 : Int) ≤ a.kind) && decide (a.kind ≤ 3)) = true then (if (decide ((1 : Int) ≤ (a.rules.length : Int)) && decide ((a.rules.length : Int) ≤ 16)) = true then (if (decide (¬y1.2 = 0)) = true then some y1.2 else some 0) else some 10) else (if (decide ((1 : Int) ≤ (a.rules.length : Int)) && decide ((a.rules.length : Int) ≤ 16)) = true then some 15 else some 15)))
theorem gW (bs : List Nat) (H : Heap) (F : Nat) (ca0 : Nat) (cv0 : Desg) (hca0 : H[ca0]? = some (.cells [.str cv0.name, .list (cv0.inputs.map encPort), .list (cv0.elements.map encElem), .list (cv0.nodes.map encNode), .list (cv0.rules.map encRul), .list (cv0.outs.map encOutp), .list (cv0.attrs.map encAttr)])) (a0_ : Int) (a : Attr) (R : Int) (hR0 : bE F cv0 a0_ a = some R) : callw X bs 120 [.int .i64 a0_, (encAttr a), .ptr ca0 0] H = some (.int .i64 R, H) := by
 refine yw2 (rs := [.tmp 5]) (N := 27) (fn := Tryz.f120) C5 Tryz.func120 ?_
 have hca0_l := aa hca0
 have hca0_a := get_app' hca0
 have hR := Kp.mk hR0
 clear hR0
 rw [bE] at hR
 (try simp only [cellsAttr, encAttr, encInts])
 obtain ⟨y1, y1_e, hR⟩ := bindE hR
 have y1_k := fun (bs : List Nat) (J : Heap) => rz bs (H ++ .cells [.int .i64 a.kind, .list (a.rules.map (V.int .i64))] :: J) F ca0 H.length cv0 a gt gt a.rules y1 y1_e
 rcases iteE hR with ⟨c2, hR⟩ | ⟨c2, hR⟩
 ·obtain ⟨c2_1, c2_2⟩ := ed c2
  rcases iteE hR with ⟨c3, hR⟩ | ⟨c3, hR⟩
  ·obtain ⟨c3_1, c3_2⟩ := ed c3
   rcases iteE hR with ⟨c4, hR⟩ | ⟨c4, hR⟩
   ·have c4_p := of_decide_eq_true c4
    obtain rfl := someE hR
    try refine zu ?_
    (refine yw1 (id := 2) oz40 oz21 ?_)
    exact zv
   ·have c4_p := Decidable.not_not.1 (of_decide_eq_false c4)
    obtain rfl := someE hR
    try refine zu ?_
    (refine yw1 (id := 2) oz40 oz21 ?_)
    exact zv
  ·obtain rfl := someE hR
   try refine zu ?_
   (refine yw1 (id := 2) oz40 oz21 ?_)
   exact zv
 ·rcases iteE hR with ⟨c5, hR⟩ | ⟨c5, hR⟩
  ·obtain ⟨c5_1, c5_2⟩ := ed c5
   obtain rfl := someE hR
   try refine zu ?_
   (refine yw1 (id := 2) oz40 oz21 ?_)
   exact zv
  ·obtain rfl := someE hR
   try refine zu ?_
   (refine yw1 (id := 2) oz40 oz21 ?_)
   exact zv
def ce (F : Nat) (l : List Attr) (cv0 : Desg) : Nat → Nat → Option (Oc (Nat × Int) (Unit))
 | 0, _ => none
 | k + 1, s1 => (if (decide ((s1 : Int) < (l.length : Int))) = true then ((l[s1]?).bind fun x4 => ((bE F cv0 (s1 : Int) x4).bind fun y5 => (if (decide (¬y5 = 0)) = true then some (.a (s1, y5)) else (if inI ((s1 : Int) + 1) then ce F l cv0 k (s1 + 1) else none)))) else some (.b ()))
theorem pC (bs : List Nat) (H : Heap) (F : Nat) (ca0 : Nat) (cv0 : Desg) (hca0 : H[ca0]? = some (.cells [.str cv0.name, .list (cv0.inputs.map encPort), .list (cv0.elements.map encElem), .list (cv0.nodes.map encNode), .list (cv0.rules.map encRul), .list (cv0.outs.map encOutp), .list (cv0.attrs.map encAttr)])) (l : List Attr) : ∀ k s r ρ H', (∃ J2, H' = H ++ J2 ∧ ρ 1 = .func 120 [.ptr ca0 0] ∧ ρ 9 = .list (l.map encAttr) ∧ ρ 10 = .int .i64 (l.length : Int) ∧ ρ 11 = .int .i64 (s : Int)) → ce F l cv0 k s = some r → Lp X ⟨25, H.length :: bs⟩ (loopAt Tryz.f119 0) ρ H' ((fun r ex ρ H' => match r with | .a r => ∃ J2, H' = H ++ J2 ∧ ex = .ret ∧ ρ 4 = .int .i64 (r.1 : Int) ∧ ρ 5 = .int .i64 r.2 | .b r => ∃ J2, H' = H ++ J2 ∧ ex = .exit 0) r) := by
 refine ae (fun _ => rfl) ?_
 rintro k s1 r ρ H' ⟨J2, hH, h1, h9, h10, h11⟩ hR
 skip
 subst hH
 rw [ce] at hR
 have hca0_l := aa hca0
 have hca0_a := get_app' hca0
 conv => arg 3; whnf
 try refine zw ?_
 rcases iteE hR with ⟨c3, hR⟩ | ⟨c3, hR⟩
 ·obtain ⟨x4, x4_e, hR⟩ := bindE hR
  obtain ⟨y5, y5_e, hR⟩ := bindE hR
  have y5_k := fun (bs : List Nat) (l : Heap) => gW bs (H ++ l) F ca0 cv0 gt (s1 : Int) x4 y5 y5_e
  (try simp only [cellsAttr, encAttr, encInts] at y5_k)
  have y5_k0 := fun (bs : List Nat) => gW bs H F ca0 cv0 gt (s1 : Int) x4 y5 y5_e
  (try simp only [cellsAttr, encAttr, encInts] at y5_k0)
  try refine zw ?_
  clear y5_k y5_k0
  rcases iteE hR with ⟨c6, hR⟩ | ⟨c6, hR⟩
  ·obtain rfl := someE hR
   refine zu ?_
   exact ⟨_, hq, rfl, sl, sl⟩
  ·obtain ⟨g7, hR⟩ := grdE hR
   have g7_w := ac g7
   refine zu ?_
   exact ⟨(s1 + 1), ⟨_, hq, sl, sl, sl, sl⟩, hR.out⟩
 ·obtain rfl := someE hR
  refine zu ?_
  exact ⟨_, hq, rfl⟩
def eH (F : Nat) (l : List Attr) (cv0 : Desg) : List Attr → Nat → Unit → Option (Oc (Nat × Int) (Unit))
 | [], s1, _ => some (.b ())
 | x_ :: r_, s1, _ => ((bE F cv0 (s1 : Int) x_).bind fun y5 => (if (decide (¬y5 = 0)) = true then some (.a (s1, y5)) else eH F l cv0 r_ (s1 + 1) ()))
theorem jO (F : Nat) (l : List Attr) (cv0 : Desg) (hl_ : l.length ≤ 1000000) : ∀ r_ i_ k_ (o_ : Unit), l.drop i_ = r_ → r_.length < k_ → ce F l cv0 k_ i_ = eH F l cv0 r_ i_ o_
 | _, _, 0, _, _, hk => absurd hk (Nat.not_lt_zero _)
 | [], i_, k_ + 1, _, hd, _ => by rw [ce, eH]; simp only [ai hd, Bool.false_eq_true, if_false]
 | x_ :: r_, i_, k_ + 1, _, hd, hk => by
  have ih := jO F l cv0 hl_ r_ (i_ + 1) k_ () (ah hd) (Nat.lt_of_succ_lt_succ hk)
  rw [ce, eH]; simp only [aq hd, ak hd, if_pos (av hd hl_), Option.bind_some, if_true, ih]
def gy (F : Nat) (cv0 : Desg) (l : List Attr) : Option (Int × Int) := ((ce F l cv0 F 0).bind fun o8 => match o8 with | .a o9 => some ((o9.1 : Int), o9.2) | .b o11 => some (0, 0))
theorem lO (bs : List Nat) (H : Heap) (F : Nat) (ca0 : Nat) (cv0 : Desg) (hca0 : H[ca0]? = some (.cells [.str cv0.name, .list (cv0.inputs.map encPort), .list (cv0.elements.map encElem), .list (cv0.nodes.map encNode), .list (cv0.rules.map encRul), .list (cv0.outs.map encOutp), .list (cv0.attrs.map encAttr)])) (l : List Attr) (R : Int × Int) (hR0 : gy F cv0 l = some R) : callw X bs 119 [.list (l.map encAttr), .func 120 [.ptr ca0 0]] H = some (.tuple [.int .i64 R.1, .int .i64 R.2], H) := by
 refine yw2 (rs := [.tmp 4, .tmp 5]) (N := 25) (fn := Tryz.f119) C4 Tryz.func119 ?_
 have hca0_l := aa hca0
 have hca0_a := get_app' hca0
 have hR := Kp.mk hR0
 clear hR0
 rw [gy] at hR
 obtain ⟨o8, o8_e, hR⟩ := bindE hR
 refine zu ?_
 refine ab (af (c := (loopAt Tryz.f119 0)) rfl (pC _ H F ca0 cv0 hca0 l _ 0 o8 _ _ ⟨[], by simp, sl, sl, sl, sl⟩ o8_e)) ?_
 rcases o8 with o9 | o11
 ·rintro ex ρ' H' ⟨J10, rfl, rfl, q4_o9, q5_o9⟩ hf
  clear hf
  obtain rfl := someE hR
  exact zv
 ·rintro ex ρ' H' ⟨J12, rfl, rfl⟩ hf
  clear hf
  obtain rfl := someE hR
  exact zv
def eY (F : Nat) (cv0 : Desg) : Option (Int × Int) := ((gy F cv0 cv0.attrs).bind fun y1 => some (y1.1, y1.2))
theorem mq (bs : List Nat) (H : Heap) (F : Nat) (ca0 : Nat) (cv0 : Desg) (hca0 : H[ca0]? = some (.cells [.str cv0.name, .list (cv0.inputs.map encPort), .list (cv0.elements.map encElem), .list (cv0.nodes.map encNode), .list (cv0.rules.map encRul), .list (cv0.outs.map encOutp), .list (cv0.attrs.map encAttr)])) (R : Int × Int) (hR0 : eY F cv0 = some R) : callw X bs 118 [.ptr ca0 0] H = some (.tuple [.int .i64 R.1, .int .i64 R.2], H) := by
 refine yw2 (rs := [.tmp 1, .tmp 2]) (N := 9) (fn := Tryz.f118) C3 Tryz.func118 ?_
 have hca0_l := aa hca0
 have hca0_a := get_app' hca0
 have hR := Kp.mk hR0
 clear hR0
 rw [eY] at hR
 obtain ⟨y1, y1_e, hR⟩ := bindE hR
 have y1_k := fun (bs : List Nat) (l : Heap) => lO bs (H ++ l) F ca0 cv0 gt cv0.attrs y1 y1_e
 have y1_k0 := fun (bs : List Nat) => lO bs H F ca0 cv0 gt cv0.attrs y1 y1_e
 obtain rfl := someE hR
 exact zv
def eI (F : Nat) (d : Desg) : Option (Int × Int) := ((fh F d).bind fun y4 => (if (decide (¬y4.2 = 0)) = true then some (y4.1, y4.2) else ((fi F d [] []).bind fun y6 => (if (decide (¬y6.2.1 = 0)) = true then some (y6.1, y6.2.1) else ((fj F d).bind fun y8 => (if (decide (¬y8.2 = 0)) = true then some (y8.1, y8.2) else ((fk F d y6.2.2.1).bind fun y10 => (if (decide (¬y10.2.1 = 0)) = true then some (y10.1, y10.2.1) else ((fl F d).bind fun y12 => (if (decide (¬y12.2 = 0)) = true then some (y12.1, y12.2) else ((fm F d).bind fun y14 => (if (decide (¬y14.2 = 0)) = true then some (y14.1, y14.2) else ((fq F d []).bind fun y16 => (if (decide (¬y16.2.1 = 0)) = true then some (y16.1, y16.2.1) else ((ft F d).bind fun y18 => (if (decide (¬y18.2 = 0)) = true then some (y18.1, y18.2) else ((fu F d []).bind fun y20 => (if (decide (¬y20.2.1 = 0)) = true then some (y20.1, y20.2.1) else ((eX F d).bind fun y22 => (if (decide (¬y22.2 = 0)) = true then some (y22.1, y22.2) else ((eY F d).bind fun y24 => (if (decide (¬y24.2 = 0)) = true then some (y24.1, y24.2) else some (0, 0)))))))))))))))))))))))
theorem nW (bs : List Nat) (H : Heap) (F : Nat) (d : Desg) (R : Int × Int) (hR0 : eI F d = some R) : callw X bs 36 [(encDesg d)] H = some (.tuple [.int .i64 R.1, .int .i64 R.2], H) := by
 refine yw2 (rs := [.tmp 2, .tmp 3]) (N := 43) (fn := Tryz.f36) xk36 Tryz.func36 ?_
 have hR := Kp.mk hR0
 clear hR0
 rw [eI] at hR
 (try simp only [cellsDesg, encDesg, encInts])
 refine zu ?_
 refine dg ?_
 obtain ⟨y4, y4_e, hR⟩ := bindE hR
 have y4_k := fun (bs : List Nat) (J : Heap) => mU bs (H ++ .cells [.str d.name, .list (d.inputs.map encPort), .list (d.elements.map encElem), .list (d.nodes.map encNode), .list (d.rules.map encRul), .list (d.outs.map encOutp), .list (d.attrs.map encAttr)] :: J) F H.length d gt y4 y4_e
 try refine zw ?_
 clear y4_k
 rcases iteE hR with ⟨c5, hR⟩ | ⟨c5, hR⟩
 ·obtain rfl := someE hR
  exact zv
 ·have wl1 : IntKind.i64.wrap 1 = 1 := by rw [bi] <;> omega
  refine zu ?_
  refine dg ?_
  obtain ⟨y6, y6_e, hR⟩ := bindE hR
  have y6_k := fun (bs : List Nat) (u0 u1 : HObj) (J : Heap) => by
   have h_ := mV bs (H ++ .cells [.str d.name, .list (d.inputs.map encPort), .list (d.elements.map encElem), .list (d.nodes.map encNode), .list (d.rules.map encRul), .list (d.outs.map encOutp), .list (d.attrs.map encAttr)] :: .map [] :: .cells [.map (H.length + 1)] :: .map [] :: u0 :: u1 :: .cells [.map (H.length + 3)] :: J) F H.length (H.length + 2) (H.length + 1) (H.length + 6) (H.length + 3) d [] [] gt gt ln gt ln om om om om om om om y6 y6_e
   (try simp only [ax, an, aX, aJ, aM, az, List.set_cons_succ, List.set_cons_zero, List.set_set, aj] at h_)
   exact h_
  try refine zw ?_
  clear y6_k
  rcases iteE hR with ⟨c7, hR⟩ | ⟨c7, hR⟩
  ·obtain rfl := someE hR
   exact zv
  ·have wl2 : IntKind.i64.wrap 2 = 2 := by rw [bi] <;> omega
   refine zu ?_
   refine dg ?_
   obtain ⟨y8, y8_e, hR⟩ := bindE hR
   have y8_k := fun (bs : List Nat) (J : Heap) => mW bs (H ++ .cells [.str d.name, .list (d.inputs.map encPort), .list (d.elements.map encElem), .list (d.nodes.map encNode), .list (d.rules.map encRul), .list (d.outs.map encOutp), .list (d.attrs.map encAttr)] :: J) F H.length d gt y8 y8_e
   try refine zw ?_
   clear y8_k
   rcases iteE hR with ⟨c9, hR⟩ | ⟨c9, hR⟩
   ·obtain rfl := someE hR
    exact zv
   ·have wl3 : IntKind.i64.wrap 3 = 3 := by rw [bi] <;> omega
    refine zu ?_
    refine dg ?_
    obtain ⟨y10, y10_e, hR⟩ := bindE hR
    have y10_k := fun (bs : List Nat) (J : Heap) => by
     have h_ := mX bs (H ++ .cells [.str d.name, .list (d.inputs.map encPort), .list (d.elements.map encElem), .list (d.nodes.map encNode), .list (d.rules.map encRul), .list (d.outs.map encOutp), .list (d.attrs.map encAttr)] :: .map (namesM y6.2.2.1) :: .cells [.map (H.length + 1)] :: J) F H.length (H.length + 2) (H.length + 1) d y6.2.2.1 gt gt ln om om y10 y10_e
     (try simp only [ax, an, aX, aJ, aM, az, List.set_cons_succ, List.set_cons_zero, List.set_set, aj] at h_)
     exact h_
    try refine zw ?_
    clear y10_k
    rcases iteE hR with ⟨c11, hR⟩ | ⟨c11, hR⟩
    ·obtain rfl := someE hR
     exact zv
    ·have wl4 : IntKind.i64.wrap 4 = 4 := by rw [bi] <;> omega
     refine zu ?_
     refine dg ?_
     obtain ⟨y12, y12_e, hR⟩ := bindE hR
     have y12_k := fun (bs : List Nat) (J : Heap) => mY bs (H ++ .cells [.str d.name, .list (d.inputs.map encPort), .list (d.elements.map encElem), .list (d.nodes.map encNode), .list (d.rules.map encRul), .list (d.outs.map encOutp), .list (d.attrs.map encAttr)] :: J) F H.length d gt y12 y12_e
     try refine zw ?_
     clear y12_k
     rcases iteE hR with ⟨c13, hR⟩ | ⟨c13, hR⟩
     ·obtain rfl := someE hR
      exact zv
     ·have wl5 : IntKind.i64.wrap 5 = 5 := by rw [bi] <;> omega
      refine zu ?_
      refine dg ?_
      obtain ⟨y14, y14_e, hR⟩ := bindE hR
      have y14_k := fun (bs : List Nat) (J : Heap) => mZ bs (H ++ .cells [.str d.name, .list (d.inputs.map encPort), .list (d.elements.map encElem), .list (d.nodes.map encNode), .list (d.rules.map encRul), .list (d.outs.map encOutp), .list (d.attrs.map encAttr)] :: J) F H.length d gt y14 y14_e
      try refine zw ?_
      clear y14_k
      rcases iteE hR with ⟨c15, hR⟩ | ⟨c15, hR⟩
      ·obtain rfl := someE hR
       exact zv
      ·have wl6 : IntKind.i64.wrap 6 = 6 := by rw [bi] <;> omega
       refine zu ?_
       refine dg ?_
       obtain ⟨y16, y16_e, hR⟩ := bindE hR
       have y16_k := fun (bs : List Nat) (u0 u1 u2 u3 u4 : HObj) (J : Heap) => by
        have h_ := na bs (H ++ .cells [.str d.name, .list (d.inputs.map encPort), .list (d.elements.map encElem), .list (d.nodes.map encNode), .list (d.rules.map encRul), .list (d.outs.map encOutp), .list (d.attrs.map encAttr)] :: u0 :: u1 :: u2 :: .map [] :: u3 :: u4 :: .cells [.map (H.length + 4)] :: J) F H.length (H.length + 7) (H.length + 4) d [] gt gt ln om om y16 y16_e
        (try simp only [ax, an, aX, aJ, aM, az, List.set_cons_succ, List.set_cons_zero, List.set_set, aj] at h_)
        exact h_
       try refine zw ?_
       clear y16_k
       rcases iteE hR with ⟨c17, hR⟩ | ⟨c17, hR⟩
       ·obtain rfl := someE hR
        exact zv
       ·have wl7 : IntKind.i64.wrap 7 = 7 := by rw [bi] <;> omega
        refine zu ?_
        refine dg ?_
        obtain ⟨y18, y18_e, hR⟩ := bindE hR
        have y18_k := fun (bs : List Nat) (J : Heap) => nf bs (H ++ .cells [.str d.name, .list (d.inputs.map encPort), .list (d.elements.map encElem), .list (d.nodes.map encNode), .list (d.rules.map encRul), .list (d.outs.map encOutp), .list (d.attrs.map encAttr)] :: J) F H.length d gt y18 y18_e
        try refine zw ?_
        clear y18_k
        rcases iteE hR with ⟨c19, hR⟩ | ⟨c19, hR⟩
        ·obtain rfl := someE hR
         exact zv
        ·have wl8 : IntKind.i64.wrap 8 = 8 := by rw [bi] <;> omega
         refine zu ?_
         refine dg ?_
         obtain ⟨y20, y20_e, hR⟩ := bindE hR
         have y20_k := fun (bs : List Nat) (u0 u1 u2 u3 u4 u5 : HObj) (J : Heap) => by
          have h_ := ng bs (H ++ .cells [.str d.name, .list (d.inputs.map encPort), .list (d.elements.map encElem), .list (d.nodes.map encNode), .list (d.rules.map encRul), .list (d.outs.map encOutp), .list (d.attrs.map encAttr)] :: u0 :: u1 :: u2 :: u3 :: .map [] :: u4 :: u5 :: .cells [.map (H.length + 5)] :: J) F H.length (H.length + 8) (H.length + 5) d [] gt gt ln om om y20 y20_e
          (try simp only [ax, an, aX, aJ, aM, az, List.set_cons_succ, List.set_cons_zero, List.set_set, aj] at h_)
          exact h_
         try refine zw ?_
         clear y20_k
         rcases iteE hR with ⟨c21, hR⟩ | ⟨c21, hR⟩
         ·obtain rfl := someE hR
          exact zv
         ·have wl9 : IntKind.i64.wrap 9 = 9 := by rw [bi] <;> omega
          refine zu ?_
          refine dg ?_
          obtain ⟨y22, y22_e, hR⟩ := bindE hR
          have y22_k := fun (bs : List Nat) (J : Heap) => mo bs (H ++ .cells [.str d.name, .list (d.inputs.map encPort), .list (d.elements.map encElem), .list (d.nodes.map encNode), .list (d.rules.map encRul), .list (d.outs.map encOutp), .list (d.attrs.map encAttr)] :: J) F H.length d gt y22 y22_e
          try refine zw ?_
          clear y22_k
          rcases iteE hR with ⟨c23, hR⟩ | ⟨c23, hR⟩
          ·obtain rfl := someE hR
           exact zv
          ·have wl10 : IntKind.i64.wrap 10 = 10 := by rw [bi] <;> omega
           refine zu ?_
           refine dg ?_
           obtain ⟨y24, y24_e, hR⟩ := bindE hR
           have y24_k := fun (bs : List Nat) (J : Heap) => mq bs (H ++ .cells [.str d.name, .list (d.inputs.map encPort), .list (d.elements.map encElem), .list (d.nodes.map encNode), .list (d.rules.map encRul), .list (d.outs.map encOutp), .list (d.attrs.map encAttr)] :: J) F H.length d gt y24 y24_e
           try refine zw ?_
           clear y24_k
           rcases iteE hR with ⟨c25, hR⟩ | ⟨c25, hR⟩
           ·obtain rfl := someE hR
            exact zv
           ·have wl11 : IntKind.i64.wrap 11 = 11 := by rw [bi] <;> omega
            refine zu ?_
            refine dg ?_
            obtain rfl := someE hR
            exact zv
def fI (F : Nat) (d : Desg) : Option (Desg × Int) := ((eI F d).bind fun y1 => some (d, y1.2))
theorem kg (bs : List Nat) (H : Heap) (F : Nat) (d : Desg) (R : Desg × Int) (hR0 : fI F d = some R) : callw X bs 58 [(encDesg d)] H = some (.tuple [(encDesg R.1), .int .i64 R.2], H) := by
 refine yw2 (rs := [.cell 2 114, .tmp 3]) (N := 14) (fn := Tryz.f58) xk58 Tryz.func58 ?_
 have hR := Kp.mk hR0
 clear hR0
 rw [fI] at hR
 (try simp only [cellsDesg, encDesg, encInts])
 obtain ⟨y1, y1_e, hR⟩ := bindE hR
 have y1_k := fun bs H => nW bs H F d y1 y1_e
 (try simp only [cellsDesg, encDesg, encInts] at y1_k)
 obtain rfl := someE hR
 exact zv
end
end Go.E
namespace Go.E
theorem yD (s t : ByteArray) : ∀ ns : List ByteArray, hasName s (addName t ns) = (decide (s = t) || hasName s ns)
 | [] => by simp [addName, hasName]
 | u :: r => by
  simp only [addName]
  by_cases h : t = u
  ·subst h
   simp [hasName]
  ·rw [if_neg h]
   simp only [hasName, yD s t r]
   cases decide (s = u) <;> cases decide (s = t) <;> rfl
theorem tA {α : Type} (nm : α → ByteArray) (g : Nat → α → List ByteArray → Int × List ByteArray) (e : α → Int) (before : ByteArray → Bool)
  (hg : ∀ i x ns, g i x ns = (firstL [nameErr ns (nm x), e x], addName (nm x) ns)) (full : List α) (f : Nat → α → Int)
  (hf : ∀ i x, full[i]? = some x → f i x = if isNameS (nm x) = false then 4 else if ((full.take i).any (fun q => decide (nm q = nm x)) || before (nm x)) = true then 5 else e x) :
  ∀ (rest : List α) (i : Nat) (ns : List ByteArray), full.drop i = rest → (∀ s, hasName s ns = ((full.take i).any (fun q => decide (nm q = s)) || before s)) →
   (eachL g i rest ns).1 = eachP f i rest ∧ ((eachP f i rest).2 = 0 → ∀ s, hasName s (eachL g i rest ns).2 = (full.any (fun q => decide (nm q = s)) || before s))
 | [], i, ns, hd, hn => by
  refine ⟨rfl, fun _ s => ?_⟩
  have : full.take i = full := List.take_of_length_le (by simpa using hd)
  simp only [eachL, hn, this]
 | x :: r, i, ns, hd, hn => by
  have hget : full[i]? = some x := by
   have := congrArg List.head? hd
   simpa [List.head?_drop] using this
  have he : (g i x ns).1 = f i x := by
   rw [hg, hf i x hget]
   simp only [firstL, nameErr, hn]
   cases h1 : isNameS (nm x) <;> cases h2 : ((full.take i).any (fun q => decide (nm q = nm x)) || before (nm x)) <;> simp <;> exact fun h => h.symm
  have hs : (g i x ns).2 = addName (nm x) ns := by rw [hg]
  simp only [eachL, eachP, he, hs]
  by_cases h0 : f i x = 0
  ·rw [if_neg (by simpa using h0), if_neg (by simpa using h0)]
   refine tA nm g e before hg full f hf r (i + 1) _ ?_ (fun s => ?_)
   ·rw [← List.drop_drop, hd]; rfl
   ·rw [yD, hn, List.take_add_one, hget]
    simp only [Option.toList_some, List.any_append, List.any_cons, List.any_nil, Bool.or_false]
    have : decide (s = nm x) = decide (nm x = s) := by simp only [decide_eq_decide]; exact eq_comm
    rw [this]
    cases decide (nm x = s) <;> cases (full.take i).any (fun q => decide (nm q = s)) <;> rfl
  ·rw [if_pos h0, if_pos h0]
   exact ⟨rfl, fun h => absurd h h0⟩
end Go.E
namespace Go.E
theorem qF {S O : Type} {L : Nat → S → Option O} (st : Nat → S) (n : Nat) (out : O)
  (step : ∀ k i, i < n → L (k + 1) (st i) = L k (st (i + 1))) (last : ∀ k, L (k + 1) (st n) = some out) : ∀ k i, i ≤ n → n - i < k → L k (st i) = some out
 | 0, _, _, h => absurd h (Nat.not_lt_zero _)
 | k + 1, i, hi, h => by
  rcases Nat.lt_or_ge i n with h1 | h1
  ·rw [step k i h1]; exact qF st n out step last k (i + 1) h1 (by omega)
  ·obtain rfl : i = n := by omega
   exact last k
theorem sB (p : Nat → Bool) : ∀ n, (∃ m, m < n ∧ p m = true ∧ ∀ j, j < m → p j = false) ∨ (∀ j, j < n → p j = false)
 | 0 => .inr fun j h => absurd h (Nat.not_lt_zero _)
 | n + 1 => by
  rcases sB p n with ⟨m, h1, h2, h3⟩ | h
  ·exact .inl ⟨m, by omega, h2, h3⟩
  ·cases hp : p n with
   | true => exact .inl ⟨n, by omega, hp, h⟩
   | false =>
    refine .inr fun j hj => ?_
    rcases Nat.lt_or_ge j n with h1 | h1
    ·exact h j h1
    ·obtain rfl : j = n := by omega
     exact hp
theorem HJ {A : Type} {L : Nat → Nat → Option (Oc A Unit)} (n : Nat) (p : Nat → Bool) (a : A)
  (step : ∀ k i, i < n → L (k + 1) i = if p i = true then some (.a a) else L k (i + 1)) (last : ∀ k, L (k + 1) n = some (.b ())) (k : Nat) (h : n < k) :
  L k 0 = some (if (List.range n).any p = true then .a a else .b ()) := by
 rcases sB p n with ⟨m, h1, h2, h3⟩ | h4
 ·have : (List.range n).any p = true := List.any_eq_true.2 ⟨m, List.mem_range.2 h1, h2⟩
  rw [if_pos this]
  exact qF (L := L) (fun i => i) m (.a a) (fun k i hi => by rw [step k i (by omega), h3 i hi]; simp) (fun k => by rw [step k m h1, if_pos h2]) k 0 (by omega) (by omega)
 ·have : (List.range n).any p = false := by
   rw [List.any_eq_false]; intro x hx; rw [h4 x (List.mem_range.1 hx)]; simp
  rw [this]
  exact qF (L := L) (fun i => i) n (.b ()) (fun k i hi => by rw [step k i hi, h4 i hi]; simp) last k 0 (by omega) (by omega)
theorem aS {α : Type} {l : List α} {i : Nat} (h : i < l.length) : l[i]? = some l[i] := by simp [h]
theorem B9 {α : Type} (l : List α) (q : α → Bool) (p : Nat → Bool) (n : Nat) (hn : n ≤ l.length) (hp : ∀ i x, i < n → l[i]? = some x → p i = q x) : (List.range n).any p = (l.take n).any q := by
 rw [Bool.eq_iff_iff, List.any_eq_true, List.any_eq_true]
 constructor
 ·rintro ⟨i, hi, h⟩
  have hi := List.mem_range.1 hi
  have hl : i < l.length := by omega
  have hg : l[i]? = some l[i] := by simp [hl]
  exact ⟨l[i], by rw [List.mem_take_iff_getElem]; exact ⟨i, by omega, rfl⟩, by rw [← hp i _ hi hg]; exact h⟩
 ·rintro ⟨x, hx, h⟩
  rw [List.mem_take_iff_getElem] at hx
  obtain ⟨i, hi, rfl⟩ := hx
  exact ⟨i, List.mem_range.2 (by omega), by rw [hp i _ (by omega) (aS (by omega))]; exact h⟩
theorem lt_n (i n : Nat) (h : i < n) : decide ((i : Int) < (n : Int)) = true := decide_eq_true (by omega)
theorem pD (n : Nat) : decide ((n : Int) < (n : Int)) = false := decide_eq_false (by omega)
theorem in_1 {i : Nat} (h : i ≤ 1000000) : inI ((i : Int) + 1) := by unfold inI; omega
theorem in_m {i : Nat} (h : i ≤ 1000000) : inI ((i : Int) - 1) := by unfold inI; omega
theorem lf {α : Type} {l : List α} {i : Int} (h0 : 0 ≤ i) (h : i < l.length) : ∃ x, idxI l i = some x ∧ l[i.toNat]? = some x := by
 refine ⟨l[i.toNat]'(by omega), ?_, ?_⟩
 ·unfold idxI; rw [if_pos h0, aS]
 ·rw [aS]
def ocE {α S : Type} (g : Nat → α → S → Int × S) : Nat → List α → S → Oc (Nat × Int × S) S
 | _, [], s => .b s
 | i, x :: r, s => if (g i x s).1 = 0 then ocE g (i + 1) r (g i x s).2 else .a (i, g i x s)
def ocEv {S : Type} : Oc (Nat × Int × S) S → (Int × Int) × S
 | .a o => (((o.1 : Int), o.2.1), o.2.2)
 | .b s => ((0, 0), s)
theorem tB {α S : Type} (g : Nat → α → S → Int × S) : ∀ l i s, ocEv (ocE g i l s) = eachL g i l s
 | [], _, _ => rfl
 | x :: r, i, s => by
  simp only [ocE, eachL]
  by_cases h : (g i x s).1 = 0
  ·rw [if_pos h, if_neg (by simpa using h)]; exact tB g r (i + 1) _
  ·rw [if_neg h, if_pos h]; rfl
theorem qG {α S : Type} {L : List α → Nat → S → Option (Oc (Nat × Int × S) S)} (f : Nat → α → S → Option (Int × S)) (g : Nat → α → S → Int × S) (h0 : ∀ i s, L [] i s = some (.b s))
  (h1 : ∀ x r i s, L (x :: r) i s = (f i x s).bind fun y => if (decide (¬y.1 = 0)) = true then some (.a (i, y)) else L r (i + 1) y.2) :
  ∀ (l : List α) (i : Nat) (s : S), (∀ j x s, l[j]? = some x → f (i + j) x s = some (g (i + j) x s)) → L l i s = some (ocE g i l s)
 | [], i, s, _ => h0 i s
 | x :: r, i, s, hf => by
  have h2 := hf 0 x s rfl
  rw [h1, show f i x s = some (g i x s) from h2, Option.bind_some, ocE]
  by_cases h : (g i x s).1 = 0
  ·rw [if_pos h, if_neg (by simp [h])]
   exact qG f g h0 h1 r (i + 1) _ fun j y s hj => by have := hf (j + 1) y s (by simpa using hj); rwa [show i + 1 + j = i + (j + 1) by omega]
  ·rw [if_neg h, if_pos (by simp [h])]
def ocP {α : Type} (g : Nat → α → Int) : Nat → List α → Oc (Nat × Int) Unit
 | _, [] => .b ()
 | i, x :: r => if g i x = 0 then ocP g (i + 1) r else .a (i, g i x)
def ocPv : Oc (Nat × Int) Unit → Int × Int
 | .a o => ((o.1 : Int), o.2)
 | .b _ => (0, 0)
theorem jw {α : Type} (g : Nat → α → Int) : ∀ l i, ocPv (ocP g i l) = eachP g i l
 | [], _ => rfl
 | x :: r, i => by
  simp only [ocP, eachP]
  by_cases h : g i x = 0
  ·rw [if_pos h, if_neg (by simpa using h)]; exact jw g r (i + 1)
  ·rw [if_neg h, if_pos h]; rfl
theorem ji {α : Type} {L : List α → Nat → Unit → Option (Oc (Nat × Int) Unit)} (f : Nat → α → Option Int) (g : Nat → α → Int) (h0 : ∀ i s, L [] i s = some (.b s))
  (h1 : ∀ x r i s, L (x :: r) i s = (f i x).bind fun y => if (decide (¬y = 0)) = true then some (.a (i, y)) else L r (i + 1) ()) :
  ∀ (l : List α) (i : Nat), (∀ j x, l[j]? = some x → f (i + j) x = some (g (i + j) x)) → L l i () = some (ocP g i l)
 | [], i, _ => h0 i ()
 | x :: r, i, hf => by
  have h2 := hf 0 x rfl
  rw [h1, show f i x = some (g i x) from h2, Option.bind_some, ocP]
  by_cases h : g i x = 0
  ·rw [if_pos h, if_neg (by simp [h])]
   exact ji f g h0 h1 r (i + 1) fun j y hj => by have := hf (j + 1) y (by simpa using hj); rwa [show i + 1 + j = i + (j + 1) by omega]
  ·rw [if_neg h, if_pos (by simp [h])]
def ocN : Oc (Nat × Nat) Unit → Int × Int
 | .a o => ((o.1 : Int), (o.2 : Int))
 | .b _ => (0, 0)
theorem tC {α O : Type} {L : List α → Nat → Unit → Option O} (v : O → Int × Int) (g : Nat → α → Int) (full : List α) (h0 : ∀ i, ∃ o, L [] i () = some o ∧ v o = (0, 0))
  (h1 : ∀ x r i, full[i]? = some x → (g i x = 0 → L (x :: r) i () = L r (i + 1) ()) ∧ (g i x ≠ 0 → ∃ o, L (x :: r) i () = some o ∧ v o = ((i : Int), g i x))) :
  ∀ (l : List α) (i : Nat), full.drop i = l → ∃ o, L l i () = some o ∧ v o = eachP g i l
 | [], i, _ => h0 i
 | x :: r, i, hd => by
  obtain ⟨ha, hb⟩ := h1 x r i (ak hd)
  rw [eachP]
  by_cases h : g i x = 0
  ·rw [if_neg (by simpa using h), ha h]; exact tC v g full h0 h1 r (i + 1) (ah hd)
  ·rw [if_pos h]; exact hb h
theorem wP {α O : Type} {L : List α → Nat → Unit → Option O} (v : O → Int × Int) (g : Nat → α → Int) (full : List α) (e0 : O) (h0 : ∀ i, L [] i () = some e0) (hv : v e0 = (0, 0))
  (h1 : ∀ x r i, full[i]? = some x → (g i x = 0 → L (x :: r) i () = L r (i + 1) ()) ∧ (g i x ≠ 0 → ∃ o, L (x :: r) i () = some o ∧ v o = ((i : Int), g i x))) :
  ∀ (l : List α) (i : Nat), full.drop i = l → ∃ o, L l i () = some o ∧ v o = eachP g i l ∧ ((eachP g i l).2 = 0 → o = e0)
 | [], i, _ => ⟨e0, h0 i, hv, fun _ => rfl⟩
 | x :: r, i, hd => by
  obtain ⟨ha, hb⟩ := h1 x r i (ak hd)
  rw [eachP]
  by_cases h : g i x = 0
  ·rw [if_neg (by simpa using h), ha h]; exact wP v g full e0 h0 hv h1 r (i + 1) (ah hd)
  ·rw [if_pos h]
   obtain ⟨o, h2, h3⟩ := hb h
   exact ⟨o, h2, h3, fun h4 => absurd h4 h⟩
theorem gJ {P : Prop} [Decidable P] {o : Option Bool} {Q : Prop} (h : ¬P → ∃ b, o = some b ∧ (b = true → Q)) : ∃ b, (if decide P = true then some false else o) = some b ∧ (b = true → Q) := by
 by_cases hp : P
 ·exact ⟨false, by simp [hp], fun h => by cases h⟩
 ·obtain ⟨b, h1, h2⟩ := h hp
  exact ⟨b, by simpa [hp] using h1, h2⟩
theorem jy {o : Option (Oc Bool Unit)} {ok : Bool} {K : Oc Bool Unit → Option Bool} {Q : Prop} (ho : o = some (if ok = true then .b () else .a false)) (ha : K (.a false) = some false)
  (hb : ok = true → ∃ b, K (.b ()) = some b ∧ (b = true → Q)) : ∃ b, o.bind K = some b ∧ (b = true → Q) := by
 rw [ho, Option.bind_some]
 cases ok with
 | false => exact ⟨false, ha, fun h => by cases h⟩
 | true => exact hb rfl
theorem nK {α : Type} {L : List α → Nat → Unit → Option (Oc Bool Unit)} (q : α → Bool) (h0 : ∀ i, L [] i () = some (.b ())) (h1 : ∀ x r i, L (x :: r) i () = if q x = true then L r (i + 1) () else some (.a false)) :
  ∀ r i, L r i () = some (if r.all q = true then .b () else .a false)
 | [], i => h0 i
 | x :: r, i => by
  rw [h1, List.all_cons]
  cases q x with
  | false => simp
  | true => rw [if_pos rfl, Bool.true_and]; exact nK q h0 h1 r (i + 1)
theorem xR (a : Int × Int) (l : List (Int × Int)) : firstP (a :: l) = if a.2 = 0 then firstP l else a := by
 simp only [firstP]; by_cases h : a.2 = 0 <;> simp [h]
theorem tD {α : Type} (nm : α → ByteArray) (e : α → Int) : ∀ (l : List α) (i : Nat) (ns : List ByteArray),
  eachL (fun _ x (s : List ByteArray × List ByteArray) => (firstL [nameErr s.1 (nm x), nameErr s.2 (nm x), e x], (addName (nm x) s.1, addName (nm x) s.2))) i l (ns, ns)
   = ((eachL (fun _ x ns => (firstL [nameErr ns (nm x), e x], addName (nm x) ns)) i l ns).1, ((eachL (fun _ x ns => (firstL [nameErr ns (nm x), e x], addName (nm x) ns)) i l ns).2, (eachL (fun _ x ns => (firstL [nameErr ns (nm x), e x], addName (nm x) ns)) i l ns).2))
 | [], _, _ => rfl
 | x :: r, i, ns => by
  have h : firstL [nameErr ns (nm x), nameErr ns (nm x), e x] = firstL [nameErr ns (nm x), e x] := by
   simp only [firstL]; by_cases h : nameErr ns (nm x) = 0 <;> simp [h]
  simp only [eachL, h]
  by_cases h2 : firstL [nameErr ns (nm x), e x] = 0
  ·simp only [h2, ne_eq, not_true_eq_false, if_false]; exact tD nm e r (i + 1) _
  ·rw [if_pos h2, if_pos h2]
end Go.E
namespace Go.E
open Classical
structure FewD (d : Desg) : Prop where
 name : d.name.size ≤ 1000
 inputs : d.inputs.length ≤ 1000
 elements : d.elements.length ≤ 1000
 nodes : d.nodes.length ≤ 1000
 rules : d.rules.length ≤ 1000
 outs : d.outs.length ≤ 1000
 attrs : d.attrs.length ≤ 1000
 inn : ∀ p ∈ d.inputs, p.name.size ≤ 1000
 eln : ∀ p ∈ d.elements, p.name.size ≤ 1000
 run : ∀ p ∈ d.rules, p.name.size ≤ 1000
 otn : ∀ p ∈ d.outs, p.name.size ≤ 1000
 args : ∀ x ∈ d.nodes, x.args.length ≤ 1000
 writes : ∀ x ∈ d.rules, x.writes.length ≤ 1000
 arules : ∀ x ∈ d.attrs, x.rules.length ≤ 1000
def kindOk (k : Int) : Bool := decide ((0 : Int) ≤ k) && decide (k ≤ 1)
def clkOk (k : Int) : Bool := decide ((0 : Int) ≤ k) && decide (k ≤ 3)
def elemTail (x : Elem) : Int := if kindOk x.kind = false then 15 else if isW x.width = false then 2 else if fitsN x.init x.width = false then 2 else if clkOk x.clk = true then 0 else 2
def condL (nodes : List Node) (i : Int) : Bool := isNodeL nodes i && decide (widthL nodes i = 1)
def elemW (d : Desg) (i : Int) : Int := match d.elements[i.toNat]? with | some x => x.width | none => 0
def inLen (n : Nat) (i : Int) : Bool := decide ((0 : Int) ≤ i) && decide (i ≤ (n : Int) - 1)
def writeErrR (d : Desg) (w : Wri) : Int :=
 if inLen d.elements.length w.element = false then 6 else if condL d.nodes w.cond = false then 9 else if isNodeL d.nodes w.value = false then 9 else if widthL d.nodes w.value = elemW d w.element then 0 else 25
def writesErrR (d : Desg) (l : List Wri) : Int := if 16 < l.length then 8 else (eachP (fun _ w => writeErrR d w) 0 l).2
def ruleTail (d : Desg) (r : Rul) : Int := if condL d.nodes r.guard = false then 9 else writesErrR d r.writes
def attrItem (d : Desg) (l : List Int) (i : Nat) (n : Int) : Int := if inLen d.rules.length n = false then 6 else if (l.take i).any (fun m => decide (m = n)) = true then 23 else 0
def attrErrR (d : Desg) (a : Attr) : Int := if (decide ((0 : Int) ≤ a.kind) && decide (a.kind ≤ 3)) = false then 15 else if a.rules.length = 0 then 10 else if 16 < a.rules.length then 10 else (eachP (attrItem d a.rules) 0 a.rules).2
def leavesD (d : Desg) : List Int := d.inputs.map (·.width) ++ d.elements.map (·.width)
def namedR {α : Type} (nm : α → ByteArray) (before : ByteArray → Bool) (e : α → Int) (full : List α) (i : Nat) (x : α) : Int :=
 if isNameS (nm x) = false then 4 else if ((full.take i).any (fun q => decide (nm q = nm x)) || before (nm x)) = true then 5 else e x
def portsR (d : Desg) : Int × Int := eachP (namedR (fun p : Port => p.name) (fun _ => false) (fun p => if isW p.width = true then 0 else 2) d.inputs) 0 d.inputs
def elemsR (d : Desg) : Int × Int := eachP (namedR (fun p : Elem => p.name) (fun s => d.inputs.any fun q => decide (q.name = s)) elemTail d.elements) 0 d.elements
def rulesR (d : Desg) : Int × Int := eachP (namedR (fun p : Rul => p.name) (fun _ => false) (ruleTail d) d.rules) 0 d.rules
def outsR (d : Desg) : Int × Int := eachP (namedR (fun p : Outp => p.name) (fun _ => false) (fun p => if isNodeL d.nodes p.node = true then 0 else 9) d.outs) 0 d.outs
def attrsR (d : Desg) : Int × Int := eachP (fun _ a => attrErrR d a) 0 d.attrs
def designErrR (d : Desg) : Int × Int := firstP [(0, if isNameS d.name = true then 0 else 4), (0, if 12 < d.inputs.length then 8 else 0), portsR d, (0, if 40 < d.inputs.length + d.elements.length then 8 else 0), elemsR d,
 nodesErrR (leavesD d) d.nodes, (0, if 16 < d.rules.length then 8 else 0), rulesR d, (0, if 12 < d.outs.length then 8 else 0), outsR d, (0, if 16 < d.attrs.length then 8 else 0), attrsR d]
theorem bb (b : Bool) : b = true ∨ b = false := by cases b <;> simp
theorem rn (n : Int) : (decide ((1 : Int) ≤ n) && decide (n ≤ 16)) = isW n := rfl
variable {F : Nat} (hF : 1000000 < F)
def namesG {α : Type} (nm : α → ByteArray) (e : α → Int) (_ : Nat) (x : α) (ns : List ByteArray) : Int × List ByteArray := (firstL [nameErr ns (nm x), e x], addName (nm x) ns)
theorem oF {α : Type} (nm : α → ByteArray) (e : α → Int) (before : ByteArray → Bool) (full : List α) (ns : List ByteArray) (hn : ∀ s, hasName s ns = before s) :
  (eachL (namesG nm e) 0 full ns).1 = eachP (namedR nm before e full) 0 full ∧ ((eachP (namedR nm before e full) 0 full).2 = 0 → ∀ s, hasName s (eachL (namesG nm e) 0 full ns).2 = (full.any (fun q => decide (nm q = s)) || before s)) :=
 tA nm (namesG nm e) e before (fun _ _ _ => rfl) full (namedR nm before e full) (fun _ _ _ => rfl) full 0 ns rfl (fun s => by simp [hn])
theorem rp {S : Type} {o : Oc (Nat × Int × S) S} {v : (Int × Int) × S} (h : ocEv o = v) {β : Type} (f : Int → Int → S → β) {K : Oc (Nat × Int × S) S → Option β}
  (ha : ∀ x, K (.a x) = some (f (x.1 : Int) x.2.1 x.2.2)) (hb : ∀ s, K (.b s) = some (f 0 0 s)) : (some o).bind K = some (f v.1.1 v.1.2 v.2) := by
 subst h; cases o with
 | a x => exact ha x
 | b s => exact hb s
include hF in
theorem Ca (l : List Port) (hl : l.length ≤ 1000000) (hn : ∀ p ∈ l, p.name.size ≤ 1000000) (ns : List ByteArray) :
  let v := eachL (namesG (fun p : Port => p.name) (fun p => if isW p.width = true then 0 else 2)) 0 l ns
  ik F ns ns l = some (v.1.1, v.1.2, v.2, v.2) := by
 intro v
 have h1 : dh F l F (0, ns, ns) = eh F l l 0 (ns, ns) := kz F l hl l 0 F (ns, ns) rfl (by omega)
 have h2 := qG (L := eh F l) (fun i x s => bM F s.1 s.2 (i : Int) x)
  (fun _ x (s : List ByteArray × List ByteArray) => (firstL [nameErr s.1 x.name, nameErr s.2 x.name, if isW x.width = true then 0 else 2], (addName x.name s.1, addName x.name s.2)))
  (fun i s => by cases s; rfl) (fun x r i s => by cases s; rfl) l 0 (ns, ns) (fun j x s hj => by
   have hp := hn x (List.mem_of_getElem? hj)
   simp only [bM, dY, if_pos hp, Option.bind_some, rn, firstL]
   by_cases h1 : nameErr s.1 x.name = 0 <;> by_cases h2 : nameErr s.2 x.name = 0 <;> rcases bb (isW x.width) with h3 | h3 <;> simp [h1, h2, h3])
 have h3 := (tB _ l 0 (ns, ns)).trans (tD (fun p : Port => p.name) (fun p => if isW p.width = true then 0 else 2) l 0 ns)
 unfold ik
 rw [h1, h2]
 exact rp h3 (fun a b s => (a, b, s.1, s.2)) (fun _ => rfl) (fun _ => rfl)
include hF in
theorem Cb (l : List Elem) (hl : l.length ≤ 1000000) (hn : ∀ p ∈ l, p.name.size ≤ 1000000) (ns : List ByteArray) :
  let v := eachL (namesG (fun p : Elem => p.name) elemTail) 0 l ns
  gu F ns l = some (v.1.1, v.1.2, v.2) := by
 intro v
 have h1 : bV F l F (0, ns) = dp F l l 0 ns := jH F l hl l 0 F ns rfl (by omega)
 have h2 := qG (L := dp F l) (fun i x s => bN F s (i : Int) x) (namesG (fun p : Elem => p.name) elemTail) (fun i s => rfl) (fun x r i s => rfl) l 0 ns (fun j x s hj => by
   have hp := hn x (List.mem_of_getElem? hj)
   have hk : (decide ((0 : Int) ≤ x.kind) && decide (x.kind ≤ 1)) = kindOk x.kind := rfl
   have hc : (decide ((0 : Int) ≤ x.clk) && decide (x.clk ≤ 3)) = clkOk x.clk := rfl
   simp only [bN, dY, if_pos hp, Option.bind_some, rn, namesG, firstL, elemTail, hk, hc]
   have h5 : isW x.width = true → 0 ≤ x.width := fun h4 => by unfold isW at h4; simp at h4; omega
   rcases bb (kindOk x.kind) with h3 | h3 <;> rcases bb (isW x.width) with h4 | h4 <;> by_cases h1 : nameErr s x.name = 0 <;> rcases bb (fitsN x.init x.width) with h6 | h6 <;> rcases bb (clkOk x.clk) with h7 | h7 <;> simp [h1, h3, h4, h6, h7, h5])
 unfold gu
 rw [h1, h2]
 exact rp (tB _ l 0 ns) (fun a b s => (a, b, s)) (fun _ => rfl) (fun _ => rfl)
theorem uY (hF : 1000000 < F) (d : Desg) (h1 : d.inputs.length ≤ 1000) (h2 : d.elements.length ≤ 1000) : fE F d = some (leavesD d) := by
 have k1 : ∀ (r : List Port) (i : Nat) (o : List Int), o.length + r.length ≤ 1000000 → cj F d r i o = some (o ++ r.map (·.width)) := by
  intro r
  induction r with
  | nil => intro i o _; simp [cj]
  | cons x r ih => intro i o h; simp only [List.length_cons] at h; rw [cj, if_pos (by omega), ih _ _ (by simp; omega)]; simp
 have k2 : ∀ (r : List Elem) (i : Nat) (o : List Int), o.length + r.length ≤ 1000000 → ck F d r i o = some (o ++ r.map (·.width)) := by
  intro r
  induction r with
  | nil => intro i o _; simp [ck]
  | cons x r ih => intro i o h; simp only [List.length_cons] at h; rw [ck, if_pos (by omega), ih _ _ (by simp; omega)]; simp
 have e1 : bW F d F ([], 0) = _ := jI F d (by omega) d.inputs 0 F [] rfl (by omega)
 have e2 : bX F d F (d.inputs.map (·.width), 0) = _ := jJ F d (by omega) d.elements 0 F (d.inputs.map (·.width)) rfl (by omega)
 unfold fE
 rw [e1, k1 _ _ _ (by simp; omega), Option.bind_some, List.nil_append, e2, k2 _ _ _ (by simp; omega), Option.bind_some]
 rfl
theorem qH (d : Desg) (n : Int) (h : d.nodes.length ≤ 1000) : dK F d n = some (isNodeL d.nodes n) := by
 unfold dK; rw [if_pos (in_m (by omega))]; rfl
theorem nL {nodes : List Node} {n : Int} (h : isNodeL nodes n = true) : ∃ x, idxI nodes n = some x ∧ x.width = widthL nodes n := by
 unfold isNodeL at h
 simp only [Bool.and_eq_true, decide_eq_true_eq] at h
 obtain ⟨x, h1, h2⟩ := lf (l := nodes) (i := n) h.1 (by omega)
 exact ⟨x, h1, by unfold widthL; rw [h2]⟩
theorem wQ {d : Desg} {n : Int} (h : inLen d.elements.length n = true) : ∃ x, idxI d.elements n = some x ∧ x.width = elemW d n := by
 unfold inLen at h
 simp only [Bool.and_eq_true, decide_eq_true_eq] at h
 obtain ⟨x, h1, h2⟩ := lf (l := d.elements) (i := n) h.1 (by omega)
 exact ⟨x, h1, by unfold elemW; rw [h2]⟩
theorem qI (d : Desg) (n : Int) (h : d.nodes.length ≤ 1000) : aY F d n = some (condL d.nodes n) := by
 unfold aY condL
 rw [qH d n h, Option.bind_some]
 rcases bb (isNodeL d.nodes n) with hn | hn
 ·obtain ⟨x, h1, h2⟩ := nL hn; simp [h1, h2, hn]
 ·simp [hn]
theorem xS (d : Desg) (w : Wri) (h : d.nodes.length ≤ 1000) (he : d.elements.length ≤ 1000) : fL F d w = some (writeErrR d w) := by
 unfold fL writeErrR
 rw [if_pos (in_m (by omega))]
 have hi : (decide ((0 : Int) ≤ w.element) && decide (w.element ≤ (d.elements.length : Int) - 1)) = inLen d.elements.length w.element := rfl
 simp only [hi, qI d w.cond h, qH d w.value h, Option.bind_some]
 rcases bb (inLen d.elements.length w.element) with h1 | h1 <;> rcases bb (condL d.nodes w.cond) with h2 | h2 <;> rcases bb (isNodeL d.nodes w.value) with h3 | h3 <;> simp only [h1, h2, h3, if_true, if_false, Bool.false_eq_true, Bool.true_eq_false]
 obtain ⟨x, h4, h5⟩ := nL h3
 obtain ⟨y, h6, h7⟩ := wQ h1
 simp only [h4, h6, h5, h7, Option.bind_some]
 by_cases h8 : widthL d.nodes w.value = elemW d w.element <;> simp [h8]
theorem oc_p {o : Oc (Nat × Int) Unit} {v : Int × Int} (h : ocPv o = v) {β : Type} (f : Int → Int → β) {K : Oc (Nat × Int) Unit → Option β}
  (ha : ∀ x, K (.a x) = some (f (x.1 : Int) x.2)) (hb : ∀ s, K (.b s) = some (f 0 0)) : (some o).bind K = some (f v.1 v.2) := by
 subst h; cases o with
 | a x => exact ha x
 | b s => exact hb s
include hF in
theorem A6 (d : Desg) (l : List Wri) (hl : l.length ≤ 1000000) (h : d.nodes.length ≤ 1000) (he : d.elements.length ≤ 1000) : bh F d l = some (eachP (fun _ w => writeErrR d w) 0 l) := by
 have h1 : bY F l d F 0 = _ := jK F l d hl l 0 F () rfl (by omega)
 have h2 := ji (L := eF F l d) (fun i x => bw F d (i : Int) x) (fun _ w => writeErrR d w) (fun i s => rfl) (fun x r i s => rfl) l 0 (fun j x _ => by
  unfold bw; rw [xS d x h he]; rfl)
 unfold bh
 rw [h1, h2]
 exact oc_p (jw _ l 0) (fun a b => (a, b)) (fun _ => rfl) (fun _ => rfl)
include hF in
theorem Cc (d : Desg) (l : List Rul) (hl : l.length ≤ 1000000) (hn : ∀ p ∈ l, p.name.size ≤ 1000000) (hw : ∀ p ∈ l, p.writes.length ≤ 1000000) (h : d.nodes.length ≤ 1000) (he : d.elements.length ≤ 1000) (ns : List ByteArray) :
  let v := eachL (namesG (fun p : Rul => p.name) (ruleTail d)) 0 l ns
  gv F ns d l = some (v.1.1, v.1.2, v.2) := by
 intro v
 have h1 : bZ F l d F (0, ns) = dt F l d l 0 ns := jL F l d hl l 0 F ns rfl (by omega)
 have h2 := qG (L := dt F l d) (fun i x s => bO F s d (i : Int) x) (namesG (fun p : Rul => p.name) (ruleTail d)) (fun i s => rfl) (fun x r i s => rfl) l 0 ns (fun j x s hj => by
   have hp := hn x (List.mem_of_getElem? hj)
   have hw' := hw x (List.mem_of_getElem? hj)
   have hd : decide ((x.writes.length : Int) ≤ 16) = !decide (16 < x.writes.length) := by rw [Bool.eq_iff_iff]; simp; omega
   simp only [bO, if_pos hp, qI d _ h, A6 hF d _ hw' h he, Option.bind_some, namesG, firstL, ruleTail, writesErrR, hd]
   by_cases h1 : nameErr s x.name = 0 <;> rcases bb (condL d.nodes x.guard) with h4 | h4 <;> by_cases h2 : 16 < x.writes.length <;> by_cases h3 : (eachP (fun _ w => writeErrR d w) 0 x.writes).2 = 0 <;> simp [h1, h2, h3, h4])
 unfold gv
 rw [h1, h2]
 exact rp (tB _ l 0 ns) (fun a b s => (a, b, s)) (fun _ => rfl) (fun _ => rfl)
include hF in
theorem Gj (d : Desg) (l : List Outp) (hl : l.length ≤ 1000000) (hn : ∀ p ∈ l, p.name.size ≤ 1000000) (h : d.nodes.length ≤ 1000) (ns : List ByteArray) :
  let v := eachL (namesG (fun p : Outp => p.name) (fun p => if isNodeL d.nodes p.node = true then 0 else 9)) 0 l ns
  gw F ns d l = some (v.1.1, v.1.2, v.2) := by
 intro v
 have h1 : ca F l d F (0, ns) = du F l d l 0 ns := jM F l d hl l 0 F ns rfl (by omega)
 have h2 := qG (L := du F l d) (fun i x s => bP F s d (i : Int) x) (namesG (fun p : Outp => p.name) (fun p => if isNodeL d.nodes p.node = true then 0 else 9)) (fun i s => rfl) (fun x r i s => rfl) l 0 ns (fun j x s hj => by
   have hp := hn x (List.mem_of_getElem? hj)
   simp only [bP, if_pos hp, qH d _ h, Option.bind_some, namesG, firstL]
   by_cases h1 : nameErr s x.name = 0 <;> rcases bb (isNodeL d.nodes x.node) with h2 | h2 <;> simp [h1, h2])
 unfold gw
 rw [h1, h2]
 exact rp (tB _ l 0 ns) (fun a b s => (a, b, s)) (fun _ => rfl) (fun _ => rfl)
include hF in
theorem xT (l : List Int) (n : Int) (hl : l.length ≤ 1000000) : eN F l n = some (l.any fun m => decide (m = n)) := by
 have k : ∀ (r : List Int) (i : Nat), ∃ o, dP F l n r i () = some o ∧ (match o with | .a _ => true | .b _ => false) = r.any fun m => decide (m = n) := by
  intro r
  induction r with
  | nil => intro i; exact ⟨_, rfl, rfl⟩
  | cons x r ih =>
   intro i
   simp only [dP, List.any_cons]
   by_cases h : n = x
   ·simp [h]
   ·have h' : ¬ x = n := fun e => h e.symm
    simpa [h, h'] using ih (i + 1)
 have h1 : cy F l n F 0 = _ := kf F l n hl l 0 F () rfl (by omega)
 obtain ⟨o, h2, h3⟩ := k l 0
 unfold eN iR
 rw [h1, h2, ← h3]
 cases o <;> simp
include hF in
theorem Cd (d : Desg) (a : Attr) (hr : d.rules.length ≤ 1000) (ha : a.rules.length ≤ 1000) : gx F d a a.rules = some (eachP (attrItem d a.rules) 0 a.rules) := by
 have h1 : cd F a.rules d a F 0 = _ := jN F a.rules d a (by omega) a.rules 0 F () rfl (by omega)
 have h2 := ji (L := eG F a.rules d a) (fun i x => bn F d a (i : Int) x) (attrItem d a.rules) (fun i s => rfl) (fun x r i s => rfl) a.rules 0 (fun j x hj => by
  have hlt := aa hj
  have hi : (decide ((0 : Int) ≤ x) && decide (x ≤ (d.rules.length : Int) - 1)) = inLen d.rules.length x := rfl
  unfold bn
  rw [if_pos (in_m (by omega)), if_pos (by omega), hi, xT hF _ _ (by simp; omega)]
  simp only [Option.bind_some, attrItem, Int.toNat_natCast, Nat.zero_add]
  rcases bb (inLen d.rules.length x) with h1 | h1 <;> rcases bb ((a.rules.take j).any fun m => decide (m = x)) with h2 | h2 <;> simp only [h1, h2, if_true, if_false, Bool.false_eq_true, Bool.true_eq_false])
 unfold gx
 rw [h1, h2]
 exact oc_p (jw _ a.rules 0) (fun a b => (a, b)) (fun _ => rfl) (fun _ => rfl)
include hF in
theorem Ce (d : Desg) (hr : d.rules.length ≤ 1000) (hl : d.attrs.length ≤ 1000) (ha : ∀ a ∈ d.attrs, a.rules.length ≤ 1000) : gy F d d.attrs = some (attrsR d) := by
 have h1 : ce F d.attrs d F 0 = _ := jO F d.attrs d (by omega) d.attrs 0 F () rfl (by omega)
 have h2 := ji (L := eH F d.attrs d) (fun i x => bE F d (i : Int) x) (fun _ a => attrErrR d a) (fun i s => rfl) (fun x r i s => rfl) d.attrs 0 (fun j x hj => by
  have hx := ha x (List.mem_of_getElem? hj)
  have hi : (decide ((1 : Int) ≤ (x.rules.length : Int)) && decide ((x.rules.length : Int) ≤ 16)) = !(decide (x.rules.length = 0) || decide (16 < x.rules.length)) := by generalize x.rules.length = n; rw [Bool.eq_iff_iff]; simp; omega
  unfold bE
  rw [Cd hF d x hr hx, hi]
  simp only [Option.bind_some, attrErrR]
  rcases bb (decide ((0 : Int) ≤ x.kind) && decide (x.kind ≤ 3)) with h4 | h4 <;> by_cases h1 : x.rules.length = 0 <;> by_cases h2 : 16 < x.rules.length <;> by_cases h3 : (eachP (attrItem d x.rules) 0 x.rules).2 = 0 <;> simp only [h4, h1, h2, h3] <;> simp)
 unfold gy
 rw [h1, h2]
 exact oc_p (jw _ d.attrs 0) (fun a b => (a, b)) (fun _ => rfl) (fun _ => rfl)
end Go.E
namespace Go.E
open Classical
theorem iJ {α : Type} (f : Nat → α → Int) : ∀ (l : List α) (i : Nat), (eachP f i l).2 = 0 → ∀ j x, l[j]? = some x → f (i + j) x = 0
 | [], i, _, j, x, h => by simp at h
 | y :: l, i, h, j, x, hx => by
  simp only [eachP] at h
  split at h
  ·rename_i h0; exact absurd h h0
  ·rename_i h0
   cases j with
   | zero => simp at hx; subst hx; simpa using h0
   | succ j => have := iJ f l (i + 1) h j x (by simpa using hx); rwa [show i + 1 + j = i + (j + 1) by omega] at this
theorem qJ {α : Type} (f : α → Int) (l : List α) (h : (eachP (fun _ x => f x) 0 l).2 = 0) : ∀ x ∈ l, f x = 0 := fun x hx => by
 obtain ⟨j, hj⟩ := List.getElem?_of_mem hx
 exact iJ _ l 0 h j x hj
theorem qK {α : Type} (f : Nat → α → Int) : ∀ (l : List α) (i : Nat), (∀ j x, l[j]? = some x → f (i + j) x = 0) → eachP f i l = (0, 0)
 | [], _, _ => rfl
 | y :: l, i, h => by
  rw [eachP, if_neg (by have := h 0 y rfl; simpa using this)]
  exact qK f l (i + 1) fun j x hj => by have := h (j + 1) x (by simpa using hj); rwa [show i + 1 + j = i + (j + 1) by omega]
theorem pE {α : Type} {nm : α → ByteArray} {before : ByteArray → Bool} {e : α → Int} {full : List α} {i : Nat} {x : α} (h : namedR nm before e full i x = 0) : isNameS (nm x) = true ∧ ((full.take i).any (fun q => decide (nm q = nm x)) || before (nm x)) = false ∧ e x = 0 := by
 unfold namedR at h
 rcases bb (isNameS (nm x)) with h1 | h1 <;> rcases bb ((full.take i).any (fun q => decide (nm q = nm x)) || before (nm x)) with h2 | h2 <;> simp only [h1, h2, if_true, if_false, Bool.true_eq_false, Bool.false_eq_true] at h
 ·exact absurd h (by decide)
 ·exact ⟨h1, h2, h⟩
 ·exact absurd h (by decide)
 ·exact absurd h (by decide)
theorem yE {d : Desg} (h : (portsR d).2 = 0) : ∀ p ∈ d.inputs, isW p.width = true := fun p hp => by
 obtain ⟨j, hj⟩ := List.getElem?_of_mem hp
 have := (pE (iJ _ _ _ h j p hj)).2.2
 rcases bb (isW p.width) with h1 | h1
 ·exact h1
 ·rw [h1] at this; exact absurd this (by decide)
theorem zC {x : Elem} (h : elemTail x = 0) : kindOk x.kind = true ∧ isW x.width = true ∧ fitsN x.init x.width = true ∧ clkOk x.clk = true := by
 unfold elemTail at h
 rcases bb (kindOk x.kind) with h1 | h1 <;> rcases bb (isW x.width) with h2 | h2 <;> rcases bb (fitsN x.init x.width) with h3 | h3 <;> rcases bb (clkOk x.clk) with h4 | h4 <;> simp [h1, h2, h3, h4] at h
 exact ⟨h1, h2, h3, h4⟩
theorem rq {d : Desg} (h : (elemsR d).2 = 0) : ∀ p ∈ d.elements, kindOk p.kind = true ∧ isW p.width = true ∧ fitsN p.init p.width = true ∧ clkOk p.clk = true := fun p hp => by
 obtain ⟨j, hj⟩ := List.getElem?_of_mem hp
 exact zC (pE (iJ _ _ _ h j p hj)).2.2
theorem Cf {d : Desg} (h1 : (portsR d).2 = 0) (h2 : (elemsR d).2 = 0) : ∀ w ∈ leavesD d, isW w = true := fun w hw => by
 simp only [leavesD, List.mem_append, List.mem_map] at hw
 rcases hw with ⟨p, hp, rfl⟩ | ⟨p, hp, rfl⟩
 ·exact yE h1 p hp
 ·exact (rq h2 p hp).2.1
theorem rU {d : Desg} (h1 : (portsR d).2 = 0) (h2 : (elemsR d).2 = 0) (h3 : ¬ 40 < d.inputs.length + d.elements.length) : checkNodesS (leavesD d) d.nodes = nodesErrR (leavesD d) d.nodes := by
 have : eachP (fun _ n => if isW n = true then (0 : Int) else 2) 0 (leavesD d) = (0, 0) := qK _ _ _ fun j x hj => by rw [Cf h1 h2 x (List.mem_of_getElem? hj)]; rfl
 unfold checkNodesS nodesErrR
 rw [if_neg (by simp [leavesD]; omega), this]
 simp
variable {F : Nat} (hF : 1000000 < F)
include hF in
theorem Cg {d : Desg} (hS : FewD d) : eI F d = some (designErrR d) := by
 obtain ⟨n1, n2, n3, n4, n5, n6, n7, n8, n9, n10, n11, n12, n13, n14⟩ := hS
 have a1 := Ca hF d.inputs (by omega) (fun p hp => by have := n8 p hp; omega) []
 have a2 : _ = portsR d := (oF (fun p : Port => p.name) (fun p => if isW p.width = true then 0 else 2) (fun _ => false) d.inputs [] (fun _ => rfl)).1
 have a3 : (portsR d).2 = 0 → _ := (oF (fun p : Port => p.name) (fun p => if isW p.width = true then 0 else 2) (fun _ => false) d.inputs [] (fun _ => rfl)).2
 have a4 := fun ns => Cb hF d.elements (by omega) (fun p hp => by have := n9 p hp; omega) ns
 have a5 : ∀ ns, (∀ s, hasName s ns = d.inputs.any fun q => decide (q.name = s)) → (eachL (namesG (fun p : Elem => p.name) elemTail) 0 d.elements ns).1 = elemsR d := fun ns h => (oF (fun p : Elem => p.name) elemTail (fun s => d.inputs.any fun q => decide (q.name = s)) d.elements ns h).1
 have a6 := uY hF d n2 n3
 have a7 := Cc hF d d.rules (by omega) (fun p hp => by have := n10 p hp; omega) (fun p hp => by have := n13 p hp; omega) n4 n3 []
 have a8 : _ = rulesR d := (oF (fun p : Rul => p.name) (ruleTail d) (fun _ => false) d.rules [] (fun _ => rfl)).1
 have a9 := Gj hF d d.outs (by omega) (fun p hp => by have := n11 p hp; omega) n4 []
 have a10 : _ = outsR d := (oF (fun p : Outp => p.name) (fun p => if isNodeL d.nodes p.node = true then 0 else 9) (fun _ => false) d.outs [] (fun _ => rfl)).1
 have a11 := Ce hF d n5 n7 n14
 simp only at a1 a4 a7 a9
 rw [a2] at a1
 rw [a8] at a7
 rw [a10] at a9
 unfold eI designErrR
 simp only [fh, fi, fj, fk, fl, fm, fq, ft, fu, eX, eY,
  a1, a4, a6, a7, a9, a11, if_pos (show d.name.size ≤ 1000000 by omega), Option.bind_some]
 rcases bb (isNameS d.name) with hN | hN
 case inr => by_cases h12 : (d.inputs.length : Int) ≤ 12 <;> simp [hN, h12, firstP]
 by_cases h12 : (d.inputs.length : Int) ≤ 12
 case neg => simp [hN, h12, show 12 < d.inputs.length by omega, firstP]
 have h12' : ¬ 12 < d.inputs.length := by omega
 by_cases hP : (portsR d).2 = 0
 case neg => simp [hN, h12, h12', hP, firstP]
 have hi : inI ((d.inputs.length : Int) + d.elements.length) := by unfold inI; omega
 by_cases h40 : (d.inputs.length : Int) + d.elements.length ≤ 40
 case neg => simp [hN, h12, h12', hP, hi, h40, show 40 < d.inputs.length + d.elements.length by omega, firstP]
 have h40' : ¬ 40 < d.inputs.length + d.elements.length := by omega
 have a5 := a5 _ (fun s => by rw [a3 hP s, Bool.or_false])
 by_cases hE : (elemsR d).2 = 0
 case neg => simp [hN, h12, h12', hP, hi, h40, h40', a5, hE, firstP]
 have hn := rU hP hE h40'
 have hl : (leavesD d).length ≤ 1000000 := by simp [leavesD]; omega
 have hm : d.nodes.length ≤ 1000000 := by omega
 have ha : ∀ x ∈ d.nodes, x.args.length ≤ 1000000 := fun x hx => by have := n12 x hx; omega
 by_cases hM : (nodesErrR (leavesD d) d.nodes).2 = 0
 case neg => simp [hN, h12, h12', hP, hi, h40, h40', a5, hE, hl, hm, if_pos ha, hn, hM, firstP]
 by_cases h16 : (d.rules.length : Int) ≤ 16
 case neg => simp [hN, h12, h12', hP, hi, h40, h40', a5, hE, hl, hm, if_pos ha, hn, hM, h16, show 16 < d.rules.length by omega, firstP]
 have h16' : ¬ 16 < d.rules.length := by omega
 by_cases hR : (rulesR d).2 = 0
 case neg => simp [hN, h12, h12', hP, hi, h40, h40', a5, hE, hl, hm, if_pos ha, hn, hM, h16, h16', hR, firstP]
 by_cases h13 : (d.outs.length : Int) ≤ 12
 case neg => simp [hN, h12, h12', hP, hi, h40, h40', a5, hE, hl, hm, if_pos ha, hn, hM, h16, h16', hR, h13, show 12 < d.outs.length by omega, firstP]
 have h13' : ¬ 12 < d.outs.length := by omega
 by_cases hO : (outsR d).2 = 0
 case neg => simp [hN, h12, h12', hP, hi, h40, h40', a5, hE, hl, hm, if_pos ha, hn, hM, h16, h16', hR, h13, h13', hO, firstP]
 by_cases h17 : (d.attrs.length : Int) ≤ 16
 case neg => simp [hN, h12, h12', hP, hi, h40, h40', a5, hE, hl, hm, if_pos ha, hn, hM, h16, h16', hR, h13, h13', hO, h17, show 16 < d.attrs.length by omega, firstP]
 have h17' : ¬ 16 < d.attrs.length := by omega
 by_cases hA : (attrsR d).2 = 0
 case neg => simp [hN, h12, h12', hP, hi, h40, h40', a5, hE, hl, hm, if_pos ha, hn, hM, h16, h16', hR, h13, h13', hO, h17, h17', hA, firstP]
 simp [hN, h12, h12', hP, hi, h40, h40', a5, hE, hl, hm, if_pos ha, hn, hM, h16, h16', hR, h13, h13', hO, h17, h17', hA, firstP]
end Go.E
namespace Go.E
structure NetOk (n : Netl) : Prop where
 nodes : (checkNodesS (leavesN n) n.nodes).2 = 0
 outs : ∀ o ∈ n.outs, 0 ≤ o.node ∧ o.node < n.nodes.length
 regs : ∀ r ∈ n.regs, (0 ≤ r.enable ∧ r.enable < n.nodes.length) ∧ 0 ≤ r.next ∧ r.next < n.nodes.length
 next : ∀ r ∈ n.regs, widthAt n r.next = r.width
 init : ∀ r ∈ n.regs, fitsN r.init r.width = true
 few : n.inputs.length + n.regs.length ≤ 40
end Go.E
namespace Go.E
def valErrS (ws l : List Int) : Int := if l.length = ws.length then (eachP (fun i n => if fitsN n (at0 ws i) = true then (0 : Int) else 2) 0 l).2 else 10
theorem nM {n w : Int} (h1 : 1 ≤ w) (h16 : w ≤ 16) : fitsN n w = true ↔ InW n w := by
 unfold fitsN
 rw [mT (by omega)]
 have h3 := kd (k := w.toNat) (by omega)
 have h4 := pow_pos' w.toNat
 rw [bi (by omega) (by omega)]
 rw [Bool.and_eq_true, decide_eq_true_eq, decide_eq_true_eq]
 unfold InW
 omega
theorem A7 {ws l : List Int} (hw : ∀ w ∈ ws, 1 ≤ w ∧ w ≤ 16) (h : valErrS ws l = 0) : l.length = ws.length ∧ ∀ (j : Nat) w v, ws[j]? = some w → l[j]? = some v → InW v w := by
 unfold valErrS at h
 split at h
 case isFalse => omega
 rename_i hlen
 refine ⟨hlen, fun j w v h1 h2 => ?_⟩
 have := pr _ l 0 h j v h2
 simp only [Nat.zero_add, fW h1] at this
 have h3 := hw w (List.mem_of_getElem? h1)
 split at this
 ·rename_i hf; exact (nM h3.1 h3.2).1 hf
 ·omega
end Go.E
namespace Go.E
open Go.Proofs Classical
set_option maxRecDepth 100000
set_option maxHeartbeats 4000000
noncomputable section
def bg (F : Nat) (cv0 : Desg) (i : Int) (n : Int) : Option (Int) := ((idxI cv0.inputs i).bind fun x1 => (if (decide (0 ≤ x1.width) && fitsN n x1.width) = true then some 0 else some 2))
theorem gz (bs : List Nat) (H : Heap) (F : Nat) (ca0 : Nat) (cv0 : Desg) (hca0 : H[ca0]? = some (.cells [.str cv0.name, .list (cv0.inputs.map encPort), .list (cv0.elements.map encElem), .list (cv0.nodes.map encNode), .list (cv0.rules.map encRul), .list (cv0.outs.map encOutp), .list (cv0.attrs.map encAttr)])) (i : Int) (n : Int) (R : Int) (hR0 : bg F cv0 i n = some R) : callw X bs 151 [.int .i64 i, .int .i64 n, .ptr ca0 0] H = some (.int .i64 R, H) := by
 refine yw2 (rs := [.tmp 5]) (N := 16) (fn := Tryz.f151) Dt Tryz.func151 ?_
 have hca0_l := aa hca0
 have hca0_a := get_app' hca0
 have hR := Kp.mk hR0
 clear hR0
 rw [bg] at hR
 obtain ⟨x1, x1_e, hR⟩ := bindE hR
 obtain ⟨x1_p, x1_e⟩ := idxE x1_e
 have k2_k := fun bs H => ub bs H n x1.width
 rcases iteE hR with ⟨c3, hR⟩ | ⟨c3, hR⟩
 ·obtain ⟨c3_1, c3_2⟩ := ed c3
  obtain rfl := someE hR
  exact zv
 ·obtain rfl := someE hR
  exact zv
def di (F : Nat) (l : List Int) (cv0 : Desg) : Nat → Nat → Option (Oc (Nat × Int) (Unit))
 | 0, _ => none
 | k + 1, s1 => (if (decide ((s1 : Int) < (l.length : Int))) = true then ((l[s1]?).bind fun x4 => ((bg F cv0 (s1 : Int) x4).bind fun y5 => (if (decide (¬y5 = 0)) = true then some (.a (s1, y5)) else (if inI ((s1 : Int) + 1) then di F l cv0 k (s1 + 1) else none)))) else some (.b ()))
theorem pF (bs : List Nat) (H : Heap) (F : Nat) (ca0 : Nat) (cv0 : Desg) (hca0 : H[ca0]? = some (.cells [.str cv0.name, .list (cv0.inputs.map encPort), .list (cv0.elements.map encElem), .list (cv0.nodes.map encNode), .list (cv0.rules.map encRul), .list (cv0.outs.map encOutp), .list (cv0.attrs.map encAttr)])) (l : List Int) : ∀ k s r ρ H', (∃ J2, H' = H ++ J2 ∧ ρ 1 = .func 151 [.ptr ca0 0] ∧ ρ 9 = .list (l.map (V.int .i64)) ∧ ρ 10 = .int .i64 (l.length : Int) ∧ ρ 11 = .int .i64 (s : Int)) → di F l cv0 k s = some r → Lp X ⟨25, H.length :: bs⟩ (loopAt Tryz.f70 0) ρ H' ((fun r ex ρ H' => match r with | .a r => ∃ J2, H' = H ++ J2 ∧ ex = .ret ∧ ρ 4 = .int .i64 (r.1 : Int) ∧ ρ 5 = .int .i64 r.2 | .b r => ∃ J2, H' = H ++ J2 ∧ ex = .exit 0) r) := by
 refine ae (fun _ => rfl) ?_
 rintro k s1 r ρ H' ⟨J2, hH, h1, h9, h10, h11⟩ hR
 skip
 subst hH
 rw [di] at hR
 have hca0_l := aa hca0
 have hca0_a := get_app' hca0
 conv => arg 3; whnf
 try refine zw ?_
 rcases iteE hR with ⟨c3, hR⟩ | ⟨c3, hR⟩
 ·obtain ⟨x4, x4_e, hR⟩ := bindE hR
  obtain ⟨y5, y5_e, hR⟩ := bindE hR
  have y5_k := fun (bs : List Nat) (l : Heap) => gz bs (H ++ l) F ca0 cv0 gt (s1 : Int) x4 y5 y5_e
  have y5_k0 := fun (bs : List Nat) => gz bs H F ca0 cv0 gt (s1 : Int) x4 y5 y5_e
  try refine zw ?_
  clear y5_k y5_k0
  rcases iteE hR with ⟨c6, hR⟩ | ⟨c6, hR⟩
  ·obtain rfl := someE hR
   refine zu ?_
   exact ⟨_, hq, rfl, sl, sl⟩
  ·obtain ⟨g7, hR⟩ := grdE hR
   have g7_w := ac g7
   refine zu ?_
   exact ⟨(s1 + 1), ⟨_, hq, sl, sl, sl, sl⟩, hR.out⟩
 ·obtain rfl := someE hR
  refine zu ?_
  exact ⟨_, hq, rfl⟩
def eJ (F : Nat) (l : List Int) (cv0 : Desg) : List Int → Nat → Unit → Option (Oc (Nat × Int) (Unit))
 | [], s1, _ => some (.b ())
 | x_ :: r_, s1, _ => ((bg F cv0 (s1 : Int) x_).bind fun y5 => (if (decide (¬y5 = 0)) = true then some (.a (s1, y5)) else eJ F l cv0 r_ (s1 + 1) ()))
theorem jP (F : Nat) (l : List Int) (cv0 : Desg) (hl_ : l.length ≤ 1000000) : ∀ r_ i_ k_ (o_ : Unit), l.drop i_ = r_ → r_.length < k_ → di F l cv0 k_ i_ = eJ F l cv0 r_ i_ o_
 | _, _, 0, _, _, hk => absurd hk (Nat.not_lt_zero _)
 | [], i_, k_ + 1, _, hd, _ => by rw [di, eJ]; simp only [ai hd, Bool.false_eq_true, if_false]
 | x_ :: r_, i_, k_ + 1, _, hd, hk => by
  have ih := jP F l cv0 hl_ r_ (i_ + 1) k_ () (ah hd) (Nat.lt_of_succ_lt_succ hk)
  rw [di, eJ]; simp only [aq hd, ak hd, if_pos (av hd hl_), Option.bind_some, if_true, ih]
def iA (F : Nat) (cv0 : Desg) (l : List Int) : Option (Int × Int) := ((di F l cv0 F 0).bind fun o8 => match o8 with | .a o9 => some ((o9.1 : Int), o9.2) | .b o11 => some (0, 0))
theorem rA (bs : List Nat) (H : Heap) (F : Nat) (ca0 : Nat) (cv0 : Desg) (hca0 : H[ca0]? = some (.cells [.str cv0.name, .list (cv0.inputs.map encPort), .list (cv0.elements.map encElem), .list (cv0.nodes.map encNode), .list (cv0.rules.map encRul), .list (cv0.outs.map encOutp), .list (cv0.attrs.map encAttr)])) (l : List Int) (R : Int × Int) (hR0 : iA F cv0 l = some R) : callw X bs 70 [.list (l.map (V.int .i64)), .func 151 [.ptr ca0 0]] H = some (.tuple [.int .i64 R.1, .int .i64 R.2], H) := by
 refine yw2 (rs := [.tmp 4, .tmp 5]) (N := 25) (fn := Tryz.f70) xk70 Tryz.func70 ?_
 have hca0_l := aa hca0
 have hca0_a := get_app' hca0
 have hR := Kp.mk hR0
 clear hR0
 rw [iA] at hR
 obtain ⟨o8, o8_e, hR⟩ := bindE hR
 refine zu ?_
 refine ab (af (c := (loopAt Tryz.f70 0)) rfl (pF _ H F ca0 cv0 hca0 l _ 0 o8 _ _ ⟨[], by simp, sl, sl, sl, sl⟩ o8_e)) ?_
 rcases o8 with o9 | o11
 ·rintro ex ρ' H' ⟨J10, rfl, rfl, q4_o9, q5_o9⟩ hf
  clear hf
  obtain rfl := someE hR
  exact zv
 ·rintro ex ρ' H' ⟨J12, rfl, rfl⟩ hf
  clear hf
  obtain rfl := someE hR
  exact zv
def aK (F : Nat) (d : Desg) (inputs : List Int) : Option (Int) := (if (decide (¬(inputs.length : Int) = (d.inputs.length : Int))) = true then some 10 else ((iA F d inputs).bind fun y2 => some y2.2))
theorem dw (bs : List Nat) (H : Heap) (F : Nat) (d : Desg) (inputs : List Int) (R : Int) (hR0 : aK F d inputs = some R) : callw X bs 61 [(encDesg d), .list (inputs.map (V.int .i64))] H = some (.int .i64 R, H) := by
 refine yw2 (rs := [.tmp 4]) (N := 21) (fn := Tryz.f61) xk61 Tryz.func61 ?_
 have hR := Kp.mk hR0
 clear hR0
 rw [aK] at hR
 (try simp only [cellsDesg, encDesg, encInts])
 try refine zw ?_
 rcases iteE hR with ⟨c1, hR⟩ | ⟨c1, hR⟩
 ·obtain rfl := someE hR
  exact zv
 ·obtain ⟨y2, y2_e, hR⟩ := bindE hR
  have y2_k := fun (bs : List Nat) (J : Heap) => rA bs (H ++ .cells [.str d.name, .list (d.inputs.map encPort), .list (d.elements.map encElem), .list (d.nodes.map encNode), .list (d.rules.map encRul), .list (d.outs.map encOutp), .list (d.attrs.map encAttr)] :: J) F H.length d gt inputs y2 y2_e
  obtain rfl := someE hR
  exact zv
def bo (F : Nat) (cv0 : Desg) (i : Int) (n : Int) : Option (Int) := ((idxI cv0.elements i).bind fun x1 => (if (decide (0 ≤ x1.width) && fitsN n x1.width) = true then some 0 else some 2))
theorem gF (bs : List Nat) (H : Heap) (F : Nat) (ca0 : Nat) (cv0 : Desg) (hca0 : H[ca0]? = some (.cells [.str cv0.name, .list (cv0.inputs.map encPort), .list (cv0.elements.map encElem), .list (cv0.nodes.map encNode), .list (cv0.rules.map encRul), .list (cv0.outs.map encOutp), .list (cv0.attrs.map encAttr)])) (i : Int) (n : Int) (R : Int) (hR0 : bo F cv0 i n = some R) : callw X bs 152 [.int .i64 i, .int .i64 n, .ptr ca0 0] H = some (.int .i64 R, H) := by
 refine yw2 (rs := [.tmp 5]) (N := 16) (fn := Tryz.f152) Du Tryz.func152 ?_
 have hca0_l := aa hca0
 have hca0_a := get_app' hca0
 have hR := Kp.mk hR0
 clear hR0
 rw [bo] at hR
 obtain ⟨x1, x1_e, hR⟩ := bindE hR
 obtain ⟨x1_p, x1_e⟩ := idxE x1_e
 have k2_k := fun bs H => ub bs H n x1.width
 rcases iteE hR with ⟨c3, hR⟩ | ⟨c3, hR⟩
 ·obtain ⟨c3_1, c3_2⟩ := ed c3
  obtain rfl := someE hR
  exact zv
 ·obtain rfl := someE hR
  exact zv
def dj (F : Nat) (l : List Int) (cv0 : Desg) : Nat → Nat → Option (Oc (Nat × Int) (Unit))
 | 0, _ => none
 | k + 1, s1 => (if (decide ((s1 : Int) < (l.length : Int))) = true then ((l[s1]?).bind fun x4 => ((bo F cv0 (s1 : Int) x4).bind fun y5 => (if (decide (¬y5 = 0)) = true then some (.a (s1, y5)) else (if inI ((s1 : Int) + 1) then dj F l cv0 k (s1 + 1) else none)))) else some (.b ()))
theorem pG (bs : List Nat) (H : Heap) (F : Nat) (ca0 : Nat) (cv0 : Desg) (hca0 : H[ca0]? = some (.cells [.str cv0.name, .list (cv0.inputs.map encPort), .list (cv0.elements.map encElem), .list (cv0.nodes.map encNode), .list (cv0.rules.map encRul), .list (cv0.outs.map encOutp), .list (cv0.attrs.map encAttr)])) (l : List Int) : ∀ k s r ρ H', (∃ J2, H' = H ++ J2 ∧ ρ 1 = .func 152 [.ptr ca0 0] ∧ ρ 9 = .list (l.map (V.int .i64)) ∧ ρ 10 = .int .i64 (l.length : Int) ∧ ρ 11 = .int .i64 (s : Int)) → dj F l cv0 k s = some r → Lp X ⟨25, H.length :: bs⟩ (loopAt Tryz.f70 0) ρ H' ((fun r ex ρ H' => match r with | .a r => ∃ J2, H' = H ++ J2 ∧ ex = .ret ∧ ρ 4 = .int .i64 (r.1 : Int) ∧ ρ 5 = .int .i64 r.2 | .b r => ∃ J2, H' = H ++ J2 ∧ ex = .exit 0) r) := by
 refine ae (fun _ => rfl) ?_
 rintro k s1 r ρ H' ⟨J2, hH, h1, h9, h10, h11⟩ hR
 skip
 subst hH
 rw [dj] at hR
 have hca0_l := aa hca0
 have hca0_a := get_app' hca0
 conv => arg 3; whnf
 try refine zw ?_
 rcases iteE hR with ⟨c3, hR⟩ | ⟨c3, hR⟩
 ·obtain ⟨x4, x4_e, hR⟩ := bindE hR
  obtain ⟨y5, y5_e, hR⟩ := bindE hR
  have y5_k := fun (bs : List Nat) (l : Heap) => gF bs (H ++ l) F ca0 cv0 gt (s1 : Int) x4 y5 y5_e
  have y5_k0 := fun (bs : List Nat) => gF bs H F ca0 cv0 gt (s1 : Int) x4 y5 y5_e
  try refine zw ?_
  clear y5_k y5_k0
  rcases iteE hR with ⟨c6, hR⟩ | ⟨c6, hR⟩
  ·obtain rfl := someE hR
   refine zu ?_
   exact ⟨_, hq, rfl, sl, sl⟩
  ·obtain ⟨g7, hR⟩ := grdE hR
   have g7_w := ac g7
   refine zu ?_
   exact ⟨(s1 + 1), ⟨_, hq, sl, sl, sl, sl⟩, hR.out⟩
 ·obtain rfl := someE hR
  refine zu ?_
  exact ⟨_, hq, rfl⟩
def eK (F : Nat) (l : List Int) (cv0 : Desg) : List Int → Nat → Unit → Option (Oc (Nat × Int) (Unit))
 | [], s1, _ => some (.b ())
 | x_ :: r_, s1, _ => ((bo F cv0 (s1 : Int) x_).bind fun y5 => (if (decide (¬y5 = 0)) = true then some (.a (s1, y5)) else eK F l cv0 r_ (s1 + 1) ()))
theorem jQ (F : Nat) (l : List Int) (cv0 : Desg) (hl_ : l.length ≤ 1000000) : ∀ r_ i_ k_ (o_ : Unit), l.drop i_ = r_ → r_.length < k_ → dj F l cv0 k_ i_ = eK F l cv0 r_ i_ o_
 | _, _, 0, _, _, hk => absurd hk (Nat.not_lt_zero _)
 | [], i_, k_ + 1, _, hd, _ => by rw [dj, eK]; simp only [ai hd, Bool.false_eq_true, if_false]
 | x_ :: r_, i_, k_ + 1, _, hd, hk => by
  have ih := jQ F l cv0 hl_ r_ (i_ + 1) k_ () (ah hd) (Nat.lt_of_succ_lt_succ hk)
  rw [dj, eK]; simp only [aq hd, ak hd, if_pos (av hd hl_), Option.bind_some, if_true, ih]
def iB (F : Nat) (cv0 : Desg) (l : List Int) : Option (Int × Int) := ((dj F l cv0 F 0).bind fun o8 => match o8 with | .a o9 => some ((o9.1 : Int), o9.2) | .b o11 => some (0, 0))
theorem rB (bs : List Nat) (H : Heap) (F : Nat) (ca0 : Nat) (cv0 : Desg) (hca0 : H[ca0]? = some (.cells [.str cv0.name, .list (cv0.inputs.map encPort), .list (cv0.elements.map encElem), .list (cv0.nodes.map encNode), .list (cv0.rules.map encRul), .list (cv0.outs.map encOutp), .list (cv0.attrs.map encAttr)])) (l : List Int) (R : Int × Int) (hR0 : iB F cv0 l = some R) : callw X bs 70 [.list (l.map (V.int .i64)), .func 152 [.ptr ca0 0]] H = some (.tuple [.int .i64 R.1, .int .i64 R.2], H) := by
 refine yw2 (rs := [.tmp 4, .tmp 5]) (N := 25) (fn := Tryz.f70) xk70 Tryz.func70 ?_
 have hca0_l := aa hca0
 have hca0_a := get_app' hca0
 have hR := Kp.mk hR0
 clear hR0
 rw [iB] at hR
 obtain ⟨o8, o8_e, hR⟩ := bindE hR
 refine zu ?_
 refine ab (af (c := (loopAt Tryz.f70 0)) rfl (pG _ H F ca0 cv0 hca0 l _ 0 o8 _ _ ⟨[], by simp, sl, sl, sl, sl⟩ o8_e)) ?_
 rcases o8 with o9 | o11
 ·rintro ex ρ' H' ⟨J10, rfl, rfl, q4_o9, q5_o9⟩ hf
  clear hf
  obtain rfl := someE hR
  exact zv
 ·rintro ex ρ' H' ⟨J12, rfl, rfl⟩ hf
  clear hf
  obtain rfl := someE hR
  exact zv
def aO (F : Nat) (d : Desg) (s_ : List Int) : Option (Int) := (if (decide (¬(s_.length : Int) = (d.elements.length : Int))) = true then some 10 else ((iB F d s_).bind fun y2 => some y2.2))
theorem dL (bs : List Nat) (H : Heap) (F : Nat) (d : Desg) (s_ : List Int) (R : Int) (hR0 : aO F d s_ = some R) : callw X bs 62 [(encDesg d), .list (s_.map (V.int .i64))] H = some (.int .i64 R, H) := by
 refine yw2 (rs := [.tmp 4]) (N := 21) (fn := Tryz.f62) xk62 Tryz.func62 ?_
 have hR := Kp.mk hR0
 clear hR0
 rw [aO] at hR
 (try simp only [cellsDesg, encDesg, encInts])
 try refine zw ?_
 rcases iteE hR with ⟨c1, hR⟩ | ⟨c1, hR⟩
 ·obtain rfl := someE hR
  exact zv
 ·obtain ⟨y2, y2_e, hR⟩ := bindE hR
  have y2_k := fun (bs : List Nat) (J : Heap) => rB bs (H ++ .cells [.str d.name, .list (d.inputs.map encPort), .list (d.elements.map encElem), .list (d.nodes.map encNode), .list (d.rules.map encRul), .list (d.outs.map encOutp), .list (d.attrs.map encAttr)] :: J) F H.length d gt s_ y2 y2_e
  obtain rfl := someE hR
  exact zv
def bQ (F : Nat) (d : Desg) (n : Int) : Option (Int) := (if inI ((d.rules.length : Int) - 1) then (if (decide ((0 : Int) ≤ n) && decide (n ≤ ((d.rules.length : Int) - 1))) = true then some 0 else some 6) else none)
theorem ip (bs : List Nat) (H : Heap) (F : Nat) (d : Desg) (n : Int) (R : Int) (hR0 : bQ F d n = some R) : callw X bs 60 [(encDesg d), .int .i64 n] H = some (.int .i64 R, H) := by
 refine yw2 (rs := [.tmp 4]) (N := 13) (fn := Tryz.f60) xk60 Tryz.func60 ?_
 have hR := Kp.mk hR0
 clear hR0
 rw [bQ] at hR
 (try simp only [cellsDesg, encDesg, encInts])
 obtain ⟨g1, hR⟩ := grdE hR
 have g1_w := ac g1
 rcases iteE hR with ⟨c2, hR⟩ | ⟨c2, hR⟩
 ·obtain ⟨c2_1, c2_2⟩ := ed c2
  obtain rfl := someE hR
  exact zv
 ·obtain rfl := someE hR
  exact zv
def aP (F : Nat) (d : Desg) : Nat → ((List Int) × Nat) → Option ((List Int))
 | 0, _ => none
 | k + 1, (s9, s10) => (if (decide ((s10 : Int) < (d.elements.length : Int))) = true then ((d.elements[s10]?).bind fun x14 => (if (s9.length + 1) ≤ 1000000 then (if inI ((s10 : Int) + 1) then aP F d k ((s9 ++ [x14.init]), (s10 + 1)) else none) else none)) else some s9)
theorem lg (bs : List Nat) (H : Heap) (F : Nat) (d : Desg) (a11 : HObj) : ∀ k s r ρ H', (∃ J12, H' = H ++ a11 :: .tok 0 :: .tok s.1.length :: J12 ∧ ρ 3 = .tl (H.length + 2) (s.1.map (V.int .i64)) ∧ ρ 8 = .list (d.elements.map encElem) ∧ ρ 9 = .int .i64 (d.elements.length : Int) ∧ ρ 10 = .int .i64 (s.2 : Int)) → aP F d k s = some r → Lp X ⟨21, H.length :: bs⟩ (loopAt Tryz.f132 0) ρ H' ((fun r ex ρ H' => ∃ J12, H' = H ++ a11 :: .tok 0 :: .tok r.length :: J12 ∧ ex = .exit 0 ∧ ρ 3 = .tl (H.length + 2) (r.map (V.int .i64))) r) := by
 refine ae (fun _ => rfl) ?_
 rintro k ⟨s9, s10⟩ r ρ H' ⟨J12, hH, h3, h8, h9, h10⟩ hR
 simp only at hH h3 h8 h9 h10
 subst hH
 rw [aP] at hR
 conv => arg 3; whnf
 try refine zw ?_
 rcases iteE hR with ⟨c13, hR⟩ | ⟨c13, hR⟩
 ·obtain ⟨x14, x14_e, hR⟩ := bindE hR
  obtain ⟨g15, hR⟩ := grdE hR
  have g15_r := ka (n := (s9.length + 1)) (k := 8) g15 (by omega)
  obtain ⟨g16, hR⟩ := grdE hR
  have g16_w := ac g16
  refine zu ?_
  exact ⟨((s9 ++ [x14.init]), (s10 + 1)), ⟨_, hq, sl, sl, sl, sl⟩, hR.out⟩
 ·obtain rfl := someE hR
  refine zu ?_
  exact ⟨_, hq, rfl, sl⟩
def aT (F : Nat) (d : Desg) : List Elem → Nat → (List Int) → Option ((List Int))
 | [], s10, s9 => some s9
 | x_ :: r_, s10, s9 => (if (s9.length + 1) ≤ 1000000 then aT F d r_ (s10 + 1) (s9 ++ [x_.init]) else none)
theorem gK (F : Nat) (d : Desg) (hl_ : d.elements.length ≤ 1000000) : ∀ r_ i_ k_ (o_ : (List Int)), d.elements.drop i_ = r_ → r_.length < k_ → aP F d k_ (o_, i_) = aT F d r_ i_ o_
 | _, _, 0, _, _, hk => absurd hk (Nat.not_lt_zero _)
 | [], i_, k_ + 1, s9, hd, _ => by rw [aP, aT]; simp only [ai hd, Bool.false_eq_true, if_false]
 | x_ :: r_, i_, k_ + 1, s9, hd, hk => by
  have ih := fun o_ => gK F d hl_ r_ (i_ + 1) k_ o_ (ah hd) (Nat.lt_of_succ_lt_succ hk)
  rw [aP, aT]; simp only [aq hd, ak hd, if_pos (av hd hl_), Option.bind_some, if_true, ih]
def dT (F : Nat) (d : Desg) : Option ((List Int)) := ((aP F d F ([], 0)).bind fun o18 => some o18)
theorem iK (bs : List Nat) (H : Heap) (F : Nat) (d : Desg) (R : (List Int)) (hR0 : dT F d = some R) : callw X bs 132 [(encDesg d)] H = some (.list (R.map (V.int .i64)), H) := by
 refine yw2 (rs := [.tmp 2]) (N := 21) (fn := Tryz.f132) Df Tryz.func132 ?_
 have hR := Kp.mk hR0
 clear hR0
 rw [dT] at hR
 (try simp only [cellsDesg, encDesg, encInts])
 obtain ⟨o18, o18_e, hR⟩ := bindE hR
 refine zu ?_
 refine ab (af (c := (loopAt Tryz.f132 0)) rfl (lg _ H F d _ _ ([], 0) o18 _ _ ⟨_, hq, sl, sl, sl, sl⟩ o18_e)) ?_
 rintro ex ρ' H' ⟨J19, rfl, rfl, q3_o18⟩ hf
 clear hf
 obtain rfl := someE hR
 exact zv
def aw (F : Nat) (d : Desg) : Nat → (Nat × (List Int)) → Option ((List Int))
 | 0, _ => none
 | k + 1, (s11, s13) => (if (decide ((s11 : Int) < (d.elements.length : Int))) = true then ((d.elements[s11]?).bind fun x16 => (if (decide (x16.kind = 1)) = true then ((s13[s11]?).bind fun x18 => (if inI ((s11 : Int) + 1) then aw F d k ((s11 + 1), (s13.set s11 x16.init)) else none)) else (if inI ((s11 : Int) + 1) then aw F d k ((s11 + 1), s13) else none))) else some s13)
theorem lh (bs : List Nat) (H : Heap) (F : Nat) (d : Desg) (s_ : List Int) (a12 : HObj) : ∀ k s r ρ H', (∃ J14, H' = H ++ a12 :: .tok 0 :: .arr (s.2.map (V.int .i64)) 0 :: J14 ∧ ρ 5 = .ref 1 (H.length + 2) 0 0 s_.length ∧ ρ 12 = .list (d.elements.map encElem) ∧ ρ 13 = .int .i64 (d.elements.length : Int) ∧ ρ 14 = .int .i64 (s.1 : Int) ∧ Kp (s.2.length = s_.length)) → aw F d k s = some r → Lp X ⟨29, H.length :: bs⟩ (loopAt Tryz.f73 0) ρ H' ((fun r ex ρ H' => ∃ J14, H' = H ++ a12 :: .tok 0 :: .arr (r.map (V.int .i64)) 0 :: J14 ∧ ex = .exit 0 ∧ Kp (r.length = s_.length)) r) := by
 refine ae (fun _ => rfl) ?_
 rintro k ⟨s11, s13⟩ r ρ H' ⟨J14, hH, h5, h12, h13, h14, hl0⟩ hR
 simp only at hH h5 h12 h13 h14 hl0
 subst hH
 rw [aw] at hR
 conv => arg 3; whnf
 try refine zw ?_
 rcases iteE hR with ⟨c15, hR⟩ | ⟨c15, hR⟩
 ·obtain ⟨x16, x16_e, hR⟩ := bindE hR
  try refine zw ?_
  rcases iteE hR with ⟨c17, hR⟩ | ⟨c17, hR⟩
  ·obtain ⟨x18, x18_e, hR⟩ := bindE hR
   have x18_l : s11 < s_.length := Nat.lt_of_lt_of_eq (aa x18_e) hl0.out
   obtain ⟨g19, hR⟩ := grdE hR
   have g19_w := ac g19
   refine zu ?_
   exact ⟨((s11 + 1), (s13.set s11 x16.init)), ⟨_, hq, sl, sl, sl, sl, ⟨(List.length_set.trans hl0.out)⟩⟩, hR.out⟩
  ·obtain ⟨g20, hR⟩ := grdE hR
   have g20_w := ac g20
   refine zu ?_
   exact ⟨((s11 + 1), s13), ⟨_, hq, sl, sl, sl, sl, ⟨hl0.out⟩⟩, hR.out⟩
 ·obtain rfl := someE hR
  refine zu ?_
  exact ⟨_, hq, rfl, ⟨hl0.out⟩⟩
def aE (F : Nat) (d : Desg) : List Elem → Nat → (List Int) → Option ((List Int))
 | [], s11, s13 => some s13
 | x_ :: r_, s11, s13 => (if (decide (x_.kind = 1)) = true then ((s13[s11]?).bind fun x18 => aE F d r_ (s11 + 1) (s13.set s11 x_.init)) else aE F d r_ (s11 + 1) s13)
theorem gL (F : Nat) (d : Desg) (hl_ : d.elements.length ≤ 1000000) : ∀ r_ i_ k_ (o_ : (List Int)), d.elements.drop i_ = r_ → r_.length < k_ → aw F d k_ (i_, o_) = aE F d r_ i_ o_
 | _, _, 0, _, _, hk => absurd hk (Nat.not_lt_zero _)
 | [], i_, k_ + 1, s13, hd, _ => by rw [aw, aE]; simp only [ai hd, Bool.false_eq_true, if_false]
 | x_ :: r_, i_, k_ + 1, s13, hd, hk => by
  have ih := fun o_ => gL F d hl_ r_ (i_ + 1) k_ o_ (ah hd) (Nat.lt_of_succ_lt_succ hk)
  rw [aw, aE]; simp only [aq hd, ak hd, if_pos (av hd hl_), Option.bind_some, if_true, ih]
def ay (F : Nat) (d : Desg) (s_ : List Int) : Nat → Nat → Option (Unit)
 | 0, _ => none
 | k + 1, s24 => (if (decide ((s24 : Int) < (d.elements.length : Int))) = true then ((d.elements[s24]?).bind fun x28 => (if (decide (x28.kind = 1)) = true then ((s_[s24]?).bind fun x30 => none) else (if inI ((s24 : Int) + 1) then ay F d s_ k (s24 + 1) else none))) else some ())
theorem ky (bs : List Nat) (H : Heap) (F : Nat) (d : Desg) (s_ : List Int) (a25 : HObj) : ∀ k s r ρ H', (∃ J26, H' = H ++ a25 :: .tok 0 :: J26 ∧ ρ 5 = .list (s_.map (V.int .i64)) ∧ ρ 12 = .list (d.elements.map encElem) ∧ ρ 13 = .int .i64 (d.elements.length : Int) ∧ ρ 14 = .int .i64 (s : Int)) → ay F d s_ k s = some r → Lp X ⟨29, H.length :: bs⟩ (loopAt Tryz.f73 0) ρ H' ((fun r ex ρ H' => ∃ J26, H' = H ++ a25 :: .tok 0 :: J26 ∧ ex = .exit 0) r) := by
 refine ae (fun _ => rfl) ?_
 rintro k s24 r ρ H' ⟨J26, hH, h5, h12, h13, h14⟩ hR
 skip
 subst hH
 rw [ay] at hR
 conv => arg 3; whnf
 try refine zw ?_
 rcases iteE hR with ⟨c27, hR⟩ | ⟨c27, hR⟩
 ·obtain ⟨x28, x28_e, hR⟩ := bindE hR
  try refine zw ?_
  rcases iteE hR with ⟨c29, hR⟩ | ⟨c29, hR⟩
  ·obtain ⟨x30, x30_e, hR⟩ := bindE hR
   exact nomatch hR.out
  ·obtain ⟨g31, hR⟩ := grdE hR
   have g31_w := ac g31
   refine zu ?_
   exact ⟨(s24 + 1), ⟨_, hq, sl, sl, sl, sl⟩, hR.out⟩
 ·obtain rfl := someE hR
  refine zu ?_
  exact ⟨_, hq, rfl⟩
def de (F : Nat) (d : Desg) (s_ : List Int) : List Elem → Nat → Unit → Option (Unit)
 | [], s24, _ => some ()
 | x_ :: r_, s24, _ => (if (decide (x_.kind = 1)) = true then ((s_[s24]?).bind fun x30 => none) else de F d s_ r_ (s24 + 1) ())
theorem gA (F : Nat) (d : Desg) (s_ : List Int) (hl_ : d.elements.length ≤ 1000000) : ∀ r_ i_ k_ (o_ : Unit), d.elements.drop i_ = r_ → r_.length < k_ → ay F d s_ k_ i_ = de F d s_ r_ i_ o_
 | _, _, 0, _, _, hk => absurd hk (Nat.not_lt_zero _)
 | [], i_, k_ + 1, _, hd, _ => by rw [ay, de]; simp only [ai hd, Bool.false_eq_true, if_false]
 | x_ :: r_, i_, k_ + 1, _, hd, hk => by
  have ih := gA F d s_ hl_ r_ (i_ + 1) k_ () (ah hd) (Nat.lt_of_succ_lt_succ hk)
  rw [ay, de]; simp only [aq hd, ak hd, if_pos (av hd hl_), Option.bind_some, if_true, ih]
def aF (F : Nat) (d : Desg) (s_ : List Int) : Option ((List Int)) := (if s_.length ≤ 1000000 then (if (decide (0 < s_.length)) = true then ((aw F d F (0, s_)).bind fun o22 => some o22) else ((ay F d s_ F 0).bind fun o33 => some s_)) else none)
theorem bR (bs : List Nat) (H : Heap) (F : Nat) (d : Desg) (s_ : List Int) (R : (List Int)) (hR0 : aF F d s_ = some R) : callw X bs 73 [(encDesg d), .list (s_.map (V.int .i64))] H = some (.list (R.map (V.int .i64)), H) := by
 refine yw2 (rs := [.tmp 4]) (N := 29) (fn := Tryz.f73) xk73 Tryz.func73 ?_
 have hR := Kp.mk hR0
 clear hR0
 rw [aF] at hR
 (try simp only [cellsDesg, encDesg, encInts])
 obtain ⟨g1, hR⟩ := grdE hR
 rcases iteE hR with ⟨c2, hR⟩ | ⟨c2, hR⟩
 ·have c2_p := uU s_ (of_decide_eq_true c2) g1
  obtain ⟨o22, o22_e, hR⟩ := bindE hR
  refine zu ?_
  refine ab (af (c := (loopAt Tryz.f73 0)) rfl (lh _ H F d s_ _ _ (0, s_) o22 _ _ ⟨_, hq, sl, sl, sl, sl, ⟨rfl⟩⟩ o22_e)) ?_
  rintro ex ρ' H' ⟨J23, rfl, rfl, hl_o22_0⟩ hf
  have q5_o22 : ρ' 5 = .ref 1 (H.length + 2) 0 0 s_.length := (hf 5 rfl).trans (sl)
  clear hf
  obtain rfl := someE hR
  have rt0 := ic (V.int .i64) (l := o22) (n := s_.length) hl_o22_0.out
  have rt1 := kb (l := o22) (n := s_.length) hl_o22_0.out
  exact zv
 ·have c2_p := uV s_ (of_decide_eq_false c2)
  have c2_k := fun bs H => uW bs H s_ g1
  obtain ⟨o33, o33_e, hR⟩ := bindE hR
  refine zu ?_
  refine ab (af (c := (loopAt Tryz.f73 0)) rfl (ky _ H F d s_ _ _ 0 o33 _ _ ⟨_, hq, sl, sl, sl, sl⟩ o33_e)) ?_
  clear c2_k
  rintro ex ρ' H' ⟨J34, rfl, rfl⟩ hf
  have q5_o33 : ρ' 5 = .list (s_.map (V.int .i64)) := (hf 5 rfl).trans (sl)
  clear hf
  obtain rfl := someE hR
  exact zv
def aN (F : Nat) (d : Desg) (inputs : List Int) (s_ : List Int) : Option ((List Int)) := ((fE F d).bind fun y1 => (if inputs.length + s_.length ≤ 1000000 then (if y1.length ≤ 1000000 then (if d.nodes.length ≤ 1000000 then (if ∀ x ∈ d.nodes, x.args.length ≤ 1000000 then (if (checkNodesS y1 d.nodes).2 = 0 then (if LeafOk y1 (inputs ++ s_) then some ((valsL d.nodes (inputs ++ s_) d.nodes.length, (0 : Int)).1) else none) else none) else none) else none) else none) else none))
theorem cO (bs : List Nat) (H : Heap) (F : Nat) (d : Desg) (inputs : List Int) (s_ : List Int) (R : (List Int)) (hR0 : aN F d inputs s_ = some R) : callw X bs 63 [(encDesg d), .list (inputs.map (V.int .i64)), .list (s_.map (V.int .i64))] H = some (.list (R.map (V.int .i64)), H) := by
 refine yw2 (rs := [.tmp 6]) (N := 24) (fn := Tryz.f63) xk63 Tryz.func63 ?_
 have hR := Kp.mk hR0
 clear hR0
 rw [aN] at hR
 (try simp only [cellsDesg, encDesg, encInts])
 obtain ⟨y1, y1_e, hR⟩ := bindE hR
 have y1_k := fun bs H => lL bs H F d y1 y1_e
 (try simp only [cellsDesg, encDesg, encInts] at y1_k)
 obtain ⟨g2, hR⟩ := grdE hR
 have g2_k := fun bs H => zp bs H inputs s_ g2
 obtain ⟨g3, hR⟩ := grdE hR
 obtain ⟨g4, hR⟩ := grdE hR
 obtain ⟨g5, hR⟩ := grdE hR
 obtain ⟨g6, hR⟩ := grdE hR
 obtain ⟨g7, hR⟩ := grdE hR
 have k8_k := fun bs H => xQ bs H y1 (inputs ++ s_) d.nodes g3 g4 g5 g6 g7
 obtain rfl := someE hR
 try refine zu ?_
 (refine yw1 (id := 1) [0, 1, 3, 4, 5, 6, 7, 8, 2, 9, 10, 11, 12, 13, 14, 15] [(4, 8), (4, 9), (7, 8)] ?_)
 exact zv
def aA (F : Nat) (d : Desg) (rule : Int) (values : List Int) : Option (Bool) := ((idxI d.rules rule).bind fun x1 => ((idxI values x1.guard).bind fun x2 => some (decide (x2 = 1))))
theorem dx (bs : List Nat) (H : Heap) (F : Nat) (d : Desg) (rule : Int) (values : List Int) (R : Bool) (hR0 : aA F d rule values = some R) : callw X bs 64 [(encDesg d), .int .i64 rule, .list (values.map (V.int .i64))] H = some (.bool R, H) := by
 refine yw2 (rs := [.tmp 6]) (N := 18) (fn := Tryz.f64) xk64 Tryz.func64 ?_
 have hR := Kp.mk hR0
 clear hR0
 rw [aA] at hR
 (try simp only [cellsDesg, encDesg, encInts])
 obtain ⟨x1, x1_e, hR⟩ := bindE hR
 obtain ⟨x1_p, x1_e⟩ := idxE x1_e
 obtain ⟨x2, x2_e, hR⟩ := bindE hR
 obtain ⟨x2_p, x2_e⟩ := idxE x2_e
 obtain rfl := someE hR
 exact zv
def am (F : Nat) (values : List Int) (x3 : Rul) : Nat → (Nat × (List Int)) → Option ((List Int))
 | 0, _ => none
 | k + 1, (s14, s16) => (if (decide ((s14 : Int) < (x3.writes.length : Int))) = true then ((x3.writes[s14]?).bind fun x19 => ((idxI values x19.cond).bind fun x20 => (if (decide (x20 = 1)) = true then ((idxI values x19.value).bind fun x22 => ((idxI s16 x19.element).bind fun x23 => (if inI ((s14 : Int) + 1) then am F values x3 k ((s14 + 1), (s16.set x19.element.toNat x22)) else none))) else (if inI ((s14 : Int) + 1) then am F values x3 k ((s14 + 1), s16) else none)))) else some s16)
theorem kh (bs : List Nat) (H : Heap) (F : Nat) (values : List Int) (s_ : List Int) (x3 : Rul) (a15 : HObj) : ∀ k s r ρ H', (∃ J17, H' = H ++ a15 :: .tok 0 :: .arr (s.2.map (V.int .i64)) 0 :: J17 ∧ ρ 2 = .list (values.map (V.int .i64)) ∧ ρ 9 = .ref 1 (H.length + 2) 0 0 s_.length ∧ ρ 20 = .list (x3.writes.map encWri) ∧ ρ 21 = .int .i64 (x3.writes.length : Int) ∧ ρ 22 = .int .i64 (s.1 : Int) ∧ Kp (s.2.length = s_.length)) → am F values x3 k s = some r → Lp X ⟨43, H.length :: bs⟩ (loopAt Tryz.f65 0) ρ H' ((fun r ex ρ H' => ∃ J17, H' = H ++ a15 :: .tok 0 :: .arr (r.map (V.int .i64)) 0 :: J17 ∧ ex = .exit 0 ∧ Kp (r.length = s_.length)) r) := by
 refine ae (fun _ => rfl) ?_
 rintro k ⟨s14, s16⟩ r ρ H' ⟨J17, hH, h2, h9, h20, h21, h22, hl0⟩ hR
 simp only at hH h2 h9 h20 h21 h22 hl0
 subst hH
 rw [am] at hR
 conv => arg 3; whnf
 try refine zw ?_
 rcases iteE hR with ⟨c18, hR⟩ | ⟨c18, hR⟩
 ·obtain ⟨x19, x19_e, hR⟩ := bindE hR
  obtain ⟨x20, x20_e, hR⟩ := bindE hR
  obtain ⟨x20_p, x20_e⟩ := idxE x20_e
  try refine zw ?_
  rcases iteE hR with ⟨c21, hR⟩ | ⟨c21, hR⟩
  ·obtain ⟨x22, x22_e, hR⟩ := bindE hR
   obtain ⟨x22_p, x22_e⟩ := idxE x22_e
   obtain ⟨x23, x23_e, hR⟩ := bindE hR
   obtain ⟨x23_p, x23_e⟩ := idxE x23_e
   have x23_l : x19.element.toNat < s_.length := Nat.lt_of_lt_of_eq (aa x23_e) hl0.out
   obtain ⟨g24, hR⟩ := grdE hR
   have g24_w := ac g24
   try refine zu ?_
   (refine yw0 (id := 6) oz2 ?_)
   try refine zu ?_
   exact ⟨((s14 + 1), (s16.set x19.element.toNat x22)), ⟨_, hq, sl, sl, sl, sl, sl, ⟨(List.length_set.trans hl0.out)⟩⟩, hR.out⟩
  ·obtain ⟨g25, hR⟩ := grdE hR
   have g25_w := ac g25
   refine zu ?_
   exact ⟨((s14 + 1), s16), ⟨_, hq, sl, sl, sl, sl, sl, ⟨hl0.out⟩⟩, hR.out⟩
 ·obtain rfl := someE hR
  refine zu ?_
  exact ⟨_, hq, rfl, ⟨hl0.out⟩⟩
def aG (F : Nat) (values : List Int) (x3 : Rul) : List Wri → Nat → (List Int) → Option ((List Int))
 | [], s14, s16 => some s16
 | x_ :: r_, s14, s16 => ((idxI values x_.cond).bind fun x20 => (if (decide (x20 = 1)) = true then ((idxI values x_.value).bind fun x22 => ((idxI s16 x_.element).bind fun x23 => aG F values x3 r_ (s14 + 1) (s16.set x_.element.toNat x22))) else aG F values x3 r_ (s14 + 1) s16))
theorem gn (F : Nat) (values : List Int) (x3 : Rul) (hl_ : x3.writes.length ≤ 1000000) : ∀ r_ i_ k_ (o_ : (List Int)), x3.writes.drop i_ = r_ → r_.length < k_ → am F values x3 k_ (i_, o_) = aG F values x3 r_ i_ o_
 | _, _, 0, _, _, hk => absurd hk (Nat.not_lt_zero _)
 | [], i_, k_ + 1, s16, hd, _ => by rw [am, aG]; simp only [ai hd, Bool.false_eq_true, if_false]
 | x_ :: r_, i_, k_ + 1, s16, hd, hk => by
  have ih := fun o_ => gn F values x3 hl_ r_ (i_ + 1) k_ o_ (ah hd) (Nat.lt_of_succ_lt_succ hk)
  rw [am, aG]; simp only [aq hd, ak hd, if_pos (av hd hl_), Option.bind_some, if_true, ih]
def ao (F : Nat) (values : List Int) (s_ : List Int) (x29 : Rul) : Nat → Nat → Option (Unit)
 | 0, _ => none
 | k + 1, s30 => (if (decide ((s30 : Int) < (x29.writes.length : Int))) = true then ((x29.writes[s30]?).bind fun x34 => ((idxI values x34.cond).bind fun x35 => (if (decide (x35 = 1)) = true then ((idxI values x34.value).bind fun x37 => ((idxI s_ x34.element).bind fun x38 => none)) else (if inI ((s30 : Int) + 1) then ao F values s_ x29 k (s30 + 1) else none)))) else some ())
theorem jz (bs : List Nat) (H : Heap) (F : Nat) (values : List Int) (s_ : List Int) (x29 : Rul) (a31 : HObj) : ∀ k s r ρ H', (∃ J32, H' = H ++ a31 :: .tok 0 :: J32 ∧ ρ 2 = .list (values.map (V.int .i64)) ∧ ρ 9 = .list (s_.map (V.int .i64)) ∧ ρ 20 = .list (x29.writes.map encWri) ∧ ρ 21 = .int .i64 (x29.writes.length : Int) ∧ ρ 22 = .int .i64 (s : Int)) → ao F values s_ x29 k s = some r → Lp X ⟨43, H.length :: bs⟩ (loopAt Tryz.f65 0) ρ H' ((fun r ex ρ H' => ∃ J32, H' = H ++ a31 :: .tok 0 :: J32 ∧ ex = .exit 0) r) := by
 refine ae (fun _ => rfl) ?_
 rintro k s30 r ρ H' ⟨J32, hH, h2, h9, h20, h21, h22⟩ hR
 skip
 subst hH
 rw [ao] at hR
 conv => arg 3; whnf
 try refine zw ?_
 rcases iteE hR with ⟨c33, hR⟩ | ⟨c33, hR⟩
 ·obtain ⟨x34, x34_e, hR⟩ := bindE hR
  obtain ⟨x35, x35_e, hR⟩ := bindE hR
  obtain ⟨x35_p, x35_e⟩ := idxE x35_e
  try refine zw ?_
  rcases iteE hR with ⟨c36, hR⟩ | ⟨c36, hR⟩
  ·obtain ⟨x37, x37_e, hR⟩ := bindE hR
   obtain ⟨x37_p, x37_e⟩ := idxE x37_e
   obtain ⟨x38, x38_e, hR⟩ := bindE hR
   obtain ⟨x38_p, x38_e⟩ := idxE x38_e
   exact nomatch hR.out
  ·obtain ⟨g39, hR⟩ := grdE hR
   have g39_w := ac g39
   refine zu ?_
   exact ⟨(s30 + 1), ⟨_, hq, sl, sl, sl, sl, sl⟩, hR.out⟩
 ·obtain rfl := someE hR
  refine zu ?_
  exact ⟨_, hq, rfl⟩
def cm (F : Nat) (values : List Int) (s_ : List Int) (x29 : Rul) : List Wri → Nat → Unit → Option (Unit)
 | [], s30, _ => some ()
 | x_ :: r_, s30, _ => ((idxI values x_.cond).bind fun x35 => (if (decide (x35 = 1)) = true then ((idxI values x_.value).bind fun x37 => ((idxI s_ x_.element).bind fun x38 => none)) else cm F values s_ x29 r_ (s30 + 1) ()))
theorem fV (F : Nat) (values : List Int) (s_ : List Int) (x29 : Rul) (hl_ : x29.writes.length ≤ 1000000) : ∀ r_ i_ k_ (o_ : Unit), x29.writes.drop i_ = r_ → r_.length < k_ → ao F values s_ x29 k_ i_ = cm F values s_ x29 r_ i_ o_
 | _, _, 0, _, _, hk => absurd hk (Nat.not_lt_zero _)
 | [], i_, k_ + 1, _, hd, _ => by rw [ao, cm]; simp only [ai hd, Bool.false_eq_true, if_false]
 | x_ :: r_, i_, k_ + 1, _, hd, hk => by
  have ih := fV F values s_ x29 hl_ r_ (i_ + 1) k_ () (ah hd) (Nat.lt_of_succ_lt_succ hk)
  rw [ao, cm]; simp only [aq hd, ak hd, if_pos (av hd hl_), Option.bind_some, if_true, ih]
def ap (F : Nat) (d : Desg) (rule : Int) (values : List Int) (s_ : List Int) : Option ((List Int)) := (if s_.length ≤ 1000000 then (if (decide (0 < s_.length)) = true then ((idxI d.rules rule).bind fun x3 => ((am F values x3 F (0, s_)).bind fun o27 => some o27)) else ((idxI d.rules rule).bind fun x29 => ((ao F values s_ x29 F 0).bind fun o41 => some s_))) else none)
theorem dM (bs : List Nat) (H : Heap) (F : Nat) (d : Desg) (rule : Int) (values : List Int) (s_ : List Int) (R : (List Int)) (hR0 : ap F d rule values s_ = some R) : callw X bs 65 [(encDesg d), .int .i64 rule, .list (values.map (V.int .i64)), .list (s_.map (V.int .i64))] H = some (.list (R.map (V.int .i64)), H) := by
 refine yw2 (rs := [.tmp 8]) (N := 43) (fn := Tryz.f65) xk65 Tryz.func65 ?_
 have hR := Kp.mk hR0
 clear hR0
 rw [ap] at hR
 (try simp only [cellsDesg, encDesg, encInts])
 obtain ⟨g1, hR⟩ := grdE hR
 rcases iteE hR with ⟨c2, hR⟩ | ⟨c2, hR⟩
 ·have c2_p := uU s_ (of_decide_eq_true c2) g1
  obtain ⟨x3, x3_e, hR⟩ := bindE hR
  obtain ⟨x3_p, x3_e⟩ := idxE x3_e
  obtain ⟨o27, o27_e, hR⟩ := bindE hR
  refine zu ?_
  refine ab (af (c := (loopAt Tryz.f65 0)) rfl (kh _ H F values s_ x3 _ _ (0, s_) o27 _ _ ⟨_, hq, sl, sl, sl, sl, sl, ⟨rfl⟩⟩ o27_e)) ?_
  rintro ex ρ' H' ⟨J28, rfl, rfl, hl_o27_0⟩ hf
  have q9_o27 : ρ' 9 = .ref 1 (H.length + 2) 0 0 s_.length := (hf 9 rfl).trans (sl)
  clear hf
  obtain rfl := someE hR
  have rt0 := ic (V.int .i64) (l := o27) (n := s_.length) hl_o27_0.out
  have rt1 := kb (l := o27) (n := s_.length) hl_o27_0.out
  exact zv
 ·have c2_p := uV s_ (of_decide_eq_false c2)
  have c2_k := fun bs H => uW bs H s_ g1
  obtain ⟨x29, x29_e, hR⟩ := bindE hR
  obtain ⟨x29_p, x29_e⟩ := idxE x29_e
  obtain ⟨o41, o41_e, hR⟩ := bindE hR
  refine zu ?_
  refine ab (af (c := (loopAt Tryz.f65 0)) rfl (jz _ H F values s_ x29 _ _ 0 o41 _ _ ⟨_, hq, sl, sl, sl, sl, sl⟩ o41_e)) ?_
  clear c2_k
  rintro ex ρ' H' ⟨J42, rfl, rfl⟩ hf
  have q9_o41 : ρ' 9 = .list (s_.map (V.int .i64)) := (hf 9 rfl).trans (sl)
  clear hf
  obtain rfl := someE hR
  exact zv
end
end Go.E
namespace Go.E
open Classical
theorem tE : ∀ {l : List (Int × Int)}, (firstP l).2 = 0 → ∀ p ∈ l, p.2 = 0
 | [], _, p, hp => by cases hp
 | a :: l, h, p, hp => by
  rw [xR] at h
  by_cases h0 : a.2 = 0
  ·rw [if_pos h0] at h
   rcases List.mem_cons.1 hp with rfl | hp
   ·exact h0
   ·exact tE h p hp
  ·rw [if_neg h0] at h; exact absurd h h0
structure OkD (d : Desg) : Prop where
 few : FewD d
 err : (designErrR d).2 = 0
def elWs (d : Desg) : List Int := d.elements.map (·.width)
def inWs (d : Desg) : List Int := d.inputs.map (·.width)
theorem rV (d : Desg) : leavesD d = inWs d ++ elWs d := rfl
structure WriteOk (d : Desg) (w : Wri) : Prop where
 el : inLen d.elements.length w.element = true
 cond : condL d.nodes w.cond = true
 val : isNodeL d.nodes w.value = true
 wid : widthL d.nodes w.value = elemW d w.element
section
variable {d : Desg} (h : OkD d)
include h
theorem OkD.part {p : Int × Int} (hp : p ∈ [(0, if isNameS d.name = true then 0 else 4), (0, if 12 < d.inputs.length then 8 else 0), portsR d, (0, if 40 < d.inputs.length + d.elements.length then 8 else 0), elemsR d,
 nodesErrR (leavesD d) d.nodes, (0, if 16 < d.rules.length then 8 else 0), rulesR d, (0, if 12 < d.outs.length then 8 else 0), outsR d, (0, if 16 < d.attrs.length then 8 else 0), attrsR d]) : p.2 = 0 := tE h.err p hp
theorem OkD.ports : (portsR d).2 = 0 := h.part (by simp)
theorem OkD.elems : (elemsR d).2 = 0 := h.part (by simp)
theorem OkD.rules : (rulesR d).2 = 0 := h.part (by simp)
theorem OkD.outs : (outsR d).2 = 0 := h.part (by simp)
theorem OkD.sum : d.inputs.length + d.elements.length ≤ 40 := by
 have := h.part (p := (0, if 40 < d.inputs.length + d.elements.length then 8 else 0)) (by simp)
 simp only at this
 split at this
 ·omega
 ·omega
theorem OkD.check : (checkNodesS (leavesD d) d.nodes).2 = 0 := by
 rw [rU h.ports h.elems (by have := h.sum; omega)]
 exact h.part (by simp)
theorem OkD.good : GoodAll (leavesD d) d.nodes := tw h.check
theorem OkD.elW : ∀ w ∈ elWs d, 1 ≤ w ∧ w ≤ 16 := fun w hw => by
 obtain ⟨x, hx, rfl⟩ := List.mem_map.1 hw
 have := (rq h.elems x hx).2.1
 unfold isW at this; simpa using this
theorem OkD.inW : ∀ w ∈ inWs d, 1 ≤ w ∧ w ≤ 16 := fun w hw => by
 obtain ⟨x, hx, rfl⟩ := List.mem_map.1 hw
 have := yE h.ports x hx
 unfold isW at this; simpa using this
theorem OkD.rule {r : Rul} (hr : r ∈ d.rules) : condL d.nodes r.guard = true ∧ ∀ w ∈ r.writes, WriteOk d w := by
 obtain ⟨j, hj⟩ := List.getElem?_of_mem hr
 have h1 := (pE (iJ _ _ _ h.rules j r hj)).2.2
 unfold ruleTail at h1
 rcases bb (condL d.nodes r.guard) with h2 | h2
 ·refine ⟨h2, fun w hw => ?_⟩
  rw [h2] at h1
  simp only [Bool.true_eq_false, if_false, writesErrR] at h1
  split at h1
  ·exact absurd h1 (by decide)
  ·have h3 := qJ (fun w => writeErrR d w) r.writes h1 w hw
   unfold writeErrR at h3
   rcases bb (inLen d.elements.length w.element) with a1 | a1 <;> rcases bb (condL d.nodes w.cond) with a2 | a2 <;> rcases bb (isNodeL d.nodes w.value) with a3 | a3 <;> simp [a1, a2, a3] at h3
   exact ⟨a1, a2, a3, h3⟩
 ·rw [h2, if_pos rfl] at h1; exact absurd h1 (by decide)
theorem OkD.out {o : Outp} (ho : o ∈ d.outs) : isNodeL d.nodes o.node = true := by
 obtain ⟨j, hj⟩ := List.getElem?_of_mem ho
 have h1 := (pE (iJ _ _ _ h.outs j o hj)).2.2
 rcases bb (isNodeL d.nodes o.node) with h2 | h2
 ·exact h2
 ·rw [h2] at h1; exact absurd h1 (by decide)
end
def valsD (d : Desg) (l s : List Int) : List Int := valsL d.nodes (l ++ s) d.nodes.length
def hapL (ws : List Wri) (v s : List Int) : List Int := ws.foldl (fun out w => if at0 v w.cond.toNat = 1 then out.set w.element.toNat (at0 v w.value.toNat) else out) s
def begL (els : List Elem) (s : List Int) : List Int := List.zipWith (fun (x : Elem) n => if x.kind = 1 then x.init else n) els s
def enD (v : List Int) (r : Rul) : Bool := decide (at0 v r.guard.toNat = 1)
theorem pH {a b x y : List Int} (h1 : LeafOk a x) (h2 : LeafOk b y) : LeafOk (a ++ b) (x ++ y) := by
 refine ⟨by simp [h1.1, h2.1], fun j w v hw hv => ?_⟩
 have hl := h1.1
 rcases Nat.lt_or_ge j a.length with hj | hj
 ·rw [List.getElem?_append_left hj] at hw
  rw [List.getElem?_append_left (by omega)] at hv
  exact h1.2 j w v hw hv
 ·rw [List.getElem?_append_right hj] at hw
  rw [List.getElem?_append_right (by omega), hl] at hv
  exact h2.2 _ w v hw hv
theorem fw {ws l : List Int} (hw : ∀ w ∈ ws, 1 ≤ w ∧ w ≤ 16) : valErrS ws l = 0 ↔ LeafOk ws l := by
 refine ⟨fun h => A7 hw h, fun h => ?_⟩
 unfold valErrS
 rw [if_pos h.1, qK _ _ _ fun j v hj => ?_]
 have hlt := aa hj
 have hjw : j < ws.length := by have := h.1; omega
 have hg : ws[j]? = some ws[j] := aS hjw
 have h3 := hw _ (List.mem_of_getElem? hg)
 rw [Nat.zero_add, fW hg, if_pos ((nM h3.1 h3.2).2 (h.2 j _ v hg hj))]
theorem mG {nodes : List Node} {v : List Int} {n : Int} (h : isNodeL nodes n = true) (hv : v.length = nodes.length) : idxI v n = some (at0 v n.toNat) ∧ ∃ x, nodes[n.toNat]? = some x ∧ x.width = widthL nodes n := by
 unfold isNodeL at h
 simp only [Bool.and_eq_true, decide_eq_true_eq] at h
 obtain ⟨x, h1, h2⟩ := lf (l := v) (i := n) h.1 (by omega)
 refine ⟨by rw [h1, fW h2], ?_⟩
 have hg : nodes[n.toNat]? = some (nodes[n.toNat]'(by omega)) := aS (by omega)
 exact ⟨_, hg, by unfold widthL; rw [hg]⟩
theorem nN {nodes : List Node} {n : Int} (h : condL nodes n = true) : isNodeL nodes n = true := by unfold condL at h; simp at h; exact h.1
theorem jR (d : Desg) (l s : List Int) : (valsD d l s).length = d.nodes.length := gV _ _ _
theorem Ch {d : Desg} (h : OkD d) {l s : List Int} (hl : LeafOk (inWs d) l) (hs : LeafOk (elWs d) s) {n : Int} (hn : isNodeL d.nodes n = true) : InW (at0 (valsD d l s) n.toNat) (widthL d.nodes n) := by
 obtain ⟨_, x, h1, h2⟩ := mG hn (jR d l s)
 rw [← h2]
 exact oE h.good (pH hl hs) d.nodes.length (Nat.le_refl _) _ x (aa h1) h1
theorem ue {d : Desg} {n : Int} (h : inLen d.elements.length n = true) : 0 ≤ n ∧ n.toNat < d.elements.length ∧ (elWs d)[n.toNat]? = some (elemW d n) := by
 unfold inLen at h
 simp only [Bool.and_eq_true, decide_eq_true_eq] at h
 have hg : d.elements[n.toNat]? = some (d.elements[n.toNat]'(by omega)) := aS (by omega)
 refine ⟨h.1, by omega, ?_⟩
 unfold elWs elemW
 rw [List.getElem?_map, hg]; rfl
theorem HK {ws s : List Int} (hs : LeafOk ws s) {i : Nat} {w v : Int} (hw : ws[i]? = some w) (hv : InW v w) : LeafOk ws (s.set i v) := by
 refine ⟨by simp [hs.1], fun j w' v' h1 h2 => ?_⟩
 by_cases e : j = i
 ·subst e
  rw [hw] at h1; cases h1
  rw [List.getElem?_set_self (by have := hs.1; have := aa hw; omega)] at h2
  cases h2; exact hv
 ·rw [List.getElem?_set_ne (Ne.symm e)] at h2
  exact hs.2 j w' v' h1 h2
theorem wR {d : Desg} (h : OkD d) {l s0 : List Int} (hl : LeafOk (inWs d) l) (h0 : LeafOk (elWs d) s0) : ∀ {ws : List Wri} {s : List Int}, (∀ w ∈ ws, WriteOk d w) → LeafOk (elWs d) s → LeafOk (elWs d) (hapL ws (valsD d l s0) s)
 | [], _, _, hs => hs
 | w :: r, s, hw, hs => by
  have w1 := hw w (by simp)
  unfold hapL
  rw [List.foldl_cons]
  refine wR h hl h0 (fun x hx => hw x (by simp [hx])) ?_
  split
  ·have hv := Ch h hl h0 w1.val
   rw [w1.wid] at hv
   exact HK hs (ue w1.el).2.2 hv
  ·exact hs
theorem uf (els : List Elem) (s : List Int) (h : s.length = els.length) : (begL els s).length = els.length := by simp [begL, h]
theorem HL {els : List Elem} {s : List Int} {j : Nat} {x : Elem} {n : Int} (hx : els[j]? = some x) (hn : s[j]? = some n) : (begL els s)[j]? = some (if x.kind = 1 then x.init else n) := by
 unfold begL; rw [List.getElem?_zipWith, hx, hn]
theorem wS {d : Desg} (h : OkD d) {s : List Int} (hs : LeafOk (elWs d) s) : LeafOk (elWs d) (begL d.elements s) := by
 have hl : s.length = d.elements.length := by rw [hs.1]; simp [elWs]
 refine ⟨by rw [uf _ _ hl]; simp [elWs], fun j w v h1 h2 => ?_⟩
 unfold elWs at h1
 rw [List.getElem?_map, Option.map_eq_some_iff] at h1
 obtain ⟨x, hx, rfl⟩ := h1
 have hlt := aa hx
 have hn : s[j]? = some s[j] := aS (by omega)
 rw [HL hx hn] at h2
 cases h2
 have hm := List.mem_of_getElem? hx
 have hw := h.elW x.width (List.mem_map.2 ⟨x, hm, rfl⟩)
 split
 ·exact (nM hw.1 hw.2).1 (rq h.elems x hm).2.2.1
 ·exact hs.2 j x.width _ (by simp [elWs, hx]) hn
variable {F : Nat} (hF : 1000000 < F)
include hF in
theorem nO {d : Desg} (h : OkD d) {l s : List Int} (hl : LeafOk (inWs d) l) (hs : LeafOk (elWs d) s) : aN F d l s = some (valsD d l s) := by
 have a1 := hl.1
 have a2 := hs.1
 have a3 := h.few.inputs
 have a4 := h.few.elements
 have a5 := h.few.nodes
 unfold aN
 rw [uY hF d a3 a4, Option.bind_some, if_pos (by simp [inWs] at a1; simp [elWs] at a2; omega), if_pos (by simp [leavesD]; omega), if_pos (by omega), if_pos (fun x hx => by have := h.few.args x hx; omega), if_pos h.check, if_pos (show LeafOk (leavesD d) (l ++ s) from pH hl hs)]
 rfl
theorem tF {d : Desg} (h : OkD d) {v : List Int} (hv : v.length = d.nodes.length) {r : Nat} {x : Rul} (hr : d.rules[r]? = some x) : aA F d (r : Int) v = some (enD v x) := by
 unfold aA enD
 rw [gb, hr, Option.bind_some, (mG (nN (h.rule (List.mem_of_getElem? hr)).1) hv).1]
 rfl
include hF in
theorem rW {d : Desg} (h : OkD d) {v s : List Int} (hv : v.length = d.nodes.length) (hs : s.length = d.elements.length) {r : Nat} {x : Rul} (hr : d.rules[r]? = some x) : ap F d (r : Int) v s = some (hapL x.writes v s) := by
 have hm := List.mem_of_getElem? hr
 have hw := (h.rule hm).2
 have hl := h.few.writes x hm
 have hel := h.few.elements
 unfold ap
 rw [if_pos (by omega)]
 by_cases h0 : 0 < s.length
 ·rw [if_pos (decide_eq_true h0), gb, hr, Option.bind_some]
  have k : ∀ (ws : List Wri) (i : Nat) (s : List Int), (∀ w ∈ ws, WriteOk d w) → s.length = d.elements.length → aG F v x ws i s = some (hapL ws v s) := by
   intro ws
   induction ws with
   | nil => intro i s _ _; rfl
   | cons w ws ih =>
    intro i s hw hs
    have w1 := hw w (by simp)
    have e1 := (mG (nN w1.cond) hv).1
    have e2 := (mG w1.val hv).1
    obtain ⟨e3, e4, _⟩ := ue w1.el
    obtain ⟨y, e5, _⟩ := lf (l := s) (i := w.element) e3 (by omega)
    simp only [aG, e1, e2, e5, Option.bind_some, hapL, List.foldl_cons]
    by_cases hc : at0 v w.cond.toNat = 1
    ·rw [if_pos (decide_eq_true hc), if_pos hc]
     exact ih _ _ (fun z hz => hw z (by simp [hz])) (by simpa using hs)
    ·rw [if_neg (by simpa using hc), if_neg hc]
     exact ih _ _ (fun z hz => hw z (by simp [hz])) hs
  have e := gn F v x (by omega) x.writes 0 F s rfl (by omega)
  rw [e, k _ _ _ hw hs]; rfl
 ·have hd0 : d.elements.length = 0 := by omega
  have hnil : x.writes = [] := by
   cases hx : x.writes with
   | nil => rfl
   | cons w ws =>
    have := (ue (hw w (by simp [hx])).el).2.1
    omega
  rw [if_neg (by simpa using h0), gb, hr, Option.bind_some]
  have e := fV F v s x (by omega) x.writes 0 F () rfl (by omega)
  rw [e, hnil]; rfl
include hF in
theorem kN {d : Desg} (h : d.elements.length ≤ 1000) {s : List Int} (hs : s.length = d.elements.length) : aF F d s = some (begL d.elements s) := by
 unfold aF
 rw [if_pos (by omega)]
 by_cases h0 : 0 < s.length
 ·rw [if_pos (decide_eq_true h0)]
  have k : ∀ (r : List Elem) (i : Nat) (o : List Int), d.elements.drop i = r → o.length = d.elements.length → aE F d r i o = some (o.take i ++ begL r (o.drop i)) := by
   intro r
   induction r with
   | nil =>
    intro i o hd ho
    have : d.elements.length ≤ i := by simpa using hd
    rw [List.take_of_length_le (by omega)]; simp [aE, begL]
   | cons x r ih =>
    intro i o hd ho
    have hlt := gm hd
    have hg : o[i]? = some o[i] := aS (by omega)
    have hdr : o.drop i = o[i] :: o.drop (i + 1) := by rw [List.drop_eq_getElem_cons (by omega)]
    simp only [aE, hg, Option.bind_some]
    by_cases hk : x.kind = 1
    ·rw [if_pos (decide_eq_true hk), ih _ _ (ah hd) (by simpa using ho), hdr]
     simp only [begL, List.zipWith_cons_cons, hk, if_true]
     rw [List.take_set, List.drop_set_of_lt (by omega), List.take_add_one, hg]
     simp only [Option.toList_some]
     have : (List.take i o ++ [o[i]]).set i x.init = List.take i o ++ [x.init] := by
      rw [List.set_append_right _ _ (by simp; omega)]; simp; rw [Nat.min_eq_left (by omega)]; simp
     rw [this]; simp
    ·rw [if_neg (by simpa using hk), ih _ _ (ah hd) ho, hdr]
     simp only [begL, List.zipWith_cons_cons, hk, if_false]
     rw [show List.take (i + 1) o = List.take i o ++ [o[i]] by rw [List.take_add_one, hg]; rfl, List.append_assoc]; rfl
  have e := gL F d (by omega) d.elements 0 F s rfl (by omega)
  rw [e, k d.elements 0 s rfl hs]; simp
 ·have hd0 : d.elements = [] := List.eq_nil_of_length_eq_zero (by omega)
  have hs0 : s = [] := List.eq_nil_of_length_eq_zero (by omega)
  have e := gA F d s (by omega) d.elements 0 F () rfl (by omega)
  rw [if_neg (by simpa using h0), e, hd0, hs0]; rfl
end Go.E
