/- Plain law of chapter 15: which designs are valid: the reference says designErrR too. Own work. -/
import Derived.Test.YtoljdokffnjapaaGreatP4
import Derived.Test.YtoljdokffnjapaaGreatP5
import Derived.Test.YtoljdokffnjapaaGreatP2
import Derived.Test.YtoljdokffnjapaaGreatP3
set_option linter.all false
set_option linter.all false
namespace Go.E
open Go.Proofs Classical
set_option maxRecDepth 100000
set_option maxHeartbeats 400000
noncomputable section
def dF (F : Nat) (n : Int) : Option (Bool) := some (decide ((1 : Int) ≤ n) && decide (n ≤ 16))
theorem kZ (bs : List Nat) (H : Heap) (F : Nat) (n : Int) (R : Bool) (hR0 : dF F n = some R) : callw X bs 176 [.int .i64 n] H = some (.bool R, H) := by
 refine yw2 (rs := [.tmp 2]) (N := 5) (fn := Tryz.f176) yJ Ef ?_
 have hR := Kp.mk hR0
 clear hR0
 rw [dF] at hR
 obtain rfl := someE hR
 exact zv
def bv (F : Nat) (l : List Port) (s2 : Nat) : Nat → Nat → Option (Oc (Nat) (Unit))
 | 0, _ => none
 | k + 1, s8 => (if (decide ((s8 : Int) < (s2 : Int))) = true then ((l[s8]?).bind fun x11 => ((l[s2]?).bind fun x12 => (if (decide (x11.name = x12.name)) = true then some (.a s2) else (if inI ((s8 : Int) + 1) then bv F l s2 k (s8 + 1) else none)))) else some (.b ()))
theorem nU (bs : List Nat) (H : Heap) (F : Nat) (l : List Port) (s2 : Nat) : ∀ k s r ρ H', (∃ J9, H' = H ++ J9 ∧ ρ 0 = .list (l.map encPort) ∧ ρ 4 = .int .i64 (s2 : Int) ∧ ρ 5 = .int .i64 (s : Int)) → bv F l s2 k s = some r → Lp X ⟨48, H.length :: bs⟩ (loopAt Tryz.f126 1) ρ H' ((fun r ex ρ H' => match r with | .a r => ∃ J9, H' = H ++ J9 ∧ ex = .ret ∧ ρ 2 = .int .i64 (r : Int) ∧ ρ 3 = .int .i64 5 | .b r => ∃ J9, H' = H ++ J9 ∧ ex = .exit 2) r) := by
 refine ac (fun _ => rfl) ?_
 rintro k s8 r ρ H' ⟨J9, hH, h0, h4, h5⟩ hR
 skip
 subst hH
 rw [bv] at hR
 conv => arg 3; whnf
 try refine zw ?_
 rcases iteE hR with ⟨c10, hR⟩ | ⟨c10, hR⟩
 ·obtain ⟨x11, x11_e, hR⟩ := bindE hR
  obtain ⟨x12, x12_e, hR⟩ := bindE hR
  try refine zu ?_
  (refine yw0 (id := 11) oz20 ?_)
  try refine zw ?_
  rcases iteE hR with ⟨c13, hR⟩ | ⟨c13, hR⟩
  ·obtain rfl := someE hR
   refine zu ?_
   exact ⟨_, hq, rfl, sl, sl⟩
  ·obtain ⟨g14, hR⟩ := grdE hR
   have g14_w := ae g14
   refine zu ?_
   exact ⟨(s8 + 1), ⟨_, hq, sl, sl, sl⟩, hR.out⟩
 ·obtain rfl := someE hR
  refine zu ?_
  exact ⟨_, hq, rfl⟩
def bw (F : Nat) (l : List Port) : Nat → Nat → Option (Oc (Nat × Nat) (Unit))
 | 0, _ => none
 | k + 1, s2 => (if (decide ((s2 : Int) < (l.length : Int))) = true then ((l[s2]?).bind fun x5 => (if x5.name.size ≤ 1000000 then (if (isNameS x5.name) = true then ((bv F l s2 F 0).bind fun o15 => match o15 with | .a o16 => some (.a (o16, 5)) | .b o18 => ((dF F x5.width).bind fun y21 => (if y21 = true then (if inI ((s2 : Int) + 1) then bw F l k (s2 + 1) else none) else some (.a (s2, 2))))) else some (.a (s2, 4))) else none)) else some (.b ()))
theorem nV (bs : List Nat) (H : Heap) (F : Nat) (l : List Port) : ∀ k s r ρ H', (∃ J3, H' = H ++ J3 ∧ ρ 0 = .list (l.map encPort) ∧ ρ 4 = .int .i64 (s : Int)) → bw F l k s = some r → Lp X ⟨48, H.length :: bs⟩ (loopAt Tryz.f126 0) ρ H' ((fun r ex ρ H' => match r with | .a r => ∃ J3, H' = H ++ J3 ∧ ex = .ret ∧ ρ 2 = .int .i64 (r.1 : Int) ∧ ρ 3 = .int .i64 (r.2 : Int) | .b r => ∃ J3, H' = H ++ J3 ∧ ex = .exit 0) r) := by
 refine ac (fun _ => rfl) ?_
 rintro k s2 r ρ H' ⟨J3, hH, h0, h4⟩ hR
 skip
 subst hH
 rw [bw] at hR
 conv => arg 3; whnf
 try refine zw ?_
 rcases iteE hR with ⟨c4, hR⟩ | ⟨c4, hR⟩
 ·obtain ⟨x5, x5_e, hR⟩ := bindE hR
  obtain ⟨g6, hR⟩ := grdE hR
  have g6_k := fun bs H => kx bs H x5.name g6
  try refine zw ?_
  clear g6_k
  rcases iteE hR with ⟨c7, hR⟩ | ⟨c7, hR⟩
  ·obtain ⟨o15, o15_e, hR⟩ := bindE hR
   refine zu ?_
   refine ab (af (c := (loopAt Tryz.f126 1)) rfl (nU _ H F l s2 _ 0 o15 _ _ ⟨_, hq, sl, sl, sl⟩ o15_e)) ?_
   rcases o15 with o16 | o18
   ·rintro ex ρ' H' ⟨J17, rfl, rfl, q2_o16, q3_o16⟩ hf
    clear hf
    obtain rfl := someE hR
    refine zu ?_
    exact ⟨_, hq, rfl, sl, sl⟩
   ·rintro ex ρ' H' ⟨J19, rfl, rfl⟩ hf
    have q0_o18 : ρ' 0 = .list (l.map encPort) := (hf 0 rfl).trans (sl)
    have q4_o18 : ρ' 4 = .int .i64 (s2 : Int) := (hf 4 rfl).trans (sl)
    clear hf
    obtain ⟨y21, y21_e, hR⟩ := bindE hR
    have y21_k := fun bs H => kZ bs H F x5.width y21 y21_e
    try refine zw ?_
    clear y21_k
    rcases iteE hR with ⟨c22, hR⟩ | ⟨c22, hR⟩
    ·obtain ⟨g23, hR⟩ := grdE hR
     have g23_w := ae g23
     refine zu ?_
     exact ⟨(s2 + 1), ⟨_, hq, sl, sl⟩, hR.out⟩
    ·obtain rfl := someE hR
     refine zu ?_
     exact ⟨_, hq, rfl, sl, sl⟩
  ·obtain rfl := someE hR
   refine zu ?_
   exact ⟨_, hq, rfl, sl, sl⟩
 ·obtain rfl := someE hR
  refine zu ?_
  exact ⟨_, hq, rfl⟩
def cM (F : Nat) (l : List Port) : List Port → Nat → Unit → Option (Oc (Nat × Nat) (Unit))
 | [], s2, _ => some (.b ())
 | x_ :: r_, s2, _ => (if x_.name.size ≤ 1000000 then (if (isNameS x_.name) = true then ((bv F l s2 F 0).bind fun o15 => match o15 with | .a o16 => some (.a (o16, 5)) | .b o18 => ((dF F x_.width).bind fun y21 => (if y21 = true then cM F l r_ (s2 + 1) () else some (.a (s2, 2))))) else some (.a (s2, 4))) else none)
theorem iQ (F : Nat) (l : List Port) (hl_ : l.length ≤ 1000000) : ∀ r_ i_ k_ (o_ : Unit), l.drop i_ = r_ → r_.length < k_ → bw F l k_ i_ = cM F l r_ i_ o_
 | _, _, 0, _, _, hk => absurd hk (Nat.not_lt_zero _)
 | [], i_, k_ + 1, _, hd, _ => by rw [bw, cM]; simp only [aj hd, Bool.false_eq_true, if_false]
 | x_ :: r_, i_, k_ + 1, _, hd, hk => by
  have ih := iQ F l hl_ r_ (i_ + 1) k_ () (ah hd) (Nat.lt_of_succ_lt_succ hk)
  rw [bw, cM]; simp only [az hd, ap hd, if_pos (aC hd hl_), Option.bind_some, if_true, ih]
def eM (F : Nat) (l : List Port) : Option (Int × Int) := (if (decide ((12 : Int) < (l.length : Int))) = true then some (0, 8) else ((bw F l F 0).bind fun o24 => match o24 with | .a o25 => some ((o25.1 : Int), (o25.2 : Int)) | .b o27 => some (0, 0)))
theorem qs (bs : List Nat) (H : Heap) (F : Nat) (l : List Port) (R : Int × Int) (hR0 : eM F l = some R) : callw X bs 126 [.list (l.map encPort)] H = some (.tuple [.int .i64 R.1, .int .i64 R.2], H) := by
 refine yw2 (rs := [.tmp 2, .tmp 3]) (N := 48) (fn := Tryz.f126) CV MO ?_
 have hR := Kp.mk hR0
 clear hR0
 rw [eM] at hR
 try refine zw ?_
 rcases iteE hR with ⟨c1, hR⟩ | ⟨c1, hR⟩
 ·obtain rfl := someE hR
  exact zv
 ·obtain ⟨o24, o24_e, hR⟩ := bindE hR
  refine zu ?_
  refine ab (af (c := (loopAt Tryz.f126 0)) rfl (nV _ H F l _ 0 o24 _ _ ⟨[], by simp, sl, sl⟩ o24_e)) ?_
  rcases o24 with o25 | o27
  ·rintro ex ρ' H' ⟨J26, rfl, rfl, q2_o25, q3_o25⟩ hf
   clear hf
   obtain rfl := someE hR
   exact zv
  ·rintro ex ρ' H' ⟨J28, rfl, rfl⟩ hf
   clear hf
   obtain rfl := someE hR
   exact zv
def aU (F : Nat) (l : List Elem) (s3 : Nat) : Nat → Nat → Option (Oc (Nat) (Unit))
 | 0, _ => none
 | k + 1, s9 => (if (decide ((s9 : Int) < (s3 : Int))) = true then ((l[s9]?).bind fun x12 => ((l[s3]?).bind fun x13 => (if (decide (x12.name = x13.name)) = true then some (.a s3) else (if inI ((s9 : Int) + 1) then aU F l s3 k (s9 + 1) else none)))) else some (.b ()))
theorem mB (bs : List Nat) (H : Heap) (F : Nat) (inputs : List Port) (l : List Elem) (s3 : Nat) : ∀ k s r ρ H', (∃ J10, H' = H ++ J10 ∧ ρ 0 = .list (inputs.map encPort) ∧ ρ 1 = .list (l.map encElem) ∧ ρ 6 = .int .i64 (s3 : Int) ∧ ρ 7 = .int .i64 (s : Int)) → aU F l s3 k s = some r → Lp X ⟨103, H.length :: bs⟩ (loopAt Tryz.f127 1) ρ H' ((fun r ex ρ H' => match r with | .a r => ∃ J10, H' = H ++ J10 ∧ ex = .ret ∧ ρ 4 = .int .i64 (r : Int) ∧ ρ 5 = .int .i64 5 | .b r => ∃ J10, H' = H ++ J10 ∧ ex = .exit 2) r) := by
 refine ac (fun _ => rfl) ?_
 rintro k s9 r ρ H' ⟨J10, hH, h0, h1, h6, h7⟩ hR
 skip
 subst hH
 rw [aU] at hR
 conv => arg 3; whnf
 try refine zw ?_
 rcases iteE hR with ⟨c11, hR⟩ | ⟨c11, hR⟩
 ·obtain ⟨x12, x12_e, hR⟩ := bindE hR
  obtain ⟨x13, x13_e, hR⟩ := bindE hR
  try refine zu ?_
  (refine yw0 (id := 11) oz20 ?_)
  try refine zw ?_
  rcases iteE hR with ⟨c14, hR⟩ | ⟨c14, hR⟩
  ·obtain rfl := someE hR
   refine zu ?_
   exact ⟨_, hq, rfl, sl, sl⟩
  ·obtain ⟨g15, hR⟩ := grdE hR
   have g15_w := ae g15
   refine zu ?_
   exact ⟨(s9 + 1), ⟨_, hq, sl, sl, sl, sl⟩, hR.out⟩
 ·obtain rfl := someE hR
  refine zu ?_
  exact ⟨_, hq, rfl⟩
def aV (F : Nat) (inputs : List Port) (l : List Elem) (s3 : Nat) : Nat → Nat → Option (Oc (Nat) (Unit))
 | 0, _ => none
 | k + 1, s21 => (if (decide ((s21 : Int) < (inputs.length : Int))) = true then ((inputs[s21]?).bind fun x24 => ((l[s3]?).bind fun x25 => (if (decide (x24.name = x25.name)) = true then some (.a s3) else (if inI ((s21 : Int) + 1) then aV F inputs l s3 k (s21 + 1) else none)))) else some (.b ()))
theorem mC (bs : List Nat) (H : Heap) (F : Nat) (inputs : List Port) (l : List Elem) (s3 : Nat) : ∀ k s r ρ H', (∃ J22, H' = H ++ J22 ∧ ρ 0 = .list (inputs.map encPort) ∧ ρ 1 = .list (l.map encElem) ∧ ρ 6 = .int .i64 (s3 : Int) ∧ ρ 8 = .int .i64 (s : Int)) → aV F inputs l s3 k s = some r → Lp X ⟨103, H.length :: bs⟩ (loopAt Tryz.f127 2) ρ H' ((fun r ex ρ H' => match r with | .a r => ∃ J22, H' = H ++ J22 ∧ ex = .ret ∧ ρ 4 = .int .i64 (r : Int) ∧ ρ 5 = .int .i64 5 | .b r => ∃ J22, H' = H ++ J22 ∧ ex = .exit 4) r) := by
 refine ac (fun _ => rfl) ?_
 rintro k s21 r ρ H' ⟨J22, hH, h0, h1, h6, h8⟩ hR
 skip
 subst hH
 rw [aV] at hR
 conv => arg 3; whnf
 try refine zw ?_
 rcases iteE hR with ⟨c23, hR⟩ | ⟨c23, hR⟩
 ·obtain ⟨x24, x24_e, hR⟩ := bindE hR
  obtain ⟨x25, x25_e, hR⟩ := bindE hR
  try refine zu ?_
  (refine yw0 (id := 16) oz20 ?_)
  try refine zw ?_
  rcases iteE hR with ⟨c26, hR⟩ | ⟨c26, hR⟩
  ·obtain rfl := someE hR
   refine zu ?_
   exact ⟨_, hq, rfl, sl, sl⟩
  ·obtain ⟨g27, hR⟩ := grdE hR
   have g27_w := ae g27
   refine zu ?_
   exact ⟨(s21 + 1), ⟨_, hq, sl, sl, sl, sl⟩, hR.out⟩
 ·obtain rfl := someE hR
  refine zu ?_
  exact ⟨_, hq, rfl⟩
def mD (F : Nat) (inputs : List Port) (l : List Elem) (s3 : Nat) : List Port → Nat → Unit → Option (Oc (Nat) (Unit))
 | [], s21, _ => some (.b ())
 | x_ :: r_, s21, _ => ((l[s3]?).bind fun x25 => (if (decide (x_.name = x25.name)) = true then some (.a s3) else mD F inputs l s3 r_ (s21 + 1) ()))
def aW (F : Nat) (inputs : List Port) (l : List Elem) : Nat → Nat → Option (Oc (Nat × Nat) (Unit))
 | 0, _ => none
 | k + 1, s3 => (if (decide ((s3 : Int) < (l.length : Int))) = true then ((l[s3]?).bind fun x6 => (if x6.name.size ≤ 1000000 then (if (isNameS x6.name) = true then ((aU F l s3 F 0).bind fun o16 => match o16 with | .a o17 => some (.a (o17, 5)) | .b o19 => ((aV F inputs l s3 F 0).bind fun o28 => match o28 with | .a o29 => some (.a (o29, 5)) | .b o31 => (if (decide ((0 : Int) ≤ x6.kind) && decide (x6.kind ≤ 1)) = true then ((dF F x6.width).bind fun y36 => (if y36 = true then (if 0 ≤ x6.width then (if (fitsN x6.init x6.width) = true then (if (decide ((0 : Int) ≤ x6.clk) && decide (x6.clk ≤ 3)) = true then (if inI ((s3 : Int) + 1) then aW F inputs l k (s3 + 1) else none) else some (.a (s3, 2))) else some (.a (s3, 2))) else none) else some (.a (s3, 2)))) else some (.a (s3, 15))))) else some (.a (s3, 4))) else none)) else some (.b ()))
theorem mE (bs : List Nat) (H : Heap) (F : Nat) (inputs : List Port) (l : List Elem) : ∀ k s r ρ H', (∃ J4, H' = H ++ J4 ∧ ρ 0 = .list (inputs.map encPort) ∧ ρ 1 = .list (l.map encElem) ∧ ρ 6 = .int .i64 (s : Int)) → aW F inputs l k s = some r → Lp X ⟨103, H.length :: bs⟩ (loopAt Tryz.f127 0) ρ H' ((fun r ex ρ H' => match r with | .a r => ∃ J4, H' = H ++ J4 ∧ ex = .ret ∧ ρ 4 = .int .i64 (r.1 : Int) ∧ ρ 5 = .int .i64 (r.2 : Int) | .b r => ∃ J4, H' = H ++ J4 ∧ ex = .exit 0) r) := by
 refine ac (fun _ => rfl) ?_
 rintro k s3 r ρ H' ⟨J4, hH, h0, h1, h6⟩ hR
 skip
 subst hH
 rw [aW] at hR
 conv => arg 3; whnf
 try refine zw ?_
 rcases iteE hR with ⟨c5, hR⟩ | ⟨c5, hR⟩
 ·obtain ⟨x6, x6_e, hR⟩ := bindE hR
  obtain ⟨g7, hR⟩ := grdE hR
  have g7_k := fun bs H => kx bs H x6.name g7
  try refine zw ?_
  clear g7_k
  rcases iteE hR with ⟨c8, hR⟩ | ⟨c8, hR⟩
  ·obtain ⟨o16, o16_e, hR⟩ := bindE hR
   refine zu ?_
   refine ab (af (c := (loopAt Tryz.f127 1)) rfl (mB _ H F inputs l s3 _ 0 o16 _ _ ⟨_, hq, sl, sl, sl, sl⟩ o16_e)) ?_
   rcases o16 with o17 | o19
   ·rintro ex ρ' H' ⟨J18, rfl, rfl, q4_o17, q5_o17⟩ hf
    clear hf
    obtain rfl := someE hR
    refine zu ?_
    exact ⟨_, hq, rfl, sl, sl⟩
   ·rintro ex ρ' H' ⟨J20, rfl, rfl⟩ hf
    have q0_o19 : ρ' 0 = .list (inputs.map encPort) := (hf 0 rfl).trans (sl)
    have q1_o19 : ρ' 1 = .list (l.map encElem) := (hf 1 rfl).trans (sl)
    have q6_o19 : ρ' 6 = .int .i64 (s3 : Int) := (hf 6 rfl).trans (sl)
    clear hf
    obtain ⟨o28, o28_e, hR⟩ := bindE hR
    refine zu ?_
    refine ab (af (c := (loopAt Tryz.f127 2)) rfl (mC _ H F inputs l s3 _ 0 o28 _ _ ⟨_, hq, sl, sl, sl, sl⟩ o28_e)) ?_
    rcases o28 with o29 | o31
    ·rintro ex ρ' H' ⟨J30, rfl, rfl, q4_o29, q5_o29⟩ hf
     clear hf
     obtain rfl := someE hR
     refine zu ?_
     exact ⟨_, hq, rfl, sl, sl⟩
    ·rintro ex ρ' H' ⟨J32, rfl, rfl⟩ hf
     have q0_o31 : ρ' 0 = .list (inputs.map encPort) := (hf 0 rfl).trans (sl)
     have q1_o31 : ρ' 1 = .list (l.map encElem) := (hf 1 rfl).trans (sl)
     have q6_o31 : ρ' 6 = .int .i64 (s3 : Int) := (hf 6 rfl).trans (sl)
     clear hf
     try refine zw ?_
     rcases iteE hR with ⟨c34, hR⟩ | ⟨c34, hR⟩
     ·obtain ⟨c34_1, c34_2⟩ := dT c34
      obtain ⟨y36, y36_e, hR⟩ := bindE hR
      have y36_k := fun bs H => kZ bs H F x6.width y36 y36_e
      try refine zu ?_
      (refine yw0 (id := 20) [0, 1, 2, 3, 4, 5, 6, 7, 8, 9, 10, 11, 12, 13, 14, 15, 16, 17, 18, 19, 20, 21, 22, 23, 24, 25, 26, 27, 28, 29] ?_)
      try refine zw ?_
      clear y36_k
      rcases iteE hR with ⟨c37, hR⟩ | ⟨c37, hR⟩
      ·obtain ⟨g40, hR⟩ := grdE hR
       have k41_k := fun bs H => tD bs H x6.init x6.width g40
       try refine zw ?_
       clear k41_k
       rcases iteE hR with ⟨c42, hR⟩ | ⟨c42, hR⟩
       ·try refine zw ?_
        rcases iteE hR with ⟨c44, hR⟩ | ⟨c44, hR⟩
        ·obtain ⟨c44_1, c44_2⟩ := dT c44
         obtain ⟨g45, hR⟩ := grdE hR
         have g45_w := ae g45
         refine zu ?_
         exact ⟨(s3 + 1), ⟨_, hq, sl, sl, sl⟩, hR.out⟩
        ·obtain rfl := someE hR
         refine zu ?_
         exact ⟨_, hq, rfl, sl, sl⟩
       ·obtain rfl := someE hR
        refine zu ?_
        exact ⟨_, hq, rfl, sl, sl⟩
      ·obtain rfl := someE hR
       refine zu ?_
       exact ⟨_, hq, rfl, sl, sl⟩
     ·obtain rfl := someE hR
      refine zu ?_
      exact ⟨_, hq, rfl, sl, sl⟩
  ·obtain rfl := someE hR
   refine zu ?_
   exact ⟨_, hq, rfl, sl, sl⟩
 ·obtain rfl := someE hR
  refine zu ?_
  exact ⟨_, hq, rfl⟩
def bG (F : Nat) (inputs : List Port) (l : List Elem) : List Elem → Nat → Unit → Option (Oc (Nat × Nat) (Unit))
 | [], s3, _ => some (.b ())
 | x_ :: r_, s3, _ => (if x_.name.size ≤ 1000000 then (if (isNameS x_.name) = true then ((aU F l s3 F 0).bind fun o16 => match o16 with | .a o17 => some (.a (o17, 5)) | .b o19 => ((aV F inputs l s3 F 0).bind fun o28 => match o28 with | .a o29 => some (.a (o29, 5)) | .b o31 => (if (decide ((0 : Int) ≤ x_.kind) && decide (x_.kind ≤ 1)) = true then ((dF F x_.width).bind fun y36 => (if y36 = true then (if 0 ≤ x_.width then (if (fitsN x_.init x_.width) = true then (if (decide ((0 : Int) ≤ x_.clk) && decide (x_.clk ≤ 3)) = true then bG F inputs l r_ (s3 + 1) () else some (.a (s3, 2))) else some (.a (s3, 2))) else none) else some (.a (s3, 2)))) else some (.a (s3, 15))))) else some (.a (s3, 4))) else none)
theorem ic (F : Nat) (inputs : List Port) (l : List Elem) (hl_ : l.length ≤ 1000000) : ∀ r_ i_ k_ (o_ : Unit), l.drop i_ = r_ → r_.length < k_ → aW F inputs l k_ i_ = bG F inputs l r_ i_ o_
 | _, _, 0, _, _, hk => absurd hk (Nat.not_lt_zero _)
 | [], i_, k_ + 1, _, hd, _ => by rw [aW, bG]; simp only [aj hd, Bool.false_eq_true, if_false]
 | x_ :: r_, i_, k_ + 1, _, hd, hk => by
  have ih := ic F inputs l hl_ r_ (i_ + 1) k_ () (ah hd) (Nat.lt_of_succ_lt_succ hk)
  rw [aW, bG]; simp only [az hd, ap hd, if_pos (aC hd hl_), Option.bind_some, if_true, ih]
def eK (F : Nat) (inputs : List Port) (l : List Elem) : Option (Int × Int) := (if inI ((inputs.length : Int) + (l.length : Int)) then (if (decide ((40 : Int) < ((inputs.length : Int) + (l.length : Int)))) = true then some (0, 8) else ((aW F inputs l F 0).bind fun o46 => match o46 with | .a o47 => some ((o47.1 : Int), (o47.2 : Int)) | .b o49 => some (0, 0))) else none)
theorem nW (bs : List Nat) (H : Heap) (F : Nat) (inputs : List Port) (l : List Elem) (R : Int × Int) (hR0 : eK F inputs l = some R) : callw X bs 127 [.list (inputs.map encPort), .list (l.map encElem)] H = some (.tuple [.int .i64 R.1, .int .i64 R.2], H) := by
 refine yw2 (rs := [.tmp 4, .tmp 5]) (N := 103) (fn := Tryz.f127) CW MP ?_
 have hR := Kp.mk hR0
 clear hR0
 rw [eK] at hR
 obtain ⟨g1, hR⟩ := grdE hR
 have g1_w := ae g1
 try refine zw ?_
 rcases iteE hR with ⟨c2, hR⟩ | ⟨c2, hR⟩
 ·obtain rfl := someE hR
  exact zv
 ·obtain ⟨o46, o46_e, hR⟩ := bindE hR
  refine zu ?_
  refine ab (af (c := (loopAt Tryz.f127 0)) rfl (mE _ H F inputs l _ 0 o46 _ _ ⟨[], by simp, sl, sl, sl⟩ o46_e)) ?_
  rcases o46 with o47 | o49
  ·rintro ex ρ' H' ⟨J48, rfl, rfl, q4_o47, q5_o47⟩ hf
   clear hf
   obtain rfl := someE hR
   exact zv
  ·rintro ex ρ' H' ⟨J50, rfl, rfl⟩ hf
   clear hf
   obtain rfl := someE hR
   exact zv
def cm (F : Nat) (d : Desg) : Nat → ((List Int) × Nat) → Option ((List Int))
 | 0, _ => none
 | k + 1, (s8, s9) => (if (decide ((s9 : Int) < (d.inputs.length : Int))) = true then ((d.inputs[s9]?).bind fun x12 => (if (s8.length + 1) ≤ 1000000 then (if inI ((s9 : Int) + 1) then cm F d k ((s8 ++ [x12.width]), (s9 + 1)) else none) else none)) else some s8)
theorem pI (bs : List Nat) (H : Heap) (F : Nat) (d : Desg) : ∀ k s r ρ H', (∃ J10, H' = H ++ .cells [.str d.name, .list (d.inputs.map encPort), .list (d.elements.map encElem), .list (d.nodes.map encNode), .list (d.rules.map encRul), .list (d.outs.map encOutp), .list (d.attrs.map encAttr)] :: .tok 0 :: .tok s.1.length :: J10 ∧ ρ 1 = .ptr H.length 0 ∧ ρ 3 = .tl (H.length + 2) (s.1.map (V.int .i64)) ∧ ρ 4 = .int .i64 (s.2 : Int)) → cm F d k s = some r → Lp X ⟨39, H.length :: bs⟩ (loopAt Tryz.f75 0) ρ H' ((fun r ex ρ H' => ∃ J10, H' = H ++ .cells [.str d.name, .list (d.inputs.map encPort), .list (d.elements.map encElem), .list (d.nodes.map encNode), .list (d.rules.map encRul), .list (d.outs.map encOutp), .list (d.attrs.map encAttr)] :: .tok 0 :: .tok r.length :: J10 ∧ ex = .exit 0 ∧ ρ 3 = .tl (H.length + 2) (r.map (V.int .i64))) r) := by
 refine ac (fun _ => rfl) ?_
 rintro k ⟨s8, s9⟩ r ρ H' ⟨J10, hH, h1, h3, h4⟩ hR
 simp only at hH h1 h3 h4
 subst hH
 rw [cm] at hR
 conv => arg 3; whnf
 try refine zw ?_
 rcases iteE hR with ⟨c11, hR⟩ | ⟨c11, hR⟩
 ·obtain ⟨x12, x12_e, hR⟩ := bindE hR
  obtain ⟨g13, hR⟩ := grdE hR
  have g13_r := iq (n := (s8.length + 1)) (k := 8) g13 (by omega)
  obtain ⟨g14, hR⟩ := grdE hR
  have g14_w := ae g14
  refine zu ?_
  exact ⟨((s8 ++ [x12.width]), (s9 + 1)), ⟨_, hq, sl, sl, sl⟩, hR.out⟩
 ·obtain rfl := someE hR
  refine zu ?_
  exact ⟨_, hq, rfl, sl⟩
def cr (F : Nat) (d : Desg) : List Port → Nat → (List Int) → Option ((List Int))
 | [], s9, s8 => some s8
 | x_ :: r_, s9, s8 => (if (s8.length + 1) ≤ 1000000 then cr F d r_ (s9 + 1) (s8 ++ [x_.width]) else none)
theorem jM (F : Nat) (d : Desg) (hl_ : d.inputs.length ≤ 1000000) : ∀ r_ i_ k_ (o_ : (List Int)), d.inputs.drop i_ = r_ → r_.length < k_ → cm F d k_ (o_, i_) = cr F d r_ i_ o_
 | _, _, 0, _, _, hk => absurd hk (Nat.not_lt_zero _)
 | [], i_, k_ + 1, s8, hd, _ => by rw [cm, cr]; simp only [aj hd, Bool.false_eq_true, if_false]
 | x_ :: r_, i_, k_ + 1, s8, hd, hk => by
  have ih := fun o_ => jM F d hl_ r_ (i_ + 1) k_ o_ (ah hd) (Nat.lt_of_succ_lt_succ hk)
  rw [cm, cr]; simp only [az hd, ap hd, if_pos (aC hd hl_), Option.bind_some, if_true, ih]
def cn (F : Nat) (d : Desg) : Nat → ((List Int) × Nat) → Option ((List Int))
 | 0, _ => none
 | k + 1, (s25, s26) => (if (decide ((s26 : Int) < (d.elements.length : Int))) = true then ((d.elements[s26]?).bind fun x29 => (if (s25.length + 1) ≤ 1000000 then (if inI ((s26 : Int) + 1) then cn F d k ((s25 ++ [x29.width]), (s26 + 1)) else none) else none)) else some s25)
theorem pJ (bs : List Nat) (H : Heap) (F : Nat) (d : Desg) : ∀ k s r ρ H', (∃ J27, H' = H ++ .cells [.str d.name, .list (d.inputs.map encPort), .list (d.elements.map encElem), .list (d.nodes.map encNode), .list (d.rules.map encRul), .list (d.outs.map encOutp), .list (d.attrs.map encAttr)] :: .tok 0 :: .tok s.1.length :: J27 ∧ ρ 1 = .ptr H.length 0 ∧ ρ 3 = .tl (H.length + 2) (s.1.map (V.int .i64)) ∧ ρ 5 = .int .i64 (s.2 : Int)) → cn F d k s = some r → Lp X ⟨39, H.length :: bs⟩ (loopAt Tryz.f75 1) ρ H' ((fun r ex ρ H' => ∃ J27, H' = H ++ .cells [.str d.name, .list (d.inputs.map encPort), .list (d.elements.map encElem), .list (d.nodes.map encNode), .list (d.rules.map encRul), .list (d.outs.map encOutp), .list (d.attrs.map encAttr)] :: .tok 0 :: .tok r.length :: J27 ∧ ex = .exit 2 ∧ ρ 3 = .tl (H.length + 2) (r.map (V.int .i64))) r) := by
 refine ac (fun _ => rfl) ?_
 rintro k ⟨s25, s26⟩ r ρ H' ⟨J27, hH, h1, h3, h5⟩ hR
 simp only at hH h1 h3 h5
 subst hH
 rw [cn] at hR
 conv => arg 3; whnf
 try refine zw ?_
 rcases iteE hR with ⟨c28, hR⟩ | ⟨c28, hR⟩
 ·obtain ⟨x29, x29_e, hR⟩ := bindE hR
  obtain ⟨g30, hR⟩ := grdE hR
  have g30_r := iq (n := (s25.length + 1)) (k := 8) g30 (by omega)
  obtain ⟨g31, hR⟩ := grdE hR
  have g31_w := ae g31
  refine zu ?_
  exact ⟨((s25 ++ [x29.width]), (s26 + 1)), ⟨_, hq, sl, sl, sl⟩, hR.out⟩
 ·obtain rfl := someE hR
  refine zu ?_
  exact ⟨_, hq, rfl, sl⟩
def ct (F : Nat) (d : Desg) : List Elem → Nat → (List Int) → Option ((List Int))
 | [], s26, s25 => some s25
 | x_ :: r_, s26, s25 => (if (s25.length + 1) ≤ 1000000 then ct F d r_ (s26 + 1) (s25 ++ [x_.width]) else none)
theorem jN (F : Nat) (d : Desg) (hl_ : d.elements.length ≤ 1000000) : ∀ r_ i_ k_ (o_ : (List Int)), d.elements.drop i_ = r_ → r_.length < k_ → cn F d k_ (o_, i_) = ct F d r_ i_ o_
 | _, _, 0, _, _, hk => absurd hk (Nat.not_lt_zero _)
 | [], i_, k_ + 1, s25, hd, _ => by rw [cn, ct]; simp only [aj hd, Bool.false_eq_true, if_false]
 | x_ :: r_, i_, k_ + 1, s25, hd, hk => by
  have ih := fun o_ => jN F d hl_ r_ (i_ + 1) k_ o_ (ah hd) (Nat.lt_of_succ_lt_succ hk)
  rw [cn, ct]; simp only [az hd, ap hd, if_pos (aC hd hl_), Option.bind_some, if_true, ih]
def eN (F : Nat) (d : Desg) : Option ((List Int)) := ((cm F d F ([], 0)).bind fun o16 => ((cn F d F (o16, 0)).bind fun o33 => some o33))
theorem mF (bs : List Nat) (H : Heap) (F : Nat) (d : Desg) (R : (List Int)) (hR0 : eN F d = some R) : callw X bs 75 [(encDesg d)] H = some (.list (R.map (V.int .i64)), H) := by
 refine yw2 (rs := [.tmp 2]) (N := 39) (fn := Tryz.f75) xk75 xf75 ?_
 have hR := Kp.mk hR0
 clear hR0
 rw [eN] at hR
 (try simp only [cellsDesg, encDesg, encInts])
 obtain ⟨o16, o16_e, hR⟩ := bindE hR
 refine zu ?_
 refine ab (af (c := (loopAt Tryz.f75 0)) rfl (pI _ H F d _ ([], 0) o16 _ _ ⟨_, hq, sl, sl, sl⟩ o16_e)) ?_
 rintro ex ρ' H' ⟨J17, rfl, rfl, q3_o16⟩ hf
 have q1_o16 : ρ' 1 = .ptr H.length 0 := (hf 1 rfl).trans (sl)
 clear hf
 obtain ⟨o33, o33_e, hR⟩ := bindE hR
 refine zu ?_
 refine ab (af (c := (loopAt Tryz.f75 1)) rfl (pJ _ H F d _ (o16, 0) o33 _ _ ⟨_, hq, sl, sl, sl⟩ o33_e)) ?_
 rintro ex ρ' H' ⟨J34, rfl, rfl, q3_o33⟩ hf
 clear hf
 obtain rfl := someE hR
 exact zv
def dj (F : Nat) (nodes : List Node) (i : Int) : Option (Bool) := (if inI ((nodes.length : Int) - 1) then some (decide ((0 : Int) ≤ i) && decide (i ≤ ((nodes.length : Int) - 1))) else none)
theorem jb (bs : List Nat) (H : Heap) (F : Nat) (nodes : List Node) (i : Int) (R : Bool) (hR0 : dj F nodes i = some R) : callw X bs 87 [.list (nodes.map encNode), .int .i64 i] H = some (.bool R, H) := by
 refine yw2 (rs := [.tmp 4]) (N := 10) (fn := Tryz.f87) xk87 xf87 ?_
 have hR := Kp.mk hR0
 clear hR0
 rw [dj] at hR
 obtain ⟨g1, hR⟩ := grdE hR
 have g1_w := ae g1
 obtain rfl := someE hR
 exact zv
def bd (F : Nat) (nodes : List Node) (i : Int) : Option (Bool) := ((dj F nodes i).bind fun y1 => (if y1 = true then ((idxI nodes i).bind fun x3 => some (decide (x3.width = 1))) else some false))
theorem gv (bs : List Nat) (H : Heap) (F : Nat) (nodes : List Node) (i : Int) (R : Bool) (hR0 : bd F nodes i = some R) : callw X bs 33 [.list (nodes.map encNode), .int .i64 i] H = some (.bool R, H) := by
 refine yw2 (rs := [.tmp 4]) (N := 16) (fn := Tryz.f33) xk33 xf33 ?_
 have hR := Kp.mk hR0
 clear hR0
 rw [bd] at hR
 obtain ⟨y1, y1_e, hR⟩ := bindE hR
 have y1_k := fun bs H => jb bs H F nodes i y1 y1_e
 try refine zw ?_
 clear y1_k
 rcases iteE hR with ⟨c2, hR⟩ | ⟨c2, hR⟩
 ·obtain ⟨x3, x3_e, hR⟩ := bindE hR
  obtain ⟨x3_p, x3_e⟩ := idxE x3_e
  obtain rfl := someE hR
  exact zv
 ·obtain rfl := someE hR
  exact zv
def bn (F : Nat) (elements : List Elem) (nodes : List Node) (l : List Wri) : Nat → Nat → Option (Oc (Nat) (Unit))
 | 0, _ => none
 | k + 1, s2 => (if (decide ((s2 : Int) < (l.length : Int))) = true then ((l[s2]?).bind fun x5 => (if inI ((elements.length : Int) - 1) then (if (decide ((0 : Int) ≤ x5.element) && decide (x5.element ≤ ((elements.length : Int) - 1))) = true then ((bd F nodes x5.cond).bind fun y9 => (if y9 = true then ((dj F nodes x5.value).bind fun y12 => (if y12 = true then ((idxI nodes x5.value).bind fun x15 => ((idxI elements x5.element).bind fun x17 => (if (decide (¬x15.width = x17.width)) = true then some (.a 25) else (if inI ((s2 : Int) + 1) then bn F elements nodes l k (s2 + 1) else none)))) else some (.a 9))) else some (.a 9))) else some (.a 6)) else none)) else some (.b ()))
theorem nw (bs : List Nat) (H : Heap) (F : Nat) (elements : List Elem) (nodes : List Node) (l : List Wri) : ∀ k s r ρ H', (∃ J3, H' = H ++ J3 ∧ ρ 0 = .list (elements.map encElem) ∧ ρ 1 = .list (nodes.map encNode) ∧ ρ 2 = .list (l.map encWri) ∧ ρ 7 = .int .i64 (s : Int)) → bn F elements nodes l k s = some r → Lp X ⟨64, H.length :: bs⟩ (loopAt Tryz.f129 0) ρ H' ((fun r ex ρ H' => match r with | .a r => ∃ J3, H' = H ++ J3 ∧ ex = .ret ∧ ρ 6 = .int .i64 (r : Int) | .b r => ∃ J3, H' = H ++ J3 ∧ ex = .exit 0) r) := by
 refine ac (fun _ => rfl) ?_
 rintro k s2 r ρ H' ⟨J3, hH, h0, h1, h2, h7⟩ hR
 skip
 subst hH
 rw [bn] at hR
 conv => arg 3; whnf
 try refine zw ?_
 rcases iteE hR with ⟨c4, hR⟩ | ⟨c4, hR⟩
 ·obtain ⟨x5, x5_e, hR⟩ := bindE hR
  obtain ⟨g6, hR⟩ := grdE hR
  have g6_w := ae g6
  try refine zw ?_
  rcases iteE hR with ⟨c7, hR⟩ | ⟨c7, hR⟩
  ·obtain ⟨c7_1, c7_2⟩ := dT c7
   obtain ⟨y9, y9_e, hR⟩ := bindE hR
   have y9_k := fun bs H => gv bs H F nodes x5.cond y9 y9_e
   try refine zw ?_
   clear y9_k
   rcases iteE hR with ⟨c10, hR⟩ | ⟨c10, hR⟩
   ·obtain ⟨y12, y12_e, hR⟩ := bindE hR
    have y12_k := fun bs H => jb bs H F nodes x5.value y12 y12_e
    try refine zw ?_
    clear y12_k
    rcases iteE hR with ⟨c13, hR⟩ | ⟨c13, hR⟩
    ·obtain ⟨x15, x15_e, hR⟩ := bindE hR
     obtain ⟨x15_p, x15_e⟩ := idxE x15_e
     obtain ⟨x17, x17_e, hR⟩ := bindE hR
     obtain ⟨x17_p, x17_e⟩ := idxE x17_e
     try refine zu ?_
     (refine yw0 (id := 10) oz16 ?_)
     try refine zw ?_
     rcases iteE hR with ⟨c18, hR⟩ | ⟨c18, hR⟩
     ·obtain rfl := someE hR
      refine zu ?_
      exact ⟨_, hq, rfl, sl⟩
     ·obtain ⟨g19, hR⟩ := grdE hR
      have g19_w := ae g19
      refine zu ?_
      exact ⟨(s2 + 1), ⟨_, hq, sl, sl, sl, sl⟩, hR.out⟩
    ·obtain rfl := someE hR
     refine zu ?_
     exact ⟨_, hq, rfl, sl⟩
   ·obtain rfl := someE hR
    refine zu ?_
    exact ⟨_, hq, rfl, sl⟩
  ·obtain rfl := someE hR
   refine zu ?_
   exact ⟨_, hq, rfl, sl⟩
 ·obtain rfl := someE hR
  refine zu ?_
  exact ⟨_, hq, rfl⟩
def ca (F : Nat) (elements : List Elem) (nodes : List Node) (l : List Wri) : List Wri → Nat → Unit → Option (Oc (Nat) (Unit))
 | [], s2, _ => some (.b ())
 | x_ :: r_, s2, _ => (if inI ((elements.length : Int) - 1) then (if (decide ((0 : Int) ≤ x_.element) && decide (x_.element ≤ ((elements.length : Int) - 1))) = true then ((bd F nodes x_.cond).bind fun y9 => (if y9 = true then ((dj F nodes x_.value).bind fun y12 => (if y12 = true then ((idxI nodes x_.value).bind fun x15 => ((idxI elements x_.element).bind fun x17 => (if (decide (¬x15.width = x17.width)) = true then some (.a 25) else ca F elements nodes l r_ (s2 + 1) ()))) else some (.a 9))) else some (.a 9))) else some (.a 6)) else none)
theorem iy (F : Nat) (elements : List Elem) (nodes : List Node) (l : List Wri) (hl_ : l.length ≤ 1000000) : ∀ r_ i_ k_ (o_ : Unit), l.drop i_ = r_ → r_.length < k_ → bn F elements nodes l k_ i_ = ca F elements nodes l r_ i_ o_
 | _, _, 0, _, _, hk => absurd hk (Nat.not_lt_zero _)
 | [], i_, k_ + 1, _, hd, _ => by rw [bn, ca]; simp only [aj hd, Bool.false_eq_true, if_false]
 | x_ :: r_, i_, k_ + 1, _, hd, hk => by
  have ih := iy F elements nodes l hl_ r_ (i_ + 1) k_ () (ah hd) (Nat.lt_of_succ_lt_succ hk)
  rw [bn, ca]; simp only [az hd, ap hd, if_pos (aC hd hl_), Option.bind_some, if_true, ih]
def eA (F : Nat) (elements : List Elem) (nodes : List Node) (l : List Wri) : Option (Int) := (if (decide ((16 : Int) < (l.length : Int))) = true then some 8 else ((bn F elements nodes l F 0).bind fun o20 => match o20 with | .a o21 => some (o21 : Int) | .b o23 => some 0))
theorem pK (bs : List Nat) (H : Heap) (F : Nat) (elements : List Elem) (nodes : List Node) (l : List Wri) (R : Int) (hR0 : eA F elements nodes l = some R) : callw X bs 129 [.list (elements.map encElem), .list (nodes.map encNode), .list (l.map encWri)] H = some (.int .i64 R, H) := by
 refine yw2 (rs := [.tmp 6]) (N := 64) (fn := Tryz.f129) CY MR ?_
 have hR := Kp.mk hR0
 clear hR0
 rw [eA] at hR
 try refine zw ?_
 rcases iteE hR with ⟨c1, hR⟩ | ⟨c1, hR⟩
 ·obtain rfl := someE hR
  exact zv
 ·obtain ⟨o20, o20_e, hR⟩ := bindE hR
  refine zu ?_
  refine ab (af (c := (loopAt Tryz.f129 0)) rfl (nw _ H F elements nodes l _ 0 o20 _ _ ⟨[], by simp, sl, sl, sl, sl⟩ o20_e)) ?_
  rcases o20 with o21 | o23
  ·rintro ex ρ' H' ⟨J22, rfl, rfl, q6_o21⟩ hf
   clear hf
   obtain rfl := someE hR
   exact zv
  ·rintro ex ρ' H' ⟨J24, rfl, rfl⟩ hf
   clear hf
   obtain rfl := someE hR
   exact zv
def bg (F : Nat) (l : List Outp) (s2 : Nat) : Nat → Nat → Option (Oc (Nat) (Unit))
 | 0, _ => none
 | k + 1, s8 => (if (decide ((s8 : Int) < (s2 : Int))) = true then ((l[s8]?).bind fun x11 => ((l[s2]?).bind fun x12 => (if (decide (x11.name = x12.name)) = true then some (.a s2) else (if inI ((s8 : Int) + 1) then bg F l s2 k (s8 + 1) else none)))) else some (.b ()))
theorem mJ (bs : List Nat) (H : Heap) (F : Nat) (nodes : List Node) (l : List Outp) (s2 : Nat) : ∀ k s r ρ H', (∃ J9, H' = H ++ J9 ∧ ρ 0 = .list (nodes.map encNode) ∧ ρ 1 = .list (l.map encOutp) ∧ ρ 6 = .int .i64 (s2 : Int) ∧ ρ 7 = .int .i64 (s : Int)) → bg F l s2 k s = some r → Lp X ⟨51, H.length :: bs⟩ (loopAt Tryz.f130 1) ρ H' ((fun r ex ρ H' => match r with | .a r => ∃ J9, H' = H ++ J9 ∧ ex = .ret ∧ ρ 4 = .int .i64 (r : Int) ∧ ρ 5 = .int .i64 5 | .b r => ∃ J9, H' = H ++ J9 ∧ ex = .exit 2) r) := by
 refine ac (fun _ => rfl) ?_
 rintro k s8 r ρ H' ⟨J9, hH, h0, h1, h6, h7⟩ hR
 skip
 subst hH
 rw [bg] at hR
 conv => arg 3; whnf
 try refine zw ?_
 rcases iteE hR with ⟨c10, hR⟩ | ⟨c10, hR⟩
 ·obtain ⟨x11, x11_e, hR⟩ := bindE hR
  obtain ⟨x12, x12_e, hR⟩ := bindE hR
  try refine zu ?_
  (refine yw0 (id := 11) oz20 ?_)
  try refine zw ?_
  rcases iteE hR with ⟨c13, hR⟩ | ⟨c13, hR⟩
  ·obtain rfl := someE hR
   refine zu ?_
   exact ⟨_, hq, rfl, sl, sl⟩
  ·obtain ⟨g14, hR⟩ := grdE hR
   have g14_w := ae g14
   refine zu ?_
   exact ⟨(s8 + 1), ⟨_, hq, sl, sl, sl, sl⟩, hR.out⟩
 ·obtain rfl := someE hR
  refine zu ?_
  exact ⟨_, hq, rfl⟩
def bh (F : Nat) (nodes : List Node) (l : List Outp) : Nat → Nat → Option (Oc (Nat × Nat) (Unit))
 | 0, _ => none
 | k + 1, s2 => (if (decide ((s2 : Int) < (l.length : Int))) = true then ((l[s2]?).bind fun x5 => (if x5.name.size ≤ 1000000 then (if (isNameS x5.name) = true then ((bg F l s2 F 0).bind fun o15 => match o15 with | .a o16 => some (.a (o16, 5)) | .b o18 => ((dj F nodes x5.node).bind fun y21 => (if y21 = true then (if inI ((s2 : Int) + 1) then bh F nodes l k (s2 + 1) else none) else some (.a (s2, 9))))) else some (.a (s2, 4))) else none)) else some (.b ()))
theorem mK (bs : List Nat) (H : Heap) (F : Nat) (nodes : List Node) (l : List Outp) : ∀ k s r ρ H', (∃ J3, H' = H ++ J3 ∧ ρ 0 = .list (nodes.map encNode) ∧ ρ 1 = .list (l.map encOutp) ∧ ρ 6 = .int .i64 (s : Int)) → bh F nodes l k s = some r → Lp X ⟨51, H.length :: bs⟩ (loopAt Tryz.f130 0) ρ H' ((fun r ex ρ H' => match r with | .a r => ∃ J3, H' = H ++ J3 ∧ ex = .ret ∧ ρ 4 = .int .i64 (r.1 : Int) ∧ ρ 5 = .int .i64 (r.2 : Int) | .b r => ∃ J3, H' = H ++ J3 ∧ ex = .exit 0) r) := by
 refine ac (fun _ => rfl) ?_
 rintro k s2 r ρ H' ⟨J3, hH, h0, h1, h6⟩ hR
 skip
 subst hH
 rw [bh] at hR
 conv => arg 3; whnf
 try refine zw ?_
 rcases iteE hR with ⟨c4, hR⟩ | ⟨c4, hR⟩
 ·obtain ⟨x5, x5_e, hR⟩ := bindE hR
  obtain ⟨g6, hR⟩ := grdE hR
  have g6_k := fun bs H => kx bs H x5.name g6
  try refine zw ?_
  clear g6_k
  rcases iteE hR with ⟨c7, hR⟩ | ⟨c7, hR⟩
  ·obtain ⟨o15, o15_e, hR⟩ := bindE hR
   refine zu ?_
   refine ab (af (c := (loopAt Tryz.f130 1)) rfl (mJ _ H F nodes l s2 _ 0 o15 _ _ ⟨_, hq, sl, sl, sl, sl⟩ o15_e)) ?_
   rcases o15 with o16 | o18
   ·rintro ex ρ' H' ⟨J17, rfl, rfl, q4_o16, q5_o16⟩ hf
    clear hf
    obtain rfl := someE hR
    refine zu ?_
    exact ⟨_, hq, rfl, sl, sl⟩
   ·rintro ex ρ' H' ⟨J19, rfl, rfl⟩ hf
    have q0_o18 : ρ' 0 = .list (nodes.map encNode) := (hf 0 rfl).trans (sl)
    have q1_o18 : ρ' 1 = .list (l.map encOutp) := (hf 1 rfl).trans (sl)
    have q6_o18 : ρ' 6 = .int .i64 (s2 : Int) := (hf 6 rfl).trans (sl)
    clear hf
    obtain ⟨y21, y21_e, hR⟩ := bindE hR
    have y21_k := fun bs H => jb bs H F nodes x5.node y21 y21_e
    try refine zw ?_
    clear y21_k
    rcases iteE hR with ⟨c22, hR⟩ | ⟨c22, hR⟩
    ·obtain ⟨g23, hR⟩ := grdE hR
     have g23_w := ae g23
     refine zu ?_
     exact ⟨(s2 + 1), ⟨_, hq, sl, sl, sl⟩, hR.out⟩
    ·obtain rfl := someE hR
     refine zu ?_
     exact ⟨_, hq, rfl, sl, sl⟩
  ·obtain rfl := someE hR
   refine zu ?_
   exact ⟨_, hq, rfl, sl, sl⟩
 ·obtain rfl := someE hR
  refine zu ?_
  exact ⟨_, hq, rfl⟩
def bU (F : Nat) (nodes : List Node) (l : List Outp) : List Outp → Nat → Unit → Option (Oc (Nat × Nat) (Unit))
 | [], s2, _ => some (.b ())
 | x_ :: r_, s2, _ => (if x_.name.size ≤ 1000000 then (if (isNameS x_.name) = true then ((bg F l s2 F 0).bind fun o15 => match o15 with | .a o16 => some (.a (o16, 5)) | .b o18 => ((dj F nodes x_.node).bind fun y21 => (if y21 = true then bU F nodes l r_ (s2 + 1) () else some (.a (s2, 9))))) else some (.a (s2, 4))) else none)
theorem im (F : Nat) (nodes : List Node) (l : List Outp) (hl_ : l.length ≤ 1000000) : ∀ r_ i_ k_ (o_ : Unit), l.drop i_ = r_ → r_.length < k_ → bh F nodes l k_ i_ = bU F nodes l r_ i_ o_
 | _, _, 0, _, _, hk => absurd hk (Nat.not_lt_zero _)
 | [], i_, k_ + 1, _, hd, _ => by rw [bh, bU]; simp only [aj hd, Bool.false_eq_true, if_false]
 | x_ :: r_, i_, k_ + 1, _, hd, hk => by
  have ih := im F nodes l hl_ r_ (i_ + 1) k_ () (ah hd) (Nat.lt_of_succ_lt_succ hk)
  rw [bh, bU]; simp only [az hd, ap hd, if_pos (aC hd hl_), Option.bind_some, if_true, ih]
def dY (F : Nat) (nodes : List Node) (l : List Outp) : Option (Int × Int) := (if (decide ((12 : Int) < (l.length : Int))) = true then some (0, 8) else ((bh F nodes l F 0).bind fun o24 => match o24 with | .a o25 => some ((o25.1 : Int), (o25.2 : Int)) | .b o27 => some (0, 0)))
theorem pc (bs : List Nat) (H : Heap) (F : Nat) (nodes : List Node) (l : List Outp) (R : Int × Int) (hR0 : dY F nodes l = some R) : callw X bs 130 [.list (nodes.map encNode), .list (l.map encOutp)] H = some (.tuple [.int .i64 R.1, .int .i64 R.2], H) := by
 refine yw2 (rs := [.tmp 4, .tmp 5]) (N := 51) (fn := Tryz.f130) CZ MS ?_
 have hR := Kp.mk hR0
 clear hR0
 rw [dY] at hR
 try refine zw ?_
 rcases iteE hR with ⟨c1, hR⟩ | ⟨c1, hR⟩
 ·obtain rfl := someE hR
  exact zv
 ·obtain ⟨o24, o24_e, hR⟩ := bindE hR
  refine zu ?_
  refine ab (af (c := (loopAt Tryz.f130 0)) rfl (mK _ H F nodes l _ 0 o24 _ _ ⟨[], by simp, sl, sl, sl⟩ o24_e)) ?_
  rcases o24 with o25 | o27
  ·rintro ex ρ' H' ⟨J26, rfl, rfl, q4_o25, q5_o25⟩ hf
   clear hf
   obtain rfl := someE hR
   exact zv
  ·rintro ex ρ' H' ⟨J28, rfl, rfl⟩ hf
   clear hf
   obtain rfl := someE hR
   exact zv
def dZ (F : Nat) (l : List Int) (n : Int) : Nat → Nat → Option (Oc (Bool) (Unit))
 | 0, _ => none
 | k + 1, s1 => (if (decide ((s1 : Int) < (l.length : Int))) = true then ((l[s1]?).bind fun x4 => (if (decide (x4 = n)) = true then some (.a true) else (if inI ((s1 : Int) + 1) then dZ F l n k (s1 + 1) else none))) else some (.b ()))
theorem sd (bs : List Nat) (H : Heap) (F : Nat) (l : List Int) (n : Int) : ∀ k s r ρ H', (∃ J2, H' = H ++ J2 ∧ ρ 0 = .list (l.map (V.int .i64)) ∧ ρ 1 = .int .i64 n ∧ ρ 5 = .int .i64 (s : Int)) → dZ F l n k s = some r → Lp X ⟨18, H.length :: bs⟩ (loopAt Tryz.f131 0) ρ H' ((fun r ex ρ H' => match r with | .a r => ∃ J2, H' = H ++ J2 ∧ ex = .ret ∧ ρ 4 = .bool r | .b r => ∃ J2, H' = H ++ J2 ∧ ex = .exit 0) r) := by
 refine ac (fun _ => rfl) ?_
 rintro k s1 r ρ H' ⟨J2, hH, h0, h1, h5⟩ hR
 skip
 subst hH
 rw [dZ] at hR
 conv => arg 3; whnf
 try refine zw ?_
 rcases iteE hR with ⟨c3, hR⟩ | ⟨c3, hR⟩
 ·obtain ⟨x4, x4_e, hR⟩ := bindE hR
  try refine zw ?_
  rcases iteE hR with ⟨c5, hR⟩ | ⟨c5, hR⟩
  ·obtain rfl := someE hR
   refine zu ?_
   exact ⟨_, hq, rfl, sl⟩
  ·obtain ⟨g6, hR⟩ := grdE hR
   have g6_w := ae g6
   refine zu ?_
   exact ⟨(s1 + 1), ⟨_, hq, sl, sl, sl⟩, hR.out⟩
 ·obtain rfl := someE hR
  refine zu ?_
  exact ⟨_, hq, rfl⟩
def eO (F : Nat) (l : List Int) (n : Int) : List Int → Nat → Unit → Option (Oc (Bool) (Unit))
 | [], s1, _ => some (.b ())
 | x_ :: r_, s1, _ => (if (decide (x_ = n)) = true then some (.a true) else eO F l n r_ (s1 + 1) ())
theorem lb (F : Nat) (l : List Int) (n : Int) (hl_ : l.length ≤ 1000000) : ∀ r_ i_ k_ (o_ : Unit), l.drop i_ = r_ → r_.length < k_ → dZ F l n k_ i_ = eO F l n r_ i_ o_
 | _, _, 0, _, _, hk => absurd hk (Nat.not_lt_zero _)
 | [], i_, k_ + 1, _, hd, _ => by rw [dZ, eO]; simp only [aj hd, Bool.false_eq_true, if_false]
 | x_ :: r_, i_, k_ + 1, _, hd, hk => by
  have ih := lb F l n hl_ r_ (i_ + 1) k_ () (ah hd) (Nat.lt_of_succ_lt_succ hk)
  rw [dZ, eO]; simp only [az hd, ap hd, if_pos (aC hd hl_), Option.bind_some, if_true, ih]
def gZ (F : Nat) (l : List Int) (n : Int) : Option (Bool) := ((dZ F l n F 0).bind fun o7 => match o7 with | .a o8 => some o8 | .b o10 => some false)
theorem vd (bs : List Nat) (H : Heap) (F : Nat) (l : List Int) (n : Int) (R : Bool) (hR0 : gZ F l n = some R) : callw X bs 131 [.list (l.map (V.int .i64)), .int .i64 n] H = some (.bool R, H) := by
 refine yw2 (rs := [.tmp 4]) (N := 18) (fn := Tryz.f131) C0 MT ?_
 have hR := Kp.mk hR0
 clear hR0
 rw [gZ] at hR
 obtain ⟨o7, o7_e, hR⟩ := bindE hR
 refine zu ?_
 refine ab (af (c := (loopAt Tryz.f131 0)) rfl (sd _ H F l n _ 0 o7 _ _ ⟨[], by simp, sl, sl, sl⟩ o7_e)) ?_
 rcases o7 with o8 | o10
 ·rintro ex ρ' H' ⟨J9, rfl, rfl, q4_o8⟩ hf
  clear hf
  obtain rfl := someE hR
  exact zv
 ·rintro ex ρ' H' ⟨J11, rfl, rfl⟩ hf
  clear hf
  obtain rfl := someE hR
  exact zv
def bo (F : Nat) (d : Desg) (s14 : Nat) (x17 : Rul) : Nat → Nat → Option (Oc (Nat) (Unit))
 | 0, _ => none
 | k + 1, s20 => (if (decide ((s20 : Int) < (s14 : Int))) = true then ((d.rules[s20]?).bind fun x23 => (if (decide (x23.name = x17.name)) = true then some (.a s14) else (if inI ((s20 : Int) + 1) then bo F d s14 x17 k (s20 + 1) else none))) else some (.b ()))
theorem ny (bs : List Nat) (H : Heap) (F : Nat) (d : Desg) (s14 : Nat) (J15 : Heap) (x17 : Rul) : ∀ k s r ρ H', (∃ J21, H' = H ++ .cells [.str d.name, .list (d.inputs.map encPort), .list (d.elements.map encElem), .list (d.nodes.map encNode), .list (d.rules.map encRul), .list (d.outs.map encOutp), .list (d.attrs.map encAttr)] :: (J15 ++ .cells [.str x17.name, .int .i64 x17.guard, .list (x17.writes.map encWri)] :: J21) ∧ ρ 1 = .ptr H.length 0 ∧ ρ 10 = .int .i64 (s14 : Int) ∧ ρ 11 = .ptr (H.length + (J15.length + 1)) 0 ∧ ρ 12 = .int .i64 (s : Int)) → bo F d s14 x17 k s = some r → Lp X ⟨185, H.length :: bs⟩ (loopAt Tryz.f38 1) ρ H' ((fun r ex ρ H' => match r with | .a r => ∃ J21, H' = H ++ .cells [.str d.name, .list (d.inputs.map encPort), .list (d.elements.map encElem), .list (d.nodes.map encNode), .list (d.rules.map encRul), .list (d.outs.map encOutp), .list (d.attrs.map encAttr)] :: (J15 ++ .cells [.str x17.name, .int .i64 x17.guard, .list (x17.writes.map encWri)] :: J21) ∧ ex = .ret ∧ ρ 2 = .int .i64 (r : Int) ∧ ρ 3 = .int .i64 5 | .b r => ∃ J21, H' = H ++ .cells [.str d.name, .list (d.inputs.map encPort), .list (d.elements.map encElem), .list (d.nodes.map encNode), .list (d.rules.map encRul), .list (d.outs.map encOutp), .list (d.attrs.map encAttr)] :: (J15 ++ .cells [.str x17.name, .int .i64 x17.guard, .list (x17.writes.map encWri)] :: J21) ∧ ex = .exit 2) r) := by
 refine ac (fun _ => rfl) ?_
 rintro k s20 r ρ H' ⟨J21, hH, h1, h10, h11, h12⟩ hR
 skip
 subst hH
 rw [bo] at hR
 conv => arg 3; whnf
 try refine zw ?_
 rcases iteE hR with ⟨c22, hR⟩ | ⟨c22, hR⟩
 ·obtain ⟨x23, x23_e, hR⟩ := bindE hR
  try refine zu ?_
  (refine yw0 (id := 23) oz1 ?_)
  try refine zw ?_
  rcases iteE hR with ⟨c24, hR⟩ | ⟨c24, hR⟩
  ·obtain rfl := someE hR
   refine zu ?_
   exact ⟨_, hq, rfl, sl, sl⟩
  ·obtain ⟨g25, hR⟩ := grdE hR
   have g25_w := ae g25
   refine zu ?_
   exact ⟨(s20 + 1), ⟨_, hq, sl, sl, sl, sl⟩, hR.out⟩
 ·obtain rfl := someE hR
  refine zu ?_
  exact ⟨_, hq, rfl⟩
def aR (F : Nat) (d : Desg) : Nat → Nat → Option (Oc (Nat × Int) (Unit))
 | 0, _ => none
 | k + 1, s14 => (if (decide ((s14 : Int) < (d.rules.length : Int))) = true then ((d.rules[s14]?).bind fun x17 => (if x17.name.size ≤ 1000000 then (if (isNameS x17.name) = true then ((bo F d s14 x17 F 0).bind fun o26 => match o26 with | .a o27 => some (.a (o27, 5)) | .b o29 => ((bd F d.nodes x17.guard).bind fun y31 => (if y31 = true then ((eA F d.elements d.nodes x17.writes).bind fun y33 => (if (decide (¬y33 = 0)) = true then some (.a (s14, y33)) else (if inI ((s14 : Int) + 1) then aR F d k (s14 + 1) else none))) else some (.a (s14, 9))))) else some (.a (s14, 4))) else none)) else some (.b ()))
theorem nz (bs : List Nat) (H : Heap) (F : Nat) (d : Desg) : ∀ k s r ρ H', (∃ J15, H' = H ++ .cells [.str d.name, .list (d.inputs.map encPort), .list (d.elements.map encElem), .list (d.nodes.map encNode), .list (d.rules.map encRul), .list (d.outs.map encOutp), .list (d.attrs.map encAttr)] :: J15 ∧ ρ 1 = .ptr H.length 0 ∧ ρ 10 = .int .i64 (s : Int)) → aR F d k s = some r → Lp X ⟨185, H.length :: bs⟩ (loopAt Tryz.f38 0) ρ H' ((fun r ex ρ H' => match r with | .a r => ∃ J15, H' = H ++ .cells [.str d.name, .list (d.inputs.map encPort), .list (d.elements.map encElem), .list (d.nodes.map encNode), .list (d.rules.map encRul), .list (d.outs.map encOutp), .list (d.attrs.map encAttr)] :: J15 ∧ ex = .ret ∧ ρ 2 = .int .i64 (r.1 : Int) ∧ ρ 3 = .int .i64 r.2 | .b r => ∃ J15, H' = H ++ .cells [.str d.name, .list (d.inputs.map encPort), .list (d.elements.map encElem), .list (d.nodes.map encNode), .list (d.rules.map encRul), .list (d.outs.map encOutp), .list (d.attrs.map encAttr)] :: J15 ∧ ex = .exit 0) r) := by
 refine ac (fun _ => rfl) ?_
 rintro k s14 r ρ H' ⟨J15, hH, h1, h10⟩ hR
 skip
 subst hH
 rw [aR] at hR
 conv => arg 3; whnf
 try refine zw ?_
 rcases iteE hR with ⟨c16, hR⟩ | ⟨c16, hR⟩
 ·obtain ⟨x17, x17_e, hR⟩ := bindE hR
  obtain ⟨g18, hR⟩ := grdE hR
  have g18_k := fun bs H => kx bs H x17.name g18
  try refine zw ?_
  clear g18_k
  rcases iteE hR with ⟨c19, hR⟩ | ⟨c19, hR⟩
  ·obtain ⟨o26, o26_e, hR⟩ := bindE hR
   refine zu ?_
   refine ab (af (c := (loopAt Tryz.f38 1)) rfl (ny _ H F d s14 J15 x17 _ 0 o26 _ _ ⟨_, hq, sl, sl, sl, sl⟩ o26_e)) ?_
   rcases o26 with o27 | o29
   ·rintro ex ρ' H' ⟨J28, rfl, rfl, q2_o27, q3_o27⟩ hf
    clear hf
    obtain rfl := someE hR
    refine zu ?_
    exact ⟨_, hq, rfl, sl, sl⟩
   ·rintro ex ρ' H' ⟨J30, rfl, rfl⟩ hf
    have q1_o29 : ρ' 1 = .ptr H.length 0 := (hf 1 rfl).trans (sl)
    have q10_o29 : ρ' 10 = .int .i64 (s14 : Int) := (hf 10 rfl).trans (sl)
    have q11_o29 : ρ' 11 = .ptr (H.length + (J15.length + 1)) 0 := (hf 11 rfl).trans (sl)
    clear hf
    obtain ⟨y31, y31_e, hR⟩ := bindE hR
    have y31_k := fun bs H => gv bs H F d.nodes x17.guard y31 y31_e
    try refine zw ?_
    clear y31_k
    rcases iteE hR with ⟨c32, hR⟩ | ⟨c32, hR⟩
    ·obtain ⟨y33, y33_e, hR⟩ := bindE hR
     have y33_k := fun bs H => pK bs H F d.elements d.nodes x17.writes y33 y33_e
     try refine zw ?_
     clear y33_k
     rcases iteE hR with ⟨c34, hR⟩ | ⟨c34, hR⟩
     ·obtain rfl := someE hR
      refine zu ?_
      exact ⟨_, hq, rfl, sl, sl⟩
     ·obtain ⟨g35, hR⟩ := grdE hR
      have g35_w := ae g35
      refine zu ?_
      exact ⟨(s14 + 1), ⟨_, hq, sl, sl⟩, hR.out⟩
    ·obtain rfl := someE hR
     refine zu ?_
     exact ⟨_, hq, rfl, sl, sl⟩
  ·obtain rfl := someE hR
   refine zu ?_
   exact ⟨_, hq, rfl, sl, sl⟩
 ·obtain rfl := someE hR
  refine zu ?_
  exact ⟨_, hq, rfl⟩
def cd (F : Nat) (d : Desg) : List Rul → Nat → Unit → Option (Oc (Nat × Int) (Unit))
 | [], s14, _ => some (.b ())
 | x_ :: r_, s14, _ => (if x_.name.size ≤ 1000000 then (if (isNameS x_.name) = true then ((bo F d s14 x_ F 0).bind fun o26 => match o26 with | .a o27 => some (.a (o27, 5)) | .b o29 => ((bd F d.nodes x_.guard).bind fun y31 => (if y31 = true then ((eA F d.elements d.nodes x_.writes).bind fun y33 => (if (decide (¬y33 = 0)) = true then some (.a (s14, y33)) else cd F d r_ (s14 + 1) ())) else some (.a (s14, 9))))) else some (.a (s14, 4))) else none)
theorem iz (F : Nat) (d : Desg) (hl_ : d.rules.length ≤ 1000000) : ∀ r_ i_ k_ (o_ : Unit), d.rules.drop i_ = r_ → r_.length < k_ → aR F d k_ i_ = cd F d r_ i_ o_
 | _, _, 0, _, _, hk => absurd hk (Nat.not_lt_zero _)
 | [], i_, k_ + 1, _, hd, _ => by rw [aR, cd]; simp only [aj hd, Bool.false_eq_true, if_false]
 | x_ :: r_, i_, k_ + 1, _, hd, hk => by
  have ih := iz F d hl_ r_ (i_ + 1) k_ () (ah hd) (Nat.lt_of_succ_lt_succ hk)
  rw [aR, cd]; simp only [az hd, ap hd, if_pos (aC hd hl_), Option.bind_some, if_true, ih]
def aS (F : Nat) (d : Desg) (s44 : Nat) (x47 : Attr) : Nat → Nat → Option (Oc (Nat × Nat) (Unit))
 | 0, _ => none
 | k + 1, s51 => (if (decide ((s51 : Int) < (x47.rules.length : Int))) = true then ((x47.rules[s51]?).bind fun x54 => (if inI ((d.rules.length : Int) - 1) then (if (decide ((0 : Int) ≤ x54) && decide (x54 ≤ ((d.rules.length : Int) - 1))) = true then (if 0 ≤ s51 ∧ s51 ≤ x47.rules.length then ((gZ F (x47.rules.take s51) x54).bind fun y59 => (if y59 = true then some (.a (s44, 23)) else (if inI ((s51 : Int) + 1) then aS F d s44 x47 k (s51 + 1) else none))) else none) else some (.a (s44, 6))) else none)) else some (.b ()))
theorem nA (bs : List Nat) (H : Heap) (F : Nat) (d : Desg) (s44 : Nat) (J45 : Heap) (x47 : Attr) : ∀ k s r ρ H', (∃ J52, H' = H ++ .cells [.str d.name, .list (d.inputs.map encPort), .list (d.elements.map encElem), .list (d.nodes.map encNode), .list (d.rules.map encRul), .list (d.outs.map encOutp), .list (d.attrs.map encAttr)] :: (J45 ++ .cells [.int .i64 x47.kind, .list (x47.rules.map (V.int .i64))] :: J52) ∧ ρ 1 = .ptr H.length 0 ∧ ρ 16 = .int .i64 (s44 : Int) ∧ ρ 17 = .ptr (H.length + (J45.length + 1)) 0 ∧ ρ 18 = .int .i64 (s : Int)) → aS F d s44 x47 k s = some r → Lp X ⟨185, H.length :: bs⟩ (loopAt Tryz.f38 3) ρ H' ((fun r ex ρ H' => match r with | .a r => ∃ J52, H' = H ++ .cells [.str d.name, .list (d.inputs.map encPort), .list (d.elements.map encElem), .list (d.nodes.map encNode), .list (d.rules.map encRul), .list (d.outs.map encOutp), .list (d.attrs.map encAttr)] :: (J45 ++ .cells [.int .i64 x47.kind, .list (x47.rules.map (V.int .i64))] :: J52) ∧ ex = .ret ∧ ρ 2 = .int .i64 (r.1 : Int) ∧ ρ 3 = .int .i64 (r.2 : Int) | .b r => ∃ J52, H' = H ++ .cells [.str d.name, .list (d.inputs.map encPort), .list (d.elements.map encElem), .list (d.nodes.map encNode), .list (d.rules.map encRul), .list (d.outs.map encOutp), .list (d.attrs.map encAttr)] :: (J45 ++ .cells [.int .i64 x47.kind, .list (x47.rules.map (V.int .i64))] :: J52) ∧ ex = .exit 6) r) := by
 refine ac (fun _ => rfl) ?_
 rintro k s51 r ρ H' ⟨J52, hH, h1, h16, h17, h18⟩ hR
 skip
 subst hH
 rw [aS] at hR
 conv => arg 3; whnf
 try refine zw ?_
 rcases iteE hR with ⟨c53, hR⟩ | ⟨c53, hR⟩
 ·obtain ⟨x54, x54_e, hR⟩ := bindE hR
  obtain ⟨g55, hR⟩ := grdE hR
  have g55_w := ae g55
  try refine zu ?_
  (refine yw0 (id := 46) oz20 ?_)
  try refine zw ?_
  rcases iteE hR with ⟨c56, hR⟩ | ⟨c56, hR⟩
  ·obtain ⟨c56_1, c56_2⟩ := dT c56
   obtain ⟨g57, hR⟩ := grdE hR
   obtain ⟨g57_a, g57_b⟩ := g57
   have g57_s := cutV (P := Tryz.prog) (V.int .i64) Tryz.underlying30 sz3 (fun _ => rfl) x47.rules none (some (.int .i64 (s51 : Int))) 0 s51 rfl boundN g57_a g57_b
   simp only [List.drop_zero, List.take_length] at g57_s
   obtain ⟨y59, y59_e, hR⟩ := bindE hR
   have y59_k := fun bs H => vd bs H F (x47.rules.take s51) x54 y59 y59_e
   try refine zu ?_
   (refine yw0 (id := 48) oz2 ?_)
   try refine zw ?_
   clear y59_k
   rcases iteE hR with ⟨c60, hR⟩ | ⟨c60, hR⟩
   ·obtain rfl := someE hR
    refine zu ?_
    exact ⟨_, hq, rfl, sl, sl⟩
   ·obtain ⟨g61, hR⟩ := grdE hR
    have g61_w := ae g61
    refine zu ?_
    exact ⟨(s51 + 1), ⟨_, hq, sl, sl, sl, sl⟩, hR.out⟩
  ·obtain rfl := someE hR
   refine zu ?_
   exact ⟨_, hq, rfl, sl, sl⟩
 ·obtain rfl := someE hR
  refine zu ?_
  exact ⟨_, hq, rfl⟩
def ce (F : Nat) (d : Desg) (s44 : Nat) (x47 : Attr) : List Int → Nat → Unit → Option (Oc (Nat × Nat) (Unit))
 | [], s51, _ => some (.b ())
 | x_ :: r_, s51, _ => (if inI ((d.rules.length : Int) - 1) then (if (decide ((0 : Int) ≤ x_) && decide (x_ ≤ ((d.rules.length : Int) - 1))) = true then (if 0 ≤ s51 ∧ s51 ≤ x47.rules.length then ((gZ F (x47.rules.take s51) x_).bind fun y59 => (if y59 = true then some (.a (s44, 23)) else ce F d s44 x47 r_ (s51 + 1) ())) else none) else some (.a (s44, 6))) else none)
theorem iA (F : Nat) (d : Desg) (s44 : Nat) (x47 : Attr) (hl_ : x47.rules.length ≤ 1000000) : ∀ r_ i_ k_ (o_ : Unit), x47.rules.drop i_ = r_ → r_.length < k_ → aS F d s44 x47 k_ i_ = ce F d s44 x47 r_ i_ o_
 | _, _, 0, _, _, hk => absurd hk (Nat.not_lt_zero _)
 | [], i_, k_ + 1, _, hd, _ => by rw [aS, ce]; simp only [aj hd, Bool.false_eq_true, if_false]
 | x_ :: r_, i_, k_ + 1, _, hd, hk => by
  have ih := iA F d s44 x47 hl_ r_ (i_ + 1) k_ () (ah hd) (Nat.lt_of_succ_lt_succ hk)
  rw [aS, ce]; simp only [az hd, ap hd, if_pos (aC hd hl_), Option.bind_some, if_true, ih]
def aT (F : Nat) (d : Desg) : Nat → Nat → Option (Oc (Nat × Nat) (Unit))
 | 0, _ => none
 | k + 1, s44 => (if (decide ((s44 : Int) < (d.attrs.length : Int))) = true then ((d.attrs[s44]?).bind fun x47 => (if (decide ((0 : Int) ≤ x47.kind) && decide (x47.kind ≤ 3)) = true then (if (decide ((x47.rules.length : Int) = 0)) = true then some (.a (s44, 10)) else (if (decide ((16 : Int) < (x47.rules.length : Int))) = true then some (.a (s44, 10)) else ((aS F d s44 x47 F 0).bind fun o62 => match o62 with | .a o63 => some (.a (o63.1, o63.2)) | .b o65 => (if inI ((s44 : Int) + 1) then aT F d k (s44 + 1) else none)))) else some (.a (s44, 15)))) else some (.b ()))
theorem nB (bs : List Nat) (H : Heap) (F : Nat) (d : Desg) : ∀ k s r ρ H', (∃ J45, H' = H ++ .cells [.str d.name, .list (d.inputs.map encPort), .list (d.elements.map encElem), .list (d.nodes.map encNode), .list (d.rules.map encRul), .list (d.outs.map encOutp), .list (d.attrs.map encAttr)] :: J45 ∧ ρ 1 = .ptr H.length 0 ∧ ρ 16 = .int .i64 (s : Int)) → aT F d k s = some r → Lp X ⟨185, H.length :: bs⟩ (loopAt Tryz.f38 2) ρ H' ((fun r ex ρ H' => match r with | .a r => ∃ J45, H' = H ++ .cells [.str d.name, .list (d.inputs.map encPort), .list (d.elements.map encElem), .list (d.nodes.map encNode), .list (d.rules.map encRul), .list (d.outs.map encOutp), .list (d.attrs.map encAttr)] :: J45 ∧ ex = .ret ∧ ρ 2 = .int .i64 (r.1 : Int) ∧ ρ 3 = .int .i64 (r.2 : Int) | .b r => ∃ J45, H' = H ++ .cells [.str d.name, .list (d.inputs.map encPort), .list (d.elements.map encElem), .list (d.nodes.map encNode), .list (d.rules.map encRul), .list (d.outs.map encOutp), .list (d.attrs.map encAttr)] :: J45 ∧ ex = .exit 4) r) := by
 refine ac (fun _ => rfl) ?_
 rintro k s44 r ρ H' ⟨J45, hH, h1, h16⟩ hR
 skip
 subst hH
 rw [aT] at hR
 conv => arg 3; whnf
 try refine zw ?_
 rcases iteE hR with ⟨c46, hR⟩ | ⟨c46, hR⟩
 ·obtain ⟨x47, x47_e, hR⟩ := bindE hR
  try refine zw ?_
  rcases iteE hR with ⟨c48, hR⟩ | ⟨c48, hR⟩
  ·obtain ⟨c48_1, c48_2⟩ := dT c48
   try refine zw ?_
   rcases iteE hR with ⟨c49, hR⟩ | ⟨c49, hR⟩
   ·obtain rfl := someE hR
    refine zu ?_
    exact ⟨_, hq, rfl, sl, sl⟩
   ·try refine zw ?_
    rcases iteE hR with ⟨c50, hR⟩ | ⟨c50, hR⟩
    ·obtain rfl := someE hR
     refine zu ?_
     exact ⟨_, hq, rfl, sl, sl⟩
    ·obtain ⟨o62, o62_e, hR⟩ := bindE hR
     refine zu ?_
     refine ab (af (c := (loopAt Tryz.f38 3)) rfl (nA _ H F d s44 J45 x47 _ 0 o62 _ _ ⟨_, hq, sl, sl, sl, sl⟩ o62_e)) ?_
     rcases o62 with o63 | o65
     ·rintro ex ρ' H' ⟨J64, rfl, rfl, q2_o63, q3_o63⟩ hf
      clear hf
      obtain rfl := someE hR
      refine zu ?_
      exact ⟨_, hq, rfl, sl, sl⟩
     ·rintro ex ρ' H' ⟨J66, rfl, rfl⟩ hf
      have q1_o65 : ρ' 1 = .ptr H.length 0 := (hf 1 rfl).trans (sl)
      have q16_o65 : ρ' 16 = .int .i64 (s44 : Int) := (hf 16 rfl).trans (sl)
      clear hf
      obtain ⟨g67, hR⟩ := grdE hR
      have g67_w := ae g67
      refine zu ?_
      exact ⟨(s44 + 1), ⟨_, hq, sl, sl⟩, hR.out⟩
  ·obtain rfl := someE hR
   refine zu ?_
   exact ⟨_, hq, rfl, sl, sl⟩
 ·obtain rfl := someE hR
  refine zu ?_
  exact ⟨_, hq, rfl⟩
def cf (F : Nat) (d : Desg) : List Attr → Nat → Unit → Option (Oc (Nat × Nat) (Unit))
 | [], s44, _ => some (.b ())
 | x_ :: r_, s44, _ => (if (decide ((0 : Int) ≤ x_.kind) && decide (x_.kind ≤ 3)) = true then (if (decide ((x_.rules.length : Int) = 0)) = true then some (.a (s44, 10)) else (if (decide ((16 : Int) < (x_.rules.length : Int))) = true then some (.a (s44, 10)) else ((aS F d s44 x_ F 0).bind fun o62 => match o62 with | .a o63 => some (.a (o63.1, o63.2)) | .b o65 => cf F d r_ (s44 + 1) ()))) else some (.a (s44, 15)))
theorem iB (F : Nat) (d : Desg) (hl_ : d.attrs.length ≤ 1000000) : ∀ r_ i_ k_ (o_ : Unit), d.attrs.drop i_ = r_ → r_.length < k_ → aT F d k_ i_ = cf F d r_ i_ o_
 | _, _, 0, _, _, hk => absurd hk (Nat.not_lt_zero _)
 | [], i_, k_ + 1, _, hd, _ => by rw [aT, cf]; simp only [aj hd, Bool.false_eq_true, if_false]
 | x_ :: r_, i_, k_ + 1, _, hd, hk => by
  have ih := iB F d hl_ r_ (i_ + 1) k_ () (ah hd) (Nat.lt_of_succ_lt_succ hk)
  rw [aT, cf]; simp only [az hd, ap hd, if_pos (aC hd hl_), Option.bind_some, if_true, ih]
def eB (F : Nat) (d : Desg) : Option (Int × Int) := (if d.name.size ≤ 1000000 then (if (isNameS d.name) = true then ((eM F d.inputs).bind fun y3 => (if (decide (¬y3.2 = 0)) = true then some (y3.1, y3.2) else ((eK F d.inputs d.elements).bind fun y5 => (if (decide (¬y5.2 = 0)) = true then some (y5.1, y5.2) else ((eN F d).bind fun y7 => (if y7.length ≤ 1000000 then (if d.nodes.length ≤ 1000000 then (if ∀ x ∈ d.nodes, x.args.length ≤ 1000000 then (if (decide (¬(nodesErrR y7 d.nodes).2 = 0)) = true then some ((nodesErrR y7 d.nodes).1, (nodesErrR y7 d.nodes).2) else (if (decide ((16 : Int) < (d.rules.length : Int))) = true then some (0, 8) else ((aR F d F 0).bind fun o36 => match o36 with | .a o37 => some ((o37.1 : Int), o37.2) | .b o39 => ((dY F d.nodes d.outs).bind fun y41 => (if (decide (¬y41.2 = 0)) = true then some (y41.1, y41.2) else (if (decide ((16 : Int) < (d.attrs.length : Int))) = true then some (0, 8) else ((aT F d F 0).bind fun o68 => match o68 with | .a o69 => some ((o69.1 : Int), (o69.2 : Int)) | .b o71 => some (0, 0)))))))) else none) else none) else none)))))) else some (0, 4)) else none)
theorem pL (bs : List Nat) (H : Heap) (F : Nat) (d : Desg) (R : Int × Int) (hR0 : eB F d = some R) : callw X bs 38 [(encDesg d)] H = some (.tuple [.int .i64 R.1, .int .i64 R.2], H) := by
 refine yw2 (rs := [.tmp 2, .tmp 3]) (N := 185) (fn := Tryz.f38) xk38 xf38 ?_
 have hR := Kp.mk hR0
 clear hR0
 rw [eB] at hR
 (try simp only [cellsDesg, encDesg, encInts])
 obtain ⟨g1, hR⟩ := grdE hR
 have g1_k := fun bs H => kx bs H d.name g1
 try refine zw ?_
 clear g1_k
 rcases iteE hR with ⟨c2, hR⟩ | ⟨c2, hR⟩
 ·obtain ⟨y3, y3_e, hR⟩ := bindE hR
  have y3_k := fun bs H => qs bs H F d.inputs y3 y3_e
  try refine zw ?_
  clear y3_k
  rcases iteE hR with ⟨c4, hR⟩ | ⟨c4, hR⟩
  ·obtain rfl := someE hR
   exact zv
  ·obtain ⟨y5, y5_e, hR⟩ := bindE hR
   have y5_k := fun bs H => nW bs H F d.inputs d.elements y5 y5_e
   try refine zw ?_
   clear y5_k
   rcases iteE hR with ⟨c6, hR⟩ | ⟨c6, hR⟩
   ·obtain rfl := someE hR
    exact zv
   ·obtain ⟨y7, y7_e, hR⟩ := bindE hR
    have y7_k := fun bs H => mF bs H F d y7 y7_e
    (try simp only [cellsDesg, encDesg, encInts] at y7_k)
    obtain ⟨g8, hR⟩ := grdE hR
    obtain ⟨g9, hR⟩ := grdE hR
    obtain ⟨g10, hR⟩ := grdE hR
    have k11_k := fun bs H => xz bs H y7 d.nodes g8 g9 g10
    try refine zu ?_
    (refine yw1 (id := 9) [0, 2, 3, 1, 4, 5, 6, 7, 8, 9] [(2, 3)] ?_)
    try refine zw ?_
    clear y7_k k11_k
    rcases iteE hR with ⟨c12, hR⟩ | ⟨c12, hR⟩
    ·obtain rfl := someE hR
     exact zv
    ·try refine zw ?_
     rcases iteE hR with ⟨c13, hR⟩ | ⟨c13, hR⟩
     ·obtain rfl := someE hR
      exact zv
     ·obtain ⟨o36, o36_e, hR⟩ := bindE hR
      refine zu ?_
      refine ab (af (c := (loopAt Tryz.f38 0)) rfl (nz _ H F d _ 0 o36 _ _ ⟨_, hq, sl, sl⟩ o36_e)) ?_
      rcases o36 with o37 | o39
      ·rintro ex ρ' H' ⟨J38, rfl, rfl, q2_o37, q3_o37⟩ hf
       clear hf
       obtain rfl := someE hR
       exact zv
      ·rintro ex ρ' H' ⟨J40, rfl, rfl⟩ hf
       have q1_o39 : ρ' 1 = .ptr H.length 0 := (hf 1 rfl).trans (sl)
       clear hf
       obtain ⟨y41, y41_e, hR⟩ := bindE hR
       have y41_k := fun bs H => pc bs H F d.nodes d.outs y41 y41_e
       try refine zw ?_
       clear y41_k
       rcases iteE hR with ⟨c42, hR⟩ | ⟨c42, hR⟩
       ·obtain rfl := someE hR
        exact zv
       ·try refine zw ?_
        rcases iteE hR with ⟨c43, hR⟩ | ⟨c43, hR⟩
        ·obtain rfl := someE hR
         exact zv
        ·obtain ⟨o68, o68_e, hR⟩ := bindE hR
         refine zu ?_
         refine ab (af (c := (loopAt Tryz.f38 2)) rfl (nB _ H F d _ 0 o68 _ _ ⟨_, hq, sl, sl⟩ o68_e)) ?_
         rcases o68 with o69 | o71
         ·rintro ex ρ' H' ⟨J70, rfl, rfl, q2_o69, q3_o69⟩ hf
          clear hf
          obtain rfl := someE hR
          exact zv
         ·rintro ex ρ' H' ⟨J72, rfl, rfl⟩ hf
          clear hf
          obtain rfl := someE hR
          exact zv
 ·obtain rfl := someE hR
  exact zv
def cE (F : Nat) (d : Desg) : Nat → Nat → Option (Oc (Bool) (Unit))
 | 0, _ => none
 | k + 1, s10 => (if (decide ((s10 : Int) < (d.nodes.length : Int))) = true then ((d.nodes[s10]?).bind fun x13 => (if (decide ((5 : Int) < (x13.args.length : Int))) = true then some (.a false) else (if inI ((s10 : Int) + 1) then cE F d k (s10 + 1) else none))) else some (.b ()))
theorem lc (bs : List Nat) (H : Heap) (F : Nat) (d : Desg) : ∀ k s r ρ H', (∃ J11, H' = H ++ .cells [.str d.name, .list (d.inputs.map encPort), .list (d.elements.map encElem), .list (d.nodes.map encNode), .list (d.rules.map encRul), .list (d.outs.map encOutp), .list (d.attrs.map encAttr)] :: J11 ∧ ρ 1 = .ptr H.length 0 ∧ ρ 3 = .int .i64 (s : Int)) → cE F d k s = some r → Lp X ⟨161, H.length :: bs⟩ (loopAt Tryz.f12 0) ρ H' ((fun r ex ρ H' => match r with | .a r => ∃ J11, H' = H ++ .cells [.str d.name, .list (d.inputs.map encPort), .list (d.elements.map encElem), .list (d.nodes.map encNode), .list (d.rules.map encRul), .list (d.outs.map encOutp), .list (d.attrs.map encAttr)] :: J11 ∧ ex = .ret ∧ ρ 2 = .bool r | .b r => ∃ J11, H' = H ++ .cells [.str d.name, .list (d.inputs.map encPort), .list (d.elements.map encElem), .list (d.nodes.map encNode), .list (d.rules.map encRul), .list (d.outs.map encOutp), .list (d.attrs.map encAttr)] :: J11 ∧ ex = .exit 0) r) := by
 refine ac (fun _ => rfl) ?_
 rintro k s10 r ρ H' ⟨J11, hH, h1, h3⟩ hR
 skip
 subst hH
 rw [cE] at hR
 conv => arg 3; whnf
 try refine zw ?_
 rcases iteE hR with ⟨c12, hR⟩ | ⟨c12, hR⟩
 ·obtain ⟨x13, x13_e, hR⟩ := bindE hR
  try refine zw ?_
  rcases iteE hR with ⟨c14, hR⟩ | ⟨c14, hR⟩
  ·obtain rfl := someE hR
   refine zu ?_
   exact ⟨_, hq, rfl, sl⟩
  ·obtain ⟨g15, hR⟩ := grdE hR
   have g15_w := ae g15
   refine zu ?_
   exact ⟨(s10 + 1), ⟨_, hq, sl, sl⟩, hR.out⟩
 ·obtain rfl := someE hR
  refine zu ?_
  exact ⟨_, hq, rfl⟩
def du (F : Nat) (d : Desg) : List Node → Nat → Unit → Option (Oc (Bool) (Unit))
 | [], s10, _ => some (.b ())
 | x_ :: r_, s10, _ => (if (decide ((5 : Int) < (x_.args.length : Int))) = true then some (.a false) else du F d r_ (s10 + 1) ())
theorem kG (F : Nat) (d : Desg) (hl_ : d.nodes.length ≤ 1000000) : ∀ r_ i_ k_ (o_ : Unit), d.nodes.drop i_ = r_ → r_.length < k_ → cE F d k_ i_ = du F d r_ i_ o_
 | _, _, 0, _, _, hk => absurd hk (Nat.not_lt_zero _)
 | [], i_, k_ + 1, _, hd, _ => by rw [cE, du]; simp only [aj hd, Bool.false_eq_true, if_false]
 | x_ :: r_, i_, k_ + 1, _, hd, hk => by
  have ih := kG F d hl_ r_ (i_ + 1) k_ () (ah hd) (Nat.lt_of_succ_lt_succ hk)
  rw [cE, du]; simp only [az hd, ap hd, if_pos (aC hd hl_), Option.bind_some, if_true, ih]
def cF (F : Nat) (d : Desg) : Nat → Nat → Option (Oc (Bool) (Unit))
 | 0, _ => none
 | k + 1, s21 => (if (decide ((s21 : Int) < (d.rules.length : Int))) = true then ((d.rules[s21]?).bind fun x24 => (if (decide ((20 : Int) < (x24.writes.length : Int))) = true then some (.a false) else (if (decide ((40 : Int) < (x24.name.size : Int))) = true then some (.a false) else (if inI ((s21 : Int) + 1) then cF F d k (s21 + 1) else none)))) else some (.b ()))
theorem ld (bs : List Nat) (H : Heap) (F : Nat) (d : Desg) : ∀ k s r ρ H', (∃ J22, H' = H ++ .cells [.str d.name, .list (d.inputs.map encPort), .list (d.elements.map encElem), .list (d.nodes.map encNode), .list (d.rules.map encRul), .list (d.outs.map encOutp), .list (d.attrs.map encAttr)] :: J22 ∧ ρ 1 = .ptr H.length 0 ∧ ρ 4 = .int .i64 (s : Int)) → cF F d k s = some r → Lp X ⟨161, H.length :: bs⟩ (loopAt Tryz.f12 1) ρ H' ((fun r ex ρ H' => match r with | .a r => ∃ J22, H' = H ++ .cells [.str d.name, .list (d.inputs.map encPort), .list (d.elements.map encElem), .list (d.nodes.map encNode), .list (d.rules.map encRul), .list (d.outs.map encOutp), .list (d.attrs.map encAttr)] :: J22 ∧ ex = .ret ∧ ρ 2 = .bool r | .b r => ∃ J22, H' = H ++ .cells [.str d.name, .list (d.inputs.map encPort), .list (d.elements.map encElem), .list (d.nodes.map encNode), .list (d.rules.map encRul), .list (d.outs.map encOutp), .list (d.attrs.map encAttr)] :: J22 ∧ ex = .exit 2) r) := by
 refine ac (fun _ => rfl) ?_
 rintro k s21 r ρ H' ⟨J22, hH, h1, h4⟩ hR
 skip
 subst hH
 rw [cF] at hR
 conv => arg 3; whnf
 try refine zw ?_
 rcases iteE hR with ⟨c23, hR⟩ | ⟨c23, hR⟩
 ·obtain ⟨x24, x24_e, hR⟩ := bindE hR
  try refine zw ?_
  rcases iteE hR with ⟨c25, hR⟩ | ⟨c25, hR⟩
  ·obtain rfl := someE hR
   refine zu ?_
   exact ⟨_, hq, rfl, sl⟩
  ·try refine zw ?_
   rcases iteE hR with ⟨c27, hR⟩ | ⟨c27, hR⟩
   ·obtain rfl := someE hR
    refine zu ?_
    exact ⟨_, hq, rfl, sl⟩
   ·obtain ⟨g28, hR⟩ := grdE hR
    have g28_w := ae g28
    refine zu ?_
    exact ⟨(s21 + 1), ⟨_, hq, sl, sl⟩, hR.out⟩
 ·obtain rfl := someE hR
  refine zu ?_
  exact ⟨_, hq, rfl⟩
def dw (F : Nat) (d : Desg) : List Rul → Nat → Unit → Option (Oc (Bool) (Unit))
 | [], s21, _ => some (.b ())
 | x_ :: r_, s21, _ => (if (decide ((20 : Int) < (x_.writes.length : Int))) = true then some (.a false) else (if (decide ((40 : Int) < (x_.name.size : Int))) = true then some (.a false) else dw F d r_ (s21 + 1) ()))
theorem kH (F : Nat) (d : Desg) (hl_ : d.rules.length ≤ 1000000) : ∀ r_ i_ k_ (o_ : Unit), d.rules.drop i_ = r_ → r_.length < k_ → cF F d k_ i_ = dw F d r_ i_ o_
 | _, _, 0, _, _, hk => absurd hk (Nat.not_lt_zero _)
 | [], i_, k_ + 1, _, hd, _ => by rw [cF, dw]; simp only [aj hd, Bool.false_eq_true, if_false]
 | x_ :: r_, i_, k_ + 1, _, hd, hk => by
  have ih := kH F d hl_ r_ (i_ + 1) k_ () (ah hd) (Nat.lt_of_succ_lt_succ hk)
  rw [cF, dw]; simp only [az hd, ap hd, if_pos (aC hd hl_), Option.bind_some, if_true, ih]
def cG (F : Nat) (d : Desg) : Nat → Nat → Option (Oc (Bool) (Unit))
 | 0, _ => none
 | k + 1, s34 => (if (decide ((s34 : Int) < (d.attrs.length : Int))) = true then ((d.attrs[s34]?).bind fun x37 => (if (decide ((20 : Int) < (x37.rules.length : Int))) = true then some (.a false) else (if inI ((s34 : Int) + 1) then cG F d k (s34 + 1) else none))) else some (.b ()))
theorem lf (bs : List Nat) (H : Heap) (F : Nat) (d : Desg) : ∀ k s r ρ H', (∃ J35, H' = H ++ .cells [.str d.name, .list (d.inputs.map encPort), .list (d.elements.map encElem), .list (d.nodes.map encNode), .list (d.rules.map encRul), .list (d.outs.map encOutp), .list (d.attrs.map encAttr)] :: J35 ∧ ρ 1 = .ptr H.length 0 ∧ ρ 5 = .int .i64 (s : Int)) → cG F d k s = some r → Lp X ⟨161, H.length :: bs⟩ (loopAt Tryz.f12 2) ρ H' ((fun r ex ρ H' => match r with | .a r => ∃ J35, H' = H ++ .cells [.str d.name, .list (d.inputs.map encPort), .list (d.elements.map encElem), .list (d.nodes.map encNode), .list (d.rules.map encRul), .list (d.outs.map encOutp), .list (d.attrs.map encAttr)] :: J35 ∧ ex = .ret ∧ ρ 2 = .bool r | .b r => ∃ J35, H' = H ++ .cells [.str d.name, .list (d.inputs.map encPort), .list (d.elements.map encElem), .list (d.nodes.map encNode), .list (d.rules.map encRul), .list (d.outs.map encOutp), .list (d.attrs.map encAttr)] :: J35 ∧ ex = .exit 4) r) := by
 refine ac (fun _ => rfl) ?_
 rintro k s34 r ρ H' ⟨J35, hH, h1, h5⟩ hR
 skip
 subst hH
 rw [cG] at hR
 conv => arg 3; whnf
 try refine zw ?_
 rcases iteE hR with ⟨c36, hR⟩ | ⟨c36, hR⟩
 ·obtain ⟨x37, x37_e, hR⟩ := bindE hR
  try refine zw ?_
  rcases iteE hR with ⟨c38, hR⟩ | ⟨c38, hR⟩
  ·obtain rfl := someE hR
   refine zu ?_
   exact ⟨_, hq, rfl, sl⟩
  ·obtain ⟨g39, hR⟩ := grdE hR
   have g39_w := ae g39
   refine zu ?_
   exact ⟨(s34 + 1), ⟨_, hq, sl, sl⟩, hR.out⟩
 ·obtain rfl := someE hR
  refine zu ?_
  exact ⟨_, hq, rfl⟩
def dx (F : Nat) (d : Desg) : List Attr → Nat → Unit → Option (Oc (Bool) (Unit))
 | [], s34, _ => some (.b ())
 | x_ :: r_, s34, _ => (if (decide ((20 : Int) < (x_.rules.length : Int))) = true then some (.a false) else dx F d r_ (s34 + 1) ())
theorem kI (F : Nat) (d : Desg) (hl_ : d.attrs.length ≤ 1000000) : ∀ r_ i_ k_ (o_ : Unit), d.attrs.drop i_ = r_ → r_.length < k_ → cG F d k_ i_ = dx F d r_ i_ o_
 | _, _, 0, _, _, hk => absurd hk (Nat.not_lt_zero _)
 | [], i_, k_ + 1, _, hd, _ => by rw [cG, dx]; simp only [aj hd, Bool.false_eq_true, if_false]
 | x_ :: r_, i_, k_ + 1, _, hd, hk => by
  have ih := kI F d hl_ r_ (i_ + 1) k_ () (ah hd) (Nat.lt_of_succ_lt_succ hk)
  rw [cG, dx]; simp only [az hd, ap hd, if_pos (aC hd hl_), Option.bind_some, if_true, ih]
def cH (F : Nat) (d : Desg) : Nat → Nat → Option (Oc (Bool) (Unit))
 | 0, _ => none
 | k + 1, s45 => (if (decide ((s45 : Int) < (d.inputs.length : Int))) = true then ((d.inputs[s45]?).bind fun x48 => (if (decide ((40 : Int) < (x48.name.size : Int))) = true then some (.a false) else (if inI ((s45 : Int) + 1) then cH F d k (s45 + 1) else none))) else some (.b ()))
theorem lg (bs : List Nat) (H : Heap) (F : Nat) (d : Desg) : ∀ k s r ρ H', (∃ J46, H' = H ++ .cells [.str d.name, .list (d.inputs.map encPort), .list (d.elements.map encElem), .list (d.nodes.map encNode), .list (d.rules.map encRul), .list (d.outs.map encOutp), .list (d.attrs.map encAttr)] :: J46 ∧ ρ 1 = .ptr H.length 0 ∧ ρ 6 = .int .i64 (s : Int)) → cH F d k s = some r → Lp X ⟨161, H.length :: bs⟩ (loopAt Tryz.f12 3) ρ H' ((fun r ex ρ H' => match r with | .a r => ∃ J46, H' = H ++ .cells [.str d.name, .list (d.inputs.map encPort), .list (d.elements.map encElem), .list (d.nodes.map encNode), .list (d.rules.map encRul), .list (d.outs.map encOutp), .list (d.attrs.map encAttr)] :: J46 ∧ ex = .ret ∧ ρ 2 = .bool r | .b r => ∃ J46, H' = H ++ .cells [.str d.name, .list (d.inputs.map encPort), .list (d.elements.map encElem), .list (d.nodes.map encNode), .list (d.rules.map encRul), .list (d.outs.map encOutp), .list (d.attrs.map encAttr)] :: J46 ∧ ex = .exit 6) r) := by
 refine ac (fun _ => rfl) ?_
 rintro k s45 r ρ H' ⟨J46, hH, h1, h6⟩ hR
 skip
 subst hH
 rw [cH] at hR
 conv => arg 3; whnf
 try refine zw ?_
 rcases iteE hR with ⟨c47, hR⟩ | ⟨c47, hR⟩
 ·obtain ⟨x48, x48_e, hR⟩ := bindE hR
  try refine zw ?_
  rcases iteE hR with ⟨c49, hR⟩ | ⟨c49, hR⟩
  ·obtain rfl := someE hR
   refine zu ?_
   exact ⟨_, hq, rfl, sl⟩
  ·obtain ⟨g50, hR⟩ := grdE hR
   have g50_w := ae g50
   refine zu ?_
   exact ⟨(s45 + 1), ⟨_, hq, sl, sl⟩, hR.out⟩
 ·obtain rfl := someE hR
  refine zu ?_
  exact ⟨_, hq, rfl⟩
def dy (F : Nat) (d : Desg) : List Port → Nat → Unit → Option (Oc (Bool) (Unit))
 | [], s45, _ => some (.b ())
 | x_ :: r_, s45, _ => (if (decide ((40 : Int) < (x_.name.size : Int))) = true then some (.a false) else dy F d r_ (s45 + 1) ())
theorem kJ (F : Nat) (d : Desg) (hl_ : d.inputs.length ≤ 1000000) : ∀ r_ i_ k_ (o_ : Unit), d.inputs.drop i_ = r_ → r_.length < k_ → cH F d k_ i_ = dy F d r_ i_ o_
 | _, _, 0, _, _, hk => absurd hk (Nat.not_lt_zero _)
 | [], i_, k_ + 1, _, hd, _ => by rw [cH, dy]; simp only [aj hd, Bool.false_eq_true, if_false]
 | x_ :: r_, i_, k_ + 1, _, hd, hk => by
  have ih := kJ F d hl_ r_ (i_ + 1) k_ () (ah hd) (Nat.lt_of_succ_lt_succ hk)
  rw [cH, dy]; simp only [az hd, ap hd, if_pos (aC hd hl_), Option.bind_some, if_true, ih]
def cI (F : Nat) (d : Desg) : Nat → Nat → Option (Oc (Bool) (Unit))
 | 0, _ => none
 | k + 1, s56 => (if (decide ((s56 : Int) < (d.elements.length : Int))) = true then ((d.elements[s56]?).bind fun x59 => (if (decide ((40 : Int) < (x59.name.size : Int))) = true then some (.a false) else (if inI ((s56 : Int) + 1) then cI F d k (s56 + 1) else none))) else some (.b ()))
theorem lh (bs : List Nat) (H : Heap) (F : Nat) (d : Desg) : ∀ k s r ρ H', (∃ J57, H' = H ++ .cells [.str d.name, .list (d.inputs.map encPort), .list (d.elements.map encElem), .list (d.nodes.map encNode), .list (d.rules.map encRul), .list (d.outs.map encOutp), .list (d.attrs.map encAttr)] :: J57 ∧ ρ 1 = .ptr H.length 0 ∧ ρ 7 = .int .i64 (s : Int)) → cI F d k s = some r → Lp X ⟨161, H.length :: bs⟩ (loopAt Tryz.f12 4) ρ H' ((fun r ex ρ H' => match r with | .a r => ∃ J57, H' = H ++ .cells [.str d.name, .list (d.inputs.map encPort), .list (d.elements.map encElem), .list (d.nodes.map encNode), .list (d.rules.map encRul), .list (d.outs.map encOutp), .list (d.attrs.map encAttr)] :: J57 ∧ ex = .ret ∧ ρ 2 = .bool r | .b r => ∃ J57, H' = H ++ .cells [.str d.name, .list (d.inputs.map encPort), .list (d.elements.map encElem), .list (d.nodes.map encNode), .list (d.rules.map encRul), .list (d.outs.map encOutp), .list (d.attrs.map encAttr)] :: J57 ∧ ex = .exit 8) r) := by
 refine ac (fun _ => rfl) ?_
 rintro k s56 r ρ H' ⟨J57, hH, h1, h7⟩ hR
 skip
 subst hH
 rw [cI] at hR
 conv => arg 3; whnf
 try refine zw ?_
 rcases iteE hR with ⟨c58, hR⟩ | ⟨c58, hR⟩
 ·obtain ⟨x59, x59_e, hR⟩ := bindE hR
  try refine zw ?_
  rcases iteE hR with ⟨c60, hR⟩ | ⟨c60, hR⟩
  ·obtain rfl := someE hR
   refine zu ?_
   exact ⟨_, hq, rfl, sl⟩
  ·obtain ⟨g61, hR⟩ := grdE hR
   have g61_w := ae g61
   refine zu ?_
   exact ⟨(s56 + 1), ⟨_, hq, sl, sl⟩, hR.out⟩
 ·obtain rfl := someE hR
  refine zu ?_
  exact ⟨_, hq, rfl⟩
def dz (F : Nat) (d : Desg) : List Elem → Nat → Unit → Option (Oc (Bool) (Unit))
 | [], s56, _ => some (.b ())
 | x_ :: r_, s56, _ => (if (decide ((40 : Int) < (x_.name.size : Int))) = true then some (.a false) else dz F d r_ (s56 + 1) ())
theorem kK (F : Nat) (d : Desg) (hl_ : d.elements.length ≤ 1000000) : ∀ r_ i_ k_ (o_ : Unit), d.elements.drop i_ = r_ → r_.length < k_ → cI F d k_ i_ = dz F d r_ i_ o_
 | _, _, 0, _, _, hk => absurd hk (Nat.not_lt_zero _)
 | [], i_, k_ + 1, _, hd, _ => by rw [cI, dz]; simp only [aj hd, Bool.false_eq_true, if_false]
 | x_ :: r_, i_, k_ + 1, _, hd, hk => by
  have ih := kK F d hl_ r_ (i_ + 1) k_ () (ah hd) (Nat.lt_of_succ_lt_succ hk)
  rw [cI, dz]; simp only [az hd, ap hd, if_pos (aC hd hl_), Option.bind_some, if_true, ih]
def cJ (F : Nat) (d : Desg) : Nat → Nat → Option (Oc (Bool) (Unit))
 | 0, _ => none
 | k + 1, s67 => (if (decide ((s67 : Int) < (d.outs.length : Int))) = true then ((d.outs[s67]?).bind fun x70 => (if (decide ((40 : Int) < (x70.name.size : Int))) = true then some (.a false) else (if inI ((s67 : Int) + 1) then cJ F d k (s67 + 1) else none))) else some (.b ()))
theorem lj (bs : List Nat) (H : Heap) (F : Nat) (d : Desg) : ∀ k s r ρ H', (∃ J68, H' = H ++ .cells [.str d.name, .list (d.inputs.map encPort), .list (d.elements.map encElem), .list (d.nodes.map encNode), .list (d.rules.map encRul), .list (d.outs.map encOutp), .list (d.attrs.map encAttr)] :: J68 ∧ ρ 1 = .ptr H.length 0 ∧ ρ 8 = .int .i64 (s : Int)) → cJ F d k s = some r → Lp X ⟨161, H.length :: bs⟩ (loopAt Tryz.f12 5) ρ H' ((fun r ex ρ H' => match r with | .a r => ∃ J68, H' = H ++ .cells [.str d.name, .list (d.inputs.map encPort), .list (d.elements.map encElem), .list (d.nodes.map encNode), .list (d.rules.map encRul), .list (d.outs.map encOutp), .list (d.attrs.map encAttr)] :: J68 ∧ ex = .ret ∧ ρ 2 = .bool r | .b r => ∃ J68, H' = H ++ .cells [.str d.name, .list (d.inputs.map encPort), .list (d.elements.map encElem), .list (d.nodes.map encNode), .list (d.rules.map encRul), .list (d.outs.map encOutp), .list (d.attrs.map encAttr)] :: J68 ∧ ex = .exit 10) r) := by
 refine ac (fun _ => rfl) ?_
 rintro k s67 r ρ H' ⟨J68, hH, h1, h8⟩ hR
 skip
 subst hH
 rw [cJ] at hR
 conv => arg 3; whnf
 try refine zw ?_
 rcases iteE hR with ⟨c69, hR⟩ | ⟨c69, hR⟩
 ·obtain ⟨x70, x70_e, hR⟩ := bindE hR
  try refine zw ?_
  rcases iteE hR with ⟨c71, hR⟩ | ⟨c71, hR⟩
  ·obtain rfl := someE hR
   refine zu ?_
   exact ⟨_, hq, rfl, sl⟩
  ·obtain ⟨g72, hR⟩ := grdE hR
   have g72_w := ae g72
   refine zu ?_
   exact ⟨(s67 + 1), ⟨_, hq, sl, sl⟩, hR.out⟩
 ·obtain rfl := someE hR
  refine zu ?_
  exact ⟨_, hq, rfl⟩
def dA (F : Nat) (d : Desg) : List Outp → Nat → Unit → Option (Oc (Bool) (Unit))
 | [], s67, _ => some (.b ())
 | x_ :: r_, s67, _ => (if (decide ((40 : Int) < (x_.name.size : Int))) = true then some (.a false) else dA F d r_ (s67 + 1) ())
theorem kL (F : Nat) (d : Desg) (hl_ : d.outs.length ≤ 1000000) : ∀ r_ i_ k_ (o_ : Unit), d.outs.drop i_ = r_ → r_.length < k_ → cJ F d k_ i_ = dA F d r_ i_ o_
 | _, _, 0, _, _, hk => absurd hk (Nat.not_lt_zero _)
 | [], i_, k_ + 1, _, hd, _ => by rw [cJ, dA]; simp only [aj hd, Bool.false_eq_true, if_false]
 | x_ :: r_, i_, k_ + 1, _, hd, hk => by
  have ih := kL F d hl_ r_ (i_ + 1) k_ () (ah hd) (Nat.lt_of_succ_lt_succ hk)
  rw [cJ, dA]; simp only [az hd, ap hd, if_pos (aC hd hl_), Option.bind_some, if_true, ih]
def gw (F : Nat) (d : Desg) : Option (Bool) := (if (decide ((40 : Int) < (d.name.size : Int))) = true then some false else (if (decide ((45 : Int) < (d.inputs.length : Int))) = true then some false else (if (decide ((45 : Int) < (d.elements.length : Int))) = true then some false else (if (decide ((60 : Int) < (d.nodes.length : Int))) = true then (if (decide ((d.nodes.length : Int) ≤ 400)) = true then some false else (if (decide ((405 : Int) < (d.nodes.length : Int))) = true then some false else (if (decide ((20 : Int) < (d.rules.length : Int))) = true then some false else (if (decide ((20 : Int) < (d.outs.length : Int))) = true then some false else (if (decide ((20 : Int) < (d.attrs.length : Int))) = true then some false else ((cE F d F 0).bind fun o16 => match o16 with | .a o17 => some o17 | .b o19 => ((cF F d F 0).bind fun o29 => match o29 with | .a o30 => some o30 | .b o32 => ((cG F d F 0).bind fun o40 => match o40 with | .a o41 => some o41 | .b o43 => ((cH F d F 0).bind fun o51 => match o51 with | .a o52 => some o52 | .b o54 => ((cI F d F 0).bind fun o62 => match o62 with | .a o63 => some o63 | .b o65 => ((cJ F d F 0).bind fun o73 => match o73 with | .a o74 => some o74 | .b o76 => some true))))))))))) else (if (decide ((405 : Int) < (d.nodes.length : Int))) = true then some false else (if (decide ((20 : Int) < (d.rules.length : Int))) = true then some false else (if (decide ((20 : Int) < (d.outs.length : Int))) = true then some false else (if (decide ((20 : Int) < (d.attrs.length : Int))) = true then some false else ((cE F d F 0).bind fun o88 => match o88 with | .a o89 => some o89 | .b o91 => ((cF F d F 0).bind fun o101 => match o101 with | .a o102 => some o102 | .b o104 => ((cG F d F 0).bind fun o112 => match o112 with | .a o113 => some o113 | .b o115 => ((cH F d F 0).bind fun o123 => match o123 with | .a o124 => some o124 | .b o126 => ((cI F d F 0).bind fun o134 => match o134 with | .a o135 => some o135 | .b o137 => ((cJ F d F 0).bind fun o145 => match o145 with | .a o146 => some o146 | .b o148 => some true))))))))))))))
theorem tK (bs : List Nat) (H : Heap) (F : Nat) (d : Desg) (R : Bool) (hR0 : gw F d = some R) : callw X bs 12 [(encDesg d)] H = some (.bool R, H) := by
 refine yw2 (rs := [.tmp 2]) (N := 161) (fn := Tryz.f12) xk12 xf12 ?_
 have hR := Kp.mk hR0
 clear hR0
 rw [gw] at hR
 (try simp only [cellsDesg, encDesg, encInts])
 try refine zw ?_
 rcases iteE hR with ⟨c1, hR⟩ | ⟨c1, hR⟩
 ·obtain rfl := someE hR
  exact zv
 ·try refine zw ?_
  rcases iteE hR with ⟨c2, hR⟩ | ⟨c2, hR⟩
  ·obtain rfl := someE hR
   exact zv
  ·try refine zw ?_
   rcases iteE hR with ⟨c3, hR⟩ | ⟨c3, hR⟩
   ·obtain rfl := someE hR
    exact zv
   ·try refine zw ?_
    rcases iteE hR with ⟨c4, hR⟩ | ⟨c4, hR⟩
    ·try refine zw ?_
     rcases iteE hR with ⟨c5, hR⟩ | ⟨c5, hR⟩
     ·obtain rfl := someE hR
      exact zv
     ·try refine zw ?_
      rcases iteE hR with ⟨c6, hR⟩ | ⟨c6, hR⟩
      ·obtain rfl := someE hR
       exact zv
      ·try refine zw ?_
       rcases iteE hR with ⟨c7, hR⟩ | ⟨c7, hR⟩
       ·obtain rfl := someE hR
        exact zv
       ·try refine zw ?_
        rcases iteE hR with ⟨c8, hR⟩ | ⟨c8, hR⟩
        ·obtain rfl := someE hR
         exact zv
        ·try refine zw ?_
         rcases iteE hR with ⟨c9, hR⟩ | ⟨c9, hR⟩
         ·obtain rfl := someE hR
          exact zv
         ·obtain ⟨o16, o16_e, hR⟩ := bindE hR
          refine zu ?_
          refine ab (af (c := (loopAt Tryz.f12 0)) rfl (lc _ H F d _ 0 o16 _ _ ⟨_, hq, sl, sl⟩ o16_e)) ?_
          rcases o16 with o17 | o19
          ·rintro ex ρ' H' ⟨J18, rfl, rfl, q2_o17⟩ hf
           clear hf
           obtain rfl := someE hR
           exact zv
          ·rintro ex ρ' H' ⟨J20, rfl, rfl⟩ hf
           have q1_o19 : ρ' 1 = .ptr H.length 0 := (hf 1 rfl).trans (sl)
           clear hf
           obtain ⟨o29, o29_e, hR⟩ := bindE hR
           refine zu ?_
           refine ab (af (c := (loopAt Tryz.f12 1)) rfl (ld _ H F d _ 0 o29 _ _ ⟨_, hq, sl, sl⟩ o29_e)) ?_
           rcases o29 with o30 | o32
           ·rintro ex ρ' H' ⟨J31, rfl, rfl, q2_o30⟩ hf
            clear hf
            obtain rfl := someE hR
            exact zv
           ·rintro ex ρ' H' ⟨J33, rfl, rfl⟩ hf
            have q1_o32 : ρ' 1 = .ptr H.length 0 := (hf 1 rfl).trans (sl)
            clear hf
            obtain ⟨o40, o40_e, hR⟩ := bindE hR
            refine zu ?_
            refine ab (af (c := (loopAt Tryz.f12 2)) rfl (lf _ H F d _ 0 o40 _ _ ⟨_, hq, sl, sl⟩ o40_e)) ?_
            rcases o40 with o41 | o43
            ·rintro ex ρ' H' ⟨J42, rfl, rfl, q2_o41⟩ hf
             clear hf
             obtain rfl := someE hR
             exact zv
            ·rintro ex ρ' H' ⟨J44, rfl, rfl⟩ hf
             have q1_o43 : ρ' 1 = .ptr H.length 0 := (hf 1 rfl).trans (sl)
             clear hf
             obtain ⟨o51, o51_e, hR⟩ := bindE hR
             refine zu ?_
             refine ab (af (c := (loopAt Tryz.f12 3)) rfl (lg _ H F d _ 0 o51 _ _ ⟨_, hq, sl, sl⟩ o51_e)) ?_
             rcases o51 with o52 | o54
             ·rintro ex ρ' H' ⟨J53, rfl, rfl, q2_o52⟩ hf
              clear hf
              obtain rfl := someE hR
              exact zv
             ·rintro ex ρ' H' ⟨J55, rfl, rfl⟩ hf
              have q1_o54 : ρ' 1 = .ptr H.length 0 := (hf 1 rfl).trans (sl)
              clear hf
              obtain ⟨o62, o62_e, hR⟩ := bindE hR
              refine zu ?_
              refine ab (af (c := (loopAt Tryz.f12 4)) rfl (lh _ H F d _ 0 o62 _ _ ⟨_, hq, sl, sl⟩ o62_e)) ?_
              rcases o62 with o63 | o65
              ·rintro ex ρ' H' ⟨J64, rfl, rfl, q2_o63⟩ hf
               clear hf
               obtain rfl := someE hR
               exact zv
              ·rintro ex ρ' H' ⟨J66, rfl, rfl⟩ hf
               have q1_o65 : ρ' 1 = .ptr H.length 0 := (hf 1 rfl).trans (sl)
               clear hf
               obtain ⟨o73, o73_e, hR⟩ := bindE hR
               refine zu ?_
               refine ab (af (c := (loopAt Tryz.f12 5)) rfl (lj _ H F d _ 0 o73 _ _ ⟨_, hq, sl, sl⟩ o73_e)) ?_
               rcases o73 with o74 | o76
               ·rintro ex ρ' H' ⟨J75, rfl, rfl, q2_o74⟩ hf
                clear hf
                obtain rfl := someE hR
                exact zv
               ·rintro ex ρ' H' ⟨J77, rfl, rfl⟩ hf
                clear hf
                obtain rfl := someE hR
                exact zv
    ·try refine zw ?_
     rcases iteE hR with ⟨c78, hR⟩ | ⟨c78, hR⟩
     ·obtain rfl := someE hR
      exact zv
     ·try refine zw ?_
      rcases iteE hR with ⟨c79, hR⟩ | ⟨c79, hR⟩
      ·obtain rfl := someE hR
       exact zv
      ·try refine zw ?_
       rcases iteE hR with ⟨c80, hR⟩ | ⟨c80, hR⟩
       ·obtain rfl := someE hR
        exact zv
       ·try refine zw ?_
        rcases iteE hR with ⟨c81, hR⟩ | ⟨c81, hR⟩
        ·obtain rfl := someE hR
         exact zv
        ·obtain ⟨o88, o88_e, hR⟩ := bindE hR
         refine zu ?_
         refine ab (af (c := (loopAt Tryz.f12 0)) rfl (lc _ H F d _ 0 o88 _ _ ⟨_, hq, sl, sl⟩ o88_e)) ?_
         rcases o88 with o89 | o91
         ·rintro ex ρ' H' ⟨J90, rfl, rfl, q2_o89⟩ hf
          clear hf
          obtain rfl := someE hR
          exact zv
         ·rintro ex ρ' H' ⟨J92, rfl, rfl⟩ hf
          have q1_o91 : ρ' 1 = .ptr H.length 0 := (hf 1 rfl).trans (sl)
          clear hf
          obtain ⟨o101, o101_e, hR⟩ := bindE hR
          refine zu ?_
          refine ab (af (c := (loopAt Tryz.f12 1)) rfl (ld _ H F d _ 0 o101 _ _ ⟨_, hq, sl, sl⟩ o101_e)) ?_
          rcases o101 with o102 | o104
          ·rintro ex ρ' H' ⟨J103, rfl, rfl, q2_o102⟩ hf
           clear hf
           obtain rfl := someE hR
           exact zv
          ·rintro ex ρ' H' ⟨J105, rfl, rfl⟩ hf
           have q1_o104 : ρ' 1 = .ptr H.length 0 := (hf 1 rfl).trans (sl)
           clear hf
           obtain ⟨o112, o112_e, hR⟩ := bindE hR
           refine zu ?_
           refine ab (af (c := (loopAt Tryz.f12 2)) rfl (lf _ H F d _ 0 o112 _ _ ⟨_, hq, sl, sl⟩ o112_e)) ?_
           rcases o112 with o113 | o115
           ·rintro ex ρ' H' ⟨J114, rfl, rfl, q2_o113⟩ hf
            clear hf
            obtain rfl := someE hR
            exact zv
           ·rintro ex ρ' H' ⟨J116, rfl, rfl⟩ hf
            have q1_o115 : ρ' 1 = .ptr H.length 0 := (hf 1 rfl).trans (sl)
            clear hf
            obtain ⟨o123, o123_e, hR⟩ := bindE hR
            refine zu ?_
            refine ab (af (c := (loopAt Tryz.f12 3)) rfl (lg _ H F d _ 0 o123 _ _ ⟨_, hq, sl, sl⟩ o123_e)) ?_
            rcases o123 with o124 | o126
            ·rintro ex ρ' H' ⟨J125, rfl, rfl, q2_o124⟩ hf
             clear hf
             obtain rfl := someE hR
             exact zv
            ·rintro ex ρ' H' ⟨J127, rfl, rfl⟩ hf
             have q1_o126 : ρ' 1 = .ptr H.length 0 := (hf 1 rfl).trans (sl)
             clear hf
             obtain ⟨o134, o134_e, hR⟩ := bindE hR
             refine zu ?_
             refine ab (af (c := (loopAt Tryz.f12 4)) rfl (lh _ H F d _ 0 o134 _ _ ⟨_, hq, sl, sl⟩ o134_e)) ?_
             rcases o134 with o135 | o137
             ·rintro ex ρ' H' ⟨J136, rfl, rfl, q2_o135⟩ hf
              clear hf
              obtain rfl := someE hR
              exact zv
             ·rintro ex ρ' H' ⟨J138, rfl, rfl⟩ hf
              have q1_o137 : ρ' 1 = .ptr H.length 0 := (hf 1 rfl).trans (sl)
              clear hf
              obtain ⟨o145, o145_e, hR⟩ := bindE hR
              refine zu ?_
              refine ab (af (c := (loopAt Tryz.f12 5)) rfl (lj _ H F d _ 0 o145 _ _ ⟨_, hq, sl, sl⟩ o145_e)) ?_
              rcases o145 with o146 | o148
              ·rintro ex ρ' H' ⟨J147, rfl, rfl, q2_o146⟩ hf
               clear hf
               obtain rfl := someE hR
               exact zv
              ·rintro ex ρ' H' ⟨J149, rfl, rfl⟩ hf
               clear hf
               obtain rfl := someE hR
               exact zv
end
end Go.E
namespace Go.E
open Go.Proofs
set_option maxRecDepth 100000
set_option maxHeartbeats 4000000
end Go.E
namespace Go.E
open Go.Proofs
set_option maxRecDepth 100000
set_option maxHeartbeats 4000000
end Go.E
namespace Go.E
open Go.Proofs
set_option maxRecDepth 100000
set_option maxHeartbeats 4000000
theorem kM {x : Int} {k : Nat} : ((2 : Int) ^ k = 0) = False := by simp; have := pow_pos' k; omega
theorem kg {x : Int} {k : Nat} (h : 0 ≤ x) : x.tmod (2 ^ k) = x % 2 ^ k := Int.tmod_eq_emod_of_nonneg h
theorem wy {x : Int} {k : Nat} (h : 0 ≤ x) : x.tdiv (2 ^ k) = x / 2 ^ k := Int.tdiv_eq_ediv_of_nonneg h
theorem pw {bs : List Nat} {H : Heap} (W : Int) (h0 : 0 ≤ W) (h16 : W ≤ 16) : callw X bs 188 [.int .i64 W] H = some (.int .i64 (2 ^ W.toNat), H) := by
 have := wi bs H W h0
 rwa [mn (by omega)] at this
theorem wrx {x : Int} (h : -4398046511104 ≤ x ∧ x ≤ 4398046511104) : IntKind.i64.wrap x = x := by rw [ba] <;> omega
theorem qU {w : Int} (h : w ≤ 16) : (2 : Int) ^ w.toNat ≤ 65536 := by
 have : (2 : Nat) ^ w.toNat ≤ 2 ^ 16 := Nat.pow_le_pow_right (by omega) (by omega)
 have h3 := Int.ofNat_le.2 this
 have c : ((2 ^ 16 : Nat) : Int) = 65536 := by decide
 rw [c] at h3
 simpa using h3
theorem HE (bs : List Nat) (H : Heap) (b : Bool) : callw X bs 189 [.bool b] H = some (.int .i64 (if b = true then 1 else 0), H) := by
 refine yw2 (rs := [.tmp 2]) (N := 4) (fn := Tryz.f189) DA Nu ?_
 cases b
 ·all_goals try (refine zs ?_; repeat' first | apply zs0 | apply zs2 | (intro hc; try have hq := dq hc))
 ·all_goals try (refine zs ?_; repeat' first | apply zs0 | apply zs2 | (intro hc; try have hq := dq hc))
attribute [push_cast] HE
theorem qt (bs : List Nat) (H : Heap) (n w : Int) (hn : InW n w) (h1 : 1 ≤ w) (h16 : w ≤ 16) : callw X bs 190 [.int .i64 n, .int .i64 w] H = some (.int .i64 (sgn n w), H) := by
 refine yw2 (rs := [.tmp 4]) (N := 15) (fn := Tryz.f190) DB Nv ?_
 have e0 : IntKind.i64.wrap (w - 1) = w - 1 := by rw [ba] <;> omega
 have e2 : (w - 1).toNat = w.toNat - 1 := by omega
 have t1 := fun bs H => pw (bs := bs) (H := H) (w - 1) (by omega) (by omega)
 have t2 := fun bs H => pw (bs := bs) (H := H) w (by omega) h16
 rw [e2] at t1
 have h2 := qU h16
 have h3 := pow_pos' w.toNat
 have e3 := wrx (x := n - 2 ^ w.toNat) (by have := hn.1; have := hn.2; omega)
 unfold sgn
 by_cases hc : 2 ^ (w.toNat - 1) ≤ n
 ·have d : decide (n ≥ 2 ^ (w.toNat - 1)) = true := decide_eq_true hc
  rw [if_pos hc]
  clear hc hn h2 h3 e2
  all_goals try (refine zs ?_; repeat' first | apply zs0 | apply zs2 | (intro hc; try have hq := dq hc))
 ·have d : decide (n ≥ 2 ^ (w.toNat - 1)) = false := decide_eq_false hc
  rw [if_neg hc]
  clear hc hn h2 h3 e2
  all_goals try (refine zs ?_; repeat' first | apply zs0 | apply zs2 | (intro hc; try have hq := dq hc))
theorem ap_0 (bs : List Nat) (H : Heap) (W v : Int) (ar a w lv : List V) (h0 : 0 ≤ W) (h16 : W ≤ 16) : callw X bs 157 [.agg [.int .i64 0, .int .i64 W, .list ar, .int .i64 v], .list a, .list w, .list lv] H = some (.int .i64 v, H) := by
 refine yw2 (rs := [.tmp 8]) (N := 221) (fn := Tryz.f157) fe fu ?_
 have t1 := fun bs H => pw (bs := bs) (H := H) W h0 h16
 repeat' first
  | (refine yw0 (id := 10) oz0 ?_)
  | (refine yw0 (id := 12) oz0 ?_)
  | (refine yw0 (id := 14) oz0 ?_)
  | (refine yw0 (id := 16) oz2 ?_)
  | (refine yw0 (id := 18) oz6 ?_)
  | (refine yw0 (id := 20) oz2 ?_)
  | (refine yw0 (id := 22) oz1 ?_)
  | (refine yw0 (id := 24) oz1 ?_)
  | (refine yw1 (id := 26) oz7 oz8 ?_)
  | (refine yw1 (id := 32) oz9 oz10 ?_)
  | (refine yw1 (id := 34) oz11 oz3 ?_)
  | (refine yw0 (id := 38) oz12 ?_)
  | (refine yw0 (id := 40) oz4 ?_)
  | (refine yw1 (id := 42) oz13 oz14 ?_)
  | (refine yw0 (id := 43) oz4 ?_)
  | (refine yw1 (id := 45) oz1 oz3 ?_)
  | (refine zs ?_; repeat' first | apply zs0 | apply zs2 | (intro hc; try have hq := dq hc)) | fail
theorem ap_1 (bs : List Nat) (H : Heap) (W : Int) (v : Nat) (z : Int) (ar a w : List V) (lv : List Int) (h0 : 0 ≤ W) (h16 : W ≤ 16) (hg : lv[v]? = some z) : callw X bs 157 [.agg [.int .i64 1, .int .i64 W, .list ar, .int .i64 v], .list a, .list w, .list (lv.map (.int .i64))] H = some (.int .i64 z, H) := by
 refine yw2 (rs := [.tmp 8]) (N := 221) (fn := Tryz.f157) fe fu ?_
 have t1 := fun bs H => pw (bs := bs) (H := H) W h0 h16
 repeat' first
  | (refine yw0 (id := 10) oz0 ?_)
  | (refine yw0 (id := 12) oz0 ?_)
  | (refine yw0 (id := 14) oz0 ?_)
  | (refine yw0 (id := 16) oz2 ?_)
  | (refine yw0 (id := 18) oz6 ?_)
  | (refine yw0 (id := 20) oz2 ?_)
  | (refine yw0 (id := 22) oz1 ?_)
  | (refine yw0 (id := 24) oz1 ?_)
  | (refine yw1 (id := 26) oz7 oz8 ?_)
  | (refine yw1 (id := 32) oz9 oz10 ?_)
  | (refine yw1 (id := 34) oz11 oz3 ?_)
  | (refine yw0 (id := 38) oz12 ?_)
  | (refine yw0 (id := 40) oz4 ?_)
  | (refine yw1 (id := 42) oz13 oz14 ?_)
  | (refine yw0 (id := 43) oz4 ?_)
  | (refine yw1 (id := 45) oz1 oz3 ?_)
  | (refine zs ?_; repeat' first | apply zs0 | apply zs2 | (intro hc; try have hq := dq hc)) | fail
theorem ap_2 (bs : List Nat) (H : Heap) (W v x : Int) (ar w lv : List V) (h0 : 0 ≤ W) (h16 : W ≤ 16) (hx : InW x W) : callw X bs 157 [.agg [.int .i64 2, .int .i64 W, .list ar, .int .i64 v], .list [.int .i64 x], .list w, .list lv] H = some (.int .i64 (2 ^ W.toNat - 1 - x), H) := by
 refine yw2 (rs := [.tmp 8]) (N := 221) (fn := Tryz.f157) fe fu ?_
 have t1 := fun bs H => pw (bs := bs) (H := H) W h0 h16
 have h2 := qU h16
 have h3 := pow_pos' W.toNat
 obtain ⟨x0, x1⟩ := hx
 have e1 := wrx (x := 2 ^ W.toNat - 1) (by omega)
 have e2 := wrx (x := 2 ^ W.toNat - 1 - x) (by omega)
 clear x0 x1 h2 h3
 repeat' first
  | (refine yw0 (id := 10) oz0 ?_)
  | (refine yw0 (id := 12) oz0 ?_)
  | (refine yw0 (id := 14) oz0 ?_)
  | (refine yw0 (id := 16) oz2 ?_)
  | (refine yw0 (id := 18) oz6 ?_)
  | (refine yw0 (id := 20) oz2 ?_)
  | (refine yw0 (id := 22) oz1 ?_)
  | (refine yw0 (id := 24) oz1 ?_)
  | (refine yw1 (id := 26) oz7 oz8 ?_)
  | (refine yw1 (id := 32) oz9 oz10 ?_)
  | (refine yw1 (id := 34) oz11 oz3 ?_)
  | (refine yw0 (id := 38) oz12 ?_)
  | (refine yw0 (id := 40) oz4 ?_)
  | (refine yw1 (id := 42) oz13 oz14 ?_)
  | (refine yw0 (id := 43) oz4 ?_)
  | (refine yw1 (id := 45) oz1 oz3 ?_)
  | (refine zs ?_; repeat' first | apply zs0 | apply zs2 | (intro hc; try have hq := dq hc)) | fail
theorem ap_3 (bs : List Nat) (H : Heap) (W v x y : Int) (ar w lv : List V) (h0 : 0 ≤ W) (h16 : W ≤ 16) : callw X bs 157 [.agg [.int .i64 3, .int .i64 W, .list ar, .int .i64 v], .list [.int .i64 x, .int .i64 y], .list w, .list lv] H = some (.int .i64 (bitsI .and .i64 x y), H) := by
 refine yw2 (rs := [.tmp 8]) (N := 221) (fn := Tryz.f157) fe fu ?_
 have t1 := fun bs H => pw (bs := bs) (H := H) W h0 h16
 repeat' first
  | (refine yw0 (id := 10) oz0 ?_)
  | (refine yw0 (id := 12) oz0 ?_)
  | (refine yw0 (id := 14) oz0 ?_)
  | (refine yw0 (id := 16) oz2 ?_)
  | (refine yw0 (id := 18) oz6 ?_)
  | (refine yw0 (id := 20) oz2 ?_)
  | (refine yw0 (id := 22) oz1 ?_)
  | (refine yw0 (id := 24) oz1 ?_)
  | (refine yw1 (id := 26) oz7 oz8 ?_)
  | (refine yw1 (id := 32) oz9 oz10 ?_)
  | (refine yw1 (id := 34) oz11 oz3 ?_)
  | (refine yw0 (id := 38) oz12 ?_)
  | (refine yw0 (id := 40) oz4 ?_)
  | (refine yw1 (id := 42) oz13 oz14 ?_)
  | (refine yw0 (id := 43) oz4 ?_)
  | (refine yw1 (id := 45) oz1 oz3 ?_)
  | (refine zs ?_; repeat' first | apply zs0 | apply zs2 | (intro hc; try have hq := dq hc)) | fail
theorem ap_4 (bs : List Nat) (H : Heap) (W v x y : Int) (ar w lv : List V) (h0 : 0 ≤ W) (h16 : W ≤ 16) : callw X bs 157 [.agg [.int .i64 4, .int .i64 W, .list ar, .int .i64 v], .list [.int .i64 x, .int .i64 y], .list w, .list lv] H = some (.int .i64 (bitsI .or .i64 x y), H) := by
 refine yw2 (rs := [.tmp 8]) (N := 221) (fn := Tryz.f157) fe fu ?_
 have t1 := fun bs H => pw (bs := bs) (H := H) W h0 h16
 repeat' first
  | (refine yw0 (id := 10) oz0 ?_)
  | (refine yw0 (id := 12) oz0 ?_)
  | (refine yw0 (id := 14) oz0 ?_)
  | (refine yw0 (id := 16) oz2 ?_)
  | (refine yw0 (id := 18) oz6 ?_)
  | (refine yw0 (id := 20) oz2 ?_)
  | (refine yw0 (id := 22) oz1 ?_)
  | (refine yw0 (id := 24) oz1 ?_)
  | (refine yw1 (id := 26) oz7 oz8 ?_)
  | (refine yw1 (id := 32) oz9 oz10 ?_)
  | (refine yw1 (id := 34) oz11 oz3 ?_)
  | (refine yw0 (id := 38) oz12 ?_)
  | (refine yw0 (id := 40) oz4 ?_)
  | (refine yw1 (id := 42) oz13 oz14 ?_)
  | (refine yw0 (id := 43) oz4 ?_)
  | (refine yw1 (id := 45) oz1 oz3 ?_)
  | (refine zs ?_; repeat' first | apply zs0 | apply zs2 | (intro hc; try have hq := dq hc)) | fail
theorem ap_5 (bs : List Nat) (H : Heap) (W v x y : Int) (ar w lv : List V) (h0 : 0 ≤ W) (h16 : W ≤ 16) : callw X bs 157 [.agg [.int .i64 5, .int .i64 W, .list ar, .int .i64 v], .list [.int .i64 x, .int .i64 y], .list w, .list lv] H = some (.int .i64 (bitsI .xor .i64 x y), H) := by
 refine yw2 (rs := [.tmp 8]) (N := 221) (fn := Tryz.f157) fe fu ?_
 have t1 := fun bs H => pw (bs := bs) (H := H) W h0 h16
 repeat' first
  | (refine yw0 (id := 10) oz0 ?_)
  | (refine yw0 (id := 12) oz0 ?_)
  | (refine yw0 (id := 14) oz0 ?_)
  | (refine yw0 (id := 16) oz2 ?_)
  | (refine yw0 (id := 18) oz6 ?_)
  | (refine yw0 (id := 20) oz2 ?_)
  | (refine yw0 (id := 22) oz1 ?_)
  | (refine yw0 (id := 24) oz1 ?_)
  | (refine yw1 (id := 26) oz7 oz8 ?_)
  | (refine yw1 (id := 32) oz9 oz10 ?_)
  | (refine yw1 (id := 34) oz11 oz3 ?_)
  | (refine yw0 (id := 38) oz12 ?_)
  | (refine yw0 (id := 40) oz4 ?_)
  | (refine yw1 (id := 42) oz13 oz14 ?_)
  | (refine yw0 (id := 43) oz4 ?_)
  | (refine yw1 (id := 45) oz1 oz3 ?_)
  | (refine zs ?_; repeat' first | apply zs0 | apply zs2 | (intro hc; try have hq := dq hc)) | fail
theorem ap_6 (bs : List Nat) (H : Heap) (W v x y : Int) (ar w lv : List V) (h0 : 0 ≤ W) (h16 : W ≤ 16) (hx : 0 ≤ x ∧ x < 65536) (hy : 0 ≤ y ∧ y < 65536) : callw X bs 157 [.agg [.int .i64 6, .int .i64 W, .list ar, .int .i64 v], .list [.int .i64 x, .int .i64 y], .list w, .list lv] H = some (.int .i64 ((x + y) % 2 ^ W.toNat), H) := by
 refine yw2 (rs := [.tmp 8]) (N := 221) (fn := Tryz.f157) fe fu ?_
 have t1 := fun bs H => pw (bs := bs) (H := H) W h0 h16
 have e1 := wrx (x := x + y) (by omega)
 have e2 := kM (x := 0) (k := W.toNat)
 have e3 := kg (x := x + y) (k := W.toNat) (by omega)
 clear hx hy
 repeat' first
  | (refine yw0 (id := 10) oz0 ?_)
  | (refine yw0 (id := 12) oz0 ?_)
  | (refine yw0 (id := 14) oz0 ?_)
  | (refine yw0 (id := 16) oz2 ?_)
  | (refine yw0 (id := 18) oz6 ?_)
  | (refine yw0 (id := 20) oz2 ?_)
  | (refine yw0 (id := 22) oz1 ?_)
  | (refine yw0 (id := 24) oz1 ?_)
  | (refine yw1 (id := 26) oz7 oz8 ?_)
  | (refine yw1 (id := 32) oz9 oz10 ?_)
  | (refine yw1 (id := 34) oz11 oz3 ?_)
  | (refine yw0 (id := 38) oz12 ?_)
  | (refine yw0 (id := 40) oz4 ?_)
  | (refine yw1 (id := 42) oz13 oz14 ?_)
  | (refine yw0 (id := 43) oz4 ?_)
  | (refine yw1 (id := 45) oz1 oz3 ?_)
  | (refine zs ?_; repeat' first | apply zs0 | apply zs2 | (intro hc; try have hq := dq hc)) | fail
theorem ap_7 (bs : List Nat) (H : Heap) (W v x y : Int) (ar w lv : List V) (h0 : 0 ≤ W) (h16 : W ≤ 16) (hx : InW x W) (hy : InW y W) : callw X bs 157 [.agg [.int .i64 7, .int .i64 W, .list ar, .int .i64 v], .list [.int .i64 x, .int .i64 y], .list w, .list lv] H = some (.int .i64 ((x - y) % 2 ^ W.toNat), H) := by
 refine yw2 (rs := [.tmp 8]) (N := 221) (fn := Tryz.f157) fe fu ?_
 have t1 := fun bs H => pw (bs := bs) (H := H) W h0 h16
 have h2 := qU h16
 obtain ⟨x0, x1⟩ := hx
 obtain ⟨y0, y1⟩ := hy
 have e1 := wrx (x := x - y) (by omega)
 have e4 := wrx (x := x - y + 2 ^ W.toNat) (by omega)
 have e2 := kM (x := 0) (k := W.toNat)
 have e3 := kg (x := x - y + 2 ^ W.toNat) (k := W.toNat) (by omega)
 rw [Int.add_emod_right] at e3
 clear x0 x1 y0 y1 h2
 repeat' first
  | (refine yw0 (id := 10) oz0 ?_)
  | (refine yw0 (id := 12) oz0 ?_)
  | (refine yw0 (id := 14) oz0 ?_)
  | (refine yw0 (id := 16) oz2 ?_)
  | (refine yw0 (id := 18) oz6 ?_)
  | (refine yw0 (id := 20) oz2 ?_)
  | (refine yw0 (id := 22) oz1 ?_)
  | (refine yw0 (id := 24) oz1 ?_)
  | (refine yw1 (id := 26) oz7 oz8 ?_)
  | (refine yw1 (id := 32) oz9 oz10 ?_)
  | (refine yw1 (id := 34) oz11 oz3 ?_)
  | (refine yw0 (id := 38) oz12 ?_)
  | (refine yw0 (id := 40) oz4 ?_)
  | (refine yw1 (id := 42) oz13 oz14 ?_)
  | (refine yw0 (id := 43) oz4 ?_)
  | (refine yw1 (id := 45) oz1 oz3 ?_)
  | (refine zs ?_; repeat' first | apply zs0 | apply zs2 | (intro hc; try have hq := dq hc)) | fail
theorem ap_8 (bs : List Nat) (H : Heap) (W v x y : Int) (ar w lv : List V) (h0 : 0 ≤ W) (h16 : W ≤ 16) (hx : 0 ≤ x ∧ x < 65536) (hy : 0 ≤ y ∧ y < 65536) : callw X bs 157 [.agg [.int .i64 8, .int .i64 W, .list ar, .int .i64 v], .list [.int .i64 x, .int .i64 y], .list w, .list lv] H = some (.int .i64 (x * y % 2 ^ W.toNat), H) := by
 refine yw2 (rs := [.tmp 8]) (N := 221) (fn := Tryz.f157) fe fu ?_
 have t1 := fun bs H => pw (bs := bs) (H := H) W h0 h16
 have h1 : x * y ≤ 65536 * 65536 := Int.le_trans (Int.mul_le_mul_of_nonneg_right (by omega) hy.1) (Int.mul_le_mul_of_nonneg_left (by omega) (by omega))
 have h2 := Int.mul_nonneg hx.1 hy.1
 have e1 := wrx (x := x * y) (by omega)
 have e2 := kM (x := 0) (k := W.toNat)
 have e3 := kg (x := x * y) (k := W.toNat) h2
 clear hx hy h1 h2
 repeat' first
  | (refine yw0 (id := 10) oz0 ?_)
  | (refine yw0 (id := 12) oz0 ?_)
  | (refine yw0 (id := 14) oz0 ?_)
  | (refine yw0 (id := 16) oz2 ?_)
  | (refine yw0 (id := 18) oz6 ?_)
  | (refine yw0 (id := 20) oz2 ?_)
  | (refine yw0 (id := 22) oz1 ?_)
  | (refine yw0 (id := 24) oz1 ?_)
  | (refine yw1 (id := 26) oz7 oz8 ?_)
  | (refine yw1 (id := 32) oz9 oz10 ?_)
  | (refine yw1 (id := 34) oz11 oz3 ?_)
  | (refine yw0 (id := 38) oz12 ?_)
  | (refine yw0 (id := 40) oz4 ?_)
  | (refine yw1 (id := 42) oz13 oz14 ?_)
  | (refine yw0 (id := 43) oz4 ?_)
  | (refine yw1 (id := 45) oz1 oz3 ?_)
  | (refine zs ?_; repeat' first | apply zs0 | apply zs2 | (intro hc; try have hq := dq hc)) | fail
theorem ap_9 (bs : List Nat) (H : Heap) (W v x y : Int) (ar w lv : List V) (h0 : 0 ≤ W) (h16 : W ≤ 16) : callw X bs 157 [.agg [.int .i64 9, .int .i64 W, .list ar, .int .i64 v], .list [.int .i64 x, .int .i64 y], .list w, .list lv] H = some (.int .i64 (if decide (x = y) = true then 1 else 0), H) := by
 refine yw2 (rs := [.tmp 8]) (N := 221) (fn := Tryz.f157) fe fu ?_
 have t1 := fun bs H => pw (bs := bs) (H := H) W h0 h16
 repeat' first
  | (refine yw0 (id := 10) oz0 ?_)
  | (refine yw0 (id := 12) oz0 ?_)
  | (refine yw0 (id := 14) oz0 ?_)
  | (refine yw0 (id := 16) oz2 ?_)
  | (refine yw0 (id := 18) oz6 ?_)
  | (refine yw0 (id := 20) oz2 ?_)
  | (refine yw0 (id := 22) oz1 ?_)
  | (refine yw0 (id := 24) oz1 ?_)
  | (refine yw1 (id := 26) oz7 oz8 ?_)
  | (refine yw1 (id := 32) oz9 oz10 ?_)
  | (refine yw1 (id := 34) oz11 oz3 ?_)
  | (refine yw0 (id := 38) oz12 ?_)
  | (refine yw0 (id := 40) oz4 ?_)
  | (refine yw1 (id := 42) oz13 oz14 ?_)
  | (refine yw0 (id := 43) oz4 ?_)
  | (refine yw1 (id := 45) oz1 oz3 ?_)
  | (refine zs ?_; repeat' first | apply zs0 | apply zs2 | (intro hc; try have hq := dq hc)) | fail
theorem Ov (bs : List Nat) (H : Heap) (W v x y : Int) (ar w lv : List V) (h0 : 0 ≤ W) (h16 : W ≤ 16) : callw X bs 157 [.agg [.int .i64 10, .int .i64 W, .list ar, .int .i64 v], .list [.int .i64 x, .int .i64 y], .list w, .list lv] H = some (.int .i64 (if decide (x < y) = true then 1 else 0), H) := by
 refine yw2 (rs := [.tmp 8]) (N := 221) (fn := Tryz.f157) fe fu ?_
 have t1 := fun bs H => pw (bs := bs) (H := H) W h0 h16
 repeat' first
  | (refine yw0 (id := 10) oz0 ?_)
  | (refine yw0 (id := 12) oz0 ?_)
  | (refine yw0 (id := 14) oz0 ?_)
  | (refine yw0 (id := 16) oz2 ?_)
  | (refine yw0 (id := 18) oz6 ?_)
  | (refine yw0 (id := 20) oz2 ?_)
  | (refine yw0 (id := 22) oz1 ?_)
  | (refine yw0 (id := 24) oz1 ?_)
  | (refine yw1 (id := 26) oz7 oz8 ?_)
  | (refine yw1 (id := 32) oz9 oz10 ?_)
  | (refine yw1 (id := 34) oz11 oz3 ?_)
  | (refine yw0 (id := 38) oz12 ?_)
  | (refine yw0 (id := 40) oz4 ?_)
  | (refine yw1 (id := 42) oz13 oz14 ?_)
  | (refine yw0 (id := 43) oz4 ?_)
  | (refine yw1 (id := 45) oz1 oz3 ?_)
  | (refine zs ?_; repeat' first | apply zs0 | apply zs2 | (intro hc; try have hq := dq hc)) | fail
theorem Ow (bs : List Nat) (H : Heap) (W v x y p : Int) (ar lv : List V) (h0 : 0 ≤ W) (h16 : W ≤ 16) (hx : InW x p) (hy : InW y p) (hp : 1 ≤ p) (hp16 : p ≤ 16) : callw X bs 157 [.agg [.int .i64 11, .int .i64 W, .list ar, .int .i64 v], .list [.int .i64 x, .int .i64 y], .list [.int .i64 p, .int .i64 p], .list lv] H = some (.int .i64 (if decide (sgn x p < sgn y p) = true then 1 else 0), H) := by
 refine yw2 (rs := [.tmp 8]) (N := 221) (fn := Tryz.f157) fe fu ?_
 have t1 := fun bs H => pw (bs := bs) (H := H) W h0 h16
 have t2 := fun bs H => qt bs H x p hx hp hp16
 have t3 := fun bs H => qt bs H y p hy hp hp16
 clear hx hy hp hp16
 repeat' first
  | (refine yw0 (id := 10) oz0 ?_)
  | (refine yw0 (id := 12) oz0 ?_)
  | (refine yw0 (id := 14) oz0 ?_)
  | (refine yw0 (id := 16) oz2 ?_)
  | (refine yw0 (id := 18) oz6 ?_)
  | (refine yw0 (id := 20) oz2 ?_)
  | (refine yw0 (id := 22) oz1 ?_)
  | (refine yw0 (id := 24) oz1 ?_)
  | (refine yw1 (id := 26) oz7 oz8 ?_)
  | (refine yw1 (id := 32) oz9 oz10 ?_)
  | (refine yw1 (id := 34) oz11 oz3 ?_)
  | (refine yw0 (id := 38) oz12 ?_)
  | (refine yw0 (id := 40) oz4 ?_)
  | (refine yw1 (id := 42) oz13 oz14 ?_)
  | (refine yw0 (id := 43) oz4 ?_)
  | (refine yw1 (id := 45) oz1 oz3 ?_)
  | (refine zs ?_; repeat' first | apply zs0 | apply zs2 | (intro hc; try have hq := dq hc)) | fail
theorem Ox (bs : List Nat) (H : Heap) (W v x y z : Int) (ar w lv : List V) (h0 : 0 ≤ W) (h16 : W ≤ 16) : callw X bs 157 [.agg [.int .i64 12, .int .i64 W, .list ar, .int .i64 v], .list [.int .i64 x, .int .i64 y, .int .i64 z], .list w, .list lv] H = some (.int .i64 (if x = 1 then y else z), H) := by
 refine yw2 (rs := [.tmp 8]) (N := 221) (fn := Tryz.f157) fe fu ?_
 have t1 := fun bs H => pw (bs := bs) (H := H) W h0 h16
 by_cases h : x = 1
 ·have d : decide (x = 1) = true := decide_eq_true h
  rw [if_pos h]
  clear h
  repeat' first
   | (refine yw0 (id := 10) oz0 ?_)
   | (refine yw0 (id := 12) oz0 ?_)
   | (refine yw0 (id := 14) oz0 ?_)
   | (refine yw0 (id := 16) oz2 ?_)
   | (refine yw0 (id := 18) oz6 ?_)
   | (refine yw0 (id := 20) oz2 ?_)
   | (refine yw0 (id := 22) oz1 ?_)
   | (refine yw0 (id := 24) oz1 ?_)
   | (refine yw1 (id := 26) oz7 oz8 ?_)
   | (refine yw1 (id := 32) oz9 oz10 ?_)
   | (refine yw1 (id := 34) oz11 oz3 ?_)
   | (refine yw0 (id := 38) oz12 ?_)
   | (refine yw0 (id := 40) oz4 ?_)
   | (refine yw1 (id := 42) oz13 oz14 ?_)
   | (refine yw0 (id := 43) oz4 ?_)
   | (refine yw1 (id := 45) oz1 oz3 ?_)
   | (refine zs ?_; repeat' first | apply zs0 | apply zs2 | (intro hc; try have hq := dq hc)) | fail
 ·have d : decide (x = 1) = false := decide_eq_false h
  rw [if_neg h]
  clear h
  repeat' first
   | (refine yw0 (id := 10) oz0 ?_)
   | (refine yw0 (id := 12) oz0 ?_)
   | (refine yw0 (id := 14) oz0 ?_)
   | (refine yw0 (id := 16) oz2 ?_)
   | (refine yw0 (id := 18) oz6 ?_)
   | (refine yw0 (id := 20) oz2 ?_)
   | (refine yw0 (id := 22) oz1 ?_)
   | (refine yw0 (id := 24) oz1 ?_)
   | (refine yw1 (id := 26) oz7 oz8 ?_)
   | (refine yw1 (id := 32) oz9 oz10 ?_)
   | (refine yw1 (id := 34) oz11 oz3 ?_)
   | (refine yw0 (id := 38) oz12 ?_)
   | (refine yw0 (id := 40) oz4 ?_)
   | (refine yw1 (id := 42) oz13 oz14 ?_)
   | (refine yw0 (id := 43) oz4 ?_)
   | (refine yw1 (id := 45) oz1 oz3 ?_)
   | (refine zs ?_; repeat' first | apply zs0 | apply zs2 | (intro hc; try have hq := dq hc)) | fail
theorem Oy (bs : List Nat) (H : Heap) (W v x y p q : Int) (ar lv : List V) (h0 : 0 ≤ W) (h16 : W ≤ 16) (hx : 0 ≤ x ∧ x < 65536) (hy : InW y q) (hq : 0 ≤ q) (hq16 : q ≤ 16) : callw X bs 157 [.agg [.int .i64 13, .int .i64 W, .list ar, .int .i64 v], .list [.int .i64 x, .int .i64 y], .list [.int .i64 p, .int .i64 q], .list lv] H = some (.int .i64 (x * 2 ^ q.toNat + y), H) := by
 refine yw2 (rs := [.tmp 8]) (N := 221) (fn := Tryz.f157) fe fu ?_
 have t1 := fun bs H => pw (bs := bs) (H := H) W h0 h16
 have t2 := fun bs H => pw (bs := bs) (H := H) q hq hq16
 have h2 := qU hq16
 have h3 := pow_pos' q.toNat
 obtain ⟨y0, y1⟩ := hy
 have h1 : x * 2 ^ q.toNat ≤ 65536 * 65536 := Int.le_trans (Int.mul_le_mul_of_nonneg_right (by omega) (by omega)) (Int.mul_le_mul_of_nonneg_left h2 (by omega))
 have h4 := Int.mul_nonneg hx.1 (Int.le_of_lt h3)
 have e1 := wrx (x := x * 2 ^ q.toNat) (by omega)
 have e2 := wrx (x := x * 2 ^ q.toNat + y) (by omega)
 clear hx y0 y1 h1 h2 h3 h4 hq hq16
 repeat' first
  | (refine yw0 (id := 10) oz0 ?_)
  | (refine yw0 (id := 12) oz0 ?_)
  | (refine yw0 (id := 14) oz0 ?_)
  | (refine yw0 (id := 16) oz2 ?_)
  | (refine yw0 (id := 18) oz6 ?_)
  | (refine yw0 (id := 20) oz2 ?_)
  | (refine yw0 (id := 22) oz1 ?_)
  | (refine yw0 (id := 24) oz1 ?_)
  | (refine yw1 (id := 26) oz7 oz8 ?_)
  | (refine yw1 (id := 32) oz9 oz10 ?_)
  | (refine yw1 (id := 34) oz11 oz3 ?_)
  | (refine yw0 (id := 38) oz12 ?_)
  | (refine yw0 (id := 40) oz4 ?_)
  | (refine yw1 (id := 42) oz13 oz14 ?_)
  | (refine yw0 (id := 43) oz4 ?_)
  | (refine yw1 (id := 45) oz1 oz3 ?_)
  | (refine zs ?_; repeat' first | apply zs0 | apply zs2 | (intro hc; try have hq := dq hc)) | fail
theorem Oz (bs : List Nat) (H : Heap) (W v x : Int) (ar w lv : List V) (h0 : 0 ≤ W) (h16 : W ≤ 16) (hx : 0 ≤ x ∧ x < 65536) (hv : 0 ≤ v) (hv16 : v ≤ 16) : callw X bs 157 [.agg [.int .i64 14, .int .i64 W, .list ar, .int .i64 v], .list [.int .i64 x], .list w, .list lv] H = some (.int .i64 (x / 2 ^ v.toNat % 2 ^ W.toNat), H) := by
 refine yw2 (rs := [.tmp 8]) (N := 221) (fn := Tryz.f157) fe fu ?_
 have t1 := fun bs H => pw (bs := bs) (H := H) W h0 h16
 have t2 := fun bs H => pw (bs := bs) (H := H) v hv hv16
 have e1 := wy (x := x) (k := v.toNat) hx.1
 have e2 := kM (x := 0) (k := W.toNat)
 have e4 := kM (x := 0) (k := v.toNat)
 have e3 := kg (x := x / 2 ^ v.toNat) (k := W.toNat) (Int.ediv_nonneg hx.1 (by have := pow_pos' v.toNat; omega))
 have e5 : IntKind.i64.wrap (x / 2 ^ v.toNat) = x / 2 ^ v.toNat := wrx (by have := Int.ediv_le_self (2 ^ v.toNat) hx.1; have := Int.ediv_nonneg hx.1 (Int.le_of_lt (pow_pos' v.toNat)); omega)
 clear hx hv hv16
 repeat' first
  | (refine yw0 (id := 10) oz0 ?_)
  | (refine yw0 (id := 12) oz0 ?_)
  | (refine yw0 (id := 14) oz0 ?_)
  | (refine yw0 (id := 16) oz2 ?_)
  | (refine yw0 (id := 18) oz6 ?_)
  | (refine yw0 (id := 20) oz2 ?_)
  | (refine yw0 (id := 22) oz1 ?_)
  | (refine yw0 (id := 24) oz1 ?_)
  | (refine yw1 (id := 26) oz7 oz8 ?_)
  | (refine yw1 (id := 32) oz9 oz10 ?_)
  | (refine yw1 (id := 34) oz11 oz3 ?_)
  | (refine yw0 (id := 38) oz12 ?_)
  | (refine yw0 (id := 40) oz4 ?_)
  | (refine yw1 (id := 42) oz13 oz14 ?_)
  | (refine yw0 (id := 43) oz4 ?_)
  | (refine yw1 (id := 45) oz1 oz3 ?_)
  | (refine zs ?_; repeat' first | apply zs0 | apply zs2 | (intro hc; try have hq := dq hc)) | fail
theorem OA (bs : List Nat) (H : Heap) (W v x : Int) (ar w lv : List V) (h0 : 0 ≤ W) (h16 : W ≤ 16) : callw X bs 157 [.agg [.int .i64 15, .int .i64 W, .list ar, .int .i64 v], .list [.int .i64 x], .list w, .list lv] H = some (.int .i64 x, H) := by
 refine yw2 (rs := [.tmp 8]) (N := 221) (fn := Tryz.f157) fe fu ?_
 have t1 := fun bs H => pw (bs := bs) (H := H) W h0 h16
 repeat' first
  | (refine yw0 (id := 10) oz0 ?_)
  | (refine yw0 (id := 12) oz0 ?_)
  | (refine yw0 (id := 14) oz0 ?_)
  | (refine yw0 (id := 16) oz2 ?_)
  | (refine yw0 (id := 18) oz6 ?_)
  | (refine yw0 (id := 20) oz2 ?_)
  | (refine yw0 (id := 22) oz1 ?_)
  | (refine yw0 (id := 24) oz1 ?_)
  | (refine yw1 (id := 26) oz7 oz8 ?_)
  | (refine yw1 (id := 32) oz9 oz10 ?_)
  | (refine yw1 (id := 34) oz11 oz3 ?_)
  | (refine yw0 (id := 38) oz12 ?_)
  | (refine yw0 (id := 40) oz4 ?_)
  | (refine yw1 (id := 42) oz13 oz14 ?_)
  | (refine yw0 (id := 43) oz4 ?_)
  | (refine yw1 (id := 45) oz1 oz3 ?_)
  | (refine zs ?_; repeat' first | apply zs0 | apply zs2 | (intro hc; try have hq := dq hc)) | fail
theorem OB (bs : List Nat) (H : Heap) (W v x p : Int) (ar w lv : List V) (h0 : 0 ≤ W) (h16 : W ≤ 16) (hx : InW x p) (hp : 1 ≤ p) (hpW : p ≤ W) : callw X bs 157 [.agg [.int .i64 16, .int .i64 W, .list ar, .int .i64 v], .list [.int .i64 x], .list (.int .i64 p :: w), .list lv] H = some (.int .i64 (sgn x p % 2 ^ W.toNat), H) := by
 refine yw2 (rs := [.tmp 8]) (N := 221) (fn := Tryz.f157) fe fu ?_
 have t1 := fun bs H => pw (bs := bs) (H := H) W h0 h16
 have t2 := fun bs H => qt bs H x p hx hp (by omega)
 have h1 := FQ hx hp
 have h2 := qU h16
 have h3 := jE hp
 have h4 := wm hpW
 have h5 := pow_pos' (p.toNat - 1)
 have e1 := wrx (x := sgn x p + 2 ^ W.toNat) (by omega)
 have e2 := kM (x := 0) (k := W.toNat)
 have e3 := kg (x := sgn x p + 2 ^ W.toNat) (k := W.toNat) (by omega)
 rw [Int.add_emod_right] at e3
 clear h1 h2 h3 h4 h5 hx hp hpW
 repeat' first
  | (refine yw0 (id := 10) oz0 ?_)
  | (refine yw0 (id := 12) oz0 ?_)
  | (refine yw0 (id := 14) oz0 ?_)
  | (refine yw0 (id := 16) oz2 ?_)
  | (refine yw0 (id := 18) oz6 ?_)
  | (refine yw0 (id := 20) oz2 ?_)
  | (refine yw0 (id := 22) oz1 ?_)
  | (refine yw0 (id := 24) oz1 ?_)
  | (refine yw1 (id := 26) oz7 oz8 ?_)
  | (refine yw1 (id := 32) oz9 oz10 ?_)
  | (refine yw1 (id := 34) oz11 oz3 ?_)
  | (refine yw0 (id := 38) oz12 ?_)
  | (refine yw0 (id := 40) oz4 ?_)
  | (refine yw1 (id := 42) oz13 oz14 ?_)
  | (refine yw0 (id := 43) oz4 ?_)
  | (refine yw1 (id := 45) oz1 oz3 ?_)
  | (refine zs ?_; repeat' first | apply zs0 | apply zs2 | (intro hc; try have hq := dq hc)) | fail
theorem OC (bs : List Nat) (H : Heap) (W v x y : Int) (ar w lv : List V) (h0 : 0 ≤ W) (h16 : W ≤ 16) (hx : 0 ≤ x ∧ x < 65536) (hy : 0 ≤ y) : callw X bs 157 [.agg [.int .i64 17, .int .i64 W, .list ar, .int .i64 v], .list [.int .i64 x, .int .i64 y], .list w, .list lv] H = some (.int .i64 (if W ≤ y then 0 else x * 2 ^ y.toNat % 2 ^ W.toNat), H) := by
 refine yw2 (rs := [.tmp 8]) (N := 221) (fn := Tryz.f157) fe fu ?_
 have t1 := fun bs H => pw (bs := bs) (H := H) W h0 h16
 by_cases h : W ≤ y
 ·have d : decide (y ≥ W) = true := decide_eq_true h
  rw [if_pos h]
  clear h hx hy
  repeat' first
   | (refine yw0 (id := 10) oz0 ?_)
   | (refine yw0 (id := 12) oz0 ?_)
   | (refine yw0 (id := 14) oz0 ?_)
   | (refine yw0 (id := 16) oz2 ?_)
   | (refine yw0 (id := 18) oz6 ?_)
   | (refine yw0 (id := 20) oz2 ?_)
   | (refine yw0 (id := 22) oz1 ?_)
   | (refine yw0 (id := 24) oz1 ?_)
   | (refine yw1 (id := 26) oz7 oz8 ?_)
   | (refine yw1 (id := 32) oz9 oz10 ?_)
   | (refine yw1 (id := 34) oz11 oz3 ?_)
   | (refine yw0 (id := 38) oz12 ?_)
   | (refine yw0 (id := 40) oz4 ?_)
   | (refine yw1 (id := 42) oz13 oz14 ?_)
   | (refine yw0 (id := 43) oz4 ?_)
   | (refine yw1 (id := 45) oz1 oz3 ?_)
   | (refine zs ?_; repeat' first | apply zs0 | apply zs2 | (intro hc; try have hq := dq hc)) | fail
 ·have d : decide (y ≥ W) = false := decide_eq_false h
  have t2 := fun bs H => pw (bs := bs) (H := H) y hy (by omega)
  have h2 := qU (by omega : y ≤ 16)
  have h3 := pow_pos' y.toNat
  have h1 : x * 2 ^ y.toNat ≤ 65536 * 65536 := Int.le_trans (Int.mul_le_mul_of_nonneg_right (by omega) (by omega)) (Int.mul_le_mul_of_nonneg_left h2 (by omega))
  have h4 := Int.mul_nonneg hx.1 (Int.le_of_lt h3)
  have e1 := wrx (x := x * 2 ^ y.toNat) (by omega)
  have e2 := kM (x := 0) (k := W.toNat)
  have e3 := kg (x := x * 2 ^ y.toNat) (k := W.toNat) h4
  rw [if_neg h]
  clear h hx hy h1 h2 h3 h4
  repeat' first
   | (refine yw0 (id := 10) oz0 ?_)
   | (refine yw0 (id := 12) oz0 ?_)
   | (refine yw0 (id := 14) oz0 ?_)
   | (refine yw0 (id := 16) oz2 ?_)
   | (refine yw0 (id := 18) oz6 ?_)
   | (refine yw0 (id := 20) oz2 ?_)
   | (refine yw0 (id := 22) oz1 ?_)
   | (refine yw0 (id := 24) oz1 ?_)
   | (refine yw1 (id := 26) oz7 oz8 ?_)
   | (refine yw1 (id := 32) oz9 oz10 ?_)
   | (refine yw1 (id := 34) oz11 oz3 ?_)
   | (refine yw0 (id := 38) oz12 ?_)
   | (refine yw0 (id := 40) oz4 ?_)
   | (refine yw1 (id := 42) oz13 oz14 ?_)
   | (refine yw0 (id := 43) oz4 ?_)
   | (refine yw1 (id := 45) oz1 oz3 ?_)
   | (refine zs ?_; repeat' first | apply zs0 | apply zs2 | (intro hc; try have hq := dq hc)) | fail
theorem OD (bs : List Nat) (H : Heap) (W v x y : Int) (ar w lv : List V) (h0 : 0 ≤ W) (h16 : W ≤ 16) (hx : 0 ≤ x ∧ x < 65536) (hy : 0 ≤ y) : callw X bs 157 [.agg [.int .i64 18, .int .i64 W, .list ar, .int .i64 v], .list [.int .i64 x, .int .i64 y], .list w, .list lv] H = some (.int .i64 (if W ≤ y then 0 else x / 2 ^ y.toNat), H) := by
 refine yw2 (rs := [.tmp 8]) (N := 221) (fn := Tryz.f157) fe fu ?_
 have t1 := fun bs H => pw (bs := bs) (H := H) W h0 h16
 by_cases h : W ≤ y
 ·have d : decide (y ≥ W) = true := decide_eq_true h
  rw [if_pos h]
  clear h hx hy
  repeat' first
   | (refine yw0 (id := 10) oz0 ?_)
   | (refine yw0 (id := 12) oz0 ?_)
   | (refine yw0 (id := 14) oz0 ?_)
   | (refine yw0 (id := 16) oz2 ?_)
   | (refine yw0 (id := 18) oz6 ?_)
   | (refine yw0 (id := 20) oz2 ?_)
   | (refine yw0 (id := 22) oz1 ?_)
   | (refine yw0 (id := 24) oz1 ?_)
   | (refine yw1 (id := 26) oz7 oz8 ?_)
   | (refine yw1 (id := 32) oz9 oz10 ?_)
   | (refine yw1 (id := 34) oz11 oz3 ?_)
   | (refine yw0 (id := 38) oz12 ?_)
   | (refine yw0 (id := 40) oz4 ?_)
   | (refine yw1 (id := 42) oz13 oz14 ?_)
   | (refine yw0 (id := 43) oz4 ?_)
   | (refine yw1 (id := 45) oz1 oz3 ?_)
   | (refine zs ?_; repeat' first | apply zs0 | apply zs2 | (intro hc; try have hq := dq hc)) | fail
 ·have d : decide (y ≥ W) = false := decide_eq_false h
  have t2 := fun bs H => pw (bs := bs) (H := H) y hy (by omega)
  have e1 := wy (x := x) (k := y.toNat) hx.1
  have e2 := kM (x := 0) (k := y.toNat)
  have e5 : IntKind.i64.wrap (x / 2 ^ y.toNat) = x / 2 ^ y.toNat := wrx (by have := Int.ediv_le_self (2 ^ y.toNat) hx.1; have := Int.ediv_nonneg hx.1 (Int.le_of_lt (pow_pos' y.toNat)); omega)
  rw [if_neg h]
  clear h hx hy
  repeat' first
   | (refine yw0 (id := 10) oz0 ?_)
   | (refine yw0 (id := 12) oz0 ?_)
   | (refine yw0 (id := 14) oz0 ?_)
   | (refine yw0 (id := 16) oz2 ?_)
   | (refine yw0 (id := 18) oz6 ?_)
   | (refine yw0 (id := 20) oz2 ?_)
   | (refine yw0 (id := 22) oz1 ?_)
   | (refine yw0 (id := 24) oz1 ?_)
   | (refine yw1 (id := 26) oz7 oz8 ?_)
   | (refine yw1 (id := 32) oz9 oz10 ?_)
   | (refine yw1 (id := 34) oz11 oz3 ?_)
   | (refine yw0 (id := 38) oz12 ?_)
   | (refine yw0 (id := 40) oz4 ?_)
   | (refine yw1 (id := 42) oz13 oz14 ?_)
   | (refine yw0 (id := 43) oz4 ?_)
   | (refine yw1 (id := 45) oz1 oz3 ?_)
   | (refine zs ?_; repeat' first | apply zs0 | apply zs2 | (intro hc; try have hq := dq hc)) | fail
end Go.E
namespace Go.E
open Go.Proofs
set_option maxRecDepth 100000
set_option maxHeartbeats 4000000
theorem zb (bs : List Nat) (H : Heap) (k : Nat) (W v : Int) (ar lv : List V) (a w : List Int) (h : OkArgs k W v a w) (h1 : k ≠ 1) :
  callw X bs 157 [.agg [.int .i64 k, .int .i64 W, .list ar, .int .i64 v], .list (a.map (.int .i64)), .list (w.map (.int .i64)), .list lv] H = some (.int .i64 (applyS k W v a w), H) := by
 obtain ⟨hk, hW1, hW16, hla, hlw, hr, hw, hf, hv, hc⟩ := h
 have hW0 : 0 ≤ W := by omega
 match k, hk, a, hla, w, hlw with
 | 0, _, a, _, w, _ => exact ap_0 bs H W v ar _ _ lv hW0 hW16
 | 1, _, _, _, _, _ => exact absurd rfl h1
 | 2, _, [x], _, [p], _ =>
  have r0 := hr 0 (by decide)
  simp only [fitsS, List.any_cons, List.any_nil, Bool.or_false, Bool.not_eq_true', decide_eq_false_iff_not, Decidable.not_not] at hf
  subst hf
  exact ap_2 bs H p v x ar _ lv hW0 hW16 r0
 | 3, _, [x, y], _, [p, q], _ =>
  have r0 := hr 0 (by decide)
  have r1 := hr 1 (by decide)
  have w0 := hw 0 (by decide)
  have w1 := hw 1 (by decide)
  simp only [aF, dP] at r0 r1 w0 w1
  have e := oK x.toNat y.toNat (gM r0 w0.2) (gM r1 w1.2)
  rw [fj r0.1, fj r1.1] at e
  have := ap_3 bs H W v x y ar [.int .i64 p, .int .i64 q] lv hW0 hW16
  rw [e] at this
  exact this
 | 4, _, [x, y], _, [p, q], _ =>
  have r0 := hr 0 (by decide)
  have r1 := hr 1 (by decide)
  have w0 := hw 0 (by decide)
  have w1 := hw 1 (by decide)
  simp only [aF, dP] at r0 r1 w0 w1
  have e := tG x.toNat y.toNat (gM r0 w0.2) (gM r1 w1.2)
  rw [fj r0.1, fj r1.1] at e
  have := ap_4 bs H W v x y ar [.int .i64 p, .int .i64 q] lv hW0 hW16
  rw [e] at this
  exact this
 | 5, _, [x, y], _, [p, q], _ =>
  have r0 := hr 0 (by decide)
  have r1 := hr 1 (by decide)
  have w0 := hw 0 (by decide)
  have w1 := hw 1 (by decide)
  simp only [aF, dP] at r0 r1 w0 w1
  have e := wl x.toNat y.toNat (gM r0 w0.2) (gM r1 w1.2)
  rw [fj r0.1, fj r1.1] at e
  have := ap_5 bs H W v x y ar [.int .i64 p, .int .i64 q] lv hW0 hW16
  rw [e] at this
  exact this
 | 6, _, [x, y], _, [p, q], _ =>
  have r0 := hr 0 (by decide)
  have r1 := hr 1 (by decide)
  have w0 := hw 0 (by decide)
  have w1 := hw 1 (by decide)
  simp only [aF, dP] at r0 r1 w0 w1
  exact ap_6 bs H W v x y ar _ lv hW0 hW16 (r0.w16 w0.2) (r1.w16 w1.2)
 | 7, _, [x, y], _, [p, q], _ =>
  have r0 := hr 0 (by decide)
  have r1 := hr 1 (by decide)
  simp only [fitsS, List.any_cons, List.any_nil, Bool.or_false, Bool.not_eq_true', Bool.or_eq_false_iff, decide_eq_false_iff_not, Decidable.not_not] at hf
  obtain ⟨rfl, rfl⟩ := hf
  exact ap_7 bs H q v x y ar _ lv hW0 hW16 r0 r1
 | 8, _, [x, y], _, [p, q], _ =>
  have r0 := hr 0 (by decide)
  have r1 := hr 1 (by decide)
  have w0 := hw 0 (by decide)
  have w1 := hw 1 (by decide)
  simp only [aF, dP] at r0 r1 w0 w1
  exact ap_8 bs H W v x y ar _ lv hW0 hW16 (r0.w16 w0.2) (r1.w16 w1.2)
 | 9, _, [x, y], _, [p, q], _ =>
  have := ap_9 bs H W v x y ar [.int .i64 p, .int .i64 q] lv hW0 hW16
  simp only [decide_eq_true_eq] at this
  exact this
 | 10, _, [x, y], _, [p, q], _ =>
  have := Ov bs H W v x y ar [.int .i64 p, .int .i64 q] lv hW0 hW16
  simp only [decide_eq_true_eq] at this
  exact this
 | 11, _, [x, y], _, [p, q], _ =>
  have r0 := hr 0 (by decide)
  have r1 := hr 1 (by decide)
  have w0 := hw 0 (by decide)
  have hf2 : (decide (W = 1) && decide (p = q)) = true := hf
  rw [Bool.and_eq_true] at hf2
  obtain rfl := of_decide_eq_true hf2.2
  simp only [aF, dP] at r0 r1 w0
  have := Ow bs H W v x y p ar lv hW0 hW16 r0 r1 w0.1 w0.2
  simp only [decide_eq_true_eq] at this
  exact this
 | 12, _, [x, y, z], _, [p, q, r], _ => exact Ox bs H W v x y z ar _ lv hW0 hW16
 | 13, _, [x, y], _, [p, q], _ =>
  have r0 := hr 0 (by decide)
  have r1 := hr 1 (by decide)
  have w0 := hw 0 (by decide)
  have w1 := hw 1 (by decide)
  simp only [aF, dP] at r0 r1 w0 w1
  exact Oy bs H W v x y p q ar lv hW0 hW16 (r0.w16 w0.2) r1 (by omega) w1.2
 | 14, _, [x], _, [p], _ =>
  have r0 := hr 0 (by decide)
  have w0 := hw 0 (by decide)
  simp only [aF] at r0 w0
  have hv' := hv rfl
  exact Oz bs H W v x ar _ lv hW0 hW16 (r0.w16 w0.2) hv'.1 (by omega)
 | 15, _, [x], _, [p], _ => exact OA bs H W v x ar _ lv hW0 hW16
 | 16, _, [x], _, [p], _ =>
  have r0 := hr 0 (by decide)
  have w0 := hw 0 (by decide)
  simp only [aF] at r0 w0
  have hf2 : p ≤ W := of_decide_eq_true hf
  exact OB bs H W v x p ar [] lv hW0 hW16 r0 w0.1 hf2
 | 17, _, [x, y], _, [p, q], _ =>
  have r0 := hr 0 (by decide)
  have r1 := hr 1 (by decide)
  have w0 := hw 0 (by decide)
  simp only [aF, dP] at r0 r1 w0
  exact OC bs H W v x y ar _ lv hW0 hW16 (r0.w16 w0.2) r1.1
 | 18, _, [x, y], _, [p, q], _ =>
  have r0 := hr 0 (by decide)
  have r1 := hr 1 (by decide)
  have w0 := hw 0 (by decide)
  simp only [aF, dP] at r0 r1 w0
  exact OD bs H W v x y ar _ lv hW0 hW16 (r0.w16 w0.2) r1.1
 | k + 19, hk, _, _, _, _ => omega
end Go.E
namespace Go.E
open Go.Proofs
set_option maxRecDepth 100000
set_option maxHeartbeats 4000000
theorem Gd {α : Type} (f : α → V) (z : V) (l : List α) (i j : Nat) (x : α) (hj : j < i) (h : l[j]? = some x) : (fill f z l i)[j]? = some (f x) := by
 unfold fill
 have hl := (List.getElem?_eq_some_iff.1 h).1
 rw [List.getElem?_append_left (by simp; omega), List.getElem?_map, List.getElem?_take, if_pos hj, h]; rfl
theorem qu (nodes : List Node) (lv : List Int) (i : Nat) : ∀ k j, j < i → (valsL nodes lv (i + k))[j]? = (valsL nodes lv i)[j]?
 | 0, j, _ => rfl
 | k + 1, j, h => by
  rw [show i + (k + 1) = (i + k) + 1 by omega, valsL, List.getElem?_append_left (by rw [gE]; omega)]
  exact qu nodes lv i k j h
theorem Ce (bs : List Nat) (G : Heap) (b i : Nat) (A : List V) (nodes : List Node) (x : Node) (done : List Int) (hx : nodes[i]? = some x) (hA : G[b]? = some (.arr A 0)) (hal : x.args.length ≤ 1000000)
  (hget : ∀ n ∈ x.args, 0 ≤ n ∧ n < nodes.length ∧ A[n.toNat]? = some (.int .i64 (at0 done n.toNat))) :
  ∀ k ρ H', k ≤ x.args.length → (∃ vs ws, vs = valsOf done (x.args.take k) ∧ ws = widthsOf nodes (x.args.take k) ∧ H' = G ++ [.tok vs.length, .tok ws.length] ∧ ρ 0 = .list (nodes.map encNode) ∧ ρ 5 = .ref 1 b 0 0 nodes.length ∧ ρ 6 = .int .i64 i ∧
    ρ 7 = .tl G.length (vs.map (.int .i64)) ∧ ρ 8 = .tl (G.length + 1) (ws.map (.int .i64)) ∧ ρ 9 = .int .i64 k) →
   Lp X ⟨70, bs⟩ (loopAt Tryz.f76 1) ρ H' fun ex ρ' H' => H' = G ++ [.tok x.args.length, .tok x.args.length] ∧ ex = .exit 2 ∧ ρ' 7 = .tl G.length ((valsOf done x.args).map (.int .i64)) ∧ ρ' 8 = .tl (G.length + 1) ((widthsOf nodes x.args).map (.int .i64)) := by
 have hA2 := iu hA
 clear hA
 refine dH ?_ ?_
 ·rintro k ρ H' hk ⟨vs, ws, hvs, hws, rfl, h0, h5, h6, h7, h8, h9⟩
  have hg : x.args[k]? = some x.args[k] := by simp [hk]
  have hm := hget x.args[k] (List.getElem_mem hk)
  have htk : x.args.take (k + 1) = x.args.take k ++ [x.args[k]] := by rw [List.take_add_one, hg]; rfl
  generalize x.args[k] = n at hg hm htk
  obtain ⟨m, rfl⟩ : ∃ m : Nat, n = m := ⟨n.toNat, by omega⟩
  have hlt : m < nodes.length := by omega
  have hget2 : nodes[m]? = some nodes[m] := by simp [hlt]
  have hgA := hm.2.2
  rw [Int.toNat_natCast] at hgA
  have hsn := iW nodes (x.args.take k) m nodes[m] (by simp)
  have hsv : valsOf done (x.args.take k ++ [(m : Int)]) = valsOf done (x.args.take k) ++ [at0 done m] := by simp [valsOf]
  generalize nodes[m] = y at hget2 hsn
  generalize at0 done m = z at hgA hsv
  have hlen : ws.length = k := by rw [hws]; simp [widthsOf]; omega
  have hlenv : vs.length = k := by rw [hvs]; simp [valsOf]; omega
  have hroom := oG ws.length (by omega)
  have hroomv := oG vs.length (by omega)
  have hw := add1 k x.args.length hk hal
  rw [← hws, ← htk] at hsn
  rw [← hvs, ← htk] at hsv
  replace hws : Kp (ws = widthsOf nodes (x.args.take k)) := ⟨hws⟩
  replace hvs : Kp (vs = valsOf done (x.args.take k)) := ⟨hvs⟩
  replace hsn : Kp (widthsOf nodes (x.args.take (k + 1)) = ws ++ [y.width]) := ⟨hsn⟩
  replace hsv : Kp (valsOf done (x.args.take (k + 1)) = vs ++ [z]) := ⟨hsv⟩
  replace hlen : Kp (ws.length = k) := ⟨hlen⟩
  replace hlenv : Kp (vs.length = k) := ⟨hlenv⟩
  clear htk hm hget
  conv => arg 3; whnf
  repeat' first
   | (refine yw1 (id := 9) oz30 oz31 ?_)
   | (refine zs ?_; repeat' first | apply zs0 | apply zs2 | (intro hc; try have hq := dq hc)) | fail
  exact ⟨vs ++ [z], ws ++ [y.width], hsv.out.symm, hsn.out.symm, by simp, yw3, yw3, yw3, by simp [push_cast], by simp [push_cast], yw3⟩
 ·rintro ρ H' ⟨vs, ws, hvs, hws, rfl, h0, h5, h6, h7, h8, h9⟩
  rw [List.take_length] at hws hvs
  have hlen : ws.length = x.args.length := by rw [hws]; simp [widthsOf]
  have hlenv : vs.length = x.args.length := by rw [hvs]; simp [valsOf]
  replace hws : Kp (ws = widthsOf nodes x.args) := ⟨hws⟩
  replace hvs : Kp (vs = valsOf done x.args) := ⟨hvs⟩
  replace hlen : Kp (ws.length = x.args.length) := ⟨hlen⟩
  replace hlenv : Kp (vs.length = x.args.length) := ⟨hlenv⟩
  clear hget
  conv => arg 3; whnf
  repeat' first
   | (refine yw1 (id := 9) oz30 oz31 ?_)
   | (refine zs ?_; repeat' first | apply zs0 | apply zs2 | (intro hc; try have hq := dq hc)) | fail
  exact ⟨by rw [hlen.out, hlenv.out], rfl, by rw [← hvs.out]; (simp only [seval, push_cast, *] <;> rfl), by rw [← hws.out]; (simp only [seval, push_cast, *] <;> rfl)⟩
theorem Cf {leaves lv : List Int} {nodes : List Node} {i : Nat} {x : Node} (hg : GoodAll leaves nodes) (hl : LeafOk leaves lv) (hx : nodes[i]? = some x) (bs : List Nat) (H : Heap) :
  callw X bs 157 [.agg [.int .i64 x.op, .int .i64 x.width, .list (x.args.map (.int .i64)), .int .i64 x.value], .list ((valsOf (valsL nodes lv i) x.args).map (.int .i64)), .list ((widthsOf nodes x.args).map (.int .i64)), .list (lv.map (.int .i64))] H
   = some (.int .i64 (valN nodes lv (valsL nodes lv i) x), H) := by
 have g := hg i x hx
 have hil := (List.getElem?_eq_some_iff.1 hx).1
 unfold valN
 by_cases h1 : x.op = 1
 ·rw [if_pos h1]
  have hva := g.val
  rw [h1] at hva
  obtain ⟨a, b, c⟩ := oM hva
  have hlr := hl.1
  have h2 : x.value.toNat < lv.length := by omega
  have := ap_1 bs H x.width x.value.toNat lv[x.value.toNat] (x.args.map (.int .i64)) ((valsOf (valsL nodes lv i) x.args).map (.int .i64)) ((widthsOf nodes x.args).map (.int .i64)) lv (by have := g.W1; omega) g.W16 (by simp [h2])
  rw [Int.toNat_of_nonneg a] at this
  rw [h1, fF (l := lv) (i := x.value.toNat) (v := lv[x.value.toNat]) (by simp [h2])]
  exact this
 ·rw [if_neg h1]
  have hok := nR.okArgs hg hl (nR hg hl i (by omega)) hx
  have := zb bs H x.op.toNat x.width x.value (x.args.map (.int .i64)) (lv.map (.int .i64)) _ _ hok (by have := g.op0; omega)
  rw [Int.toNat_of_nonneg g.op0] at this
  exact this
theorem Cg (bs : List Nat) (H : Heap) (t : HObj) (leaves lv : List Int) (nodes : List Node) (hn : nodes.length ≤ 1000) (hal : ∀ x ∈ nodes, x.args.length ≤ 1000000) (hg : GoodAll leaves nodes) (hl : LeafOk leaves lv) :
  ∀ i ρ H', i ≤ nodes.length → (∃ junk, H' = H ++ t :: .arr (fill (V.int .i64) (.int .i64 0) (valsL nodes lv nodes.length) i) 0 :: junk ∧ ρ 0 = .list (nodes.map encNode) ∧ ρ 1 = .list (lv.map (.int .i64)) ∧ ρ 5 = .ref 1 (H.length + 1) 0 0 nodes.length ∧ ρ 6 = .int .i64 i) →
   Lp X ⟨70, bs⟩ (loopAt Tryz.f76 0) ρ H' fun ex ρ' H' => ∃ junk, H' = H ++ t :: .arr ((valsL nodes lv nodes.length).map (.int .i64)) 0 :: junk ∧ ρ' 5 = .ref 1 (H.length + 1) 0 0 nodes.length ∧ ex = .exit 0 := by
 have hvl := gE nodes lv nodes.length
 refine dH ?_ ?_
 ·rintro i ρ H' hi ⟨junk, rfl, h0, h1, h5, h6⟩
  have hget : nodes[i]? = some nodes[i] := by simp [hi]
  have hal' := hal nodes[i] (List.getElem_mem hi)
  have g := hg i nodes[i] hget
  have hap := fun bs H => Cf hg hl hget bs H
  have hsv := sU nodes lv i nodes[i] hget
  have hlen := gE nodes lv i
  have hvi : (valsL nodes lv nodes.length)[i]? = some (valN nodes lv (valsL nodes lv i) nodes[i]) := by
   have := qu nodes lv (i + 1) (nodes.length - (i + 1)) i (by omega)
   rw [show i + 1 + (nodes.length - (i + 1)) = nodes.length by omega] at this
   rw [this, hsv, List.getElem?_append_right (by omega), hlen]; simp
  have hgA : ∀ n ∈ nodes[i].args, 0 ≤ n ∧ n < nodes.length ∧ (fill (V.int .i64) (.int .i64 0) (valsL nodes lv nodes.length) i)[n.toNat]? = some (.int .i64 (at0 (valsL nodes lv i) n.toNat)) := fun n hnm => by
   have h := g.args n hnm
   have hpre := qu nodes lv i (nodes.length - i) n.toNat (by omega)
   rw [show i + (nodes.length - i) = nodes.length by omega] at hpre
   have h3 : n.toNat < (valsL nodes lv i).length := by omega
   refine ⟨h.1, by omega, ?_⟩
   rw [fF (l := valsL nodes lv i) (i := n.toNat) (v := (valsL nodes lv i)[n.toNat]) (by simp [h3])]
   exact Gd _ _ _ _ _ _ (by omega) (by rw [hpre]; simp [h3])
  have hs := ke (V.int .i64) (.int .i64 0) (valsL nodes lv nodes.length) i _ hvi
  have hz := oH (V.int .i64) (.int .i64 0) (valsL nodes lv nodes.length) i (by omega)
  have hw := add1 i nodes.length hi (by omega)
  have hin := fun (bs : List Nat) (ρ : Env) (H' : Heap) => Ce bs (H ++ t :: .arr (fill (V.int .i64) (.int .i64 0) (valsL nodes lv nodes.length) i) 0 :: junk) (H.length + 1) i _ nodes nodes[i] (valsL nodes lv i) hget (by simp) hal' hgA 0 ρ H'
  clear hgA hsv hlen hvi g hg hl hal hal'
  generalize nodes[i] = x at hget hap hs hin
  generalize valN nodes lv (valsL nodes lv i) x = z at hap hs
  generalize valsL nodes lv i = dn at hap hin
  generalize hfi : fill (V.int .i64) (.int .i64 0) (valsL nodes lv nodes.length) i = A at hs hz hin ⊢
  replace hfi : Kp (fill (V.int .i64) (.int .i64 0) (valsL nodes lv nodes.length) i = A) := ⟨hfi⟩
  generalize hfj : fill (V.int .i64) (.int .i64 0) (valsL nodes lv nodes.length) (i + 1) = B at hs ⊢
  clear hfi hvl
  conv => arg 3; whnf
  repeat' first
   | (refine yw1 (id := 9) oz30 oz31 ?_)
   | (refine zs ?_; repeat' first | apply zs0 | apply zs2 | (intro hc; try have hq := dq hc)) | fail
  refine ab (af (c := loopAt Tryz.f76 1) rfl (hin _ _ _ (by omega) ⟨[], [], rfl, rfl, by simp, yw3, yw3, yw3, by simp [push_cast], by (simp [push_cast]; omega), yw3⟩)) ?_
  rintro ex ρ' H' ⟨hH, rfl, h7, h8⟩ hf
  have f0 := hf 0 rfl
  have f1 := hf 1 rfl
  have f5 := hf 5 rfl
  have f6 := hf 6 rfl
  simp only [seval, push_cast, h0, h1, h5, h6] at f0 f1 f5 f6
  rw [List.append_assoc, List.cons_append, List.cons_append] at hH
  subst hH
  clear hin hf
  repeat' first
   | (refine yw1 (id := 9) oz30 oz31 ?_)
   | (refine zs ?_; repeat' first | apply zs0 | apply zs2 | (intro hc; try have hq := dq hc)) | fail
  exact ⟨_, rfl, yw3, yw3, yw3, yw3⟩
 ·rintro ρ H' ⟨junk, rfl, h0, h1, h5, h6⟩
  rw [show fill (V.int .i64) (.int .i64 0) (valsL nodes lv nodes.length) nodes.length = (valsL nodes lv nodes.length).map (.int .i64) by rw [← oI (V.int .i64) (.int .i64 0), hvl]]
  clear hg hl hal
  conv => arg 3; whnf
  repeat' first
   | (refine yw1 (id := 9) oz30 oz31 ?_)
   | (refine zs ?_; repeat' first | apply zs0 | apply zs2 | (intro hc; try have hq := dq hc)) | fail
  exact ⟨junk, rfl, yw3, rfl⟩
theorem kS (bs : List Nat) (H : Heap) (leaves lv : List Int) (nodes : List Node) (hn : nodes.length ≤ 1000) (hal : ∀ x ∈ nodes, x.args.length ≤ 1000000) (hg : GoodAll leaves nodes) (hl : LeafOk leaves lv) : callw X bs 76 [.list (nodes.map encNode), .list (lv.map (.int .i64))] H = some (.list ((valsL nodes lv nodes.length).map (.int .i64)), H) := by
 refine yw2 (rs := [.tmp 4]) (N := 70) (fn := Tryz.f76) xk76 xf76 ?_
 have hloop := fun (bs : List Nat) (t : HObj) (ρ : Env) => Cg bs H t leaves lv nodes hn hal hg hl 0 ρ
 have hvl := gE nodes lv nodes.length
 have h1 := je (n := nodes.length) (k := 8) (by omega) (by omega)
 have h2 := oJ (n := nodes.length) (by omega)
 have h3 := sQ (V.int .i64) (.int .i64 0) (valsL nodes lv nodes.length)
 rw [hvl] at h3
 replace h3 : Kp (fill (V.int .i64) (.int .i64 0) (valsL nodes lv nodes.length) 0 = List.replicate nodes.length (.int .i64 0)) := ⟨h3⟩
 replace hvl : Kp ((valsL nodes lv nodes.length).length = nodes.length) := ⟨hvl⟩
 clear hal hg hl
 repeat' first
  | (refine yw1 (id := 9) oz30 oz31 ?_)
  | (refine zs ?_; repeat' first | apply zs0 | apply zs2 | (intro hc; try have hq := dq hc)) | fail
 refine ab (af (c := loopAt Tryz.f76 0) rfl (hloop _ _ _ _ (by omega) ⟨[], by rw [h3.out], yw3, yw3, yw3, yw3⟩)) ?_
 rintro ex ρ' H' ⟨junk, rfl, f5, rfl⟩ hf
 rw [← hvl.out] at f5
 clear hloop hvl h1 h2 h3 hf hn
 generalize valsL nodes lv nodes.length = vals at f5 ⊢
 repeat' first
  | (refine yw1 (id := 9) oz30 oz31 ?_)
  | (refine zs ?_; repeat' first | apply zs0 | apply zs2 | (intro hc; try have hq := dq hc)) | fail
end Go.E
set_option linter.all false
namespace Go.E
open Go.Proofs Classical
set_option maxRecDepth 100000
set_option maxHeartbeats 4000000
noncomputable section
def ew (F : Nat) (a : List Int) (b : List Int) : Nat → Nat → Option (Oc (Bool) (Unit))
 | 0, _ => none
 | k + 1, s2 => (if (decide ((s2 : Int) < (a.length : Int))) = true then ((a[s2]?).bind fun x5 => ((b[s2]?).bind fun x6 => (if (decide (¬x5 = x6)) = true then some (.a false) else (if inI ((s2 : Int) + 1) then ew F a b k (s2 + 1) else none)))) else some (.b ()))
theorem rb (bs : List Nat) (H : Heap) (F : Nat) (a : List Int) (b : List Int) : ∀ k s r ρ H', (∃ J3, H' = H ++ J3 ∧ ρ 0 = .list (a.map (V.int .i64)) ∧ ρ 1 = .list (b.map (V.int .i64)) ∧ ρ 5 = .int .i64 (s : Int)) → ew F a b k s = some r → Lp X ⟨26, H.length :: bs⟩ (loopAt Tryz.f26 0) ρ H' ((fun r ex ρ H' => match r with | .a r => ∃ J3, H' = H ++ J3 ∧ ex = .ret ∧ ρ 4 = .bool r | .b r => ∃ J3, H' = H ++ J3 ∧ ex = .exit 0) r) := by
 refine ac (fun _ => rfl) ?_
 rintro k s2 r ρ H' ⟨J3, hH, h0, h1, h5⟩ hR
 skip
 subst hH
 rw [ew] at hR
 conv => arg 3; whnf
 try refine zw ?_
 rcases iteE hR with ⟨c4, hR⟩ | ⟨c4, hR⟩
 ·obtain ⟨x5, x5_e, hR⟩ := bindE hR
  obtain ⟨x6, x6_e, hR⟩ := bindE hR
  try refine zu ?_
  (refine yw0 (id := 6) oz1 ?_)
  try refine zw ?_
  rcases iteE hR with ⟨c7, hR⟩ | ⟨c7, hR⟩
  ·obtain rfl := someE hR
   refine zu ?_
   exact ⟨_, hq, rfl, sl⟩
  ·obtain ⟨g8, hR⟩ := grdE hR
   have g8_w := ae g8
   refine zu ?_
   exact ⟨(s2 + 1), ⟨_, hq, sl, sl, sl⟩, hR.out⟩
 ·obtain rfl := someE hR
  refine zu ?_
  exact ⟨_, hq, rfl⟩
def eC (F : Nat) (a : List Int) (b : List Int) : List Int → Nat → Unit → Option (Oc (Bool) (Unit))
 | [], s2, _ => some (.b ())
 | x_ :: r_, s2, _ => ((b[s2]?).bind fun x6 => (if (decide (¬x_ = x6)) = true then some (.a false) else eC F a b r_ (s2 + 1) ()))
theorem kN (F : Nat) (a : List Int) (b : List Int) (hl_ : a.length ≤ 1000000) : ∀ r_ i_ k_ (o_ : Unit), a.drop i_ = r_ → r_.length < k_ → ew F a b k_ i_ = eC F a b r_ i_ o_
 | _, _, 0, _, _, hk => absurd hk (Nat.not_lt_zero _)
 | [], i_, k_ + 1, _, hd, _ => by rw [ew, eC]; simp only [aj hd, Bool.false_eq_true, if_false]
 | x_ :: r_, i_, k_ + 1, _, hd, hk => by
  have ih := kN F a b hl_ r_ (i_ + 1) k_ () (ah hd) (Nat.lt_of_succ_lt_succ hk)
  rw [ew, eC]; simp only [az hd, ap hd, if_pos (aC hd hl_), Option.bind_some, if_true, ih]
def ey (F : Nat) (a : List Int) (b : List Int) : Option (Bool) := (if (decide (¬(a.length : Int) = (b.length : Int))) = true then some false else ((ew F a b F 0).bind fun o9 => match o9 with | .a o10 => some o10 | .b o12 => some true))
theorem kh (bs : List Nat) (H : Heap) (F : Nat) (a : List Int) (b : List Int) (R : Bool) (hR0 : ey F a b = some R) : callw X bs 26 [.list (a.map (V.int .i64)), .list (b.map (V.int .i64))] H = some (.bool R, H) := by
 refine yw2 (rs := [.tmp 4]) (N := 26) (fn := Tryz.f26) xk26 xf26 ?_
 have hR := Kp.mk hR0
 clear hR0
 rw [ey] at hR
 try refine zw ?_
 rcases iteE hR with ⟨c1, hR⟩ | ⟨c1, hR⟩
 ·obtain rfl := someE hR
  exact zv
 ·obtain ⟨o9, o9_e, hR⟩ := bindE hR
  refine zu ?_
  refine ab (af (c := (loopAt Tryz.f26 0)) rfl (rb _ H F a b _ 0 o9 _ _ ⟨[], by simp, sl, sl, sl⟩ o9_e)) ?_
  rcases o9 with o10 | o12
  ·rintro ex ρ' H' ⟨J11, rfl, rfl, q4_o10⟩ hf
   clear hf
   obtain rfl := someE hR
   exact zv
  ·rintro ex ρ' H' ⟨J13, rfl, rfl⟩ hf
   clear hf
   obtain rfl := someE hR
   exact zv
def dR (F : Nat) (a : List (List Int)) (b : List (List Int)) : Nat → Nat → Option (Oc (Bool) (Unit))
 | 0, _ => none
 | k + 1, s2 => (if (decide ((s2 : Int) < (a.length : Int))) = true then ((a[s2]?).bind fun x5 => ((b[s2]?).bind fun x6 => ((ey F x5 x6).bind fun y7 => (if y7 = true then (if inI ((s2 : Int) + 1) then dR F a b k (s2 + 1) else none) else some (.a false))))) else some (.b ()))
theorem qv (bs : List Nat) (H : Heap) (F : Nat) (a : List (List Int)) (b : List (List Int)) : ∀ k s r ρ H', (∃ J3, H' = H ++ J3 ∧ ρ 0 = .list (a.map encInts) ∧ ρ 1 = .list (b.map encInts) ∧ ρ 5 = .int .i64 (s : Int)) → dR F a b k s = some r → Lp X ⟨27, H.length :: bs⟩ (loopAt Tryz.f24 0) ρ H' ((fun r ex ρ H' => match r with | .a r => ∃ J3, H' = H ++ J3 ∧ ex = .ret ∧ ρ 4 = .bool r | .b r => ∃ J3, H' = H ++ J3 ∧ ex = .exit 0) r) := by
 refine ac (fun _ => rfl) ?_
 rintro k s2 r ρ H' ⟨J3, hH, h0, h1, h5⟩ hR
 skip
 subst hH
 rw [dR] at hR
 conv => arg 3; whnf
 try refine zw ?_
 rcases iteE hR with ⟨c4, hR⟩ | ⟨c4, hR⟩
 ·obtain ⟨x5, x5_e, hR⟩ := bindE hR
  obtain ⟨x6, x6_e, hR⟩ := bindE hR
  obtain ⟨y7, y7_e, hR⟩ := bindE hR
  have y7_k := fun bs H => kh bs H F x5 x6 y7 y7_e
  try refine zu ?_
  (refine yw0 (id := 6) oz2 ?_)
  try refine zw ?_
  clear y7_k
  rcases iteE hR with ⟨c8, hR⟩ | ⟨c8, hR⟩
  ·obtain ⟨g9, hR⟩ := grdE hR
   have g9_w := ae g9
   refine zu ?_
   exact ⟨(s2 + 1), ⟨_, hq, sl, sl, sl⟩, hR.out⟩
  ·obtain rfl := someE hR
   refine zu ?_
   exact ⟨_, hq, rfl, sl⟩
 ·obtain rfl := someE hR
  refine zu ?_
  exact ⟨_, hq, rfl⟩
def fc (F : Nat) (a : List (List Int)) (b : List (List Int)) : List (List Int) → Nat → Unit → Option (Oc (Bool) (Unit))
 | [], s2, _ => some (.b ())
 | x_ :: r_, s2, _ => ((b[s2]?).bind fun x6 => ((ey F x_ x6).bind fun y7 => (if y7 = true then fc F a b r_ (s2 + 1) () else some (.a false))))
theorem jU (F : Nat) (a : List (List Int)) (b : List (List Int)) (hl_ : a.length ≤ 1000000) : ∀ r_ i_ k_ (o_ : Unit), a.drop i_ = r_ → r_.length < k_ → dR F a b k_ i_ = fc F a b r_ i_ o_
 | _, _, 0, _, _, hk => absurd hk (Nat.not_lt_zero _)
 | [], i_, k_ + 1, _, hd, _ => by rw [dR, fc]; simp only [aj hd, Bool.false_eq_true, if_false]
 | x_ :: r_, i_, k_ + 1, _, hd, hk => by
  have ih := jU F a b hl_ r_ (i_ + 1) k_ () (ah hd) (Nat.lt_of_succ_lt_succ hk)
  rw [dR, fc]; simp only [az hd, ap hd, if_pos (aC hd hl_), Option.bind_some, if_true, ih]
def gT (F : Nat) (a : List (List Int)) (b : List (List Int)) : Option (Bool) := (if (decide (¬(a.length : Int) = (b.length : Int))) = true then some false else ((dR F a b F 0).bind fun o10 => match o10 with | .a o11 => some o11 | .b o13 => some true))
theorem tg (bs : List Nat) (H : Heap) (F : Nat) (a : List (List Int)) (b : List (List Int)) (R : Bool) (hR0 : gT F a b = some R) : callw X bs 24 [.list (a.map encInts), .list (b.map encInts)] H = some (.bool R, H) := by
 refine yw2 (rs := [.tmp 4]) (N := 27) (fn := Tryz.f24) xk24 xf24 ?_
 have hR := Kp.mk hR0
 clear hR0
 rw [gT] at hR
 try refine zw ?_
 rcases iteE hR with ⟨c1, hR⟩ | ⟨c1, hR⟩
 ·obtain rfl := someE hR
  exact zv
 ·obtain ⟨o10, o10_e, hR⟩ := bindE hR
  refine zu ?_
  refine ab (af (c := (loopAt Tryz.f24 0)) rfl (qv _ H F a b _ 0 o10 _ _ ⟨[], by simp, sl, sl, sl⟩ o10_e)) ?_
  rcases o10 with o11 | o13
  ·rintro ex ρ' H' ⟨J12, rfl, rfl, q4_o11⟩ hf
   clear hf
   obtain rfl := someE hR
   exact zv
  ·rintro ex ρ' H' ⟨J14, rfl, rfl⟩ hf
   clear hf
   obtain rfl := someE hR
   exact zv
def dB (F : Nat) (d : Desg) : Nat → (Nat × (List Int)) → Option ((List Int))
 | 0, _ => none
 | k + 1, (s8, s9) => (if (decide ((s8 : Int) < (d.elements.length : Int))) = true then ((d.elements[s8]?).bind fun x12 => ((s9[s8]?).bind fun x13 => (if inI ((s8 : Int) + 1) then dB F d k ((s8 + 1), (s9.set s8 x12.init)) else none))) else some s9)
theorem pM (bs : List Nat) (H : Heap) (F : Nat) (d : Desg) : ∀ k s r ρ H', (∃ J10, H' = H ++ .cells [.str d.name, .list (d.inputs.map encPort), .list (d.elements.map encElem), .list (d.nodes.map encNode), .list (d.rules.map encRul), .list (d.outs.map encOutp), .list (d.attrs.map encAttr)] :: .tok 0 :: .arr (s.2.map (V.int .i64)) 0 :: J10 ∧ ρ 1 = .ptr H.length 0 ∧ ρ 3 = .ref 1 (H.length + 2) 0 0 d.elements.length ∧ ρ 4 = .int .i64 (s.1 : Int) ∧ Kp (s.2.length = d.elements.length)) → dB F d k s = some r → Lp X ⟨26, H.length :: bs⟩ (loopAt Tryz.f44 0) ρ H' ((fun r ex ρ H' => ∃ J10, H' = H ++ .cells [.str d.name, .list (d.inputs.map encPort), .list (d.elements.map encElem), .list (d.nodes.map encNode), .list (d.rules.map encRul), .list (d.outs.map encOutp), .list (d.attrs.map encAttr)] :: .tok 0 :: .arr (r.map (V.int .i64)) 0 :: J10 ∧ ex = .exit 0 ∧ Kp (r.length = d.elements.length)) r) := by
 refine ac (fun _ => rfl) ?_
 rintro k ⟨s8, s9⟩ r ρ H' ⟨J10, hH, h1, h3, h4, hl0⟩ hR
 simp only at hH h1 h3 h4 hl0
 subst hH
 rw [dB] at hR
 conv => arg 3; whnf
 try refine zw ?_
 rcases iteE hR with ⟨c11, hR⟩ | ⟨c11, hR⟩
 ·obtain ⟨x12, x12_e, hR⟩ := bindE hR
  obtain ⟨x13, x13_e, hR⟩ := bindE hR
  have x13_l : s8 < d.elements.length := Nat.lt_of_lt_of_eq (aa x13_e) hl0.out
  obtain ⟨g14, hR⟩ := grdE hR
  have g14_w := ae g14
  refine zu ?_
  exact ⟨((s8 + 1), (s9.set s8 x12.init)), ⟨_, hq, sl, sl, sl, ⟨(List.length_set.trans hl0.out)⟩⟩, hR.out⟩
 ·obtain rfl := someE hR
  refine zu ?_
  exact ⟨_, hq, rfl, ⟨hl0.out⟩⟩
def cu (F : Nat) (d : Desg) : List Elem → Nat → (List Int) → Option ((List Int))
 | [], s8, s9 => some s9
 | x_ :: r_, s8, s9 => ((s9[s8]?).bind fun x13 => cu F d r_ (s8 + 1) (s9.set s8 x_.init))
theorem jO (F : Nat) (d : Desg) (hl_ : d.elements.length ≤ 1000000) : ∀ r_ i_ k_ (o_ : (List Int)), d.elements.drop i_ = r_ → r_.length < k_ → dB F d k_ (i_, o_) = cu F d r_ i_ o_
 | _, _, 0, _, _, hk => absurd hk (Nat.not_lt_zero _)
 | [], i_, k_ + 1, s9, hd, _ => by rw [dB, cu]; simp only [aj hd, Bool.false_eq_true, if_false]
 | x_ :: r_, i_, k_ + 1, s9, hd, hk => by
  have ih := fun o_ => jO F d hl_ r_ (i_ + 1) k_ o_ (ah hd) (Nat.lt_of_succ_lt_succ hk)
  rw [dB, cu]; simp only [az hd, ap hd, if_pos (aC hd hl_), Option.bind_some, if_true, ih]
def gx (F : Nat) (d : Desg) : Option ((List Int)) := (if d.elements.length ≤ 1000000 then ((dB F d F (0, (List.replicate d.elements.length 0))).bind fun o16 => some o16) else none)
theorem se (bs : List Nat) (H : Heap) (F : Nat) (d : Desg) (R : (List Int)) (hR0 : gx F d = some R) : callw X bs 44 [(encDesg d)] H = some (.list (R.map (V.int .i64)), H) := by
 refine yw2 (rs := [.tmp 2]) (N := 26) (fn := Tryz.f44) xk44 xf44 ?_
 have hR := Kp.mk hR0
 clear hR0
 rw [gx] at hR
 (try simp only [cellsDesg, encDesg, encInts])
 obtain ⟨g1, hR⟩ := grdE hR
 have g1_r := iq (n := d.elements.length) (k := 8) g1 (by omega)
 have g1_i := GQ (n := d.elements.length) g1
 obtain ⟨o16, o16_e, hR⟩ := bindE hR
 refine zu ?_
 refine ab (af (c := (loopAt Tryz.f44 0)) rfl (pM _ H F d _ (0, (List.replicate d.elements.length 0)) o16 _ _ ⟨_, hq, sl, sl, sl, ⟨List.length_replicate⟩⟩ o16_e)) ?_
 rintro ex ρ' H' ⟨J17, rfl, rfl, hl_o16_0⟩ hf
 have q3_o16 : ρ' 3 = .ref 1 (H.length + 2) 0 0 d.elements.length := (hf 3 rfl).trans (sl)
 clear hf
 obtain rfl := someE hR
 have rt0 := fI (V.int .i64) (l := o16) (n := d.elements.length) hl_o16_0.out
 have rt1 := ij (l := o16) (n := d.elements.length) hl_o16_0.out
 exact zv
def dS (F : Nat) (d : Desg) : Nat → (Nat × (List Int)) → Option ((List Int))
 | 0, _ => none
 | k + 1, (s11, s12) => (if (decide ((s11 : Int) < (d.elements.length : Int))) = true then ((d.elements[s11]?).bind fun x15 => (if (decide (x15.kind = 1)) = true then ((s12[s11]?).bind fun x18 => (if inI ((s11 : Int) + 1) then dS F d k ((s11 + 1), (s12.set s11 x15.init)) else none)) else (if inI ((s11 : Int) + 1) then dS F d k ((s11 + 1), s12) else none))) else some s12)
theorem qw (bs : List Nat) (H : Heap) (F : Nat) (d : Desg) (state : List Int) : ∀ k s r ρ H', (∃ J13, H' = H ++ .cells [.str d.name, .list (d.inputs.map encPort), .list (d.elements.map encElem), .list (d.nodes.map encNode), .list (d.rules.map encRul), .list (d.outs.map encOutp), .list (d.attrs.map encAttr)] :: .tok 0 :: .arr (s.2.map (V.int .i64)) 0 :: J13 ∧ ρ 2 = .ptr H.length 0 ∧ ρ 5 = .ref 1 (H.length + 2) 0 0 state.length ∧ ρ 6 = .int .i64 (s.1 : Int) ∧ Kp (s.2.length = state.length)) → dS F d k s = some r → Lp X ⟨33, H.length :: bs⟩ (loopAt Tryz.f45 0) ρ H' ((fun r ex ρ H' => ∃ J13, H' = H ++ .cells [.str d.name, .list (d.inputs.map encPort), .list (d.elements.map encElem), .list (d.nodes.map encNode), .list (d.rules.map encRul), .list (d.outs.map encOutp), .list (d.attrs.map encAttr)] :: .tok 0 :: .arr (r.map (V.int .i64)) 0 :: J13 ∧ ex = .exit 0 ∧ Kp (r.length = state.length)) r) := by
 refine ac (fun _ => rfl) ?_
 rintro k ⟨s11, s12⟩ r ρ H' ⟨J13, hH, h2, h5, h6, hl0⟩ hR
 simp only at hH h2 h5 h6 hl0
 subst hH
 rw [dS] at hR
 conv => arg 3; whnf
 try refine zw ?_
 rcases iteE hR with ⟨c14, hR⟩ | ⟨c14, hR⟩
 ·obtain ⟨x15, x15_e, hR⟩ := bindE hR
  try refine zw ?_
  rcases iteE hR with ⟨c16, hR⟩ | ⟨c16, hR⟩
  ·obtain ⟨x18, x18_e, hR⟩ := bindE hR
   have x18_l : s11 < state.length := Nat.lt_of_lt_of_eq (aa x18_e) hl0.out
   obtain ⟨g19, hR⟩ := grdE hR
   have g19_w := ae g19
   refine zu ?_
   exact ⟨((s11 + 1), (s12.set s11 x15.init)), ⟨_, hq, sl, sl, sl, ⟨(List.length_set.trans hl0.out)⟩⟩, hR.out⟩
  ·obtain ⟨g20, hR⟩ := grdE hR
   have g20_w := ae g20
   refine zu ?_
   exact ⟨((s11 + 1), s12), ⟨_, hq, sl, sl, sl, ⟨hl0.out⟩⟩, hR.out⟩
 ·obtain rfl := someE hR
  refine zu ?_
  exact ⟨_, hq, rfl, ⟨hl0.out⟩⟩
def kO (F : Nat) (d : Desg) : List Elem → Nat → (List Int) → Option ((List Int))
 | [], s11, s12 => some s12
 | x_ :: r_, s11, s12 => (if (decide (x_.kind = 1)) = true then ((s12[s11]?).bind fun x18 => kO F d r_ (s11 + 1) (s12.set s11 x_.init)) else kO F d r_ (s11 + 1) s12)
def ec (F : Nat) (d : Desg) (state : List Int) : Nat → Nat → Option (Unit)
 | 0, _ => none
 | k + 1, s24 => (if (decide ((s24 : Int) < (d.elements.length : Int))) = true then ((d.elements[s24]?).bind fun x27 => (if (decide (x27.kind = 1)) = true then ((state[s24]?).bind fun x30 => none) else (if inI ((s24 : Int) + 1) then ec F d state k (s24 + 1) else none))) else some ())
theorem pd (bs : List Nat) (H : Heap) (F : Nat) (d : Desg) (state : List Int) : ∀ k s r ρ H', (∃ J25, H' = H ++ .cells [.str d.name, .list (d.inputs.map encPort), .list (d.elements.map encElem), .list (d.nodes.map encNode), .list (d.rules.map encRul), .list (d.outs.map encOutp), .list (d.attrs.map encAttr)] :: .tok 0 :: J25 ∧ ρ 2 = .ptr H.length 0 ∧ ρ 5 = .list (state.map (V.int .i64)) ∧ ρ 6 = .int .i64 (s : Int)) → ec F d state k s = some r → Lp X ⟨33, H.length :: bs⟩ (loopAt Tryz.f45 0) ρ H' ((fun r ex ρ H' => ∃ J25, H' = H ++ .cells [.str d.name, .list (d.inputs.map encPort), .list (d.elements.map encElem), .list (d.nodes.map encNode), .list (d.rules.map encRul), .list (d.outs.map encOutp), .list (d.attrs.map encAttr)] :: .tok 0 :: J25 ∧ ex = .exit 0) r) := by
 refine ac (fun _ => rfl) ?_
 rintro k s24 r ρ H' ⟨J25, hH, h2, h5, h6⟩ hR
 skip
 subst hH
 rw [ec] at hR
 conv => arg 3; whnf
 try refine zw ?_
 rcases iteE hR with ⟨c26, hR⟩ | ⟨c26, hR⟩
 ·obtain ⟨x27, x27_e, hR⟩ := bindE hR
  try refine zw ?_
  rcases iteE hR with ⟨c28, hR⟩ | ⟨c28, hR⟩
  ·obtain ⟨x30, x30_e, hR⟩ := bindE hR
   exact nomatch hR.out
  ·obtain ⟨g31, hR⟩ := grdE hR
   have g31_w := ae g31
   refine zu ?_
   exact ⟨(s24 + 1), ⟨_, hq, sl, sl, sl⟩, hR.out⟩
 ·obtain rfl := someE hR
  refine zu ?_
  exact ⟨_, hq, rfl⟩
def pf (F : Nat) (d : Desg) (state : List Int) : List Elem → Nat → Unit → Option (Unit)
 | [], s24, _ => some ()
 | x_ :: r_, s24, _ => (if (decide (x_.kind = 1)) = true then ((state[s24]?).bind fun x30 => none) else pf F d state r_ (s24 + 1) ())
def eH (F : Nat) (d : Desg) (state : List Int) : Option ((List Int)) := (if state.length ≤ 1000000 then (if (decide (0 < state.length)) = true then ((dS F d F (0, state)).bind fun o22 => some o22) else ((ec F d state F 0).bind fun o33 => some state)) else none)
theorem nk (bs : List Nat) (H : Heap) (F : Nat) (d : Desg) (state : List Int) (R : (List Int)) (hR0 : eH F d state = some R) : callw X bs 45 [(encDesg d), .list (state.map (V.int .i64))] H = some (.list (R.map (V.int .i64)), H) := by
 refine yw2 (rs := [.tmp 4]) (N := 33) (fn := Tryz.f45) xk45 xf45 ?_
 have hR := Kp.mk hR0
 clear hR0
 rw [eH] at hR
 (try simp only [cellsDesg, encDesg, encInts])
 obtain ⟨g1, hR⟩ := grdE hR
 rcases iteE hR with ⟨c2, hR⟩ | ⟨c2, hR⟩
 ·have c2_p := uv state (of_decide_eq_true c2) g1
  obtain ⟨o22, o22_e, hR⟩ := bindE hR
  refine zu ?_
  refine ab (af (c := (loopAt Tryz.f45 0)) rfl (qw _ H F d state _ (0, state) o22 _ _ ⟨_, hq, sl, sl, sl, ⟨rfl⟩⟩ o22_e)) ?_
  rintro ex ρ' H' ⟨J23, rfl, rfl, hl_o22_0⟩ hf
  have q5_o22 : ρ' 5 = .ref 1 (H.length + 2) 0 0 state.length := (hf 5 rfl).trans (sl)
  clear hf
  obtain rfl := someE hR
  have rt0 := fI (V.int .i64) (l := o22) (n := state.length) hl_o22_0.out
  have rt1 := ij (l := o22) (n := state.length) hl_o22_0.out
  exact zv
 ·have c2_p := uw state (of_decide_eq_false c2)
  have c2_k := fun bs H => kw bs H state g1
  obtain ⟨o33, o33_e, hR⟩ := bindE hR
  refine zu ?_
  refine ab (af (c := (loopAt Tryz.f45 0)) rfl (pd _ H F d state _ 0 o33 _ _ ⟨_, hq, sl, sl, sl⟩ o33_e)) ?_
  clear c2_k
  rintro ex ρ' H' ⟨J34, rfl, rfl⟩ hf
  have q5_o33 : ρ' 5 = .list (state.map (V.int .i64)) := (hf 5 rfl).trans (sl)
  clear hf
  obtain rfl := someE hR
  exact zv
def dG (F : Nat) (d : Desg) (rule : Int) (inputs : List Int) (state : List Int) : Option (Bool) := ((idxI d.rules rule).bind fun x1 => (if inputs.length + state.length ≤ 1000000 then (if d.nodes.length ≤ 1000 then (if ∀ x ∈ d.nodes, x.args.length ≤ 1000000 then (if ∃ ws, GoodAll ws d.nodes ∧ LeafOk ws (inputs ++ state) then ((idxI (valsL d.nodes (inputs ++ state) d.nodes.length) x1.guard).bind fun x8 => some (decide (x8 = 1))) else none) else none) else none) else none))
theorem rc (bs : List Nat) (H : Heap) (F : Nat) (d : Desg) (rule : Int) (inputs : List Int) (state : List Int) (R : Bool) (hR0 : dG F d rule inputs state = some R) : callw X bs 25 [(encDesg d), .int .i64 rule, .list (inputs.map (V.int .i64)), .list (state.map (V.int .i64))] H = some (.bool R, H) := by
 refine yw2 (rs := [.tmp 8]) (N := 24) (fn := Tryz.f25) xk25 xf25 ?_
 have hR := Kp.mk hR0
 clear hR0
 rw [dG] at hR
 (try simp only [cellsDesg, encDesg, encInts])
 obtain ⟨x1, x1_e, hR⟩ := bindE hR
 obtain ⟨x1_p, x1_e⟩ := idxE x1_e
 obtain ⟨g2, hR⟩ := grdE hR
 have k3_k := fun bs H => tA bs H inputs state g2
 obtain ⟨g4, hR⟩ := grdE hR
 obtain ⟨g5, hR⟩ := grdE hR
 obtain ⟨g6, hR⟩ := grdE hR
 have k7_k := fun bs H => kS bs H _ (inputs ++ state) d.nodes g4 g5 (Classical.choose_spec g6).1 (Classical.choose_spec g6).2
 obtain ⟨x8, x8_e, hR⟩ := bindE hR
 obtain ⟨x8_p, x8_e⟩ := idxE x8_e
 obtain rfl := someE hR
 try refine zu ?_
 (refine yw1 (id := 1) [0, 1, 2, 3, 6, 7, 8, 9, 10, 11, 4, 5, 12, 13, 14, 15] [(1, 10), (5, 10), (5, 11), (9, 10), (9, 11)] ?_)
 exact zv
def cv (F : Nat) (d : Desg) (inputs : List Int) (state : List Int) (x9 : Rul) : Nat → (Nat × (List Int)) → Option ((List Int))
 | 0, _ => none
 | k + 1, (s22, s24) => (if (decide ((s22 : Int) < (x9.writes.length : Int))) = true then ((x9.writes[s22]?).bind fun x27 => ((idxI (valsL d.nodes (inputs ++ state) d.nodes.length) x27.cond).bind fun x28 => (if (decide (x28 = 1)) = true then ((idxI (valsL d.nodes (inputs ++ state) d.nodes.length) x27.value).bind fun x32 => ((idxI s24 x27.element).bind fun x33 => (if inI ((s22 : Int) + 1) then cv F d inputs state x9 k ((s22 + 1), (s24.set x27.element.toNat x32)) else none))) else (if inI ((s22 : Int) + 1) then cv F d inputs state x9 k ((s22 + 1), s24) else none)))) else some s24)
theorem nX (bs : List Nat) (H : Heap) (F : Nat) (d : Desg) (inputs : List Int) (state : List Int) (x9 : Rul) (a23 : HObj) : ∀ k s r ρ H', (∃ J25, H' = H ++ a23 :: .tok 0 :: .arr (s.2.map (V.int .i64)) 0 :: J25 ∧ ρ 9 = .list ((valsL d.nodes (inputs ++ state) d.nodes.length).map (V.int .i64)) ∧ ρ 10 = .ref 1 (H.length + 2) 0 0 state.length ∧ ρ 11 = .list (x9.writes.map encWri) ∧ ρ 12 = .int .i64 (s.1 : Int) ∧ Kp (s.2.length = state.length)) → cv F d inputs state x9 k s = some r → Lp X ⟨58, H.length :: bs⟩ (loopAt Tryz.f27 0) ρ H' ((fun r ex ρ H' => ∃ J25, H' = H ++ a23 :: .tok 0 :: .arr (r.map (V.int .i64)) 0 :: J25 ∧ ex = .exit 0 ∧ Kp (r.length = state.length)) r) := by
 refine ac (fun _ => rfl) ?_
 rintro k ⟨s22, s24⟩ r ρ H' ⟨J25, hH, h9, h10, h11, h12, hl0⟩ hR
 simp only at hH h9 h10 h11 h12 hl0
 subst hH
 rw [cv] at hR
 conv => arg 3; whnf
 try refine zw ?_
 rcases iteE hR with ⟨c26, hR⟩ | ⟨c26, hR⟩
 ·obtain ⟨x27, x27_e, hR⟩ := bindE hR
  obtain ⟨x28, x28_e, hR⟩ := bindE hR
  obtain ⟨x28_p, x28_e⟩ := idxE x28_e
  try refine zw ?_
  rcases iteE hR with ⟨c29, hR⟩ | ⟨c29, hR⟩
  ·obtain ⟨x32, x32_e, hR⟩ := bindE hR
   obtain ⟨x32_p, x32_e⟩ := idxE x32_e
   obtain ⟨x33, x33_e, hR⟩ := bindE hR
   obtain ⟨x33_p, x33_e⟩ := idxE x33_e
   have x33_l : x27.element.toNat < state.length := Nat.lt_of_lt_of_eq (aa x33_e) hl0.out
   obtain ⟨g34, hR⟩ := grdE hR
   have g34_w := ae g34
   try refine zu ?_
   (refine yw0 (id := 8) oz54 ?_)
   try refine zu ?_
   exact ⟨((s22 + 1), (s24.set x27.element.toNat x32)), ⟨_, hq, sl, sl, sl, sl, ⟨(List.length_set.trans hl0.out)⟩⟩, hR.out⟩
  ·obtain ⟨g35, hR⟩ := grdE hR
   have g35_w := ae g35
   refine zu ?_
   exact ⟨((s22 + 1), s24), ⟨_, hq, sl, sl, sl, sl, ⟨hl0.out⟩⟩, hR.out⟩
 ·obtain rfl := someE hR
  refine zu ?_
  exact ⟨_, hq, rfl, ⟨hl0.out⟩⟩
def js (F : Nat) (d : Desg) (inputs : List Int) (state : List Int) (x9 : Rul) : List Wri → Nat → (List Int) → Option ((List Int))
 | [], s22, s24 => some s24
 | x_ :: r_, s22, s24 => ((idxI (valsL d.nodes (inputs ++ state) d.nodes.length) x_.cond).bind fun x28 => (if (decide (x28 = 1)) = true then ((idxI (valsL d.nodes (inputs ++ state) d.nodes.length) x_.value).bind fun x32 => ((idxI s24 x_.element).bind fun x33 => js F d inputs state x9 r_ (s22 + 1) (s24.set x_.element.toNat x32))) else js F d inputs state x9 r_ (s22 + 1) s24))
def cN (F : Nat) (d : Desg) (inputs : List Int) (state : List Int) (x39 : Rul) : Nat → Nat → Option (Unit)
 | 0, _ => none
 | k + 1, s40 => (if (decide ((s40 : Int) < (x39.writes.length : Int))) = true then ((x39.writes[s40]?).bind fun x44 => ((idxI (valsL d.nodes (inputs ++ state) d.nodes.length) x44.cond).bind fun x45 => (if (decide (x45 = 1)) = true then ((idxI (valsL d.nodes (inputs ++ state) d.nodes.length) x44.value).bind fun x49 => ((idxI state x44.element).bind fun x50 => none)) else (if inI ((s40 : Int) + 1) then cN F d inputs state x39 k (s40 + 1) else none)))) else some ())
theorem mL (bs : List Nat) (H : Heap) (F : Nat) (d : Desg) (inputs : List Int) (state : List Int) (x39 : Rul) (a41 : HObj) : ∀ k s r ρ H', (∃ J42, H' = H ++ a41 :: .tok 0 :: J42 ∧ ρ 9 = .list ((valsL d.nodes (inputs ++ state) d.nodes.length).map (V.int .i64)) ∧ ρ 10 = .list (state.map (V.int .i64)) ∧ ρ 11 = .list (x39.writes.map encWri) ∧ ρ 12 = .int .i64 (s : Int)) → cN F d inputs state x39 k s = some r → Lp X ⟨58, H.length :: bs⟩ (loopAt Tryz.f27 0) ρ H' ((fun r ex ρ H' => ∃ J42, H' = H ++ a41 :: .tok 0 :: J42 ∧ ex = .exit 0) r) := by
 refine ac (fun _ => rfl) ?_
 rintro k s40 r ρ H' ⟨J42, hH, h9, h10, h11, h12⟩ hR
 skip
 subst hH
 rw [cN] at hR
 conv => arg 3; whnf
 try refine zw ?_
 rcases iteE hR with ⟨c43, hR⟩ | ⟨c43, hR⟩
 ·obtain ⟨x44, x44_e, hR⟩ := bindE hR
  obtain ⟨x45, x45_e, hR⟩ := bindE hR
  obtain ⟨x45_p, x45_e⟩ := idxE x45_e
  try refine zw ?_
  rcases iteE hR with ⟨c46, hR⟩ | ⟨c46, hR⟩
  ·obtain ⟨x49, x49_e, hR⟩ := bindE hR
   obtain ⟨x49_p, x49_e⟩ := idxE x49_e
   obtain ⟨x50, x50_e, hR⟩ := bindE hR
   obtain ⟨x50_p, x50_e⟩ := idxE x50_e
   exact nomatch hR.out
  ·obtain ⟨g51, hR⟩ := grdE hR
   have g51_w := ae g51
   refine zu ?_
   exact ⟨(s40 + 1), ⟨_, hq, sl, sl, sl, sl⟩, hR.out⟩
 ·obtain rfl := someE hR
  refine zu ?_
  exact ⟨_, hq, rfl⟩
def mM (F : Nat) (d : Desg) (inputs : List Int) (state : List Int) (x39 : Rul) : List Wri → Nat → Unit → Option (Unit)
 | [], s40, _ => some ()
 | x_ :: r_, s40, _ => ((idxI (valsL d.nodes (inputs ++ state) d.nodes.length) x_.cond).bind fun x45 => (if (decide (x45 = 1)) = true then ((idxI (valsL d.nodes (inputs ++ state) d.nodes.length) x_.value).bind fun x49 => ((idxI state x_.element).bind fun x50 => none)) else mM F d inputs state x39 r_ (s40 + 1) ()))
def cW (F : Nat) (d : Desg) (rule : Int) (inputs : List Int) (state : List Int) : Option ((List Int)) := (if inputs.length + state.length ≤ 1000000 then (if d.nodes.length ≤ 1000 then (if ∀ x ∈ d.nodes, x.args.length ≤ 1000000 then (if ∃ ws, GoodAll ws d.nodes ∧ LeafOk ws (inputs ++ state) then (if state.length ≤ 1000000 then (if (decide (0 < state.length)) = true then ((idxI d.rules rule).bind fun x9 => ((cv F d inputs state x9 F (0, state)).bind fun o37 => some o37)) else ((idxI d.rules rule).bind fun x39 => ((cN F d inputs state x39 F 0).bind fun o53 => some state))) else none) else none) else none) else none) else none)
theorem qx (bs : List Nat) (H : Heap) (F : Nat) (d : Desg) (rule : Int) (inputs : List Int) (state : List Int) (R : (List Int)) (hR0 : cW F d rule inputs state = some R) : callw X bs 27 [(encDesg d), .int .i64 rule, .list (inputs.map (V.int .i64)), .list (state.map (V.int .i64))] H = some (.list (R.map (V.int .i64)), H) := by
 refine yw2 (rs := [.tmp 8]) (N := 58) (fn := Tryz.f27) xk27 xf27 ?_
 have hR := Kp.mk hR0
 clear hR0
 rw [cW] at hR
 (try simp only [cellsDesg, encDesg, encInts])
 obtain ⟨g1, hR⟩ := grdE hR
 have k2_k := fun bs H => tA bs H inputs state g1
 obtain ⟨g3, hR⟩ := grdE hR
 obtain ⟨g4, hR⟩ := grdE hR
 obtain ⟨g5, hR⟩ := grdE hR
 have k6_k := fun bs H => kS bs H _ (inputs ++ state) d.nodes g3 g4 (Classical.choose_spec g5).1 (Classical.choose_spec g5).2
 obtain ⟨g7, hR⟩ := grdE hR
 rcases iteE hR with ⟨c8, hR⟩ | ⟨c8, hR⟩
 ·have c8_p := uv state (of_decide_eq_true c8) g7
  obtain ⟨x9, x9_e, hR⟩ := bindE hR
  obtain ⟨x9_p, x9_e⟩ := idxE x9_e
  obtain ⟨o37, o37_e, hR⟩ := bindE hR
  try refine zu ?_
  (refine yw1 (id := 1) oz5 [(1, 4)] ?_)
  try refine zu ?_
  refine ab (af (c := (loopAt Tryz.f27 0)) rfl (nX _ H F d inputs state x9 _ _ (0, state) o37 _ _ ⟨_, hq, sl, sl, sl, sl, ⟨rfl⟩⟩ o37_e)) ?_
  clear k2_k k6_k
  rintro ex ρ' H' ⟨J38, rfl, rfl, hl_o37_0⟩ hf
  have q10_o37 : ρ' 10 = .ref 1 (H.length + 2) 0 0 state.length := (hf 10 rfl).trans (sl)
  clear hf
  obtain rfl := someE hR
  have rt0 := fI (V.int .i64) (l := o37) (n := state.length) hl_o37_0.out
  have rt1 := ij (l := o37) (n := state.length) hl_o37_0.out
  exact zv
 ·have c8_p := uw state (of_decide_eq_false c8)
  have c8_k := fun bs H => kw bs H state g7
  obtain ⟨x39, x39_e, hR⟩ := bindE hR
  obtain ⟨x39_p, x39_e⟩ := idxE x39_e
  obtain ⟨o53, o53_e, hR⟩ := bindE hR
  try refine zu ?_
  (refine yw1 (id := 1) oz5 [(1, 4)] ?_)
  try refine zu ?_
  refine ab (af (c := (loopAt Tryz.f27 0)) rfl (mL _ H F d inputs state x39 _ _ 0 o53 _ _ ⟨_, hq, sl, sl, sl, sl⟩ o53_e)) ?_
  clear k2_k k6_k c8_k
  rintro ex ρ' H' ⟨J54, rfl, rfl⟩ hf
  have q10_o53 : ρ' 10 = .list (state.map (V.int .i64)) := (hf 10 rfl).trans (sl)
  clear hf
  obtain rfl := someE hR
  exact zv
def cw (F : Nat) (widths : List Int) (values : List Int) : Nat → Nat → Option (Oc (Bool) (Unit))
 | 0, _ => none
 | k + 1, s2 => (if (decide ((s2 : Int) < (values.length : Int))) = true then ((values[s2]?).bind fun x5 => ((widths[s2]?).bind fun x6 => (if 0 ≤ x6 then (if (fitsN x5 x6) = true then (if inI ((s2 : Int) + 1) then cw F widths values k (s2 + 1) else none) else some (.a false)) else none))) else some (.b ()))
theorem nY (bs : List Nat) (H : Heap) (F : Nat) (widths : List Int) (values : List Int) : ∀ k s r ρ H', (∃ J3, H' = H ++ J3 ∧ ρ 0 = .list (widths.map (V.int .i64)) ∧ ρ 1 = .list (values.map (V.int .i64)) ∧ ρ 5 = .int .i64 (s : Int)) → cw F widths values k s = some r → Lp X ⟨27, H.length :: bs⟩ (loopAt Tryz.f156 0) ρ H' ((fun r ex ρ H' => match r with | .a r => ∃ J3, H' = H ++ J3 ∧ ex = .ret ∧ ρ 4 = .bool r | .b r => ∃ J3, H' = H ++ J3 ∧ ex = .exit 0) r) := by
 refine ac (fun _ => rfl) ?_
 rintro k s2 r ρ H' ⟨J3, hH, h0, h1, h5⟩ hR
 skip
 subst hH
 rw [cw] at hR
 conv => arg 3; whnf
 try refine zw ?_
 rcases iteE hR with ⟨c4, hR⟩ | ⟨c4, hR⟩
 ·obtain ⟨x5, x5_e, hR⟩ := bindE hR
  obtain ⟨x6, x6_e, hR⟩ := bindE hR
  obtain ⟨g7, hR⟩ := grdE hR
  have k8_k := fun bs H => tD bs H x5 x6 g7
  try refine zu ?_
  (refine yw0 (id := 6) oz2 ?_)
  try refine zw ?_
  clear k8_k
  rcases iteE hR with ⟨c9, hR⟩ | ⟨c9, hR⟩
  ·obtain ⟨g10, hR⟩ := grdE hR
   have g10_w := ae g10
   refine zu ?_
   exact ⟨(s2 + 1), ⟨_, hq, sl, sl, sl⟩, hR.out⟩
  ·obtain rfl := someE hR
   refine zu ?_
   exact ⟨_, hq, rfl, sl⟩
 ·obtain rfl := someE hR
  refine zu ?_
  exact ⟨_, hq, rfl⟩
def cO (F : Nat) (widths : List Int) (values : List Int) : List Int → Nat → Unit → Option (Oc (Bool) (Unit))
 | [], s2, _ => some (.b ())
 | x_ :: r_, s2, _ => ((widths[s2]?).bind fun x6 => (if 0 ≤ x6 then (if (fitsN x_ x6) = true then cO F widths values r_ (s2 + 1) () else some (.a false)) else none))
theorem iR (F : Nat) (widths : List Int) (values : List Int) (hl_ : values.length ≤ 1000000) : ∀ r_ i_ k_ (o_ : Unit), values.drop i_ = r_ → r_.length < k_ → cw F widths values k_ i_ = cO F widths values r_ i_ o_
 | _, _, 0, _, _, hk => absurd hk (Nat.not_lt_zero _)
 | [], i_, k_ + 1, _, hd, _ => by rw [cw, cO]; simp only [aj hd, Bool.false_eq_true, if_false]
 | x_ :: r_, i_, k_ + 1, _, hd, hk => by
  have ih := iR F widths values hl_ r_ (i_ + 1) k_ () (ah hd) (Nat.lt_of_succ_lt_succ hk)
  rw [cw, cO]; simp only [az hd, ap hd, if_pos (aC hd hl_), Option.bind_some, if_true, ih]
def gJ (F : Nat) (widths : List Int) (values : List Int) : Option (Bool) := (if (decide (¬(widths.length : Int) = (values.length : Int))) = true then some false else ((cw F widths values F 0).bind fun o11 => match o11 with | .a o12 => some o12 | .b o14 => some true))
theorem qy (bs : List Nat) (H : Heap) (F : Nat) (widths : List Int) (values : List Int) (R : Bool) (hR0 : gJ F widths values = some R) : callw X bs 156 [.list (widths.map (V.int .i64)), .list (values.map (V.int .i64))] H = some (.bool R, H) := by
 refine yw2 (rs := [.tmp 4]) (N := 27) (fn := Tryz.f156) C9 M3 ?_
 have hR := Kp.mk hR0
 clear hR0
 rw [gJ] at hR
 try refine zw ?_
 rcases iteE hR with ⟨c1, hR⟩ | ⟨c1, hR⟩
 ·obtain rfl := someE hR
  exact zv
 ·obtain ⟨o11, o11_e, hR⟩ := bindE hR
  refine zu ?_
  refine ab (af (c := (loopAt Tryz.f156 0)) rfl (nY _ H F widths values _ 0 o11 _ _ ⟨[], by simp, sl, sl, sl⟩ o11_e)) ?_
  rcases o11 with o12 | o14
  ·rintro ex ρ' H' ⟨J13, rfl, rfl, q4_o12⟩ hf
   clear hf
   obtain rfl := someE hR
   exact zv
  ·rintro ex ρ' H' ⟨J15, rfl, rfl⟩ hf
   clear hf
   obtain rfl := someE hR
   exact zv
def ed (F : Nat) (leaves : List Int) (values : List Int) : Option (Int) := (if (decide (¬(leaves.length : Int) = (values.length : Int))) = true then some 10 else ((gJ F leaves values).bind fun y2 => (if y2 = true then some 0 else some 2)))
theorem pg (bs : List Nat) (H : Heap) (F : Nat) (leaves : List Int) (values : List Int) (R : Int) (hR0 : ed F leaves values = some R) : callw X bs 74 [.list (leaves.map (V.int .i64)), .list (values.map (V.int .i64))] H = some (.int .i64 R, H) := by
 refine yw2 (rs := [.tmp 4]) (N := 14) (fn := Tryz.f74) xk74 xf74 ?_
 have hR := Kp.mk hR0
 clear hR0
 rw [ed] at hR
 try refine zw ?_
 rcases iteE hR with ⟨c1, hR⟩ | ⟨c1, hR⟩
 ·obtain rfl := someE hR
  exact zv
 ·obtain ⟨y2, y2_e, hR⟩ := bindE hR
  have y2_k := fun bs H => qy bs H F leaves values y2 y2_e
  try refine zw ?_
  clear y2_k
  rcases iteE hR with ⟨c3, hR⟩ | ⟨c3, hR⟩
  ·obtain rfl := someE hR
   exact zv
  ·obtain rfl := someE hR
   exact zv
def bR (F : Nat) (d : Desg) (inputs : List Int) : Option (Int) := ((eN F d).bind fun y1 => (if 0 ≤ d.inputs.length ∧ d.inputs.length ≤ y1.length then ((ed F (y1.take d.inputs.length) inputs).bind fun y3 => some y3) else none))
theorem ph (bs : List Nat) (H : Heap) (F : Nat) (d : Desg) (inputs : List Int) (R : Int) (hR0 : bR F d inputs = some R) : callw X bs 20 [(encDesg d), .list (inputs.map (V.int .i64))] H = some (.int .i64 R, H) := by
 refine yw2 (rs := [.tmp 4]) (N := 13) (fn := Tryz.f20) xk20 xf20 ?_
 have hR := Kp.mk hR0
 clear hR0
 rw [bR] at hR
 (try simp only [cellsDesg, encDesg, encInts])
 obtain ⟨y1, y1_e, hR⟩ := bindE hR
 have y1_k := fun bs H => mF bs H F d y1 y1_e
 (try simp only [cellsDesg, encDesg, encInts] at y1_k)
 obtain ⟨g2, hR⟩ := grdE hR
 obtain ⟨g2_a, g2_b⟩ := g2
 have g2_s := cutV (P := Tryz.prog) (V.int .i64) Tryz.underlying30 sz3 (fun _ => rfl) y1 none (some (.int .i64 (d.inputs.length : Int))) 0 d.inputs.length rfl boundN g2_a g2_b
 simp only [List.drop_zero, List.take_length] at g2_s
 obtain ⟨y3, y3_e, hR⟩ := bindE hR
 have y3_k := fun bs H => pg bs H F (y1.take d.inputs.length) inputs y3 y3_e
 obtain rfl := someE hR
 try refine zu ?_
 (refine yw1 (id := 1) [0, 2, 3, 4, 6, 1, 5, 7, 8] [(2, 5)] ?_)
 exact zv
def rd (F : Nat) (d : Desg) (state : List Int) : Option (Int) := ((eN F d).bind fun y1 => (if d.inputs.length ≤ y1.length ∧ y1.length ≤ y1.length then ((ed F (y1.drop d.inputs.length) state).bind fun y3 => some y3) else none))
def gK (F : Nat) (d : Desg) (rule : Int) : Option (Int) := (if inI ((d.rules.length : Int) - 1) then (if (decide ((0 : Int) ≤ rule) && decide (rule ≤ ((d.rules.length : Int) - 1))) = true then some 0 else some 6) else none)
theorem qz (bs : List Nat) (H : Heap) (F : Nat) (d : Desg) (rule : Int) (R : Int) (hR0 : gK F d rule = some R) : callw X bs 19 [(encDesg d), .int .i64 rule] H = some (.int .i64 R, H) := by
 refine yw2 (rs := [.tmp 4]) (N := 12) (fn := Tryz.f19) xk19 xf19 ?_
 have hR := Kp.mk hR0
 clear hR0
 rw [gK] at hR
 (try simp only [cellsDesg, encDesg, encInts])
 obtain ⟨g1, hR⟩ := grdE hR
 have g1_w := ae g1
 try refine zw ?_
 rcases iteE hR with ⟨c2, hR⟩ | ⟨c2, hR⟩
 ·obtain ⟨c2_1, c2_2⟩ := dT c2
  obtain rfl := someE hR
  exact zv
 ·obtain rfl := someE hR
  exact zv
def hU (F : Nat) (d : Desg) (inputs : List Int) (state : List Int) : Nat → ((List Int) × Nat) → Option ((List Int))
 | 0, _ => none
 | k + 1, (s9, s10) => (if (decide ((s10 : Int) < (d.rules.length : Int))) = true then ((dG F d (s10 : Int) inputs state).bind fun y13 => (if y13 = true then (if (s9.length + 1) ≤ 1000000 then (if inI ((s10 : Int) + 1) then hU F d inputs state k ((s9 ++ [(s10 : Int)]), (s10 + 1)) else none) else none) else (if inI ((s10 : Int) + 1) then hU F d inputs state k (s9, (s10 + 1)) else none))) else some s9)
def Ch (F : Nat) (d : Desg) (inputs : List Int) (state : List Int) : Option ((List Int)) := ((hU F d inputs state F ([], 0)).bind fun o19 => some o19)
def jV (F : Nat) (d : Desg) (inputs : List Int) (state : List Int) : Nat → ((List Int) × Nat) → Option ((List Int))
 | 0, _ => none
 | k + 1, (s15, s16) => (if (decide ((s16 : Int) < (d.outs.length : Int))) = true then ((d.outs[s16]?).bind fun x19 => ((idxI (valsL d.nodes (inputs ++ state) d.nodes.length) x19.node).bind fun x20 => (if (s15.length + 1) ≤ 1000000 then (if inI ((s16 : Int) + 1) then jV F d inputs state k ((s15 ++ [x20]), (s16 + 1)) else none) else none))) else some s15)
def nZ (F : Nat) (d : Desg) (inputs : List Int) (state : List Int) : List Outp → Nat → (List Int) → Option ((List Int))
 | [], s16, s15 => some s15
 | x_ :: r_, s16, s15 => ((idxI (valsL d.nodes (inputs ++ state) d.nodes.length) x_.node).bind fun x20 => (if (s15.length + 1) ≤ 1000000 then nZ F d inputs state r_ (s16 + 1) (s15 ++ [x20]) else none))
def Ci (F : Nat) (d : Desg) (inputs : List Int) (state : List Int) : Option ((List Int)) := (if inputs.length + state.length ≤ 1000000 then (if d.nodes.length ≤ 1000 then (if ∀ x ∈ d.nodes, x.args.length ≤ 1000000 then (if ∃ ws, GoodAll ws d.nodes ∧ LeafOk ws (inputs ++ state) then ((jV F d inputs state F ([], 0)).bind fun o24 => some o24) else none) else none) else none) else none)
def gy (F : Nat) (d : Desg) : Option (Int) := ((eB F d).bind fun y1 => some y1.2)
theorem oc (bs : List Nat) (H : Heap) (F : Nat) (d : Desg) (R : Int) (hR0 : gy F d = some R) : callw X bs 17 [(encDesg d)] H = some (.int .i64 R, H) := by
 refine yw2 (rs := [.tmp 2]) (N := 11) (fn := Tryz.f17) xk17 xf17 ?_
 have hR := Kp.mk hR0
 clear hR0
 rw [gy] at hR
 (try simp only [cellsDesg, encDesg, encInts])
 obtain ⟨y1, y1_e, hR⟩ := bindE hR
 have y1_k := fun bs H => pL bs H F d y1 y1_e
 (try simp only [cellsDesg, encDesg, encInts] at y1_k)
 obtain rfl := someE hR
 exact zv
end
end Go.E
namespace Go.E
open Classical
theorem od {α : Type} {L : Nat → Nat → Option (Oc Nat Unit)} (l : List α) (n m : Nat) (nm : α → ByteArray) (s : ByteArray) (hn : n ≤ l.length) (hl : l.length ≤ 1000000)
  (step : ∀ k i x, i < n → l[i]? = some x → L (k + 1) i = if (decide (nm x = s)) = true then some (.a m) else if inI ((i : Int) + 1) then L k (i + 1) else none) (last : ∀ k, L (k + 1) n = some (.b ())) (k : Nat) (hk : n < k) :
  L k 0 = some (if (l.take n).any (fun q => decide (nm q = s)) = true then .a m else .b ()) := by
 rw [AM (L := L) n (fun i => match l[i]? with | some x => decide (nm x = s) | none => false) m (fun k i hi => by
  have hg := bc (l := l) (i := i) (by omega)
  rw [step k i _ hi hg, if_pos (in_1 (by omega))]
  simp only [hg]) last k hk]
 rw [wq l (fun q => decide (nm q = s)) _ n hn (fun i x _ hx => by simp only [hx])]
variable {F : Nat} (hF : 1000000 < F)
include hF in
theorem Cj (l : List Port) (hl : l.length ≤ 1000000) (hn : ∀ p ∈ l, p.name.size ≤ 1000000) :
  eM F l = some (if 12 < l.length then (0, 8) else eachP (namedR (fun p : Port => p.name) (fun _ => false) (fun p => if isW p.width = true then 0 else 2) l) 0 l) := by
 unfold eM
 by_cases h12 : 12 < l.length
 ·rw [if_pos (decide_eq_true (by omega)), if_pos h12]
 rw [if_neg (by simp; omega), if_neg h12]
 have h1 : bw F l F 0 = _ := iQ F l hl l 0 F () rfl (by omega)
 obtain ⟨o, h2, h3⟩ := sY (L := cM F l) ocN (namedR (fun p : Port => p.name) (fun _ => false) (fun p => if isW p.width = true then 0 else 2) l) l (fun i => ⟨_, rfl, rfl⟩) (fun x r i hx => by
  have hlt := aa hx
  have hd := od (L := bv F l i) l i i (fun p => p.name) x.name (by omega) hl (fun k j y hj hy => by
   rw [bv, lt_n j i hj]; simp only [hy, hx, Option.bind_some, if_true]) (fun k => by rw [bv, oV]; rfl) F (by omega)
  have hp := hn x (List.mem_of_getElem? hx)
  simp only [cM, namedR, hd, dF, qQ, if_pos hp, Option.bind_some, Bool.or_false]
  rcases bb (isNameS x.name) with a1 | a1 <;> rcases bb ((l.take i).any fun q => decide (q.name = x.name)) with a2 | a2 <;> rcases bb (isW x.width) with a3 | a3 <;> simp only [a1, a2, a3] <;> simp [ocN]) l 0 rfl
 rw [h1, h2, ← h3]
 cases o <;> rfl
include hF in
theorem Ck (d : Desg) (h1 : d.inputs.length ≤ 1000) (h2 : d.elements.length ≤ 1000) (hn : ∀ p ∈ d.elements, p.name.size ≤ 1000000) :
  eK F d.inputs d.elements = some (if 40 < d.inputs.length + d.elements.length then (0, 8) else elemsR d) := by
 unfold eK
 rw [if_pos (by unfold inI; omega)]
 by_cases h40 : 40 < d.inputs.length + d.elements.length
 ·rw [if_pos (decide_eq_true (by omega)), if_pos h40]
 rw [if_neg (by simp; omega), if_neg h40]
 have e1 : aW F d.inputs d.elements F 0 = _ := ic F d.inputs d.elements (by omega) d.elements 0 F () rfl (by omega)
 obtain ⟨o, e2, e3⟩ := sY (L := bG F d.inputs d.elements) ocN (namedR (fun p : Elem => p.name) (fun s => d.inputs.any fun q => decide (q.name = s)) elemTail d.elements) d.elements (fun i => ⟨_, rfl, rfl⟩) (fun x r i hx => by
  have hlt := aa hx
  have hd := od (L := aU F d.elements i) d.elements i i (fun p => p.name) x.name (by omega) (by omega) (fun k j y hj hy => by
   rw [aU, lt_n j i hj]; simp only [hy, hx, Option.bind_some, if_true]) (fun k => by rw [aU, oV]; rfl) F (by omega)
  have hd2 := od (L := aV F d.inputs d.elements i) d.inputs d.inputs.length i (fun p => p.name) x.name (by omega) (by omega) (fun k j y hj hy => by
   rw [aV, lt_n j _ hj]; simp only [hy, hx, Option.bind_some, if_true]) (fun k => by rw [aV, oV]; rfl) F (by omega)
  rw [List.take_length] at hd2
  have hp := hn x (List.mem_of_getElem? hx)
  have hk : (decide ((0 : Int) ≤ x.kind) && decide (x.kind ≤ 1)) = kindOk x.kind := rfl
  have hc : (decide ((0 : Int) ≤ x.clk) && decide (x.clk ≤ 3)) = clkOk x.clk := rfl
  have h5 : isW x.width = true → 0 ≤ x.width := fun h4 => by unfold isW at h4; simp at h4; omega
  simp only [bG, namedR, hd, hd2, dF, qQ, hk, hc, if_pos hp, Option.bind_some, elemTail]
  rcases bb (isNameS x.name) with a1 | a1
  case inr => simp only [a1]; simp [ocN]
  rcases bb ((d.elements.take i).any fun q => decide (q.name = x.name)) with a2 | a2
  ·simp only [a1, a2]; simp [ocN]
  rcases bb (d.inputs.any fun q => decide (q.name = x.name)) with a3 | a3
  ·simp only [a1, a2, a3]; simp [ocN]
  rcases bb (kindOk x.kind) with a4 | a4
  case inr => simp only [a1, a2, a3, a4]; simp [ocN]
  rcases bb (isW x.width) with a5 | a5
  case inr => simp only [a1, a2, a3, a4, a5]; simp [ocN]
  rcases bb (fitsN x.init x.width) with a6 | a6 <;> rcases bb (clkOk x.clk) with a7 | a7 <;> simp only [a1, a2, a3, a4, a5, a6, a7, if_pos (h5 a5)] <;> simp [ocN]) d.elements 0 rfl
 rw [e1, e2, elemsR, ← e3]
 cases o <;> rfl
include hF in
theorem uG (d : Desg) (h1 : d.inputs.length ≤ 1000) (h2 : d.elements.length ≤ 1000) : eN F d = some (leavesD d) := by
 have k1 : ∀ (r : List Port) (i : Nat) (o : List Int), o.length + r.length ≤ 1000000 → cr F d r i o = some (o ++ r.map (·.width)) := by
  intro r
  induction r with
  | nil => intro i o _; simp [cr]
  | cons x r ih => intro i o h; simp only [List.length_cons] at h; rw [cr, if_pos (by omega), ih _ _ (by simp; omega)]; simp
 have k2 : ∀ (r : List Elem) (i : Nat) (o : List Int), o.length + r.length ≤ 1000000 → ct F d r i o = some (o ++ r.map (·.width)) := by
  intro r
  induction r with
  | nil => intro i o _; simp [ct]
  | cons x r ih => intro i o h; simp only [List.length_cons] at h; rw [ct, if_pos (by omega), ih _ _ (by simp; omega)]; simp
 have e1 : cm F d F ([], 0) = _ := jM F d (by omega) d.inputs 0 F [] rfl (by omega)
 have e2 : cn F d F (d.inputs.map (·.width), 0) = _ := jN F d (by omega) d.elements 0 F (d.inputs.map (·.width)) rfl (by omega)
 unfold eN
 rw [e1, k1 _ _ _ (by simp; omega), Option.bind_some, List.nil_append, e2, k2 _ _ _ (by simp; omega), Option.bind_some]
 rfl
theorem qA (nodes : List Node) (n : Int) (h : nodes.length ≤ 1000) : dj F nodes n = some (isNodeL nodes n) := by
 unfold dj; rw [if_pos (in_m (by omega))]; rfl
theorem qB (nodes : List Node) (n : Int) (h : nodes.length ≤ 1000) : bd F nodes n = some (condL nodes n) := by
 unfold bd condL
 rw [qA nodes n h, Option.bind_some]
 rcases bb (isNodeL nodes n) with hn | hn
 ·obtain ⟨x, h1, h2⟩ := ng hn; simp [h1, h2, hn]
 ·simp [hn]
def ocW : Oc Nat Unit → Int × Int
 | .a e => (0, (e : Int))
 | .b _ => (0, 0)
include hF in
theorem AW (d : Desg) (l : List Wri) (hl : l.length ≤ 1000000) (h : d.nodes.length ≤ 1000) (he : d.elements.length ≤ 1000) : eA F d.elements d.nodes l = some (writesErrR d l) := by
  unfold eA writesErrR
  by_cases h16 : 16 < l.length
  · rw [if_pos (decide_eq_true (by omega)), if_pos h16]
  rw [if_neg (by simp; omega), if_neg h16]
  have e1 : bn F d.elements d.nodes l F 0 = _ := iy F d.elements d.nodes l hl l 0 F () rfl (by omega)
  have k : ∀ (r : List Wri) (i : Nat), ∃ o, ca F d.elements d.nodes l r i () = some o ∧ (ocW o).2 = (eachP (fun _ w => writeErrR d w) i r).2 := by
    intro r
    induction r with
    | nil => intro i; exact ⟨_, rfl, rfl⟩
    | cons x r ih =>
      intro i
      have hi : (decide ((0 : Int) ≤ x.element) && decide (x.element ≤ (d.elements.length : Int) - 1)) = inLen d.elements.length x.element := rfl
      simp only [ca, if_pos (in_m (show d.elements.length ≤ 1000000 by omega)), hi, qB d.nodes _ h, qA d.nodes _ h, Option.bind_some, eachP]
      rcases bb (inLen d.elements.length x.element) with a1 | a1
      case inr => have ex : writeErrR d x = 6 := by simp [writeErrR, a1]
                  simp only [a1]; simp [ocW, ex]
      rcases bb (condL d.nodes x.cond) with a2 | a2
      case inr => have ex : writeErrR d x = 9 := by simp [writeErrR, a1, a2]
                  simp only [a1, a2]; simp [ocW, ex]
      rcases bb (isNodeL d.nodes x.value) with a3 | a3
      case inr => have ex : writeErrR d x = 9 := by simp [writeErrR, a1, a2, a3]
                  simp only [a1, a2, a3]; simp [ocW, ex]
      obtain ⟨y, h4, h5⟩ := ng a3
      obtain ⟨z, h6, h7⟩ := wu a1
      simp only [a1, a2, a3, h4, h5, h6, h7, Option.bind_some]
      by_cases a4 : widthL d.nodes x.value = elemW d x.element
      · have ex : writeErrR d x = 0 := by simp [writeErrR, a1, a2, a3, a4]
        simpa [a4, ex] using ih (i + 1)
      · have ex : writeErrR d x = 25 := by simp [writeErrR, a1, a2, a3, a4]
        simp [a4, ocW, ex]
  obtain ⟨o, e2, e3⟩ := k l 0
  rw [e1, e2, ← e3]
  cases o <;> rfl
include hF in
theorem Ge (d : Desg) (l : List Outp) (hl : l.length ≤ 1000000) (hn : ∀ p ∈ l, p.name.size ≤ 1000000) (h : d.nodes.length ≤ 1000) :
  dY F d.nodes l = some (if 12 < l.length then (0, 8) else eachP (namedR (fun p : Outp => p.name) (fun _ => false) (fun p => if isNodeL d.nodes p.node = true then 0 else 9) l) 0 l) := by
 unfold dY
 by_cases h12 : 12 < l.length
 ·rw [if_pos (decide_eq_true (by omega)), if_pos h12]
 rw [if_neg (by simp; omega), if_neg h12]
 have h1 : bh F d.nodes l F 0 = _ := im F d.nodes l hl l 0 F () rfl (by omega)
 obtain ⟨o, h2, h3⟩ := sY (L := bU F d.nodes l) ocN (namedR (fun p : Outp => p.name) (fun _ => false) (fun p => if isNodeL d.nodes p.node = true then 0 else 9) l) l (fun i => ⟨_, rfl, rfl⟩) (fun x r i hx => by
  have hlt := aa hx
  have hd := od (L := bg F l i) l i i (fun p => p.name) x.name (by omega) hl (fun k j y hj hy => by
   rw [bg, lt_n j i hj]; simp only [hy, hx, Option.bind_some, if_true]) (fun k => by rw [bg, oV]; rfl) F (by omega)
  have hp := hn x (List.mem_of_getElem? hx)
  simp only [bU, namedR, hd, qA d.nodes _ h, if_pos hp, Option.bind_some, Bool.or_false]
  rcases bb (isNameS x.name) with a1 | a1 <;> rcases bb ((l.take i).any fun q => decide (q.name = x.name)) with a2 | a2 <;> rcases bb (isNodeL d.nodes x.node) with a3 | a3 <;> simp only [a1, a2, a3] <;> simp [ocN]) l 0 rfl
 rw [h1, h2, ← h3]
 cases o <;> rfl
include hF in
theorem HF (l : List Int) (n : Int) (hl : l.length ≤ 1000000) : gZ F l n = some (l.any fun m => decide (m = n)) := by
 have k : ∀ (r : List Int) (i : Nat), eO F l n r i () = some (if (r.any fun m => decide (m = n)) = true then .a true else .b ()) := by
  intro r
  induction r with
  | nil => intro i; rfl
  | cons x r ih =>
   intro i
   simp only [eO, List.any_cons, ih]
   by_cases h : x = n <;> simp [h]
 have h1 : dZ F l n F 0 = _ := lb F l n hl l 0 F () rfl (by omega)
 unfold gZ
 rw [h1, k]
 rcases bb (l.any fun m => decide (m = n)) with a | a <;> rw [a] <;> rfl
def ocQ : Oc (Nat × Int) Unit → Int × Int
 | .a o => ((o.1 : Int), o.2)
 | .b _ => (0, 0)
include hF in
theorem Cl (d : Desg) (hS : FewD d) : ∃ o, aR F d F 0 = some o ∧ ocQ o = rulesR d ∧ ((rulesR d).2 = 0 → o = .b ()) := by
 obtain ⟨n1, n2, n3, n4, n5, n6, n7, n8, n9, n10, n11, n12, n13, n14⟩ := hS
 have h1 : aR F d F 0 = _ := iz F d (by omega) d.rules 0 F () rfl (by omega)
 rw [h1]
 refine wt (L := cd F d) ocQ (namedR (fun p : Rul => p.name) (fun _ => false) (ruleTail d) d.rules) d.rules (.b ()) (fun i => rfl) rfl (fun x r i hx => ?_) d.rules 0 rfl
 have hlt := aa hx
 have hd := od (L := bo F d i x) d.rules i i (fun p => p.name) x.name (by omega) (by omega) (fun k j y hj hy => by
  rw [bo, lt_n j i hj]; simp only [hy, Option.bind_some, if_true]) (fun k => by rw [bo, oV]; rfl) F (by omega)
 have hp := n10 x (List.mem_of_getElem? hx)
 have hw := n13 x (List.mem_of_getElem? hx)
 simp only [cd, namedR, hd, qB d.nodes _ n4, AW hF d x.writes (by omega) n4 n3, if_pos (show x.name.size ≤ 1000000 by omega), Option.bind_some, Bool.or_false, ruleTail]
 rcases bb (isNameS x.name) with a1 | a1
 case inr => simp only [a1]; simp [ocQ]
 rcases bb ((d.rules.take i).any fun q => decide (q.name = x.name)) with a2 | a2
 ·simp only [a1, a2]; simp [ocQ]
 rcases bb (condL d.nodes x.guard) with a3 | a3
 case inr => simp only [a1, a2, a3]; simp [ocQ]
 by_cases a4 : writesErrR d x.writes = 0 <;> simp only [a1, a2, a3] <;> simp [ocQ, a4]
include hF in
theorem Cm (d : Desg) (hS : FewD d) : ∃ o, aT F d F 0 = some o ∧ ocN o = attrsR d ∧ ((attrsR d).2 = 0 → o = .b ()) := by
 obtain ⟨n1, n2, n3, n4, n5, n6, n7, n8, n9, n10, n11, n12, n13, n14⟩ := hS
 have h1 : aT F d F 0 = _ := iB F d (by omega) d.attrs 0 F () rfl (by omega)
 rw [h1]
 refine wt (L := cf F d) ocN (fun _ a => attrErrR d a) d.attrs (.b ()) (fun i => rfl) rfl (fun x r i hx => ?_) d.attrs 0 rfl
 have hl := n14 x (List.mem_of_getElem? hx)
 have e1 : aS F d i x F 0 = _ := iA F d i x (by omega) x.rules 0 F () rfl (by omega)
 have k : ∀ (r : List Int) (j : Nat), x.rules.drop j = r → ∃ o, ce F d i x r j () = some o ∧ (match o with | .a o => o.1 = i ∧ (o.2 : Int) = (eachP (attrItem d x.rules) j r).2 ∧ o.2 ≠ 0 | .b _ => (eachP (attrItem d x.rules) j r).2 = 0) := by
  intro r
  induction r with
  | nil => intro j _; exact ⟨_, rfl, rfl⟩
  | cons y r ih =>
   intro j hd
   have hj := ir hd
   have hi : (decide ((0 : Int) ≤ y) && decide (y ≤ (d.rules.length : Int) - 1)) = inLen d.rules.length y := rfl
   simp only [ce, if_pos (in_m (show d.rules.length ≤ 1000000 by omega)), hi, if_pos (show 0 ≤ j ∧ j ≤ x.rules.length by omega), HF hF (x.rules.take j) y (by simp; omega), Option.bind_some, eachP, attrItem]
   rcases bb (inLen d.rules.length y) with a1 | a1
   case inr => simp only [a1]; simp
   rcases bb ((x.rules.take j).any fun m => decide (m = y)) with a2 | a2
   ·simp only [a1, a2]; simp
   ·simp only [a1, a2]; simpa using ih (j + 1) (ah hd)
 obtain ⟨o, e2, e3⟩ := k x.rules 0 rfl
 have h16 : decide ((16 : Int) < (x.rules.length : Int)) = decide (16 < x.rules.length) := by generalize x.rules.length = n; rw [Bool.eq_iff_iff]; simp; omega
 have h00 : decide ((x.rules.length : Int) = 0) = decide (x.rules.length = 0) := by generalize x.rules.length = n; rw [Bool.eq_iff_iff]; simp
 simp only [cf, e1, e2, attrErrR, Option.bind_some, h16, h00]
 rcases bb (decide ((0 : Int) ≤ x.kind) && decide (x.kind ≤ 3)) with a1 | a1
 case inr => simp only [a1]; simp [ocN]
 by_cases a2 : x.rules.length = 0
 ·simp only [a1, a2]; simp [ocN]
 by_cases a3 : 16 < x.rules.length
 ·simp only [a1, a2, a3]; simp [ocN]
 simp only [a1, a2, a3]
 cases o with
 | a o =>
  obtain ⟨b1, b2, b3⟩ := e3
  have b4 : (eachP (attrItem d x.rules) 0 x.rules).2 ≠ 0 := by rw [← b2]; omega
  refine ⟨fun h => absurd (by simpa using h) b4, fun _ => ⟨_, rfl, ?_⟩⟩
  simp [ocN, b1, b2]
 | b o =>
  have e3 : (eachP (attrItem d x.rules) 0 x.rules).2 = 0 := e3
  refine ⟨fun _ => rfl, fun h => absurd (by simpa using e3) h⟩
include hF in
theorem AX {d : Desg} (hS : FewD d) : eB F d = some (designErrR d) := by
 have b1 := Cl hF d hS
 have b2 := Cm hF d hS
 obtain ⟨n1, n2, n3, n4, n5, n6, n7, n8, n9, n10, n11, n12, n13, n14⟩ := hS
 have a1 := Cj hF d.inputs (by omega) (fun p hp => by have := n8 p hp; omega)
 have a2 := Ck hF d n2 n3 (fun p hp => by have := n9 p hp; omega)
 have a3 := uG hF d n2 n3
 have a4 := Ge hF d d.outs (by omega) (fun p hp => by have := n11 p hp; omega) n4
 replace a1 : eM F d.inputs = some (if 12 < d.inputs.length then (0, 8) else portsR d) := a1
 replace a4 : dY F d.nodes d.outs = some (if 12 < d.outs.length then (0, 8) else outsR d) := a4
 unfold eB designErrR
 have hl : (leavesD d).length ≤ 1000000 := by simp [leavesD]; omega
 have hm : d.nodes.length ≤ 1000000 := by omega
 have ha : ∀ x ∈ d.nodes, x.args.length ≤ 1000000 := fun x hx => by have := n12 x hx; omega
 obtain ⟨o1, b1, b3, b5⟩ := b1
 obtain ⟨o2, b2, b4, b6⟩ := b2
 have h16 : decide ((16 : Int) < (d.rules.length : Int)) = decide (16 < d.rules.length) := by rw [Bool.eq_iff_iff]; simp; omega
 have h17 : decide ((16 : Int) < (d.attrs.length : Int)) = decide (16 < d.attrs.length) := by rw [Bool.eq_iff_iff]; simp; omega
 simp only [a1, a2, a3, a4, b1, b2, if_pos (show d.name.size ≤ 1000000 by omega), Option.bind_some, if_pos hl, if_pos hm, if_pos ha, h16, h17]
 rcases bb (isNameS d.name) with hN | hN
 case inr => simp [hN, firstP]
 by_cases h12 : 12 < d.inputs.length
 ·simp [hN, h12, firstP]
 by_cases hP : (portsR d).2 = 0
 case neg => simp [hN, h12, hP, firstP]
 by_cases h40 : 40 < d.inputs.length + d.elements.length
 ·simp [hN, h12, hP, h40, firstP]
 by_cases hE : (elemsR d).2 = 0
 case neg => simp [hN, h12, hP, h40, hE, firstP]
 by_cases hM : (nodesErrR (leavesD d) d.nodes).2 = 0
 case neg => simp [hN, h12, hP, h40, hE, hM, firstP]
 by_cases h16 : 16 < d.rules.length
 ·simp [hN, h12, hP, h40, hE, hM, h16, firstP]
 by_cases hR : (rulesR d).2 = 0
 case neg =>
  cases o1 with
  | b u => exact absurd (by rw [← b3]; rfl) hR
  | a o => simp [hN, h12, hP, h40, hE, hM, h16, firstP, ← b3, ocQ] at hR ⊢; simp [hR]
 obtain rfl := b5 hR
 by_cases h13 : 12 < d.outs.length
 ·simp [hN, h12, hP, h40, hE, hM, h16, hR, h13, firstP]
 by_cases hO : (outsR d).2 = 0
 case neg => simp [hN, h12, hP, h40, hE, hM, h16, hR, h13, hO, firstP]
 by_cases h17 : 16 < d.attrs.length
 ·simp [hN, h12, hP, h40, hE, hM, h16, hR, h13, hO, h17, firstP]
 by_cases hA : (attrsR d).2 = 0
 ·obtain rfl := b6 hA
  simp [hN, h12, hP, h40, hE, hM, h16, hR, h13, hO, h17, hA, firstP]
 ·cases o2 with
  | b u => exact absurd (by rw [← b4]; rfl) hA
  | a o => simp [hN, h12, hP, h40, hE, hM, h16, hR, h13, hO, h17, firstP, ← b4, ocN] at hA ⊢; simp [hA]
end Go.E
