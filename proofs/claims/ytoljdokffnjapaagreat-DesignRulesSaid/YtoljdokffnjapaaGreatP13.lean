/- Laws of chapter 15 in E. Own work. -/
import Derived.Test.YtoljdokffnjapaaGreatP8
import Derived.Test.YtoljdokffnjapaaGreatP6
import Derived.Test.YtoljdokffnjapaaGreatP9
import Derived.Test.YtoljdokffnjapaaGreatP7
import Derived.Test.YtoljdokffnjapaaGreatP5
import Derived.Test.YtoljdokffnjapaaGreatP11
import Derived.Test.YtoljdokffnjapaaGreatP2
set_option linter.all false
set_option linter.all false
namespace Go.E
open Go.Proofs Classical
set_option maxRecDepth 100000
set_option maxHeartbeats 20000000
noncomputable section
def fT (F : Nat) (d : Desg) (rules : List Int) (x : Vals) : Option (Bool) := ((gg F d).bind fun y2 => (if y2 = true then (if (decide ((62 : Int) < (rules.length : Int))) = true then some true else (if (decide ((60 : Int) < (x.inputs.length : Int))) = true then some true else (if (decide ((60 : Int) < (x.state.length : Int))) = true then some true else (if (decide ((0 : Int) < (rules.length : Int))) = true then ((rules[0]?).bind fun x8 => (if SmallD d then (if x.inputs.length ≤ 1000000 then (if x.state.length ≤ 1000000 then ((dI F d x8 x.inputs x.state).bind fun y15 => (if SmallD d then (if rules.length ≤ 1000000 then (if x.inputs.length ≤ 1000000 then (if x.state.length ≤ 1000000 then ((eZ F d rules x.inputs x.state).bind fun y24 => ((eM F d).bind fun y25 => (if (decide (y25 = 0)) = true then ((cw F d x8).bind fun y27 => ((aJ F d x.inputs).bind fun y28 => ((cI F d x.state).bind fun y29 => ((bj F y28 y29).bind fun y30 => ((bj F y27 y30).bind fun y31 => ((fH F d rules x.inputs x.state).bind fun y32 => (if (decide (¬y32 = 0)) = true then (if (decide (¬y24.2.2 = y32)) = true then some false else (if (decide (¬(y24.1.length : Int) = 0)) = true then some false else (if (decide (¬y24.2.1 = 0)) = true then some false else (if (decide (¬y31 = 0)) = true then (if (decide (y15.2 = y31)) = true then some (decide ((y15.1.length : Int) = 0)) else some false) else ((aH F d x8 x.inputs x.state).bind fun y39 => (if y39 = true then (if (decide (y15.2 = 0)) = true then ((aB F d x8 x.inputs x.state).bind fun y42 => ((aj F y15.1 y42).bind fun y43 => some y43)) else some false) else (if (decide (y15.2 = 24)) = true then some (decide ((y15.1.length : Int) = 0)) else some false))))))) else ((fC F d rules x.inputs x.state).bind fun y45 => (if (decide (¬y24.2.2 = 0)) = true then some false else (if (decide (¬y24.2.1 = y45.2)) = true then some false else ((cy F y24.1 y45.1).bind fun y48 => (if y48 = true then (if (decide (¬y31 = 0)) = true then (if (decide (y15.2 = y31)) = true then some (decide ((y15.1.length : Int) = 0)) else some false) else ((aH F d x8 x.inputs x.state).bind fun y52 => (if y52 = true then (if (decide (y15.2 = 0)) = true then ((aB F d x8 x.inputs x.state).bind fun y55 => ((aj F y15.1 y55).bind fun y56 => some y56)) else some false) else (if (decide (y15.2 = 24)) = true then some (decide ((y15.1.length : Int) = 0)) else some false)))) else some false)))))))))))) else (if (decide (¬y25 = 0)) = true then (if (decide (¬y24.2.2 = y25)) = true then some false else (if (decide (¬(y24.1.length : Int) = 0)) = true then some false else (if (decide (¬y24.2.1 = 0)) = true then some false else (if (decide (y15.2 = y25)) = true then some (decide ((y15.1.length : Int) = 0)) else some false)))) else ((fC F d rules x.inputs x.state).bind fun y63 => (if (decide (¬y24.2.2 = 0)) = true then some false else (if (decide (¬y24.2.1 = y63.2)) = true then some false else ((cy F y24.1 y63.1).bind fun y66 => (if y66 = true then ((aH F d x8 x.inputs x.state).bind fun y68 => (if y68 = true then (if (decide (y15.2 = 0)) = true then ((aB F d x8 x.inputs x.state).bind fun y71 => ((aj F y15.1 y71).bind fun y72 => some y72)) else some false) else (if (decide (y15.2 = 24)) = true then some (decide ((y15.1.length : Int) = 0)) else some false))) else some false))))))))) else none) else none) else none) else none)) else none) else none) else none)) else (if SmallD d then (if x.inputs.length ≤ 1000000 then (if x.state.length ≤ 1000000 then ((dI F d 0 x.inputs x.state).bind fun y80 => (if SmallD d then (if rules.length ≤ 1000000 then (if x.inputs.length ≤ 1000000 then (if x.state.length ≤ 1000000 then ((eZ F d rules x.inputs x.state).bind fun y89 => ((eM F d).bind fun y90 => (if (decide (y90 = 0)) = true then ((cw F d 0).bind fun y92 => ((aJ F d x.inputs).bind fun y93 => ((cI F d x.state).bind fun y94 => ((bj F y93 y94).bind fun y95 => ((bj F y92 y95).bind fun y96 => ((fH F d rules x.inputs x.state).bind fun y97 => (if (decide (¬y97 = 0)) = true then (if (decide (¬y89.2.2 = y97)) = true then some false else (if (decide (¬(y89.1.length : Int) = 0)) = true then some false else (if (decide (¬y89.2.1 = 0)) = true then some false else (if (decide (¬y96 = 0)) = true then (if (decide (y80.2 = y96)) = true then some (decide ((y80.1.length : Int) = 0)) else some false) else ((aH F d 0 x.inputs x.state).bind fun y104 => (if y104 = true then (if (decide (y80.2 = 0)) = true then ((aB F d 0 x.inputs x.state).bind fun y107 => ((aj F y80.1 y107).bind fun y108 => some y108)) else some false) else (if (decide (y80.2 = 24)) = true then some (decide ((y80.1.length : Int) = 0)) else some false))))))) else ((fC F d rules x.inputs x.state).bind fun y110 => (if (decide (¬y89.2.2 = 0)) = true then some false else (if (decide (¬y89.2.1 = y110.2)) = true then some false else ((cy F y89.1 y110.1).bind fun y113 => (if y113 = true then (if (decide (¬y96 = 0)) = true then (if (decide (y80.2 = y96)) = true then some (decide ((y80.1.length : Int) = 0)) else some false) else ((aH F d 0 x.inputs x.state).bind fun y117 => (if y117 = true then (if (decide (y80.2 = 0)) = true then ((aB F d 0 x.inputs x.state).bind fun y120 => ((aj F y80.1 y120).bind fun y121 => some y121)) else some false) else (if (decide (y80.2 = 24)) = true then some (decide ((y80.1.length : Int) = 0)) else some false)))) else some false)))))))))))) else (if (decide (¬y90 = 0)) = true then (if (decide (¬y89.2.2 = y90)) = true then some false else (if (decide (¬(y89.1.length : Int) = 0)) = true then some false else (if (decide (¬y89.2.1 = 0)) = true then some false else (if (decide (y80.2 = y90)) = true then some (decide ((y80.1.length : Int) = 0)) else some false)))) else ((fC F d rules x.inputs x.state).bind fun y128 => (if (decide (¬y89.2.2 = 0)) = true then some false else (if (decide (¬y89.2.1 = y128.2)) = true then some false else ((cy F y89.1 y128.1).bind fun y131 => (if y131 = true then ((aH F d 0 x.inputs x.state).bind fun y133 => (if y133 = true then (if (decide (y80.2 = 0)) = true then ((aB F d 0 x.inputs x.state).bind fun y136 => ((aj F y80.1 y136).bind fun y137 => some y137)) else some false) else (if (decide (y80.2 = 24)) = true then some (decide ((y80.1.length : Int) = 0)) else some false))) else some false))))))))) else none) else none) else none) else none)) else none) else none) else none))))) else some true))
theorem nZ (bs : List Nat) (H : Heap) (F : Nat) (d : Desg) (rules : List Int) (x : Vals) (R : Bool) (hR0 : fT F d rules x = some R) : callw X2 bs 3 [(encDesg d), .list (rules.map (V.int .i64)), (encVals x)] H = some (.bool R, H) := by
 refine yw2 (rs := [.tmp 6]) (N := 173) (fn := Tryz.f3) xk3 xf3 ?_
 have hR := Kp.mk hR0
 clear hR0
 rw [fT] at hR
 (try simp only [cellsDesg, cellsVals, encDesg, encInts, encVals])
 have k1_k := fun bs H => ub bs H
 obtain ⟨y2, y2_e, hR⟩ := bindE hR
 have y2_k := fun bs H => ab (kE bs H F d y2 y2_e)
 (try simp only [cellsDesg, encDesg, encInts] at y2_k)
 try refine zw ?_
 clear k1_k y2_k
 rcases iteE hR with ⟨c3, hR⟩ | ⟨c3, hR⟩
 ·try refine zw ?_
  rcases iteE hR with ⟨c4, hR⟩ | ⟨c4, hR⟩
  ·obtain rfl := someE hR
   exact zv
  ·try refine zw ?_
   rcases iteE hR with ⟨c5, hR⟩ | ⟨c5, hR⟩
   ·obtain rfl := someE hR
    exact zv
   ·try refine zw ?_
    rcases iteE hR with ⟨c6, hR⟩ | ⟨c6, hR⟩
    ·obtain rfl := someE hR
     exact zv
    ·try refine zw ?_
     rcases iteE hR with ⟨c7, hR⟩ | ⟨c7, hR⟩
     ·obtain ⟨x8, x8_e, hR⟩ := bindE hR
      obtain ⟨g9, hR⟩ := grdE hR
      have k10_k := fun bs H => ab (dy bs H d g9)
      (try simp only [cellsDesg, encDesg, encInts] at k10_k)
      obtain ⟨g11, hR⟩ := grdE hR
      have k12_k := fun bs H => ab (bB bs H x.inputs g11)
      obtain ⟨g13, hR⟩ := grdE hR
      have k14_k := fun bs H => ab (bB bs H x.state g13)
      obtain ⟨y15, y15_e, hR⟩ := bindE hR
      have y15_k := fun bs H => ab (iu bs H F d x8 x.inputs x.state y15 y15_e)
      (try simp only [cellsDesg, encDesg, encInts] at y15_k)
      obtain ⟨g16, hR⟩ := grdE hR
      have k17_k := fun bs H => ab (dy bs H d g16)
      (try simp only [cellsDesg, encDesg, encInts] at k17_k)
      obtain ⟨g18, hR⟩ := grdE hR
      have k19_k := fun bs H => ab (bB bs H rules g18)
      obtain ⟨g20, hR⟩ := grdE hR
      have k21_k := fun bs H => ab (bB bs H x.inputs g20)
      obtain ⟨g22, hR⟩ := grdE hR
      have k23_k := fun bs H => ab (bB bs H x.state g22)
      obtain ⟨y24, y24_e, hR⟩ := bindE hR
      have y24_k := fun bs H => ab (jo bs H F d rules x.inputs x.state y24 y24_e)
      (try simp only [cellsDesg, encDesg, encInts] at y24_k)
      obtain ⟨y25, y25_e, hR⟩ := bindE hR
      have y25_k := fun bs H => ab (kG bs H F d y25 y25_e)
      (try simp only [cellsDesg, encDesg, encInts] at y25_k)
      try refine zu ?_
      (refine yw1 (id := 8) oz57 [(3, 6), (5, 6), (5, 7)] ?_)
      try refine zu ?_
      (refine yw1 (id := 9) oz58 [(3, 6), (3, 7), (5, 6), (5, 7), (5, 8)] ?_)
      try refine zw ?_
      clear k10_k k12_k k14_k y15_k k17_k k19_k k21_k k23_k y24_k y25_k
      rcases iteE hR with ⟨c26, hR⟩ | ⟨c26, hR⟩
      ·obtain ⟨y27, y27_e, hR⟩ := bindE hR
       have y27_k := fun bs H => ab (iI bs H F d x8 y27 y27_e)
       (try simp only [cellsDesg, encDesg, encInts] at y27_k)
       obtain ⟨y28, y28_e, hR⟩ := bindE hR
       have y28_k := fun bs H => ab (cv bs H F d x.inputs y28 y28_e)
       (try simp only [cellsDesg, encDesg, encInts] at y28_k)
       obtain ⟨y29, y29_e, hR⟩ := bindE hR
       have y29_k := fun bs H => ab (gj bs H F d x.state y29 y29_e)
       (try simp only [cellsDesg, encDesg, encInts] at y29_k)
       obtain ⟨y30, y30_e, hR⟩ := bindE hR
       have y30_k := fun bs H => ab (dU bs H F y28 y29 y30 y30_e)
       obtain ⟨y31, y31_e, hR⟩ := bindE hR
       have y31_k := fun bs H => ab (dU bs H F y27 y30 y31 y31_e)
       obtain ⟨y32, y32_e, hR⟩ := bindE hR
       have y32_k := fun bs H => ab (lM bs H F d rules x.inputs x.state y32 y32_e)
       (try simp only [cellsDesg, encDesg, encInts] at y32_k)
       try refine zu ?_
       (refine yw1 (id := 13) [0, 1, 3, 4, 5, 7, 8, 9, 2, 6, 10, 11, 12, 13] [(2, 8), (4, 8), (5, 8), (5, 9), (7, 8), (7, 9)] ?_)
       try refine zw ?_
       clear y27_k y28_k y29_k y30_k y31_k y32_k
       rcases iteE hR with ⟨c33, hR⟩ | ⟨c33, hR⟩
       ·try refine zw ?_
        rcases iteE hR with ⟨c34, hR⟩ | ⟨c34, hR⟩
        ·obtain rfl := someE hR
         exact zv
        ·try refine zw ?_
         rcases iteE hR with ⟨c35, hR⟩ | ⟨c35, hR⟩
         ·obtain rfl := someE hR
          exact zv
         ·try refine zw ?_
          rcases iteE hR with ⟨c36, hR⟩ | ⟨c36, hR⟩
          ·obtain rfl := someE hR
           exact zv
          ·try refine zw ?_
           rcases iteE hR with ⟨c37, hR⟩ | ⟨c37, hR⟩
           ·try refine zw ?_
            rcases iteE hR with ⟨c38, hR⟩ | ⟨c38, hR⟩
            ·obtain rfl := someE hR
             exact zv
            ·obtain rfl := someE hR
             exact zv
           ·obtain ⟨y39, y39_e, hR⟩ := bindE hR
            have y39_k := fun bs H => ab (cH bs H F d x8 x.inputs x.state y39 y39_e)
            (try simp only [cellsDesg, encDesg, encInts] at y39_k)
            try refine zw ?_
            clear y39_k
            rcases iteE hR with ⟨c40, hR⟩ | ⟨c40, hR⟩
            ·try refine zw ?_
             rcases iteE hR with ⟨c41, hR⟩ | ⟨c41, hR⟩
             ·obtain ⟨y42, y42_e, hR⟩ := bindE hR
              have y42_k := fun bs H => ab (dp bs H F d x8 x.inputs x.state y42 y42_e)
              (try simp only [cellsDesg, encDesg, encInts] at y42_k)
              obtain ⟨y43, y43_e, hR⟩ := bindE hR
              have y43_k := fun bs H => ab (ax bs H F y15.1 y42 y43 y43_e)
              obtain rfl := someE hR
              exact zv
             ·obtain rfl := someE hR
              exact zv
            ·try refine zw ?_
             rcases iteE hR with ⟨c44, hR⟩ | ⟨c44, hR⟩
             ·obtain rfl := someE hR
              exact zv
             ·obtain rfl := someE hR
              exact zv
       ·obtain ⟨y45, y45_e, hR⟩ := bindE hR
        have y45_k := fun bs H => ab (iN bs H F d rules x.inputs x.state y45 y45_e)
        (try simp only [cellsDesg, encDesg, encInts] at y45_k)
        try refine zw ?_
        clear y45_k
        rcases iteE hR with ⟨c46, hR⟩ | ⟨c46, hR⟩
        ·obtain rfl := someE hR
         exact zv
        ·try refine zw ?_
         rcases iteE hR with ⟨c47, hR⟩ | ⟨c47, hR⟩
         ·obtain rfl := someE hR
          exact zv
         ·obtain ⟨y48, y48_e, hR⟩ := bindE hR
          have y48_k := fun bs H => ab (gC bs H F y24.1 y45.1 y48 y48_e)
          try refine zw ?_
          clear y48_k
          rcases iteE hR with ⟨c49, hR⟩ | ⟨c49, hR⟩
          ·try refine zw ?_
           rcases iteE hR with ⟨c50, hR⟩ | ⟨c50, hR⟩
           ·try refine zw ?_
            rcases iteE hR with ⟨c51, hR⟩ | ⟨c51, hR⟩
            ·obtain rfl := someE hR
             exact zv
            ·obtain rfl := someE hR
             exact zv
           ·obtain ⟨y52, y52_e, hR⟩ := bindE hR
            have y52_k := fun bs H => ab (cH bs H F d x8 x.inputs x.state y52 y52_e)
            (try simp only [cellsDesg, encDesg, encInts] at y52_k)
            try refine zw ?_
            clear y52_k
            rcases iteE hR with ⟨c53, hR⟩ | ⟨c53, hR⟩
            ·try refine zw ?_
             rcases iteE hR with ⟨c54, hR⟩ | ⟨c54, hR⟩
             ·obtain ⟨y55, y55_e, hR⟩ := bindE hR
              have y55_k := fun bs H => ab (dp bs H F d x8 x.inputs x.state y55 y55_e)
              (try simp only [cellsDesg, encDesg, encInts] at y55_k)
              obtain ⟨y56, y56_e, hR⟩ := bindE hR
              have y56_k := fun bs H => ab (ax bs H F y15.1 y55 y56 y56_e)
              obtain rfl := someE hR
              exact zv
             ·obtain rfl := someE hR
              exact zv
            ·try refine zw ?_
             rcases iteE hR with ⟨c57, hR⟩ | ⟨c57, hR⟩
             ·obtain rfl := someE hR
              exact zv
             ·obtain rfl := someE hR
              exact zv
          ·obtain rfl := someE hR
           exact zv
      ·try refine zw ?_
       rcases iteE hR with ⟨c58, hR⟩ | ⟨c58, hR⟩
       ·try refine zw ?_
        rcases iteE hR with ⟨c59, hR⟩ | ⟨c59, hR⟩
        ·obtain rfl := someE hR
         exact zv
        ·try refine zw ?_
         rcases iteE hR with ⟨c60, hR⟩ | ⟨c60, hR⟩
         ·obtain rfl := someE hR
          exact zv
         ·try refine zw ?_
          rcases iteE hR with ⟨c61, hR⟩ | ⟨c61, hR⟩
          ·obtain rfl := someE hR
           exact zv
          ·try refine zw ?_
           rcases iteE hR with ⟨c62, hR⟩ | ⟨c62, hR⟩
           ·obtain rfl := someE hR
            exact zv
           ·obtain rfl := someE hR
            exact zv
       ·obtain ⟨y63, y63_e, hR⟩ := bindE hR
        have y63_k := fun bs H => ab (iN bs H F d rules x.inputs x.state y63 y63_e)
        (try simp only [cellsDesg, encDesg, encInts] at y63_k)
        try refine zw ?_
        clear y63_k
        rcases iteE hR with ⟨c64, hR⟩ | ⟨c64, hR⟩
        ·obtain rfl := someE hR
         exact zv
        ·try refine zw ?_
         rcases iteE hR with ⟨c65, hR⟩ | ⟨c65, hR⟩
         ·obtain rfl := someE hR
          exact zv
         ·obtain ⟨y66, y66_e, hR⟩ := bindE hR
          have y66_k := fun bs H => ab (gC bs H F y24.1 y63.1 y66 y66_e)
          try refine zw ?_
          clear y66_k
          rcases iteE hR with ⟨c67, hR⟩ | ⟨c67, hR⟩
          ·obtain ⟨y68, y68_e, hR⟩ := bindE hR
           have y68_k := fun bs H => ab (cH bs H F d x8 x.inputs x.state y68 y68_e)
           (try simp only [cellsDesg, encDesg, encInts] at y68_k)
           try refine zw ?_
           clear y68_k
           rcases iteE hR with ⟨c69, hR⟩ | ⟨c69, hR⟩
           ·try refine zw ?_
            rcases iteE hR with ⟨c70, hR⟩ | ⟨c70, hR⟩
            ·obtain ⟨y71, y71_e, hR⟩ := bindE hR
             have y71_k := fun bs H => ab (dp bs H F d x8 x.inputs x.state y71 y71_e)
             (try simp only [cellsDesg, encDesg, encInts] at y71_k)
             obtain ⟨y72, y72_e, hR⟩ := bindE hR
             have y72_k := fun bs H => ab (ax bs H F y15.1 y71 y72 y72_e)
             obtain rfl := someE hR
             exact zv
            ·obtain rfl := someE hR
             exact zv
           ·try refine zw ?_
            rcases iteE hR with ⟨c73, hR⟩ | ⟨c73, hR⟩
            ·obtain rfl := someE hR
             exact zv
            ·obtain rfl := someE hR
             exact zv
          ·obtain rfl := someE hR
           exact zv
     ·obtain ⟨g74, hR⟩ := grdE hR
      have k75_k := fun bs H => ab (dy bs H d g74)
      (try simp only [cellsDesg, encDesg, encInts] at k75_k)
      obtain ⟨g76, hR⟩ := grdE hR
      have k77_k := fun bs H => ab (bB bs H x.inputs g76)
      obtain ⟨g78, hR⟩ := grdE hR
      have k79_k := fun bs H => ab (bB bs H x.state g78)
      obtain ⟨y80, y80_e, hR⟩ := bindE hR
      have y80_k := fun bs H => ab (iu bs H F d 0 x.inputs x.state y80 y80_e)
      (try simp only [cellsDesg, encDesg, encInts] at y80_k)
      obtain ⟨g81, hR⟩ := grdE hR
      have k82_k := fun bs H => ab (dy bs H d g81)
      (try simp only [cellsDesg, encDesg, encInts] at k82_k)
      obtain ⟨g83, hR⟩ := grdE hR
      have k84_k := fun bs H => ab (bB bs H rules g83)
      obtain ⟨g85, hR⟩ := grdE hR
      have k86_k := fun bs H => ab (bB bs H x.inputs g85)
      obtain ⟨g87, hR⟩ := grdE hR
      have k88_k := fun bs H => ab (bB bs H x.state g87)
      obtain ⟨y89, y89_e, hR⟩ := bindE hR
      have y89_k := fun bs H => ab (jo bs H F d rules x.inputs x.state y89 y89_e)
      (try simp only [cellsDesg, encDesg, encInts] at y89_k)
      obtain ⟨y90, y90_e, hR⟩ := bindE hR
      have y90_k := fun bs H => ab (kG bs H F d y90 y90_e)
      (try simp only [cellsDesg, encDesg, encInts] at y90_k)
      try refine zu ?_
      (refine yw1 (id := 8) oz57 [(3, 6), (5, 6), (5, 7)] ?_)
      try refine zu ?_
      (refine yw1 (id := 9) oz58 [(3, 6), (3, 7), (5, 6), (5, 7), (5, 8)] ?_)
      try refine zw ?_
      clear k75_k k77_k k79_k y80_k k82_k k84_k k86_k k88_k y89_k y90_k
      rcases iteE hR with ⟨c91, hR⟩ | ⟨c91, hR⟩
      ·obtain ⟨y92, y92_e, hR⟩ := bindE hR
       have y92_k := fun bs H => ab (iI bs H F d 0 y92 y92_e)
       (try simp only [cellsDesg, encDesg, encInts] at y92_k)
       obtain ⟨y93, y93_e, hR⟩ := bindE hR
       have y93_k := fun bs H => ab (cv bs H F d x.inputs y93 y93_e)
       (try simp only [cellsDesg, encDesg, encInts] at y93_k)
       obtain ⟨y94, y94_e, hR⟩ := bindE hR
       have y94_k := fun bs H => ab (gj bs H F d x.state y94 y94_e)
       (try simp only [cellsDesg, encDesg, encInts] at y94_k)
       obtain ⟨y95, y95_e, hR⟩ := bindE hR
       have y95_k := fun bs H => ab (dU bs H F y93 y94 y95 y95_e)
       obtain ⟨y96, y96_e, hR⟩ := bindE hR
       have y96_k := fun bs H => ab (dU bs H F y92 y95 y96 y96_e)
       obtain ⟨y97, y97_e, hR⟩ := bindE hR
       have y97_k := fun bs H => ab (lM bs H F d rules x.inputs x.state y97 y97_e)
       (try simp only [cellsDesg, encDesg, encInts] at y97_k)
       try refine zu ?_
       (refine yw1 (id := 13) [0, 1, 3, 4, 5, 7, 8, 9, 2, 6, 10, 11, 12, 13] [(2, 8), (4, 8), (5, 8), (5, 9), (7, 8), (7, 9)] ?_)
       try refine zw ?_
       clear y92_k y93_k y94_k y95_k y96_k y97_k
       rcases iteE hR with ⟨c98, hR⟩ | ⟨c98, hR⟩
       ·try refine zw ?_
        rcases iteE hR with ⟨c99, hR⟩ | ⟨c99, hR⟩
        ·obtain rfl := someE hR
         exact zv
        ·try refine zw ?_
         rcases iteE hR with ⟨c100, hR⟩ | ⟨c100, hR⟩
         ·obtain rfl := someE hR
          exact zv
         ·try refine zw ?_
          rcases iteE hR with ⟨c101, hR⟩ | ⟨c101, hR⟩
          ·obtain rfl := someE hR
           exact zv
          ·try refine zw ?_
           rcases iteE hR with ⟨c102, hR⟩ | ⟨c102, hR⟩
           ·try refine zw ?_
            rcases iteE hR with ⟨c103, hR⟩ | ⟨c103, hR⟩
            ·obtain rfl := someE hR
             exact zv
            ·obtain rfl := someE hR
             exact zv
           ·obtain ⟨y104, y104_e, hR⟩ := bindE hR
            have y104_k := fun bs H => ab (cH bs H F d 0 x.inputs x.state y104 y104_e)
            (try simp only [cellsDesg, encDesg, encInts] at y104_k)
            try refine zw ?_
            clear y104_k
            rcases iteE hR with ⟨c105, hR⟩ | ⟨c105, hR⟩
            ·try refine zw ?_
             rcases iteE hR with ⟨c106, hR⟩ | ⟨c106, hR⟩
             ·obtain ⟨y107, y107_e, hR⟩ := bindE hR
              have y107_k := fun bs H => ab (dp bs H F d 0 x.inputs x.state y107 y107_e)
              (try simp only [cellsDesg, encDesg, encInts] at y107_k)
              obtain ⟨y108, y108_e, hR⟩ := bindE hR
              have y108_k := fun bs H => ab (ax bs H F y80.1 y107 y108 y108_e)
              obtain rfl := someE hR
              exact zv
             ·obtain rfl := someE hR
              exact zv
            ·try refine zw ?_
             rcases iteE hR with ⟨c109, hR⟩ | ⟨c109, hR⟩
             ·obtain rfl := someE hR
              exact zv
             ·obtain rfl := someE hR
              exact zv
       ·obtain ⟨y110, y110_e, hR⟩ := bindE hR
        have y110_k := fun bs H => ab (iN bs H F d rules x.inputs x.state y110 y110_e)
        (try simp only [cellsDesg, encDesg, encInts] at y110_k)
        try refine zw ?_
        clear y110_k
        rcases iteE hR with ⟨c111, hR⟩ | ⟨c111, hR⟩
        ·obtain rfl := someE hR
         exact zv
        ·try refine zw ?_
         rcases iteE hR with ⟨c112, hR⟩ | ⟨c112, hR⟩
         ·obtain rfl := someE hR
          exact zv
         ·obtain ⟨y113, y113_e, hR⟩ := bindE hR
          have y113_k := fun bs H => ab (gC bs H F y89.1 y110.1 y113 y113_e)
          try refine zw ?_
          clear y113_k
          rcases iteE hR with ⟨c114, hR⟩ | ⟨c114, hR⟩
          ·try refine zw ?_
           rcases iteE hR with ⟨c115, hR⟩ | ⟨c115, hR⟩
           ·try refine zw ?_
            rcases iteE hR with ⟨c116, hR⟩ | ⟨c116, hR⟩
            ·obtain rfl := someE hR
             exact zv
            ·obtain rfl := someE hR
             exact zv
           ·obtain ⟨y117, y117_e, hR⟩ := bindE hR
            have y117_k := fun bs H => ab (cH bs H F d 0 x.inputs x.state y117 y117_e)
            (try simp only [cellsDesg, encDesg, encInts] at y117_k)
            try refine zw ?_
            clear y117_k
            rcases iteE hR with ⟨c118, hR⟩ | ⟨c118, hR⟩
            ·try refine zw ?_
             rcases iteE hR with ⟨c119, hR⟩ | ⟨c119, hR⟩
             ·obtain ⟨y120, y120_e, hR⟩ := bindE hR
              have y120_k := fun bs H => ab (dp bs H F d 0 x.inputs x.state y120 y120_e)
              (try simp only [cellsDesg, encDesg, encInts] at y120_k)
              obtain ⟨y121, y121_e, hR⟩ := bindE hR
              have y121_k := fun bs H => ab (ax bs H F y80.1 y120 y121 y121_e)
              obtain rfl := someE hR
              exact zv
             ·obtain rfl := someE hR
              exact zv
            ·try refine zw ?_
             rcases iteE hR with ⟨c122, hR⟩ | ⟨c122, hR⟩
             ·obtain rfl := someE hR
              exact zv
             ·obtain rfl := someE hR
              exact zv
          ·obtain rfl := someE hR
           exact zv
      ·try refine zw ?_
       rcases iteE hR with ⟨c123, hR⟩ | ⟨c123, hR⟩
       ·try refine zw ?_
        rcases iteE hR with ⟨c124, hR⟩ | ⟨c124, hR⟩
        ·obtain rfl := someE hR
         exact zv
        ·try refine zw ?_
         rcases iteE hR with ⟨c125, hR⟩ | ⟨c125, hR⟩
         ·obtain rfl := someE hR
          exact zv
         ·try refine zw ?_
          rcases iteE hR with ⟨c126, hR⟩ | ⟨c126, hR⟩
          ·obtain rfl := someE hR
           exact zv
          ·try refine zw ?_
           rcases iteE hR with ⟨c127, hR⟩ | ⟨c127, hR⟩
           ·obtain rfl := someE hR
            exact zv
           ·obtain rfl := someE hR
            exact zv
       ·obtain ⟨y128, y128_e, hR⟩ := bindE hR
        have y128_k := fun bs H => ab (iN bs H F d rules x.inputs x.state y128 y128_e)
        (try simp only [cellsDesg, encDesg, encInts] at y128_k)
        try refine zw ?_
        clear y128_k
        rcases iteE hR with ⟨c129, hR⟩ | ⟨c129, hR⟩
        ·obtain rfl := someE hR
         exact zv
        ·try refine zw ?_
         rcases iteE hR with ⟨c130, hR⟩ | ⟨c130, hR⟩
         ·obtain rfl := someE hR
          exact zv
         ·obtain ⟨y131, y131_e, hR⟩ := bindE hR
          have y131_k := fun bs H => ab (gC bs H F y89.1 y128.1 y131 y131_e)
          try refine zw ?_
          clear y131_k
          rcases iteE hR with ⟨c132, hR⟩ | ⟨c132, hR⟩
          ·obtain ⟨y133, y133_e, hR⟩ := bindE hR
           have y133_k := fun bs H => ab (cH bs H F d 0 x.inputs x.state y133 y133_e)
           (try simp only [cellsDesg, encDesg, encInts] at y133_k)
           try refine zw ?_
           clear y133_k
           rcases iteE hR with ⟨c134, hR⟩ | ⟨c134, hR⟩
           ·try refine zw ?_
            rcases iteE hR with ⟨c135, hR⟩ | ⟨c135, hR⟩
            ·obtain ⟨y136, y136_e, hR⟩ := bindE hR
             have y136_k := fun bs H => ab (dp bs H F d 0 x.inputs x.state y136 y136_e)
             (try simp only [cellsDesg, encDesg, encInts] at y136_k)
             obtain ⟨y137, y137_e, hR⟩ := bindE hR
             have y137_k := fun bs H => ab (ax bs H F y80.1 y136 y137 y137_e)
             obtain rfl := someE hR
             exact zv
            ·obtain rfl := someE hR
             exact zv
           ·try refine zw ?_
            rcases iteE hR with ⟨c138, hR⟩ | ⟨c138, hR⟩
            ·obtain rfl := someE hR
             exact zv
            ·obtain rfl := someE hR
             exact zv
          ·obtain rfl := someE hR
           exact zv
 ·obtain rfl := someE hR
  exact zv
end
end Go.E
namespace Go.E
open Classical
variable {F : Nat} (hF : 1000000 < F)
theorem wR (a b : Int) : bj F a b = some (if a = 0 then b else a) := by
 unfold bj
 by_cases h : a = 0 <;> simp [h]
theorem yt {d : Desg} {rules l s : List Int} (h : runErrV d rules l s = 0) : (∀ r ∈ rules, ruleErrR d r = 0) ∧ valErrS (inWs d) l = 0 ∧ valErrS (elWs d) s = 0 := by
 unfold runErrV at h
 split at h
 ·omega
 split at h
 case isFalse h1 => exact absurd h h1
 rename_i h1
 split at h
 case isFalse h2 => exact absurd h h2
 rename_i h2
 exact ⟨fun r hr => nF (fun r => ruleErrR d r) rules h1 r hr, h2, h⟩
theorem sE {d : Desg} (ok : OkD d) {l : List Int} (hl : LeafOk (inWs d) l) : ∀ (rs : List Int) (i : Nat) (s : List Int) (out : List (List Int)), (∀ r ∈ rs, ruleErrR d r = 0) → LeafOk (elWs d) s → (∀ x ∈ out, LeafOk (elWs d) x) →
  (∀ x ∈ (runGo d l rs i s out).1, LeafOk (elWs d) x) ∧ (runGo d l rs i s out).1.length ≤ out.length + rs.length
 | [], i, s, out, _, _, ho => ⟨ho, by simp [runGo]⟩
 | r :: rs, i, s, out, hr, hs, ho => by
  unfold runGo
  split
  ·have h1 := oL ok (hr r (by simp)) hl hs
   have := sE ok hl rs (i + 1) (hapD d r l s) (out ++ [hapD d r l s]) (fun x hx => hr x (by simp [hx])) h1 (fun x hx => by
    rcases List.mem_append.1 hx with hx | hx
    ·exact ho x hx
    ·obtain rfl := List.mem_singleton.1 hx; exact h1)
   exact ⟨this.1, by have h2 := this.2; simp at h2 ⊢; omega⟩
  ·exact ⟨ho, by simp⟩
include hF in
theorem A1 (d : Desg) (rules : List Int) (x : Vals) : fT F d rules x = some true := by
 obtain ⟨b, hb, hS⟩ := pR hF d
 obtain ⟨l, s⟩ := x
 unfold fT
 rw [hb, Option.bind_some]
 cases b with
 | false => rfl
 | true =>
 have hS := hS rfl
 rw [if_pos rfl]
 by_cases h62 : (62 : Int) < rules.length
 ·rw [if_pos (decide_eq_true h62)]
 rw [if_neg (by simpa using h62)]
 simp only
 by_cases hi : (60 : Int) < l.length
 ·rw [if_pos (decide_eq_true hi)]
 rw [if_neg (by simpa using hi)]
 by_cases hs : (60 : Int) < s.length
 ·rw [if_pos (decide_eq_true hs)]
 rw [if_neg (by simpa using hs)]
 have hi6 : l.length ≤ 1000000 := by omega
 have hs6 : s.length ≤ 1000000 := by omega
 have hr6 : rules.length ≤ 1000000 := by omega
 have hr3 : rules.length ≤ 1000 := by omega
 by_cases h0 : 0 < rules.length
 ·rw [if_pos (decide_eq_true (by omega)), bu h0, Option.bind_some]
  generalize rules[0] = r
  simp only [if_pos hS.small, if_pos hr6, if_pos hi6, if_pos hs6, pJ hF hS r l s hi6 hs6, tW hF hS rules l s hr3 hi6 hs6, zj hF hS, Option.bind_some]
  by_cases he : (designErrR d).2 = 0
  case neg =>
   have e1 : hapErrR d r l s = (designErrR d).2 := by simp [hapErrR, he]
   have e2 : runErrR d rules l s = (designErrR d).2 := by simp [runErrR, he]
   simp [happenedR, runOfR, e1, e2, he]
  have ok : OkD d := ⟨hS, he⟩
  have e2 : runErrR d rules l s = runErrV d rules l s := by simp [runErrR, runErrV, he]
  have e1 : hapErrR d r l s = if ruleErrR d r = 0 then (if valErrS (inWs d) l = 0 then valErrS (elWs d) s else valErrS (inWs d) l) else ruleErrR d r := by simp [hapErrR, he]
  simp only [qR hS, rm hF ok l hi6, rn hF ok s hs6, wR, wN hF ok rules l s hr3 hi6 hs6, Option.bind_some, runOfR, happenedR, e1, e2]
  have fin : ruleErrR d r = 0 → valErrS (inWs d) l = 0 → valErrS (elWs d) s = 0 → aH F d r l s = some (enAt d (valsD d l s) r.toNat) ∧ aB F d r l s = some (hapD d r l s) ∧ aj F (hapD d r l s) (hapD d r l s) = some true := fun a1 a2 a3 => by
   have b2 := (aT ok.inW).1 a2
   have b3 := (aT ok.elW).1 a3
   refine ⟨nK ok a1 b2 b3, pQ hF ok a1 b2 b3, ?_⟩
   have := (oL ok a1 b2 b3).1
   have h4 := hS.elements
   rw [lq hF _ _ (by rw [this]; simp [elWs]; omega)]; simp
  by_cases hk : runErrV d rules l s = 0
  case neg =>
   by_cases h1 : ruleErrR d r = 0
   case neg => simp [he, hk, h1]
   by_cases h2 : valErrS (inWs d) l = 0
   case neg => simp [he, hk, h1, h2]
   by_cases h3 : valErrS (elWs d) s = 0
   case neg => simp [he, hk, h1, h2, h3]
   obtain ⟨f1, f2, f3⟩ := fin h1 h2 h3
   cases h4 : enAt d (valsD d l s) r.toNat <;> simp [he, hk, h1, h2, h3, f1, f2, f3, h4]
  obtain ⟨q1, q2, q3⟩ := yt hk
  have b2 := (aT ok.inW).1 q2
  have b3 := (aT ok.elW).1 q3
  have hb0 := oz ok b3
  have hg := sE ok b2 rules 0 (begL d.elements s) [begL d.elements s] q1 hb0 (fun x hx => by obtain rfl := List.mem_singleton.1 hx; exact hb0)
  have hli : cy F (runR d rules l s).1 (runR d rules l s).1 = some true := by
   rw [tY hF _ _ (by have := hg.2; unfold runR; simp at this; omega) (fun x hx => by rw [(hg.1 x hx).1]; have := hS.elements; simp [elWs]; omega)]; simp
  simp only [Ee hF ok b2 b3 rules hr3 q1, Option.bind_some]
  by_cases h1 : ruleErrR d r = 0
  case neg => simp [he, hk, h1, q2, q3, hli]
  obtain ⟨f1, f2, f3⟩ := fin h1 q2 q3
  cases h4 : enAt d (valsD d l s) r.toNat <;> simp [he, hk, h1, q2, q3, f1, f2, f3, h4, hli]
 ·rw [if_neg (by simpa using h0)]
  simp only [if_pos hS.small, if_pos hr6, if_pos hi6, if_pos hs6, pJ hF hS 0 l s hi6 hs6, tW hF hS rules l s hr3 hi6 hs6, zj hF hS, Option.bind_some]
  by_cases he : (designErrR d).2 = 0
  case neg =>
   have e1 : hapErrR d 0 l s = (designErrR d).2 := by simp [hapErrR, he]
   have e2 : runErrR d rules l s = (designErrR d).2 := by simp [runErrR, he]
   simp [happenedR, runOfR, e1, e2, he]
  have ok : OkD d := ⟨hS, he⟩
  have e2 : runErrR d rules l s = runErrV d rules l s := by simp [runErrR, runErrV, he]
  have e1 : hapErrR d 0 l s = if ruleErrR d 0 = 0 then (if valErrS (inWs d) l = 0 then valErrS (elWs d) s else valErrS (inWs d) l) else ruleErrR d 0 := by simp [hapErrR, he]
  simp only [qR hS, rm hF ok l hi6, rn hF ok s hs6, wR, wN hF ok rules l s hr3 hi6 hs6, Option.bind_some, runOfR, happenedR, e1, e2]
  have fin : ruleErrR d 0 = 0 → valErrS (inWs d) l = 0 → valErrS (elWs d) s = 0 → aH F d 0 l s = some (enAt d (valsD d l s) 0) ∧ aB F d 0 l s = some (hapD d 0 l s) ∧ aj F (hapD d 0 l s) (hapD d 0 l s) = some true := fun a1 a2 a3 => by
   have b2 := (aT ok.inW).1 a2
   have b3 := (aT ok.elW).1 a3
   refine ⟨nK ok a1 b2 b3, pQ hF ok a1 b2 b3, ?_⟩
   have := (oL ok a1 b2 b3).1
   have h4 := hS.elements
   rw [lq hF _ _ (by rw [this]; simp [elWs]; omega)]; simp
  by_cases hk : runErrV d rules l s = 0
  case neg =>
   by_cases h1 : ruleErrR d 0 = 0
   case neg => simp [he, hk, h1]
   by_cases h2 : valErrS (inWs d) l = 0
   case neg => simp [he, hk, h1, h2]
   by_cases h3 : valErrS (elWs d) s = 0
   case neg => simp [he, hk, h1, h2, h3]
   obtain ⟨f1, f2, f3⟩ := fin h1 h2 h3
   cases h4 : enAt d (valsD d l s) 0 <;> simp [he, hk, h1, h2, h3, f1, f2, f3, h4]
  obtain ⟨q1, q2, q3⟩ := yt hk
  have b2 := (aT ok.inW).1 q2
  have b3 := (aT ok.elW).1 q3
  have hb0 := oz ok b3
  have hg := sE ok b2 rules 0 (begL d.elements s) [begL d.elements s] q1 hb0 (fun x hx => by obtain rfl := List.mem_singleton.1 hx; exact hb0)
  have hli : cy F (runR d rules l s).1 (runR d rules l s).1 = some true := by
   rw [tY hF _ _ (by have := hg.2; unfold runR; simp at this; omega) (fun x hx => by rw [(hg.1 x hx).1]; have := hS.elements; simp [elWs]; omega)]; simp
  simp only [Ee hF ok b2 b3 rules hr3 q1, Option.bind_some]
  by_cases h1 : ruleErrR d 0 = 0
  case neg => simp [he, hk, h1, q2, q3, hli]
  obtain ⟨f1, f2, f3⟩ := fin h1 q2 q3
  cases h4 : enAt d (valsD d l s) 0 <;> simp [he, hk, h1, q2, q3, f1, f2, f3, h4, hli]
end Go.E
namespace Go.E
open Go.Proofs
theorem Ck (d : Desg) (r : List Int) (x : Vals) : callw X2 [] 3 [.agg (cellsDesg d), .list (r.map (.int .i64)), .agg (cellsVals x)] [] = some (.bool true, []) := nZ [] [] 1000001 d r x true (A1 (by decide) d r x)
end Go.E
