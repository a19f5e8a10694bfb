/- Laws of chapter 15 in E. Own work. -/
import Derived.Test.YtoljdokffnjapaaGreatP8
import Derived.Test.YtoljdokffnjapaaGreatP6
import Derived.Test.YtoljdokffnjapaaGreatP9
import Derived.Test.YtoljdokffnjapaaGreatP7
import Derived.Test.YtoljdokffnjapaaGreatP5
import Derived.Test.YtoljdokffnjapaaGreatP11
import Derived.Test.YtoljdokffnjapaaGreatP2
set_option linter.all false
set_option linter.all false
namespace Go.E
open Go.Proofs Classical
set_option maxRecDepth 100000
set_option maxHeartbeats 20000000
noncomputable section
def fJ (F : Nat) (d : Desg) (inputs : List Int) (state : List Int) : Option (Bool) := ((gg F d).bind fun y2 => (if y2 = true then (if (decide ((60 : Int) < (inputs.length : Int))) = true then some true else (if (decide ((60 : Int) < (state.length : Int))) = true then some true else (if SmallD d then ((gb F d).bind fun y8 => (if SmallD d then (if state.length ≤ 1000000 then ((gc F d state).bind fun y13 => (if SmallD d then (if inputs.length ≤ 1000000 then (if state.length ≤ 1000000 then ((fu F d inputs state).bind fun y20 => (if SmallD d then (if inputs.length ≤ 1000000 then (if state.length ≤ 1000000 then ((fw F d inputs state).bind fun y27 => ((eM F d).bind fun y28 => (if (decide (¬y28 = 0)) = true then (if (decide (y8.2 = y28)) = true then (if (decide ((y8.1.length : Int) = 0)) = true then (if (decide (y13.2 = y28)) = true then (if (decide ((y13.1.length : Int) = 0)) = true then (if (decide (y20.2 = y28)) = true then (if (decide ((y20.1.length : Int) = 0)) = true then (if (decide (y27.2 = y28)) = true then some (decide ((y27.1.length : Int) = 0)) else some false) else some false) else some false) else some false) else some false) else some false) else some false) else (if (decide (¬y8.2 = 0)) = true then some false else ((gQ F d).bind fun y38 => ((aj F y8.1 y38).bind fun y39 => (if y39 = true then ((cI F d state).bind fun y41 => (if (decide (¬y41 = 0)) = true then (if (decide (¬y13.2 = y41)) = true then some false else (if (decide (¬(y13.1.length : Int) = 0)) = true then some false else (if (decide (y41 = 0)) = true then (if (decide (¬y13.2 = 0)) = true then some false else ((dx F d state).bind fun y47 => ((aj F y13.1 y47).bind fun y48 => (if y48 = true then ((aJ F d inputs).bind fun y50 => ((bj F y50 y41).bind fun y51 => (if (decide (¬y51 = 0)) = true then (if (decide (y20.2 = y51)) = true then (if (decide ((y20.1.length : Int) = 0)) = true then (if (decide (y27.2 = y51)) = true then some (decide ((y27.1.length : Int) = 0)) else some false) else some false) else some false) else (if (decide (y20.2 = 0)) = true then ((dt F d inputs state).bind fun y57 => ((aj F y20.1 y57).bind fun y58 => (if y58 = true then (if (decide (y27.2 = 0)) = true then ((du F d inputs state).bind fun y61 => ((aj F y27.1 y61).bind fun y62 => some y62)) else some false) else some false))) else some false)))) else some false)))) else ((aJ F d inputs).bind fun y63 => ((bj F y63 y41).bind fun y64 => (if (decide (¬y64 = 0)) = true then (if (decide (y20.2 = y64)) = true then (if (decide ((y20.1.length : Int) = 0)) = true then (if (decide (y27.2 = y64)) = true then some (decide ((y27.1.length : Int) = 0)) else some false) else some false) else some false) else (if (decide (y20.2 = 0)) = true then ((dt F d inputs state).bind fun y70 => ((aj F y20.1 y70).bind fun y71 => (if y71 = true then (if (decide (y27.2 = 0)) = true then ((du F d inputs state).bind fun y74 => ((aj F y27.1 y74).bind fun y75 => some y75)) else some false) else some false))) else some false))))))) else (if (decide (y41 = 0)) = true then (if (decide (¬y13.2 = 0)) = true then some false else ((dx F d state).bind fun y78 => ((aj F y13.1 y78).bind fun y79 => (if y79 = true then ((aJ F d inputs).bind fun y81 => ((bj F y81 y41).bind fun y82 => (if (decide (¬y82 = 0)) = true then (if (decide (y20.2 = y82)) = true then (if (decide ((y20.1.length : Int) = 0)) = true then (if (decide (y27.2 = y82)) = true then some (decide ((y27.1.length : Int) = 0)) else some false) else some false) else some false) else (if (decide (y20.2 = 0)) = true then ((dt F d inputs state).bind fun y88 => ((aj F y20.1 y88).bind fun y89 => (if y89 = true then (if (decide (y27.2 = 0)) = true then ((du F d inputs state).bind fun y92 => ((aj F y27.1 y92).bind fun y93 => some y93)) else some false) else some false))) else some false)))) else some false)))) else ((aJ F d inputs).bind fun y94 => ((bj F y94 y41).bind fun y95 => (if (decide (¬y95 = 0)) = true then (if (decide (y20.2 = y95)) = true then (if (decide ((y20.1.length : Int) = 0)) = true then (if (decide (y27.2 = y95)) = true then some (decide ((y27.1.length : Int) = 0)) else some false) else some false) else some false) else (if (decide (y20.2 = 0)) = true then ((dt F d inputs state).bind fun y101 => ((aj F y20.1 y101).bind fun y102 => (if y102 = true then (if (decide (y27.2 = 0)) = true then ((du F d inputs state).bind fun y105 => ((aj F y27.1 y105).bind fun y106 => some y106)) else some false) else some false))) else some false))))))) else some false))))))) else none) else none) else none)) else none) else none) else none)) else none) else none)) else none))) else some true))
theorem np (bs : List Nat) (H : Heap) (F : Nat) (d : Desg) (inputs : List Int) (state : List Int) (R : Bool) (hR0 : fJ F d inputs state = some R) : callw X2 bs 7 [(encDesg d), .list (inputs.map (V.int .i64)), .list (state.map (V.int .i64))] H = some (.bool R, H) := by
 refine yw2 (rs := [.tmp 6]) (N := 194) (fn := Tryz.f7) xk7 xf7 ?_
 have hR := Kp.mk hR0
 clear hR0
 rw [fJ] at hR
 (try simp only [cellsDesg, encDesg, encInts])
 have k1_k := fun bs H => ub bs H
 obtain ⟨y2, y2_e, hR⟩ := bindE hR
 have y2_k := fun bs H => ab (kE bs H F d y2 y2_e)
 (try simp only [cellsDesg, encDesg, encInts] at y2_k)
 try refine zw ?_
 clear k1_k y2_k
 rcases iteE hR with ⟨c3, hR⟩ | ⟨c3, hR⟩
 ·try refine zw ?_
  rcases iteE hR with ⟨c4, hR⟩ | ⟨c4, hR⟩
  ·obtain rfl := someE hR
   exact zv
  ·try refine zw ?_
   rcases iteE hR with ⟨c5, hR⟩ | ⟨c5, hR⟩
   ·obtain rfl := someE hR
    exact zv
   ·obtain ⟨g6, hR⟩ := grdE hR
    have k7_k := fun bs H => ab (dy bs H d g6)
    (try simp only [cellsDesg, encDesg, encInts] at k7_k)
    obtain ⟨y8, y8_e, hR⟩ := bindE hR
    have y8_k := fun bs H => ab (qF bs H F d y8 y8_e)
    (try simp only [cellsDesg, encDesg, encInts] at y8_k)
    obtain ⟨g9, hR⟩ := grdE hR
    have k10_k := fun bs H => ab (dy bs H d g9)
    (try simp only [cellsDesg, encDesg, encInts] at k10_k)
    obtain ⟨g11, hR⟩ := grdE hR
    have k12_k := fun bs H => ab (bB bs H state g11)
    obtain ⟨y13, y13_e, hR⟩ := bindE hR
    have y13_k := fun bs H => ab (qG bs H F d state y13 y13_e)
    (try simp only [cellsDesg, encDesg, encInts] at y13_k)
    obtain ⟨g14, hR⟩ := grdE hR
    have k15_k := fun bs H => ab (dy bs H d g14)
    (try simp only [cellsDesg, encDesg, encInts] at k15_k)
    obtain ⟨g16, hR⟩ := grdE hR
    have k17_k := fun bs H => ab (bB bs H inputs g16)
    obtain ⟨g18, hR⟩ := grdE hR
    have k19_k := fun bs H => ab (bB bs H state g18)
    obtain ⟨y20, y20_e, hR⟩ := bindE hR
    have y20_k := fun bs H => ab (pE bs H F d inputs state y20 y20_e)
    (try simp only [cellsDesg, encDesg, encInts] at y20_k)
    obtain ⟨g21, hR⟩ := grdE hR
    have k22_k := fun bs H => ab (dy bs H d g21)
    (try simp only [cellsDesg, encDesg, encInts] at k22_k)
    obtain ⟨g23, hR⟩ := grdE hR
    have k24_k := fun bs H => ab (bB bs H inputs g23)
    obtain ⟨g25, hR⟩ := grdE hR
    have k26_k := fun bs H => ab (bB bs H state g25)
    obtain ⟨y27, y27_e, hR⟩ := bindE hR
    have y27_k := fun bs H => ab (pF bs H F d inputs state y27 y27_e)
    (try simp only [cellsDesg, encDesg, encInts] at y27_k)
    obtain ⟨y28, y28_e, hR⟩ := bindE hR
    have y28_k := fun bs H => ab (kG bs H F d y28 y28_e)
    (try simp only [cellsDesg, encDesg, encInts] at y28_k)
    try refine zw ?_
    clear k7_k y8_k k10_k k12_k y13_k k15_k k17_k k19_k y20_k k22_k k24_k k26_k y27_k y28_k
    rcases iteE hR with ⟨c29, hR⟩ | ⟨c29, hR⟩
    ·try refine zw ?_
     rcases iteE hR with ⟨c30, hR⟩ | ⟨c30, hR⟩
     ·try refine zw ?_
      rcases iteE hR with ⟨c31, hR⟩ | ⟨c31, hR⟩
      ·try refine zw ?_
       rcases iteE hR with ⟨c32, hR⟩ | ⟨c32, hR⟩
       ·try refine zw ?_
        rcases iteE hR with ⟨c33, hR⟩ | ⟨c33, hR⟩
        ·try refine zw ?_
         rcases iteE hR with ⟨c34, hR⟩ | ⟨c34, hR⟩
         ·try refine zw ?_
          rcases iteE hR with ⟨c35, hR⟩ | ⟨c35, hR⟩
          ·try refine zw ?_
           rcases iteE hR with ⟨c36, hR⟩ | ⟨c36, hR⟩
           ·obtain rfl := someE hR
            exact zv
           ·obtain rfl := someE hR
            exact zv
          ·obtain rfl := someE hR
           exact zv
         ·obtain rfl := someE hR
          exact zv
        ·obtain rfl := someE hR
         exact zv
       ·obtain rfl := someE hR
        exact zv
      ·obtain rfl := someE hR
       exact zv
     ·obtain rfl := someE hR
      exact zv
    ·try refine zw ?_
     rcases iteE hR with ⟨c37, hR⟩ | ⟨c37, hR⟩
     ·obtain rfl := someE hR
      exact zv
     ·obtain ⟨y38, y38_e, hR⟩ := bindE hR
      have y38_k := fun bs H => ab (sA bs H F d y38 y38_e)
      (try simp only [cellsDesg, encDesg, encInts] at y38_k)
      obtain ⟨y39, y39_e, hR⟩ := bindE hR
      have y39_k := fun bs H => ab (ax bs H F y8.1 y38 y39 y39_e)
      try refine zw ?_
      clear y38_k y39_k
      rcases iteE hR with ⟨c40, hR⟩ | ⟨c40, hR⟩
      ·obtain ⟨y41, y41_e, hR⟩ := bindE hR
       have y41_k := fun bs H => ab (gj bs H F d state y41 y41_e)
       (try simp only [cellsDesg, encDesg, encInts] at y41_k)
       try refine zw ?_
       clear y41_k
       rcases iteE hR with ⟨c42, hR⟩ | ⟨c42, hR⟩
       ·try refine zw ?_
        rcases iteE hR with ⟨c43, hR⟩ | ⟨c43, hR⟩
        ·obtain rfl := someE hR
         exact zv
        ·try refine zw ?_
         rcases iteE hR with ⟨c44, hR⟩ | ⟨c44, hR⟩
         ·obtain rfl := someE hR
          exact zv
         ·try refine zw ?_
          rcases iteE hR with ⟨c45, hR⟩ | ⟨c45, hR⟩
          ·try refine zw ?_
           rcases iteE hR with ⟨c46, hR⟩ | ⟨c46, hR⟩
           ·obtain rfl := someE hR
            exact zv
           ·obtain ⟨y47, y47_e, hR⟩ := bindE hR
            have y47_k := fun bs H => ab (kg bs H F d state y47 y47_e)
            (try simp only [cellsDesg, encDesg, encInts] at y47_k)
            obtain ⟨y48, y48_e, hR⟩ := bindE hR
            have y48_k := fun bs H => ab (ax bs H F y13.1 y47 y48 y48_e)
            try refine zw ?_
            clear y47_k y48_k
            rcases iteE hR with ⟨c49, hR⟩ | ⟨c49, hR⟩
            ·obtain ⟨y50, y50_e, hR⟩ := bindE hR
             have y50_k := fun bs H => ab (cv bs H F d inputs y50 y50_e)
             (try simp only [cellsDesg, encDesg, encInts] at y50_k)
             obtain ⟨y51, y51_e, hR⟩ := bindE hR
             have y51_k := fun bs H => ab (dU bs H F y50 y41 y51 y51_e)
             try refine zw ?_
             clear y50_k y51_k
             rcases iteE hR with ⟨c52, hR⟩ | ⟨c52, hR⟩
             ·try refine zw ?_
              rcases iteE hR with ⟨c53, hR⟩ | ⟨c53, hR⟩
              ·try refine zw ?_
               rcases iteE hR with ⟨c54, hR⟩ | ⟨c54, hR⟩
               ·try refine zw ?_
                rcases iteE hR with ⟨c55, hR⟩ | ⟨c55, hR⟩
                ·obtain rfl := someE hR
                 exact zv
                ·obtain rfl := someE hR
                 exact zv
               ·obtain rfl := someE hR
                exact zv
              ·obtain rfl := someE hR
               exact zv
             ·try refine zw ?_
              rcases iteE hR with ⟨c56, hR⟩ | ⟨c56, hR⟩
              ·obtain ⟨y57, y57_e, hR⟩ := bindE hR
               have y57_k := fun bs H => ab (gD bs H F d inputs state y57 y57_e)
               (try simp only [cellsDesg, encDesg, encInts] at y57_k)
               obtain ⟨y58, y58_e, hR⟩ := bindE hR
               have y58_k := fun bs H => ab (ax bs H F y20.1 y57 y58 y58_e)
               try refine zw ?_
               clear y57_k y58_k
               rcases iteE hR with ⟨c59, hR⟩ | ⟨c59, hR⟩
               ·try refine zw ?_
                rcases iteE hR with ⟨c60, hR⟩ | ⟨c60, hR⟩
                ·obtain ⟨y61, y61_e, hR⟩ := bindE hR
                 have y61_k := fun bs H => ab (gE bs H F d inputs state y61 y61_e)
                 (try simp only [cellsDesg, encDesg, encInts] at y61_k)
                 obtain ⟨y62, y62_e, hR⟩ := bindE hR
                 have y62_k := fun bs H => ab (ax bs H F y27.1 y61 y62 y62_e)
                 obtain rfl := someE hR
                 exact zv
                ·obtain rfl := someE hR
                 exact zv
               ·obtain rfl := someE hR
                exact zv
              ·obtain rfl := someE hR
               exact zv
            ·obtain rfl := someE hR
             exact zv
          ·obtain ⟨y63, y63_e, hR⟩ := bindE hR
           have y63_k := fun bs H => ab (cv bs H F d inputs y63 y63_e)
           (try simp only [cellsDesg, encDesg, encInts] at y63_k)
           obtain ⟨y64, y64_e, hR⟩ := bindE hR
           have y64_k := fun bs H => ab (dU bs H F y63 y41 y64 y64_e)
           try refine zw ?_
           clear y63_k y64_k
           rcases iteE hR with ⟨c65, hR⟩ | ⟨c65, hR⟩
           ·try refine zw ?_
            rcases iteE hR with ⟨c66, hR⟩ | ⟨c66, hR⟩
            ·try refine zw ?_
             rcases iteE hR with ⟨c67, hR⟩ | ⟨c67, hR⟩
             ·try refine zw ?_
              rcases iteE hR with ⟨c68, hR⟩ | ⟨c68, hR⟩
              ·obtain rfl := someE hR
               exact zv
              ·obtain rfl := someE hR
               exact zv
             ·obtain rfl := someE hR
              exact zv
            ·obtain rfl := someE hR
             exact zv
           ·try refine zw ?_
            rcases iteE hR with ⟨c69, hR⟩ | ⟨c69, hR⟩
            ·obtain ⟨y70, y70_e, hR⟩ := bindE hR
             have y70_k := fun bs H => ab (gD bs H F d inputs state y70 y70_e)
             (try simp only [cellsDesg, encDesg, encInts] at y70_k)
             obtain ⟨y71, y71_e, hR⟩ := bindE hR
             have y71_k := fun bs H => ab (ax bs H F y20.1 y70 y71 y71_e)
             try refine zw ?_
             clear y70_k y71_k
             rcases iteE hR with ⟨c72, hR⟩ | ⟨c72, hR⟩
             ·try refine zw ?_
              rcases iteE hR with ⟨c73, hR⟩ | ⟨c73, hR⟩
              ·obtain ⟨y74, y74_e, hR⟩ := bindE hR
               have y74_k := fun bs H => ab (gE bs H F d inputs state y74 y74_e)
               (try simp only [cellsDesg, encDesg, encInts] at y74_k)
               obtain ⟨y75, y75_e, hR⟩ := bindE hR
               have y75_k := fun bs H => ab (ax bs H F y27.1 y74 y75 y75_e)
               obtain rfl := someE hR
               exact zv
              ·obtain rfl := someE hR
               exact zv
             ·obtain rfl := someE hR
              exact zv
            ·obtain rfl := someE hR
             exact zv
       ·try refine zw ?_
        rcases iteE hR with ⟨c76, hR⟩ | ⟨c76, hR⟩
        ·try refine zw ?_
         rcases iteE hR with ⟨c77, hR⟩ | ⟨c77, hR⟩
         ·obtain rfl := someE hR
          exact zv
         ·obtain ⟨y78, y78_e, hR⟩ := bindE hR
          have y78_k := fun bs H => ab (kg bs H F d state y78 y78_e)
          (try simp only [cellsDesg, encDesg, encInts] at y78_k)
          obtain ⟨y79, y79_e, hR⟩ := bindE hR
          have y79_k := fun bs H => ab (ax bs H F y13.1 y78 y79 y79_e)
          try refine zw ?_
          clear y78_k y79_k
          rcases iteE hR with ⟨c80, hR⟩ | ⟨c80, hR⟩
          ·obtain ⟨y81, y81_e, hR⟩ := bindE hR
           have y81_k := fun bs H => ab (cv bs H F d inputs y81 y81_e)
           (try simp only [cellsDesg, encDesg, encInts] at y81_k)
           obtain ⟨y82, y82_e, hR⟩ := bindE hR
           have y82_k := fun bs H => ab (dU bs H F y81 y41 y82 y82_e)
           try refine zw ?_
           clear y81_k y82_k
           rcases iteE hR with ⟨c83, hR⟩ | ⟨c83, hR⟩
           ·try refine zw ?_
            rcases iteE hR with ⟨c84, hR⟩ | ⟨c84, hR⟩
            ·try refine zw ?_
             rcases iteE hR with ⟨c85, hR⟩ | ⟨c85, hR⟩
             ·try refine zw ?_
              rcases iteE hR with ⟨c86, hR⟩ | ⟨c86, hR⟩
              ·obtain rfl := someE hR
               exact zv
              ·obtain rfl := someE hR
               exact zv
             ·obtain rfl := someE hR
              exact zv
            ·obtain rfl := someE hR
             exact zv
           ·try refine zw ?_
            rcases iteE hR with ⟨c87, hR⟩ | ⟨c87, hR⟩
            ·obtain ⟨y88, y88_e, hR⟩ := bindE hR
             have y88_k := fun bs H => ab (gD bs H F d inputs state y88 y88_e)
             (try simp only [cellsDesg, encDesg, encInts] at y88_k)
             obtain ⟨y89, y89_e, hR⟩ := bindE hR
             have y89_k := fun bs H => ab (ax bs H F y20.1 y88 y89 y89_e)
             try refine zw ?_
             clear y88_k y89_k
             rcases iteE hR with ⟨c90, hR⟩ | ⟨c90, hR⟩
             ·try refine zw ?_
              rcases iteE hR with ⟨c91, hR⟩ | ⟨c91, hR⟩
              ·obtain ⟨y92, y92_e, hR⟩ := bindE hR
               have y92_k := fun bs H => ab (gE bs H F d inputs state y92 y92_e)
               (try simp only [cellsDesg, encDesg, encInts] at y92_k)
               obtain ⟨y93, y93_e, hR⟩ := bindE hR
               have y93_k := fun bs H => ab (ax bs H F y27.1 y92 y93 y93_e)
               obtain rfl := someE hR
               exact zv
              ·obtain rfl := someE hR
               exact zv
             ·obtain rfl := someE hR
              exact zv
            ·obtain rfl := someE hR
             exact zv
          ·obtain rfl := someE hR
           exact zv
        ·obtain ⟨y94, y94_e, hR⟩ := bindE hR
         have y94_k := fun bs H => ab (cv bs H F d inputs y94 y94_e)
         (try simp only [cellsDesg, encDesg, encInts] at y94_k)
         obtain ⟨y95, y95_e, hR⟩ := bindE hR
         have y95_k := fun bs H => ab (dU bs H F y94 y41 y95 y95_e)
         try refine zw ?_
         clear y94_k y95_k
         rcases iteE hR with ⟨c96, hR⟩ | ⟨c96, hR⟩
         ·try refine zw ?_
          rcases iteE hR with ⟨c97, hR⟩ | ⟨c97, hR⟩
          ·try refine zw ?_
           rcases iteE hR with ⟨c98, hR⟩ | ⟨c98, hR⟩
           ·try refine zw ?_
            rcases iteE hR with ⟨c99, hR⟩ | ⟨c99, hR⟩
            ·obtain rfl := someE hR
             exact zv
            ·obtain rfl := someE hR
             exact zv
           ·obtain rfl := someE hR
            exact zv
          ·obtain rfl := someE hR
           exact zv
         ·try refine zw ?_
          rcases iteE hR with ⟨c100, hR⟩ | ⟨c100, hR⟩
          ·obtain ⟨y101, y101_e, hR⟩ := bindE hR
           have y101_k := fun bs H => ab (gD bs H F d inputs state y101 y101_e)
           (try simp only [cellsDesg, encDesg, encInts] at y101_k)
           obtain ⟨y102, y102_e, hR⟩ := bindE hR
           have y102_k := fun bs H => ab (ax bs H F y20.1 y101 y102 y102_e)
           try refine zw ?_
           clear y101_k y102_k
           rcases iteE hR with ⟨c103, hR⟩ | ⟨c103, hR⟩
           ·try refine zw ?_
            rcases iteE hR with ⟨c104, hR⟩ | ⟨c104, hR⟩
            ·obtain ⟨y105, y105_e, hR⟩ := bindE hR
             have y105_k := fun bs H => ab (gE bs H F d inputs state y105 y105_e)
             (try simp only [cellsDesg, encDesg, encInts] at y105_k)
             obtain ⟨y106, y106_e, hR⟩ := bindE hR
             have y106_k := fun bs H => ab (ax bs H F y27.1 y105 y106 y106_e)
             obtain rfl := someE hR
             exact zv
            ·obtain rfl := someE hR
             exact zv
           ·obtain rfl := someE hR
            exact zv
          ·obtain rfl := someE hR
           exact zv
      ·obtain rfl := someE hR
       exact zv
 ·obtain rfl := someE hR
  exact zv
end
end Go.E
namespace Go.E
open Classical
variable {F : Nat} (hF : 1000000 < F)
theorem Ga (a b : Int) : bj F a b = some (if a = 0 then b else a) := by
 unfold bj
 by_cases h : a = 0 <;> simp [h]
include hF in
theorem zp (d : Desg) (inputs state : List Int) : fJ F d inputs state = some true := by
 obtain ⟨b, hb, hS⟩ := pR hF d
 unfold fJ
 rw [hb, Option.bind_some]
 cases b with
 | false => rfl
 | true =>
 have hS := hS rfl
 rw [if_pos rfl]
 by_cases hi : (60 : Int) < inputs.length
 ·rw [if_pos (decide_eq_true hi)]
 by_cases hs : (60 : Int) < state.length
 ·rw [if_neg (by simpa using hi), if_pos (decide_eq_true hs)]
 have hi6 : inputs.length ≤ 1000000 := by omega
 have hs6 : state.length ≤ 1000000 := by omega
 rw [if_neg (by simpa using hi), if_neg (by simpa using hs)]
 simp only [if_pos hS.small, if_pos hi6, if_pos hs6, AO hF hS, AP hF hS state hs6, xF hF hS inputs state hi6 hs6, xG hF hS inputs state hi6 hs6, zj hF hS, Option.bind_some, Ga]
 by_cases he : (designErrR d).2 = 0
 case neg => simp [resetOfR, begunOfR, enabledInR, outputsInR, openErrR, he]
 have ok : OkD d := ⟨hS, he⟩
 have hel := hS.elements
 have hr : (resetD d).length ≤ 1000000 := by simp [resetD]; omega
 simp only [rn hF ok state hs6, rm hF ok inputs hi6, Ci hF hel, Option.bind_some]
 have e1 : resetOfR d = (resetD d, 0) := by simp [resetOfR, he]
 simp only [e1, lq hF _ _ hr, Option.bind_some]
 by_cases h1 : valErrS (elWs d) state = 0
 case neg =>
  have e2 : begunOfR d state = ([], valErrS (elWs d) state) := by simp [begunOfR, he, h1]
  have e0 : openErrR d inputs state = if valErrS (inWs d) inputs = 0 then valErrS (elWs d) state else valErrS (inWs d) inputs := by simp [openErrR, he]
  by_cases h2 : valErrS (inWs d) inputs = 0 <;> simp [he, h1, h2, e2, enabledInR, outputsInR, e0]
 have hst := (aT ok.elW).1 h1
 have hl : state.length = d.elements.length := by rw [hst.1]; simp [elWs]
 have e2 : begunOfR d state = (begL d.elements state, 0) := by simp [begunOfR, he, h1]
 have hbl : (begL d.elements state).length ≤ 1000000 := by rw [yo _ _ hl]; omega
 simp only [e2, yr hF hel hl, Option.bind_some, lq hF _ _ hbl]
 by_cases h2 : valErrS (inWs d) inputs = 0
 case neg =>
  have e0 : openErrR d inputs state = valErrS (inWs d) inputs := by simp [openErrR, he, h2]
  simp [he, h1, h2, enabledInR, outputsInR, e0]
 have hin := (aT ok.inW).1 h2
 have e0 : openErrR d inputs state = 0 := by simp [openErrR, he, h1, h2]
 have e3 : enabledInR d inputs state = (atAll (enAt d (valsD d inputs state)) d.rules.length, 0) := by simp [enabledInR, e0]
 have e4 : outputsInR d inputs state = (outsD d (valsD d inputs state), 0) := by simp [outputsInR, e0]
 have l3 : (atAll (enAt d (valsD d inputs state)) d.rules.length).length ≤ 1000000 := by have := uT (enAt d (valsD d inputs state)) d.rules.length; have := hS.rules; omega
 have l4 : (outsD d (valsD d inputs state)).length ≤ 1000000 := by have := hS.outs; simp [outsD]; omega
 simp only [e3, e4, AW hF ok hin hst, AX hF ok hin hst, lq hF _ _ l3, lq hF _ _ l4, Option.bind_some]
 simp [he, h1, h2]
end Go.E
namespace Go.E
open Go.Proofs
theorem A0 (d : Desg) (i s : List Int) : callw X2 [] 7 [.agg (cellsDesg d), .list (i.map (.int .i64)), .list (s.map (.int .i64))] [] = some (.bool true, []) := np [] [] 1000001 d i s true (zp (by decide) d i s)
end Go.E
