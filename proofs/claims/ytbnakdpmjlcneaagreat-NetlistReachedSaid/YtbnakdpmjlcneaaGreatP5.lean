/- PRINTED by tools/facts.py: facts about the seat's types and functions, each checked by the kernel. -/
import Derived.Test.YtbnakdpmjlcneaaGreatP3
import Derived.Test.YtbnakdpmjlcneaaGreatChecked
import Derived.KernelRfl
import Derived.Below
import Derived.Test.YtbnakdpmjlcneaaGreatP4
set_option linter.all false
namespace Go.E
open Go.Proofs
def thawX : Operand → String → Bool
  | .func f, p => (f == 20) && (p == "hw.go:699")
  | _, _ => false
def vecX (t : TypeId) (p : String) : Bool := (t == 41 && p == "netlist.go:243") || (t == 41 && p == "ref.go:109")
noncomputable def X : Cx := { P := Tryz.prog, keep := knownB [(149, 1)] [(101, 2)] [98, 125], act := sortAct [(125, 126)], vec := vecX, known := knownL [(149, 1)] [(101, 2)] [98], iter := iterB [(208, 4)], own := fun t => t == 41, thaw := thawX, fresh := freshI [20] }
theorem own_X (t : TypeId) : (X.own t = true) = (t = 41) := propext (by show (t == 41) = true ↔ _; exact beq_iff_eq)
theorem xP : X.P = Tryz.prog := rfl
theorem vec_X (t : TypeId) (p : String) : (X.vec t p = true) = ((t = 41 ∧ p = "netlist.go:243") ∨ (t = 41 ∧ p = "ref.go:109")) := propext (by show vecX t p = true ↔ _; simp [vecX])
theorem sz0 : sizeT Tryz.prog 0 = some 1 := by kernel_rfl
theorem by0 : bytesT Tryz.prog 0 = some 0 := by kernel_rfl
theorem ag0 : isAggT Tryz.prog 0 = some false := by kernel_rfl
theorem sz1 : sizeT Tryz.prog 1 = some 1 := by kernel_rfl
theorem by1 : bytesT Tryz.prog 1 = some 8 := by kernel_rfl
theorem ze1 : zeroT Tryz.prog 1 = some (.nilF) := by kernel_rfl
theorem ag1 : isAggT Tryz.prog 1 = some false := by kernel_rfl
theorem sz2 : sizeT Tryz.prog 2 = some 1 := by kernel_rfl
theorem by2 : bytesT Tryz.prog 2 = some 8 := by kernel_rfl
theorem ze2 : zeroT Tryz.prog 2 = some (.int .i64 0) := by kernel_rfl
theorem ag2 : isAggT Tryz.prog 2 = some false := by kernel_rfl
theorem sz3 : sizeT Tryz.prog 3 = some 1 := by kernel_rfl
theorem by3 : bytesT Tryz.prog 3 = some 8 := by kernel_rfl
theorem ze3 : zeroT Tryz.prog 3 = some (.int .i64 0) := by kernel_rfl
theorem ag3 : isAggT Tryz.prog 3 = some false := by kernel_rfl
theorem sz4 : sizeT Tryz.prog 4 = some 1 := by kernel_rfl
theorem by4 : bytesT Tryz.prog 4 = some 1 := by kernel_rfl
theorem ze4 : zeroT Tryz.prog 4 = some (.bool false) := by kernel_rfl
theorem ag4 : isAggT Tryz.prog 4 = some false := by kernel_rfl
theorem sz5 : sizeT Tryz.prog 5 = some 1 := by kernel_rfl
theorem by5 : bytesT Tryz.prog 5 = some 1 := by kernel_rfl
theorem ze5 : zeroT Tryz.prog 5 = some (.int .u8 0) := by kernel_rfl
theorem ag5 : isAggT Tryz.prog 5 = some false := by kernel_rfl
theorem sz6 : sizeT Tryz.prog 6 = some 1 := by kernel_rfl
theorem by6 : bytesT Tryz.prog 6 = some 1 := by kernel_rfl
theorem ze6 : zeroT Tryz.prog 6 = some (.int .u8 0) := by kernel_rfl
theorem ag6 : isAggT Tryz.prog 6 = some false := by kernel_rfl
theorem sz7 : sizeT Tryz.prog 7 = some 4 := by kernel_rfl
theorem by7 : bytesT Tryz.prog 7 = some 24 := by kernel_rfl
theorem ze7 : zeroT Tryz.prog 7 = some (.agg [.int .i64 0, .int .i64 0, .bool false, .int .u8 0]) := by kernel_rfl
theorem ag7 : isAggT Tryz.prog 7 = some true := by kernel_rfl
theorem sz9 : sizeT Tryz.prog 9 = some 1 := by kernel_rfl
theorem by9 : bytesT Tryz.prog 9 = some 16 := by kernel_rfl
theorem ze9 : zeroT Tryz.prog 9 = some (.str { data := #[] }) := by kernel_rfl
theorem ag9 : isAggT Tryz.prog 9 = some false := by kernel_rfl
theorem sz20 : sizeT Tryz.prog 20 = some 1 := by kernel_rfl
theorem by20 : bytesT Tryz.prog 20 = some 16 := by kernel_rfl
theorem ze20 : zeroT Tryz.prog 20 = some (.nilI) := by kernel_rfl
theorem ag20 : isAggT Tryz.prog 20 = some false := by kernel_rfl
theorem sz22 : sizeT Tryz.prog 22 = some 1 := by kernel_rfl
theorem by22 : bytesT Tryz.prog 22 = some 24 := by kernel_rfl
theorem ze22 : zeroT Tryz.prog 22 = some (.nilS) := by kernel_rfl
theorem ag22 : isAggT Tryz.prog 22 = some false := by kernel_rfl
theorem el22 : elemT Tryz.prog 22 = some 93 := by kernel_rfl
theorem sz23 : sizeT Tryz.prog 23 = some 1 := by kernel_rfl
theorem by23 : bytesT Tryz.prog 23 = some 24 := by kernel_rfl
theorem ze23 : zeroT Tryz.prog 23 = some (.nilS) := by kernel_rfl
theorem ag23 : isAggT Tryz.prog 23 = some false := by kernel_rfl
theorem el23 : elemT Tryz.prog 23 = some 95 := by kernel_rfl
theorem sz24 : sizeT Tryz.prog 24 = some 1 := by kernel_rfl
theorem by24 : bytesT Tryz.prog 24 = some 24 := by kernel_rfl
theorem ze24 : zeroT Tryz.prog 24 = some (.nilS) := by kernel_rfl
theorem ag24 : isAggT Tryz.prog 24 = some false := by kernel_rfl
theorem el24 : elemT Tryz.prog 24 = some 91 := by kernel_rfl
theorem sz25 : sizeT Tryz.prog 25 = some 1 := by kernel_rfl
theorem by25 : bytesT Tryz.prog 25 = some 24 := by kernel_rfl
theorem ze25 : zeroT Tryz.prog 25 = some (.nilS) := by kernel_rfl
theorem ag25 : isAggT Tryz.prog 25 = some false := by kernel_rfl
theorem el25 : elemT Tryz.prog 25 = some 97 := by kernel_rfl
theorem sz27 : sizeT Tryz.prog 27 = some 5 := by kernel_rfl
theorem by27 : bytesT Tryz.prog 27 = some 112 := by kernel_rfl
theorem ze27 : zeroT Tryz.prog 27 = some (.agg [.str { data := #[] }, .nilS, .nilS, .nilS, .nilS]) := by kernel_rfl
theorem ag27 : isAggT Tryz.prog 27 = some true := by kernel_rfl
theorem sz30 : sizeT Tryz.prog 30 = some 1 := by kernel_rfl
theorem by30 : bytesT Tryz.prog 30 = some 8 := by kernel_rfl
theorem ze30 : zeroT Tryz.prog 30 = some (.int .i64 0) := by kernel_rfl
theorem ag30 : isAggT Tryz.prog 30 = some false := by kernel_rfl
theorem sz31 : sizeT Tryz.prog 31 = some 1 := by kernel_rfl
theorem by31 : bytesT Tryz.prog 31 = some 0 := by kernel_rfl
theorem ag31 : isAggT Tryz.prog 31 = some false := by kernel_rfl
theorem sz34 : sizeT Tryz.prog 34 = some 1 := by kernel_rfl
theorem by34 : bytesT Tryz.prog 34 = some 24 := by kernel_rfl
theorem ze34 : zeroT Tryz.prog 34 = some (.nilS) := by kernel_rfl
theorem ag34 : isAggT Tryz.prog 34 = some false := by kernel_rfl
theorem el34 : elemT Tryz.prog 34 = some 3 := by kernel_rfl
theorem sz35 : sizeT Tryz.prog 35 = some 1 := by kernel_rfl
theorem by35 : bytesT Tryz.prog 35 = some 0 := by kernel_rfl
theorem ag35 : isAggT Tryz.prog 35 = some false := by kernel_rfl
theorem sz37 : sizeT Tryz.prog 37 = some 1 := by kernel_rfl
theorem by37 : bytesT Tryz.prog 37 = some 0 := by kernel_rfl
theorem ag37 : isAggT Tryz.prog 37 = some false := by kernel_rfl
theorem sz41 : sizeT Tryz.prog 41 = some 1 := by kernel_rfl
theorem by41 : bytesT Tryz.prog 41 = some 24 := by kernel_rfl
theorem ze41 : zeroT Tryz.prog 41 = some (.nilS) := by kernel_rfl
theorem ag41 : isAggT Tryz.prog 41 = some false := by kernel_rfl
theorem el41 : elemT Tryz.prog 41 = some 34 := by kernel_rfl
theorem sz43 : sizeT Tryz.prog 43 = some 1 := by kernel_rfl
theorem by43 : bytesT Tryz.prog 43 = some 0 := by kernel_rfl
theorem ag43 : isAggT Tryz.prog 43 = some false := by kernel_rfl
theorem sz46 : sizeT Tryz.prog 46 = some 1 := by kernel_rfl
theorem by46 : bytesT Tryz.prog 46 = some 0 := by kernel_rfl
theorem ag46 : isAggT Tryz.prog 46 = some false := by kernel_rfl
theorem sz55 : sizeT Tryz.prog 55 = some 1 := by kernel_rfl
theorem by55 : bytesT Tryz.prog 55 = some 0 := by kernel_rfl
theorem ag55 : isAggT Tryz.prog 55 = some false := by kernel_rfl
theorem sz64 : sizeT Tryz.prog 64 = some 10 := by kernel_rfl
theorem by64 : bytesT Tryz.prog 64 = some 224 := by kernel_rfl
theorem ze64 : zeroT Tryz.prog 64 = some (.agg [.str { data := #[] }, .nilS, .nilS, .nilS, .nilS, .str { data := #[] }, .nilS, .nilS, .nilS, .nilS]) := by kernel_rfl
theorem ag64 : isAggT Tryz.prog 64 = some true := by kernel_rfl
theorem sz65 : sizeT Tryz.prog 65 = some 1 := by kernel_rfl
theorem by65 : bytesT Tryz.prog 65 = some 24 := by kernel_rfl
theorem ze65 : zeroT Tryz.prog 65 = some (.nilS) := by kernel_rfl
theorem ag65 : isAggT Tryz.prog 65 = some false := by kernel_rfl
theorem el65 : elemT Tryz.prog 65 = some 69 := by kernel_rfl
theorem sz69 : sizeT Tryz.prog 69 = some 2 := by kernel_rfl
theorem by69 : bytesT Tryz.prog 69 = some 48 := by kernel_rfl
theorem ze69 : zeroT Tryz.prog 69 = some (.agg [.nilS, .nilS]) := by kernel_rfl
theorem ag69 : isAggT Tryz.prog 69 = some true := by kernel_rfl
theorem sz75 : sizeT Tryz.prog 75 = some 1 := by kernel_rfl
theorem by75 : bytesT Tryz.prog 75 = some 0 := by kernel_rfl
theorem ag75 : isAggT Tryz.prog 75 = some false := by kernel_rfl
theorem sz87 : sizeT Tryz.prog 87 = some 1 := by kernel_rfl
theorem by87 : bytesT Tryz.prog 87 = some 8 := by kernel_rfl
theorem ze87 : zeroT Tryz.prog 87 = some (.nilF) := by kernel_rfl
theorem ag87 : isAggT Tryz.prog 87 = some false := by kernel_rfl
theorem sz91 : sizeT Tryz.prog 91 = some 4 := by kernel_rfl
theorem by91 : bytesT Tryz.prog 91 = some 48 := by kernel_rfl
theorem ze91 : zeroT Tryz.prog 91 = some (.agg [.int .i64 0, .int .i64 0, .nilS, .int .i64 0]) := by kernel_rfl
theorem ag91 : isAggT Tryz.prog 91 = some true := by kernel_rfl
theorem sz93 : sizeT Tryz.prog 93 = some 2 := by kernel_rfl
theorem by93 : bytesT Tryz.prog 93 = some 24 := by kernel_rfl
theorem ze93 : zeroT Tryz.prog 93 = some (.agg [.str { data := #[] }, .int .i64 0]) := by kernel_rfl
theorem ag93 : isAggT Tryz.prog 93 = some true := by kernel_rfl
theorem sz95 : sizeT Tryz.prog 95 = some 5 := by kernel_rfl
theorem by95 : bytesT Tryz.prog 95 = some 48 := by kernel_rfl
theorem ze95 : zeroT Tryz.prog 95 = some (.agg [.str { data := #[] }, .int .i64 0, .int .i64 0, .int .i64 0, .int .i64 0]) := by kernel_rfl
theorem ag95 : isAggT Tryz.prog 95 = some true := by kernel_rfl
theorem sz97 : sizeT Tryz.prog 97 = some 2 := by kernel_rfl
theorem by97 : bytesT Tryz.prog 97 = some 24 := by kernel_rfl
theorem ze97 : zeroT Tryz.prog 97 = some (.agg [.str { data := #[] }, .int .i64 0]) := by kernel_rfl
theorem ag97 : isAggT Tryz.prog 97 = some true := by kernel_rfl
theorem sz99 : sizeT Tryz.prog 99 = some 1 := by kernel_rfl
theorem by99 : bytesT Tryz.prog 99 = some 8 := by kernel_rfl
theorem ze99 : zeroT Tryz.prog 99 = some (.nilM) := by kernel_rfl
theorem ag99 : isAggT Tryz.prog 99 = some false := by kernel_rfl
theorem sz100 : sizeT Tryz.prog 100 = some 1 := by kernel_rfl
theorem by100 : bytesT Tryz.prog 100 = some 8 := by kernel_rfl
theorem ze100 : zeroT Tryz.prog 100 = some (.nilF) := by kernel_rfl
theorem ag100 : isAggT Tryz.prog 100 = some false := by kernel_rfl
theorem sz104 : sizeT Tryz.prog 104 = some 1 := by kernel_rfl
theorem by104 : bytesT Tryz.prog 104 = some 8 := by kernel_rfl
theorem ze104 : zeroT Tryz.prog 104 = some (.nilF) := by kernel_rfl
theorem ag104 : isAggT Tryz.prog 104 = some false := by kernel_rfl
theorem sz107 : sizeT Tryz.prog 107 = some 1 := by kernel_rfl
theorem by107 : bytesT Tryz.prog 107 = some 8 := by kernel_rfl
theorem ze107 : zeroT Tryz.prog 107 = some (.nilF) := by kernel_rfl
theorem ag107 : isAggT Tryz.prog 107 = some false := by kernel_rfl
theorem sz110 : sizeT Tryz.prog 110 = some 1 := by kernel_rfl
theorem by110 : bytesT Tryz.prog 110 = some 8 := by kernel_rfl
theorem ze110 : zeroT Tryz.prog 110 = some (.nilF) := by kernel_rfl
theorem ag110 : isAggT Tryz.prog 110 = some false := by kernel_rfl
theorem sz113 : sizeT Tryz.prog 113 = some 1 := by kernel_rfl
theorem by113 : bytesT Tryz.prog 113 = some 8 := by kernel_rfl
theorem ze113 : zeroT Tryz.prog 113 = some (.nilF) := by kernel_rfl
theorem ag113 : isAggT Tryz.prog 113 = some false := by kernel_rfl
theorem sz114 : sizeT Tryz.prog 114 = some 8 := by kernel_rfl
theorem by114 : bytesT Tryz.prog 114 = some 64 := by kernel_rfl
theorem ze114 : zeroT Tryz.prog 114 = some (.agg [.nilF, .nilF, .nilF, .nilF, .nilF, .nilF, .nilF, .nilF]) := by kernel_rfl
theorem ag114 : isAggT Tryz.prog 114 = some true := by kernel_rfl
theorem sz119 : sizeT Tryz.prog 119 = some 5 := by kernel_rfl
theorem by119 : bytesT Tryz.prog 119 = some 112 := by kernel_rfl
theorem ze119 : zeroT Tryz.prog 119 = some (.agg [.str { data := #[] }, .nilS, .nilS, .nilS, .nilS]) := by kernel_rfl
theorem ag119 : isAggT Tryz.prog 119 = some true := by kernel_rfl
theorem sz120 : sizeT Tryz.prog 120 = some 1 := by kernel_rfl
theorem by120 : bytesT Tryz.prog 120 = some 0 := by kernel_rfl
theorem ag120 : isAggT Tryz.prog 120 = some false := by kernel_rfl
theorem sz129 : sizeT Tryz.prog 129 = some 1 := by kernel_rfl
theorem by129 : bytesT Tryz.prog 129 = some 0 := by kernel_rfl
theorem ag129 : isAggT Tryz.prog 129 = some false := by kernel_rfl
theorem sz131 : sizeT Tryz.prog 131 = some 1 := by kernel_rfl
theorem by131 : bytesT Tryz.prog 131 = some 8 := by kernel_rfl
theorem ze131 : zeroT Tryz.prog 131 = some (.nilF) := by kernel_rfl
theorem ag131 : isAggT Tryz.prog 131 = some false := by kernel_rfl
theorem sz145 : sizeT Tryz.prog 145 = some 10 := by kernel_rfl
theorem by145 : bytesT Tryz.prog 145 = some 224 := by kernel_rfl
theorem ze145 : zeroT Tryz.prog 145 = some (.agg [.str { data := #[] }, .nilS, .nilS, .nilS, .nilS, .str { data := #[] }, .nilS, .nilS, .nilS, .nilS]) := by kernel_rfl
theorem ag145 : isAggT Tryz.prog 145 = some true := by kernel_rfl
theorem sz146 : sizeT Tryz.prog 146 = some 1 := by kernel_rfl
theorem by146 : bytesT Tryz.prog 146 = some 0 := by kernel_rfl
theorem ag146 : isAggT Tryz.prog 146 = some false := by kernel_rfl
theorem sz149 : sizeT Tryz.prog 149 = some 1 := by kernel_rfl
theorem by149 : bytesT Tryz.prog 149 = some 8 := by kernel_rfl
theorem ze149 : zeroT Tryz.prog 149 = some (.nilF) := by kernel_rfl
theorem ag149 : isAggT Tryz.prog 149 = some false := by kernel_rfl
theorem sz150 : sizeT Tryz.prog 150 = some 1 := by kernel_rfl
theorem by150 : bytesT Tryz.prog 150 = some 8 := by kernel_rfl
theorem ze150 : zeroT Tryz.prog 150 = some (.nilF) := by kernel_rfl
theorem ag150 : isAggT Tryz.prog 150 = some false := by kernel_rfl
theorem sz151 : sizeT Tryz.prog 151 = some 1 := by kernel_rfl
theorem by151 : bytesT Tryz.prog 151 = some 0 := by kernel_rfl
theorem ag151 : isAggT Tryz.prog 151 = some false := by kernel_rfl
theorem sz153 : sizeT Tryz.prog 153 = some 1 := by kernel_rfl
theorem by153 : bytesT Tryz.prog 153 = some 8 := by kernel_rfl
theorem ze153 : zeroT Tryz.prog 153 = some (.nilF) := by kernel_rfl
theorem ag153 : isAggT Tryz.prog 153 = some false := by kernel_rfl
theorem sz155 : sizeT Tryz.prog 155 = some 1 := by kernel_rfl
theorem by155 : bytesT Tryz.prog 155 = some 0 := by kernel_rfl
theorem ag155 : isAggT Tryz.prog 155 = some false := by kernel_rfl
theorem sz162 : sizeT Tryz.prog 162 = some 1 := by kernel_rfl
theorem by162 : bytesT Tryz.prog 162 = some 8 := by kernel_rfl
theorem ze162 : zeroT Tryz.prog 162 = some (.nilF) := by kernel_rfl
theorem ag162 : isAggT Tryz.prog 162 = some false := by kernel_rfl
theorem sz176 : sizeT Tryz.prog 176 = some 1 := by kernel_rfl
theorem by176 : bytesT Tryz.prog 176 = some 24 := by kernel_rfl
theorem ze176 : zeroT Tryz.prog 176 = some (.nilS) := by kernel_rfl
theorem ag176 : isAggT Tryz.prog 176 = some false := by kernel_rfl
theorem el176 : elemT Tryz.prog 176 = some 30 := by kernel_rfl
theorem sz178 : sizeT Tryz.prog 178 = some 1 := by kernel_rfl
theorem by178 : bytesT Tryz.prog 178 = some 8 := by kernel_rfl
theorem ze178 : zeroT Tryz.prog 178 = some (.nilF) := by kernel_rfl
theorem ag178 : isAggT Tryz.prog 178 = some false := by kernel_rfl
theorem sz179 : sizeT Tryz.prog 179 = some 1 := by kernel_rfl
theorem by179 : bytesT Tryz.prog 179 = some 8 := by kernel_rfl
theorem ze179 : zeroT Tryz.prog 179 = some (.nilF) := by kernel_rfl
theorem ag179 : isAggT Tryz.prog 179 = some false := by kernel_rfl
theorem sz180 : sizeT Tryz.prog 180 = some 1 := by kernel_rfl
theorem by180 : bytesT Tryz.prog 180 = some 8 := by kernel_rfl
theorem ze180 : zeroT Tryz.prog 180 = some (.nilF) := by kernel_rfl
theorem ag180 : isAggT Tryz.prog 180 = some false := by kernel_rfl
theorem sz182 : sizeT Tryz.prog 182 = some 5 := by kernel_rfl
theorem by182 : bytesT Tryz.prog 182 = some 48 := by kernel_rfl
theorem ze182 : zeroT Tryz.prog 182 = some (.agg [.str { data := #[] }, .int .i64 0, .bool false, .nilF, .nilF]) := by kernel_rfl
theorem ag182 : isAggT Tryz.prog 182 = some true := by kernel_rfl
theorem sz183 : sizeT Tryz.prog 183 = some 95 := by kernel_rfl
theorem by183 : bytesT Tryz.prog 183 = some 912 := by kernel_rfl
theorem ze183 : zeroT Tryz.prog 183 = some (.agg [.str { data := #[] }, .int .i64 0, .bool false, .nilF, .nilF, .str { data := #[] }, .int .i64 0, .bool false, .nilF, .nilF, .str { data := #[] }, .int .i64 0, .bool false, .nilF, .nilF, .str { data := #[] }, .int .i64 0, .bool false, .nilF, .nilF, .str { data := #[] }, .int .i64 0, .bool false, .nilF, .nilF, .str { data := #[] }, .int .i64 0, .bool false, .nilF, .nilF, .str { data := #[] }, .int .i64 0, .bool false, .nilF, .nilF, .str { data := #[] }, .int .i64 0, .bool false, .nilF, .nilF, .str { data := #[] }, .int .i64 0, .bool false, .nilF, .nilF, .str { data := #[] }, .int .i64 0, .bool false, .nilF, .nilF, .str { data := #[] }, .int .i64 0, .bool false, .nilF, .nilF, .str { data := #[] }, .int .i64 0, .bool false, .nilF, .nilF, .str { data := #[] }, .int .i64 0, .bool false, .nilF, .nilF, .str { data := #[] }, .int .i64 0, .bool false, .nilF, .nilF, .str { data := #[] }, .int .i64 0, .bool false, .nilF, .nilF, .str { data := #[] }, .int .i64 0, .bool false, .nilF, .nilF, .str { data := #[] }, .int .i64 0, .bool false, .nilF, .nilF, .str { data := #[] }, .int .i64 0, .bool false, .nilF, .nilF, .str { data := #[] }, .int .i64 0, .bool false, .nilF, .nilF]) := by kernel_rfl
theorem ag183 : isAggT Tryz.prog 183 = some true := by kernel_rfl
theorem sz188 : sizeT Tryz.prog 188 = some 1 := by kernel_rfl
theorem by188 : bytesT Tryz.prog 188 = some 8 := by kernel_rfl
theorem ze188 : zeroT Tryz.prog 188 = some (.nilF) := by kernel_rfl
theorem ag188 : isAggT Tryz.prog 188 = some false := by kernel_rfl
theorem sz195 : sizeT Tryz.prog 195 = some 1 := by kernel_rfl
theorem by195 : bytesT Tryz.prog 195 = some 8 := by kernel_rfl
theorem ze195 : zeroT Tryz.prog 195 = some (.nilF) := by kernel_rfl
theorem ag195 : isAggT Tryz.prog 195 = some false := by kernel_rfl
theorem sz201 : sizeT Tryz.prog 201 = some 1 := by kernel_rfl
theorem by201 : bytesT Tryz.prog 201 = some 8 := by kernel_rfl
theorem ze201 : zeroT Tryz.prog 201 = some (.nilF) := by kernel_rfl
theorem ag201 : isAggT Tryz.prog 201 = some false := by kernel_rfl
theorem sz202 : sizeT Tryz.prog 202 = some 1 := by kernel_rfl
theorem by202 : bytesT Tryz.prog 202 = some 8 := by kernel_rfl
theorem ze202 : zeroT Tryz.prog 202 = some (.int .u64 0) := by kernel_rfl
theorem ag202 : isAggT Tryz.prog 202 = some false := by kernel_rfl
theorem sz206 : sizeT Tryz.prog 206 = some 1 := by kernel_rfl
theorem by206 : bytesT Tryz.prog 206 = some 8 := by kernel_rfl
theorem ze206 : zeroT Tryz.prog 206 = some (.nilF) := by kernel_rfl
theorem ag206 : isAggT Tryz.prog 206 = some false := by kernel_rfl
theorem sz220 : sizeT Tryz.prog 220 = some 1 := by kernel_rfl
theorem by220 : bytesT Tryz.prog 220 = some 8 := by kernel_rfl
theorem ze220 : zeroT Tryz.prog 220 = some (.int .i64 0) := by kernel_rfl
theorem ag220 : isAggT Tryz.prog 220 = some false := by kernel_rfl
theorem sz221 : sizeT Tryz.prog 221 = some 1 := by kernel_rfl
theorem by221 : bytesT Tryz.prog 221 = some 0 := by kernel_rfl
theorem ag221 : isAggT Tryz.prog 221 = some false := by kernel_rfl
theorem sz227 : sizeT Tryz.prog 227 = some 1 := by kernel_rfl
theorem by227 : bytesT Tryz.prog 227 = some 4 := by kernel_rfl
theorem ze227 : zeroT Tryz.prog 227 = some (.int .u32 0) := by kernel_rfl
theorem ag227 : isAggT Tryz.prog 227 = some false := by kernel_rfl
theorem sz229 : sizeT Tryz.prog 229 = some 1 := by kernel_rfl
theorem by229 : bytesT Tryz.prog 229 = some 8 := by kernel_rfl
theorem ze229 : zeroT Tryz.prog 229 = some (.int .u64 0) := by kernel_rfl
theorem ag229 : isAggT Tryz.prog 229 = some false := by kernel_rfl
theorem sz238 : sizeT Tryz.prog 238 = some 1 := by kernel_rfl
theorem by238 : bytesT Tryz.prog 238 = some 8 := by kernel_rfl
theorem ze238 : zeroT Tryz.prog 238 = some (.nilP) := by kernel_rfl
theorem ag238 : isAggT Tryz.prog 238 = some false := by kernel_rfl
theorem sz239 : sizeT Tryz.prog 239 = some 1 := by kernel_rfl
theorem by239 : bytesT Tryz.prog 239 = some 8 := by kernel_rfl
theorem ze239 : zeroT Tryz.prog 239 = some (.int .u64 0) := by kernel_rfl
theorem ag239 : isAggT Tryz.prog 239 = some false := by kernel_rfl
theorem sz243 : sizeT Tryz.prog 243 = some 1 := by kernel_rfl
theorem by243 : bytesT Tryz.prog 243 = some 8 := by kernel_rfl
theorem ze243 : zeroT Tryz.prog 243 = some (.nilP) := by kernel_rfl
theorem ag243 : isAggT Tryz.prog 243 = some false := by kernel_rfl
theorem sz247 : sizeT Tryz.prog 247 = some 1 := by kernel_rfl
theorem by247 : bytesT Tryz.prog 247 = some 8 := by kernel_rfl
theorem ze247 : zeroT Tryz.prog 247 = some (.nilP) := by kernel_rfl
theorem ag247 : isAggT Tryz.prog 247 = some false := by kernel_rfl
theorem xk7 : X.keep 7 = false := Eq.trans rfl rfl
theorem xk10 : X.keep 10 = false := Eq.trans rfl rfl
theorem xk11 : X.keep 11 = false := Eq.trans rfl rfl
theorem xk12 : X.keep 12 = false := Eq.trans rfl rfl
theorem xk13 : X.keep 13 = false := Eq.trans rfl rfl
theorem xk14 : X.keep 14 = false := Eq.trans rfl rfl
theorem xk15 : X.keep 15 = false := Eq.trans rfl rfl
theorem xk16 : X.keep 16 = false := Eq.trans rfl rfl
theorem xk17 : X.keep 17 = false := Eq.trans rfl rfl
theorem xk18 : X.keep 18 = false := Eq.trans rfl rfl
theorem xk19 : X.keep 19 = false := Eq.trans rfl rfl
theorem xk20 : X.keep 20 = false := Eq.trans rfl rfl
theorem xk21 : X.keep 21 = false := Eq.trans rfl rfl
theorem xk22 : X.keep 22 = false := Eq.trans rfl rfl
theorem xk23 : X.keep 23 = false := Eq.trans rfl rfl
theorem xk24 : X.keep 24 = false := Eq.trans rfl rfl
theorem xk25 : X.keep 25 = false := Eq.trans rfl rfl
theorem xk26 : X.keep 26 = false := Eq.trans rfl rfl
theorem xk27 : X.keep 27 = false := Eq.trans rfl rfl
theorem xk29 : X.keep 29 = false := Eq.trans rfl rfl
theorem xk30 : X.keep 30 = false := Eq.trans rfl rfl
theorem xk31 : X.keep 31 = false := Eq.trans rfl rfl
theorem xk36 : X.keep 36 = false := Eq.trans rfl rfl
theorem xk37 : X.keep 37 = false := Eq.trans rfl rfl
theorem xk38 : X.keep 38 = false := Eq.trans rfl rfl
theorem xk39 : X.keep 39 = false := Eq.trans rfl rfl
theorem xk41 : X.keep 41 = false := Eq.trans rfl rfl
theorem xk42 : X.keep 42 = false := Eq.trans rfl rfl
theorem xk43 : X.keep 43 = false := Eq.trans rfl rfl
theorem xk44 : X.keep 44 = false := Eq.trans rfl rfl
theorem xk50 : X.keep 50 = false := Eq.trans rfl rfl
theorem xk51 : X.keep 51 = false := Eq.trans rfl rfl
theorem xk52 : X.keep 52 = false := Eq.trans rfl rfl
theorem xk53 : X.keep 53 = false := Eq.trans rfl rfl
theorem xk54 : X.keep 54 = false := Eq.trans rfl rfl
theorem xk55 : X.keep 55 = false := Eq.trans rfl rfl
theorem xk56 : X.keep 56 = false := Eq.trans rfl rfl
theorem xk57 : X.keep 57 = false := Eq.trans rfl rfl
theorem xk58 : X.keep 58 = false := Eq.trans rfl rfl
theorem xk59 : X.keep 59 = false := Eq.trans rfl rfl
theorem xk60 : X.keep 60 = false := Eq.trans rfl rfl
theorem xk61 : X.keep 61 = false := Eq.trans rfl rfl
theorem xk62 : X.keep 62 = false := Eq.trans rfl rfl
theorem xk63 : X.keep 63 = false := Eq.trans rfl rfl
theorem xk64 : X.keep 64 = false := Eq.trans rfl rfl
theorem xk65 : X.keep 65 = false := Eq.trans rfl rfl
theorem xk66 : X.keep 66 = false := Eq.trans rfl rfl
theorem xk67 : X.keep 67 = false := Eq.trans rfl rfl
theorem xk68 : X.keep 68 = false := Eq.trans rfl rfl
theorem xk69 : X.keep 69 = false := Eq.trans rfl rfl
theorem xk70 : X.keep 70 = false := Eq.trans rfl rfl
theorem xk71 : X.keep 71 = false := Eq.trans rfl rfl
theorem xk72 : X.keep 72 = false := Eq.trans rfl rfl
theorem xk73 : X.keep 73 = false := Eq.trans rfl rfl
theorem xk74 : X.keep 74 = false := Eq.trans rfl rfl
theorem xk75 : X.keep 75 = false := Eq.trans rfl rfl
theorem xk76 : X.keep 76 = false := Eq.trans rfl rfl
theorem xk77 : X.keep 77 = false := Eq.trans rfl rfl
theorem xk78 : X.keep 78 = false := Eq.trans rfl rfl
theorem xk79 : X.keep 79 = false := Eq.trans rfl rfl
theorem xk80 : X.keep 80 = false := Eq.trans rfl rfl
theorem xk81 : X.keep 81 = false := Eq.trans rfl rfl
theorem xk82 : X.keep 82 = false := Eq.trans rfl rfl
theorem xk83 : X.keep 83 = false := Eq.trans rfl rfl
theorem xk84 : X.keep 84 = false := Eq.trans rfl rfl
theorem xk85 : X.keep 85 = false := Eq.trans rfl rfl
theorem xk86 : X.keep 86 = false := Eq.trans rfl rfl
theorem xk87 : X.keep 87 = false := Eq.trans rfl rfl
theorem xk88 : X.keep 88 = false := Eq.trans rfl rfl
theorem xk89 : X.keep 89 = false := Eq.trans rfl rfl
theorem xk90 : X.keep 90 = false := Eq.trans rfl rfl
theorem xk91 : X.keep 91 = false := Eq.trans rfl rfl
theorem xk92 : X.keep 92 = false := Eq.trans rfl rfl
theorem xk93 : X.keep 93 = false := Eq.trans rfl rfl
theorem xk94 : X.keep 94 = false := Eq.trans rfl rfl
theorem xk95 : X.keep 95 = false := Eq.trans rfl rfl
theorem xk96 : X.keep 96 = false := Eq.trans rfl rfl
theorem xk97 : X.keep 97 = false := Eq.trans rfl rfl
theorem xk103 : X.keep 103 = false := Eq.trans rfl rfl
theorem xk104 : X.keep 104 = false := Eq.trans rfl rfl
theorem xk105 : X.keep 105 = false := Eq.trans rfl rfl
theorem xk108 : X.keep 108 = false := Eq.trans rfl rfl
theorem xk109 : X.keep 109 = false := Eq.trans rfl rfl
theorem xk110 : X.keep 110 = false := Eq.trans rfl rfl
theorem xk111 : X.keep 111 = false := Eq.trans rfl rfl
theorem xk112 : X.keep 112 = false := Eq.trans rfl rfl
theorem xk113 : X.keep 113 = false := Eq.trans rfl rfl
theorem xk114 : X.keep 114 = false := Eq.trans rfl rfl
theorem xk115 : X.keep 115 = false := Eq.trans rfl rfl
theorem xk116 : X.keep 116 = false := Eq.trans rfl rfl
theorem xk117 : X.keep 117 = false := Eq.trans rfl rfl
theorem xk118 : X.keep 118 = false := Eq.trans rfl rfl
theorem xk119 : X.keep 119 = false := Eq.trans rfl rfl
theorem xk120 : X.keep 120 = false := Eq.trans rfl rfl
theorem xk121 : X.keep 121 = false := Eq.trans rfl rfl
theorem xk122 : X.keep 122 = false := Eq.trans rfl rfl
theorem xk123 : X.keep 123 = false := Eq.trans rfl rfl
theorem xk124 : X.keep 124 = false := Eq.trans rfl rfl
theorem xk126 : X.keep 126 = false := Eq.trans rfl rfl
theorem xk127 : X.keep 127 = false := Eq.trans rfl rfl
theorem xk128 : X.keep 128 = false := Eq.trans rfl rfl
theorem xk132 : X.keep 132 = false := Eq.trans rfl rfl
theorem xk133 : X.keep 133 = false := Eq.trans rfl rfl
theorem xk134 : X.keep 134 = false := Eq.trans rfl rfl
theorem xk135 : X.keep 135 = false := Eq.trans rfl rfl
theorem xk136 : X.keep 136 = false := Eq.trans rfl rfl
theorem xk137 : X.keep 137 = false := Eq.trans rfl rfl
theorem xk138 : X.keep 138 = false := Eq.trans rfl rfl
theorem xk139 : X.keep 139 = false := Eq.trans rfl rfl
theorem xk140 : X.keep 140 = false := Eq.trans rfl rfl
theorem xk141 : X.keep 141 = false := Eq.trans rfl rfl
theorem xk142 : X.keep 142 = false := Eq.trans rfl rfl
theorem xk143 : X.keep 143 = false := Eq.trans rfl rfl
theorem xk144 : X.keep 144 = false := Eq.trans rfl rfl
theorem xk145 : X.keep 145 = false := Eq.trans rfl rfl
theorem xk146 : X.keep 146 = false := Eq.trans rfl rfl
theorem xk147 : X.keep 147 = false := Eq.trans rfl rfl
theorem xk148 : X.keep 148 = false := Eq.trans rfl rfl
theorem xk150 : X.keep 150 = false := Eq.trans rfl rfl
theorem xk151 : X.keep 151 = false := Eq.trans rfl rfl
theorem xk152 : X.keep 152 = false := Eq.trans rfl rfl
theorem xk153 : X.keep 153 = false := Eq.trans rfl rfl
theorem xk155 : X.keep 155 = false := Eq.trans rfl rfl
theorem xk156 : X.keep 156 = false := Eq.trans rfl rfl
theorem xk157 : X.keep 157 = false := Eq.trans rfl rfl
theorem xk158 : X.keep 158 = false := Eq.trans rfl rfl
theorem xk159 : X.keep 159 = false := Eq.trans rfl rfl
theorem xk160 : X.keep 160 = false := Eq.trans rfl rfl
theorem xk161 : X.keep 161 = false := Eq.trans rfl rfl
theorem xk162 : X.keep 162 = false := Eq.trans rfl rfl
theorem xk167 : X.keep 167 = false := Eq.trans rfl rfl
theorem xk168 : X.keep 168 = false := Eq.trans rfl rfl
theorem xk169 : X.keep 169 = false := Eq.trans rfl rfl
theorem xk170 : X.keep 170 = false := Eq.trans rfl rfl
theorem xk171 : X.keep 171 = false := Eq.trans rfl rfl
theorem xk172 : X.keep 172 = false := Eq.trans rfl rfl
theorem xk173 : X.keep 173 = false := Eq.trans rfl rfl
theorem xk174 : X.keep 174 = false := Eq.trans rfl rfl
theorem xk175 : X.keep 175 = false := Eq.trans rfl rfl
theorem xk176 : X.keep 176 = false := Eq.trans rfl rfl
theorem xk177 : X.keep 177 = false := Eq.trans rfl rfl
theorem xk178 : X.keep 178 = false := Eq.trans rfl rfl
theorem xk179 : X.keep 179 = false := Eq.trans rfl rfl
theorem xk180 : X.keep 180 = false := Eq.trans rfl rfl
theorem xk181 : X.keep 181 = false := Eq.trans rfl rfl
theorem xk182 : X.keep 182 = false := Eq.trans rfl rfl
theorem xk183 : X.keep 183 = false := Eq.trans rfl rfl
theorem xk184 : X.keep 184 = false := Eq.trans rfl rfl
theorem xk185 : X.keep 185 = false := Eq.trans rfl rfl
theorem xk186 : X.keep 186 = false := Eq.trans rfl rfl
theorem xk187 : X.keep 187 = false := Eq.trans rfl rfl
theorem xk188 : X.keep 188 = false := Eq.trans rfl rfl
theorem xk189 : X.keep 189 = false := Eq.trans rfl rfl
theorem xk190 : X.keep 190 = false := Eq.trans rfl rfl
theorem xk191 : X.keep 191 = false := Eq.trans rfl rfl
theorem xk192 : X.keep 192 = false := Eq.trans rfl rfl
theorem xk193 : X.keep 193 = false := Eq.trans rfl rfl
theorem xk194 : X.keep 194 = false := Eq.trans rfl rfl
theorem xk195 : X.keep 195 = false := Eq.trans rfl rfl
theorem xk196 : X.keep 196 = false := Eq.trans rfl rfl
theorem xk197 : X.keep 197 = false := Eq.trans rfl rfl
theorem xk198 : X.keep 198 = false := Eq.trans rfl rfl
theorem xk199 : X.keep 199 = false := Eq.trans rfl rfl
theorem xk200 : X.keep 200 = false := Eq.trans rfl rfl
theorem xk201 : X.keep 201 = false := Eq.trans rfl rfl
theorem xk202 : X.keep 202 = false := Eq.trans rfl rfl
theorem xk203 : X.keep 203 = false := Eq.trans rfl rfl
theorem xk204 : X.keep 204 = false := Eq.trans rfl rfl
theorem xk205 : X.keep 205 = false := Eq.trans rfl rfl
theorem xk206 : X.keep 206 = false := Eq.trans rfl rfl
theorem xk207 : X.keep 207 = false := Eq.trans rfl rfl
theorem xk219 : X.keep 219 = false := Eq.trans rfl rfl
theorem xk230 : X.keep 230 = false := Eq.trans rfl rfl
theorem xk231 : X.keep 231 = false := Eq.trans rfl rfl
theorem xk232 : X.keep 232 = false := Eq.trans rfl rfl
theorem xk233 : X.keep 233 = false := Eq.trans rfl rfl
theorem xk234 : X.keep 234 = false := Eq.trans rfl rfl
theorem xk235 : X.keep 235 = false := Eq.trans rfl rfl
theorem xtt (t : Nat) (p : String) : X.thaw (.tmp t) p = false := Eq.trans rfl rfl
theorem xt7 (p : String) : X.thaw (.func 7) p = false := Eq.trans rfl rfl
theorem xt10 (p : String) : X.thaw (.func 10) p = false := Eq.trans rfl rfl
theorem xt11 (p : String) : X.thaw (.func 11) p = false := Eq.trans rfl rfl
theorem xt12 (p : String) : X.thaw (.func 12) p = false := Eq.trans rfl rfl
theorem xt13 (p : String) : X.thaw (.func 13) p = false := Eq.trans rfl rfl
theorem xt14 (p : String) : X.thaw (.func 14) p = false := Eq.trans rfl rfl
theorem xt15 (p : String) : X.thaw (.func 15) p = false := Eq.trans rfl rfl
theorem xt16 (p : String) : X.thaw (.func 16) p = false := Eq.trans rfl rfl
theorem xt17 (p : String) : X.thaw (.func 17) p = false := Eq.trans rfl rfl
theorem xt18 (p : String) : X.thaw (.func 18) p = false := Eq.trans rfl rfl
theorem xt19 (p : String) : X.thaw (.func 19) p = false := Eq.trans rfl rfl
theorem xt20_0 : X.thaw (.func 20) "base.go:277" = false := by kernel_rfl
theorem xt20_1 : X.thaw (.func 20) "hw.go:431" = false := by kernel_rfl
theorem xt20_2 : X.thaw (.func 20) "hw.go:699" = true := by kernel_rfl
theorem xt20_3 : X.thaw (.func 20) "hw.go:716" = false := by kernel_rfl
theorem xt20_4 : X.thaw (.func 20) "law.go:120" = false := by kernel_rfl
theorem xt20_5 : X.thaw (.func 20) "law.go:281" = false := by kernel_rfl
theorem xt20_6 : X.thaw (.func 20) "law.go:290" = false := by kernel_rfl
theorem xt20_7 : X.thaw (.func 20) "ref.go:410" = false := by kernel_rfl
theorem xt21 (p : String) : X.thaw (.func 21) p = false := Eq.trans rfl rfl
theorem xt22 (p : String) : X.thaw (.func 22) p = false := Eq.trans rfl rfl
theorem xt23 (p : String) : X.thaw (.func 23) p = false := Eq.trans rfl rfl
theorem xt24 (p : String) : X.thaw (.func 24) p = false := Eq.trans rfl rfl
theorem xt25 (p : String) : X.thaw (.func 25) p = false := Eq.trans rfl rfl
theorem xt26 (p : String) : X.thaw (.func 26) p = false := Eq.trans rfl rfl
theorem xt27 (p : String) : X.thaw (.func 27) p = false := Eq.trans rfl rfl
theorem xt29 (p : String) : X.thaw (.func 29) p = false := Eq.trans rfl rfl
theorem xt30 (p : String) : X.thaw (.func 30) p = false := Eq.trans rfl rfl
theorem xt31 (p : String) : X.thaw (.func 31) p = false := Eq.trans rfl rfl
theorem xt36 (p : String) : X.thaw (.func 36) p = false := Eq.trans rfl rfl
theorem xt37 (p : String) : X.thaw (.func 37) p = false := Eq.trans rfl rfl
theorem xt38 (p : String) : X.thaw (.func 38) p = false := Eq.trans rfl rfl
theorem xt39 (p : String) : X.thaw (.func 39) p = false := Eq.trans rfl rfl
theorem xt41 (p : String) : X.thaw (.func 41) p = false := Eq.trans rfl rfl
theorem xt42 (p : String) : X.thaw (.func 42) p = false := Eq.trans rfl rfl
theorem xt43 (p : String) : X.thaw (.func 43) p = false := Eq.trans rfl rfl
theorem xt44 (p : String) : X.thaw (.func 44) p = false := Eq.trans rfl rfl
theorem xt50 (p : String) : X.thaw (.func 50) p = false := Eq.trans rfl rfl
theorem xt51 (p : String) : X.thaw (.func 51) p = false := Eq.trans rfl rfl
theorem xt52 (p : String) : X.thaw (.func 52) p = false := Eq.trans rfl rfl
theorem xt53 (p : String) : X.thaw (.func 53) p = false := Eq.trans rfl rfl
theorem xt54 (p : String) : X.thaw (.func 54) p = false := Eq.trans rfl rfl
theorem xt55 (p : String) : X.thaw (.func 55) p = false := Eq.trans rfl rfl
theorem xt56 (p : String) : X.thaw (.func 56) p = false := Eq.trans rfl rfl
theorem xt57 (p : String) : X.thaw (.func 57) p = false := Eq.trans rfl rfl
theorem xt58 (p : String) : X.thaw (.func 58) p = false := Eq.trans rfl rfl
theorem xt59 (p : String) : X.thaw (.func 59) p = false := Eq.trans rfl rfl
theorem xt60 (p : String) : X.thaw (.func 60) p = false := Eq.trans rfl rfl
theorem xt61 (p : String) : X.thaw (.func 61) p = false := Eq.trans rfl rfl
theorem xt62 (p : String) : X.thaw (.func 62) p = false := Eq.trans rfl rfl
theorem xt63 (p : String) : X.thaw (.func 63) p = false := Eq.trans rfl rfl
theorem xt64 (p : String) : X.thaw (.func 64) p = false := Eq.trans rfl rfl
theorem xt65 (p : String) : X.thaw (.func 65) p = false := Eq.trans rfl rfl
theorem xt66 (p : String) : X.thaw (.func 66) p = false := Eq.trans rfl rfl
theorem xt67 (p : String) : X.thaw (.func 67) p = false := Eq.trans rfl rfl
theorem xt68 (p : String) : X.thaw (.func 68) p = false := Eq.trans rfl rfl
theorem xt69 (p : String) : X.thaw (.func 69) p = false := Eq.trans rfl rfl
theorem xt70 (p : String) : X.thaw (.func 70) p = false := Eq.trans rfl rfl
theorem xt71 (p : String) : X.thaw (.func 71) p = false := Eq.trans rfl rfl
theorem xt72 (p : String) : X.thaw (.func 72) p = false := Eq.trans rfl rfl
theorem xt73 (p : String) : X.thaw (.func 73) p = false := Eq.trans rfl rfl
theorem xt74 (p : String) : X.thaw (.func 74) p = false := Eq.trans rfl rfl
theorem xt75 (p : String) : X.thaw (.func 75) p = false := Eq.trans rfl rfl
theorem xt76 (p : String) : X.thaw (.func 76) p = false := Eq.trans rfl rfl
theorem xt77 (p : String) : X.thaw (.func 77) p = false := Eq.trans rfl rfl
theorem xt78 (p : String) : X.thaw (.func 78) p = false := Eq.trans rfl rfl
theorem xt79 (p : String) : X.thaw (.func 79) p = false := Eq.trans rfl rfl
theorem xt80 (p : String) : X.thaw (.func 80) p = false := Eq.trans rfl rfl
theorem xt81 (p : String) : X.thaw (.func 81) p = false := Eq.trans rfl rfl
theorem xt82 (p : String) : X.thaw (.func 82) p = false := Eq.trans rfl rfl
theorem xt83 (p : String) : X.thaw (.func 83) p = false := Eq.trans rfl rfl
theorem xt84 (p : String) : X.thaw (.func 84) p = false := Eq.trans rfl rfl
theorem xt85 (p : String) : X.thaw (.func 85) p = false := Eq.trans rfl rfl
theorem xt86 (p : String) : X.thaw (.func 86) p = false := Eq.trans rfl rfl
theorem xt87 (p : String) : X.thaw (.func 87) p = false := Eq.trans rfl rfl
theorem xt88 (p : String) : X.thaw (.func 88) p = false := Eq.trans rfl rfl
theorem xt89 (p : String) : X.thaw (.func 89) p = false := Eq.trans rfl rfl
theorem xt90 (p : String) : X.thaw (.func 90) p = false := Eq.trans rfl rfl
theorem xt91 (p : String) : X.thaw (.func 91) p = false := Eq.trans rfl rfl
theorem xt92 (p : String) : X.thaw (.func 92) p = false := Eq.trans rfl rfl
theorem xt93 (p : String) : X.thaw (.func 93) p = false := Eq.trans rfl rfl
theorem xt94 (p : String) : X.thaw (.func 94) p = false := Eq.trans rfl rfl
theorem xt95 (p : String) : X.thaw (.func 95) p = false := Eq.trans rfl rfl
theorem xt96 (p : String) : X.thaw (.func 96) p = false := Eq.trans rfl rfl
theorem xt97 (p : String) : X.thaw (.func 97) p = false := Eq.trans rfl rfl
theorem xt98 (p : String) : X.thaw (.func 98) p = false := Eq.trans rfl rfl
theorem xt101 (p : String) : X.thaw (.func 101) p = false := Eq.trans rfl rfl
theorem xt103 (p : String) : X.thaw (.func 103) p = false := Eq.trans rfl rfl
theorem xt104 (p : String) : X.thaw (.func 104) p = false := Eq.trans rfl rfl
theorem xt105 (p : String) : X.thaw (.func 105) p = false := Eq.trans rfl rfl
theorem xt108 (p : String) : X.thaw (.func 108) p = false := Eq.trans rfl rfl
theorem xt109 (p : String) : X.thaw (.func 109) p = false := Eq.trans rfl rfl
theorem xt110 (p : String) : X.thaw (.func 110) p = false := Eq.trans rfl rfl
theorem xt111 (p : String) : X.thaw (.func 111) p = false := Eq.trans rfl rfl
theorem xt112 (p : String) : X.thaw (.func 112) p = false := Eq.trans rfl rfl
theorem xt113 (p : String) : X.thaw (.func 113) p = false := Eq.trans rfl rfl
theorem xt114 (p : String) : X.thaw (.func 114) p = false := Eq.trans rfl rfl
theorem xt115 (p : String) : X.thaw (.func 115) p = false := Eq.trans rfl rfl
theorem xt116 (p : String) : X.thaw (.func 116) p = false := Eq.trans rfl rfl
theorem xt117 (p : String) : X.thaw (.func 117) p = false := Eq.trans rfl rfl
theorem xt118 (p : String) : X.thaw (.func 118) p = false := Eq.trans rfl rfl
theorem xt119 (p : String) : X.thaw (.func 119) p = false := Eq.trans rfl rfl
theorem xt120 (p : String) : X.thaw (.func 120) p = false := Eq.trans rfl rfl
theorem xt121 (p : String) : X.thaw (.func 121) p = false := Eq.trans rfl rfl
theorem xt122 (p : String) : X.thaw (.func 122) p = false := Eq.trans rfl rfl
theorem xt123 (p : String) : X.thaw (.func 123) p = false := Eq.trans rfl rfl
theorem xt124 (p : String) : X.thaw (.func 124) p = false := Eq.trans rfl rfl
theorem xt125 (p : String) : X.thaw (.func 125) p = false := Eq.trans rfl rfl
theorem xt126 (p : String) : X.thaw (.func 126) p = false := Eq.trans rfl rfl
theorem xt127 (p : String) : X.thaw (.func 127) p = false := Eq.trans rfl rfl
theorem xt128 (p : String) : X.thaw (.func 128) p = false := Eq.trans rfl rfl
theorem xt132 (p : String) : X.thaw (.func 132) p = false := Eq.trans rfl rfl
theorem xt133 (p : String) : X.thaw (.func 133) p = false := Eq.trans rfl rfl
theorem xt134 (p : String) : X.thaw (.func 134) p = false := Eq.trans rfl rfl
theorem xt135 (p : String) : X.thaw (.func 135) p = false := Eq.trans rfl rfl
theorem xt136 (p : String) : X.thaw (.func 136) p = false := Eq.trans rfl rfl
theorem xt137 (p : String) : X.thaw (.func 137) p = false := Eq.trans rfl rfl
theorem xt138 (p : String) : X.thaw (.func 138) p = false := Eq.trans rfl rfl
theorem xt139 (p : String) : X.thaw (.func 139) p = false := Eq.trans rfl rfl
theorem xt140 (p : String) : X.thaw (.func 140) p = false := Eq.trans rfl rfl
theorem xt141 (p : String) : X.thaw (.func 141) p = false := Eq.trans rfl rfl
theorem xt142 (p : String) : X.thaw (.func 142) p = false := Eq.trans rfl rfl
theorem xt143 (p : String) : X.thaw (.func 143) p = false := Eq.trans rfl rfl
theorem xt144 (p : String) : X.thaw (.func 144) p = false := Eq.trans rfl rfl
theorem xt145 (p : String) : X.thaw (.func 145) p = false := Eq.trans rfl rfl
theorem xt146 (p : String) : X.thaw (.func 146) p = false := Eq.trans rfl rfl
theorem xt147 (p : String) : X.thaw (.func 147) p = false := Eq.trans rfl rfl
theorem xt148 (p : String) : X.thaw (.func 148) p = false := Eq.trans rfl rfl
theorem xt149 (p : String) : X.thaw (.func 149) p = false := Eq.trans rfl rfl
theorem xt150 (p : String) : X.thaw (.func 150) p = false := Eq.trans rfl rfl
theorem xt151 (p : String) : X.thaw (.func 151) p = false := Eq.trans rfl rfl
theorem xt152 (p : String) : X.thaw (.func 152) p = false := Eq.trans rfl rfl
theorem xt153 (p : String) : X.thaw (.func 153) p = false := Eq.trans rfl rfl
theorem xt155 (p : String) : X.thaw (.func 155) p = false := Eq.trans rfl rfl
theorem xt156 (p : String) : X.thaw (.func 156) p = false := Eq.trans rfl rfl
theorem xt157 (p : String) : X.thaw (.func 157) p = false := Eq.trans rfl rfl
theorem xt158 (p : String) : X.thaw (.func 158) p = false := Eq.trans rfl rfl
theorem xt159 (p : String) : X.thaw (.func 159) p = false := Eq.trans rfl rfl
theorem xt160 (p : String) : X.thaw (.func 160) p = false := Eq.trans rfl rfl
theorem xt161 (p : String) : X.thaw (.func 161) p = false := Eq.trans rfl rfl
theorem xt162 (p : String) : X.thaw (.func 162) p = false := Eq.trans rfl rfl
theorem xt167 (p : String) : X.thaw (.func 167) p = false := Eq.trans rfl rfl
theorem xt168 (p : String) : X.thaw (.func 168) p = false := Eq.trans rfl rfl
theorem xt169 (p : String) : X.thaw (.func 169) p = false := Eq.trans rfl rfl
theorem xt170 (p : String) : X.thaw (.func 170) p = false := Eq.trans rfl rfl
theorem xt171 (p : String) : X.thaw (.func 171) p = false := Eq.trans rfl rfl
theorem xt172 (p : String) : X.thaw (.func 172) p = false := Eq.trans rfl rfl
theorem xt173 (p : String) : X.thaw (.func 173) p = false := Eq.trans rfl rfl
theorem xt174 (p : String) : X.thaw (.func 174) p = false := Eq.trans rfl rfl
theorem xt175 (p : String) : X.thaw (.func 175) p = false := Eq.trans rfl rfl
theorem xt176 (p : String) : X.thaw (.func 176) p = false := Eq.trans rfl rfl
theorem xt177 (p : String) : X.thaw (.func 177) p = false := Eq.trans rfl rfl
theorem xt178 (p : String) : X.thaw (.func 178) p = false := Eq.trans rfl rfl
theorem xt179 (p : String) : X.thaw (.func 179) p = false := Eq.trans rfl rfl
theorem xt180 (p : String) : X.thaw (.func 180) p = false := Eq.trans rfl rfl
theorem xt181 (p : String) : X.thaw (.func 181) p = false := Eq.trans rfl rfl
theorem xt182 (p : String) : X.thaw (.func 182) p = false := Eq.trans rfl rfl
theorem xt183 (p : String) : X.thaw (.func 183) p = false := Eq.trans rfl rfl
theorem xt184 (p : String) : X.thaw (.func 184) p = false := Eq.trans rfl rfl
theorem xt185 (p : String) : X.thaw (.func 185) p = false := Eq.trans rfl rfl
theorem xt186 (p : String) : X.thaw (.func 186) p = false := Eq.trans rfl rfl
theorem xt187 (p : String) : X.thaw (.func 187) p = false := Eq.trans rfl rfl
theorem xt188 (p : String) : X.thaw (.func 188) p = false := Eq.trans rfl rfl
theorem xt189 (p : String) : X.thaw (.func 189) p = false := Eq.trans rfl rfl
theorem xt190 (p : String) : X.thaw (.func 190) p = false := Eq.trans rfl rfl
theorem xt191 (p : String) : X.thaw (.func 191) p = false := Eq.trans rfl rfl
theorem xt192 (p : String) : X.thaw (.func 192) p = false := Eq.trans rfl rfl
theorem xt193 (p : String) : X.thaw (.func 193) p = false := Eq.trans rfl rfl
theorem xt194 (p : String) : X.thaw (.func 194) p = false := Eq.trans rfl rfl
theorem xt195 (p : String) : X.thaw (.func 195) p = false := Eq.trans rfl rfl
theorem xt196 (p : String) : X.thaw (.func 196) p = false := Eq.trans rfl rfl
theorem xt197 (p : String) : X.thaw (.func 197) p = false := Eq.trans rfl rfl
theorem xt198 (p : String) : X.thaw (.func 198) p = false := Eq.trans rfl rfl
theorem xt199 (p : String) : X.thaw (.func 199) p = false := Eq.trans rfl rfl
theorem xt200 (p : String) : X.thaw (.func 200) p = false := Eq.trans rfl rfl
theorem xt201 (p : String) : X.thaw (.func 201) p = false := Eq.trans rfl rfl
theorem xt202 (p : String) : X.thaw (.func 202) p = false := Eq.trans rfl rfl
theorem xt203 (p : String) : X.thaw (.func 203) p = false := Eq.trans rfl rfl
theorem xt204 (p : String) : X.thaw (.func 204) p = false := Eq.trans rfl rfl
theorem xt205 (p : String) : X.thaw (.func 205) p = false := Eq.trans rfl rfl
theorem xt206 (p : String) : X.thaw (.func 206) p = false := Eq.trans rfl rfl
theorem xt207 (p : String) : X.thaw (.func 207) p = false := Eq.trans rfl rfl
theorem xt219 (p : String) : X.thaw (.func 219) p = false := Eq.trans rfl rfl
theorem xt230 (p : String) : X.thaw (.func 230) p = false := Eq.trans rfl rfl
theorem xt231 (p : String) : X.thaw (.func 231) p = false := Eq.trans rfl rfl
theorem xt232 (p : String) : X.thaw (.func 232) p = false := Eq.trans rfl rfl
theorem xt233 (p : String) : X.thaw (.func 233) p = false := Eq.trans rfl rfl
theorem xt234 (p : String) : X.thaw (.func 234) p = false := Eq.trans rfl rfl
theorem xt235 (p : String) : X.thaw (.func 235) p = false := Eq.trans rfl rfl
theorem xf7 : X.P.funcs[7]? = some Tryz.f7 := Tryz.func7
theorem xf10 : X.P.funcs[10]? = some Tryz.f10 := Tryz.func10
theorem xf11 : X.P.funcs[11]? = some Tryz.f11 := Tryz.func11
theorem xf12 : X.P.funcs[12]? = some Tryz.f12 := Tryz.func12
theorem xf13 : X.P.funcs[13]? = some Tryz.f13 := Tryz.func13
theorem xf14 : X.P.funcs[14]? = some Tryz.f14 := Tryz.func14
theorem xf15 : X.P.funcs[15]? = some Tryz.f15 := Tryz.func15
theorem xf16 : X.P.funcs[16]? = some Tryz.f16 := Tryz.func16
theorem xf17 : X.P.funcs[17]? = some Tryz.f17 := Tryz.func17
theorem xf18 : X.P.funcs[18]? = some Tryz.f18 := Tryz.func18
theorem xf19 : X.P.funcs[19]? = some Tryz.f19 := Tryz.func19
theorem xf20 : X.P.funcs[20]? = some Tryz.f20 := Tryz.func20
theorem xf21 : X.P.funcs[21]? = some Tryz.f21 := Tryz.func21
theorem xf22 : X.P.funcs[22]? = some Tryz.f22 := Tryz.func22
theorem xf23 : X.P.funcs[23]? = some Tryz.f23 := Tryz.func23
theorem xf24 : X.P.funcs[24]? = some Tryz.f24 := Tryz.func24
theorem xf25 : X.P.funcs[25]? = some Tryz.f25 := Tryz.func25
theorem xf26 : X.P.funcs[26]? = some Tryz.f26 := Tryz.func26
theorem xf27 : X.P.funcs[27]? = some Tryz.f27 := Tryz.func27
theorem xf29 : X.P.funcs[29]? = some Tryz.f29 := Tryz.func29
theorem xf30 : X.P.funcs[30]? = some Tryz.f30 := Tryz.func30
theorem xf36 : X.P.funcs[36]? = some Tryz.f36 := Tryz.func36
theorem xf37 : X.P.funcs[37]? = some Tryz.f37 := Tryz.func37
theorem xf38 : X.P.funcs[38]? = some Tryz.f38 := Tryz.func38
theorem xf39 : X.P.funcs[39]? = some Tryz.f39 := Tryz.func39
theorem xf41 : X.P.funcs[41]? = some Tryz.f41 := Tryz.func41
theorem xf42 : X.P.funcs[42]? = some Tryz.f42 := Tryz.func42
theorem xf43 : X.P.funcs[43]? = some Tryz.f43 := Tryz.func43
theorem xf44 : X.P.funcs[44]? = some Tryz.f44 := Tryz.func44
theorem xf50 : X.P.funcs[50]? = some Tryz.f50 := Tryz.func50
theorem xf51 : X.P.funcs[51]? = some Tryz.f51 := Tryz.func51
theorem xf52 : X.P.funcs[52]? = some Tryz.f52 := Tryz.func52
theorem xf53 : X.P.funcs[53]? = some Tryz.f53 := Tryz.func53
theorem xf54 : X.P.funcs[54]? = some Tryz.f54 := Tryz.func54
theorem xf55 : X.P.funcs[55]? = some Tryz.f55 := Tryz.func55
theorem xf56 : X.P.funcs[56]? = some Tryz.f56 := Tryz.func56
theorem xf57 : X.P.funcs[57]? = some Tryz.f57 := Tryz.func57
theorem xf58 : X.P.funcs[58]? = some Tryz.f58 := Tryz.func58
theorem xf59 : X.P.funcs[59]? = some Tryz.f59 := Tryz.func59
theorem xf60 : X.P.funcs[60]? = some Tryz.f60 := Tryz.func60
theorem xf61 : X.P.funcs[61]? = some Tryz.f61 := Tryz.func61
theorem xf62 : X.P.funcs[62]? = some Tryz.f62 := Tryz.func62
theorem xf63 : X.P.funcs[63]? = some Tryz.f63 := Tryz.func63
theorem xf64 : X.P.funcs[64]? = some Tryz.f64 := Tryz.func64
theorem xf65 : X.P.funcs[65]? = some Tryz.f65 := Tryz.func65
theorem xf66 : X.P.funcs[66]? = some Tryz.f66 := Tryz.func66
theorem xf67 : X.P.funcs[67]? = some Tryz.f67 := Tryz.func67
theorem xf68 : X.P.funcs[68]? = some Tryz.f68 := Tryz.func68
theorem xf69 : X.P.funcs[69]? = some Tryz.f69 := Tryz.func69
theorem xf70 : X.P.funcs[70]? = some Tryz.f70 := Tryz.func70
theorem xf71 : X.P.funcs[71]? = some Tryz.f71 := Tryz.func71
theorem xf72 : X.P.funcs[72]? = some Tryz.f72 := Tryz.func72
theorem xf73 : X.P.funcs[73]? = some Tryz.f73 := Tryz.func73
theorem xf74 : X.P.funcs[74]? = some Tryz.f74 := Tryz.func74
theorem xf75 : X.P.funcs[75]? = some Tryz.f75 := Tryz.func75
theorem xf76 : X.P.funcs[76]? = some Tryz.f76 := Tryz.func76
theorem xf77 : X.P.funcs[77]? = some Tryz.f77 := Tryz.func77
theorem xf78 : X.P.funcs[78]? = some Tryz.f78 := Tryz.func78
theorem xf79 : X.P.funcs[79]? = some Tryz.f79 := Tryz.func79
theorem xf80 : X.P.funcs[80]? = some Tryz.f80 := Tryz.func80
theorem xf81 : X.P.funcs[81]? = some Tryz.f81 := Tryz.func81
theorem xf82 : X.P.funcs[82]? = some Tryz.f82 := Tryz.func82
theorem xf83 : X.P.funcs[83]? = some Tryz.f83 := Tryz.func83
theorem xf84 : X.P.funcs[84]? = some Tryz.f84 := Tryz.func84
theorem xf85 : X.P.funcs[85]? = some Tryz.f85 := Tryz.func85
theorem xf86 : X.P.funcs[86]? = some Tryz.f86 := Tryz.func86
theorem xf87 : X.P.funcs[87]? = some Tryz.f87 := Tryz.func87
theorem xf88 : X.P.funcs[88]? = some Tryz.f88 := Tryz.func88
theorem xf89 : X.P.funcs[89]? = some Tryz.f89 := Tryz.func89
theorem xf90 : X.P.funcs[90]? = some Tryz.f90 := Tryz.func90
theorem xf91 : X.P.funcs[91]? = some Tryz.f91 := Tryz.func91
theorem xf92 : X.P.funcs[92]? = some Tryz.f92 := Tryz.func92
theorem xf93 : X.P.funcs[93]? = some Tryz.f93 := Tryz.func93
theorem xf94 : X.P.funcs[94]? = some Tryz.f94 := Tryz.func94
theorem xf95 : X.P.funcs[95]? = some Tryz.f95 := Tryz.func95
theorem xf96 : X.P.funcs[96]? = some Tryz.f96 := Tryz.func96
theorem xf97 : X.P.funcs[97]? = some Tryz.f97 := Tryz.func97
theorem xf98 : X.P.funcs[98]? = some Tryz.f98 := Tryz.func98
theorem xf101 : X.P.funcs[101]? = some Tryz.f101 := Tryz.func101
theorem xf103 : X.P.funcs[103]? = some Tryz.f103 := Tryz.func103
theorem xf104 : X.P.funcs[104]? = some Tryz.f104 := Tryz.func104
theorem xf105 : X.P.funcs[105]? = some Tryz.f105 := Tryz.func105
theorem xf108 : X.P.funcs[108]? = some Tryz.f108 := Tryz.func108
theorem xf109 : X.P.funcs[109]? = some Tryz.f109 := Tryz.func109
theorem xf110 : X.P.funcs[110]? = some Tryz.f110 := Tryz.func110
theorem xf111 : X.P.funcs[111]? = some Tryz.f111 := Tryz.func111
theorem xf112 : X.P.funcs[112]? = some Tryz.f112 := Tryz.func112
theorem xf113 : X.P.funcs[113]? = some Tryz.f113 := Tryz.func113
theorem xf114 : X.P.funcs[114]? = some Tryz.f114 := Tryz.func114
theorem xf115 : X.P.funcs[115]? = some Tryz.f115 := Tryz.func115
theorem xf116 : X.P.funcs[116]? = some Tryz.f116 := Tryz.func116
theorem xf117 : X.P.funcs[117]? = some Tryz.f117 := Tryz.func117
theorem xf118 : X.P.funcs[118]? = some Tryz.f118 := Tryz.func118
theorem xf119 : X.P.funcs[119]? = some Tryz.f119 := Tryz.func119
theorem xf120 : X.P.funcs[120]? = some Tryz.f120 := Tryz.func120
theorem xf121 : X.P.funcs[121]? = some Tryz.f121 := Tryz.func121
theorem xf122 : X.P.funcs[122]? = some Tryz.f122 := Tryz.func122
theorem xf123 : X.P.funcs[123]? = some Tryz.f123 := Tryz.func123
theorem xf124 : X.P.funcs[124]? = some Tryz.f124 := Tryz.func124
theorem xf125 : X.P.funcs[125]? = some Tryz.f125 := Tryz.func125
theorem xf126 : X.P.funcs[126]? = some Tryz.f126 := Tryz.func126
theorem xf127 : X.P.funcs[127]? = some Tryz.f127 := Tryz.func127
theorem xf128 : X.P.funcs[128]? = some Tryz.f128 := Tryz.func128
theorem xf132 : X.P.funcs[132]? = some Tryz.f132 := Tryz.func132
theorem xf133 : X.P.funcs[133]? = some Tryz.f133 := Tryz.func133
theorem xf134 : X.P.funcs[134]? = some Tryz.f134 := Tryz.func134
theorem xf135 : X.P.funcs[135]? = some Tryz.f135 := Tryz.func135
theorem xf136 : X.P.funcs[136]? = some Tryz.f136 := Tryz.func136
theorem xf137 : X.P.funcs[137]? = some Tryz.f137 := Tryz.func137
theorem xf138 : X.P.funcs[138]? = some Tryz.f138 := Tryz.func138
theorem xf139 : X.P.funcs[139]? = some Tryz.f139 := Tryz.func139
theorem xf140 : X.P.funcs[140]? = some Tryz.f140 := Tryz.func140
theorem xf141 : X.P.funcs[141]? = some Tryz.f141 := Tryz.func141
theorem xf142 : X.P.funcs[142]? = some Tryz.f142 := Tryz.func142
theorem xf143 : X.P.funcs[143]? = some Tryz.f143 := Tryz.func143
theorem xf144 : X.P.funcs[144]? = some Tryz.f144 := Tryz.func144
theorem xf145 : X.P.funcs[145]? = some Tryz.f145 := Tryz.func145
theorem xf146 : X.P.funcs[146]? = some Tryz.f146 := Tryz.func146
theorem xf147 : X.P.funcs[147]? = some Tryz.f147 := Tryz.func147
theorem xf148 : X.P.funcs[148]? = some Tryz.f148 := Tryz.func148
theorem xf149 : X.P.funcs[149]? = some Tryz.f149 := Tryz.func149
theorem xf150 : X.P.funcs[150]? = some Tryz.f150 := Tryz.func150
theorem xf151 : X.P.funcs[151]? = some Tryz.f151 := Tryz.func151
theorem xf152 : X.P.funcs[152]? = some Tryz.f152 := Tryz.func152
theorem xf153 : X.P.funcs[153]? = some Tryz.f153 := Tryz.func153
theorem xf155 : X.P.funcs[155]? = some Tryz.f155 := Tryz.func155
theorem xf156 : X.P.funcs[156]? = some Tryz.f156 := Tryz.func156
theorem xf157 : X.P.funcs[157]? = some Tryz.f157 := Tryz.func157
theorem xf158 : X.P.funcs[158]? = some Tryz.f158 := Tryz.func158
theorem xf159 : X.P.funcs[159]? = some Tryz.f159 := Tryz.func159
theorem xf162 : X.P.funcs[162]? = some Tryz.f162 := Tryz.func162
theorem xf167 : X.P.funcs[167]? = some Tryz.f167 := Tryz.func167
theorem xf168 : X.P.funcs[168]? = some Tryz.f168 := Tryz.func168
theorem xf169 : X.P.funcs[169]? = some Tryz.f169 := Tryz.func169
theorem xf170 : X.P.funcs[170]? = some Tryz.f170 := Tryz.func170
theorem xf171 : X.P.funcs[171]? = some Tryz.f171 := Tryz.func171
theorem xf172 : X.P.funcs[172]? = some Tryz.f172 := Tryz.func172
theorem xf173 : X.P.funcs[173]? = some Tryz.f173 := Tryz.func173
theorem xf174 : X.P.funcs[174]? = some Tryz.f174 := Tryz.func174
theorem xf175 : X.P.funcs[175]? = some Tryz.f175 := Tryz.func175
theorem xf176 : X.P.funcs[176]? = some Tryz.f176 := Tryz.func176
theorem xf177 : X.P.funcs[177]? = some Tryz.f177 := Tryz.func177
theorem xf178 : X.P.funcs[178]? = some Tryz.f178 := Tryz.func178
theorem xf179 : X.P.funcs[179]? = some Tryz.f179 := Tryz.func179
theorem xf180 : X.P.funcs[180]? = some Tryz.f180 := Tryz.func180
theorem xf181 : X.P.funcs[181]? = some Tryz.f181 := Tryz.func181
theorem xf182 : X.P.funcs[182]? = some Tryz.f182 := Tryz.func182
theorem xf183 : X.P.funcs[183]? = some Tryz.f183 := Tryz.func183
theorem xf184 : X.P.funcs[184]? = some Tryz.f184 := Tryz.func184
theorem xf185 : X.P.funcs[185]? = some Tryz.f185 := Tryz.func185
theorem xf186 : X.P.funcs[186]? = some Tryz.f186 := Tryz.func186
theorem xf187 : X.P.funcs[187]? = some Tryz.f187 := Tryz.func187
theorem xf188 : X.P.funcs[188]? = some Tryz.f188 := Tryz.func188
theorem xf189 : X.P.funcs[189]? = some Tryz.f189 := Tryz.func189
theorem xf190 : X.P.funcs[190]? = some Tryz.f190 := Tryz.func190
theorem xf191 : X.P.funcs[191]? = some Tryz.f191 := Tryz.func191
theorem xf192 : X.P.funcs[192]? = some Tryz.f192 := Tryz.func192
theorem xf193 : X.P.funcs[193]? = some Tryz.f193 := Tryz.func193
theorem xf194 : X.P.funcs[194]? = some Tryz.f194 := Tryz.func194
theorem xf195 : X.P.funcs[195]? = some Tryz.f195 := Tryz.func195
theorem xf196 : X.P.funcs[196]? = some Tryz.f196 := Tryz.func196
theorem xf197 : X.P.funcs[197]? = some Tryz.f197 := Tryz.func197
theorem xf198 : X.P.funcs[198]? = some Tryz.f198 := Tryz.func198
theorem xf199 : X.P.funcs[199]? = some Tryz.f199 := Tryz.func199
theorem xf200 : X.P.funcs[200]? = some Tryz.f200 := Tryz.func200
theorem xf201 : X.P.funcs[201]? = some Tryz.f201 := Tryz.func201
theorem xf202 : X.P.funcs[202]? = some Tryz.f202 := Tryz.func202
theorem xf203 : X.P.funcs[203]? = some Tryz.f203 := Tryz.func203
theorem xf204 : X.P.funcs[204]? = some Tryz.f204 := Tryz.func204
theorem xf206 : X.P.funcs[206]? = some Tryz.f206 := Tryz.func206
theorem xf207 : X.P.funcs[207]? = some Tryz.f207 := Tryz.func207
theorem xf219 : X.P.funcs[219]? = some Tryz.f219 := Tryz.func219
theorem xf230 : X.P.funcs[230]? = some Tryz.f230 := Tryz.func230
theorem xf231 : X.P.funcs[231]? = some Tryz.f231 := Tryz.func231
theorem xf232 : X.P.funcs[232]? = some Tryz.f232 := Tryz.func232
theorem xf233 : X.P.funcs[233]? = some Tryz.f233 := Tryz.func233
theorem xf234 : X.P.funcs[234]? = some Tryz.f234 := Tryz.func234
theorem xf235 : X.P.funcs[235]? = some Tryz.f235 := Tryz.func235
attribute [push_cast] false_and and_false own_X xP vec_X sz0 by0 ag0 sz1 by1 ze1 ag1 sz2 by2 ze2 ag2 sz3 by3 ze3 ag3 sz4 by4 ze4 ag4 sz5 by5 ze5 ag5 sz6 by6 ze6 ag6 sz7 by7 ze7 ag7 sz9 by9 ze9 ag9 sz20 by20 ze20 ag20 sz22 by22 ze22 ag22 el22 sz23 by23 ze23 ag23 el23 sz24 by24 ze24 ag24 el24 sz25 by25 ze25 ag25 el25 sz27 by27 ze27 ag27 sz30 by30 ze30 ag30 sz31 by31 ag31 sz34 by34 ze34 ag34 el34 sz35 by35 ag35 sz37 by37 ag37 sz41 by41 ze41 ag41 el41 sz43 by43 ag43 sz46 by46 ag46 sz55 by55 ag55 sz64 by64 ze64 ag64 sz65 by65 ze65 ag65 el65 sz69 by69 ze69 ag69 sz75 by75 ag75 sz87 by87 ze87 ag87 sz91 by91 ze91 ag91 sz93 by93 ze93 ag93 sz95 by95 ze95 ag95 sz97 by97 ze97 ag97 sz99 by99 ze99 ag99 sz100 by100 ze100 ag100 sz104 by104 ze104 ag104 sz107 by107 ze107 ag107 sz110 by110 ze110 ag110 sz113 by113 ze113 ag113 sz114 by114 ze114 ag114 sz119 by119 ze119 ag119 sz120 by120 ag120 sz129 by129 ag129 sz131 by131 ze131 ag131 sz145 by145 ze145 ag145 sz146 by146 ag146 sz149 by149 ze149 ag149 sz150 by150 ze150 ag150 sz151 by151 ag151 sz153 by153 ze153 ag153 sz155 by155 ag155 sz162 by162 ze162 ag162 sz176 by176 ze176 ag176 el176 sz178 by178 ze178 ag178 sz179 by179 ze179 ag179 sz180 by180 ze180 ag180 sz182 by182 ze182 ag182 sz183 by183 ze183 ag183 sz188 by188 ze188 ag188 sz195 by195 ze195 ag195 sz201 by201 ze201 ag201 sz202 by202 ze202 ag202 sz206 by206 ze206 ag206 sz220 by220 ze220 ag220 sz221 by221 ag221 sz227 by227 ze227 ag227 sz229 by229 ze229 ag229 sz238 by238 ze238 ag238 sz239 by239 ze239 ag239 sz243 by243 ze243 ag243 sz247 by247 ze247 ag247 xk7 xk10 xk11 xk12 xk13 xk14 xk15 xk16 xk17 xk18 xk19 xk20 xk21 xk22 xk23 xk24 xk25 xk26 xk27 xk29 xk30 xk31 xk36 xk37 xk38 xk39 xk41 xk42 xk43 xk44 xk50 xk51 xk52 xk53 xk54 xk55 xk56 xk57 xk58 xk59 xk60 xk61 xk62 xk63 xk64 xk65 xk66 xk67 xk68 xk69 xk70 xk71 xk72 xk73 xk74 xk75 xk76 xk77 xk78 xk79 xk80 xk81 xk82 xk83 xk84 xk85 xk86 xk87 xk88 xk89 xk90 xk91 xk92 xk93 xk94 xk95 xk96 xk97 xk103 xk104 xk105 xk108 xk109 xk110 xk111 xk112 xk113 xk114 xk115 xk116 xk117 xk118 xk119 xk120 xk121 xk122 xk123 xk124 xk126 xk127 xk128 xk132 xk133 xk134 xk135 xk136 xk137 xk138 xk139 xk140 xk141 xk142 xk143 xk144 xk145 xk146 xk147 xk148 xk150 xk151 xk152 xk153 xk155 xk156 xk157 xk158 xk159 xk160 xk161 xk162 xk167 xk168 xk169 xk170 xk171 xk172 xk173 xk174 xk175 xk176 xk177 xk178 xk179 xk180 xk181 xk182 xk183 xk184 xk185 xk186 xk187 xk188 xk189 xk190 xk191 xk192 xk193 xk194 xk195 xk196 xk197 xk198 xk199 xk200 xk201 xk202 xk203 xk204 xk205 xk206 xk207 xk219 xk230 xk231 xk232 xk233 xk234 xk235 xtt xt7 xt10 xt11 xt12 xt13 xt14 xt15 xt16 xt17 xt18 xt19 xt20_0 xt20_1 xt20_2 xt20_3 xt20_4 xt20_5 xt20_6 xt20_7 xt21 xt22 xt23 xt24 xt25 xt26 xt27 xt29 xt30 xt31 xt36 xt37 xt38 xt39 xt41 xt42 xt43 xt44 xt50 xt51 xt52 xt53 xt54 xt55 xt56 xt57 xt58 xt59 xt60 xt61 xt62 xt63 xt64 xt65 xt66 xt67 xt68 xt69 xt70 xt71 xt72 xt73 xt74 xt75 xt76 xt77 xt78 xt79 xt80 xt81 xt82 xt83 xt84 xt85 xt86 xt87 xt88 xt89 xt90 xt91 xt92 xt93 xt94 xt95 xt96 xt97 xt98 xt101 xt103 xt104 xt105 xt108 xt109 xt110 xt111 xt112 xt113 xt114 xt115 xt116 xt117 xt118 xt119 xt120 xt121 xt122 xt123 xt124 xt125 xt126 xt127 xt128 xt132 xt133 xt134 xt135 xt136 xt137 xt138 xt139 xt140 xt141 xt142 xt143 xt144 xt145 xt146 xt147 xt148 xt149 xt150 xt151 xt152 xt153 xt155 xt156 xt157 xt158 xt159 xt160 xt161 xt162 xt167 xt168 xt169 xt170 xt171 xt172 xt173 xt174 xt175 xt176 xt177 xt178 xt179 xt180 xt181 xt182 xt183 xt184 xt185 xt186 xt187 xt188 xt189 xt190 xt191 xt192 xt193 xt194 xt195 xt196 xt197 xt198 xt199 xt200 xt201 xt202 xt203 xt204 xt205 xt206 xt207 xt219 xt230 xt231 xt232 xt233 xt234 xt235
attribute [push_cast] Tryz.underlying0 Tryz.underlying1 Tryz.underlying2 Tryz.underlying3 Tryz.underlying4 Tryz.underlying5 Tryz.underlying6 Tryz.underlying7 Tryz.underlying9 Tryz.underlying20 Tryz.underlying22 Tryz.underlying23 Tryz.underlying24 Tryz.underlying25 Tryz.underlying27 Tryz.underlying30 Tryz.underlying31 Tryz.underlying34 Tryz.underlying35 Tryz.underlying37 Tryz.underlying41 Tryz.underlying43 Tryz.underlying46 Tryz.underlying55 Tryz.underlying64 Tryz.underlying65 Tryz.underlying69 Tryz.underlying75 Tryz.underlying87 Tryz.underlying91 Tryz.underlying93 Tryz.underlying95 Tryz.underlying97 Tryz.underlying99 Tryz.underlying100 Tryz.underlying104 Tryz.underlying107 Tryz.underlying110 Tryz.underlying113 Tryz.underlying114 Tryz.underlying119 Tryz.underlying120 Tryz.underlying129 Tryz.underlying131 Tryz.underlying145 Tryz.underlying146 Tryz.underlying149 Tryz.underlying150 Tryz.underlying151 Tryz.underlying153 Tryz.underlying155 Tryz.underlying162 Tryz.underlying176 Tryz.underlying178 Tryz.underlying179 Tryz.underlying180 Tryz.underlying182 Tryz.underlying183 Tryz.underlying188 Tryz.underlying195 Tryz.underlying201 Tryz.underlying202 Tryz.underlying206 Tryz.underlying220 Tryz.underlying221 Tryz.underlying227 Tryz.underlying229 Tryz.underlying238 Tryz.underlying239 Tryz.underlying243 Tryz.underlying247
end Go.E
/- From E to the model's calls: any law that answers true. Own work. -/
namespace Go.E
open Go.Proofs Go.RowKit
set_option maxRecDepth 100000
theorem sim_all (w : World) : Sim [] (G.all w) [] w where
  bl := by simp
  srt := by simp
  dom := by simp [G.all]
  obj := by simp [G.all]
  und := by simp
  old := by simp [G.all]
theorem below_all {w w' : World} {g' : G} (h : Ext (G.all w) w g' w') : Below w.heap.size w w' :=
  ⟨h.os, h.tape, h.output, h.size, fun k hk => (h.free k hk (fun o id => by simp [G.all, hk])).1⟩
theorem argsR_nil {w : World} : ArgsR (G.all w) w [] [] := ⟨rfl, fun j x x' h1 h2 => by simp at h1⟩
theorem argsR_cons {w : World} {x : V} {v : Value} {xs : List V} {vs : List Value} (h : VRel (G.all w) w x v) (t : ArgsR (G.all w) w xs vs) : ArgsR (G.all w) w (x :: xs) (v :: vs) := by
  refine ⟨by simp [t.1], fun j y y' h1 h2 => ?_⟩
  cases j with
  | zero => simp at h1 h2; subst h1; subst h2; exact h
  | succ j => simp at h1 h2; exact t.2 j y y' h1 h2
/-- A struct, a single value, as it was read. -/
theorem rel_row {w : World} {cs : List V} {vs : Array Value} (h : RowV w cs vs.toList) : VRel (G.all w) w (.agg cs) (.agg vs) :=
  .agg _ _ (by rw [h.1]; simp) (fun k v v' hk hv => h.2 k v v' hk (by simpa using hv))
theorem rel_one {w : World} {x : V} {v : Value} (h : RowV w [x] [v]) : VRel (G.all w) w x v := h.2 0 x v rfl rfl
theorem law_any (hm : Tryz.prog.follows .mixedOrders = true) (hI : IterOk X) (hK : KnownOk X) (hN : ∀ (f : Nat) (fn : Func), Tryz.prog.funcs[f]? = some fn → fn.name ≠ "runtime.NumGoroutine")
    (w : World) {f : Nat} {xs : List V} {vs : List Value} (hc : callw X [] f xs [] = some (.bool true, [])) (hr : ArgsR (G.all w) w xs vs) :
    Calls Tryz.prog f vs.toArray w fun e w' => e = .returned (.bool true) ∧ Below w.heap.size w w' := by
  obtain ⟨_, h⟩ := (callw_ok (cx := X) hm hI hK hN).2 _ _ _ _ _ _ hc
  refine (h (G.all w) w vs (sim_all w) hr).mono ?_
  rintro e w' ⟨v', g', rfl, ho, hv⟩
  cases hv
  exact ⟨rfl, below_all ho.ext⟩
theorem mixed_X : Tryz.prog.follows .mixedOrders = true := by kernel_rfl
theorem noNum_all : (Tryz.prog.funcs.toList.all fun fn => decide (fn.name ≠ "runtime.NumGoroutine")) = true := by kernel_rfl
theorem noNum (f : Nat) (fn : Func) (h : Tryz.prog.funcs[f]? = some fn) : fn.name ≠ "runtime.NumGoroutine" := by
  have h1 := List.all_eq_true.1 noNum_all fn (List.mem_of_getElem? (i := f) (by simpa using h))
  exact of_decide_eq_true h1
end Go.E
/- What helpers of the program say, in plain Lean. Own work. -/
namespace Go.E

def firstL : List Int → Int
  | [] => 0
  | e :: r => if e ≠ 0 then e else firstL r
theorem firstL_2 (a b : Int) : firstL [a, b] = if a ≠ 0 then a else b := by
  simp only [firstL]; split <;> (try rfl); split <;> simp_all

/-! ### Names -/
def badAt (i : Nat) (c : Int) : Bool :=
  !(decide (97 ≤ c) && decide (c ≤ 122) || decide (65 ≤ c) && decide (c ≤ 90)) && (decide (i = 0) || decide (c ≠ 95) && !(decide (48 ≤ c) && decide (c ≤ 57)))
def badIn : Nat → List UInt8 → Bool
  | _, [] => false
  | i, b :: r => badAt i b.toNat || badIn (i + 1) r
def isNameS (s : ByteArray) : Bool := !badIn 0 s.data.toList && (decide ((1 : Int) ≤ s.size) && decide ((s.size : Int) ≤ 16))

theorem wrap_byte (b : UInt8) : IntKind.i64.wrap ((b.toNat : Nat) : Int) = b.toNat := by have := b.toNat_lt; rw [wrap64] <;> omega
theorem idx0 (i : Nat) : decide ((i : Int) = 0) = decide (i = 0) := by congr 1; simp
attribute [push_cast] indexV convV wrap_byte

/-! ### Names that were seen, as a map -/
def namesM (ns : List ByteArray) : List (V × V) := ns.map fun s => (.str s, .bool true)
def addName (s : ByteArray) : List ByteArray → List ByteArray
  | [] => [s]
  | t :: r => if s = t then s :: r else t :: addName s r
def hasName (s : ByteArray) : List ByteArray → Bool
  | [] => false
  | t :: r => decide (s = t) || hasName s r
theorem find_names (s : ByteArray) : ∀ ns : List ByteArray, findV (.str s) (namesM ns) = some (if hasName s ns = true then some (.bool true) else none)
  | [] => rfl
  | t :: r => by
    have ih := find_names s r
    simp only [namesM, List.map_cons, findV, keyEq, hasName] at ih ⊢
    by_cases h : s = t
    · simp [h]
    · simp [h, ih]
theorem put_names (s : ByteArray) : ∀ ns : List ByteArray, putV (.str s) (.bool true) (namesM ns) = namesM (addName s ns)
  | [] => rfl
  | t :: r => by
    have ih := put_names s r
    simp only [namesM, List.map_cons, putV, keyEq, addName] at ih ⊢
    by_cases h : s = t
    · simp [h]
    · simp [h, ih]
def nameErr (ns : List ByteArray) (s : ByteArray) : Int := firstL [if isNameS s = true then 0 else 4, if hasName s ns = true then 5 else 0]

/-! ### What netlists are made of -/
structure Port where
  name : ByteArray
  width : Int
def encPort (p : Port) : V := .agg [.str p.name, .int .i64 p.width]
structure Reg where
  name : ByteArray
  width : Int
  init : Int
  enable : Int
  next : Int
def encReg (r : Reg) : V := .agg [.str r.name, .int .i64 r.width, .int .i64 r.init, .int .i64 r.enable, .int .i64 r.next]
structure Node where
  op : Int
  width : Int
  args : List Int
  value : Int
def encInt (n : Int) : V := .int .i64 n
def encInts (l : List Int) : V := .list (l.map (.int .i64))
def encNode (x : Node) : V := .agg [.int .i64 x.op, .int .i64 x.width, encInts x.args, .int .i64 x.value]
structure Outp where
  name : ByteArray
  node : Int
def encOutp (o : Outp) : V := .agg [.str o.name, .int .i64 o.node]
structure Netl where
  name : ByteArray
  inputs : List Port
  regs : List Reg
  nodes : List Node
  outs : List Outp
def cellsNetl (n : Netl) : List V := [.str n.name, .list (n.inputs.map encPort), .list (n.regs.map encReg), .list (n.nodes.map encNode), .list (n.outs.map encOutp)]
def encNetl (n : Netl) : V := .agg (cellsNetl n)
attribute [push_cast] encPort encReg encInt encInts encNode encOutp encNetl cellsNetl

theorem pureL_int (k : IntKind) (l : List Int) : V.pureL (l.map (.int k)) = true := pureL_map fun _ => rfl
theorem pureL_bool (l : List Bool) : V.pureL (l.map .bool) = true := pureL_map fun _ => rfl
theorem pureL_encPort (l : List Port) : V.pureL (l.map encPort) = true := pureL_map fun _ => rfl
theorem pureL_encReg (l : List Reg) : V.pureL (l.map encReg) = true := pureL_map fun _ => rfl
theorem pureL_encOutp (l : List Outp) : V.pureL (l.map encOutp) = true := pureL_map fun _ => rfl
theorem pure_encInts (l : List Int) : (encInts l).pure = true := by simp only [encInts, V.pure, pureL_int]
theorem pureL_encInts (l : List (List Int)) : V.pureL (l.map encInts) = true := pureL_map pure_encInts
theorem pure_encNode (x : Node) : (encNode x).pure = true := by simp only [encNode, V.pure, V.pureL, pure_encInts, Bool.and_self]
theorem pureL_encNode (l : List Node) : V.pureL (l.map encNode) = true := pureL_map pure_encNode
attribute [push_cast] pureL_int pureL_bool pureL_encPort pureL_encReg pureL_encOutp pureL_encInts pureL_encNode

theorem all_int (k : IntKind) (l : List Int) : (l.map (V.int k)).all (fun e => e.cells.length == 1) = true := all_cells_map fun _ => rfl
theorem all_bool (l : List Bool) : (l.map V.bool).all (fun e => e.cells.length == 1) = true := all_cells_map fun _ => rfl
theorem all_encInts (l : List (List Int)) : (l.map encInts).all (fun e => e.cells.length == 1) = true := all_cells_map fun _ => rfl
theorem all_encPort (l : List Port) : (l.map encPort).all (fun e => e.cells.length == 2) = true := all_cells_map fun _ => rfl
theorem all_encReg (l : List Reg) : (l.map encReg).all (fun e => e.cells.length == 5) = true := all_cells_map fun _ => rfl
theorem all_encNode (l : List Node) : (l.map encNode).all (fun e => e.cells.length == 4) = true := all_cells_map fun _ => rfl
theorem all_encOutp (l : List Outp) : (l.map encOutp).all (fun e => e.cells.length == 2) = true := all_cells_map fun _ => rfl
theorem room8 (n : Nat) (h : n ≤ 1000000) : (n + 1) * 8 ≤ roomB := by unfold roomB; omega
attribute [push_cast] all_int all_bool all_encInts all_encPort all_encReg all_encNode all_encOutp appendV elemsV firstL

/-! ### each -/
def eachL {α S : Type} (g : Nat → α → S → Int × S) : Nat → List α → S → (Int × Int) × S
  | _, [], s => ((0, 0), s)
  | i, x :: r, s => if (g i x s).1 ≠ 0 then (((i : Int), (g i x s).1), (g i x s).2) else eachL g (i + 1) r (g i x s).2

/-- Without a state. -/
def eachP {α : Type} (g : Nat → α → Int) : Nat → List α → Int × Int
  | _, [] => (0, 0)
  | i, x :: r => if g i x ≠ 0 then ((i : Int), g i x) else eachP g (i + 1) r
theorem eachL_P {α : Type} (g : Nat → α → Int) : ∀ (l : List α) (i : Nat), eachL (fun i x (u : Unit) => (g i x, u)) i l () = (eachP g i l, ())
  | [], _ => rfl
  | x :: r, i => by
    simp only [eachL, eachP]
    split
    · rfl
    · exact eachL_P g r (i + 1)

/-- What a function value does, asked of by 'each'. -/
def Does (X : Cx) {α S : Type} (enc : α → V) (HS : S → Heap) (fid : Nat) (caps : List V) (g : Nat → α → S → Int × S) (l : List α) : Prop :=
  ∀ (bs : List Nat) (i : Nat) (x : α) (s : S) (junk : Heap), l[i]? = some x → callw X bs fid (.int .i64 i :: enc x :: caps) (HS s ++ junk) = some (.int .i64 (g i x s).1, HS (g i x s).2 ++ junk)
end Go.E
/- What graphs are, in plain Lean. Own work. -/
namespace Go.E

/-! ### Whether some element is so -/
def idxF {α : Type} (p : α → Bool) : Int → List α → Int
  | _, [] => -1
  | i, x :: r => if p x = true then i else idxF p (i + 1) r
theorem idxF_any {α : Type} (p : α → Bool) : ∀ (l : List α) (i : Int), 0 ≤ i → decide (idxF p i l ≥ 0) = l.any p
  | [], i, _ => by simp [idxF]
  | x :: r, i, h => by
    simp only [idxF, List.any_cons]
    by_cases hp : p x = true
    · simp [hp, h]
    · have := idxF_any p r (i + 1) (by omega)
      simp only [Bool.not_eq_true] at hp
      simp only [hp, Bool.false_eq_true, if_false, Bool.false_or]; exact this

/-! ### Operations of nodes -/
def shl1 (n : Int) : Int := IntKind.i64.wrap (1 * 2 ^ (min n.toNat 64))
def fitsG (n width : Int) : Bool := decide (width ≥ 0) && (decide (0 ≤ n) && decide (n ≤ IntKind.i64.wrap (shl1 width - 1)))
def isW (n : Int) : Bool := decide (1 ≤ n) && decide (n ≤ 16)
def argC (k : Nat) : Nat := [0, 0, 1, 2, 2, 2, 2, 2, 2, 2, 2, 2, 3, 2, 1, 1, 1, 2, 2].getD k 0
def hasV (k : Nat) : Bool := [true, true, false, false, false, false, false, false, false, false, false, false, false, false, true, false, false, false, false].getD k false
def at0 (a : List Int) (i : Nat) : Int := a.getD i 0
def fitsS (k : Nat) (w : Int) (a : List Int) (v : Int) : Bool :=
  match k with
  | 0 | 1 => true
  | 2 | 3 | 4 | 5 | 6 | 7 | 8 => !(a.any fun n => decide (n ≠ w))
  | 9 | 10 | 11 => decide (w = 1) && decide (at0 a 0 = at0 a 1)
  | 12 => decide (at0 a 0 = 1) && decide (at0 a 1 = w) && decide (at0 a 2 = w)
  | 13 => decide (IntKind.i64.wrap (at0 a 0 + at0 a 1) = w)
  | 14 => decide (IntKind.i64.wrap (v + w) ≤ at0 a 0)
  | 15 | 16 => decide (at0 a 0 ≤ w)
  | _ => decide (at0 a 0 = w)
def valueErrS (leaves : List Int) (k : Nat) (x : Node) : Int :=
  if k = 0 then (if fitsG x.value x.width = true then 0 else 2)
  else if k = 1 then (if 0 ≤ x.value ∧ x.value < leaves.length then (if at0 leaves x.value.toNat = x.width then 0 else 25) else 6)
  else if k = 14 then (if (decide (0 ≤ x.value) && decide (x.value ≤ 15)) = true then 0 else 2)
  else if hasV k = true ∨ x.value = 0 then 0 else 3
def widthsOf (nodes : List Node) (a : List Int) : List Int := a.map fun n => match nodes[n.toNat]? with | some y => y.width | none => 0
def nodeErrS (leaves : List Int) (nodes : List Node) (i : Nat) (x : Node) : Int :=
  if ¬ (0 ≤ x.op ∧ x.op ≤ 18) then 15
  else if isW x.width = false then 2
  else if x.args.length ≠ argC x.op.toNat then 10
  else if x.args.any (fun n => !(decide (0 ≤ n) && decide (n ≤ (i : Int) - 1))) = true then 9
  else if valueErrS leaves x.op.toNat x ≠ 0 then valueErrS leaves x.op.toNat x
  else if fitsS x.op.toNat x.width (widthsOf nodes x.args) x.value = true then 0 else 25
def checkNodesS (leaves : List Int) (nodes : List Node) : Int × Int :=
  if 40 < leaves.length then (0, 8) else
  if (eachP (fun _ n => if isW n = true then (0 : Int) else 2) 0 leaves).2 ≠ 0 then eachP (fun _ n => if isW n = true then (0 : Int) else 2) 0 leaves
  else if 400 < nodes.length then (0, 8) else eachP (nodeErrS leaves nodes) 0 nodes
theorem get_app {α : Type} {H : List α} {i : Nat} {x : α} (h : H[i]? = some x) (l : List α) : (H ++ l)[i]? = some x := by
  rw [List.getElem?_append_left (List.getElem?_eq_some_iff.1 h).1]; exact h
end Go.E
/- What netlists are, in plain Lean. Own work. -/
namespace Go.E
def fitsN (n width : Int) : Bool := decide (0 ≤ n) && decide (n ≤ IntKind.i64.wrap (shl1 width - 1))
def leavesN (n : Netl) : List Int := n.inputs.map (·.width) ++ n.regs.map (·.width)
def isNodeN (n : Netl) (i : Int) : Bool := decide (0 ≤ i) && decide (i ≤ (n.nodes.length : Int) - 1)
def widthAt (n : Netl) (i : Int) : Int := match n.nodes[i.toNat]? with | some y => y.width | none => 0
def portErrS (_ : Nat) (p : Port) (ns : List ByteArray) : Int × List ByteArray := (firstL [nameErr ns p.name, if isW p.width = true then 0 else 2], addName p.name ns)
def regErrS (_ : Nat) (r : Reg) (ns : List ByteArray) : Int × List ByteArray := (firstL [nameErr ns r.name, if (isW r.width && fitsN r.init r.width) = true then 0 else 2], addName r.name ns)
def regErr2S (n : Netl) (_ : Nat) (r : Reg) : Int :=
  if (!isNodeN n r.enable) = true then 9 else if ¬ widthAt n r.enable = 1 then 9 else if (!isNodeN n r.next) = true then 9 else if widthAt n r.next = r.width then 0 else 25
def outErrS (n : Netl) (_ : Nat) (o : Outp) (ns : List ByteArray) : Int × List ByteArray := (firstL [nameErr ns o.name, if isNodeN n o.node = true then 0 else 9], addName o.name ns)
def firstP : List (Int × Int) → Int × Int
  | [] => (0, 0)
  | r :: l => if r.2 ≠ 0 then r else firstP l
def checkNetS (n : Netl) : Int × Int :=
  let a := eachL portErrS 0 n.inputs []
  let b := eachL regErrS 0 n.regs a.2
  firstP [(0, firstL [if isNameS n.name = true then 0 else 4, if decide ((n.inputs.length : Int) ≤ 12) = true then 0 else 8]), a.1,
    (0, if decide ((n.inputs.length : Int) + n.regs.length ≤ 40) = true then 0 else 8), b.1, checkNodesS (leavesN n) n.nodes, eachP (regErr2S n) 0 n.regs,
    (0, if decide ((n.outs.length : Int) ≤ 12) = true then 0 else 8), (eachL (outErrS n) 0 n.outs []).1]
/-- Sizes that a law lets in. -/
structure Small (n : Netl) : Prop where
  name : n.name.size ≤ 1000
  inputs : n.inputs.length ≤ 1000
  regs : n.regs.length ≤ 1000
  nodes : n.nodes.length ≤ 1000
  outs : n.outs.length ≤ 1000
  inn : ∀ p ∈ n.inputs, p.name.size ≤ 1000
  rgn : ∀ r ∈ n.regs, r.name.size ≤ 1000
  otn : ∀ o ∈ n.outs, o.name.size ≤ 1000
  args : ∀ x ∈ n.nodes, x.args.length ≤ 1000
end Go.E
/- An argument as the row reads it is a netlist. Own work. -/
namespace Go.E
open Go.Proofs
set_option maxRecDepth 100000
theorem list_dec {α : Type} {f : α → V} : ∀ {es : List V}, (∀ el ∈ es, ∃ a, el = f a) → ∃ l : List α, es = l.map f
  | [], _ => ⟨[], rfl⟩
  | e :: r, h => by
    obtain ⟨a, ha⟩ := h e (by simp)
    obtain ⟨l, hl⟩ := list_dec (es := r) fun el hm => h el (by simp [hm])
    exact ⟨a :: l, by rw [ha, hl]; rfl⟩
theorem dec_port (n : Nat) (xs : List V) (h : CellsT Tryz.prog (n + 2) 93 xs) : ∃ p : Port, V.agg xs = encPort p := by
  simp only [CellsT, Tryz.underlying93, FieldsT, Tryz.underlying9, Tryz.underlying3] at h
  obtain ⟨_, _, rfl, ⟨s, rfl, _⟩, _, _, rfl, ⟨i, rfl, _⟩, rfl⟩ := h
  exact ⟨⟨s, i⟩, rfl⟩
theorem dec_outp (n : Nat) (xs : List V) (h : CellsT Tryz.prog (n + 2) 97 xs) : ∃ p : Outp, V.agg xs = encOutp p := by
  simp only [CellsT, Tryz.underlying97, FieldsT, Tryz.underlying9, Tryz.underlying3] at h
  obtain ⟨_, _, rfl, ⟨s, rfl, _⟩, _, _, rfl, ⟨i, rfl, _⟩, rfl⟩ := h
  exact ⟨⟨s, i⟩, rfl⟩
theorem dec_reg (n : Nat) (xs : List V) (h : CellsT Tryz.prog (n + 2) 95 xs) : ∃ p : Reg, V.agg xs = encReg p := by
  simp only [CellsT, Tryz.underlying95, FieldsT, Tryz.underlying9, Tryz.underlying3] at h
  obtain ⟨_, _, rfl, ⟨s, rfl, _⟩, _, _, rfl, ⟨i, rfl, _⟩, _, _, rfl, ⟨j, rfl, _⟩, _, _, rfl, ⟨k, rfl, _⟩, _, _, rfl, ⟨l, rfl, _⟩, rfl⟩ := h
  exact ⟨⟨s, i, j, k, l⟩, rfl⟩
theorem dec_ints (n : Nat) (xs : List V) (h : CellsT Tryz.prog (n + 2) 34 xs) : ∃ l : List Int, xs = [.list (l.map (.int .i64))] := by
  simp only [CellsT, Tryz.underlying34, Tryz.underlying3, isRow, Bool.false_eq_true, if_false] at h
  obtain ⟨es, rfl, _, he⟩ := h
  obtain ⟨l, hl⟩ := list_dec (f := V.int .i64) (es := es) fun el hm => by
    obtain ⟨⟨i, h1, _⟩, h2⟩ := he el hm
    rw [h1] at h2
    exact ⟨i, (List.cons.inj h2).1.symm⟩
  exact ⟨l, by rw [hl]⟩
theorem dec_node (n : Nat) (xs : List V) (h : CellsT Tryz.prog (n + 3) 91 xs) : ∃ p : Node, V.agg xs = encNode p := by
  unfold CellsT at h
  simp only [Tryz.underlying91, FieldsT] at h
  obtain ⟨_, _, rfl, h1, _, _, rfl, h2, _, _, rfl, h3, _, _, rfl, h4, rfl⟩ := h
  obtain ⟨l, rfl⟩ := dec_ints n _ h3
  simp only [CellsT, Tryz.underlying3] at h1 h2 h4
  obtain ⟨i, rfl, _⟩ := h1
  obtain ⟨j, rfl, _⟩ := h2
  obtain ⟨k, rfl, _⟩ := h4
  exact ⟨⟨i, j, l, k⟩, rfl⟩
theorem dec_list {α : Type} {f : α → V} {n : Nat} {t e : TypeId} {xs : List V} (hu : Tryz.prog.underlying t = some (.slice e)) (hr : isRow (Tryz.prog.underlying e) = true)
    (hf : ∀ ys, CellsT Tryz.prog n e ys → ∃ a, V.agg ys = f a) (h : CellsT Tryz.prog (n + 1) t xs) : ∃ l : List α, xs = [.list (l.map f)] := by
  unfold CellsT at h
  simp only [hu, hr, if_true] at h
  obtain ⟨es, rfl, _, he⟩ := h
  obtain ⟨l, hl⟩ := list_dec (f := f) (es := es) fun el hm => by
    obtain ⟨h1, h2⟩ := he el hm
    obtain ⟨a, ha⟩ := hf _ h1
    exact ⟨a, h2.trans ha⟩
  exact ⟨l, by rw [hl]⟩
theorem dec_netl (n : Nat) (xs : List V) (h : CellsT Tryz.prog (n + 5) 27 xs) : ∃ m : Netl, xs = cellsNetl m := by
  unfold CellsT at h
  simp only [Tryz.underlying27, FieldsT] at h
  obtain ⟨_, _, rfl, h1, _, _, rfl, h2, _, _, rfl, h3, _, _, rfl, h4, _, _, rfl, h5, rfl⟩ := h
  obtain ⟨l2, rfl⟩ := dec_list (f := encPort) Tryz.underlying22 (by rw [Tryz.underlying93]; rfl) (fun ys hy => dec_port (n + 1) ys hy) h2
  obtain ⟨l3, rfl⟩ := dec_list (f := encReg) Tryz.underlying23 (by rw [Tryz.underlying95]; rfl) (fun ys hy => dec_reg (n + 1) ys hy) h3
  obtain ⟨l4, rfl⟩ := dec_list (f := encNode) Tryz.underlying24 (by rw [Tryz.underlying91]; rfl) (fun ys hy => dec_node n ys hy) h4
  obtain ⟨l5, rfl⟩ := dec_list (f := encOutp) Tryz.underlying25 (by rw [Tryz.underlying97]; rfl) (fun ys hy => dec_outp (n + 1) ys hy) h5
  simp only [CellsT, Tryz.underlying9] at h1
  obtain ⟨s, rfl, _⟩ := h1
  exact ⟨⟨s, l2, l3, l4, l5⟩, rfl⟩
end Go.E
/- Lists of whole numbers, as a row reads them. Own work. -/
namespace Go.E
open Go.Proofs
set_option maxRecDepth 100000
theorem dec_lists (n : Nat) (xs : List V) (h : CellsT Tryz.prog (n + 3) 41 xs) : ∃ l : List (List Int), xs = [.list (l.map encInts)] := by
  unfold CellsT at h
  simp only [Tryz.underlying41, Tryz.underlying34, isRow, Bool.false_eq_true, if_false] at h
  obtain ⟨es, rfl, _, he⟩ := h
  obtain ⟨l, hl⟩ := list_dec (f := encInts) (es := es) fun el hm => by
    obtain ⟨h1, h2⟩ := he el hm
    obtain ⟨a, ha⟩ := dec_ints n _ h1
    have h3 := h2.symm.trans ha
    exact ⟨a, (List.cons.inj h3).1⟩
  exact ⟨l, by rw [hl]⟩
end Go.E
/- What the references say of netlists, in plain Lean. Own work. -/
namespace Go.E
def portErrR (l : List Port) (i : Nat) (p : Port) : Int :=
  if isNameS p.name = false then 4 else if (l.take i).any (fun q => decide (q.name = p.name)) = true then 5 else if isW p.width = false then 2 else 0
def portsErrR (l : List Port) : Int × Int := if 12 < l.length then (0, 8) else eachP (portErrR l) 0 l
def isNodeL (nodes : List Node) (i : Int) : Bool := decide (0 ≤ i) && decide (i ≤ (nodes.length : Int) - 1)
def outErrR (nodes : List Node) (l : List Outp) (i : Nat) (o : Outp) : Int :=
  if isNameS o.name = false then 4 else if (l.take i).any (fun q => decide (q.name = o.name)) = true then 5 else if isNodeL nodes o.node = false then 9 else 0
def outsErrR (nodes : List Node) (l : List Outp) : Int × Int := if 12 < l.length then (0, 8) else eachP (outErrR nodes l) 0 l
def regErrR (n : Netl) (i : Nat) (r : Reg) : Int :=
  if isNameS r.name = false then 4 else if (n.regs.take i).any (fun q => decide (q.name = r.name)) = true then 5 else if n.inputs.any (fun q => decide (q.name = r.name)) = true then 5
  else if (isW r.width && fitsN r.init r.width) = false then 2 else 0
def widthL (nodes : List Node) (i : Int) : Int := match nodes[i.toNat]? with | some y => y.width | none => 0
def nodesErrR (leaves : List Int) (nodes : List Node) : Int × Int := if 400 < nodes.length then (0, 8) else eachP (nodeErrS leaves nodes) 0 nodes
def netErrR (n : Netl) : Int × Int :=
  if isNameS n.name = false then (0, 4)
  else if (portsErrR n.inputs).2 ≠ 0 then portsErrR n.inputs
  else if 40 < n.inputs.length + n.regs.length then (0, 8)
  else if (eachP (regErrR n) 0 n.regs).2 ≠ 0 then eachP (regErrR n) 0 n.regs
  else if (nodesErrR (leavesN n) n.nodes).2 ≠ 0 then nodesErrR (leavesN n) n.nodes
  else if (eachP (regErr2S n) 0 n.regs).2 ≠ 0 then eachP (regErr2S n) 0 n.regs
  else outsErrR n.nodes n.outs
end Go.E
/- Rows that are filled, copies. Own work. -/
namespace Go.E
section
variable {α : Type}
def fill (f : α → V) (z : V) (l : List α) (i : Nat) : List V := (l.take i).map f ++ List.replicate (l.length - i) z
theorem fill_len (f : α → V) (z : V) (l : List α) (i : Nat) (h : i ≤ l.length) : (fill f z l i).length = l.length := by simp [fill]; omega
theorem fill_get (f : α → V) (z : V) (l : List α) (i : Nat) (h : i < l.length) : (fill f z l i)[i]? = some z := by
  unfold fill
  rw [List.getElem?_append_right (by simp; omega)]
  simp [List.getElem?_replicate]; omega
theorem fill_set (f : α → V) (z : V) (l : List α) (i : Nat) (x : α) (h : l[i]? = some x) : (fill f z l i).set i (f x) = fill f z l (i + 1) := by
  obtain ⟨hlt, rfl⟩ := List.getElem?_eq_some_iff.1 h
  unfold fill
  rw [List.set_append_right _ _ (by simp; omega), List.take_add_one]
  have h1 : i - ((l.take i).map f).length = 0 := by simp; omega
  have h2 : l.length - i = (l.length - (i + 1)) + 1 := by omega
  rw [h1, h2, List.replicate_succ]
  simp only [List.set_cons_zero, List.getElem?_eq_getElem hlt, Option.toList_some, List.map_append, List.map_cons, List.map_nil, List.append_assoc, List.singleton_append]
theorem fill_get1 (f : α → V) (z : V) (l : List α) (i : Nat) (x : α) (h : l[i]? = some x) : (fill f z l (i + 1))[i]? = some (f x) := by
  obtain ⟨hlt, _⟩ := List.getElem?_eq_some_iff.1 h
  rw [← fill_set f z l i x h, List.getElem?_set_self (by rw [fill_len f z l i (by omega)]; omega)]
theorem fill_set1 (f : α → V) (z : V) (l : List α) (i : Nat) (x : α) (h : l[i]? = some x) : (fill f z l (i + 1)).set i (f x) = fill f z l (i + 1) := by
  rw [← fill_set f z l i x h, List.set_set]
theorem fill_end (f : α → V) (z : V) (l : List α) : fill f z l l.length = l.map f := by simp [fill]
theorem fill_0 (f : α → V) (z : V) (l : List α) : fill f z l 0 = List.replicate l.length z := by simp [fill]
theorem set_get {l : List V} {i : Nat} {v z : V} (h : l[i]? = some z) : (l.set i v)[i]? = some v := by rw [List.getElem?_set_self (List.getElem?_eq_some_iff.1 h).1]
end
theorem te_int (k : IntKind) (l : List Int) : List.mapM (takeElem 1) (l.map (V.int k)) = some (l.map (V.int k)) := takeElems_map fun _ => by simp [takeElem, V.norm, norm1, V.cells, V.pure, V.isCell]
theorem te_encPort (l : List Port) : List.mapM (takeElem 2) (l.map encPort) = some (l.map encPort) := takeElems_map fun _ => by simp [takeElem, encPort, V.norm, norm1, V.cells, V.pure, V.pureL, V.isCell]
theorem te_encReg (l : List Reg) : List.mapM (takeElem 5) (l.map encReg) = some (l.map encReg) := takeElems_map fun _ => by simp [takeElem, encReg, V.norm, norm1, V.cells, V.pure, V.pureL, V.isCell]
theorem te_encOutp (l : List Outp) : List.mapM (takeElem 2) (l.map encOutp) = some (l.map encOutp) := takeElems_map fun _ => by simp [takeElem, encOutp, V.norm, norm1, V.cells, V.pure, V.pureL, V.isCell]
attribute [push_cast] te_int te_encPort te_encReg te_encOutp likeV List.headD_cons
theorem take_step {α : Type} {a b : List α} {i : Nat} {x y : α} (ha : a[i]? = some x) (hb : b[i]? = some y) (h : a.take i = b.take i) : (x = y → a.take (i + 1) = b.take (i + 1)) ∧ (x ≠ y → a ≠ b) := by
  refine ⟨fun e => ?_, fun e f => ?_⟩
  · rw [List.take_add_one, List.take_add_one, ha, hb, h, e]
  · rw [f, hb] at ha
    exact e (Option.some.inj ha).symm
theorem take_map {α β : Type} (f : α → β) (l : List α) : List.take l.length (l.map f) = l.map f := by rw [← List.length_map (f := f), List.take_length]
attribute [push_cast] take_map implies_true
theorem room_of {n k : Nat} (h : n ≤ 1000000) (hk : k ≤ 1000) : n * k ≤ roomB := by
  have : n * k ≤ 1000000 * 1000 := Nat.mul_le_mul h hk
  unfold roomB; omega
theorem room_int {n : Nat} (h : n ≤ 1000000) : (n : Int) ≤ (roomB : Nat) := by unfold roomB; omega
end Go.E
/- LeafValues: an append onto what a call has handed back. Own work. -/
namespace Go.E
open Go.Proofs
set_option maxRecDepth 100000
set_option maxHeartbeats 4000000

/-- Nothing known, nothing ranged over. -/
noncomputable def X0 : Cx := { P := Tryz.prog, keep := fun _ => false, known := fun _ _ => none, iter := fun _ _ => none, own := fun _ => false }
theorem x0P : X0.P = Tryz.prog := rfl
theorem x0own (t : TypeId) : X0.own t = false := rfl
theorem x0t (o : Operand) (p : String) : X0.thaw o p = false := Eq.trans rfl rfl
theorem x0v (t : TypeId) (p : String) : (X0.vec t p = true) = False := propext ⟨fun h => (by cases h), False.elim⟩
attribute [push_cast] x0P x0own x0t x0v
theorem iter_0 : IterOk X0 := by intro gf caps l h; cases h
theorem fresh_0 : FreshOk X0 := by intro f args s es h; cases h
theorem known_0 : KnownOk X0 := ⟨fresh_0, act_none (fun _ _ _ => rfl), by intro f fn args v _ hk; cases hk⟩
theorem ci_raw (bs : List Nat) (H : Heap) (a : List Int) (ha : a.length ≤ 1000000) (c : Code) (hc : Tryz.f20.body = some c) :
    Ev X0 ⟨6, bs⟩ c (fr [V.list (a.map (.int .i64))]) H fun ex ρ H1 => ex = .ret ∧ ρ 2 = .tl (H.length + 1) (a.map (.int .i64)) ∧ H1 = H ++ [.tok 0, .tok a.length] := by
  obtain rfl := Option.some.inj hc
  clear hc
  have hroom : a.length * 8 ≤ roomB := by unfold roomB; omega
  all_goals try (refine zs ?_; repeat' first | apply zs0 | apply zs2 | (intro hc; try have hq := dq hc))
  exact ⟨rfl, by (simp only [seval, push_cast, *] <;> rfl), by first | rfl | simp⟩
theorem intsOf_map (a : List Int) : intsOf (a.map (.int .i64)) = some a := by
  induction a with
  | nil => rfl
  | cons x r ih => simp only [List.map_cons, intsOf, ih, Option.map_some]
theorem intsOf_some : ∀ {l : List V} {a : List Int}, intsOf l = some a → l = a.map (.int .i64)
  | [], a, h => by cases h; rfl
  | v :: r, a, h => by
    cases v with
    | int k n =>
      cases k with
      | i64 =>
        simp only [intsOf, Option.map_eq_some_iff] at h
        obtain ⟨b, h1, rfl⟩ := h
        rw [intsOf_some h1]; rfl
      | _ => simp [intsOf] at h
    | _ => simp [intsOf] at h
def callRaw : CallSem := fun _ f args H =>
  match args with
  | [.list es] => if f = 20 then (intsOf es).bind fun a => if a.length ≤ 1000000 then some (.tl (H.length + 1) (a.map (.int .i64)), H ++ [.tok 0, .tok a.length]) else none else none
  | _ => none
theorem callRaw_ok (hm : Tryz.prog.follows .mixedOrders = true) (hN : ∀ (f : Nat) (fn : Func), Tryz.prog.funcs[f]? = some fn → fn.name ≠ "runtime.NumGoroutine") : CallOk X0 callRaw := by
  refine ⟨fresh_0, fun bs f args H v H' h => ?_⟩
  unfold callRaw at h
  split at h
  case h_2 => cases h
  rename_i es
  split at h
  case isFalse => cases h
  rename_i hf
  subst hf
  obtain ⟨a, h1, h2⟩ := Option.bind_eq_some_iff.1 h
  split at h2
  case isFalse => cases h2
  rename_i ha
  cases h2
  obtain rfl := intsOf_some h1
  refine ⟨⟨Tryz.f20, Tryz.func20, rfl, hN _ _ Tryz.func20⟩, fun g w args' hS hA => ?_⟩
  have hraw := ci_raw (H.length :: bs) H a ha _ rfl
  unfold Ev at hraw
  obtain ⟨ex, ρ', H1, e1, rfl, e3, rfl⟩ := hraw
  exact raw_ok (cx := X0) hm iter_0 known_0 hN Tryz.func20 rfl (args := [.list (a.map (.int .i64))]) (bs := bs) (H := H) e1 (vs := [.tl (H.length + 1) (a.map (.int .i64))]) (by
    show resultsV Tryz.prog Tryz.f20 ρ' _ = _
    simp only [resultsV, Tryz.f20]
    simp [e3]) g w args' hS hA
theorem callRaw_at (bs : List Nat) (H : Heap) (a : List Int) (ha : a.length ≤ 1000000) : callRaw bs 20 [.list (a.map (.int .i64))] H = some (.tl (H.length + 1) (a.map (.int .i64)), H ++ [.tok 0, .tok a.length]) := by
  simp [callRaw, intsOf_map, ha]
theorem lv_body (bs : List Nat) (H : Heap) (a b : List Int) (h : a.length + b.length ≤ 1000000) :
    evBody X0 (loopn 0) callRaw bs 98 [.list (a.map (.int .i64)), .list (b.map (.int .i64))] H = some (.list ((a ++ b).map (.int .i64)), H) := by
  have hf : X0.P.funcs[98]? = some Tryz.f98 := Tryz.func98
  obtain ⟨c, hb⟩ : ∃ c, Tryz.f98.body = some c := ⟨_, rfl⟩
  have hcr := fun bs H => callRaw_at bs H a (by omega)
  have hroom : (a.length + b.length) * 8 ≤ roomB := by unfold roomB; omega
  unfold evBody
  simp only [hf, hb]
  rw [if_neg (by simp [X0])]
  obtain rfl := Option.some.inj hb
  clear hb hf
  have hn : Tryz.f98.ntmps = 9 := rfl
  have hr : Tryz.f98.results.toList = [.tmp 4] := rfl
  have e : (fun i => [V.list (a.map (.int .i64)), V.list (b.map (.int .i64))].getD i V.undef) = fr [V.list (a.map (.int .i64)), V.list (b.map (.int .i64))] := rfl
  simp only [List.map_cons, List.map_nil, V.norm, norm1]
  rw [e]
  have hg : ∀ x y z : HObj, (H ++ [x, y, z])[H.length + 1 + 1]? = some z := fun x y z => by simp [Nat.add_assoc]
  have hs : ∀ x y z u : HObj, (H ++ [x, y, z]).set (H.length + 1 + 1) u = H ++ [x, y, u] := fun x y z u => by rw [List.set_append_right _ _ (by omega)]; simp [Nat.add_assoc]
  simp only [seval, push_cast, evCode, evOps, evOper, hcr, hroom, hn, hr, resultsV, List.mapM_cons, List.mapM_nil, hg, hs]
  simp [frz, packV, V.pure]
theorem keep_X (f : Nat) (h : X.keep f = true) : f = 149 ∨ f = 101 ∨ f = 98 ∨ f = 125 := by
  have h' : knownB [(149, 1)] [(101, 2)] [98, 125] f = true := h
  simp only [knownB, List.lookup, Bool.or_eq_true] at h'
  rcases h' with h' | h' | h'
  · split at h'
    · rename_i hq; exact .inl (of_decide_eq_true hq)
    · cases h'
  · split at h'
    · rename_i hq; exact .inr (.inl (of_decide_eq_true hq))
    · cases h'
  · simp at h'; exact .inr (.inr h')
/-- LeafValues does what is known of it. -/
theorem join_ok (hm : Tryz.prog.follows .mixedOrders = true) (hN : ∀ (f : Nat) (fn : Func), Tryz.prog.funcs[f]? = some fn → fn.name ≠ "runtime.NumGoroutine")
    (args : List V) (v : V) (hv : joinV args = some v) (bs : List Nat) (g : G) (w : World) (H : Heap) (args' : List Value) (hS : Sim bs g H w) (hA : ArgsR g w args args') :
    Calls Tryz.prog 98 args'.toArray w fun e w' => ∃ v' g', e = .returned v' ∧ Out bs g w H g' w' H ∧ VRel g' w' v v' := by
  unfold joinV at hv
  split at hv
  case h_2 => cases hv
  rename_i a b
  obtain ⟨x, h1, h2⟩ := Option.bind_eq_some_iff.1 hv
  obtain ⟨y, h3, h4⟩ := Option.bind_eq_some_iff.1 h2
  split at h4
  case isFalse => cases h4
  rename_i hl
  cases h4
  obtain rfl := intsOf_some h1
  obtain rfl := intsOf_some h3
  obtain ⟨_, h⟩ := (body_ok (cx := X0) (drawOk_all hm) iter_0 known_0 hN 0 (callRaw_ok hm hN)).2 bs _ _ H _ _ (lv_body bs H x y hl)
  exact h g w args' hS hA
end Go.E
/- slices.Clone, in E without what is known: of a list that is not empty. Own work. -/
namespace Go.E
open Go.Proofs
set_option maxRecDepth 100000
set_option maxHeartbeats 4000000
theorem clone_port (bs : List Nat) (H : Heap) (L es : List V) (h0 : binOpV Tryz.prog .eql 22 (.list L) .nilS = some (.bool false)) (h1 : List.mapM (takeElem 2) L = some es) (h2 : es.length * 24 ≤ roomB) (h3 : V.pureL es = true) :
    callw X0 bs 101 [.list L] H = some (.list es, H) := by
  refine call_at (rs := [.tmp 2]) (N := 8) (fn := Tryz.f101) rfl xf101 rfl rfl rfl (by simp only [seval, push_cast, List.map_cons, List.map_nil, V.norm, norm1]; rfl) ?_
  have x1 : X0.P = Tryz.prog := rfl
  all_goals try (refine zs ?_; repeat' first | apply zs0 | apply zs2 | (intro hc; try have hq := dq hc))
end Go.E
/- 'slices.SortFunc' of lists of whole numbers is what is told of it. Own work. -/
namespace Go.E
open Go.Proofs Go.Shelf Go.RowKit
set_option maxRecDepth 100000
set_option maxHeartbeats 4000000
theorem cm0_nan (bs : List Nat) (H : Heap) (x : Int) : callw X0 bs 219 [.int .i64 x] H = some (.bool false, H) := by
  refine call_at (rs := [.tmp 2]) (N := 6) (fn := Tryz.f219) rfl xf219 rfl rfl rfl (by simp only [seval, push_cast, List.map_cons, List.map_nil, V.norm, norm1]; rfl) ?_
  have d : (decide ¬ x = x) = false := by simp
  all_goals try (refine zs ?_; repeat' first | apply zs0 | apply zs2 | (intro hc; try have hq := dq hc))

theorem cm0_int (bs : List Nat) (H : Heap) (x y : Int) : callw X0 bs 162 [.int .i64 x, .int .i64 y] H = some (.int .i64 (cmpI x y), H) := by
  refine call_at (rs := [.tmp 4]) (N := 20) (fn := Tryz.f162) rfl xf162 rfl rfl rfl (by simp only [seval, push_cast, List.map_cons, List.map_nil, V.norm, norm1]; rfl) ?_
  have t := cm0_nan
  unfold cmpI
  by_cases h1 : x < y
  · have d : decide (x < y) = true := decide_eq_true h1
    rw [if_pos h1]
    clear h1
    all_goals try (refine zs ?_; repeat' first | apply zs0 | apply zs2 | (intro hc; try have hq := dq hc))
  · have d : decide (x < y) = false := decide_eq_false h1
    rw [if_neg h1]
    by_cases h2 : x > y
    · have d2 : decide (x > y) = true := decide_eq_true h2
      rw [if_pos h2]
      clear h1 h2
      all_goals try (refine zs ?_; repeat' first | apply zs0 | apply zs2 | (intro hc; try have hq := dq hc))
    · have d2 : decide (x > y) = false := decide_eq_false h2
      rw [if_neg h2]
      clear h1 h2
      all_goals try (refine zs ?_; repeat' first | apply zs0 | apply zs2 | (intro hc; try have hq := dq hc))

theorem cmpL_drop0 {a b : List Int} {i : Nat} {x y : Int} (ha : a[i]? = some x) (hb : b[i]? = some y) : cmpL (a.drop i) (b.drop i) = if cmpI x y ≠ 0 then cmpI x y else cmpL (a.drop (i + 1)) (b.drop (i + 1)) := by
  rw [drop_cons ha, drop_cons hb, cmpL]
theorem befL_drop0 {a b : List Int} {i : Nat} {x y : Int} (ha : a[i]? = some x) (hb : b[i]? = some y) : befL (a.drop i) (b.drop i) = if x = y then befL (a.drop (i + 1)) (b.drop (i + 1)) else decide (x < y) := by
  rw [drop_cons ha, drop_cons hb, befL]
theorem cmpL_nil0 (b : List Int) : cmpL [] b = if 0 < b.length then -1 else 0 := by cases b <;> simp [cmpL]
theorem befL_nil0 (b : List Int) : befL [] b = decide (0 < b.length) := by cases b <;> simp [befL]
theorem befL_end0 {a : List Int} (h : 0 < a.length) : befL a [] = false := by cases a with | nil => simp at h | cons x r => rfl

theorem sl0_cmpInts (bs : List Nat) (H : Heap) (a b : List Int) (ha : a.length ≤ 1000000) (hb : b.length ≤ 1000000) : callw X0 bs 126 [.list (a.map (.int .i64)), .list (b.map (.int .i64))] H = some (.int .i64 (cmpL a b), H) := by
  refine call_at (rs := [.tmp 4]) (N := 36) (fn := Tryz.f126) rfl xf126 rfl rfl rfl (by simp only [seval, push_cast, List.map_cons, List.map_nil, V.norm, norm1]; rfl) ?_
  have key : ∀ (R : Int) (bs : List Nat) i ρ H', i ≤ a.length → (H' = H ∧ ρ 1 = .list (b.map (.int .i64)) ∧ ρ 9 = .list (a.map (.int .i64)) ∧ ρ 10 = .int .i64 a.length ∧ ρ 11 = .int .i64 i ∧ Kp (cmpL (a.drop i) (b.drop i) = R)) →
      Lp X0 ⟨36, bs⟩ (loopAt Tryz.f126 0) ρ H' fun ex ρ' H' => H' = H ∧ ((ex = .exit 0 ∧ R = if a.length < b.length then -1 else 0) ∨ (ex = .ret ∧ ρ' 4 = .int .i64 R)) := by
    intro R bs
    refine loop_up ?_ ?_
    · rintro i ρ H' hi ⟨rfl, h1, h9, h10, h11, hR⟩
      have hget : a[i]? = some a[i] := by simp [hi]
      generalize a[i] = x at hget
      have hw := add1 i a.length hi ha
      replace hR := hR.out
      rcases Nat.lt_or_ge i b.length with hb2 | hb2
      · have hgetb : b[i]? = some b[i] := by simp [hb2]
        generalize b[i] = y at hgetb
        rw [cmpL_drop0 hget hgetb] at hR
        have d : decide ((i : Int) ≥ (b.length : Int)) = false := decide_eq_false (by omega)
        have t := fun bs H => cm0_int bs H x y
        generalize cmpI x y = c at t hR
        clear hb2
        rcases Classical.em (c = 0) with hc0 | hc0
        · have d2 : (decide ¬ c = 0) = false := by simp [hc0]
          rw [if_neg (by simp [hc0])] at hR
          replace hR := Kp.mk hR
          clear hc0
          conv => arg 3; whnf
          all_goals try (refine zs ?_; repeat' first | apply zs0 | apply zs2 | (intro hc; try have hq := dq hc))
          exact ⟨rfl, by (simp only [seval, push_cast, *] <;> rfl), by (simp only [seval, push_cast, *] <;> rfl), by (simp only [seval, push_cast, *] <;> rfl), by (simp only [seval, push_cast, *] <;> rfl), ⟨hR.out⟩⟩
        · have d2 : (decide ¬ c = 0) = true := by simp [hc0]
          rw [if_pos hc0] at hR
          replace hR := Kp.mk hR
          clear hc0
          conv => arg 3; whnf
          all_goals try (refine zs ?_; repeat' first | apply zs0 | apply zs2 | (intro hc; try have hq := dq hc))
          exact ⟨rfl, .inr ⟨rfl, by rw [← hR.out]; (simp only [seval, push_cast, *] <;> rfl)⟩⟩
      · have d : decide ((i : Int) ≥ (b.length : Int)) = true := decide_eq_true (by omega)
        rw [drop_cons hget, List.drop_eq_nil_of_le hb2] at hR
        replace hR : 1 = R := hR
        clear hb2
        conv => arg 3; whnf
        all_goals try (refine zs ?_; repeat' first | apply zs0 | apply zs2 | (intro hc; try have hq := dq hc))
        exact ⟨rfl, .inr ⟨rfl, by rw [← hR]; (simp only [seval, push_cast, *] <;> rfl)⟩⟩
    · rintro ρ H' ⟨rfl, h1, h9, h10, h11, hR⟩
      replace hR := hR.out
      rw [List.drop_length, cmpL_nil0, List.length_drop] at hR
      have e : (0 < b.length - a.length) = (a.length < b.length) := by simp only [eq_iff_iff]; omega
      simp only [e] at hR
      replace hR := Kp.mk hR
      clear e
      conv => arg 3; whnf
      all_goals try (refine zs ?_; repeat' first | apply zs0 | apply zs2 | (intro hc; try have hq := dq hc))
      exact ⟨rfl, .inl ⟨rfl, hR.out.symm⟩⟩
  have k1 := fun bs ρ => key (cmpL a b) bs 0 ρ H (by omega)
  clear key
  all_goals try (refine zs ?_; repeat' first | apply zs0 | apply zs2 | (intro hc; try have hq := dq hc))
  refine lp_then (lp_any (c := loopAt Tryz.f126 0) rfl (k1 _ _ ⟨rfl, by (simp only [seval, push_cast, *] <;> rfl), by (simp only [seval, push_cast, *] <;> rfl), by (simp only [seval, push_cast, *] <;> rfl), by (simp only [seval, push_cast, *] <;> rfl), ⟨rfl⟩⟩)) ?_
  clear k1
  rintro ex ρ' H' ⟨rfl, ⟨rfl, h2⟩ | ⟨rfl, h2⟩⟩ hf
  · have f0 := hf 0 rfl
    have f1 := hf 1 rfl
    simp only [seval, push_cast] at f0 f1
    clear hf
    rw [h2]
    clear h2
    by_cases hh : a.length < b.length
    · have d : decide ((a.length : Int) < (b.length : Int)) = true := decide_eq_true (by omega)
      rw [if_pos hh]
      clear hh
      all_goals try (refine zs ?_; repeat' first | apply zs0 | apply zs2 | (intro hc; try have hq := dq hc))
    · have d : decide ((a.length : Int) < (b.length : Int)) = false := decide_eq_false (by omega)
      rw [if_neg hh]
      clear hh
      all_goals try (refine zs ?_; repeat' first | apply zs0 | apply zs2 | (intro hc; try have hq := dq hc))
  · clear hf
    all_goals try (refine zs ?_; repeat' first | apply zs0 | apply zs2 | (intro hc; try have hq := dq hc))

/-- How the shelf's numbers stand here. -/
def sortRen : Ren := ⟨fun n => if n = 6 then 125 else if n = 14 then 160 else if n = 15 then 161 else if n = 20 then 209 else if n = 21 then 210 else if n = 22 then 211 else if n = 23 then 212 else if n = 24 then 213 else if n = 25 then 214 else if n = 26 then 215 else if n = 27 then 216 else if n = 28 then 217 else if n = 29 then 218 else if n = 46 then 236 else if n = 47 then 237 else if n = 48 then 238 else if n = 49 then 239 else if n = 50 then 240 else if n = 57 then 244 else n, fun n => if n = 22 then 41 else if n = 24 then 34 else if n = 25 then 131 else if n = 39 then 202 else if n = 45 then 220 else if n = 46 then 221 else if n = 50 then 151 else if n = 53 then 227 else if n = 55 then 229 else if n = 66 then 239 else if n = 70 then 243 else if n = 76 then 247 else if n = 77 then 37 else n, fun n => n⟩
theorem sort_lays : SlLaysF.n6 Tryz.prog sortRen where
  mixed := by kernel_rfl
  f6 := ⟨Tryz.f125.name, by kernel_rfl, Tryz.func125.trans (by kernel_rfl)⟩
  f14 := ⟨Tryz.f160.name, by kernel_rfl, Tryz.func160.trans (by kernel_rfl)⟩
  f15 := Tryz.func161.trans (by kernel_rfl)
  f20 := ⟨Tryz.f209.name, by kernel_rfl, Tryz.func209.trans (by kernel_rfl)⟩
  f21 := ⟨Tryz.f210.name, by kernel_rfl, Tryz.func210.trans (by kernel_rfl)⟩
  f22 := ⟨Tryz.f211.name, by kernel_rfl, Tryz.func211.trans (by kernel_rfl)⟩
  f23 := ⟨Tryz.f212.name, by kernel_rfl, Tryz.func212.trans (by kernel_rfl)⟩
  f24 := ⟨Tryz.f213.name, by kernel_rfl, Tryz.func213.trans (by kernel_rfl)⟩
  f25 := ⟨Tryz.f214.name, by kernel_rfl, Tryz.func214.trans (by kernel_rfl)⟩
  f26 := ⟨Tryz.f215.name, by kernel_rfl, Tryz.func215.trans (by kernel_rfl)⟩
  f27 := ⟨Tryz.f216.name, by kernel_rfl, Tryz.func216.trans (by kernel_rfl)⟩
  f28 := Tryz.func217.trans (by kernel_rfl)
  f29 := Tryz.func218.trans (by kernel_rfl)
  f46 := ⟨Tryz.f236.name, by kernel_rfl, Tryz.func236.trans (by kernel_rfl)⟩
  f47 := Tryz.func237.trans (by kernel_rfl)
  f48 := Tryz.func238.trans (by kernel_rfl)
  f49 := ⟨Tryz.f239.name, by kernel_rfl, Tryz.func239.trans (by kernel_rfl)⟩
  f50 := ⟨Tryz.f240.name, by kernel_rfl, Tryz.func240.trans (by kernel_rfl)⟩
  f57 := ⟨Tryz.f244.name, by kernel_rfl, Tryz.func244.trans (by kernel_rfl)⟩
  t0 := Tryz.underlying0
  a0 := Tryz.isAgg0
  z0 := Tryz.sizeOf0
  v0 := Tryz.zeroValue0
  t3 := Tryz.underlying3
  a3 := Tryz.isAgg3
  z3 := Tryz.sizeOf3
  v3 := Tryz.zeroValue3
  t4 := Tryz.underlying4
  a4 := Tryz.isAgg4
  z4 := Tryz.sizeOf4
  v4 := Tryz.zeroValue4
  t5 := Tryz.underlying5
  a5 := Tryz.isAgg5
  z5 := Tryz.sizeOf5
  v5 := Tryz.zeroValue5
  t9 := Tryz.underlying9
  a9 := Tryz.isAgg9
  z9 := Tryz.sizeOf9
  v9 := Tryz.zeroValue9
  t22 := Tryz.underlying41
  a22 := Tryz.isAgg41
  z22 := Tryz.sizeOf41
  v22 := Tryz.zeroValue41
  a24 := Tryz.isAgg34
  z24 := Tryz.sizeOf34
  t25 := Tryz.underlying131
  a25 := Tryz.isAgg131
  z25 := Tryz.sizeOf131
  v25 := Tryz.zeroValue131
  t39 := Tryz.underlying202
  a39 := Tryz.isAgg202
  z39 := Tryz.sizeOf202
  v39 := Tryz.zeroValue202
  t45 := Tryz.underlying220
  a45 := Tryz.isAgg220
  z45 := Tryz.sizeOf220
  v45 := Tryz.zeroValue220
  t46 := Tryz.underlying221
  a46 := Tryz.isAgg221
  z46 := Tryz.sizeOf221
  v46 := Tryz.zeroValue221
  t50 := Tryz.underlying151
  a50 := Tryz.isAgg151
  z50 := Tryz.sizeOf151
  v50 := Tryz.zeroValue151
  t53 := Tryz.underlying227
  a53 := Tryz.isAgg227
  z53 := Tryz.sizeOf227
  v53 := Tryz.zeroValue227
  t55 := Tryz.underlying229
  a55 := Tryz.isAgg229
  z55 := Tryz.sizeOf229
  v55 := Tryz.zeroValue229
  t66 := Tryz.underlying239
  a66 := Tryz.isAgg239
  z66 := Tryz.sizeOf239
  v66 := Tryz.zeroValue239
  t70 := Tryz.underlying243
  a70 := Tryz.isAgg243
  z70 := Tryz.sizeOf243
  v70 := Tryz.zeroValue243
  t76 := Tryz.underlying247
  a76 := Tryz.isAgg247
  z76 := Tryz.sizeOf247
  v76 := Tryz.zeroValue247
  t77 := Tryz.underlying37
  a77 := Tryz.isAgg37
  z77 := Tryz.sizeOf37
  v77 := Tryz.zeroValue37
theorem comp_hc (hm : Tryz.prog.follows .mixedOrders = true) (hN : ∀ (f : Nat) (fn : Func), Tryz.prog.funcs[f]? = some fn → fn.name ≠ "runtime.NumGoroutine") (w : World) (a b : List Int) (v1 v2 : Value) (ha : a.length ≤ 1000000) (hb : b.length ≤ 1000000)
    (h1 : VRel (G.all w) w (encIs a) v1) (h2 : VRel (G.all w) w (encIs b) v2) : Calls Tryz.prog 126 #[v1, v2] w fun e w' => e = .returned (.int .i64 (cmpL a b)) ∧ ∃ g', Ext (G.all w) w g' w' := by
  have hS : Sim [] (G.all w) [] w := ⟨by simp, by simp, by simp [G.all], by simp [G.all], by simp, by simp⟩
  obtain ⟨_, h⟩ := (callw_ok (cx := X0) hm iter_0 known_0 hN).2 _ _ _ _ _ _ (sl0_cmpInts [] [] a b ha hb)
  refine (h (G.all w) w [v1, v2] hS ⟨rfl, fun j x x' e1 e2 => ?_⟩).mono ?_
  · match j with
    | 0 => simp at e1 e2; subst e1; subst e2; exact h1
    | 1 => simp at e1 e2; subst e1; subst e2; exact h2
    | j + 2 => simp at e1
  · rintro e w' ⟨v', g', rfl, ho, hv⟩
    cases hv
    exact ⟨rfl, g', ho.ext⟩
theorem act_X (hm : Tryz.prog.follows .mixedOrders = true) (hN : ∀ (f : Nat) (fn : Func), Tryz.prog.funcs[f]? = some fn → fn.name ≠ "runtime.NumGoroutine") : ActOk X := by
  intro f fn args v H H' hf hk ha bs g w args' hS hA
  have ha' : sortAct [(125, 126)] f args H = some (v, H') := ha
  clear ha
  unfold sortAct at ha'
  split at ha'
  case h_2 => cases ha'
  rename_i s id ver len c
  split at ha'
  case h_2 => cases ha'
  rename_i es v0 hH
  split at ha'
  case isFalse => cases ha'
  rename_i hc
  obtain ⟨h1, rfl, rfl, rfl, h0, h6⟩ := hc
  obtain ⟨ls, h2, h3⟩ := Option.bind_eq_some_iff.1 ha'
  split at h3
  case isFalse => cases h3
  rename_i hl6
  cases h3
  obtain ⟨rfl, rfl⟩ : f = 125 ∧ c = 126 := by
    simp only [List.lookup] at h1
    split at h1
    · rename_i h; exact ⟨of_decide_eq_true h, (Option.some.inj h1).symm⟩
    · cases h1
  exact sort_ok sort_lays 126 (enters_of Tryz.func126 (by kernel_rfl) rfl) (comp_hc hm hN) args' hS hH rfl h0 h6 h2 (fun x hx => of_decide_eq_true (List.all_eq_true.1 hl6 x hx)) hA
end Go.E
/- Numbers of few bits: masks, shifts. Own work. -/
namespace Go.E
theorem pow_le {k : Nat} (h : k ≤ 32) : (2 : Int) ^ k ≤ 4294967296 := by
  have : (2 : Nat) ^ k ≤ 2 ^ 32 := Nat.pow_le_pow_right (by omega) h
  have h2 : ((2 ^ k : Nat) : Int) ≤ ((2 ^ 32 : Nat) : Int) := Int.ofNat_le.2 this
  simpa using h2
theorem pow_pos' (k : Nat) : (0 : Int) < 2 ^ k := Int.pow_pos (by omega)
theorem pow_nat (k : Nat) : ((2 ^ k : Nat) : Int) = 2 ^ k := by simp
theorem shl1_pow {w : Int} (h : w ≤ 32) : shl1 w = 2 ^ w.toNat := by
  unfold shl1
  have hk : w.toNat ≤ 32 := by omega
  rw [Nat.min_eq_left (by omega), Int.one_mul]
  have := pow_le hk
  have := pow_pos' w.toNat
  rw [wrap64] <;> omega
theorem c64 : (2 : Int) ^ 64 = 18446744073709551616 := by decide
theorem mod_toNat (x : Int) (k : Nat) (hk : k ≤ 64) : (((x % 2 ^ 64).toNat % 2 ^ k : Nat) : Int) = x % 2 ^ k := by
  rw [Int.natCast_emod, Int.toNat_of_nonneg (Int.emod_nonneg _ (by decide)), pow_nat]
  exact Int.emod_emod_of_dvd x ⟨2 ^ (64 - k), by rw [← Int.pow_add]; congr 1; omega⟩
theorem bits_mask (x : Int) (k : Nat) (hk : k ≤ 32) : bitsI .and .i64 x (2 ^ k - 1) = x % 2 ^ k := by
  have h1 := pow_le hk
  have h2 := pow_pos' k
  have e1 : ((2 : Int) ^ k - 1) % 2 ^ 64 = 2 ^ k - 1 := Int.emod_eq_of_lt (by omega) (by rw [c64]; omega)
  have e2 : ((2 : Int) ^ k - 1).toNat = 2 ^ k - 1 := by
    have := pow_nat k
    have h3 : 0 < 2 ^ k := Nat.pow_pos (by omega)
    omega
  have e3 : (BitVec.ofInt 64 x &&& BitVec.ofInt 64 (2 ^ k - 1)).toNat = (x % 2 ^ 64).toNat % 2 ^ k := by
    rw [BitVec.toNat_and, BitVec.toNat_ofInt, BitVec.toNat_ofInt]
    have c : ((2 ^ 64 : Nat) : Int) = 2 ^ 64 := by decide
    rw [c, e1, e2, Nat.and_two_pow_sub_one_eq_mod]
  show IntKind.i64.wrap ((BitVec.ofInt 64 x &&& BitVec.ofInt 64 (2 ^ k - 1)).toNat : Int) = _
  rw [e3, mod_toNat x k (by omega)]
  have h3 := Int.emod_nonneg x (b := 2 ^ k) (by omega)
  have h4 := Int.emod_lt_of_pos x h2
  rw [wrap64] <;> omega
theorem ofNat_toNat (n : Nat) (h : n < 2 ^ 32) : (BitVec.ofInt 64 (n : Int)).toNat = n := by
  rw [BitVec.toNat_ofInt]
  have c : ((2 ^ 64 : Nat) : Int) = 18446744073709551616 := by decide
  rw [c]
  have : (2 : Nat) ^ 32 = 4294967296 := by decide
  rw [Int.emod_eq_of_lt (by omega) (by omega)]
  omega
theorem wrap_n32 (n : Nat) (h : n < 2 ^ 32) : IntKind.i64.wrap (n : Int) = n := by
  have : (2 : Nat) ^ 32 = 4294967296 := by decide
  rw [wrap64] <;> omega
theorem bits_and (a b : Nat) (ha : a < 2 ^ 32) (hb : b < 2 ^ 32) : bitsI .and .i64 a b = ((a &&& b : Nat) : Int) := by
  show IntKind.i64.wrap ((BitVec.ofInt 64 (a : Int) &&& BitVec.ofInt 64 (b : Int)).toNat : Int) = _
  rw [BitVec.toNat_and, ofNat_toNat a ha, ofNat_toNat b hb]
  exact wrap_n32 _ (Nat.lt_of_le_of_lt Nat.and_le_left ha)
theorem bits_or (a b : Nat) (ha : a < 2 ^ 32) (hb : b < 2 ^ 32) : bitsI .or .i64 a b = ((a ||| b : Nat) : Int) := by
  show IntKind.i64.wrap ((BitVec.ofInt 64 (a : Int) ||| BitVec.ofInt 64 (b : Int)).toNat : Int) = _
  rw [BitVec.toNat_or, ofNat_toNat a ha, ofNat_toNat b hb]
  exact wrap_n32 _ (Nat.or_lt_two_pow ha hb)
theorem bits_xor (a b : Nat) (ha : a < 2 ^ 32) (hb : b < 2 ^ 32) : bitsI .xor .i64 a b = ((a ^^^ b : Nat) : Int) := by
  show IntKind.i64.wrap ((BitVec.ofInt 64 (a : Int) ^^^ BitVec.ofInt 64 (b : Int)).toNat : Int) = _
  rw [BitVec.toNat_xor, ofNat_toNat a ha, ofNat_toNat b hb]
  exact wrap_n32 _ (Nat.xor_lt_two_pow ha hb)
theorem bits_not (a : Nat) (ha : a < 2 ^ 32) : bitsI .xor .i64 (-1) a = -1 - (a : Int) := by
  show IntKind.i64.wrap ((BitVec.ofInt 64 (-1) ^^^ BitVec.ofInt 64 (a : Int)).toNat : Int) = _
  have e : BitVec.ofInt 64 (-1) = BitVec.allOnes 64 := by decide
  rw [e, BitVec.allOnes_xor, BitVec.toNat_not, ofNat_toNat a ha]
  have : (2 : Nat) ^ 32 = 4294967296 := by decide
  have c : (2 : Nat) ^ 64 = 18446744073709551616 := by decide
  rw [c]
  have e2 : ((18446744073709551616 - 1 - a : Nat) : Int) = 18446744073709551615 - (a : Int) := by omega
  rw [e2]
  unfold IntKind.wrap
  simp [IntKind.bits, IntKind.signed]
  omega
end Go.E
/- What operations of nodes compute, in plain Lean. Own work. -/
namespace Go.E
def sgn (n w : Int) : Int := if 2 ^ (w.toNat - 1) ≤ n then n - 2 ^ w.toNat else n
def applyS (k : Nat) (W v : Int) (a w : List Int) : Int :=
  match k with
  | 0 | 1 => v
  | 2 => 2 ^ W.toNat - 1 - at0 a 0
  | 3 => (((at0 a 0).toNat &&& (at0 a 1).toNat : Nat) : Int)
  | 4 => (((at0 a 0).toNat ||| (at0 a 1).toNat : Nat) : Int)
  | 5 => (((at0 a 0).toNat ^^^ (at0 a 1).toNat : Nat) : Int)
  | 6 => (at0 a 0 + at0 a 1) % 2 ^ W.toNat
  | 7 => (at0 a 0 - at0 a 1) % 2 ^ W.toNat
  | 8 => (at0 a 0 * at0 a 1) % 2 ^ W.toNat
  | 9 => if at0 a 0 = at0 a 1 then 1 else 0
  | 10 => if at0 a 0 < at0 a 1 then 1 else 0
  | 11 => if sgn (at0 a 0) (at0 w 0) < sgn (at0 a 1) (at0 w 0) then 1 else 0
  | 12 => if at0 a 0 = 1 then at0 a 1 else at0 a 2
  | 13 => at0 a 0 * 2 ^ (at0 w 1).toNat + at0 a 1
  | 14 => (at0 a 0 / 2 ^ v.toNat) % 2 ^ W.toNat
  | 15 => at0 a 0
  | 16 => sgn (at0 a 0) (at0 w 0) % 2 ^ W.toNat
  | 17 => if W ≤ at0 a 1 then 0 else (at0 a 0 * 2 ^ (at0 a 1).toNat) % 2 ^ W.toNat
  | _ => if W ≤ at0 a 1 then 0 else at0 a 0 / 2 ^ (at0 a 1).toNat
/-- A number of a width. -/
def InW (n w : Int) : Prop := 0 ≤ n ∧ n < 2 ^ w.toNat
structure OkArgs (k : Nat) (W v : Int) (a w : List Int) : Prop where
  k19 : k < 19
  W1 : 1 ≤ W
  W16 : W ≤ 16
  la : a.length = argC k
  lw : w.length = argC k
  rng : ∀ i, i < argC k → InW (at0 a i) (at0 w i)
  wid : ∀ i, i < argC k → 1 ≤ at0 w i ∧ at0 w i ≤ 16
  fit : fitsS k W w v = true
  val : k = 14 → 0 ≤ v ∧ v ≤ 15
  con : k = 0 → InW v W

theorem InW.lt32 {n w : Int} (h : InW n w) (hw : w ≤ 16) : n < 65536 := by
  obtain ⟨_, h2⟩ := h
  have : (2 : Nat) ^ w.toNat ≤ 2 ^ 16 := Nat.pow_le_pow_right (by omega) (by omega)
  have h3 : ((2 ^ w.toNat : Nat) : Int) ≤ ((2 ^ 16 : Nat) : Int) := Int.ofNat_le.2 this
  rw [pow_nat] at h3
  have : ((2 ^ 16 : Nat) : Int) = 65536 := by decide
  omega
theorem pow_two_succ {w : Int} (h : 1 ≤ w) : (2 : Int) ^ w.toNat = 2 * 2 ^ (w.toNat - 1) := by
  rw [Int.mul_comm, ← Int.pow_succ]; congr 1; omega
theorem sgn_rng {n w : Int} (h : InW n w) (hw : 1 ≤ w) : -2 ^ (w.toNat - 1) ≤ sgn n w ∧ sgn n w < 2 ^ (w.toNat - 1) := by
  obtain ⟨h1, h2⟩ := h
  have h3 := pow_two_succ hw
  have h4 := pow_pos' (w.toNat - 1)
  unfold sgn
  split <;> omega
theorem at0_cons (x : Int) (r : List Int) : at0 (x :: r) 0 = x := rfl
theorem at0_succ (x : Int) (r : List Int) (i : Nat) : at0 (x :: r) (i + 1) = at0 r i := by simp [at0]
theorem at0_1 (x y : Int) (r : List Int) : at0 (x :: y :: r) 1 = y := rfl
theorem at0_2 (x y z : Int) (r : List Int) : at0 (x :: y :: z :: r) 2 = z := rfl
theorem mod_rng (x : Int) (k : Nat) : 0 ≤ x % 2 ^ k ∧ x % 2 ^ k < 2 ^ k := ⟨Int.emod_nonneg _ (by have := pow_pos' k; omega), Int.emod_lt_of_pos _ (pow_pos' k)⟩
theorem nat_lt {n w : Int} (h : InW n w) : n.toNat < 2 ^ w.toNat := by
  have := h.2; have h0 := h.1; rw [← pow_nat] at this; omega
theorem nat_rng {m : Nat} {w : Nat} (h : m < 2 ^ w) : 0 ≤ (m : Int) ∧ (m : Int) < 2 ^ w := ⟨by omega, by rw [← pow_nat]; omega⟩
theorem pow_W1 {W : Int} (h : 1 ≤ W) : (2 : Int) ≤ 2 ^ W.toNat := by
  have := pow_two_succ h; have := pow_pos' (W.toNat - 1); omega
theorem pow_mono {a b : Int} (h : a ≤ b) : (2 : Int) ^ a.toNat ≤ 2 ^ b.toNat := by
  have : (2 : Nat) ^ a.toNat ≤ 2 ^ b.toNat := Nat.pow_le_pow_right (by omega) (by omega)
  have h3 := Int.ofNat_le.2 this
  simpa using h3
/-- What is computed is of the node's width. -/
theorem applyS_rng {k : Nat} {W v : Int} {a w : List Int} (h : OkArgs k W v a w) (h1 : k ≠ 1) : InW (applyS k W v a w) W := by
  obtain ⟨hk, hW1, hW16, hla, hlw, hr, hw, hf, hv, hc⟩ := h
  have hp := pow_pos' W.toNat
  have hp2 := pow_W1 hW1
  match k, hk, a, hla, w, hlw with
  | 0, _, _, _, _, _ => exact hc rfl
  | 1, _, _, _, _, _ => exact absurd rfl h1
  | 2, _, [x], _, [p], _ =>
    have r0 := hr 0 (by decide)
    simp only [fitsS, List.any_cons, List.any_nil, Bool.or_false, Bool.not_eq_true', decide_eq_false_iff_not, Decidable.not_not] at hf
    subst hf
    simp only [applyS, at0_cons] at r0 ⊢
    obtain ⟨r1, r2⟩ := r0
    exact ⟨by omega, by omega⟩
  | 3, _, [x, y], _, [p, q], _ =>
    have r0 := hr 0 (by decide)
    have r1 := hr 1 (by decide)
    simp only [fitsS, List.any_cons, List.any_nil, Bool.or_false, Bool.not_eq_true', Bool.or_eq_false_iff, decide_eq_false_iff_not, Decidable.not_not] at hf
    obtain ⟨rfl, rfl⟩ := hf
    simp only [applyS, at0_cons, at0_1] at r0 r1 ⊢
    exact nat_rng (Nat.lt_of_le_of_lt Nat.and_le_left (nat_lt r0))
  | 4, _, [x, y], _, [p, q], _ =>
    have r0 := hr 0 (by decide)
    have r1 := hr 1 (by decide)
    simp only [fitsS, List.any_cons, List.any_nil, Bool.or_false, Bool.not_eq_true', Bool.or_eq_false_iff, decide_eq_false_iff_not, Decidable.not_not] at hf
    obtain ⟨rfl, rfl⟩ := hf
    simp only [applyS, at0_cons, at0_1] at r0 r1 ⊢
    exact nat_rng (Nat.or_lt_two_pow (nat_lt r0) (nat_lt r1))
  | 5, _, [x, y], _, [p, q], _ =>
    have r0 := hr 0 (by decide)
    have r1 := hr 1 (by decide)
    simp only [fitsS, List.any_cons, List.any_nil, Bool.or_false, Bool.not_eq_true', Bool.or_eq_false_iff, decide_eq_false_iff_not, Decidable.not_not] at hf
    obtain ⟨rfl, rfl⟩ := hf
    simp only [applyS, at0_cons, at0_1] at r0 r1 ⊢
    exact nat_rng (Nat.xor_lt_two_pow (nat_lt r0) (nat_lt r1))
  | 6, _, _, _, _, _ | 7, _, _, _, _, _ | 8, _, _, _, _, _ | 14, _, _, _, _, _ | 16, _, _, _, _, _ => exact mod_rng _ _
  | 9, _, _, _, _, _ | 10, _, _, _, _, _ | 11, _, _, _, _, _ =>
    simp only [applyS, InW]
    split <;> omega
  | 12, _, [x, y, z], _, [p, q, r], _ =>
    have r1 := hr 1 (by decide)
    have r2 := hr 2 (by decide)
    have hf2 : (decide (p = 1) && decide (q = W) && decide (r = W)) = true := hf
    rw [Bool.and_eq_true, Bool.and_eq_true] at hf2
    obtain rfl := of_decide_eq_true hf2.1.2
    obtain rfl := of_decide_eq_true hf2.2
    simp only [at0_1, at0_2] at r1 r2
    show InW (if x = 1 then y else z) r
    split
    · exact r1
    · exact r2
  | 13, _, [x, y], _, [p, q], _ =>
    have r0 := hr 0 (by decide)
    have r1 := hr 1 (by decide)
    have w0 := hw 0 (by decide)
    have w1 := hw 1 (by decide)
    have hf2 : IntKind.i64.wrap (p + q) = W := of_decide_eq_true hf
    simp only [at0_cons, at0_1] at w0 w1
    rw [wrap64 (by omega) (by omega)] at hf2
    subst hf2
    simp only [applyS, at0_cons, at0_1] at r0 r1 ⊢
    obtain ⟨a1, a2⟩ := r0
    obtain ⟨b1, b2⟩ := r1
    have e : (2 : Int) ^ (p + q).toNat = 2 ^ p.toNat * 2 ^ q.toNat := by rw [← Int.pow_add]; congr 1; omega
    have hq := pow_pos' q.toNat
    refine ⟨by have := Int.mul_nonneg a1 (Int.le_of_lt hq); omega, ?_⟩
    rw [e]
    have : (x + 1) * 2 ^ q.toNat ≤ 2 ^ p.toNat * 2 ^ q.toNat := Int.mul_le_mul_of_nonneg_right (by omega) (by omega)
    rw [Int.add_mul] at this
    omega
  | 15, _, [x], _, [p], _ =>
    have r0 := hr 0 (by decide)
    have hf2 : p ≤ W := of_decide_eq_true hf
    simp only [applyS, at0_cons] at r0 ⊢
    obtain ⟨a1, a2⟩ := r0
    have := pow_mono hf2
    exact ⟨a1, by omega⟩
  | 17, _, _, _, _, _ =>
    simp only [applyS]
    split
    · exact ⟨by omega, by omega⟩
    · exact mod_rng _ _
  | 18, _, [x, y], _, [p, q], _ =>
    have r0 := hr 0 (by decide)
    obtain rfl : p = W := of_decide_eq_true hf
    simp only [at0_cons] at r0
    obtain ⟨a1, a2⟩ := r0
    show InW (if p ≤ y then 0 else x / 2 ^ y.toNat) p
    split
    · exact ⟨by omega, by omega⟩
    · refine ⟨Int.ediv_nonneg a1 (by have := pow_pos' y.toNat; omega), Int.lt_of_le_of_lt (Int.ediv_le_self _ a1) a2⟩
  | k + 19, hk, _, _, _, _ => omega
end Go.E
/- The values of nodes, in plain Lean. Own work. -/
namespace Go.E
def valsOf (vals : List Int) (a : List Int) : List Int := a.map fun n => at0 vals n.toNat
def valN (nodes : List Node) (lv : List Int) (done : List Int) (x : Node) : Int :=
  if x.op = 1 then at0 lv x.value.toNat else applyS x.op.toNat x.width x.value (valsOf done x.args) (widthsOf nodes x.args)
def valsL (nodes : List Node) (lv : List Int) : Nat → List Int
  | 0 => []
  | i + 1 => valsL nodes lv i ++ [match nodes[i]? with | some x => valN nodes lv (valsL nodes lv i) x | none => 0]
theorem valsL_len (nodes : List Node) (lv : List Int) : ∀ i, (valsL nodes lv i).length = i
  | 0 => rfl
  | i + 1 => by rw [valsL, List.length_append, valsL_len nodes lv i]; rfl
theorem eachP_ok {α : Type} (g : Nat → α → Int) : ∀ (l : List α) (i : Nat), (eachP g i l).2 = 0 → ∀ j x, l[j]? = some x → g (i + j) x = 0
  | [], _, _, j, x, hx => by simp at hx
  | y :: r, i, h, j, x, hx => by
    unfold eachP at h
    split at h
    · rename_i hne; exact absurd h hne
    · rename_i hz
      cases j with
      | zero => simp at hx; subst hx; simpa using hz
      | succ j =>
        simp at hx
        have := eachP_ok g r (i + 1) h j x hx
        rwa [show i + 1 + j = i + (j + 1) by omega] at this
/-- What a check of nodes lets by. -/
structure GoodN (leaves : List Int) (nodes : List Node) (i : Nat) (x : Node) : Prop where
  op0 : 0 ≤ x.op
  op18 : x.op ≤ 18
  W1 : 1 ≤ x.width
  W16 : x.width ≤ 16
  la : x.args.length = argC x.op.toNat
  args : ∀ n ∈ x.args, 0 ≤ n ∧ n < i
  val : valueErrS leaves x.op.toNat x = 0
  fit : fitsS x.op.toNat x.width (widthsOf nodes x.args) x.value = true
theorem good_of {leaves : List Int} {nodes : List Node} {i : Nat} {x : Node} (h : nodeErrS leaves nodes i x = 0) : GoodN leaves nodes i x := by
  unfold nodeErrS at h
  split at h
  · omega
  rename_i h1
  split at h
  · omega
  rename_i h2
  split at h
  · omega
  rename_i h3
  split at h
  · omega
  rename_i h4
  split at h
  · rename_i h5; exact absurd h h5
  rename_i h5
  split at h
  case isFalse => omega
  rename_i h6
  simp only [Decidable.not_not] at h1 h3 h5
  have hw : isW x.width = true := by cases hb : isW x.width with | true => rfl | false => exact absurd hb h2
  unfold isW at hw
  rw [Bool.and_eq_true, decide_eq_true_eq, decide_eq_true_eq] at hw
  refine ⟨h1.1, h1.2, hw.1, hw.2, h3, fun n hn => ?_, h5, h6⟩
  rw [Bool.not_eq_true, List.any_eq_false] at h4
  have := h4 n hn
  simp only [Bool.not_eq_true', Bool.and_eq_false_iff, decide_eq_false_iff_not, not_or, Decidable.not_not] at this
  omega
def GoodAll (leaves : List Int) (nodes : List Node) : Prop := ∀ i x, nodes[i]? = some x → GoodN leaves nodes i x
theorem goodAll_of {leaves : List Int} {nodes : List Node} (h : (checkNodesS leaves nodes).2 = 0) : GoodAll leaves nodes := by
  intro i x hx
  unfold checkNodesS at h
  split at h
  · cases h
  split at h
  · rename_i h2; exact absurd h h2
  split at h
  · cases h
  have := eachP_ok _ nodes 0 h i x hx
  rw [Nat.zero_add] at this
  exact good_of this
theorem leaves_of {leaves : List Int} {nodes : List Node} (h : (checkNodesS leaves nodes).2 = 0) : ∀ (j : Nat) w, leaves[j]? = some w → 1 ≤ w ∧ w ≤ 16 := by
  intro j w hw
  unfold checkNodesS at h
  split at h
  · cases h
  split at h
  · rename_i h2; exact absurd h h2
  rename_i h2
  simp only [ne_eq, Decidable.not_not] at h2
  have := eachP_ok _ leaves 0 h2 j w hw
  split at this
  · rename_i hb
    unfold isW at hb
    rw [Bool.and_eq_true, decide_eq_true_eq, decide_eq_true_eq] at hb
    exact hb
  · omega
/-- Values of leaves, as their widths are. -/
def LeafOk (leaves lv : List Int) : Prop := lv.length = leaves.length ∧ ∀ (j : Nat) w v, leaves[j]? = some w → lv[j]? = some v → InW v w
theorem at0_get {l : List Int} {i : Nat} {v : Int} (h : l[i]? = some v) : at0 l i = v := by simp [at0, h]
theorem widthsOf_at (nodes : List Node) (a : List Int) (i : Nat) (n : Int) (y : Node) (h : a[i]? = some n) (hy : nodes[n.toNat]? = some y) : at0 (widthsOf nodes a) i = y.width := by
  simp [at0, widthsOf, h, hy]
theorem valsOf_at (vals a : List Int) (i : Nat) (n : Int) (h : a[i]? = some n) : at0 (valsOf vals a) i = at0 vals n.toNat := by
  simp [at0, valsOf, h]
theorem value_leaf {leaves : List Int} {x : Node} (h : valueErrS leaves 1 x = 0) : 0 ≤ x.value ∧ x.value < leaves.length ∧ at0 leaves x.value.toNat = x.width := by
  have h' : (if 0 ≤ x.value ∧ x.value < leaves.length then (if at0 leaves x.value.toNat = x.width then (0 : Int) else 25) else 6) = 0 := h
  split at h'
  · rename_i h1; split at h'
    · rename_i h2; exact ⟨h1.1, h1.2, h2⟩
    · omega
  · omega
theorem value_slice {leaves : List Int} {x : Node} (h : valueErrS leaves 14 x = 0) : 0 ≤ x.value ∧ x.value ≤ 15 := by
  simp only [valueErrS] at h
  simp at h
  omega
theorem value_const {leaves : List Int} {x : Node} (hW1 : 1 ≤ x.width) (hW : x.width ≤ 16) (h : valueErrS leaves 0 x = 0) : InW x.value x.width := by
  have h2 : fitsG x.value x.width = true := by
    simp only [valueErrS, if_true] at h
    split at h
    · assumption
    · omega
  unfold fitsG at h2
  rw [shl1_pow (by omega)] at h2
  have h3 := pow_le (k := x.width.toNat) (by omega)
  have h4 := pow_pos' x.width.toNat
  rw [wrap64 (by omega) (by omega)] at h2
  rw [Bool.and_eq_true, Bool.and_eq_true, decide_eq_true_eq, decide_eq_true_eq, decide_eq_true_eq] at h2
  exact ⟨by omega, by omega⟩
/-- All values are of their nodes' widths; what a node is computed of is as it should be. -/
theorem vals_ok {leaves lv : List Int} {nodes : List Node} (hg : GoodAll leaves nodes) (hl : LeafOk leaves lv) : ∀ i, i ≤ nodes.length →
    (∀ (j : Nat) x, j < i → nodes[j]? = some x → InW (at0 (valsL nodes lv i) j) x.width) := by
  intro i
  induction i with
  | zero => intro _ j x hj; omega
  | succ i ih =>
    intro hi j x hj hx
    have hlen := valsL_len nodes lv i
    by_cases hji : j < i
    · have e : at0 (valsL nodes lv (i + 1)) j = at0 (valsL nodes lv i) j := by
        simp only [valsL, at0, List.getD, List.getElem?_append_left (by omega : j < (valsL nodes lv i).length)]
      rw [e]
      exact ih (by omega) j x hji hx
    · obtain rfl : j = i := by omega
      have e : at0 (valsL nodes lv (j + 1)) j = valN nodes lv (valsL nodes lv j) x := by
        simp only [valsL, hx, at0, List.getD]
        rw [List.getElem?_append_right (by omega), hlen]; simp
      rw [e]
      exact valN_ok hg hl (ih (by omega)) hx
where
  okArgs {leaves lv : List Int} {nodes : List Node} {i : Nat} {x : Node} (hg : GoodAll leaves nodes) (_hl : LeafOk leaves lv) (hv : ∀ (j : Nat) y, j < i → nodes[j]? = some y → InW (at0 (valsL nodes lv i) j) y.width) (hx : nodes[i]? = some x) :
      OkArgs x.op.toNat x.width x.value (valsOf (valsL nodes lv i) x.args) (widthsOf nodes x.args) := by
    have g := hg i x hx
    have hil : i < nodes.length := (List.getElem?_eq_some_iff.1 hx).1
    have key : ∀ q, q < argC x.op.toNat → ∃ n y, x.args[q]? = some n ∧ nodes[n.toNat]? = some y ∧ n.toNat < i := fun q hq => by
      have h1 : q < x.args.length := by rw [g.la]; exact hq
      have h2 := g.args x.args[q] (List.getElem_mem h1)
      have h3 : (x.args[q]).toNat < nodes.length := by omega
      exact ⟨x.args[q], nodes[(x.args[q]).toNat], by simp [h1], by simp [h3], by omega⟩
    refine ⟨by have := g.op18; omega, g.W1, g.W16, by simp [valsOf, g.la], by simp [widthsOf, g.la], fun q hq => ?_, fun q hq => ?_, g.fit, fun h => ?_, fun h => ?_⟩
    · obtain ⟨n, y, h1, h2, h3⟩ := key q hq
      rw [valsOf_at _ _ _ n h1, widthsOf_at _ _ _ n y h1 h2]
      exact hv n.toNat y h3 h2
    · obtain ⟨n, y, h1, h2, h3⟩ := key q hq
      rw [widthsOf_at _ _ _ n y h1 h2]
      have := hg _ y h2
      exact ⟨this.W1, this.W16⟩
    · have := g.val; rw [h] at this; exact value_slice this
    · have := g.val; rw [h] at this; exact value_const g.W1 g.W16 this
  valN_ok {leaves lv : List Int} {nodes : List Node} {i : Nat} {x : Node} (hg : GoodAll leaves nodes) (hl : LeafOk leaves lv) (hv : ∀ (j : Nat) y, j < i → nodes[j]? = some y → InW (at0 (valsL nodes lv i) j) y.width) (hx : nodes[i]? = some x) :
      InW (valN nodes lv (valsL nodes lv i) x) x.width := by
    have g := hg i x hx
    unfold valN
    split
    · rename_i h1
      have hva := g.val
      rw [h1] at hva
      obtain ⟨a, b, c⟩ := value_leaf hva
      have h2 : x.value.toNat < lv.length := by rw [hl.1]; omega
      have h3 : x.value.toNat < leaves.length := by omega
      have h4 := hl.2 x.value.toNat leaves[x.value.toNat] lv[x.value.toNat] (by simp [h3]) (by simp [h2])
      rw [← at0_get (l := leaves) (i := x.value.toNat) (v := leaves[x.value.toNat]) (by simp [h3]), c] at h4
      rw [at0_get (l := lv) (i := x.value.toNat) (v := lv[x.value.toNat]) (by simp [h2])]
      exact h4
    · rename_i h1
      exact applyS_rng (okArgs hg hl hv hx) (by have := g.op0; omega)
end Go.E
/- Clocks of a netlist, in plain Lean. Own work. -/
namespace Go.E
def outsS (n : Netl) (vals : List Int) : List Int := n.outs.map fun o => at0 vals o.node.toNat
def nextV (vals state : List Int) (i : Nat) (r : Reg) : Int := if at0 vals r.enable.toNat = 1 then at0 vals r.next.toNat else at0 state i
def nextL (regs : List Reg) (vals state : List Int) : Nat → List Int
  | 0 => []
  | i + 1 => nextL regs vals state i ++ [match regs[i]? with | some r => nextV vals state i r | none => 0]
theorem nextL_len (regs : List Reg) (vals state : List Int) : ∀ i, (nextL regs vals state i).length = i
  | 0 => rfl
  | i + 1 => by rw [nextL, List.length_append, nextL_len regs vals state i]; rfl
theorem nextL_succ (regs : List Reg) (vals state : List Int) (i : Nat) (r : Reg) (h : regs[i]? = some r) : nextL regs vals state (i + 1) = nextL regs vals state i ++ [nextV vals state i r] := by simp only [nextL, h]
def valsN (n : Netl) (inputs state : List Int) : List Int := valsL n.nodes (inputs ++ state) n.nodes.length
def stepN (n : Netl) (inputs state : List Int) : List Int × List Int := (outsS n (valsN n inputs state), nextL n.regs (valsN n inputs state) state n.regs.length)
/-- What is asked of a netlist. -/
structure NetOk (n : Netl) : Prop where
  nodes : (checkNodesS (leavesN n) n.nodes).2 = 0
  outs : ∀ o ∈ n.outs, 0 ≤ o.node ∧ o.node < n.nodes.length
  regs : ∀ r ∈ n.regs, (0 ≤ r.enable ∧ r.enable < n.nodes.length) ∧ 0 ≤ r.next ∧ r.next < n.nodes.length
  next : ∀ r ∈ n.regs, widthAt n r.next = r.width
  init : ∀ r ∈ n.regs, fitsN r.init r.width = true
  few : n.inputs.length + n.regs.length ≤ 40
theorem eachL_ok {α S : Type} (g : Nat → α → S → Int × S) : ∀ (l : List α) (i : Nat) (s : S), (eachL g i l s).1.2 = 0 → ∀ j x, l[j]? = some x → ∃ s', (g (i + j) x s').1 = 0
  | [], _, _, _, j, x, hx => by simp at hx
  | y :: r, i, s, h, j, x, hx => by
    unfold eachL at h
    split at h
    · rename_i hne; exact absurd h hne
    · rename_i hz
      cases j with
      | zero => simp at hx; subst hx; exact ⟨s, by simpa using hz⟩
      | succ j =>
        simp at hx
        obtain ⟨s', hs⟩ := eachL_ok g r (i + 1) _ h j x hx
        exact ⟨s', by rwa [show i + 1 + j = i + (j + 1) by omega] at hs⟩
theorem firstP_ok : ∀ {l : List (Int × Int)}, (firstP l).2 = 0 → ∀ p ∈ l, p.2 = 0
  | [], _, p, hp => by simp at hp
  | q :: r, h, p, hp => by
    unfold firstP at h
    split at h
    · rename_i hne; exact absurd h hne
    · rename_i hz
      simp only [ne_eq, Decidable.not_not] at hz
      rcases List.mem_cons.1 hp with rfl | hp
      · exact hz
      · exact firstP_ok h p hp
theorem isNodeN_ok {n : Netl} {i : Int} (h : isNodeN n i = true) : 0 ≤ i ∧ i < n.nodes.length := by
  unfold isNodeN at h
  rw [Bool.and_eq_true, decide_eq_true_eq, decide_eq_true_eq] at h
  omega
theorem net_ok {n : Netl} (h : (checkNetS n).2 = 0) : NetOk n := by
  unfold checkNetS at h
  have h2 := firstP_ok h
  simp only [List.mem_cons, List.not_mem_nil, or_false, forall_eq_or_imp, forall_eq] at h2
  obtain ⟨_, _, p3, p4, p5, p6, _, p8⟩ := h2
  refine ⟨p5, fun o ho => ?_, fun r hr => ?_, fun r hr => ?_, fun r hr => ?_, ?_⟩
  · obtain ⟨j, hj⟩ := List.getElem?_of_mem ho
    obtain ⟨s, hs⟩ := eachL_ok _ _ _ _ p8 j o hj
    simp only [outErrS, firstL_2] at hs
    split at hs
    · rename_i hne; exact absurd hs hne
    · split at hs
      · rename_i hk; exact isNodeN_ok hk
      · omega
  · obtain ⟨j, hj⟩ := List.getElem?_of_mem hr
    have := eachP_ok _ _ _ p6 j r hj
    simp only [regErr2S] at this
    split at this
    · omega
    split at this
    · omega
    split at this
    · omega
    rename_i a b c
    simp only [Bool.not_eq_true', Bool.not_eq_false] at a c
    exact ⟨isNodeN_ok a, isNodeN_ok c⟩
  · obtain ⟨j, hj⟩ := List.getElem?_of_mem hr
    have := eachP_ok _ _ _ p6 j r hj
    simp only [regErr2S] at this
    split at this
    · omega
    split at this
    · omega
    split at this
    · omega
    split at this
    · assumption
    · omega
  · obtain ⟨j, hj⟩ := List.getElem?_of_mem hr
    obtain ⟨s, hs⟩ := eachL_ok _ _ _ _ p4 j r hj
    simp only [regErrS, firstL_2] at hs
    split at hs
    · rename_i hne; exact absurd hs hne
    · split at hs
      · rename_i hk; rw [Bool.and_eq_true] at hk; exact hk.2
      · omega
  · split at p3
    · rename_i hk; have := of_decide_eq_true hk; omega
    · simp at p3
end Go.E
/- Errors of values, sequences of clocks, in plain Lean. Own work. -/
namespace Go.E
def valErrS (ws l : List Int) : Int := if l.length = ws.length then (eachP (fun i n => if fitsN n (at0 ws i) = true then (0 : Int) else 2) 0 l).2 else 10
def inErrS (n : Netl) (l : List Int) : Int := valErrS (n.inputs.map (·.width)) l
def stErrS (n : Netl) (l : List Int) : Int := valErrS (n.regs.map (·.width)) l
def stepErrS (n : Netl) (ins st : List Int) : Int := if (checkNetS n).2 = 0 then firstL [inErrS n ins, stErrS n st] else (checkNetS n).2
def runErrS (n : Netl) (l : List (List Int)) : Int :=
  if (checkNetS n).2 = 0 then (if l.length ≤ 60 then (eachP (fun _ x => inErrS n x) 0 l).2 else 8) else (checkNetS n).2
def stAt (n : Netl) (l : List (List Int)) : Nat → List Int
  | 0 => n.regs.map (·.init)
  | i + 1 => (stepN n (l.getD i []) (stAt n l i)).2
def trAt (n : Netl) (l : List (List Int)) (i : Nat) : List Int := (stepN n (l.getD i []) (stAt n l i)).1
def trL (n : Netl) (l : List (List Int)) : Nat → List (List Int)
  | 0 => []
  | k + 1 => trL n l k ++ [trAt n l k]
def stL (n : Netl) (l : List (List Int)) : Nat → List (List Int)
  | 0 => [stAt n l 0]
  | k + 1 => stL n l k ++ [stAt n l (k + 1)]
theorem trL_len (n : Netl) (l : List (List Int)) : ∀ k, (trL n l k).length = k
  | 0 => rfl
  | k + 1 => by rw [trL, List.length_append, trL_len n l k]; rfl
theorem stL_len (n : Netl) (l : List (List Int)) : ∀ k, (stL n l k).length = k + 1
  | 0 => rfl
  | k + 1 => by rw [stL, List.length_append, stL_len n l k]; rfl
theorem stL_last (n : Netl) (l : List (List Int)) : ∀ k, (stL n l k)[k]? = some (stAt n l k)
  | 0 => rfl
  | k + 1 => by rw [stL, List.getElem?_append_right (by rw [stL_len]; omega), stL_len]; simp
theorem widths_1 {n : Netl} (hk : NetOk n) (j : Nat) (w : Int) (h : (leavesN n)[j]? = some w) : 1 ≤ w ∧ w ≤ 16 := leaves_of hk.nodes j w h
theorem inW_1 {n : Netl} (hk : NetOk n) (w : Int) (h : w ∈ n.inputs.map (·.width)) : 1 ≤ w ∧ w ≤ 16 := by
  obtain ⟨j, hj⟩ := List.getElem?_of_mem (List.mem_append_left (n.regs.map (·.width)) h)
  exact widths_1 hk j w hj
theorem rgW_1 {n : Netl} (hk : NetOk n) (w : Int) (h : w ∈ n.regs.map (·.width)) : 1 ≤ w ∧ w ≤ 16 := by
  obtain ⟨j, hj⟩ := List.getElem?_of_mem (List.mem_append_right (n.inputs.map (·.width)) h)
  exact widths_1 hk j w hj
theorem fitsN_iff {n w : Int} (h1 : 1 ≤ w) (h16 : w ≤ 16) : fitsN n w = true ↔ InW n w := by
  unfold fitsN
  rw [shl1_pow (by omega)]
  have h3 := pow_le (k := w.toNat) (by omega)
  have h4 := pow_pos' w.toNat
  rw [wrap64 (by omega) (by omega)]
  rw [Bool.and_eq_true, decide_eq_true_eq, decide_eq_true_eq]
  unfold InW
  omega
theorem valErr_ok {ws l : List Int} (hw : ∀ w ∈ ws, 1 ≤ w ∧ w ≤ 16) (h : valErrS ws l = 0) : l.length = ws.length ∧ ∀ (j : Nat) w v, ws[j]? = some w → l[j]? = some v → InW v w := by
  unfold valErrS at h
  split at h
  case isFalse => omega
  rename_i hlen
  refine ⟨hlen, fun j w v h1 h2 => ?_⟩
  have := eachP_ok _ l 0 h j v h2
  simp only [Nat.zero_add, at0_get h1] at this
  have h3 := hw w (List.mem_of_getElem? h1)
  split at this
  · rename_i hf; exact (fitsN_iff h3.1 h3.2).1 hf
  · omega
def RegOk (n : Netl) (st : List Int) : Prop := st.length = n.regs.length ∧ ∀ (j : Nat) r v, n.regs[j]? = some r → st[j]? = some v → InW v r.width
theorem regOk_of {n : Netl} (hk : NetOk n) {st : List Int} (h : stErrS n st = 0) : RegOk n st := by
  obtain ⟨h1, h2⟩ := valErr_ok (rgW_1 hk) h
  exact ⟨by simpa using h1, fun j r v hr hv => h2 j r.width v (by simp [hr]) hv⟩
theorem leafOk_of {n : Netl} (hk : NetOk n) {ins st : List Int} (h : inErrS n ins = 0) (hr : RegOk n st) : LeafOk (leavesN n) (ins ++ st) := by
  obtain ⟨h1, h2⟩ := valErr_ok (inW_1 hk) h
  rw [List.length_map] at h1
  refine ⟨by simp [leavesN, h1, hr.1], fun j w v hw hv => ?_⟩
  unfold leavesN at hw
  by_cases hj : j < n.inputs.length
  · rw [List.getElem?_append_left (by simpa using hj)] at hw
    rw [List.getElem?_append_left (by omega)] at hv
    exact h2 j w v hw hv
  · rw [List.getElem?_append_right (by simpa using hj)] at hw
    rw [List.getElem?_append_right (by omega)] at hv
    simp only [List.length_map, List.getElem?_map] at hw
    rw [h1] at hv
    cases hq : n.regs[j - n.inputs.length]? with
    | none => rw [hq] at hw; simp at hw
    | some r =>
      rw [hq] at hw
      simp at hw
      subst hw
      exact hr.2 _ r v hq hv
theorem regOk_reset {n : Netl} (hk : NetOk n) : RegOk n (n.regs.map (·.init)) := by
  refine ⟨by simp, fun j r v hr hv => ?_⟩
  simp [hr] at hv
  subst hv
  have hm := List.mem_of_getElem? hr
  have h3 := rgW_1 hk r.width (List.mem_map_of_mem hm)
  exact (fitsN_iff h3.1 h3.2).1 (hk.init r hm)
theorem nextL_at (regs : List Reg) (vals state : List Int) (k : Nat) : ∀ (j : Nat) r, j < k → regs[j]? = some r → (nextL regs vals state k)[j]? = some (nextV vals state j r) := by
  induction k with
  | zero => intro j r hj; omega
  | succ k ih =>
    intro j r hj hr
    rw [nextL]
    by_cases hjk : j < k
    · rw [List.getElem?_append_left (by rw [nextL_len]; exact hjk)]; exact ih j r hjk hr
    · obtain rfl : j = k := by omega
      rw [List.getElem?_append_right (by rw [nextL_len]; omega), nextL_len, hr]; simp
theorem regOk_next {n : Netl} (hk : NetOk n) {ins st : List Int} (h : inErrS n ins = 0) (hr : RegOk n st) : RegOk n (stepN n ins st).2 := by
  have hl := leafOk_of hk h hr
  refine ⟨nextL_len _ _ _ _, fun j r v hj hv => ?_⟩
  have hjl : j < n.regs.length := (List.getElem?_eq_some_iff.1 hj).1
  have e := nextL_at n.regs (valsN n ins st) st n.regs.length j r hjl hj
  simp only [stepN] at hv
  rw [e] at hv
  cases hv
  have hm := List.mem_of_getElem? hj
  unfold nextV
  split
  · obtain ⟨_, a, b⟩ := hk.regs r hm
    have h2 : r.next.toNat < n.nodes.length := by omega
    have h3 := vals_ok (goodAll_of hk.nodes) hl n.nodes.length (Nat.le_refl _) r.next.toNat n.nodes[r.next.toNat] h2 (by simp [h2])
    have h4 := hk.next r hm
    unfold widthAt at h4
    rw [List.getElem?_eq_getElem h2] at h4
    simp only at h4
    rw [h4] at h3
    exact h3
  · have hs : j < st.length := by rw [hr.1]; exact hjl
    rw [at0_get (l := st) (i := j) (v := st[j]) (by simp [hs])]
    exact hr.2 j r _ hj (by simp [hs])
theorem run_ok {n : Netl} (hk : NetOk n) {l : List (List Int)} (h : (eachP (fun _ x => inErrS n x) 0 l).2 = 0) : ∀ i, i ≤ l.length → RegOk n (stAt n l i) := by
  intro i
  induction i with
  | zero => intro _; exact regOk_reset hk
  | succ i ih =>
    intro hi
    have hx : l[i]? = some l[i] := by simp [show i < l.length by omega]
    have e : l.getD i [] = l[i] := by simp [List.getD, hx]
    have := eachP_ok _ l 0 h i _ hx
    rw [stAt, e]
    exact regOk_next hk this (ih (by omega))
end Go.E
