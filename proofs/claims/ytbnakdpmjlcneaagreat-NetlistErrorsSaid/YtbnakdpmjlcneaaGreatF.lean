/- PRINTED by tools/facts.py: facts about the seat's types and functions, each checked by the kernel. -/
import Derived.Test.YtbnakdpmjlcneaaGreatEE
import Derived.Test.YtbnakdpmjlcneaaGreatChecked
import Derived.KernelRfl
set_option linter.all false
namespace Go.E
open Go.Proofs
noncomputable def X : Cx := { P := Tryz.prog, keep := knownB [(149, 1)] [], known := knownL [(149, 1)] [], iter := iterB [(208, 4)], own := fun t => t == 41 }
theorem own_X (t : TypeId) : (X.own t = true) = (t = 41) := propext (by show (t == 41) = true ↔ _; exact beq_iff_eq)
theorem xP : X.P = Tryz.prog := rfl
theorem sz0 : sizeT Tryz.prog 0 = some 1 := by kernel_rfl
theorem by0 : bytesT Tryz.prog 0 = some 0 := by kernel_rfl
theorem ag0 : isAggT Tryz.prog 0 = some false := by kernel_rfl
theorem sz1 : sizeT Tryz.prog 1 = some 1 := by kernel_rfl
theorem by1 : bytesT Tryz.prog 1 = some 8 := by kernel_rfl
theorem ze1 : zeroT Tryz.prog 1 = some (.nilF) := by kernel_rfl
theorem ag1 : isAggT Tryz.prog 1 = some false := by kernel_rfl
theorem sz2 : sizeT Tryz.prog 2 = some 1 := by kernel_rfl
theorem by2 : bytesT Tryz.prog 2 = some 8 := by kernel_rfl
theorem ze2 : zeroT Tryz.prog 2 = some (.int .i64 0) := by kernel_rfl
theorem ag2 : isAggT Tryz.prog 2 = some false := by kernel_rfl
theorem sz3 : sizeT Tryz.prog 3 = some 1 := by kernel_rfl
theorem by3 : bytesT Tryz.prog 3 = some 8 := by kernel_rfl
theorem ze3 : zeroT Tryz.prog 3 = some (.int .i64 0) := by kernel_rfl
theorem ag3 : isAggT Tryz.prog 3 = some false := by kernel_rfl
theorem sz4 : sizeT Tryz.prog 4 = some 1 := by kernel_rfl
theorem by4 : bytesT Tryz.prog 4 = some 1 := by kernel_rfl
theorem ze4 : zeroT Tryz.prog 4 = some (.bool false) := by kernel_rfl
theorem ag4 : isAggT Tryz.prog 4 = some false := by kernel_rfl
theorem sz5 : sizeT Tryz.prog 5 = some 1 := by kernel_rfl
theorem by5 : bytesT Tryz.prog 5 = some 1 := by kernel_rfl
theorem ze5 : zeroT Tryz.prog 5 = some (.int .u8 0) := by kernel_rfl
theorem ag5 : isAggT Tryz.prog 5 = some false := by kernel_rfl
theorem sz6 : sizeT Tryz.prog 6 = some 1 := by kernel_rfl
theorem by6 : bytesT Tryz.prog 6 = some 1 := by kernel_rfl
theorem ze6 : zeroT Tryz.prog 6 = some (.int .u8 0) := by kernel_rfl
theorem ag6 : isAggT Tryz.prog 6 = some false := by kernel_rfl
theorem sz7 : sizeT Tryz.prog 7 = some 4 := by kernel_rfl
theorem by7 : bytesT Tryz.prog 7 = some 24 := by kernel_rfl
theorem ze7 : zeroT Tryz.prog 7 = some (.agg [.int .i64 0, .int .i64 0, .bool false, .int .u8 0]) := by kernel_rfl
theorem ag7 : isAggT Tryz.prog 7 = some true := by kernel_rfl
theorem sz9 : sizeT Tryz.prog 9 = some 1 := by kernel_rfl
theorem by9 : bytesT Tryz.prog 9 = some 16 := by kernel_rfl
theorem ze9 : zeroT Tryz.prog 9 = some (.str { data := #[] }) := by kernel_rfl
theorem ag9 : isAggT Tryz.prog 9 = some false := by kernel_rfl
theorem sz20 : sizeT Tryz.prog 20 = some 1 := by kernel_rfl
theorem by20 : bytesT Tryz.prog 20 = some 16 := by kernel_rfl
theorem ze20 : zeroT Tryz.prog 20 = some (.nilI) := by kernel_rfl
theorem ag20 : isAggT Tryz.prog 20 = some false := by kernel_rfl
theorem sz22 : sizeT Tryz.prog 22 = some 1 := by kernel_rfl
theorem by22 : bytesT Tryz.prog 22 = some 24 := by kernel_rfl
theorem ze22 : zeroT Tryz.prog 22 = some (.nilS) := by kernel_rfl
theorem ag22 : isAggT Tryz.prog 22 = some false := by kernel_rfl
theorem el22 : elemT Tryz.prog 22 = some 93 := by kernel_rfl
theorem sz23 : sizeT Tryz.prog 23 = some 1 := by kernel_rfl
theorem by23 : bytesT Tryz.prog 23 = some 24 := by kernel_rfl
theorem ze23 : zeroT Tryz.prog 23 = some (.nilS) := by kernel_rfl
theorem ag23 : isAggT Tryz.prog 23 = some false := by kernel_rfl
theorem el23 : elemT Tryz.prog 23 = some 95 := by kernel_rfl
theorem sz24 : sizeT Tryz.prog 24 = some 1 := by kernel_rfl
theorem by24 : bytesT Tryz.prog 24 = some 24 := by kernel_rfl
theorem ze24 : zeroT Tryz.prog 24 = some (.nilS) := by kernel_rfl
theorem ag24 : isAggT Tryz.prog 24 = some false := by kernel_rfl
theorem el24 : elemT Tryz.prog 24 = some 91 := by kernel_rfl
theorem sz25 : sizeT Tryz.prog 25 = some 1 := by kernel_rfl
theorem by25 : bytesT Tryz.prog 25 = some 24 := by kernel_rfl
theorem ze25 : zeroT Tryz.prog 25 = some (.nilS) := by kernel_rfl
theorem ag25 : isAggT Tryz.prog 25 = some false := by kernel_rfl
theorem el25 : elemT Tryz.prog 25 = some 97 := by kernel_rfl
theorem sz27 : sizeT Tryz.prog 27 = some 5 := by kernel_rfl
theorem by27 : bytesT Tryz.prog 27 = some 112 := by kernel_rfl
theorem ze27 : zeroT Tryz.prog 27 = some (.agg [.str { data := #[] }, .nilS, .nilS, .nilS, .nilS]) := by kernel_rfl
theorem ag27 : isAggT Tryz.prog 27 = some true := by kernel_rfl
theorem sz30 : sizeT Tryz.prog 30 = some 1 := by kernel_rfl
theorem by30 : bytesT Tryz.prog 30 = some 8 := by kernel_rfl
theorem ze30 : zeroT Tryz.prog 30 = some (.int .i64 0) := by kernel_rfl
theorem ag30 : isAggT Tryz.prog 30 = some false := by kernel_rfl
theorem sz31 : sizeT Tryz.prog 31 = some 1 := by kernel_rfl
theorem by31 : bytesT Tryz.prog 31 = some 0 := by kernel_rfl
theorem ag31 : isAggT Tryz.prog 31 = some false := by kernel_rfl
theorem sz34 : sizeT Tryz.prog 34 = some 1 := by kernel_rfl
theorem by34 : bytesT Tryz.prog 34 = some 24 := by kernel_rfl
theorem ze34 : zeroT Tryz.prog 34 = some (.nilS) := by kernel_rfl
theorem ag34 : isAggT Tryz.prog 34 = some false := by kernel_rfl
theorem el34 : elemT Tryz.prog 34 = some 3 := by kernel_rfl
theorem sz35 : sizeT Tryz.prog 35 = some 1 := by kernel_rfl
theorem by35 : bytesT Tryz.prog 35 = some 0 := by kernel_rfl
theorem ag35 : isAggT Tryz.prog 35 = some false := by kernel_rfl
theorem sz37 : sizeT Tryz.prog 37 = some 1 := by kernel_rfl
theorem by37 : bytesT Tryz.prog 37 = some 0 := by kernel_rfl
theorem ag37 : isAggT Tryz.prog 37 = some false := by kernel_rfl
theorem sz41 : sizeT Tryz.prog 41 = some 1 := by kernel_rfl
theorem by41 : bytesT Tryz.prog 41 = some 24 := by kernel_rfl
theorem ze41 : zeroT Tryz.prog 41 = some (.nilS) := by kernel_rfl
theorem ag41 : isAggT Tryz.prog 41 = some false := by kernel_rfl
theorem el41 : elemT Tryz.prog 41 = some 34 := by kernel_rfl
theorem sz43 : sizeT Tryz.prog 43 = some 1 := by kernel_rfl
theorem by43 : bytesT Tryz.prog 43 = some 0 := by kernel_rfl
theorem ag43 : isAggT Tryz.prog 43 = some false := by kernel_rfl
theorem sz46 : sizeT Tryz.prog 46 = some 1 := by kernel_rfl
theorem by46 : bytesT Tryz.prog 46 = some 0 := by kernel_rfl
theorem ag46 : isAggT Tryz.prog 46 = some false := by kernel_rfl
theorem sz87 : sizeT Tryz.prog 87 = some 1 := by kernel_rfl
theorem by87 : bytesT Tryz.prog 87 = some 8 := by kernel_rfl
theorem ze87 : zeroT Tryz.prog 87 = some (.nilF) := by kernel_rfl
theorem ag87 : isAggT Tryz.prog 87 = some false := by kernel_rfl
theorem sz91 : sizeT Tryz.prog 91 = some 4 := by kernel_rfl
theorem by91 : bytesT Tryz.prog 91 = some 48 := by kernel_rfl
theorem ze91 : zeroT Tryz.prog 91 = some (.agg [.int .i64 0, .int .i64 0, .nilS, .int .i64 0]) := by kernel_rfl
theorem ag91 : isAggT Tryz.prog 91 = some true := by kernel_rfl
theorem sz93 : sizeT Tryz.prog 93 = some 2 := by kernel_rfl
theorem by93 : bytesT Tryz.prog 93 = some 24 := by kernel_rfl
theorem ze93 : zeroT Tryz.prog 93 = some (.agg [.str { data := #[] }, .int .i64 0]) := by kernel_rfl
theorem ag93 : isAggT Tryz.prog 93 = some true := by kernel_rfl
theorem sz95 : sizeT Tryz.prog 95 = some 5 := by kernel_rfl
theorem by95 : bytesT Tryz.prog 95 = some 48 := by kernel_rfl
theorem ze95 : zeroT Tryz.prog 95 = some (.agg [.str { data := #[] }, .int .i64 0, .int .i64 0, .int .i64 0, .int .i64 0]) := by kernel_rfl
theorem ag95 : isAggT Tryz.prog 95 = some true := by kernel_rfl
theorem sz97 : sizeT Tryz.prog 97 = some 2 := by kernel_rfl
theorem by97 : bytesT Tryz.prog 97 = some 24 := by kernel_rfl
theorem ze97 : zeroT Tryz.prog 97 = some (.agg [.str { data := #[] }, .int .i64 0]) := by kernel_rfl
theorem ag97 : isAggT Tryz.prog 97 = some true := by kernel_rfl
theorem sz99 : sizeT Tryz.prog 99 = some 1 := by kernel_rfl
theorem by99 : bytesT Tryz.prog 99 = some 8 := by kernel_rfl
theorem ze99 : zeroT Tryz.prog 99 = some (.nilM) := by kernel_rfl
theorem ag99 : isAggT Tryz.prog 99 = some false := by kernel_rfl
theorem sz100 : sizeT Tryz.prog 100 = some 1 := by kernel_rfl
theorem by100 : bytesT Tryz.prog 100 = some 8 := by kernel_rfl
theorem ze100 : zeroT Tryz.prog 100 = some (.nilF) := by kernel_rfl
theorem ag100 : isAggT Tryz.prog 100 = some false := by kernel_rfl
theorem sz104 : sizeT Tryz.prog 104 = some 1 := by kernel_rfl
theorem by104 : bytesT Tryz.prog 104 = some 8 := by kernel_rfl
theorem ze104 : zeroT Tryz.prog 104 = some (.nilF) := by kernel_rfl
theorem ag104 : isAggT Tryz.prog 104 = some false := by kernel_rfl
theorem sz107 : sizeT Tryz.prog 107 = some 1 := by kernel_rfl
theorem by107 : bytesT Tryz.prog 107 = some 8 := by kernel_rfl
theorem ze107 : zeroT Tryz.prog 107 = some (.nilF) := by kernel_rfl
theorem ag107 : isAggT Tryz.prog 107 = some false := by kernel_rfl
theorem sz110 : sizeT Tryz.prog 110 = some 1 := by kernel_rfl
theorem by110 : bytesT Tryz.prog 110 = some 8 := by kernel_rfl
theorem ze110 : zeroT Tryz.prog 110 = some (.nilF) := by kernel_rfl
theorem ag110 : isAggT Tryz.prog 110 = some false := by kernel_rfl
theorem sz113 : sizeT Tryz.prog 113 = some 1 := by kernel_rfl
theorem by113 : bytesT Tryz.prog 113 = some 8 := by kernel_rfl
theorem ze113 : zeroT Tryz.prog 113 = some (.nilF) := by kernel_rfl
theorem ag113 : isAggT Tryz.prog 113 = some false := by kernel_rfl
theorem sz114 : sizeT Tryz.prog 114 = some 8 := by kernel_rfl
theorem by114 : bytesT Tryz.prog 114 = some 64 := by kernel_rfl
theorem ze114 : zeroT Tryz.prog 114 = some (.agg [.nilF, .nilF, .nilF, .nilF, .nilF, .nilF, .nilF, .nilF]) := by kernel_rfl
theorem ag114 : isAggT Tryz.prog 114 = some true := by kernel_rfl
theorem sz119 : sizeT Tryz.prog 119 = some 5 := by kernel_rfl
theorem by119 : bytesT Tryz.prog 119 = some 112 := by kernel_rfl
theorem ze119 : zeroT Tryz.prog 119 = some (.agg [.str { data := #[] }, .nilS, .nilS, .nilS, .nilS]) := by kernel_rfl
theorem ag119 : isAggT Tryz.prog 119 = some true := by kernel_rfl
theorem sz120 : sizeT Tryz.prog 120 = some 1 := by kernel_rfl
theorem by120 : bytesT Tryz.prog 120 = some 0 := by kernel_rfl
theorem ag120 : isAggT Tryz.prog 120 = some false := by kernel_rfl
theorem sz176 : sizeT Tryz.prog 176 = some 1 := by kernel_rfl
theorem by176 : bytesT Tryz.prog 176 = some 24 := by kernel_rfl
theorem ze176 : zeroT Tryz.prog 176 = some (.nilS) := by kernel_rfl
theorem ag176 : isAggT Tryz.prog 176 = some false := by kernel_rfl
theorem el176 : elemT Tryz.prog 176 = some 30 := by kernel_rfl
theorem sz178 : sizeT Tryz.prog 178 = some 1 := by kernel_rfl
theorem by178 : bytesT Tryz.prog 178 = some 8 := by kernel_rfl
theorem ze178 : zeroT Tryz.prog 178 = some (.nilF) := by kernel_rfl
theorem ag178 : isAggT Tryz.prog 178 = some false := by kernel_rfl
theorem sz179 : sizeT Tryz.prog 179 = some 1 := by kernel_rfl
theorem by179 : bytesT Tryz.prog 179 = some 8 := by kernel_rfl
theorem ze179 : zeroT Tryz.prog 179 = some (.nilF) := by kernel_rfl
theorem ag179 : isAggT Tryz.prog 179 = some false := by kernel_rfl
theorem sz180 : sizeT Tryz.prog 180 = some 1 := by kernel_rfl
theorem by180 : bytesT Tryz.prog 180 = some 8 := by kernel_rfl
theorem ze180 : zeroT Tryz.prog 180 = some (.nilF) := by kernel_rfl
theorem ag180 : isAggT Tryz.prog 180 = some false := by kernel_rfl
theorem sz182 : sizeT Tryz.prog 182 = some 5 := by kernel_rfl
theorem by182 : bytesT Tryz.prog 182 = some 48 := by kernel_rfl
theorem ze182 : zeroT Tryz.prog 182 = some (.agg [.str { data := #[] }, .int .i64 0, .bool false, .nilF, .nilF]) := by kernel_rfl
theorem ag182 : isAggT Tryz.prog 182 = some true := by kernel_rfl
theorem sz183 : sizeT Tryz.prog 183 = some 95 := by kernel_rfl
theorem by183 : bytesT Tryz.prog 183 = some 912 := by kernel_rfl
theorem ze183 : zeroT Tryz.prog 183 = some (.agg [.str { data := #[] }, .int .i64 0, .bool false, .nilF, .nilF, .str { data := #[] }, .int .i64 0, .bool false, .nilF, .nilF, .str { data := #[] }, .int .i64 0, .bool false, .nilF, .nilF, .str { data := #[] }, .int .i64 0, .bool false, .nilF, .nilF, .str { data := #[] }, .int .i64 0, .bool false, .nilF, .nilF, .str { data := #[] }, .int .i64 0, .bool false, .nilF, .nilF, .str { data := #[] }, .int .i64 0, .bool false, .nilF, .nilF, .str { data := #[] }, .int .i64 0, .bool false, .nilF, .nilF, .str { data := #[] }, .int .i64 0, .bool false, .nilF, .nilF, .str { data := #[] }, .int .i64 0, .bool false, .nilF, .nilF, .str { data := #[] }, .int .i64 0, .bool false, .nilF, .nilF, .str { data := #[] }, .int .i64 0, .bool false, .nilF, .nilF, .str { data := #[] }, .int .i64 0, .bool false, .nilF, .nilF, .str { data := #[] }, .int .i64 0, .bool false, .nilF, .nilF, .str { data := #[] }, .int .i64 0, .bool false, .nilF, .nilF, .str { data := #[] }, .int .i64 0, .bool false, .nilF, .nilF, .str { data := #[] }, .int .i64 0, .bool false, .nilF, .nilF, .str { data := #[] }, .int .i64 0, .bool false, .nilF, .nilF, .str { data := #[] }, .int .i64 0, .bool false, .nilF, .nilF]) := by kernel_rfl
theorem ag183 : isAggT Tryz.prog 183 = some true := by kernel_rfl
theorem sz188 : sizeT Tryz.prog 188 = some 1 := by kernel_rfl
theorem by188 : bytesT Tryz.prog 188 = some 8 := by kernel_rfl
theorem ze188 : zeroT Tryz.prog 188 = some (.nilF) := by kernel_rfl
theorem ag188 : isAggT Tryz.prog 188 = some false := by kernel_rfl
theorem sz195 : sizeT Tryz.prog 195 = some 1 := by kernel_rfl
theorem by195 : bytesT Tryz.prog 195 = some 8 := by kernel_rfl
theorem ze195 : zeroT Tryz.prog 195 = some (.nilF) := by kernel_rfl
theorem ag195 : isAggT Tryz.prog 195 = some false := by kernel_rfl
theorem sz206 : sizeT Tryz.prog 206 = some 1 := by kernel_rfl
theorem by206 : bytesT Tryz.prog 206 = some 8 := by kernel_rfl
theorem ze206 : zeroT Tryz.prog 206 = some (.nilF) := by kernel_rfl
theorem ag206 : isAggT Tryz.prog 206 = some false := by kernel_rfl
theorem xk3 : X.keep 3 = false := Eq.trans rfl rfl
theorem xk10 : X.keep 10 = false := Eq.trans rfl rfl
theorem xk11 : X.keep 11 = false := Eq.trans rfl rfl
theorem xk12 : X.keep 12 = false := Eq.trans rfl rfl
theorem xk13 : X.keep 13 = false := Eq.trans rfl rfl
theorem xk14 : X.keep 14 = false := Eq.trans rfl rfl
theorem xk15 : X.keep 15 = false := Eq.trans rfl rfl
theorem xk16 : X.keep 16 = false := Eq.trans rfl rfl
theorem xk17 : X.keep 17 = false := Eq.trans rfl rfl
theorem xk20 : X.keep 20 = false := Eq.trans rfl rfl
theorem xk21 : X.keep 21 = false := Eq.trans rfl rfl
theorem xk23 : X.keep 23 = false := Eq.trans rfl rfl
theorem xk29 : X.keep 29 = false := Eq.trans rfl rfl
theorem xk31 : X.keep 31 = false := Eq.trans rfl rfl
theorem xk50 : X.keep 50 = false := Eq.trans rfl rfl
theorem xk51 : X.keep 51 = false := Eq.trans rfl rfl
theorem xk52 : X.keep 52 = false := Eq.trans rfl rfl
theorem xk53 : X.keep 53 = false := Eq.trans rfl rfl
theorem xk54 : X.keep 54 = false := Eq.trans rfl rfl
theorem xk55 : X.keep 55 = false := Eq.trans rfl rfl
theorem xk56 : X.keep 56 = false := Eq.trans rfl rfl
theorem xk57 : X.keep 57 = false := Eq.trans rfl rfl
theorem xk58 : X.keep 58 = false := Eq.trans rfl rfl
theorem xk59 : X.keep 59 = false := Eq.trans rfl rfl
theorem xk60 : X.keep 60 = false := Eq.trans rfl rfl
theorem xk61 : X.keep 61 = false := Eq.trans rfl rfl
theorem xk62 : X.keep 62 = false := Eq.trans rfl rfl
theorem xk63 : X.keep 63 = false := Eq.trans rfl rfl
theorem xk64 : X.keep 64 = false := Eq.trans rfl rfl
theorem xk65 : X.keep 65 = false := Eq.trans rfl rfl
theorem xk66 : X.keep 66 = false := Eq.trans rfl rfl
theorem xk67 : X.keep 67 = false := Eq.trans rfl rfl
theorem xk68 : X.keep 68 = false := Eq.trans rfl rfl
theorem xk69 : X.keep 69 = false := Eq.trans rfl rfl
theorem xk70 : X.keep 70 = false := Eq.trans rfl rfl
theorem xk71 : X.keep 71 = false := Eq.trans rfl rfl
theorem xk72 : X.keep 72 = false := Eq.trans rfl rfl
theorem xk73 : X.keep 73 = false := Eq.trans rfl rfl
theorem xk74 : X.keep 74 = false := Eq.trans rfl rfl
theorem xk75 : X.keep 75 = false := Eq.trans rfl rfl
theorem xk76 : X.keep 76 = false := Eq.trans rfl rfl
theorem xk77 : X.keep 77 = false := Eq.trans rfl rfl
theorem xk78 : X.keep 78 = false := Eq.trans rfl rfl
theorem xk79 : X.keep 79 = false := Eq.trans rfl rfl
theorem xk80 : X.keep 80 = false := Eq.trans rfl rfl
theorem xk81 : X.keep 81 = false := Eq.trans rfl rfl
theorem xk82 : X.keep 82 = false := Eq.trans rfl rfl
theorem xk83 : X.keep 83 = false := Eq.trans rfl rfl
theorem xk84 : X.keep 84 = false := Eq.trans rfl rfl
theorem xk85 : X.keep 85 = false := Eq.trans rfl rfl
theorem xk86 : X.keep 86 = false := Eq.trans rfl rfl
theorem xk87 : X.keep 87 = false := Eq.trans rfl rfl
theorem xk88 : X.keep 88 = false := Eq.trans rfl rfl
theorem xk89 : X.keep 89 = false := Eq.trans rfl rfl
theorem xk90 : X.keep 90 = false := Eq.trans rfl rfl
theorem xk133 : X.keep 133 = false := Eq.trans rfl rfl
theorem xk134 : X.keep 134 = false := Eq.trans rfl rfl
theorem xk135 : X.keep 135 = false := Eq.trans rfl rfl
theorem xk136 : X.keep 136 = false := Eq.trans rfl rfl
theorem xk137 : X.keep 137 = false := Eq.trans rfl rfl
theorem xk138 : X.keep 138 = false := Eq.trans rfl rfl
theorem xk139 : X.keep 139 = false := Eq.trans rfl rfl
theorem xk140 : X.keep 140 = false := Eq.trans rfl rfl
theorem xk141 : X.keep 141 = false := Eq.trans rfl rfl
theorem xk142 : X.keep 142 = false := Eq.trans rfl rfl
theorem xk143 : X.keep 143 = false := Eq.trans rfl rfl
theorem xk144 : X.keep 144 = false := Eq.trans rfl rfl
theorem xk145 : X.keep 145 = false := Eq.trans rfl rfl
theorem xk146 : X.keep 146 = false := Eq.trans rfl rfl
theorem xk150 : X.keep 150 = false := Eq.trans rfl rfl
theorem xk167 : X.keep 167 = false := Eq.trans rfl rfl
theorem xk168 : X.keep 168 = false := Eq.trans rfl rfl
theorem xk169 : X.keep 169 = false := Eq.trans rfl rfl
theorem xk170 : X.keep 170 = false := Eq.trans rfl rfl
theorem xk172 : X.keep 172 = false := Eq.trans rfl rfl
theorem xk173 : X.keep 173 = false := Eq.trans rfl rfl
theorem xk174 : X.keep 174 = false := Eq.trans rfl rfl
theorem xk175 : X.keep 175 = false := Eq.trans rfl rfl
theorem xk176 : X.keep 176 = false := Eq.trans rfl rfl
theorem xk177 : X.keep 177 = false := Eq.trans rfl rfl
theorem xk178 : X.keep 178 = false := Eq.trans rfl rfl
theorem xk179 : X.keep 179 = false := Eq.trans rfl rfl
theorem xk180 : X.keep 180 = false := Eq.trans rfl rfl
theorem xk181 : X.keep 181 = false := Eq.trans rfl rfl
theorem xk182 : X.keep 182 = false := Eq.trans rfl rfl
theorem xk184 : X.keep 184 = false := Eq.trans rfl rfl
theorem xk185 : X.keep 185 = false := Eq.trans rfl rfl
theorem xk186 : X.keep 186 = false := Eq.trans rfl rfl
theorem xk187 : X.keep 187 = false := Eq.trans rfl rfl
theorem xk188 : X.keep 188 = false := Eq.trans rfl rfl
theorem xk189 : X.keep 189 = false := Eq.trans rfl rfl
theorem xk190 : X.keep 190 = false := Eq.trans rfl rfl
theorem xk191 : X.keep 191 = false := Eq.trans rfl rfl
theorem xk192 : X.keep 192 = false := Eq.trans rfl rfl
theorem xk193 : X.keep 193 = false := Eq.trans rfl rfl
theorem xk194 : X.keep 194 = false := Eq.trans rfl rfl
theorem xk195 : X.keep 195 = false := Eq.trans rfl rfl
theorem xk196 : X.keep 196 = false := Eq.trans rfl rfl
theorem xk197 : X.keep 197 = false := Eq.trans rfl rfl
theorem xk198 : X.keep 198 = false := Eq.trans rfl rfl
theorem xk199 : X.keep 199 = false := Eq.trans rfl rfl
theorem xk200 : X.keep 200 = false := Eq.trans rfl rfl
theorem xk230 : X.keep 230 = false := Eq.trans rfl rfl
theorem xk231 : X.keep 231 = false := Eq.trans rfl rfl
theorem xk232 : X.keep 232 = false := Eq.trans rfl rfl
theorem xk233 : X.keep 233 = false := Eq.trans rfl rfl
theorem xf3 : X.P.funcs[3]? = some Tryz.f3 := Tryz.func3
theorem xf10 : X.P.funcs[10]? = some Tryz.f10 := Tryz.func10
theorem xf11 : X.P.funcs[11]? = some Tryz.f11 := Tryz.func11
theorem xf12 : X.P.funcs[12]? = some Tryz.f12 := Tryz.func12
theorem xf13 : X.P.funcs[13]? = some Tryz.f13 := Tryz.func13
theorem xf14 : X.P.funcs[14]? = some Tryz.f14 := Tryz.func14
theorem xf15 : X.P.funcs[15]? = some Tryz.f15 := Tryz.func15
theorem xf16 : X.P.funcs[16]? = some Tryz.f16 := Tryz.func16
theorem xf17 : X.P.funcs[17]? = some Tryz.f17 := Tryz.func17
theorem xf20 : X.P.funcs[20]? = some Tryz.f20 := Tryz.func20
theorem xf50 : X.P.funcs[50]? = some Tryz.f50 := Tryz.func50
theorem xf51 : X.P.funcs[51]? = some Tryz.f51 := Tryz.func51
theorem xf52 : X.P.funcs[52]? = some Tryz.f52 := Tryz.func52
theorem xf53 : X.P.funcs[53]? = some Tryz.f53 := Tryz.func53
theorem xf54 : X.P.funcs[54]? = some Tryz.f54 := Tryz.func54
theorem xf55 : X.P.funcs[55]? = some Tryz.f55 := Tryz.func55
theorem xf56 : X.P.funcs[56]? = some Tryz.f56 := Tryz.func56
theorem xf57 : X.P.funcs[57]? = some Tryz.f57 := Tryz.func57
theorem xf58 : X.P.funcs[58]? = some Tryz.f58 := Tryz.func58
theorem xf59 : X.P.funcs[59]? = some Tryz.f59 := Tryz.func59
theorem xf60 : X.P.funcs[60]? = some Tryz.f60 := Tryz.func60
theorem xf61 : X.P.funcs[61]? = some Tryz.f61 := Tryz.func61
theorem xf62 : X.P.funcs[62]? = some Tryz.f62 := Tryz.func62
theorem xf63 : X.P.funcs[63]? = some Tryz.f63 := Tryz.func63
theorem xf64 : X.P.funcs[64]? = some Tryz.f64 := Tryz.func64
theorem xf65 : X.P.funcs[65]? = some Tryz.f65 := Tryz.func65
theorem xf66 : X.P.funcs[66]? = some Tryz.f66 := Tryz.func66
theorem xf67 : X.P.funcs[67]? = some Tryz.f67 := Tryz.func67
theorem xf68 : X.P.funcs[68]? = some Tryz.f68 := Tryz.func68
theorem xf69 : X.P.funcs[69]? = some Tryz.f69 := Tryz.func69
theorem xf70 : X.P.funcs[70]? = some Tryz.f70 := Tryz.func70
theorem xf71 : X.P.funcs[71]? = some Tryz.f71 := Tryz.func71
theorem xf72 : X.P.funcs[72]? = some Tryz.f72 := Tryz.func72
theorem xf73 : X.P.funcs[73]? = some Tryz.f73 := Tryz.func73
theorem xf74 : X.P.funcs[74]? = some Tryz.f74 := Tryz.func74
theorem xf75 : X.P.funcs[75]? = some Tryz.f75 := Tryz.func75
theorem xf76 : X.P.funcs[76]? = some Tryz.f76 := Tryz.func76
theorem xf77 : X.P.funcs[77]? = some Tryz.f77 := Tryz.func77
theorem xf78 : X.P.funcs[78]? = some Tryz.f78 := Tryz.func78
theorem xf79 : X.P.funcs[79]? = some Tryz.f79 := Tryz.func79
theorem xf80 : X.P.funcs[80]? = some Tryz.f80 := Tryz.func80
theorem xf81 : X.P.funcs[81]? = some Tryz.f81 := Tryz.func81
theorem xf82 : X.P.funcs[82]? = some Tryz.f82 := Tryz.func82
theorem xf83 : X.P.funcs[83]? = some Tryz.f83 := Tryz.func83
theorem xf84 : X.P.funcs[84]? = some Tryz.f84 := Tryz.func84
theorem xf85 : X.P.funcs[85]? = some Tryz.f85 := Tryz.func85
theorem xf86 : X.P.funcs[86]? = some Tryz.f86 := Tryz.func86
theorem xf87 : X.P.funcs[87]? = some Tryz.f87 := Tryz.func87
theorem xf88 : X.P.funcs[88]? = some Tryz.f88 := Tryz.func88
theorem xf89 : X.P.funcs[89]? = some Tryz.f89 := Tryz.func89
theorem xf90 : X.P.funcs[90]? = some Tryz.f90 := Tryz.func90
theorem xf133 : X.P.funcs[133]? = some Tryz.f133 := Tryz.func133
theorem xf134 : X.P.funcs[134]? = some Tryz.f134 := Tryz.func134
theorem xf135 : X.P.funcs[135]? = some Tryz.f135 := Tryz.func135
theorem xf136 : X.P.funcs[136]? = some Tryz.f136 := Tryz.func136
theorem xf137 : X.P.funcs[137]? = some Tryz.f137 := Tryz.func137
theorem xf138 : X.P.funcs[138]? = some Tryz.f138 := Tryz.func138
theorem xf139 : X.P.funcs[139]? = some Tryz.f139 := Tryz.func139
theorem xf140 : X.P.funcs[140]? = some Tryz.f140 := Tryz.func140
theorem xf141 : X.P.funcs[141]? = some Tryz.f141 := Tryz.func141
theorem xf142 : X.P.funcs[142]? = some Tryz.f142 := Tryz.func142
theorem xf143 : X.P.funcs[143]? = some Tryz.f143 := Tryz.func143
theorem xf144 : X.P.funcs[144]? = some Tryz.f144 := Tryz.func144
theorem xf145 : X.P.funcs[145]? = some Tryz.f145 := Tryz.func145
theorem xf146 : X.P.funcs[146]? = some Tryz.f146 := Tryz.func146
theorem xf150 : X.P.funcs[150]? = some Tryz.f150 := Tryz.func150
theorem xf168 : X.P.funcs[168]? = some Tryz.f168 := Tryz.func168
theorem xf169 : X.P.funcs[169]? = some Tryz.f169 := Tryz.func169
theorem xf172 : X.P.funcs[172]? = some Tryz.f172 := Tryz.func172
theorem xf179 : X.P.funcs[179]? = some Tryz.f179 := Tryz.func179
theorem xf184 : X.P.funcs[184]? = some Tryz.f184 := Tryz.func184
theorem xf186 : X.P.funcs[186]? = some Tryz.f186 := Tryz.func186
theorem xf188 : X.P.funcs[188]? = some Tryz.f188 := Tryz.func188
theorem xf190 : X.P.funcs[190]? = some Tryz.f190 := Tryz.func190
theorem xf193 : X.P.funcs[193]? = some Tryz.f193 := Tryz.func193
theorem xf196 : X.P.funcs[196]? = some Tryz.f196 := Tryz.func196
theorem xf197 : X.P.funcs[197]? = some Tryz.f197 := Tryz.func197
theorem xf198 : X.P.funcs[198]? = some Tryz.f198 := Tryz.func198
theorem xf199 : X.P.funcs[199]? = some Tryz.f199 := Tryz.func199
theorem xf200 : X.P.funcs[200]? = some Tryz.f200 := Tryz.func200
theorem xf230 : X.P.funcs[230]? = some Tryz.f230 := Tryz.func230
theorem xf232 : X.P.funcs[232]? = some Tryz.f232 := Tryz.func232
attribute [push_cast] own_X xP sz0 by0 ag0 sz1 by1 ze1 ag1 sz2 by2 ze2 ag2 sz3 by3 ze3 ag3 sz4 by4 ze4 ag4 sz5 by5 ze5 ag5 sz6 by6 ze6 ag6 sz7 by7 ze7 ag7 sz9 by9 ze9 ag9 sz20 by20 ze20 ag20 sz22 by22 ze22 ag22 el22 sz23 by23 ze23 ag23 el23 sz24 by24 ze24 ag24 el24 sz25 by25 ze25 ag25 el25 sz27 by27 ze27 ag27 sz30 by30 ze30 ag30 sz31 by31 ag31 sz34 by34 ze34 ag34 el34 sz35 by35 ag35 sz37 by37 ag37 sz41 by41 ze41 ag41 el41 sz43 by43 ag43 sz46 by46 ag46 sz87 by87 ze87 ag87 sz91 by91 ze91 ag91 sz93 by93 ze93 ag93 sz95 by95 ze95 ag95 sz97 by97 ze97 ag97 sz99 by99 ze99 ag99 sz100 by100 ze100 ag100 sz104 by104 ze104 ag104 sz107 by107 ze107 ag107 sz110 by110 ze110 ag110 sz113 by113 ze113 ag113 sz114 by114 ze114 ag114 sz119 by119 ze119 ag119 sz120 by120 ag120 sz176 by176 ze176 ag176 el176 sz178 by178 ze178 ag178 sz179 by179 ze179 ag179 sz180 by180 ze180 ag180 sz182 by182 ze182 ag182 sz183 by183 ze183 ag183 sz188 by188 ze188 ag188 sz195 by195 ze195 ag195 sz206 by206 ze206 ag206 xk3 xk10 xk11 xk12 xk13 xk14 xk15 xk16 xk17 xk20 xk21 xk23 xk29 xk31 xk50 xk51 xk52 xk53 xk54 xk55 xk56 xk57 xk58 xk59 xk60 xk61 xk62 xk63 xk64 xk65 xk66 xk67 xk68 xk69 xk70 xk71 xk72 xk73 xk74 xk75 xk76 xk77 xk78 xk79 xk80 xk81 xk82 xk83 xk84 xk85 xk86 xk87 xk88 xk89 xk90 xk133 xk134 xk135 xk136 xk137 xk138 xk139 xk140 xk141 xk142 xk143 xk144 xk145 xk146 xk150 xk167 xk168 xk169 xk170 xk172 xk173 xk174 xk175 xk176 xk177 xk178 xk179 xk180 xk181 xk182 xk184 xk185 xk186 xk187 xk188 xk189 xk190 xk191 xk192 xk193 xk194 xk195 xk196 xk197 xk198 xk199 xk200 xk230 xk231 xk232 xk233
attribute [push_cast] Tryz.underlying0 Tryz.underlying1 Tryz.underlying2 Tryz.underlying3 Tryz.underlying4 Tryz.underlying5 Tryz.underlying6 Tryz.underlying7 Tryz.underlying9 Tryz.underlying20 Tryz.underlying22 Tryz.underlying23 Tryz.underlying24 Tryz.underlying25 Tryz.underlying27 Tryz.underlying30 Tryz.underlying31 Tryz.underlying34 Tryz.underlying35 Tryz.underlying37 Tryz.underlying41 Tryz.underlying43 Tryz.underlying46 Tryz.underlying87 Tryz.underlying91 Tryz.underlying93 Tryz.underlying95 Tryz.underlying97 Tryz.underlying99 Tryz.underlying100 Tryz.underlying104 Tryz.underlying107 Tryz.underlying110 Tryz.underlying113 Tryz.underlying114 Tryz.underlying119 Tryz.underlying120 Tryz.underlying176 Tryz.underlying178 Tryz.underlying179 Tryz.underlying180 Tryz.underlying182 Tryz.underlying183 Tryz.underlying188 Tryz.underlying195 Tryz.underlying206
end Go.E
