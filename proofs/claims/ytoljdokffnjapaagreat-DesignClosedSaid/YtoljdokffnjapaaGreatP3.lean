/- Contracts of the package graph, in E: ValuesOf. Own work. -/
import Derived.Test.YtoljdokffnjapaaGreatP2
import Derived.Test.YtoljdokffnjapaaGreatChecked
import Derived.KernelRfl
import Derived.Below
set_option linter.all false
namespace Go.E
open Go.Proofs
def thawX : Operand → String → Bool
  | .func f, p => (f == 15 || f == 155) && (p == "hw.go:421" || p == "hw.go:441" || p == "design.go:190" || p == "design.go:210")
  | _, _ => false
def vecX (t : TypeId) (p : String) : Bool := (t == 137 && p == "design.go:365") || (t == 147 && p == "ref.go:113") || (t == 57 && p == "design.go:447") || (t == 40 && p == "design.go:392") || (t == 40 && p == "ref.go:148")
noncomputable def X : Cx := { P := Tryz.prog, keep := knownB [(154, 1)] [(155, 1)] [77, 147], act := sortAct [], vec := vecX, known := knownL [(154, 1)] [(155, 1)] [77], iter := iterB [], own := fun t => t == 40 || t == 57, thaw := thawX, fresh := freshI [15, 155] }
theorem Ik (t : TypeId) : (X.own t = true) = (t = 40 ∨ t = 57) := propext (by show (t == 40 || t == 57) = true ↔ _; simp [or_assoc])
theorem xP : X.P = Tryz.prog := rfl
theorem Il (t : TypeId) (p : String) : (X.vec t p = true) = ((t = 137 ∧ p = "design.go:365") ∨ (t = 147 ∧ p = "ref.go:113") ∨ (t = 57 ∧ p = "design.go:447") ∨ (t = 40 ∧ p = "design.go:392") ∨ (t = 40 ∧ p = "ref.go:148")) := propext (by show vecX t p = true ↔ _; simp [vecX, or_assoc])
theorem sz0 : sizeT Tryz.prog 0 = some 1 := by kernel_rfl
theorem by0 : bytesT Tryz.prog 0 = some 0 := by kernel_rfl
theorem ag0 : isAggT Tryz.prog 0 = some false := by kernel_rfl
theorem sz1 : sizeT Tryz.prog 1 = some 1 := by kernel_rfl
theorem by1 : bytesT Tryz.prog 1 = some 8 := by kernel_rfl
theorem ze1 : zeroT Tryz.prog 1 = some (.nilF) := by kernel_rfl
theorem ag1 : isAggT Tryz.prog 1 = some false := by kernel_rfl
theorem sz2 : sizeT Tryz.prog 2 = some 1 := by kernel_rfl
theorem by2 : bytesT Tryz.prog 2 = some 8 := by kernel_rfl
theorem ze2 : zeroT Tryz.prog 2 = some (.int .i64 0) := by kernel_rfl
theorem ag2 : isAggT Tryz.prog 2 = some false := by kernel_rfl
theorem sz3 : sizeT Tryz.prog 3 = some 1 := by kernel_rfl
theorem by3 : bytesT Tryz.prog 3 = some 8 := by kernel_rfl
theorem ze3 : zeroT Tryz.prog 3 = some (.int .i64 0) := by kernel_rfl
theorem ag3 : isAggT Tryz.prog 3 = some false := by kernel_rfl
theorem sz4 : sizeT Tryz.prog 4 = some 1 := by kernel_rfl
theorem by4 : bytesT Tryz.prog 4 = some 1 := by kernel_rfl
theorem ze4 : zeroT Tryz.prog 4 = some (.bool false) := by kernel_rfl
theorem ag4 : isAggT Tryz.prog 4 = some false := by kernel_rfl
theorem sz5 : sizeT Tryz.prog 5 = some 1 := by kernel_rfl
theorem by5 : bytesT Tryz.prog 5 = some 1 := by kernel_rfl
theorem ze5 : zeroT Tryz.prog 5 = some (.int .u8 0) := by kernel_rfl
theorem ag5 : isAggT Tryz.prog 5 = some false := by kernel_rfl
theorem sz6 : sizeT Tryz.prog 6 = some 1 := by kernel_rfl
theorem by6 : bytesT Tryz.prog 6 = some 1 := by kernel_rfl
theorem ze6 : zeroT Tryz.prog 6 = some (.int .u8 0) := by kernel_rfl
theorem ag6 : isAggT Tryz.prog 6 = some false := by kernel_rfl
theorem sz9 : sizeT Tryz.prog 9 = some 1 := by kernel_rfl
theorem by9 : bytesT Tryz.prog 9 = some 16 := by kernel_rfl
theorem ze9 : zeroT Tryz.prog 9 = some (.str { data := #[] }) := by kernel_rfl
theorem ag9 : isAggT Tryz.prog 9 = some false := by kernel_rfl
theorem sz20 : sizeT Tryz.prog 20 = some 1 := by kernel_rfl
theorem by20 : bytesT Tryz.prog 20 = some 16 := by kernel_rfl
theorem ze20 : zeroT Tryz.prog 20 = some (.nilI) := by kernel_rfl
theorem ag20 : isAggT Tryz.prog 20 = some false := by kernel_rfl
theorem sz22 : sizeT Tryz.prog 22 = some 1 := by kernel_rfl
theorem by22 : bytesT Tryz.prog 22 = some 24 := by kernel_rfl
theorem ze22 : zeroT Tryz.prog 22 = some (.nilS) := by kernel_rfl
theorem ag22 : isAggT Tryz.prog 22 = some false := by kernel_rfl
theorem el22 : elemT Tryz.prog 22 = some 108 := by kernel_rfl
theorem sz23 : sizeT Tryz.prog 23 = some 1 := by kernel_rfl
theorem by23 : bytesT Tryz.prog 23 = some 24 := by kernel_rfl
theorem ze23 : zeroT Tryz.prog 23 = some (.nilS) := by kernel_rfl
theorem ag23 : isAggT Tryz.prog 23 = some false := by kernel_rfl
theorem el23 : elemT Tryz.prog 23 = some 110 := by kernel_rfl
theorem sz24 : sizeT Tryz.prog 24 = some 1 := by kernel_rfl
theorem by24 : bytesT Tryz.prog 24 = some 24 := by kernel_rfl
theorem ze24 : zeroT Tryz.prog 24 = some (.nilS) := by kernel_rfl
theorem ag24 : isAggT Tryz.prog 24 = some false := by kernel_rfl
theorem el24 : elemT Tryz.prog 24 = some 104 := by kernel_rfl
theorem sz25 : sizeT Tryz.prog 25 = some 1 := by kernel_rfl
theorem by25 : bytesT Tryz.prog 25 = some 24 := by kernel_rfl
theorem ze25 : zeroT Tryz.prog 25 = some (.nilS) := by kernel_rfl
theorem ag25 : isAggT Tryz.prog 25 = some false := by kernel_rfl
theorem el25 : elemT Tryz.prog 25 = some 74 := by kernel_rfl
theorem sz26 : sizeT Tryz.prog 26 = some 1 := by kernel_rfl
theorem by26 : bytesT Tryz.prog 26 = some 24 := by kernel_rfl
theorem ze26 : zeroT Tryz.prog 26 = some (.nilS) := by kernel_rfl
theorem ag26 : isAggT Tryz.prog 26 = some false := by kernel_rfl
theorem el26 : elemT Tryz.prog 26 = some 112 := by kernel_rfl
theorem sz27 : sizeT Tryz.prog 27 = some 1 := by kernel_rfl
theorem by27 : bytesT Tryz.prog 27 = some 24 := by kernel_rfl
theorem ze27 : zeroT Tryz.prog 27 = some (.nilS) := by kernel_rfl
theorem ag27 : isAggT Tryz.prog 27 = some false := by kernel_rfl
theorem el27 : elemT Tryz.prog 27 = some 106 := by kernel_rfl
theorem sz29 : sizeT Tryz.prog 29 = some 7 := by kernel_rfl
theorem by29 : bytesT Tryz.prog 29 = some 160 := by kernel_rfl
theorem ze29 : zeroT Tryz.prog 29 = some (.agg [.str { data := #[] }, .nilS, .nilS, .nilS, .nilS, .nilS, .nilS]) := by kernel_rfl
theorem ag29 : isAggT Tryz.prog 29 = some true := by kernel_rfl
theorem sz30 : sizeT Tryz.prog 30 = some 1 := by kernel_rfl
theorem by30 : bytesT Tryz.prog 30 = some 24 := by kernel_rfl
theorem ze30 : zeroT Tryz.prog 30 = some (.nilS) := by kernel_rfl
theorem ag30 : isAggT Tryz.prog 30 = some false := by kernel_rfl
theorem el30 : elemT Tryz.prog 30 = some 3 := by kernel_rfl
theorem sz35 : sizeT Tryz.prog 35 = some 1 := by kernel_rfl
theorem by35 : bytesT Tryz.prog 35 = some 8 := by kernel_rfl
theorem ze35 : zeroT Tryz.prog 35 = some (.int .i64 0) := by kernel_rfl
theorem ag35 : isAggT Tryz.prog 35 = some false := by kernel_rfl
theorem sz36 : sizeT Tryz.prog 36 = some 1 := by kernel_rfl
theorem by36 : bytesT Tryz.prog 36 = some 0 := by kernel_rfl
theorem ag36 : isAggT Tryz.prog 36 = some false := by kernel_rfl
theorem sz40 : sizeT Tryz.prog 40 = some 1 := by kernel_rfl
theorem by40 : bytesT Tryz.prog 40 = some 24 := by kernel_rfl
theorem ze40 : zeroT Tryz.prog 40 = some (.nilS) := by kernel_rfl
theorem ag40 : isAggT Tryz.prog 40 = some false := by kernel_rfl
theorem el40 : elemT Tryz.prog 40 = some 30 := by kernel_rfl
theorem sz41 : sizeT Tryz.prog 41 = some 1 := by kernel_rfl
theorem by41 : bytesT Tryz.prog 41 = some 0 := by kernel_rfl
theorem ag41 : isAggT Tryz.prog 41 = some false := by kernel_rfl
theorem sz44 : sizeT Tryz.prog 44 = some 1 := by kernel_rfl
theorem by44 : bytesT Tryz.prog 44 = some 8 := by kernel_rfl
theorem ze44 : zeroT Tryz.prog 44 = some (.nilF) := by kernel_rfl
theorem ag44 : isAggT Tryz.prog 44 = some false := by kernel_rfl
theorem sz57 : sizeT Tryz.prog 57 = some 1 := by kernel_rfl
theorem by57 : bytesT Tryz.prog 57 = some 24 := by kernel_rfl
theorem ze57 : zeroT Tryz.prog 57 = some (.nilS) := by kernel_rfl
theorem ag57 : isAggT Tryz.prog 57 = some false := by kernel_rfl
theorem el57 : elemT Tryz.prog 57 = some 102 := by kernel_rfl
theorem sz58 : sizeT Tryz.prog 58 = some 1 := by kernel_rfl
theorem by58 : bytesT Tryz.prog 58 = some 0 := by kernel_rfl
theorem ag58 : isAggT Tryz.prog 58 = some false := by kernel_rfl
theorem sz67 : sizeT Tryz.prog 67 = some 1 := by kernel_rfl
theorem by67 : bytesT Tryz.prog 67 = some 0 := by kernel_rfl
theorem ag67 : isAggT Tryz.prog 67 = some false := by kernel_rfl
theorem sz70 : sizeT Tryz.prog 70 = some 1 := by kernel_rfl
theorem by70 : bytesT Tryz.prog 70 = some 0 := by kernel_rfl
theorem ag70 : isAggT Tryz.prog 70 = some false := by kernel_rfl
theorem sz72 : sizeT Tryz.prog 72 = some 1 := by kernel_rfl
theorem by72 : bytesT Tryz.prog 72 = some 24 := by kernel_rfl
theorem ze72 : zeroT Tryz.prog 72 = some (.nilS) := by kernel_rfl
theorem ag72 : isAggT Tryz.prog 72 = some false := by kernel_rfl
theorem el72 : elemT Tryz.prog 72 = some 80 := by kernel_rfl
theorem sz74 : sizeT Tryz.prog 74 = some 3 := by kernel_rfl
theorem by74 : bytesT Tryz.prog 74 = some 48 := by kernel_rfl
theorem ze74 : zeroT Tryz.prog 74 = some (.agg [.str { data := #[] }, .int .i64 0, .nilS]) := by kernel_rfl
theorem ag74 : isAggT Tryz.prog 74 = some true := by kernel_rfl
theorem sz77 : sizeT Tryz.prog 77 = some 1 := by kernel_rfl
theorem by77 : bytesT Tryz.prog 77 = some 8 := by kernel_rfl
theorem ze77 : zeroT Tryz.prog 77 = some (.nilF) := by kernel_rfl
theorem ag77 : isAggT Tryz.prog 77 = some false := by kernel_rfl
theorem sz80 : sizeT Tryz.prog 80 = some 3 := by kernel_rfl
theorem by80 : bytesT Tryz.prog 80 = some 24 := by kernel_rfl
theorem ze80 : zeroT Tryz.prog 80 = some (.agg [.int .i64 0, .int .i64 0, .int .i64 0]) := by kernel_rfl
theorem ag80 : isAggT Tryz.prog 80 = some true := by kernel_rfl
theorem sz97 : sizeT Tryz.prog 97 = some 1 := by kernel_rfl
theorem by97 : bytesT Tryz.prog 97 = some 0 := by kernel_rfl
theorem ag97 : isAggT Tryz.prog 97 = some false := by kernel_rfl
theorem Im : sizeT Tryz.prog 102 = some 2 := by kernel_rfl
theorem In : bytesT Tryz.prog 102 = some 16 := by kernel_rfl
theorem Io : zeroT Tryz.prog 102 = some (.agg [.int .i64 0, .int .i64 0]) := by kernel_rfl
theorem Ip : isAggT Tryz.prog 102 = some true := by kernel_rfl
theorem Iq : sizeT Tryz.prog 104 = some 4 := by kernel_rfl
theorem Ir : bytesT Tryz.prog 104 = some 48 := by kernel_rfl
theorem Is : zeroT Tryz.prog 104 = some (.agg [.int .i64 0, .int .i64 0, .nilS, .int .i64 0]) := by kernel_rfl
theorem It : isAggT Tryz.prog 104 = some true := by kernel_rfl
theorem Iu : sizeT Tryz.prog 106 = some 2 := by kernel_rfl
theorem Iv : bytesT Tryz.prog 106 = some 32 := by kernel_rfl
theorem Iw : zeroT Tryz.prog 106 = some (.agg [.int .i64 0, .nilS]) := by kernel_rfl
theorem Ix : isAggT Tryz.prog 106 = some true := by kernel_rfl
theorem Iy : sizeT Tryz.prog 108 = some 2 := by kernel_rfl
theorem Iz : bytesT Tryz.prog 108 = some 24 := by kernel_rfl
theorem IA : zeroT Tryz.prog 108 = some (.agg [.str { data := #[] }, .int .i64 0]) := by kernel_rfl
theorem IB : isAggT Tryz.prog 108 = some true := by kernel_rfl
theorem IC : sizeT Tryz.prog 110 = some 5 := by kernel_rfl
theorem ID : bytesT Tryz.prog 110 = some 48 := by kernel_rfl
theorem IE : zeroT Tryz.prog 110 = some (.agg [.str { data := #[] }, .int .i64 0, .int .i64 0, .int .i64 0, .int .i64 0]) := by kernel_rfl
theorem IF : isAggT Tryz.prog 110 = some true := by kernel_rfl
theorem IG : sizeT Tryz.prog 112 = some 2 := by kernel_rfl
theorem IH : bytesT Tryz.prog 112 = some 24 := by kernel_rfl
theorem II : zeroT Tryz.prog 112 = some (.agg [.str { data := #[] }, .int .i64 0]) := by kernel_rfl
theorem IJ : isAggT Tryz.prog 112 = some true := by kernel_rfl
theorem IK : sizeT Tryz.prog 114 = some 7 := by kernel_rfl
theorem IL : bytesT Tryz.prog 114 = some 160 := by kernel_rfl
theorem IM : zeroT Tryz.prog 114 = some (.agg [.str { data := #[] }, .nilS, .nilS, .nilS, .nilS, .nilS, .nilS]) := by kernel_rfl
theorem IN : isAggT Tryz.prog 114 = some true := by kernel_rfl
theorem IO : sizeT Tryz.prog 115 = some 1 := by kernel_rfl
theorem IP : bytesT Tryz.prog 115 = some 0 := by kernel_rfl
theorem IR : isAggT Tryz.prog 115 = some false := by kernel_rfl
theorem IS : sizeT Tryz.prog 122 = some 1 := by kernel_rfl
theorem IT : bytesT Tryz.prog 122 = some 24 := by kernel_rfl
theorem IU : zeroT Tryz.prog 122 = some (.nilS) := by kernel_rfl
theorem IV : isAggT Tryz.prog 122 = some false := by kernel_rfl
theorem IX : elemT Tryz.prog 122 = some 3 := by kernel_rfl
theorem IY : sizeT Tryz.prog 129 = some 1 := by kernel_rfl
theorem IZ : bytesT Tryz.prog 129 = some 8 := by kernel_rfl
theorem I0 : zeroT Tryz.prog 129 = some (.nilF) := by kernel_rfl
theorem I1 : isAggT Tryz.prog 129 = some false := by kernel_rfl
theorem I2 : sizeT Tryz.prog 137 = some 1 := by kernel_rfl
theorem I3 : bytesT Tryz.prog 137 = some 24 := by kernel_rfl
theorem I4 : zeroT Tryz.prog 137 = some (.nilS) := by kernel_rfl
theorem I5 : isAggT Tryz.prog 137 = some false := by kernel_rfl
theorem I6 : elemT Tryz.prog 137 = some 142 := by kernel_rfl
theorem I7 : sizeT Tryz.prog 138 = some 1 := by kernel_rfl
theorem I8 : bytesT Tryz.prog 138 = some 0 := by kernel_rfl
theorem I9 : isAggT Tryz.prog 138 = some false := by kernel_rfl
theorem Ja : sizeT Tryz.prog 142 = some 4 := by kernel_rfl
theorem Jb : bytesT Tryz.prog 142 = some 48 := by kernel_rfl
theorem Jc : zeroT Tryz.prog 142 = some (.agg [.nilS, .int .i64 0, .int .i64 0, .int .i64 0]) := by kernel_rfl
theorem Jd : isAggT Tryz.prog 142 = some true := by kernel_rfl
theorem Je : sizeT Tryz.prog 144 = some 1 := by kernel_rfl
theorem Jf : bytesT Tryz.prog 144 = some 8 := by kernel_rfl
theorem Jg : zeroT Tryz.prog 144 = some (.nilF) := by kernel_rfl
theorem Jh : isAggT Tryz.prog 144 = some false := by kernel_rfl
theorem Ji : sizeT Tryz.prog 145 = some 1 := by kernel_rfl
theorem Jj : bytesT Tryz.prog 145 = some 8 := by kernel_rfl
theorem Jk : zeroT Tryz.prog 145 = some (.nilF) := by kernel_rfl
theorem Jl : isAggT Tryz.prog 145 = some false := by kernel_rfl
theorem Jm : sizeT Tryz.prog 153 = some 1 := by kernel_rfl
theorem Jn : bytesT Tryz.prog 153 = some 8 := by kernel_rfl
theorem Jo : zeroT Tryz.prog 153 = some (.nilM) := by kernel_rfl
theorem Jp : isAggT Tryz.prog 153 = some false := by kernel_rfl
theorem Jq : sizeT Tryz.prog 155 = some 1 := by kernel_rfl
theorem Jr : bytesT Tryz.prog 155 = some 8 := by kernel_rfl
theorem Js : zeroT Tryz.prog 155 = some (.nilF) := by kernel_rfl
theorem Jt : isAggT Tryz.prog 155 = some false := by kernel_rfl
theorem Ju : sizeT Tryz.prog 158 = some 1 := by kernel_rfl
theorem Jv : bytesT Tryz.prog 158 = some 8 := by kernel_rfl
theorem Jw : zeroT Tryz.prog 158 = some (.nilF) := by kernel_rfl
theorem Jy : isAggT Tryz.prog 158 = some false := by kernel_rfl
theorem Jz : sizeT Tryz.prog 159 = some 1 := by kernel_rfl
theorem JA : bytesT Tryz.prog 159 = some 8 := by kernel_rfl
theorem JB : zeroT Tryz.prog 159 = some (.nilF) := by kernel_rfl
theorem JC : isAggT Tryz.prog 159 = some false := by kernel_rfl
theorem JD : sizeT Tryz.prog 162 = some 1 := by kernel_rfl
theorem JE : bytesT Tryz.prog 162 = some 8 := by kernel_rfl
theorem JF : zeroT Tryz.prog 162 = some (.nilF) := by kernel_rfl
theorem JG : isAggT Tryz.prog 162 = some false := by kernel_rfl
theorem JH : sizeT Tryz.prog 167 = some 1 := by kernel_rfl
theorem JI : bytesT Tryz.prog 167 = some 8 := by kernel_rfl
theorem JJ : zeroT Tryz.prog 167 = some (.nilF) := by kernel_rfl
theorem JK : isAggT Tryz.prog 167 = some false := by kernel_rfl
theorem JL : sizeT Tryz.prog 168 = some 1 := by kernel_rfl
theorem JM : bytesT Tryz.prog 168 = some 8 := by kernel_rfl
theorem JN : zeroT Tryz.prog 168 = some (.nilF) := by kernel_rfl
theorem JO : isAggT Tryz.prog 168 = some false := by kernel_rfl
theorem JP : sizeT Tryz.prog 170 = some 1 := by kernel_rfl
theorem JQ : bytesT Tryz.prog 170 = some 8 := by kernel_rfl
theorem JR : zeroT Tryz.prog 170 = some (.nilF) := by kernel_rfl
theorem JS : isAggT Tryz.prog 170 = some false := by kernel_rfl
theorem JT : sizeT Tryz.prog 173 = some 1 := by kernel_rfl
theorem JU : bytesT Tryz.prog 173 = some 8 := by kernel_rfl
theorem JV : zeroT Tryz.prog 173 = some (.nilF) := by kernel_rfl
theorem JW : isAggT Tryz.prog 173 = some false := by kernel_rfl
theorem JX : sizeT Tryz.prog 174 = some 11 := by kernel_rfl
theorem JY : bytesT Tryz.prog 174 = some 88 := by kernel_rfl
theorem JZ : zeroT Tryz.prog 174 = some (.agg [.nilF, .nilF, .nilF, .nilF, .nilF, .nilF, .nilF, .nilF, .nilF, .nilF, .nilF]) := by kernel_rfl
theorem J0 : isAggT Tryz.prog 174 = some true := by kernel_rfl
theorem J1 : sizeT Tryz.prog 186 = some 1 := by kernel_rfl
theorem J5 : bytesT Tryz.prog 186 = some 8 := by kernel_rfl
theorem J6 : zeroT Tryz.prog 186 = some (.nilF) := by kernel_rfl
theorem J7 : isAggT Tryz.prog 186 = some false := by kernel_rfl
theorem J8 : sizeT Tryz.prog 187 = some 1 := by kernel_rfl
theorem Ka : bytesT Tryz.prog 187 = some 0 := by kernel_rfl
theorem Kb : isAggT Tryz.prog 187 = some false := by kernel_rfl
theorem Kc : sizeT Tryz.prog 190 = some 1 := by kernel_rfl
theorem Kd : bytesT Tryz.prog 190 = some 8 := by kernel_rfl
theorem Ke : zeroT Tryz.prog 190 = some (.nilF) := by kernel_rfl
theorem Kf : isAggT Tryz.prog 190 = some false := by kernel_rfl
theorem Kg : sizeT Tryz.prog 191 = some 1 := by kernel_rfl
theorem Kh : bytesT Tryz.prog 191 = some 8 := by kernel_rfl
theorem Ki : zeroT Tryz.prog 191 = some (.nilF) := by kernel_rfl
theorem Kj : isAggT Tryz.prog 191 = some false := by kernel_rfl
theorem Kk : sizeT Tryz.prog 192 = some 1 := by kernel_rfl
theorem Kl : bytesT Tryz.prog 192 = some 8 := by kernel_rfl
theorem Km : zeroT Tryz.prog 192 = some (.nilF) := by kernel_rfl
theorem Kn : isAggT Tryz.prog 192 = some false := by kernel_rfl
theorem Ko : sizeT Tryz.prog 198 = some 1 := by kernel_rfl
theorem Kq : bytesT Tryz.prog 198 = some 24 := by kernel_rfl
theorem Kr : zeroT Tryz.prog 198 = some (.nilS) := by kernel_rfl
theorem Ks : isAggT Tryz.prog 198 = some false := by kernel_rfl
theorem Kt : elemT Tryz.prog 198 = some 35 := by kernel_rfl
theorem Ku : sizeT Tryz.prog 205 = some 1 := by kernel_rfl
theorem Kv : bytesT Tryz.prog 205 = some 8 := by kernel_rfl
theorem Kw : zeroT Tryz.prog 205 = some (.nilF) := by kernel_rfl
theorem Kx : isAggT Tryz.prog 205 = some false := by kernel_rfl
theorem Ky : sizeT Tryz.prog 206 = some 1 := by kernel_rfl
theorem Kz : bytesT Tryz.prog 206 = some 8 := by kernel_rfl
theorem KA : zeroT Tryz.prog 206 = some (.nilF) := by kernel_rfl
theorem KB : isAggT Tryz.prog 206 = some false := by kernel_rfl
theorem KC : sizeT Tryz.prog 208 = some 5 := by kernel_rfl
theorem KD : bytesT Tryz.prog 208 = some 48 := by kernel_rfl
theorem KE : zeroT Tryz.prog 208 = some (.agg [.str { data := #[] }, .int .i64 0, .bool false, .nilF, .nilF]) := by kernel_rfl
theorem KF : isAggT Tryz.prog 208 = some true := by kernel_rfl
theorem KG : sizeT Tryz.prog 209 = some 95 := by kernel_rfl
theorem KH : bytesT Tryz.prog 209 = some 912 := by kernel_rfl
theorem KI : zeroT Tryz.prog 209 = some (.agg [.str { data := #[] }, .int .i64 0, .bool false, .nilF, .nilF, .str { data := #[] }, .int .i64 0, .bool false, .nilF, .nilF, .str { data := #[] }, .int .i64 0, .bool false, .nilF, .nilF, .str { data := #[] }, .int .i64 0, .bool false, .nilF, .nilF, .str { data := #[] }, .int .i64 0, .bool false, .nilF, .nilF, .str { data := #[] }, .int .i64 0, .bool false, .nilF, .nilF, .str { data := #[] }, .int .i64 0, .bool false, .nilF, .nilF, .str { data := #[] }, .int .i64 0, .bool false, .nilF, .nilF, .str { data := #[] }, .int .i64 0, .bool false, .nilF, .nilF, .str { data := #[] }, .int .i64 0, .bool false, .nilF, .nilF, .str { data := #[] }, .int .i64 0, .bool false, .nilF, .nilF, .str { data := #[] }, .int .i64 0, .bool false, .nilF, .nilF, .str { data := #[] }, .int .i64 0, .bool false, .nilF, .nilF, .str { data := #[] }, .int .i64 0, .bool false, .nilF, .nilF, .str { data := #[] }, .int .i64 0, .bool false, .nilF, .nilF, .str { data := #[] }, .int .i64 0, .bool false, .nilF, .nilF, .str { data := #[] }, .int .i64 0, .bool false, .nilF, .nilF, .str { data := #[] }, .int .i64 0, .bool false, .nilF, .nilF, .str { data := #[] }, .int .i64 0, .bool false, .nilF, .nilF]) := by kernel_rfl
theorem KJ : isAggT Tryz.prog 209 = some true := by kernel_rfl
theorem KK : sizeT Tryz.prog 214 = some 1 := by kernel_rfl
theorem KL : bytesT Tryz.prog 214 = some 8 := by kernel_rfl
theorem KM : zeroT Tryz.prog 214 = some (.nilF) := by kernel_rfl
theorem KN : isAggT Tryz.prog 214 = some false := by kernel_rfl
theorem KO : sizeT Tryz.prog 217 = some 1 := by kernel_rfl
theorem KP : bytesT Tryz.prog 217 = some 8 := by kernel_rfl
theorem KQ : zeroT Tryz.prog 217 = some (.int .u64 0) := by kernel_rfl
theorem KR : isAggT Tryz.prog 217 = some false := by kernel_rfl
theorem KS : sizeT Tryz.prog 222 = some 1 := by kernel_rfl
theorem KT : bytesT Tryz.prog 222 = some 24 := by kernel_rfl
theorem KU : zeroT Tryz.prog 222 = some (.nilS) := by kernel_rfl
theorem KV : isAggT Tryz.prog 222 = some false := by kernel_rfl
theorem KW : elemT Tryz.prog 222 = some 122 := by kernel_rfl
theorem KX : sizeT Tryz.prog 242 = some 1 := by kernel_rfl
theorem KY : bytesT Tryz.prog 242 = some 8 := by kernel_rfl
theorem KZ : zeroT Tryz.prog 242 = some (.nilP) := by kernel_rfl
theorem K0 : isAggT Tryz.prog 242 = some false := by kernel_rfl
theorem xk8 : X.keep 8 = false := Eq.trans rfl rfl
theorem xk11 : X.keep 11 = false := Eq.trans rfl rfl
theorem xk12 : X.keep 12 = false := Eq.trans rfl rfl
theorem xk13 : X.keep 13 = false := Eq.trans rfl rfl
theorem xk14 : X.keep 14 = false := Eq.trans rfl rfl
theorem xk15 : X.keep 15 = false := Eq.trans rfl rfl
theorem xk16 : X.keep 16 = false := Eq.trans rfl rfl
theorem xk17 : X.keep 17 = false := Eq.trans rfl rfl
theorem xk19 : X.keep 19 = false := Eq.trans rfl rfl
theorem xk20 : X.keep 20 = false := Eq.trans rfl rfl
theorem xk21 : X.keep 21 = false := Eq.trans rfl rfl
theorem xk24 : X.keep 24 = false := Eq.trans rfl rfl
theorem xk25 : X.keep 25 = false := Eq.trans rfl rfl
theorem xk26 : X.keep 26 = false := Eq.trans rfl rfl
theorem xk27 : X.keep 27 = false := Eq.trans rfl rfl
theorem xk28 : X.keep 28 = false := Eq.trans rfl rfl
theorem xk29 : X.keep 29 = false := Eq.trans rfl rfl
theorem xk30 : X.keep 30 = false := Eq.trans rfl rfl
theorem xk31 : X.keep 31 = false := Eq.trans rfl rfl
theorem xk32 : X.keep 32 = false := Eq.trans rfl rfl
theorem xk33 : X.keep 33 = false := Eq.trans rfl rfl
theorem xk35 : X.keep 35 = false := Eq.trans rfl rfl
theorem xk36 : X.keep 36 = false := Eq.trans rfl rfl
theorem xk38 : X.keep 38 = false := Eq.trans rfl rfl
theorem xk40 : X.keep 40 = false := Eq.trans rfl rfl
theorem xk44 : X.keep 44 = false := Eq.trans rfl rfl
theorem xk45 : X.keep 45 = false := Eq.trans rfl rfl
theorem xk48 : X.keep 48 = false := Eq.trans rfl rfl
theorem xk49 : X.keep 49 = false := Eq.trans rfl rfl
theorem xk54 : X.keep 54 = false := Eq.trans rfl rfl
theorem xk57 : X.keep 57 = false := Eq.trans rfl rfl
theorem xk58 : X.keep 58 = false := Eq.trans rfl rfl
theorem xk59 : X.keep 59 = false := Eq.trans rfl rfl
theorem xk60 : X.keep 60 = false := Eq.trans rfl rfl
theorem xk61 : X.keep 61 = false := Eq.trans rfl rfl
theorem xk62 : X.keep 62 = false := Eq.trans rfl rfl
theorem xk63 : X.keep 63 = false := Eq.trans rfl rfl
theorem xk64 : X.keep 64 = false := Eq.trans rfl rfl
theorem xk65 : X.keep 65 = false := Eq.trans rfl rfl
theorem xk66 : X.keep 66 = false := Eq.trans rfl rfl
theorem xk67 : X.keep 67 = false := Eq.trans rfl rfl
theorem xk68 : X.keep 68 = false := Eq.trans rfl rfl
theorem xk69 : X.keep 69 = false := Eq.trans rfl rfl
theorem xk70 : X.keep 70 = false := Eq.trans rfl rfl
theorem xk71 : X.keep 71 = false := Eq.trans rfl rfl
theorem xk72 : X.keep 72 = false := Eq.trans rfl rfl
theorem xk73 : X.keep 73 = false := Eq.trans rfl rfl
theorem xk74 : X.keep 74 = false := Eq.trans rfl rfl
theorem xk75 : X.keep 75 = false := Eq.trans rfl rfl
theorem xk76 : X.keep 76 = false := Eq.trans rfl rfl
theorem xk78 : X.keep 78 = false := Eq.trans rfl rfl
theorem xk79 : X.keep 79 = false := Eq.trans rfl rfl
theorem xk80 : X.keep 80 = false := Eq.trans rfl rfl
theorem xk81 : X.keep 81 = false := Eq.trans rfl rfl
theorem xk82 : X.keep 82 = false := Eq.trans rfl rfl
theorem xk83 : X.keep 83 = false := Eq.trans rfl rfl
theorem xk84 : X.keep 84 = false := Eq.trans rfl rfl
theorem xk85 : X.keep 85 = false := Eq.trans rfl rfl
theorem xk86 : X.keep 86 = false := Eq.trans rfl rfl
theorem xk87 : X.keep 87 = false := Eq.trans rfl rfl
theorem xk89 : X.keep 89 = false := Eq.trans rfl rfl
theorem xk90 : X.keep 90 = false := Eq.trans rfl rfl
theorem xk91 : X.keep 91 = false := Eq.trans rfl rfl
theorem xk92 : X.keep 92 = false := Eq.trans rfl rfl
theorem xk93 : X.keep 93 = false := Eq.trans rfl rfl
theorem xk94 : X.keep 94 = false := Eq.trans rfl rfl
theorem xk95 : X.keep 95 = false := Eq.trans rfl rfl
theorem xk96 : X.keep 96 = false := Eq.trans rfl rfl
theorem xk97 : X.keep 97 = false := Eq.trans rfl rfl
theorem xk98 : X.keep 98 = false := Eq.trans rfl rfl
theorem xk99 : X.keep 99 = false := Eq.trans rfl rfl
theorem CL : X.keep 100 = false := Eq.trans rfl rfl
theorem CM : X.keep 101 = false := Eq.trans rfl rfl
theorem CN : X.keep 102 = false := Eq.trans rfl rfl
theorem CO : X.keep 103 = false := Eq.trans rfl rfl
theorem CP : X.keep 104 = false := Eq.trans rfl rfl
theorem CQ : X.keep 105 = false := Eq.trans rfl rfl
theorem CR : X.keep 106 = false := Eq.trans rfl rfl
theorem CS : X.keep 107 = false := Eq.trans rfl rfl
theorem CT : X.keep 108 = false := Eq.trans rfl rfl
theorem CU : X.keep 109 = false := Eq.trans rfl rfl
theorem CV : X.keep 110 = false := Eq.trans rfl rfl
theorem CW : X.keep 111 = false := Eq.trans rfl rfl
theorem CX : X.keep 112 = false := Eq.trans rfl rfl
theorem CY : X.keep 113 = false := Eq.trans rfl rfl
theorem CZ : X.keep 114 = false := Eq.trans rfl rfl
theorem C0 : X.keep 115 = false := Eq.trans rfl rfl
theorem C1 : X.keep 116 = false := Eq.trans rfl rfl
theorem C2 : X.keep 117 = false := Eq.trans rfl rfl
theorem C3 : X.keep 118 = false := Eq.trans rfl rfl
theorem C4 : X.keep 119 = false := Eq.trans rfl rfl
theorem C5 : X.keep 120 = false := Eq.trans rfl rfl
theorem C6 : X.keep 121 = false := Eq.trans rfl rfl
theorem C7 : X.keep 122 = false := Eq.trans rfl rfl
theorem C8 : X.keep 125 = false := Eq.trans rfl rfl
theorem C9 : X.keep 126 = false := Eq.trans rfl rfl
theorem Da : X.keep 127 = false := Eq.trans rfl rfl
theorem Db : X.keep 128 = false := Eq.trans rfl rfl
theorem Dc : X.keep 129 = false := Eq.trans rfl rfl
theorem Dd : X.keep 130 = false := Eq.trans rfl rfl
theorem De : X.keep 131 = false := Eq.trans rfl rfl
theorem Df : X.keep 132 = false := Eq.trans rfl rfl
theorem vH : X.keep 134 = false := Eq.trans rfl rfl
theorem Dg : X.keep 135 = false := Eq.trans rfl rfl
theorem Dh : X.keep 136 = false := Eq.trans rfl rfl
theorem Di : X.keep 137 = false := Eq.trans rfl rfl
theorem Dj : X.keep 138 = false := Eq.trans rfl rfl
theorem Dk : X.keep 139 = false := Eq.trans rfl rfl
theorem Dl : X.keep 140 = false := Eq.trans rfl rfl
theorem Dm : X.keep 141 = false := Eq.trans rfl rfl
theorem Dn : X.keep 142 = false := Eq.trans rfl rfl
theorem Do : X.keep 143 = false := Eq.trans rfl rfl
theorem Dp : X.keep 144 = false := Eq.trans rfl rfl
theorem Dr : X.keep 145 = false := Eq.trans rfl rfl
theorem Ds : X.keep 146 = false := Eq.trans rfl rfl
theorem Dt : X.keep 151 = false := Eq.trans rfl rfl
theorem Du : X.keep 152 = false := Eq.trans rfl rfl
theorem Dv : X.keep 153 = false := Eq.trans rfl rfl
theorem Dw : X.keep 156 = false := Eq.trans rfl rfl
theorem fD : X.keep 157 = false := Eq.trans rfl rfl
theorem Dx : X.keep 158 = false := Eq.trans rfl rfl
theorem Dy : X.keep 159 = false := Eq.trans rfl rfl
theorem Dz : X.keep 160 = false := Eq.trans rfl rfl
theorem DA : X.keep 161 = false := Eq.trans rfl rfl
theorem DB : X.keep 163 = false := Eq.trans rfl rfl
theorem DC : X.keep 164 = false := Eq.trans rfl rfl
theorem DD : X.keep 165 = false := Eq.trans rfl rfl
theorem DE : X.keep 166 = false := Eq.trans rfl rfl
theorem DF : X.keep 167 = false := Eq.trans rfl rfl
theorem DG : X.keep 168 = false := Eq.trans rfl rfl
theorem DH : X.keep 169 = false := Eq.trans rfl rfl
theorem DI : X.keep 170 = false := Eq.trans rfl rfl
theorem DJ : X.keep 171 = false := Eq.trans rfl rfl
theorem DK : X.keep 172 = false := Eq.trans rfl rfl
theorem DL : X.keep 173 = false := Eq.trans rfl rfl
theorem DM : X.keep 174 = false := Eq.trans rfl rfl
theorem DN : X.keep 175 = false := Eq.trans rfl rfl
theorem zg : X.keep 176 = false := Eq.trans rfl rfl
theorem DO : X.keep 177 = false := Eq.trans rfl rfl
theorem DP : X.keep 178 = false := Eq.trans rfl rfl
theorem DQ : X.keep 179 = false := Eq.trans rfl rfl
theorem K1 : X.keep 180 = false := Eq.trans rfl rfl
theorem DR : X.keep 183 = false := Eq.trans rfl rfl
theorem DS : X.keep 184 = false := Eq.trans rfl rfl
theorem DT : X.keep 185 = false := Eq.trans rfl rfl
theorem DU : X.keep 186 = false := Eq.trans rfl rfl
theorem K2 : X.keep 187 = false := Eq.trans rfl rfl
theorem DV : X.keep 188 = false := Eq.trans rfl rfl
theorem DW : X.keep 189 = false := Eq.trans rfl rfl
theorem DX : X.keep 190 = false := Eq.trans rfl rfl
theorem DY : X.keep 191 = false := Eq.trans rfl rfl
theorem DZ : X.keep 192 = false := Eq.trans rfl rfl
theorem D0 : X.keep 193 = false := Eq.trans rfl rfl
theorem D1 : X.keep 194 = false := Eq.trans rfl rfl
theorem D2 : X.keep 195 = false := Eq.trans rfl rfl
theorem D3 : X.keep 196 = false := Eq.trans rfl rfl
theorem D4 : X.keep 197 = false := Eq.trans rfl rfl
theorem D5 : X.keep 198 = false := Eq.trans rfl rfl
theorem D6 : X.keep 199 = false := Eq.trans rfl rfl
theorem D7 : X.keep 200 = false := Eq.trans rfl rfl
theorem D8 : X.keep 201 = false := Eq.trans rfl rfl
theorem D9 : X.keep 202 = false := Eq.trans rfl rfl
theorem Ea : X.keep 203 = false := Eq.trans rfl rfl
theorem Eb : X.keep 204 = false := Eq.trans rfl rfl
theorem Ec : X.keep 205 = false := Eq.trans rfl rfl
theorem Ed : X.keep 206 = false := Eq.trans rfl rfl
theorem Ee : X.keep 207 = false := Eq.trans rfl rfl
theorem Ef : X.keep 208 = false := Eq.trans rfl rfl
theorem Eg : X.keep 209 = false := Eq.trans rfl rfl
theorem Eh : X.keep 210 = false := Eq.trans rfl rfl
theorem Ei : X.keep 211 = false := Eq.trans rfl rfl
theorem Ej : X.keep 212 = false := Eq.trans rfl rfl
theorem Ek : X.keep 213 = false := Eq.trans rfl rfl
theorem El : X.keep 214 = false := Eq.trans rfl rfl
theorem Em : X.keep 215 = false := Eq.trans rfl rfl
theorem En : X.keep 216 = false := Eq.trans rfl rfl
theorem Eo : X.keep 217 = false := Eq.trans rfl rfl
theorem Ep : X.keep 218 = false := Eq.trans rfl rfl
theorem Er : X.keep 219 = false := Eq.trans rfl rfl
theorem Es : X.keep 220 = false := Eq.trans rfl rfl
theorem Et : X.keep 221 = false := Eq.trans rfl rfl
theorem Eu : X.keep 222 = false := Eq.trans rfl rfl
theorem Ew : X.keep 223 = false := Eq.trans rfl rfl
theorem Ey : X.keep 234 = false := Eq.trans rfl rfl
theorem Ez : X.keep 235 = false := Eq.trans rfl rfl
theorem EA : X.keep 236 = false := Eq.trans rfl rfl
theorem EB : X.keep 237 = false := Eq.trans rfl rfl
theorem EC : X.keep 238 = false := Eq.trans rfl rfl
theorem ED : X.keep 239 = false := Eq.trans rfl rfl
theorem xtt (t : Nat) (p : String) : X.thaw (.tmp t) p = false := Eq.trans rfl rfl
theorem xt8 p : X.thaw (.func 8) p = false := Eq.trans rfl rfl
theorem xt11 p : X.thaw (.func 11) p = false := Eq.trans rfl rfl
theorem xt12 p : X.thaw (.func 12) p = false := Eq.trans rfl rfl
theorem xt13 p : X.thaw (.func 13) p = false := Eq.trans rfl rfl
theorem xt14 p : X.thaw (.func 14) p = false := Eq.trans rfl rfl
theorem Hf : X.thaw (.func 15) "base.go:277" = false := by kernel_rfl
theorem Hg : X.thaw (.func 15) "hw.go:421" = true := by kernel_rfl
theorem Hh : X.thaw (.func 15) "hw.go:431" = false := by kernel_rfl
theorem Hi : X.thaw (.func 15) "hw.go:441" = true := by kernel_rfl
theorem Hj : X.thaw (.func 15) "hw.go:716" = false := by kernel_rfl
theorem Hl : X.thaw (.func 15) "hw.go:733" = false := by kernel_rfl
theorem Hm : X.thaw (.func 15) "law.go:139" = false := by kernel_rfl
theorem Hn : X.thaw (.func 15) "law.go:140" = false := by kernel_rfl
theorem Ho : X.thaw (.func 15) "law.go:141" = false := by kernel_rfl
theorem Hq : X.thaw (.func 15) "law.go:170" = false := by kernel_rfl
theorem FS : X.thaw (.func 15) "law.go:171" = false := by kernel_rfl
theorem FT : X.thaw (.func 15) "law.go:289" = false := by kernel_rfl
theorem FU : X.thaw (.func 15) "law.go:290" = false := by kernel_rfl
theorem FV : X.thaw (.func 15) "law.go:300" = false := by kernel_rfl
theorem FW : X.thaw (.func 15) "law.go:326" = false := by kernel_rfl
theorem FX : X.thaw (.func 15) "law.go:388" = false := by kernel_rfl
theorem xt16 p : X.thaw (.func 16) p = false := Eq.trans rfl rfl
theorem xt17 p : X.thaw (.func 17) p = false := Eq.trans rfl rfl
theorem xt19 p : X.thaw (.func 19) p = false := Eq.trans rfl rfl
theorem xt20 p : X.thaw (.func 20) p = false := Eq.trans rfl rfl
theorem xt21 p : X.thaw (.func 21) p = false := Eq.trans rfl rfl
theorem xt24 p : X.thaw (.func 24) p = false := Eq.trans rfl rfl
theorem xt25 p : X.thaw (.func 25) p = false := Eq.trans rfl rfl
theorem xt26 p : X.thaw (.func 26) p = false := Eq.trans rfl rfl
theorem xt27 p : X.thaw (.func 27) p = false := Eq.trans rfl rfl
theorem xt28 p : X.thaw (.func 28) p = false := Eq.trans rfl rfl
theorem xt29 p : X.thaw (.func 29) p = false := Eq.trans rfl rfl
theorem xt30 p : X.thaw (.func 30) p = false := Eq.trans rfl rfl
theorem xt31 p : X.thaw (.func 31) p = false := Eq.trans rfl rfl
theorem xt32 p : X.thaw (.func 32) p = false := Eq.trans rfl rfl
theorem xt33 p : X.thaw (.func 33) p = false := Eq.trans rfl rfl
theorem xt35 p : X.thaw (.func 35) p = false := Eq.trans rfl rfl
theorem xt36 p : X.thaw (.func 36) p = false := Eq.trans rfl rfl
theorem xt38 p : X.thaw (.func 38) p = false := Eq.trans rfl rfl
theorem xt40 p : X.thaw (.func 40) p = false := Eq.trans rfl rfl
theorem xt44 p : X.thaw (.func 44) p = false := Eq.trans rfl rfl
theorem xt45 p : X.thaw (.func 45) p = false := Eq.trans rfl rfl
theorem xt48 p : X.thaw (.func 48) p = false := Eq.trans rfl rfl
theorem xt49 p : X.thaw (.func 49) p = false := Eq.trans rfl rfl
theorem xt54 p : X.thaw (.func 54) p = false := Eq.trans rfl rfl
theorem xt57 p : X.thaw (.func 57) p = false := Eq.trans rfl rfl
theorem xt58 p : X.thaw (.func 58) p = false := Eq.trans rfl rfl
theorem xt59 p : X.thaw (.func 59) p = false := Eq.trans rfl rfl
theorem xt60 p : X.thaw (.func 60) p = false := Eq.trans rfl rfl
theorem xt61 p : X.thaw (.func 61) p = false := Eq.trans rfl rfl
theorem xt62 p : X.thaw (.func 62) p = false := Eq.trans rfl rfl
theorem xt63 p : X.thaw (.func 63) p = false := Eq.trans rfl rfl
theorem xt64 p : X.thaw (.func 64) p = false := Eq.trans rfl rfl
theorem xt65 p : X.thaw (.func 65) p = false := Eq.trans rfl rfl
theorem xt66 p : X.thaw (.func 66) p = false := Eq.trans rfl rfl
theorem xt67 p : X.thaw (.func 67) p = false := Eq.trans rfl rfl
theorem xt68 p : X.thaw (.func 68) p = false := Eq.trans rfl rfl
theorem xt69 p : X.thaw (.func 69) p = false := Eq.trans rfl rfl
theorem xt70 p : X.thaw (.func 70) p = false := Eq.trans rfl rfl
theorem xt71 p : X.thaw (.func 71) p = false := Eq.trans rfl rfl
theorem xt72 p : X.thaw (.func 72) p = false := Eq.trans rfl rfl
theorem xt73 p : X.thaw (.func 73) p = false := Eq.trans rfl rfl
theorem xt74 p : X.thaw (.func 74) p = false := Eq.trans rfl rfl
theorem xt75 p : X.thaw (.func 75) p = false := Eq.trans rfl rfl
theorem xt76 p : X.thaw (.func 76) p = false := Eq.trans rfl rfl
theorem xt77 p : X.thaw (.func 77) p = false := Eq.trans rfl rfl
theorem xt78 p : X.thaw (.func 78) p = false := Eq.trans rfl rfl
theorem xt79 p : X.thaw (.func 79) p = false := Eq.trans rfl rfl
theorem xt80 p : X.thaw (.func 80) p = false := Eq.trans rfl rfl
theorem xt81 p : X.thaw (.func 81) p = false := Eq.trans rfl rfl
theorem xt82 p : X.thaw (.func 82) p = false := Eq.trans rfl rfl
theorem xt83 p : X.thaw (.func 83) p = false := Eq.trans rfl rfl
theorem xt84 p : X.thaw (.func 84) p = false := Eq.trans rfl rfl
theorem xt85 p : X.thaw (.func 85) p = false := Eq.trans rfl rfl
theorem xt86 p : X.thaw (.func 86) p = false := Eq.trans rfl rfl
theorem xt87 p : X.thaw (.func 87) p = false := Eq.trans rfl rfl
theorem xt89 p : X.thaw (.func 89) p = false := Eq.trans rfl rfl
theorem xt90 p : X.thaw (.func 90) p = false := Eq.trans rfl rfl
theorem xt91 p : X.thaw (.func 91) p = false := Eq.trans rfl rfl
theorem xt92 p : X.thaw (.func 92) p = false := Eq.trans rfl rfl
theorem xt93 p : X.thaw (.func 93) p = false := Eq.trans rfl rfl
theorem xt94 p : X.thaw (.func 94) p = false := Eq.trans rfl rfl
theorem xt95 p : X.thaw (.func 95) p = false := Eq.trans rfl rfl
theorem xt96 p : X.thaw (.func 96) p = false := Eq.trans rfl rfl
theorem xt97 p : X.thaw (.func 97) p = false := Eq.trans rfl rfl
theorem xt98 p : X.thaw (.func 98) p = false := Eq.trans rfl rfl
theorem xt99 p : X.thaw (.func 99) p = false := Eq.trans rfl rfl
theorem K3 p : X.thaw (.func 100) p = false := Eq.trans rfl rfl
theorem K4 p : X.thaw (.func 101) p = false := Eq.trans rfl rfl
theorem K5 p : X.thaw (.func 102) p = false := Eq.trans rfl rfl
theorem K6 p : X.thaw (.func 103) p = false := Eq.trans rfl rfl
theorem K7 p : X.thaw (.func 104) p = false := Eq.trans rfl rfl
theorem K8 p : X.thaw (.func 105) p = false := Eq.trans rfl rfl
theorem K9 p : X.thaw (.func 106) p = false := Eq.trans rfl rfl
theorem La p : X.thaw (.func 107) p = false := Eq.trans rfl rfl
theorem Lb p : X.thaw (.func 108) p = false := Eq.trans rfl rfl
theorem Lc p : X.thaw (.func 109) p = false := Eq.trans rfl rfl
theorem Ld p : X.thaw (.func 110) p = false := Eq.trans rfl rfl
theorem Le p : X.thaw (.func 111) p = false := Eq.trans rfl rfl
theorem Lf p : X.thaw (.func 112) p = false := Eq.trans rfl rfl
theorem Lg p : X.thaw (.func 113) p = false := Eq.trans rfl rfl
theorem Lh p : X.thaw (.func 114) p = false := Eq.trans rfl rfl
theorem Li p : X.thaw (.func 115) p = false := Eq.trans rfl rfl
theorem Lj p : X.thaw (.func 116) p = false := Eq.trans rfl rfl
theorem Lk p : X.thaw (.func 117) p = false := Eq.trans rfl rfl
theorem Ll p : X.thaw (.func 118) p = false := Eq.trans rfl rfl
theorem Lm p : X.thaw (.func 119) p = false := Eq.trans rfl rfl
theorem Ln p : X.thaw (.func 120) p = false := Eq.trans rfl rfl
theorem Lo p : X.thaw (.func 121) p = false := Eq.trans rfl rfl
theorem Lq p : X.thaw (.func 122) p = false := Eq.trans rfl rfl
theorem Lr p : X.thaw (.func 125) p = false := Eq.trans rfl rfl
theorem Ls p : X.thaw (.func 126) p = false := Eq.trans rfl rfl
theorem Lt p : X.thaw (.func 127) p = false := Eq.trans rfl rfl
theorem Lu p : X.thaw (.func 128) p = false := Eq.trans rfl rfl
theorem Lv p : X.thaw (.func 129) p = false := Eq.trans rfl rfl
theorem Lw p : X.thaw (.func 130) p = false := Eq.trans rfl rfl
theorem Lx p : X.thaw (.func 131) p = false := Eq.trans rfl rfl
theorem Ly p : X.thaw (.func 132) p = false := Eq.trans rfl rfl
theorem Lz p : X.thaw (.func 134) p = false := Eq.trans rfl rfl
theorem LA p : X.thaw (.func 135) p = false := Eq.trans rfl rfl
theorem LB p : X.thaw (.func 136) p = false := Eq.trans rfl rfl
theorem LC p : X.thaw (.func 137) p = false := Eq.trans rfl rfl
theorem LD p : X.thaw (.func 138) p = false := Eq.trans rfl rfl
theorem LE p : X.thaw (.func 139) p = false := Eq.trans rfl rfl
theorem LF p : X.thaw (.func 140) p = false := Eq.trans rfl rfl
theorem LG p : X.thaw (.func 141) p = false := Eq.trans rfl rfl
theorem LH p : X.thaw (.func 142) p = false := Eq.trans rfl rfl
theorem LI p : X.thaw (.func 143) p = false := Eq.trans rfl rfl
theorem LJ p : X.thaw (.func 144) p = false := Eq.trans rfl rfl
theorem LK p : X.thaw (.func 145) p = false := Eq.trans rfl rfl
theorem LL p : X.thaw (.func 146) p = false := Eq.trans rfl rfl
theorem LM p : X.thaw (.func 151) p = false := Eq.trans rfl rfl
theorem LN p : X.thaw (.func 152) p = false := Eq.trans rfl rfl
theorem LO p : X.thaw (.func 153) p = false := Eq.trans rfl rfl
theorem LP p : X.thaw (.func 154) p = false := Eq.trans rfl rfl
theorem FY : X.thaw (.func 155) "design.go:190" = true := by kernel_rfl
theorem FZ : X.thaw (.func 155) "design.go:210" = true := by kernel_rfl
theorem LQ p : X.thaw (.func 156) p = false := Eq.trans rfl rfl
theorem LR p : X.thaw (.func 157) p = false := Eq.trans rfl rfl
theorem LS p : X.thaw (.func 158) p = false := Eq.trans rfl rfl
theorem LT p : X.thaw (.func 159) p = false := Eq.trans rfl rfl
theorem LU p : X.thaw (.func 160) p = false := Eq.trans rfl rfl
theorem LV p : X.thaw (.func 161) p = false := Eq.trans rfl rfl
theorem LW p : X.thaw (.func 163) p = false := Eq.trans rfl rfl
theorem LX p : X.thaw (.func 164) p = false := Eq.trans rfl rfl
theorem LY p : X.thaw (.func 165) p = false := Eq.trans rfl rfl
theorem LZ p : X.thaw (.func 166) p = false := Eq.trans rfl rfl
theorem L1 p : X.thaw (.func 167) p = false := Eq.trans rfl rfl
theorem L2 p : X.thaw (.func 168) p = false := Eq.trans rfl rfl
theorem L3 p : X.thaw (.func 169) p = false := Eq.trans rfl rfl
theorem L4 p : X.thaw (.func 170) p = false := Eq.trans rfl rfl
theorem L5 p : X.thaw (.func 171) p = false := Eq.trans rfl rfl
theorem L6 p : X.thaw (.func 172) p = false := Eq.trans rfl rfl
theorem L7 p : X.thaw (.func 173) p = false := Eq.trans rfl rfl
theorem L8 p : X.thaw (.func 174) p = false := Eq.trans rfl rfl
theorem L9 p : X.thaw (.func 175) p = false := Eq.trans rfl rfl
theorem Ma p : X.thaw (.func 176) p = false := Eq.trans rfl rfl
theorem Mb p : X.thaw (.func 177) p = false := Eq.trans rfl rfl
theorem Mc p : X.thaw (.func 178) p = false := Eq.trans rfl rfl
theorem Md p : X.thaw (.func 179) p = false := Eq.trans rfl rfl
theorem Me p : X.thaw (.func 180) p = false := Eq.trans rfl rfl
theorem Mf p : X.thaw (.func 183) p = false := Eq.trans rfl rfl
theorem Mg p : X.thaw (.func 184) p = false := Eq.trans rfl rfl
theorem Mh p : X.thaw (.func 185) p = false := Eq.trans rfl rfl
theorem Mi p : X.thaw (.func 186) p = false := Eq.trans rfl rfl
theorem Mj p : X.thaw (.func 187) p = false := Eq.trans rfl rfl
theorem Ml p : X.thaw (.func 188) p = false := Eq.trans rfl rfl
theorem Mm p : X.thaw (.func 189) p = false := Eq.trans rfl rfl
theorem Mn p : X.thaw (.func 190) p = false := Eq.trans rfl rfl
theorem Mo p : X.thaw (.func 191) p = false := Eq.trans rfl rfl
theorem Mp p : X.thaw (.func 192) p = false := Eq.trans rfl rfl
theorem Mq p : X.thaw (.func 193) p = false := Eq.trans rfl rfl
theorem Mr p : X.thaw (.func 194) p = false := Eq.trans rfl rfl
theorem Ms p : X.thaw (.func 195) p = false := Eq.trans rfl rfl
theorem Mt p : X.thaw (.func 196) p = false := Eq.trans rfl rfl
theorem Mu p : X.thaw (.func 197) p = false := Eq.trans rfl rfl
theorem Mv p : X.thaw (.func 198) p = false := Eq.trans rfl rfl
theorem Mw p : X.thaw (.func 199) p = false := Eq.trans rfl rfl
theorem Mx p : X.thaw (.func 200) p = false := Eq.trans rfl rfl
theorem My p : X.thaw (.func 201) p = false := Eq.trans rfl rfl
theorem Mz p : X.thaw (.func 202) p = false := Eq.trans rfl rfl
theorem MA p : X.thaw (.func 203) p = false := Eq.trans rfl rfl
theorem MB p : X.thaw (.func 204) p = false := Eq.trans rfl rfl
theorem MC p : X.thaw (.func 205) p = false := Eq.trans rfl rfl
theorem MD p : X.thaw (.func 206) p = false := Eq.trans rfl rfl
theorem ME p : X.thaw (.func 207) p = false := Eq.trans rfl rfl
theorem MF p : X.thaw (.func 208) p = false := Eq.trans rfl rfl
theorem MG p : X.thaw (.func 209) p = false := Eq.trans rfl rfl
theorem MH p : X.thaw (.func 210) p = false := Eq.trans rfl rfl
theorem MI p : X.thaw (.func 211) p = false := Eq.trans rfl rfl
theorem MJ p : X.thaw (.func 212) p = false := Eq.trans rfl rfl
theorem MK p : X.thaw (.func 213) p = false := Eq.trans rfl rfl
theorem ML p : X.thaw (.func 214) p = false := Eq.trans rfl rfl
theorem MM p : X.thaw (.func 215) p = false := Eq.trans rfl rfl
theorem MN p : X.thaw (.func 216) p = false := Eq.trans rfl rfl
theorem MO p : X.thaw (.func 217) p = false := Eq.trans rfl rfl
theorem MP p : X.thaw (.func 218) p = false := Eq.trans rfl rfl
theorem MQ p : X.thaw (.func 219) p = false := Eq.trans rfl rfl
theorem MR p : X.thaw (.func 220) p = false := Eq.trans rfl rfl
theorem MS p : X.thaw (.func 221) p = false := Eq.trans rfl rfl
theorem MT p : X.thaw (.func 222) p = false := Eq.trans rfl rfl
theorem MU p : X.thaw (.func 223) p = false := Eq.trans rfl rfl
theorem MV p : X.thaw (.func 234) p = false := Eq.trans rfl rfl
theorem MW p : X.thaw (.func 235) p = false := Eq.trans rfl rfl
theorem MX p : X.thaw (.func 236) p = false := Eq.trans rfl rfl
theorem MY p : X.thaw (.func 237) p = false := Eq.trans rfl rfl
theorem MZ p : X.thaw (.func 238) p = false := Eq.trans rfl rfl
theorem M0 p : X.thaw (.func 239) p = false := Eq.trans rfl rfl
attribute [push_cast] false_and and_false Ik xP Il sz0 by0 ag0 sz1 by1 ze1 ag1 sz2 by2 ze2 ag2 sz3 by3 ze3 ag3 sz4 by4 ze4 ag4 sz5 by5 ze5 ag5 sz6 by6 ze6 ag6 sz9 by9 ze9 ag9 sz20 by20 ze20 ag20 sz22 by22 ze22 ag22 el22 sz23 by23 ze23 ag23 el23 sz24 by24 ze24 ag24 el24 sz25 by25 ze25 ag25 el25 sz26 by26 ze26 ag26 el26 sz27 by27 ze27 ag27 el27 sz29 by29 ze29 ag29 sz30 by30 ze30 ag30 el30 sz35 by35 ze35 ag35 sz36 by36 ag36 sz40 by40 ze40 ag40 el40 sz41 by41 ag41 sz44 by44 ze44 ag44 sz57 by57 ze57 ag57 el57 sz58 by58 ag58 sz67 by67 ag67 sz70 by70 ag70 sz72 by72 ze72 ag72 el72 sz74 by74 ze74 ag74 sz77 by77 ze77 ag77 sz80 by80 ze80 ag80 sz97 by97 ag97 Im In Io Ip Iq Ir Is It Iu Iv Iw Ix Iy Iz IA IB IC ID IE IF IG IH II IJ IK IL IM IN IO IP IR IS IT IU IV IX IY IZ I0 I1 I2 I3 I4 I5 I6 I7 I8 I9 Ja Jb Jc Jd Je Jf Jg Jh Ji Jj Jk Jl Jm Jn Jo Jp Jq Jr Js Jt Ju Jv Jw Jy Jz JA JB JC JD JE JF JG JH JI JJ JK JL JM JN JO JP JQ JR JS JT JU JV JW JX JY JZ J0 J1 J5 J6 J7 J8 Ka Kb Kc Kd Ke Kf Kg Kh Ki Kj Kk Kl Km Kn Ko Kq Kr Ks Kt Ku Kv Kw Kx Ky Kz KA KB KC KD KE KF KG KH KI KJ KK KL KM KN KO KP KQ KR KS KT KU KV KW KX KY KZ K0 xk8 xk11 xk12 xk13 xk14 xk15 xk16 xk17 xk19 xk20 xk21 xk24 xk25 xk26 xk27 xk28 xk29 xk30 xk31 xk32 xk33 xk35 xk36 xk38 xk40 xk44 xk45 xk48 xk49 xk54 xk57 xk58 xk59 xk60 xk61 xk62 xk63 xk64 xk65 xk66 xk67 xk68 xk69 xk70 xk71 xk72 xk73 xk74 xk75 xk76 xk78 xk79 xk80 xk81 xk82 xk83 xk84 xk85 xk86 xk87 xk89 xk90 xk91 xk92 xk93 xk94 xk95 xk96 xk97 xk98 xk99 CL CM CN CO CP CQ CR CS CT CU CV CW CX CY CZ C0 C1 C2 C3 C4 C5 C6 C7 C8 C9 Da Db Dc Dd De Df vH Dg Dh Di Dj Dk Dl Dm Dn Do Dp Dr Ds Dt Du Dv Dw fD Dx Dy Dz DA DB DC DD DE DF DG DH DI DJ DK DL DM DN zg DO DP DQ K1 DR DS DT DU K2 DV DW DX DY DZ D0 D1 D2 D3 D4 D5 D6 D7 D8 D9 Ea Eb Ec Ed Ee Ef Eg Eh Ei Ej Ek El Em En Eo Ep Er Es Et Eu Ew Ey Ez EA EB EC ED xtt xt8 xt11 xt12 xt13 xt14 Hf Hg Hh Hi Hj Hl Hm Hn Ho Hq FS FT FU FV FW FX xt16 xt17 xt19 xt20 xt21 xt24 xt25 xt26 xt27 xt28 xt29 xt30 xt31 xt32 xt33 xt35 xt36 xt38 xt40 xt44 xt45 xt48 xt49 xt54 xt57 xt58 xt59 xt60 xt61 xt62 xt63 xt64 xt65 xt66 xt67 xt68 xt69 xt70 xt71 xt72 xt73 xt74 xt75 xt76 xt77 xt78 xt79 xt80 xt81 xt82 xt83 xt84 xt85 xt86 xt87 xt89 xt90 xt91 xt92 xt93 xt94 xt95 xt96 xt97 xt98 xt99 K3 K4 K5 K6 K7 K8 K9 La Lb Lc Ld Le Lf Lg Lh Li Lj Lk Ll Lm Ln Lo Lq Lr Ls Lt Lu Lv Lw Lx Ly Lz LA LB LC LD LE LF LG LH LI LJ LK LL LM LN LO LP FY FZ LQ LR LS LT LU LV LW LX LY LZ L1 L2 L3 L4 L5 L6 L7 L8 L9 Ma Mb Mc Md Me Mf Mg Mh Mi Mj Ml Mm Mn Mo Mp Mq Mr Ms Mt Mu Mv Mw Mx My Mz MA MB MC MD ME MF MG MH MI MJ MK ML MM MN MO MP MQ MR MS MT MU MV MW MX MY MZ M0
attribute [push_cast] Tryz.underlying0 Tryz.underlying1 Tryz.underlying2 Tryz.underlying3 Tryz.underlying4 Tryz.underlying5 Tryz.underlying6 Tryz.underlying9 Tryz.underlying20 Tryz.underlying22 Tryz.underlying23 Tryz.underlying24 Tryz.underlying25 Tryz.underlying26 Tryz.underlying27 Tryz.underlying29 Tryz.underlying30 Tryz.underlying35 Tryz.underlying36 Tryz.underlying40 Tryz.underlying41 Tryz.underlying44 Tryz.underlying57 Tryz.underlying58 Tryz.underlying67 Tryz.underlying70 Tryz.underlying72 Tryz.underlying74 Tryz.underlying77 Tryz.underlying80 Tryz.underlying97 Tryz.underlying102 Tryz.underlying104 Tryz.underlying106 Tryz.underlying108 Tryz.underlying110 Tryz.underlying112 Tryz.underlying114 Tryz.underlying115 Tryz.underlying122 Tryz.underlying129 Tryz.underlying137 Tryz.underlying138 Tryz.underlying142 Tryz.underlying144 Tryz.underlying145 Tryz.underlying153 Tryz.underlying155 Tryz.underlying158 Tryz.underlying159 Tryz.underlying162 Tryz.underlying167 Tryz.underlying168 Tryz.underlying170 Tryz.underlying173 Tryz.underlying174 Tryz.underlying186 Tryz.underlying187 Tryz.underlying190 Tryz.underlying191 Tryz.underlying192 Tryz.underlying198 Tryz.underlying205 Tryz.underlying206 Tryz.underlying208 Tryz.underlying209 Tryz.underlying214 Tryz.underlying217 Tryz.underlying222 Tryz.underlying242
section
variable {cx : Cx} {fx : Fx} {ops : Array Oper} {ρ : Env} {H : Heap}
theorem yw0 {id : Nat} (ord : List Nat) {Q : Ex → Env → Heap → Prop} (h : EvT cx fx ops ord ρ H fun _ ρ' H' => Q .normal ρ' H') (hc : canon ops = ord := by kernel_rfl) (hd : drawOk ops ord = true := by kernel_rfl) (hp : chkPairs cx.P ops (anc ops) ord = [] := by kernel_rfl) : Ev cx fx (.region id ops true) ρ H Q := z50 hc hd hp h
theorem yw1 {id : Nat} (ord : List Nat) (ps : List (Nat × Nat)) {Q : Ex → Env → Heap → Prop} (h : EvT cx fx ops ord ρ H (ChkK cx.P ops ord ps (Q .normal))) (hc : canon ops = ord := by kernel_rfl) (hd : drawOk ops ord = true := by kernel_rfl) (hp : chkPairs cx.P ops (anc ops) ord = ps := by kernel_rfl) : Ev cx fx (.region id ops true) ρ H Q := z51 hc hd hp h
end
theorem yw2 {cx : Cx} {f N : Nat} {fn : Func} {c : Code} {bs : List Nat} {args args' : List V} {H : Heap} {v : V} {H' : Heap} {rs : List ResultVar} (hk : cx.keep f = false) (hf : cx.P.funcs[f]? = some fn) (h : Ev cx ⟨N, H.length :: bs⟩ c (fr args') H (Leaf cx rs H.length v H')) (hb : fn.body = some c := by rfl)
  (hN : args.length + (fn.ntmps - args.length) = N := by rfl) (hr : fn.results.toList = rs := by rfl) (ha : args.map V.norm = args' := by simp only [seval, push_cast, List.map_cons, List.map_nil, V.norm, ju]; rfl) : callw cx bs f args H = some (v, H') := Fp hk hf hb hN hr ha h
theorem yw3 {p : Prop} (h : p := by (simp only [seval, push_cast, *] <;> rfl)) : p := h
def oz0 : List Nat := [0, 1, 2, 3, 4, 5, 6, 7]
def oz1 : List Nat := [0, 1, 2, 3, 4, 5, 6, 7, 8]
def oz2 : List Nat := [0, 1, 2, 3, 4, 5, 6, 7, 8, 9]
def oz3 : List (Nat × Nat) := [(2, 6)]
def oz4 : List Nat := [0, 1, 2, 3, 4, 5]
def oz5 : List Nat := [0, 1, 2, 3, 4, 5, 6]
def oz6 : List Nat := [0, 1, 2, 3, 4, 5, 6, 7, 8, 9, 10, 11]
def oz7 : List Nat := [0, 1, 2, 3, 4, 5, 7, 8, 9, 10, 11, 12, 6, 13, 14, 15, 16]
def oz8 : List (Nat × Nat) := [(8, 12), (11, 12)]
def oz9 : List Nat := [0, 1, 2, 3, 4, 5, 8, 9, 10, 6, 7, 11, 12]
def oz10 : List (Nat × Nat) := [(2, 9), (8, 9)]
def oz11 : List Nat := [0, 1, 2, 3, 4, 7, 5, 6, 8, 9]
def oz12 : List Nat := [0, 1, 2, 3, 4, 5, 7, 9, 6, 8, 10, 11]
def oz13 : List Nat := [0, 1, 2, 3, 4, 5, 8, 6, 7, 9, 10]
def oz14 : List (Nat × Nat) := [(2, 7)]
def oz15 : List (Nat × Nat) := [(1, 5)]
def oz16 : List Nat := [0, 1, 2, 3, 4, 5, 6, 7, 8, 9, 10, 11, 12, 13, 14, 15, 16, 17, 18]
def oz17 : List (Nat × Nat) := [(9, 14)]
def oz18 : List Nat := [0, 1, 6, 2, 3, 4, 5, 7]
def oz19 : List (Nat × Nat) := [(0, 3), (2, 3), (2, 4)]
def oz20 : List Nat := [0, 1, 2, 3, 4, 5, 6, 7, 8, 9, 10]
def oz21 : List (Nat × Nat) := [(3, 6), (3, 7)]
def oz22 : List Nat := [0, 1, 2, 4, 5, 6, 9, 10, 11, 12, 3, 7, 8, 13, 14, 15, 16]
def oz23 : List (Nat × Nat) := [(3, 10), (5, 10), (7, 10), (7, 11), (7, 12)]
def oz24 : List Nat := [0, 1, 2, 4, 5, 8, 9, 3, 6, 7, 10, 11, 12, 13, 14]
def oz25 : List (Nat × Nat) := [(4, 7), (6, 7), (6, 8), (6, 9)]
def oz26 : List Nat := [0, 1, 4, 5, 2, 3, 6, 7, 8, 9, 10]
def oz27 : List (Nat × Nat) := [(3, 4), (3, 5)]
def oz28 : List Nat := [0, 1, 2, 3, 4, 5, 7, 8, 10, 11, 12, 6, 9, 13, 14, 15, 16]
def oz29 : List (Nat × Nat) := [(8, 11), (8, 12), (9, 11), (9, 12), (10, 11), (10, 12)]
def oz30 : List Nat := [0, 1, 2, 3, 4, 5, 6, 7, 8, 9, 10, 11, 12, 14, 15, 16, 17, 18, 19, 20, 21, 22, 23, 24, 25, 26, 27, 13, 28, 29, 30]
def oz31 : List (Nat × Nat) := [(19, 27), (22, 27), (25, 27), (26, 27)]
def oz32 : List Nat := [0, 1, 3, 4, 6, 7, 2, 9, 5, 8, 10, 11, 12, 13, 14]
def oz33 : List (Nat × Nat) := [(3, 6), (5, 6), (5, 8)]
def oz34 : List Nat := [0, 1, 2, 3, 4, 5, 6, 7, 8, 9, 10, 11, 12, 13, 14, 15, 16, 17]
def oz35 : List (Nat × Nat) := [(3, 14), (7, 14)]
def oz36 : List Nat := [0, 1, 2, 4, 5, 6, 8, 9, 3, 7, 10, 11, 12, 13, 14]
def oz37 : List (Nat × Nat) := [(3, 8), (5, 8), (7, 8), (7, 9)]
def oz38 : List Nat := [0, 1, 2, 3, 4, 5, 6, 7, 8, 9, 10, 11, 12, 13, 14]
def oz39 : List Nat := [0, 1, 2, 3, 4, 5, 6, 7, 8, 9, 10, 11, 12]
def oz40 : List Nat := [0, 1, 4, 5, 6, 9, 2, 3, 7, 8, 10, 11, 12]
def oz41 : List Nat := [0, 1, 2, 4, 5, 6, 8, 9, 3, 7, 10, 11, 12, 13]
def oz42 : List (Nat × Nat) := [(4, 8), (6, 8), (6, 9)]
def oz43 : List Nat := [0, 1, 2, 3, 5, 6, 7, 9, 4, 8, 10, 11, 12, 13]
def oz44 : List (Nat × Nat) := [(0, 8), (0, 9), (0, 11)]
def oz45 : List Nat := [0, 1, 2, 3, 4, 5, 6, 8, 9, 10, 11, 12, 13, 7, 14, 15, 16]
def oz46 : List (Nat × Nat) := [(11, 13), (12, 13)]
def oz47 : List Nat := [0, 1, 4, 5, 6, 7, 2, 3, 8, 9, 10, 11, 12]
def oz48 : List Nat := [0, 1, 2, 4, 5, 6, 3, 7, 8, 9, 10, 11]
def oz49 : List Nat := [0, 1, 2, 3, 4, 7, 8, 9, 10, 11, 5, 6, 12, 13, 14, 15, 16, 17]
def oz50 : List Nat := [0, 1, 3, 4, 6, 7, 2, 5, 8, 9, 10, 11]
def oz51 : List (Nat × Nat) := [(2, 6), (4, 6), (4, 7)]
def oz52 : List Nat := [0, 1, 2, 3, 4, 5, 6, 7, 8, 9, 10, 11, 12, 13, 14, 15, 16, 17, 18, 19, 20]
def oz53 : List Nat := [0, 1, 2, 3, 4, 5, 6, 7, 8, 9, 10, 11, 12, 13, 14, 15]
def oz54 : List Nat := [0, 1, 2, 3, 4, 5, 6, 7, 8, 9, 10, 11, 12, 13]
def oz55 : List Nat := [0, 1, 2, 3, 4, 5, 8, 9, 10, 6, 7, 11, 12, 13, 14, 15, 16, 17, 18, 19, 20, 21]
def oz56 : List Nat := [0, 1, 2, 3, 4, 5, 6, 7, 8, 9, 10, 11, 12, 13, 14, 15, 16]
end Go.E
namespace Go.E
open Go.Proofs Go.RowKit
set_option maxRecDepth 100000
theorem F0 (w : World) : Sim [] (G.all w) [] w where
 bl := by simp
 srt := by simp
 dom := by simp [G.all]
 obj := by simp [G.all]
 und := by simp
 old := by simp [G.all]
theorem AI {w w' : World} {g' : G} (h : Ext (G.all w) w g' w') : Below w.heap.size w w' :=
 ⟨h.os, h.tape, h.output, h.size, fun k hk => (h.free k hk (fun o id => by simp [G.all, hk])).1⟩
theorem AJ {w : World} : ArgsR (G.all w) w [] [] := ⟨rfl, fun j x x' h1 h2 => by simp at h1⟩
theorem pk {w : World} {x : V} {v : Value} {xs : List V} {vs : List Value} (h : VRel (G.all w) w x v) (t : ArgsR (G.all w) w xs vs) : ArgsR (G.all w) w (x :: xs) (v :: vs) := by
 refine ⟨by simp [t.1], fun j y y' h1 h2 => ?_⟩
 cases j with
 | zero => simp at h1 h2; subst h1; subst h2; exact h
 | succ j => simp at h1 h2; exact t.2 j y y' h1 h2
theorem F1 {w : World} {cs : List V} {vs : Array Value} (h : RowV w cs vs.toList) : VRel (G.all w) w (.agg cs) (.agg vs) :=
 .agg _ _ (by rw [h.1]; simp) (fun k v v' hk hv => h.2 k v v' hk (by simpa using hv))
theorem yy {w : World} {x : V} {v : Value} (h : RowV w [x] [v]) : VRel (G.all w) w x v := h.2 0 x v rfl rfl
theorem oB : Tryz.prog.follows .mixedOrders = true := by kernel_rfl
theorem AK : (Tryz.prog.funcs.toList.all fun fn => decide (fn.name ≠ "runtime.NumGoroutine")) = true := by kernel_rfl
theorem noNum (f : Nat) (fn : Func) (h : Tryz.prog.funcs[f]? = some fn) : fn.name ≠ "runtime.NumGoroutine" := by
 have h1 := List.all_eq_true.1 AK fn (List.mem_of_getElem? (i := f) (by simpa using h))
 exact of_decide_eq_true h1
end Go.E
namespace Go.E
theorem Hr : IterOk X := by
 intro gf caps l hit
 have hit' : iterB [] gf caps = some l := hit
 unfold iterB at hit'
 split at hit'
 ·split at hit' <;> simp_all
 ·cases hit'
end Go.E
namespace Go.E
def firstL : List Int → Int
 | [] => 0
 | e :: r => if e ≠ 0 then e else firstL r
def badAt (i : Nat) (c : Int) : Bool :=
 !(decide (97 ≤ c) && decide (c ≤ 122) || decide (65 ≤ c) && decide (c ≤ 90)) && (decide (i = 0) || decide (c ≠ 95) && !(decide (48 ≤ c) && decide (c ≤ 57)))
def badIn : Nat → List UInt8 → Bool
 | _, [] => false
 | i, b :: r => badAt i b.toNat || badIn (i + 1) r
def isNameS (s : ByteArray) : Bool := !badIn 0 s.data.toList && (decide ((1 : Int) ≤ s.size) && decide ((s.size : Int) ≤ 16))
theorem AL (b : UInt8) : IntKind.i64.wrap ((b.toNat : Nat) : Int) = b.toNat := by have := b.toNat_lt; rw [bi] <;> omega
theorem idx0 (i : Nat) : decide ((i : Int) = 0) = decide (i = 0) := by congr 1; simp
attribute [push_cast] indexV convV AL
def namesM (ns : List ByteArray) : List (V × V) := ns.map fun s => (.str s, .bool true)
def addName (s : ByteArray) : List ByteArray → List ByteArray
 | [] => [s]
 | t :: r => if s = t then s :: r else t :: addName s r
def hasName (s : ByteArray) : List ByteArray → Bool
 | [] => false
 | t :: r => decide (s = t) || hasName s r
theorem tr (s : ByteArray) : ∀ ns : List ByteArray, findV (.str s) (namesM ns) = some (if hasName s ns = true then some (.bool true) else none)
 | [] => rfl
 | t :: r => by
  have ih := tr s r
  simp only [namesM, List.map_cons, findV, keyEq, hasName] at ih ⊢
  by_cases h : s = t
  ·simp [h]
  ·simp [h, ih]
theorem uO (s : ByteArray) : ∀ ns : List ByteArray, putV (.str s) (.bool true) (namesM ns) = namesM (addName s ns)
 | [] => rfl
 | t :: r => by
  have ih := uO s r
  simp only [namesM, List.map_cons, putV, keyEq, addName] at ih ⊢
  by_cases h : s = t
  ·simp [h]
  ·simp [h, ih]
def nameErr (ns : List ByteArray) (s : ByteArray) : Int := firstL [if isNameS s = true then 0 else 4, if hasName s ns = true then 5 else 0]
structure Port where
 name : ByteArray
 width : Int
def encPort (p : Port) : V := .agg [.str p.name, .int .i64 p.width]
structure Reg where
 name : ByteArray
 width : Int
 init : Int
 enable : Int
 next : Int
structure Node where
 op : Int
 width : Int
 args : List Int
 value : Int
def encInt (n : Int) : V := .int .i64 n
def encInts (l : List Int) : V := .list (l.map (.int .i64))
def encNode (x : Node) : V := .agg [.int .i64 x.op, .int .i64 x.width, encInts x.args, .int .i64 x.value]
structure Outp where
 name : ByteArray
 node : Int
def encOutp (o : Outp) : V := .agg [.str o.name, .int .i64 o.node]
structure Netl where
 name : ByteArray
 inputs : List Port
 regs : List Reg
 nodes : List Node
 outs : List Outp
attribute [push_cast] encPort encInt encInts encNode encOutp
theorem uP (k : IntKind) (l : List Int) : V.pureL (l.map (.int k)) = true := qB fun _ => rfl
attribute [push_cast] uP
theorem F2 (k : IntKind) (l : List Int) : (l.map (V.int k)).all (fun e => e.cells.length == 1) = true := lD fun _ => rfl
theorem pm (n : Nat) (h : n ≤ 1000000) : (n + 1) * 8 ≤ roomB := by unfold roomB; omega
attribute [push_cast] F2 appendV elemsV firstL
def eachL {α S : Type} (g : Nat → α → S → Int × S) : Nat → List α → S → (Int × Int) × S
 | _, [], s => ((0, 0), s)
 | i, x :: r, s => if (g i x s).1 ≠ 0 then (((i : Int), (g i x s).1), (g i x s).2) else eachL g (i + 1) r (g i x s).2
def eachP {α : Type} (g : Nat → α → Int) : Nat → List α → Int × Int
 | _, [] => (0, 0)
 | i, x :: r => if g i x ≠ 0 then ((i : Int), g i x) else eachP g (i + 1) r
theorem tT {α : Type} (g : Nat → α → Int) : ∀ (l : List α) (i : Nat), eachL (fun i x (u : Unit) => (g i x, u)) i l () = (eachP g i l, ())
 | [], _ => rfl
 | x :: r, i => by
  simp only [eachL, eachP]
  split
  ·rfl
  ·exact tT g r (i + 1)
def Does (X : Cx) {α S : Type} (enc : α → V) (HS : S → Heap) (fid : Nat) (caps : List V) (g : Nat → α → S → Int × S) (l : List α) : Prop :=
 ∀ (bs : List Nat) (i : Nat) (x : α) (s : S) (junk : Heap), l[i]? = some x → callw X bs fid (.int .i64 i :: enc x :: caps) (HS s ++ junk) = some (.int .i64 (g i x s).1, HS (g i x s).2 ++ junk)
end Go.E
namespace Go.E
def idxF {α : Type} (p : α → Bool) : Int → List α → Int
 | _, [] => -1
 | i, x :: r => if p x = true then i else idxF p (i + 1) r
theorem wB {α : Type} (p : α → Bool) : ∀ (l : List α) (i : Int), 0 ≤ i → decide (idxF p i l ≥ 0) = l.any p
 | [], i, _ => by simp [idxF]
 | x :: r, i, h => by
  simp only [idxF, List.any_cons]
  by_cases hp : p x = true
  ·simp [hp, h]
  ·have := wB p r (i + 1) (by omega)
   simp only [Bool.not_eq_true] at hp
   simp only [hp, Bool.false_eq_true, if_false, Bool.false_or]; exact this
def shl1 (n : Int) : Int := IntKind.i64.wrap (1 * 2 ^ (min n.toNat 64))
def fitsG (n width : Int) : Bool := decide (width ≥ 0) && (decide (0 ≤ n) && decide (n ≤ IntKind.i64.wrap (shl1 width - 1)))
def isW (n : Int) : Bool := decide (1 ≤ n) && decide (n ≤ 16)
def argC (k : Nat) : Nat := [0, 0, 1, 2, 2, 2, 2, 2, 2, 2, 2, 2, 3, 2, 1, 1, 1, 2, 2].getD k 0
def hasV (k : Nat) : Bool := [true, true, false, false, false, false, false, false, false, false, false, false, false, false, true, false, false, false, false].getD k false
def at0 (a : List Int) (i : Nat) : Int := a.getD i 0
def fitsS (k : Nat) (w : Int) (a : List Int) (v : Int) : Bool :=
 match k with
 | 0 | 1 => true
 | 2 | 3 | 4 | 5 | 6 | 7 | 8 => !(a.any fun n => decide (n ≠ w))
 | 9 | 10 | 11 => decide (w = 1) && decide (at0 a 0 = at0 a 1)
 | 12 => decide (at0 a 0 = 1) && decide (at0 a 1 = w) && decide (at0 a 2 = w)
 | 13 => decide (IntKind.i64.wrap (at0 a 0 + at0 a 1) = w)
 | 14 => decide (IntKind.i64.wrap (v + w) ≤ at0 a 0)
 | 15 | 16 => decide (at0 a 0 ≤ w)
 | _ => decide (at0 a 0 = w)
def valueErrS (leaves : List Int) (k : Nat) (x : Node) : Int :=
 if k = 0 then (if fitsG x.value x.width = true then 0 else 2)
 else if k = 1 then (if 0 ≤ x.value ∧ x.value < leaves.length then (if at0 leaves x.value.toNat = x.width then 0 else 25) else 6)
 else if k = 14 then (if (decide (0 ≤ x.value) && decide (x.value ≤ 15)) = true then 0 else 2)
 else if hasV k = true ∨ x.value = 0 then 0 else 3
def widthsOf (nodes : List Node) (a : List Int) : List Int := a.map fun n => match nodes[n.toNat]? with | some y => y.width | none => 0
def nodeErrS (leaves : List Int) (nodes : List Node) (i : Nat) (x : Node) : Int :=
 if ¬ (0 ≤ x.op ∧ x.op ≤ 18) then 15
 else if isW x.width = false then 2
 else if x.args.length ≠ argC x.op.toNat then 10
 else if x.args.any (fun n => !(decide (0 ≤ n) && decide (n ≤ (i : Int) - 1))) = true then 9
 else if valueErrS leaves x.op.toNat x ≠ 0 then valueErrS leaves x.op.toNat x
 else if fitsS x.op.toNat x.width (widthsOf nodes x.args) x.value = true then 0 else 25
def checkNodesS (leaves : List Int) (nodes : List Node) : Int × Int :=
 if 40 < leaves.length then (0, 8) else
 if (eachP (fun _ n => if isW n = true then (0 : Int) else 2) 0 leaves).2 ≠ 0 then eachP (fun _ n => if isW n = true then (0 : Int) else 2) 0 leaves
 else if 400 < nodes.length then (0, 8) else eachP (nodeErrS leaves nodes) 0 nodes
theorem iQ {α : Type} {H : List α} {i : Nat} {x : α} (h : H[i]? = some x) (l : List α) : (H ++ l)[i]? = some x := by
 rw [List.getElem?_append_left (List.getElem?_eq_some_iff.1 h).1]; exact h
end Go.E
namespace Go.E
def fitsN (n width : Int) : Bool := decide (0 ≤ n) && decide (n ≤ IntKind.i64.wrap (shl1 width - 1))
def leavesN (n : Netl) : List Int := n.inputs.map (·.width) ++ n.regs.map (·.width)
def widthAt (n : Netl) (i : Int) : Int := match n.nodes[i.toNat]? with | some y => y.width | none => 0
def firstP : List (Int × Int) → Int × Int
 | [] => (0, 0)
 | r :: l => if r.2 ≠ 0 then r else firstP l
structure Small (n : Netl) : Prop where
 name : n.name.size ≤ 1000
 inputs : n.inputs.length ≤ 1000
 regs : n.regs.length ≤ 1000
 nodes : n.nodes.length ≤ 1000
 outs : n.outs.length ≤ 1000
 inn : ∀ p ∈ n.inputs, p.name.size ≤ 1000
 rgn : ∀ r ∈ n.regs, r.name.size ≤ 1000
 otn : ∀ o ∈ n.outs, o.name.size ≤ 1000
 args : ∀ x ∈ n.nodes, x.args.length ≤ 1000
end Go.E
namespace Go.E
def isNodeL (nodes : List Node) (i : Int) : Bool := decide (0 ≤ i) && decide (i ≤ (nodes.length : Int) - 1)
def widthL (nodes : List Node) (i : Int) : Int := match nodes[i.toNat]? with | some y => y.width | none => 0
def nodesErrR (leaves : List Int) (nodes : List Node) : Int × Int := if 400 < nodes.length then (0, 8) else eachP (nodeErrS leaves nodes) 0 nodes
end Go.E
namespace Go.E
section
variable {α : Type}
def fill (f : α → V) (z : V) (l : List α) (i : Nat) : List V := (l.take i).map f ++ List.replicate (l.length - i) z
theorem B1 (f : α → V) (z : V) (l : List α) (i : Nat) (h : i ≤ l.length) : (fill f z l i).length = l.length := by simp [fill]; omega
theorem pn (f : α → V) (z : V) (l : List α) (i : Nat) (h : i < l.length) : (fill f z l i)[i]? = some z := by
 unfold fill
 rw [List.getElem?_append_right (by simp; omega)]
 simp [List.getElem?_replicate]; omega
theorem kM (f : α → V) (z : V) (l : List α) (i : Nat) (x : α) (h : l[i]? = some x) : (fill f z l i).set i (f x) = fill f z l (i + 1) := by
 obtain ⟨hlt, rfl⟩ := List.getElem?_eq_some_iff.1 h
 unfold fill
 rw [List.set_append_right _ _ (by simp; omega), List.take_add_one]
 have h1 : i - ((l.take i).map f).length = 0 := by simp; omega
 have h2 : l.length - i = (l.length - (i + 1)) + 1 := by omega
 rw [h1, h2, List.replicate_succ]
 simp only [List.set_cons_zero, List.getElem?_eq_getElem hlt, Option.toList_some, List.map_append, List.map_cons, List.map_nil, List.append_assoc, List.singleton_append]
theorem uQ (f : α → V) (z : V) (l : List α) (i : Nat) (x : α) (h : l[i]? = some x) : (fill f z l (i + 1))[i]? = some (f x) := by
 obtain ⟨hlt, _⟩ := List.getElem?_eq_some_iff.1 h
 rw [← kM f z l i x h, List.getElem?_set_self (by rw [B1 f z l i (by omega)]; omega)]
theorem uR (f : α → V) (z : V) (l : List α) (i : Nat) (x : α) (h : l[i]? = some x) : (fill f z l (i + 1)).set i (f x) = fill f z l (i + 1) := by
 rw [← kM f z l i x h, List.set_set]
theorem po (f : α → V) (z : V) (l : List α) : fill f z l l.length = l.map f := by simp [fill]
theorem tt (f : α → V) (z : V) (l : List α) : fill f z l 0 = List.replicate l.length z := by simp [fill]
end
theorem Hs (k : IntKind) (l : List Int) : List.mapM (takeElem 1) (l.map (V.int k)) = some (l.map (V.int k)) := eW fun _ => by simp [takeElem, V.norm, ju, V.cells, V.pure, V.isCell]
theorem zh (l : List Port) : List.mapM (takeElem 2) (l.map encPort) = some (l.map encPort) := eW fun _ => by simp [takeElem, encPort, V.norm, ju, V.cells, V.pure, V.pureL, V.isCell]
theorem zi (l : List Outp) : List.mapM (takeElem 2) (l.map encOutp) = some (l.map encOutp) := eW fun _ => by simp [takeElem, encOutp, V.norm, ju, V.cells, V.pure, V.pureL, V.isCell]
attribute [push_cast] Hs zh zi likeV List.headD_cons
theorem B2 {α β : Type} (f : α → β) (l : List α) : List.take l.length (l.map f) = l.map f := by rw [← List.length_map (f := f), List.take_length]
attribute [push_cast] B2 implies_true
theorem jG {n k : Nat} (h : n ≤ 1000000) (hk : k ≤ 1000) : n * k ≤ roomB := by
 have : n * k ≤ 1000000 * 1000 := Nat.mul_le_mul h hk
 unfold roomB; omega
theorem pp {n : Nat} (h : n ≤ 1000000) : (n : Int) ≤ (roomB : Nat) := by unfold roomB; omega
end Go.E
namespace Go.E
open Go.Proofs
set_option maxRecDepth 100000
set_option maxHeartbeats 4000000
noncomputable def X0 : Cx := { P := Tryz.prog, keep := fun _ => false, known := fun _ _ => none, iter := fun _ _ => none, own := fun _ => false }
theorem x0P : X0.P = Tryz.prog := rfl
theorem M1 (t : TypeId) : X0.own t = false := rfl
theorem x0t (o : Operand) (p : String) : X0.thaw o p = false := Eq.trans rfl rfl
theorem x0v (t : TypeId) (p : String) : (X0.vec t p = true) = False := propext ⟨fun h => (by cases h), False.elim⟩
attribute [push_cast] x0P M1 x0t x0v
theorem wC : IterOk X0 := by intro gf caps l h; cases h
theorem yz : FreshOk X0 := by intro f args s es h; cases h
theorem tU : KnownOk X0 := ⟨yz, vZ (fun _ _ _ => rfl), by intro f fn args v _ hk; cases hk⟩
theorem Ht (bs : List Nat) (H : Heap) (a : List Int) (ha : a.length ≤ 1000000) (c : Code) (hc : Tryz.f15.body = some c) :
  Ev X0 ⟨6, bs⟩ c (fr [V.list (a.map (.int .i64))]) H fun ex ρ H1 => ex = .ret ∧ ρ 2 = .tl (H.length + 1) (a.map (.int .i64)) ∧ H1 = H ++ [.tok 0, .tok a.length] := by
 obtain rfl := Option.some.inj hc
 clear hc
 have hroom : a.length * 8 ≤ roomB := by unfold roomB; omega
 all_goals try (refine zs ?_; repeat' first | apply zs0 | apply zs2 | (intro hc; try have hq := dq hc))
 exact ⟨rfl, yw3, by first | rfl | simp⟩
theorem mm (a : List Int) : intsOf (a.map (.int .i64)) = some a := by
 induction a with
 | nil => rfl
 | cons x r ih => simp only [List.map_cons, intsOf, ih, Option.map_some]
theorem jg : ∀ {l : List V} {a : List Int}, intsOf l = some a → l = a.map (.int .i64)
 | [], a, h => by cases h; rfl
 | v :: r, a, h => by
  cases v with
  | int k n =>
   cases k with
   | i64 =>
    simp only [intsOf, Option.map_eq_some_iff] at h
    obtain ⟨b, h1, rfl⟩ := h
    rw [jg h1]; rfl
   | _ => simp [intsOf] at h
  | _ => simp [intsOf] at h
def callRaw : CallSem := fun _ f args H =>
 match args with
 | [.list es] => if f = 15 then (intsOf es).bind fun a => if a.length ≤ 1000000 then some (.tl (H.length + 1) (a.map (.int .i64)), H ++ [.tok 0, .tok a.length]) else none else none
 | _ => none
theorem zj (hm : Tryz.prog.follows .mixedOrders = true) (hN : ∀ (f : Nat) (fn : Func), Tryz.prog.funcs[f]? = some fn → fn.name ≠ "runtime.NumGoroutine") : CallOk X0 callRaw := by
 refine ⟨yz, fun bs f args H v H' h => ?_⟩
 unfold callRaw at h
 split at h
 case h_2 => cases h
 rename_i es
 split at h
 case isFalse => cases h
 rename_i hf
 subst hf
 obtain ⟨a, h1, h2⟩ := Option.bind_eq_some_iff.1 h
 split at h2
 case isFalse => cases h2
 rename_i ha
 cases h2
 obtain rfl := jg h1
 refine ⟨⟨Tryz.f15, Tryz.func15, rfl, hN _ _ Tryz.func15⟩, fun g w args' hS hA => ?_⟩
 have hraw := Ht (H.length :: bs) H a ha _ rfl
 unfold Ev at hraw
 obtain ⟨ex, ρ', H1, e1, rfl, e3, rfl⟩ := hraw
 exact Hb (cx := X0) hm wC tU hN Tryz.func15 rfl (args := [.list (a.map (.int .i64))]) (bs := bs) (H := H) e1 (vs := [.tl (H.length + 1) (a.map (.int .i64))]) (by
  show resultsV Tryz.prog Tryz.f15 ρ' _ = _
  simp only [resultsV, Tryz.f15]
  simp [e3]) g w args' hS hA
theorem zk (bs : List Nat) (H : Heap) (a : List Int) (ha : a.length ≤ 1000000) : callRaw bs 15 [.list (a.map (.int .i64))] H = some (.tl (H.length + 1) (a.map (.int .i64)), H ++ [.tok 0, .tok a.length]) := by
 simp [callRaw, mm, ha]
theorem F3 (bs : List Nat) (H : Heap) (a b : List Int) (h : a.length + b.length ≤ 1000000) :
  evBody X0 (loopn 0) callRaw bs 77 [.list (a.map (.int .i64)), .list (b.map (.int .i64))] H = some (.list ((a ++ b).map (.int .i64)), H) := by
 have hf : X0.P.funcs[77]? = some Tryz.f77 := Tryz.func77
 obtain ⟨c, hb⟩ : ∃ c, Tryz.f77.body = some c := ⟨_, rfl⟩
 have hcr := fun bs H => zk bs H a (by omega)
 have hroom : (a.length + b.length) * 8 ≤ roomB := by unfold roomB; omega
 unfold evBody
 simp only [hf, hb]
 rw [if_neg (by simp [X0])]
 obtain rfl := Option.some.inj hb
 clear hb hf
 have hn : Tryz.f77.ntmps = 9 := rfl
 have hr : Tryz.f77.results.toList = [.tmp 4] := rfl
 have e : (fun i => [V.list (a.map (.int .i64)), V.list (b.map (.int .i64))].getD i V.undef) = fr [V.list (a.map (.int .i64)), V.list (b.map (.int .i64))] := rfl
 simp only [List.map_cons, List.map_nil, V.norm, ju]
 rw [e]
 have hg : ∀ x y z : HObj, (H ++ [x, y, z])[H.length + 1 + 1]? = some z := fun x y z => by simp [Nat.add_assoc]
 have hs : ∀ x y z u : HObj, (H ++ [x, y, z]).set (H.length + 1 + 1) u = H ++ [x, y, u] := fun x y z u => by rw [List.set_append_right _ _ (by omega)]; simp [Nat.add_assoc]
 simp only [seval, push_cast, evCode, evOps, evOper, hcr, hroom, hn, hr, resultsV, List.mapM_cons, List.mapM_nil, hg, hs]
 simp [frz, packV, V.pure]
theorem Hu (f : Nat) (h : X.keep f = true) : f = 154 ∨ f = 155 ∨ f = 77 ∨ f = 147 := by
 have h' : knownB [(154, 1)] [(155, 1)] [77, 147] f = true := h
 simp only [knownB, List.lookup, Bool.or_eq_true] at h'
 rcases h' with h' | h' | h'
 ·split at h'
  ·rename_i hq; exact .inl (of_decide_eq_true hq)
  ·cases h'
 ·split at h'
  ·rename_i hq; exact .inr (.inl (of_decide_eq_true hq))
  ·cases h'
 ·simp at h'; exact .inr (.inr h')
theorem F4 (hm : Tryz.prog.follows .mixedOrders = true) (hN : ∀ (f : Nat) (fn : Func), Tryz.prog.funcs[f]? = some fn → fn.name ≠ "runtime.NumGoroutine")
  (args : List V) (v : V) (hv : joinV args = some v) (bs : List Nat) (g : G) (w : World) (H : Heap) (args' : List Value) (hS : Sim bs g H w) (hA : ArgsR g w args args') :
  Calls Tryz.prog 77 args'.toArray w fun e w' => ∃ v' g', e = .returned v' ∧ Out bs g w H g' w' H ∧ VRel g' w' v v' := by
 unfold joinV at hv
 split at hv
 case h_2 => cases hv
 rename_i a b
 obtain ⟨x, h1, h2⟩ := Option.bind_eq_some_iff.1 hv
 obtain ⟨y, h3, h4⟩ := Option.bind_eq_some_iff.1 h2
 split at h4
 case isFalse => cases h4
 rename_i hl
 cases h4
 obtain rfl := jg h1
 obtain rfl := jg h3
 obtain ⟨_, h⟩ := (yk (cx := X0) (mf hm) wC tU hN 0 (zj hm hN)).2 bs _ _ H _ _ (F3 bs H x y hl)
 exact h g w args' hS hA
end Go.E
namespace Go.E
open Go.Proofs
set_option maxRecDepth 100000
set_option maxHeartbeats 4000000
theorem zl (bs : List Nat) (H : Heap) (L es : List V) (h0 : binOpV Tryz.prog .eql 122 (.list L) .nilS = some (.bool false)) (h1 : List.mapM (takeElem 1) L = some es) (h2 : es.length * 8 ≤ roomB) (h3 : V.pureL es = true) :
  callw X0 bs 155 [.list L] H = some (.list es, H) := by
 refine yw2 (rs := [.tmp 2]) (N := 8) (fn := Tryz.f155) rfl Tryz.func155 ?_
 have x1 : X0.P = Tryz.prog := rfl
 all_goals try (refine zs ?_; repeat' first | apply zs0 | apply zs2 | (intro hc; try have hq := dq hc))
end Go.E
namespace Go.E
theorem aj : namesM [] = [] := rfl
attribute [push_cast] aj
theorem tV {cx : Cx} {bs : List Nat} {f : Nat} {fn : Func} {c : Code} {args : List V} {H : Heap} {v : V} (hf : cx.P.funcs[f]? = some fn) (hb : fn.body = some c) (hk : cx.keep f = true) (h : cx.known f (args.map V.norm) = some v) :
  callw cx bs f args H = some (v, H) := by
 refine th ?_
 unfold evBody
 simp only [hf, hb, hk, if_true, h, Option.map_some]
theorem F5 (l : List Int) : (l.map (V.int .i64)).all (fun e => e.cells.length == 1 && e.cells.all V.isCell) = true := by
 rw [List.all_eq_true]
 intro e he
 obtain ⟨i, _, rfl⟩ := List.mem_map.1 he
 rfl
end Go.E
namespace Go.E
open Go.Proofs
theorem tW (bs : List Nat) (H : Heap) (a b : List Int) (h : a.length + b.length ≤ 1000000) :
  callw X bs 77 [.list (a.map (.int .i64)), .list (b.map (.int .i64))] H = some (.list ((a ++ b).map (.int .i64)), H) := by
 refine tV (fn := Tryz.f77) Tryz.func77 rfl rfl ?_
 show joinV [.list (a.map (.int .i64)), .list (b.map (.int .i64))] = _
 simp only [joinV, mm, Option.bind_some, if_pos h]
theorem uS (a : List Int) (h0 : 0 < a.length) (h : a.length ≤ 1000000) : X.fresh 15 [.list (a.map (.int .i64))] = some (1, a.map (.int .i64)) := by
 simp [X, freshI, mm, h0, h]
theorem uT (a : List Int) (h0 : ¬ 0 < a.length) : X.fresh 15 [.list (a.map (.int .i64))] = none := by
 cases a with
 | nil => rfl
 | cons x r => exact absurd (Nat.succ_pos _) h0
theorem lc (bs : List Nat) (H : Heap) (l : List Int) (hl : l.length ≤ 1000000) : callw X bs 15 [.list (l.map (.int .i64))] H = some (.list (l.map (.int .i64)), H) := by
 refine yw2 (rs := [.tmp 2]) (N := 6) (fn := Tryz.f15) xk15 Tryz.func15 ?_
 have h := ka (k := 8) hl (by omega)
 all_goals try (refine zs ?_; repeat' first | apply zs0 | apply zs2 | (intro hc; try have hq := dq hc))
end Go.E
namespace Go.E
open Go.Proofs
deriving instance DecidableEq for Port
deriving instance DecidableEq for Node
deriving instance DecidableEq for Outp
theorem F6 {P : Program} {d : Nat} {t : TypeId} {k : IntKind} {a b : Int} (h : P.underlying t = some (.int k)) : eqT P (d + 1) t (.int k a) (.int k b) = some (decide (a = b)) := by
 rw [eqT]
 rotate_left 2
 exact h
 simp only [if_true]; rfl
structure Elem where
 name : ByteArray
 kind : Int
 width : Int
 init : Int
 clk : Int
deriving DecidableEq
def cellsElem (x : Elem) : List V := [.str x.name, .int .i64 x.kind, .int .i64 x.width, .int .i64 x.init, .int .i64 x.clk]
def encElem (x : Elem) : V := .agg (cellsElem x)
theorem wD (x : Elem) : (encElem x).pure = true := by simp only [encElem, cellsElem, seval, push_cast]
theorem zo (l : List Elem) : List.mapM (takeElem 5) (l.map encElem) = some (l.map encElem) := eW fun x => (if_pos ⟨rfl, wD x, rfl⟩ : takeElem 5 (encElem x) = some (encElem x))
attribute [push_cast] encElem cellsElem zo
structure Wri where
 element : Int
 cond : Int
 value : Int
deriving DecidableEq
def cellsWri (x : Wri) : List V := [.int .i64 x.element, .int .i64 x.cond, .int .i64 x.value]
def encWri (x : Wri) : V := .agg (cellsWri x)
theorem rP (x : Wri) : (encWri x).pure = true := by simp only [encWri, cellsWri, seval, push_cast]
theorem wE (l : List Wri) : V.pureL (l.map encWri) = true := qB rP
theorem AM (l : List Wri) : List.mapM (takeElem 3) (l.map encWri) = some (l.map encWri) := eW fun x => (if_pos ⟨rfl, rP x, rfl⟩ : takeElem 3 (encWri x) = some (encWri x))
attribute [push_cast] encWri cellsWri wE AM
structure Rul where
 name : ByteArray
 guard : Int
 writes : List Wri
deriving DecidableEq
def cellsRul (x : Rul) : List V := [.str x.name, .int .i64 x.guard, .list (x.writes.map encWri)]
def encRul (x : Rul) : V := .agg (cellsRul x)
attribute [push_cast] encRul cellsRul
structure Attr where
 kind : Int
 rules : List Int
deriving DecidableEq
def cellsAttr (x : Attr) : List V := [.int .i64 x.kind, .list (x.rules.map (V.int .i64))]
def encAttr (x : Attr) : V := .agg (cellsAttr x)
attribute [push_cast] encAttr cellsAttr
structure Desg where
 name : ByteArray
 inputs : List Port
 elements : List Elem
 nodes : List Node
 rules : List Rul
 outs : List Outp
 attrs : List Attr
deriving DecidableEq
def cellsDesg (x : Desg) : List V := [.str x.name, .list (x.inputs.map encPort), .list (x.elements.map encElem), .list (x.nodes.map encNode), .list (x.rules.map encRul), .list (x.outs.map encOutp), .list (x.attrs.map encAttr)]
def encDesg (x : Desg) : V := .agg (cellsDesg x)
attribute [push_cast] encDesg cellsDesg
structure DStep where
 inputs : Int
 rule : Int
deriving DecidableEq
def cellsDStep (x : DStep) : List V := [.int .i64 x.inputs, .int .i64 x.rule]
def encDStep (x : DStep) : V := .agg (cellsDStep x)
theorem vv (x : DStep) : (encDStep x).pure = true := by simp only [encDStep, cellsDStep, seval, push_cast]
theorem xH (l : List DStep) : List.mapM (takeElem 2) (l.map encDStep) = some (l.map encDStep) := eW fun x => (if_pos ⟨rfl, vv x, rfl⟩ : takeElem 2 (encDStep x) = some (encDStep x))
attribute [push_cast] encDStep cellsDStep xH
theorem Hv (a b : Int) : eqT Tryz.prog 99 3 (.int .i64 a) (.int .i64 b) = some (decide (a = b)) := F6 (d := 98) Tryz.underlying3
theorem B3 (x y : DStep) : binOpV Tryz.prog .neq 102 (encDStep x) (encDStep y) = some (.bool (!decide (x = y))) := by
 have hg : Program.eqGuardType Tryz.prog Tryz.prog.depth 102 = false := by kernel_rfl
 have hs : Tryz.prog.stoodInHeld 102 = false := by kernel_rfl
 have e : decide (x = y) = ((decide (x.inputs = y.inputs) && decide (x.rule = y.rule))) := by
  cases x; cases y
  simp only [DStep.mk.injEq, Bool.decide_and]
 rw [e]
 simp only [binOpV, eqlOp, encDStep, cellsDStep, hg, Bool.false_eq_true, if_false]
 rw [eqT]
 rotate_left 2
 exact Tryz.underlying102
 simp only [hs, Bool.false_eq_true, if_false, List.toList_toArray, List.foldr_cons, List.foldr_nil, partV, ag3, sz3, List.getElem?_cons_zero, List.getElem?_cons_succ, Option.bind_some, Hv]
 by_cases h0 : x.inputs = y.inputs <;> by_cases h1 : x.rule = y.rule <;> simp [h0, h1]
structure Vals where
 inputs : List Int
 state : List Int
deriving DecidableEq
structure Tried where
 node : Int
 steps : List DStep
deriving DecidableEq
structure DVisit where
 state : List Int
 prev : Int
 step : DStep
deriving DecidableEq
def cellsDVisit (x : DVisit) : List V := [.list (x.state.map (V.int .i64)), .int .i64 x.prev, .int .i64 x.step.inputs, .int .i64 x.step.rule]
def encDVisit (x : DVisit) : V := .agg (cellsDVisit x)
theorem tX (x : DVisit) : (encDVisit x).pure = true := by simp only [encDVisit, cellsDVisit, seval, push_cast]
theorem wF (l : List DVisit) : List.mapM (takeElem 4) (l.map encDVisit) = some (l.map encDVisit) := eW fun x => (if_pos ⟨rfl, tX x, rfl⟩ : takeElem 4 (encDVisit x) = some (encDVisit x))
attribute [push_cast] encDVisit cellsDVisit wF
structure DFnd where
 state : List Int
 prev : Int
 step : DStep
deriving DecidableEq
end Go.E
namespace Go.E
open Go.Proofs
theorem zp (bs : List Nat) (H : Heap) (a b : List Int) (h : a.length + b.length ≤ 1000000) :
  callw X bs 154 [.list [.list (a.map (.int .i64)), .list (b.map (.int .i64))]] H = some (.list ((a ++ b).map (.int .i64)), H) := by
 refine tV (fn := Tryz.f154) Tryz.func154 rfl rfl ?_
 show concatV 1 [.list [.list (a.map (.int .i64)), .list (b.map (.int .i64))]] = _
 have hp : V.pureL ((a ++ b).map (V.int .i64)) = true := uP _ _
 have ha := F5 (a ++ b)
 simp only [concatV, concatL, Option.map_some, Option.bind_some, List.append_nil, ← List.map_append]
 rw [if_pos ⟨by simpa using h, by simp, hp, ha⟩]
theorem uU (a : List Int) (h0 : 0 < a.length) (h : a.length ≤ 1000000) : X.fresh 155 [.list (a.map (.int .i64))] = some (1, a.map (.int .i64)) := by
 simp [X, freshI, mm, h0, h]
theorem uV (a : List Int) (h0 : ¬ 0 < a.length) : X.fresh 155 [.list (a.map (.int .i64))] = none := by
 cases a with
 | nil => rfl
 | cons x r => exact absurd (Nat.succ_pos _) h0
theorem takeI : ∀ (a : List Int), takeElems 1 (a.map (.int .i64)) = some (a.map (.int .i64))
 | [] => rfl
 | x :: r => by
  have h := takeI r
  unfold takeElems at h ⊢
  rw [List.map_cons, List.mapM_cons, h]
  rfl
theorem uW (bs : List Nat) (H : Heap) (a : List Int) (h : a.length ≤ 1000000) : callw X bs 155 [.list (a.map (.int .i64))] H = some (.list (a.map (.int .i64)), H) := by
 refine tV (fn := Tryz.f155) Tryz.func155 rfl rfl ?_
 show cloneV 1 [.list (a.map (.int .i64))] = _
 simp only [cloneV, List.length_map, h, if_true, takeI, Option.map_some]
end Go.E
namespace Go.E
open Go.Proofs
set_option maxRecDepth 100000
set_option maxHeartbeats 4000000
theorem vw (bs : List Nat) (H : Heap) (n lo hi : Int) : callw X bs 100 [.int .i64 n, .int .i64 lo, .int .i64 hi] H = some (.bool (decide (lo ≤ n) && decide (n ≤ hi)), H) := by
 refine yw2 (rs := [.tmp 6]) (N := 15) (fn := Tryz.f100) CL Tryz.func100 ?_
 all_goals try (refine zs ?_; repeat' first | apply zs0 | apply zs2 | (intro hc; try have hq := dq hc))
attribute [push_cast] vw
theorem pY (bs : List Nat) (H : Heap) (b : Bool) (e : Int) : callw X bs 72 [.bool b, .int .i64 e] H = some (.int .i64 (if b = true then 0 else e), H) := by
 refine yw2 (rs := [.tmp 4]) (N := 7) (fn := Tryz.f72) xk72 Tryz.func72 ?_
 all_goals try (refine zs ?_; repeat' first | apply zs0 | apply zs2 | (intro hc; try have hq := dq hc))
attribute [push_cast] pY
theorem kc (bs : List Nat) (H : Heap) (es : List Int) (hl : es.length ≤ 1000000) : callw X bs 59 [.list (es.map (.int .i64))] H = some (.int .i64 (firstL es), H) := by
 refine yw2 (rs := [.tmp 2]) (N := 15) (fn := Tryz.f59) xk59 Tryz.func59 ?_
 have key : ∀ (R : Int) (bs : List Nat) i ρ H', i ≤ es.length → (H' = H ∧ ρ 5 = .list (es.map (.int .i64)) ∧ ρ 6 = .int .i64 es.length ∧ ρ 7 = .int .i64 i ∧ Kp (firstL (es.drop i) = R)) →
   Lp X ⟨15, bs⟩ (loopAt Tryz.f59 0) ρ H' fun ex ρ' H' => H' = H ∧ ((ex = .exit 0 ∧ R = 0) ∨ (ex = .ret ∧ ρ' 2 = .int .i64 R)) := by
  intro R bs
  refine dO ?_ ?_
  ·rintro i ρ H' hi ⟨rfl, h5, h6, h7, hR⟩
   have hget : es[i]? = some es[i] := by simp [hi]
   generalize es[i] = x at hget
   have hw := add1 i es.length hi hl
   have hd := gq hget
   replace hR := hR.out
   rw [hd, firstL] at hR
   replace hR : Kp ((if x ≠ 0 then x else firstL (List.drop (i + 1) es)) = R) := ⟨hR⟩
   clear hd
   conv => arg 3; whnf
   all_goals try (refine zs ?_; repeat' first | apply zs0 | apply zs2 | (intro hc; try have hq := dq hc))
   ·simp only [decide_eq_true_eq] at hc
    exact ⟨rfl, .inr ⟨rfl, by rw [← hR.out, if_pos hc]; simp only [seval, push_cast]⟩⟩
   ·simp only [decide_eq_false_iff_not, Decidable.not_not] at hc
    exact ⟨rfl, yw3, yw3, yw3, ⟨by rw [← hR.out, if_neg (by simp [hc])]⟩⟩
  ·rintro ρ H' ⟨rfl, h5, h6, h7, hR⟩
   replace hR := hR.out
   rw [List.drop_length] at hR
   conv => arg 3; whnf
   all_goals try (refine zs ?_; repeat' first | apply zs0 | apply zs2 | (intro hc; try have hq := dq hc))
   exact ⟨rfl, .inl ⟨rfl, hR.symm⟩⟩
 all_goals try (refine zs ?_; repeat' first | apply zs0 | apply zs2 | (intro hc; try have hq := dq hc))
 refine ab (af (c := loopAt Tryz.f59 0) rfl (key (firstL es) _ 0 _ _ (by omega) ⟨rfl, yw3, yw3, yw3, ⟨rfl⟩⟩)) ?_
 rintro ex ρ' H' ⟨rfl, ⟨rfl, h2⟩ | ⟨rfl, h2⟩⟩ -
 ·all_goals try (refine zs ?_; repeat' first | apply zs0 | apply zs2 | (intro hc; try have hq := dq hc))
 ·all_goals try (refine zs ?_; repeat' first | apply zs0 | apply zs2 | (intro hc; try have hq := dq hc))
attribute [push_cast] kc
theorem oC (bs : List Nat) (H : Heap) (a b : Int) : callw X bs 59 [.list [.int .i64 a, .int .i64 b]] H = some (.int .i64 (firstL [a, b]), H) := kc bs H [a, b] (by simp)
theorem tY (bs : List Nat) (H : Heap) (a b c : Int) : callw X bs 59 [.list [.int .i64 a, .int .i64 b, .int .i64 c]] H = some (.int .i64 (firstL [a, b, c]), H) := kc bs H [a, b, c] (by simp)
attribute [push_cast] oC tY
theorem lE (bs : List Nat) (H : Heap) (s : ByteArray) (hl : s.size ≤ 1000000) : callw X bs 90 [.str s] H = some (.bool (isNameS s), H) := by
  refine yw2 (rs := [.tmp 2]) (N := 40) (fn := Tryz.f90) xk90 Tryz.func90 ?_
  have key : ∀ (R : Bool) (bs : List Nat) i ρ H', i ≤ s.size → (H' = H ∧ ρ 0 = .str s ∧ ρ 7 = .int .i64 s.size ∧ ρ 8 = .int .i64 i ∧ Kp (badIn i (s.data.toList.drop i) = R)) →
      Lp X ⟨40, bs⟩ (loopAt Tryz.f90 0) ρ H' fun ex ρ' H' => H' = H ∧ ((ex = .exit 0 ∧ R = false) ∨ (ex = .ret ∧ ρ' 2 = .bool false ∧ R = true)) := by
    intro R bs
    refine dO ?_ ?_
    · rintro i ρ H' hi ⟨rfl, h0, h7, h8, hR⟩
      have hlt : i < s.data.size := hi
      have hget : s.data[i]? = some s.data[i] := Array.getElem?_eq_getElem hlt
      have hget2 : s.data.toList[i]? = some s.data[i] := by rw [Array.getElem?_toList]; exact hget
      generalize s.data[i] = b at hget hget2
      have hw := add1 i s.size hi hl
      replace hR := hR.out
      rw [gq hget2, badIn] at hR
      replace hR : Kp ((badAt i b.toNat || badIn (i + 1) (s.data.toList.drop (i + 1))) = R) := ⟨hR⟩
      clear hget2
      conv => arg 3; whnf
      all_goals try (refine zs ?_; repeat' first | apply zs0 | apply zs2 | (intro hc; try have hq := dq hc))
      all_goals have hz := idx0 i
      all_goals first
        | (have hb : badAt i b.toNat = false := by simp only [badAt, ← hz]; clear hz; simp only [seval, push_cast, *]
           replace hR := hR.out
           rw [hb, Bool.false_or] at hR
           exact ⟨rfl, yw3, yw3, yw3, ⟨hR⟩⟩)
        | (have hb : badAt i b.toNat = true := by simp only [badAt, ← hz]; clear hz; simp only [seval, push_cast, *]
           replace hR := hR.out
           rw [hb, Bool.true_or] at hR
           exact ⟨rfl, .inr ⟨rfl, yw3, hR.symm⟩⟩)
    · rintro ρ H' ⟨rfl, h0, h7, h8, hR⟩
      replace hR := hR.out
      have hz : s.data.toList.drop s.size = [] := List.drop_of_length_le (by rw [Array.length_toList]; exact Nat.le_refl _)
      rw [hz] at hR
      clear hz
      conv => arg 3; whnf
      all_goals try (refine zs ?_; repeat' first | apply zs0 | apply zs2 | (intro hc; try have hq := dq hc))
      exact ⟨rfl, .inl ⟨rfl, hR.symm⟩⟩
  all_goals try (refine zs ?_; repeat' first | apply zs0 | apply zs2 | (intro hc; try have hq := dq hc))
  refine ab (af (c := loopAt Tryz.f90 0) rfl (key _ _ 0 _ _ (by omega) ⟨rfl, yw3, yw3, yw3, ⟨rfl⟩⟩)) ?_
  rintro ex ρ' H' ⟨rfl, ⟨rfl, h2⟩ | ⟨rfl, h2, h3⟩⟩ hf
  · have f0 := hf 0 rfl
    simp only [seval, push_cast] at f0
    all_goals try (refine zs ?_; repeat' first | apply zs0 | apply zs2 | (intro hc; try have hq := dq hc))
    apply rf
    · simp
    · (simp only [seval, push_cast, *] <;> rfl)
    · rw [bL rfl]; simp only [List.drop_zero] at h2; simp [isNameS, h2]
    · simp only [seval, push_cast]
  · all_goals try (refine zs ?_; repeat' first | apply zs0 | apply zs2 | (intro hc; try have hq := dq hc))
    apply rf
    · simp
    · (simp only [seval, push_cast, *] <;> rfl)
    · rw [bL rfl]; simp only [List.drop_zero] at h3; simp [isNameS, h3]
    · simp only [seval, push_cast]
attribute [push_cast] lE
theorem sw (bs : List Nat) (H : Heap) (id : Nat) (ns : List ByteArray) (s : ByteArray) (hn : ∀ bs H, callw X bs 90 [.str s] H = some (.bool (isNameS s), H)) (hH : H[id]? = some (.map (namesM ns))) (hf : findV (.str s) (namesM ns) = some (if hasName s ns = true then some (.bool true) else none)) (hp : putV (.str s) (.bool true) (namesM ns) = namesM (addName s ns)) : callw X bs 94 [.map id, .str s] H = some (.int .i64 (nameErr ns s), H.set id (.map (namesM (addName s ns)))) := by
 refine yw2 (rs := [.tmp 4]) (N := 19) (fn := Tryz.f94) xk94 Tryz.func94 ?_
 cases hh : hasName s ns <;> simp only [hh, Bool.false_eq_true, if_true, if_false] at hf <;> simp only [nameErr, hh, Bool.false_eq_true, if_true, if_false]
 repeat' first
  | (refine yw1 (id := 1) [0, 3, 4, 5, 6, 1, 2, 7, 8, 9, 10] [(3, 5), (3, 6)] ?_)
  | (refine zs ?_; repeat' first | apply zs0 | apply zs2 | (intro hc; try have hq := dq hc)) | fail
theorem bU (bs : List Nat) (H : Heap) (id : Nat) (ns : List ByteArray) (s : ByteArray) (hs : s.size ≤ 1000000) (hH : H[id]? = some (.map (namesM ns))) :
  callw X bs 94 [.map id, .str s] H = some (.int .i64 (nameErr ns s), H.set id (.map (namesM (addName s ns)))) :=
 sw bs H id ns s (fun bs H => lE bs H s hs) hH (tr s ns) (uO s ns)
theorem wG (bs : List Nat) (H : Heap) (n lo hi : Int) : callw X bs 171 [.int .i64 n, .int .i64 lo, .int .i64 hi] H = some (.bool (decide (lo ≤ n) && decide (n ≤ hi)), H) := by
 refine yw2 (rs := [.tmp 6]) (N := 15) (fn := Tryz.f171) DJ Tryz.func171 ?_
 all_goals try (refine zs ?_; repeat' first | apply zs0 | apply zs2 | (intro hc; try have hq := dq hc))
attribute [push_cast] wG
theorem wH (bs : List Nat) (H : Heap) (b : Bool) (e : Int) : callw X bs 165 [.bool b, .int .i64 e] H = some (.int .i64 (if b = true then 0 else e), H) := by
 refine yw2 (rs := [.tmp 4]) (N := 7) (fn := Tryz.f165) DD Tryz.func165 ?_
 all_goals try (refine zs ?_; repeat' first | apply zs0 | apply zs2 | (intro hc; try have hq := dq hc))
attribute [push_cast] wH
theorem vz (bs : List Nat) (H : Heap) (n : Int) : callw X bs 166 [.int .i64 n] H = some (.bool (decide (1 ≤ n) && decide (n ≤ 16)), H) := by
 refine yw2 (rs := [.tmp 2]) (N := 5) (fn := Tryz.f166) DE Tryz.func166 ?_
 all_goals try (refine zs ?_; repeat' first | apply zs0 | apply zs2 | (intro hc; try have hq := dq hc))
attribute [push_cast] vz
theorem nU (bs : List Nat) (H : Heap) (es : List Int) (hl : es.length ≤ 1000000) : callw X bs 170 [.list (es.map (.int .i64))] H = some (.int .i64 (firstL es), H) := by
 refine yw2 (rs := [.tmp 2]) (N := 15) (fn := Tryz.f170) DI Tryz.func170 ?_
 have key : ∀ (R : Int) (bs : List Nat) i ρ H', i ≤ es.length → (H' = H ∧ ρ 5 = .list (es.map (.int .i64)) ∧ ρ 6 = .int .i64 es.length ∧ ρ 7 = .int .i64 i ∧ Kp (firstL (es.drop i) = R)) →
   Lp X ⟨15, bs⟩ (loopAt Tryz.f170 0) ρ H' fun ex ρ' H' => H' = H ∧ ((ex = .exit 0 ∧ R = 0) ∨ (ex = .ret ∧ ρ' 2 = .int .i64 R)) := by
  intro R bs
  refine dO ?_ ?_
  ·rintro i ρ H' hi ⟨rfl, h5, h6, h7, hR⟩
   have hget : es[i]? = some es[i] := by simp [hi]
   generalize es[i] = x at hget
   have hw := add1 i es.length hi hl
   have hd := gq hget
   replace hR := hR.out
   rw [hd, firstL] at hR
   replace hR : Kp ((if x ≠ 0 then x else firstL (List.drop (i + 1) es)) = R) := ⟨hR⟩
   clear hd
   conv => arg 3; whnf
   all_goals try (refine zs ?_; repeat' first | apply zs0 | apply zs2 | (intro hc; try have hq := dq hc))
   ·simp only [decide_eq_true_eq] at hc
    exact ⟨rfl, .inr ⟨rfl, by rw [← hR.out, if_pos hc]; simp only [seval, push_cast]⟩⟩
   ·simp only [decide_eq_false_iff_not, Decidable.not_not] at hc
    exact ⟨rfl, yw3, yw3, yw3, ⟨by rw [← hR.out, if_neg (by simp [hc])]⟩⟩
  ·rintro ρ H' ⟨rfl, h5, h6, h7, hR⟩
   replace hR := hR.out
   rw [List.drop_length] at hR
   conv => arg 3; whnf
   all_goals try (refine zs ?_; repeat' first | apply zs0 | apply zs2 | (intro hc; try have hq := dq hc))
   exact ⟨rfl, .inl ⟨rfl, hR.symm⟩⟩
 all_goals try (refine zs ?_; repeat' first | apply zs0 | apply zs2 | (intro hc; try have hq := dq hc))
 refine ab (af (c := loopAt Tryz.f170 0) rfl (key (firstL es) _ 0 _ _ (by omega) ⟨rfl, yw3, yw3, yw3, ⟨rfl⟩⟩)) ?_
 rintro ex ρ' H' ⟨rfl, ⟨rfl, h2⟩ | ⟨rfl, h2⟩⟩ -
 ·all_goals try (refine zs ?_; repeat' first | apply zs0 | apply zs2 | (intro hc; try have hq := dq hc))
 ·all_goals try (refine zs ?_; repeat' first | apply zs0 | apply zs2 | (intro hc; try have hq := dq hc))
attribute [push_cast] nU
theorem vA (bs : List Nat) (H : Heap) (a b : Int) : callw X bs 170 [.list [.int .i64 a, .int .i64 b]] H = some (.int .i64 (firstL [a, b]), H) := nU bs H [a, b] (by simp)
theorem vB (bs : List Nat) (H : Heap) (a b c : Int) : callw X bs 170 [.list [.int .i64 a, .int .i64 b, .int .i64 c]] H = some (.int .i64 (firstL [a, b, c]), H) := nU bs H [a, b, c] (by simp)
attribute [push_cast] vA vB
end Go.E
namespace Go.E
open Go.Proofs
set_option maxRecDepth 100000
set_option maxHeartbeats 4000000
theorem F7 {P : Program} {t : TypeId} {k k' : IntKind} {a b : Int} (h : 0 ≤ b) : binOpV P .shl t (.int k a) (.int k' b) = some (.int k (k.wrap (a * 2 ^ (min b.toNat k.bits)))) := by
 simp [binOpV, shiftOp, Int.not_lt.2 h]
attribute [push_cast] F7
theorem AN (bs : List Nat) (H : Heap) (n lo hi : Int) : callw X bs 40 [.int .i64 n, .int .i64 lo, .int .i64 hi] H = some (.bool (decide (lo ≤ n) && decide (n ≤ hi)), H) := by
 refine yw2 (rs := [.tmp 6]) (N := 15) (fn := Tryz.f40) xk40 Tryz.func40 ?_
 all_goals try (refine zs ?_; repeat' first | apply zs0 | apply zs2 | (intro hc; try have hq := dq hc))
attribute [push_cast] AN
theorem zq (bs : List Nat) (H : Heap) (n : Int) : callw X bs 176 [.int .i64 n] H = some (.bool (decide (1 ≤ n) && decide (n ≤ 16)), H) := by
 refine yw2 (rs := [.tmp 2]) (N := 5) (fn := Tryz.f176) zg Tryz.func176 ?_
 all_goals try (refine zs ?_; repeat' first | apply zs0 | apply zs2 | (intro hc; try have hq := dq hc))
attribute [push_cast] zq
theorem wI (bs : List Nat) (H : Heap) (n : Int) (h : 0 ≤ n) : callw X bs 188 [.int .i64 n] H = some (.int .i64 (shl1 n), H) := by
 refine yw2 (rs := [.tmp 2]) (N := 5) (fn := Tryz.f188) DV Tryz.func188 ?_
 have hs : IntKind.i64.wrap (1 * 2 ^ (min n.toNat IntKind.i64.bits)) = shl1 n := rfl
 all_goals try (refine zs ?_; repeat' first | apply zs0 | apply zs2 | (intro hc; try have hq := dq hc))
theorem tZ (bs : List Nat) (H : Heap) (n width : Int) (hw : 0 ≤ width) : callw X bs 177 [.int .i64 n, .int .i64 width] H = some (.bool (fitsN n width), H) := by
 refine yw2 (rs := [.tmp 4]) (N := 10) (fn := Tryz.f177) DO Tryz.func177 ?_
 have hp := fun bs H => wI bs H width hw
 unfold fitsN
 all_goals try (refine zs ?_; repeat' first | apply zs0 | apply zs2 | (intro hc; try have hq := dq hc))
theorem ld (bs : List Nat) (H : Heap) (s : ByteArray) (hl : s.size ≤ 1000000) : callw X bs 125 [.str s] H = some (.bool (isNameS s), H) := by
  refine yw2 (rs := [.tmp 2]) (N := 55) (fn := Tryz.f125) C8 Tryz.func125 ?_
  have key : ∀ (R : Bool) (bs : List Nat) i ρ H', i ≤ s.size → (H' = H ∧ ρ 0 = .str s ∧ ρ 3 = .int .i64 i ∧ Kp (badIn i (s.data.toList.drop i) = R)) →
      Lp X ⟨55, bs⟩ (loopAt Tryz.f125 0) ρ H' fun ex ρ' H' => H' = H ∧ ((ex = .exit 0 ∧ R = false) ∨ (ex = .ret ∧ ρ' 2 = .bool false ∧ R = true)) := by
    intro R bs
    refine dO ?_ ?_
    · rintro i ρ H' hi ⟨rfl, h0, h3, hR⟩
      have hlt : i < s.data.size := hi
      have hget : s.data[i]? = some s.data[i] := Array.getElem?_eq_getElem hlt
      have hget2 : s.data.toList[i]? = some s.data[i] := by rw [Array.getElem?_toList]; exact hget
      generalize s.data[i] = b at hget hget2
      have hw := add1 i s.size hi hl
      replace hR := hR.out
      rw [gq hget2, badIn] at hR
      replace hR : Kp ((badAt i b.toNat || badIn (i + 1) (s.data.toList.drop (i + 1))) = R) := ⟨hR⟩
      clear hget2
      conv => arg 3; whnf
      all_goals try (refine zs ?_; repeat' first | apply zs0 | apply zs2 | (intro hc; try have hq := dq hc))
      all_goals have hz := idx0 i
      all_goals replace hR := hR.out
      all_goals first
        | (refine ⟨rfl, yw3, yw3, ⟨?_⟩⟩
           have hb : badAt i b.toNat = false := by
             unfold badAt; clear hw hR hget h0 h3; simp [← hz] at *; omega
           rw [hb, Bool.false_or] at hR
           exact hR)
        | (refine ⟨rfl, .inr ⟨rfl, yw3, ?_⟩⟩
           have hb : badAt i b.toNat = true := by
             unfold badAt; clear hw hR hget h0 h3; simp [← hz] at *; omega
           rw [hb, Bool.true_or] at hR
           exact hR.symm)
    · rintro ρ H' ⟨rfl, h0, h3, hR⟩
      replace hR := hR.out
      have hz : s.data.toList.drop s.size = [] := List.drop_of_length_le (by rw [Array.length_toList]; exact Nat.le_refl _)
      rw [hz] at hR
      clear hz
      conv => arg 3; whnf
      all_goals try (refine zs ?_; repeat' first | apply zs0 | apply zs2 | (intro hc; try have hq := dq hc))
      exact ⟨rfl, .inl ⟨rfl, hR.symm⟩⟩
  by_cases h1 : s.size < 1
  · have d1 : decide ((s.size : Int) < 1) = true := decide_eq_true (by omega)
    have hn : isNameS s = false := by unfold isNameS; rw [decide_eq_false (by omega : ¬ (1 : Int) ≤ s.size)]; simp
    clear key h1
    all_goals try (refine zs ?_; repeat' first | apply zs0 | apply zs2 | (intro hc; try have hq := dq hc))
  by_cases h2 : 16 < s.size
  · have d1 : decide ((s.size : Int) < 1) = false := decide_eq_false (by omega)
    have d2 : decide ((16 : Int) < s.size) = true := decide_eq_true (by omega)
    have hn : isNameS s = false := by unfold isNameS; rw [decide_eq_false (by omega : ¬ (s.size : Int) ≤ 16)]; simp
    clear key h1 h2
    all_goals try (refine zs ?_; repeat' first | apply zs0 | apply zs2 | (intro hc; try have hq := dq hc))
  have d1 : decide ((s.size : Int) < 1) = false := decide_eq_false (by omega)
  have d2 : decide ((16 : Int) < s.size) = false := decide_eq_false (by omega)
  have hn : isNameS s = !badIn 0 s.data.toList := by unfold isNameS; rw [decide_eq_true (by omega : (1 : Int) ≤ s.size), decide_eq_true (by omega : (s.size : Int) ≤ 16)]; simp
  clear h1 h2
  all_goals try (refine zs ?_; repeat' first | apply zs0 | apply zs2 | (intro hc; try have hq := dq hc))
  refine ab (af (c := loopAt Tryz.f125 0) rfl (key _ _ 0 _ _ (by omega) ⟨rfl, yw3, yw3, ⟨rfl⟩⟩)) ?_
  clear key
  rintro ex ρ' H' ⟨rfl, ⟨rfl, h2⟩ | ⟨rfl, h2, h3⟩⟩ hf
  · simp only [List.drop_zero] at h2
    all_goals try (refine zs ?_; repeat' first | apply zs0 | apply zs2 | (intro hc; try have hq := dq hc))
  · simp only [List.drop_zero] at h3
    all_goals try (refine zs ?_; repeat' first | apply zs0 | apply zs2 | (intro hc; try have hq := dq hc))
end Go.E
namespace Go.E
open Go.Proofs
set_option maxRecDepth 100000
set_option maxHeartbeats 4000000
theorem ua (bs : List Nat) (H : Heap) {S : Type} (HS : S → Heap) (fid : Nat) (caps : List V) (g : Nat → Int → S → Int × S) (l : List Int) (hl : l.length ≤ 1000000) (hf : Does X encInt HS fid caps g l) (s : S) (junk : Heap) (hH : Kp (H = HS s ++ junk)) (hsl : ∀ s t, (HS s).length = (HS t).length) : callw X bs 163 [.list (l.map encInt), .func fid caps] H = some (.tuple [.int .i64 (eachL g 0 l s).1.1, .int .i64 (eachL g 0 l s).1.2], HS (eachL g 0 l s).2 ++ junk) := by
 refine yw2 (rs := [.tmp 4, .tmp 5]) (N := 25) (fn := Tryz.f163) DB Tryz.func163 ?_
 have key : ∀ (R : (Int × Int) × S) (bs : List Nat) i ρ H', i ≤ l.length → (∃ s junk2, H' = HS s ++ (junk ++ junk2) ∧ ρ 1 = .func fid caps ∧ ρ 9 = .list (l.map encInt) ∧ ρ 10 = .int .i64 l.length ∧ ρ 11 = .int .i64 i ∧ Kp (eachL g i (l.drop i) s = R)) →
   Lp X ⟨25, bs⟩ (loopAt Tryz.f163 0) ρ H' fun ex ρ' H' => ∃ junk2, H' = HS R.2 ++ (junk ++ junk2) ∧ ((ex = .exit 0 ∧ R.1 = (0, 0)) ∨ (ex = .ret ∧ ρ' 4 = .int .i64 R.1.1 ∧ ρ' 5 = .int .i64 R.1.2)) := by
  intro R bs
  refine dO ?_ ?_
  ·rintro i ρ H' hi ⟨s, junk2, hH2, h1, h9, h10, h11, hR⟩
   have hget : l[i]? = some l[i] := by simp [hi]
   generalize l[i] = x at hget
   have hw := add1 i l.length hi hl
   replace hR := hR.out
   rw [gq hget, eachL] at hR
   replace hR : Kp ((if (g i x s).1 ≠ 0 then (((i : Int), (g i x s).1), (g i x s).2) else eachL g (i + 1) (l.drop (i + 1)) (g i x s).2) = R) := ⟨hR⟩
   have hcall := fun bs (y : List HObj) => hf bs i x s (junk ++ (junk2 ++ y)) hget
   have e1 : ∀ y : List HObj, HS s ++ (junk ++ (junk2 ++ y)) = H' ++ y := fun y => by rw [hH2]; simp
   simp only [e1, seval, push_cast] at hcall
   replace e1 : Kp (H' = HS s ++ (junk ++ junk2)) := ⟨hH2⟩
   clear hH2 hf hl
   have hcall0 := fun bs => hcall bs []
   simp only [List.append_nil] at hcall0
   conv => arg 3; whnf
   all_goals try (refine zs ?_; repeat' first | apply zs0 | apply zs2 | (intro hc; try have hq := dq hc))
   ·have hc : (g i x s).1 ≠ 0 := by simpa using hc
    rw [← hR.out, if_pos hc]
    exact ⟨_, by first | rfl | (simp only [List.append_assoc]; rfl), .inr ⟨rfl, yw3, yw3⟩⟩
   ·have hc : (g i x s).1 = 0 := by simpa using hc
    exact ⟨_, _, by first | rfl | (simp only [List.append_assoc]; rfl), yw3, yw3, yw3, yw3, ⟨by rw [← hR.out, if_neg (by simp [hc])]⟩⟩
  ·rintro ρ H' ⟨s, junk2, hH2, h1, h9, h10, h11, hR⟩
   replace hR := hR.out
   rw [List.drop_length, eachL] at hR
   clear hf
   conv => arg 3; whnf
   all_goals try (refine zs ?_; repeat' first | apply zs0 | apply zs2 | (intro hc; try have hq := dq hc))
   rw [← hR]
   exact ⟨junk2, by simp, .inl ⟨rfl, rfl⟩⟩
 have key2 := fun bs ρ => key (eachL g 0 l s) bs 0 ρ H (by omega)
 clear hf
 all_goals try (refine zs ?_; repeat' first | apply zs0 | apply zs2 | (intro hc; try have hq := dq hc))
 refine ab (af (c := loopAt Tryz.f163 0) rfl (key2 _ _ ⟨s, [], by simp [hH.out], yw3, yw3, yw3, yw3, ⟨by simp⟩⟩)) ?_
 have hlen : ∀ t junk2, (HS t ++ (junk ++ junk2)).take H.length = HS t ++ junk := fun t junk2 => by
  rw [← List.append_assoc]; exact List.take_left' (by rw [hH.out]; simp [hsl t s])
 rintro ex ρ' H' ⟨junk2, rfl, ⟨rfl, h2⟩ | ⟨rfl, h2, h3⟩⟩ hf2
 ·rw [h2]
  all_goals try (refine zs ?_; repeat' first | apply zs0 | apply zs2 | (intro hc; try have hq := dq hc))
 ·all_goals try (refine zs ?_; repeat' first | apply zs0 | apply zs2 | (intro hc; try have hq := dq hc))
theorem mR (bs : List Nat) (H : Heap) (fid : Nat) (caps : List V) (g : Nat → Int → Int) (l : List Int) (hl : l.length ≤ 1000000) (hf : ∀ bs (i : Nat) x junk, l[i]? = some x → callw X bs fid (.int .i64 i :: encInt x :: caps) (H ++ junk) = some (.int .i64 (g i x), H ++ junk)) :
  callw X bs 163 [.list (l.map encInt), .func fid caps] H = some (.tuple [.int .i64 (eachP g 0 l).1, .int .i64 (eachP g 0 l).2], H) := by
 have := ua bs H (S := Unit) (fun _ => H) fid caps (fun i x u => (g i x, u)) l hl (fun bs i x _ junk h => hf bs i x junk h) () [] ⟨by simp⟩ (fun _ _ => rfl)
 rw [tT] at this
 simpa using this
theorem tu (bs : List Nat) (H : Heap) {S : Type} (HS : S → Heap) (fid : Nat) (caps : List V) (g : Nat → Node → S → Int × S) (l : List Node) (hl : l.length ≤ 1000000) (hf : Does X encNode HS fid caps g l) (s : S) (junk : Heap) (hH : Kp (H = HS s ++ junk)) (hsl : ∀ s t, (HS s).length = (HS t).length) : callw X bs 168 [.list (l.map encNode), .func fid caps] H = some (.tuple [.int .i64 (eachL g 0 l s).1.1, .int .i64 (eachL g 0 l s).1.2], HS (eachL g 0 l s).2 ++ junk) := by
 refine yw2 (rs := [.tmp 4, .tmp 5]) (N := 25) (fn := Tryz.f168) DG Tryz.func168 ?_
 have key : ∀ (R : (Int × Int) × S) (bs : List Nat) i ρ H', i ≤ l.length → (∃ s junk2, H' = HS s ++ (junk ++ junk2) ∧ ρ 1 = .func fid caps ∧ ρ 9 = .list (l.map encNode) ∧ ρ 10 = .int .i64 l.length ∧ ρ 11 = .int .i64 i ∧ Kp (eachL g i (l.drop i) s = R)) →
   Lp X ⟨25, bs⟩ (loopAt Tryz.f168 0) ρ H' fun ex ρ' H' => ∃ junk2, H' = HS R.2 ++ (junk ++ junk2) ∧ ((ex = .exit 0 ∧ R.1 = (0, 0)) ∨ (ex = .ret ∧ ρ' 4 = .int .i64 R.1.1 ∧ ρ' 5 = .int .i64 R.1.2)) := by
  intro R bs
  refine dO ?_ ?_
  ·rintro i ρ H' hi ⟨s, junk2, hH2, h1, h9, h10, h11, hR⟩
   have hget : l[i]? = some l[i] := by simp [hi]
   generalize l[i] = x at hget
   have hw := add1 i l.length hi hl
   replace hR := hR.out
   rw [gq hget, eachL] at hR
   replace hR : Kp ((if (g i x s).1 ≠ 0 then (((i : Int), (g i x s).1), (g i x s).2) else eachL g (i + 1) (l.drop (i + 1)) (g i x s).2) = R) := ⟨hR⟩
   have hcall := fun bs (y : List HObj) => hf bs i x s (junk ++ (junk2 ++ y)) hget
   have e1 : ∀ y : List HObj, HS s ++ (junk ++ (junk2 ++ y)) = H' ++ y := fun y => by rw [hH2]; simp
   simp only [e1, seval, push_cast] at hcall
   replace e1 : Kp (H' = HS s ++ (junk ++ junk2)) := ⟨hH2⟩
   clear hH2 hf hl
   have hcall0 := fun bs => hcall bs []
   simp only [List.append_nil] at hcall0
   conv => arg 3; whnf
   all_goals try (refine zs ?_; repeat' first | apply zs0 | apply zs2 | (intro hc; try have hq := dq hc))
   ·have hc : (g i x s).1 ≠ 0 := by simpa using hc
    rw [← hR.out, if_pos hc]
    exact ⟨_, by first | rfl | (simp only [List.append_assoc]; rfl), .inr ⟨rfl, yw3, yw3⟩⟩
   ·have hc : (g i x s).1 = 0 := by simpa using hc
    exact ⟨_, _, by first | rfl | (simp only [List.append_assoc]; rfl), yw3, yw3, yw3, yw3, ⟨by rw [← hR.out, if_neg (by simp [hc])]⟩⟩
  ·rintro ρ H' ⟨s, junk2, hH2, h1, h9, h10, h11, hR⟩
   replace hR := hR.out
   rw [List.drop_length, eachL] at hR
   clear hf
   conv => arg 3; whnf
   all_goals try (refine zs ?_; repeat' first | apply zs0 | apply zs2 | (intro hc; try have hq := dq hc))
   rw [← hR]
   exact ⟨junk2, by simp, .inl ⟨rfl, rfl⟩⟩
 have key2 := fun bs ρ => key (eachL g 0 l s) bs 0 ρ H (by omega)
 clear hf
 all_goals try (refine zs ?_; repeat' first | apply zs0 | apply zs2 | (intro hc; try have hq := dq hc))
 refine ab (af (c := loopAt Tryz.f168 0) rfl (key2 _ _ ⟨s, [], by simp [hH.out], yw3, yw3, yw3, yw3, ⟨by simp⟩⟩)) ?_
 have hlen : ∀ t junk2, (HS t ++ (junk ++ junk2)).take H.length = HS t ++ junk := fun t junk2 => by
  rw [← List.append_assoc]; exact List.take_left' (by rw [hH.out]; simp [hsl t s])
 rintro ex ρ' H' ⟨junk2, rfl, ⟨rfl, h2⟩ | ⟨rfl, h2, h3⟩⟩ hf2
 ·rw [h2]
  all_goals try (refine zs ?_; repeat' first | apply zs0 | apply zs2 | (intro hc; try have hq := dq hc))
 ·all_goals try (refine zs ?_; repeat' first | apply zs0 | apply zs2 | (intro hc; try have hq := dq hc))
theorem ry (bs : List Nat) (H : Heap) (fid : Nat) (caps : List V) (g : Nat → Node → Int) (l : List Node) (hl : l.length ≤ 1000000) (hf : ∀ bs (i : Nat) x junk, l[i]? = some x → callw X bs fid (.int .i64 i :: encNode x :: caps) (H ++ junk) = some (.int .i64 (g i x), H ++ junk)) :
  callw X bs 168 [.list (l.map encNode), .func fid caps] H = some (.tuple [.int .i64 (eachP g 0 l).1, .int .i64 (eachP g 0 l).2], H) := by
 have := tu bs H (S := Unit) (fun _ => H) fid caps (fun i x u => (g i x, u)) l hl (fun bs i x _ junk h => hf bs i x junk h) () [] ⟨by simp⟩ (fun _ _ => rfl)
 rw [tT] at this
 simpa using this
theorem ub (bs : List Nat) (H : Heap) (n width : Int) : callw X bs 101 [.int .i64 n, .int .i64 width] H = some (.bool (decide (0 ≤ width) && fitsN n width), H) := by
 refine yw2 (rs := [.tmp 4]) (N := 14) (fn := Tryz.f101) CM Tryz.func101 ?_
 by_cases h : 0 ≤ width
 ·have d : decide (0 ≤ width) = true := decide_eq_true h
  have hs : IntKind.i64.wrap (1 * 2 ^ (min width.toNat IntKind.i64.bits)) = shl1 width := rfl
  rw [d]
  unfold fitsN
  all_goals try (refine zs ?_; repeat' first | apply zs0 | apply zs2 | (intro hc; try have hq := dq hc))
 ·have d : decide (0 ≤ width) = false := decide_eq_false h
  rw [d]
  all_goals try (refine zs ?_; repeat' first | apply zs0 | apply zs2 | (intro hc; try have hq := dq hc))
end Go.E
namespace Go.E
open Go.Proofs
set_option maxRecDepth 100000
set_option maxHeartbeats 4000000
theorem F8 (bs : List Nat) (H : Heap) (n width : Int) : callw X bs 185 [.int .i64 n, .int .i64 width] H = some (.bool (fitsG n width), H) := by
 refine yw2 (rs := [.tmp 4]) (N := 14) (fn := Tryz.f185) DT Tryz.func185 ?_
 have hs : 0 ≤ width → IntKind.i64.wrap (1 * 2 ^ (min width.toNat IntKind.i64.bits)) = shl1 width := fun _ => rfl
 unfold fitsG
 all_goals try (refine zs ?_; repeat' first | apply zs0 | apply zs2 | (intro hc; try have hq := dq hc))
attribute [push_cast] F8
theorem vC (bs : List Nat) (H : Heap) (l : List Int) (fid : Nat) (caps : List V) (p : Int → Bool) (hl : l.length ≤ 1000000) (hf : ∀ bs x, x ∈ l → callw X bs fid (.int .i64 x :: caps) H = some (.bool (p x), H)) : callw X bs 220 [.list (l.map (.int .i64)), .func fid caps] H = some (.int .i64 (idxF p 0 l), H) := by
 refine yw2 (rs := [.tmp 4]) (N := 19) (fn := Tryz.f220) Es Tryz.func220 ?_
 have key : ∀ (R : Int) (bs : List Nat) i ρ H', i ≤ l.length → (H' = H ∧ ρ 0 = .list (l.map (.int .i64)) ∧ ρ 1 = .func fid caps ∧ ρ 7 = .int .i64 l.length ∧ ρ 8 = .int .i64 i ∧ Kp (idxF p i (l.drop i) = R)) →
   Lp X ⟨19, bs⟩ (loopAt Tryz.f220 0) ρ H' fun ex ρ' H' => H' = H ∧ ((ex = .exit 0 ∧ R = -1) ∨ (ex = .ret ∧ ρ' 4 = .int .i64 R)) := by
  intro R bs
  refine dO ?_ ?_
  ·rintro i ρ H' hi ⟨rfl, h0, h1, h7, h8, hR⟩
   have hget : l[i]? = some l[i] := by simp [hi]
   have hcall := fun bs => hf bs l[i] (List.getElem_mem hi)
   generalize l[i] = x at hget hcall
   have hw := add1 i l.length hi hl
   replace hR := hR.out
   rw [gq hget, idxF] at hR
   replace hR : Kp ((if p x = true then (i : Int) else idxF p (i + 1) (l.drop (i + 1))) = R) := ⟨hR⟩
   clear hf
   conv => arg 3; whnf
   all_goals try (refine zs ?_; repeat' first | apply zs0 | apply zs2 | (intro hc; try have hq := dq hc))
   ·exact ⟨rfl, .inr ⟨rfl, by rw [← hR.out, if_pos (by assumption)]; simp only [seval, push_cast]⟩⟩
   ·exact ⟨rfl, yw3, yw3, yw3, yw3, ⟨by rw [← hR.out, if_neg (by simp [*])]; rfl⟩⟩
  ·rintro ρ H' ⟨rfl, h0, h1, h7, h8, hR⟩
   replace hR := hR.out
   rw [List.drop_length, idxF] at hR
   clear hf
   conv => arg 3; whnf
   all_goals try (refine zs ?_; repeat' first | apply zs0 | apply zs2 | (intro hc; try have hq := dq hc))
   exact ⟨rfl, .inl ⟨rfl, hR.symm⟩⟩
 clear hf
 all_goals try (refine zs ?_; repeat' first | apply zs0 | apply zs2 | (intro hc; try have hq := dq hc))
 refine ab (af (c := loopAt Tryz.f220 0) rfl (key (idxF p 0 l) _ 0 _ _ (by omega) ⟨rfl, yw3, yw3, yw3, yw3, ⟨rfl⟩⟩)) ?_
 rintro ex ρ' H' ⟨rfl, ⟨rfl, h2⟩ | ⟨rfl, h2⟩⟩ -
 ·rw [h2]
  all_goals try (refine zs ?_; repeat' first | apply zs0 | apply zs2 | (intro hc; try have hq := dq hc))
 ·all_goals try (refine zs ?_; repeat' first | apply zs0 | apply zs2 | (intro hc; try have hq := dq hc))
theorem mS (bs : List Nat) (H : Heap) (l : List Int) (fid : Nat) (caps : List V) (p : Int → Bool) (hl : l.length ≤ 1000000) (hf : ∀ bs x, x ∈ l → callw X bs fid (.int .i64 x :: caps) H = some (.bool (p x), H)) : callw X bs 172 [.list (l.map (.int .i64)), .func fid caps] H = some (.bool (l.any p), H) := by
 refine yw2 (rs := [.tmp 4]) (N := 9) (fn := Tryz.f172) DK Tryz.func172 ?_
 have hcall := fun bs => vC bs H l fid caps p hl hf
 have ha := wB p l 0 (by omega)
 clear hf
 all_goals try (refine zs ?_; repeat' first | apply zs0 | apply zs2 | (intro hc; try have hq := dq hc))
theorem wJ (bs : List Nat) (H : Heap) (n w : Int) (id : Nat) (hH : H[id]? = some (.cells [.int .i64 w])) : callw X bs 235 [.int .i64 n, .ptr id 0] H = some (.bool (decide (n ≠ w)), H) := by
 refine yw2 (rs := [.tmp 3]) (N := 7) (fn := Tryz.f235) Ez Tryz.func235 ?_
 all_goals try (refine zs ?_; repeat' first | apply zs0 | apply zs2 | (intro hc; try have hq := dq hc))
attribute [push_cast] wJ
theorem AO (bs : List Nat) (H : Heap) (w v : Int) (a : List Int) : callw X bs 192 [.int .i64 w, .list (a.map (.int .i64)), .int .i64 v] H = some (.bool true, H) := by
 refine yw2 (rs := [.tmp 6]) (N := 7) (fn := Tryz.f192) DZ Tryz.func192 ?_
 all_goals try (refine zs ?_; repeat' first | apply zs0 | apply zs2 | (intro hc; try have hq := dq hc))
attribute [push_cast] AO
theorem yA (bs : List Nat) (H : Heap) (w v : Int) (a : List Int) (hl : a.length ≤ 1000000) : callw X bs 193 [.int .i64 w, .list (a.map (.int .i64)), .int .i64 v] H = some (.bool (!(a.any fun n => decide (n ≠ w))), H) := by
 refine yw2 (rs := [.tmp 6]) (N := 11) (fn := Tryz.f193) D0 Tryz.func193 ?_
 have hc := fun (bs : List Nat) => mS bs (H ++ [.cells [.int .i64 w]]) a 235 [.ptr H.length 0] (fun n => decide (n ≠ w)) hl (fun bs x _ => wJ bs _ x w H.length (by simp))
 all_goals try (refine zs ?_; repeat' first | apply zs0 | apply zs2 | (intro hc; try have hq := dq hc))
attribute [push_cast] yA
theorem rQ (bs : List Nat) (H : Heap) (w v x y : Int) : callw X bs 237 [.int .i64 w, .list [.int .i64 x, .int .i64 y], .int .i64 v] H = some (.bool (decide (w = 1) && decide (x = y)), H) := by
 refine yw2 (rs := [.tmp 6]) (N := 18) (fn := Tryz.f237) EB Tryz.func237 ?_
 repeat' first
  | (refine yw0 (id := 1) oz6 ?_)
  | (refine zs ?_; repeat' first | apply zs0 | apply zs2 | (intro hc; try have hq := dq hc)) | fail
attribute [push_cast] rQ
theorem AP (bs : List Nat) (H : Heap) (w v x y z : Int) : callw X bs 208 [.int .i64 w, .list [.int .i64 x, .int .i64 y, .int .i64 z], .int .i64 v] H = some (.bool (decide (x = 1) && decide (y = w) && decide (z = w)), H) := by
 refine yw2 (rs := [.tmp 6]) (N := 25) (fn := Tryz.f208) Ef Tryz.func208 ?_
 all_goals try (refine zs ?_; repeat' first | apply zs0 | apply zs2 | (intro hc; try have hq := dq hc))
attribute [push_cast] AP
theorem yB (bs : List Nat) (H : Heap) (w v x y : Int) : callw X bs 210 [.int .i64 w, .list [.int .i64 x, .int .i64 y], .int .i64 v] H = some (.bool (decide (IntKind.i64.wrap (x + y) = w)), H) := by
 refine yw2 (rs := [.tmp 6]) (N := 16) (fn := Tryz.f210) Eh Tryz.func210 ?_
 repeat' first
  | (refine yw0 (id := 1) oz2 ?_)
  | (refine zs ?_; repeat' first | apply zs0 | apply zs2 | (intro hc; try have hq := dq hc)) | fail
attribute [push_cast] yB
theorem wK (bs : List Nat) (H : Heap) (w v x : Int) : callw X bs 212 [.int .i64 w, .list [.int .i64 x], .int .i64 v] H = some (.bool (decide (IntKind.i64.wrap (v + w) ≤ x)), H) := by
 refine yw2 (rs := [.tmp 6]) (N := 14) (fn := Tryz.f212) Ej Tryz.func212 ?_
 all_goals try (refine zs ?_; repeat' first | apply zs0 | apply zs2 | (intro hc; try have hq := dq hc))
attribute [push_cast] wK
theorem rR (bs : List Nat) (H : Heap) (w v x : Int) : callw X bs 214 [.int .i64 w, .list [.int .i64 x], .int .i64 v] H = some (.bool (decide (x ≤ w)), H) := by
 refine yw2 (rs := [.tmp 6]) (N := 12) (fn := Tryz.f214) El Tryz.func214 ?_
 all_goals try (refine zs ?_; repeat' first | apply zs0 | apply zs2 | (intro hc; try have hq := dq hc))
attribute [push_cast] rR
theorem tv (bs : List Nat) (H : Heap) (w v x y : Int) : callw X bs 217 [.int .i64 w, .list [.int .i64 x, .int .i64 y], .int .i64 v] H = some (.bool (decide (x = w)), H) := by
 refine yw2 (rs := [.tmp 6]) (N := 12) (fn := Tryz.f217) Eo Tryz.func217 ?_
 all_goals try (refine zs ?_; repeat' first | apply zs0 | apply zs2 | (intro hc; try have hq := dq hc))
attribute [push_cast] tv
def fitsF (k : Nat) : Nat := [192, 192, 193, 193, 193, 193, 193, 193, 193, 237, 237, 237, 208, 210, 212, 214, 214, 217, 217].getD k 0
theorem F9 : ∀ k, X.keep (fitsF k) = false
 | 0 | 1 | 2 | 3 | 4 | 5 | 6 | 7 | 8 | 9 | 10 | 11 | 12 | 13 | 14 | 15 | 16 | 17 | 18 => rfl
 | _ + 19 => rfl
attribute [push_cast] F9
theorem AQ (bs : List Nat) (H : Heap) (k : Nat) (hk : k < 19) (w v : Int) (a : List Int) (ha : a.length = argC k) : callw X bs (fitsF k) [.int .i64 w, .list (a.map (.int .i64)), .int .i64 v] H = some (.bool (fitsS k w a v), H) := by
 have hl : a.length ≤ 1000000 := by
  have h : ∀ k < 19, argC k ≤ 3 := by decide
  have := h k hk
  omega
 match k, hk, a, ha with
 | 0, _, a, _ | 1, _, a, _ => exact AO bs H w v a
 | 2, _, a, _ | 3, _, a, _ | 4, _, a, _ | 5, _, a, _ | 6, _, a, _ | 7, _, a, _ | 8, _, a, _ => exact yA bs H w v a hl
 | 9, _, [x, y], _ | 10, _, [x, y], _ | 11, _, [x, y], _ => exact rQ bs H w v x y
 | 12, _, [x, y, z], _ => exact AP bs H w v x y z
 | 13, _, [x, y], _ => exact yB bs H w v x y
 | 14, _, [x], _ => exact wK bs H w v x
 | 15, _, [x], _ | 16, _, [x], _ => exact rR bs H w v x
 | 17, _, [x, y], _ | 18, _, [x, y], _ => exact tv bs H w v x y
 | k + 19, hk, _, _ => omega
end Go.E
namespace Go.E
open Go.Proofs
set_option maxRecDepth 100000
set_option maxHeartbeats 4000000
attribute [push_cast] buildV placeF placeA placeCells List.foldl_cons List.foldl_nil
def runF (k : Nat) : Nat := [191, 191, 194, 236, 236, 236, 236, 236, 236, 238, 238, 238,
 209, 211, 213, 215, 216, 218, 219].getD k 0
def runC (k : Nat) : List V := [[], [], [],
 [.eptr [.func 197 []] 0], [.eptr [.func 198 []] 0], [.eptr [.func 199 []] 0], [.eptr [.func 200 []] 0], [.eptr [.func 201 []] 0], [.eptr [.func 202 []] 0],
 [.eptr [.func 204 []] 0], [.eptr [.func 205 []] 0], [.eptr [.func 206 []] 0]].getD k []
theorem AR (k : Nat) : V.pureL (runC k) = true := by
 match k with
 | 0 | 1 | 2 | 3 | 4 | 5 | 6 | 7 | 8 | 9 | 10 | 11 => rfl
 | k + 12 => rfl
attribute [push_cast] AR
def opName (k : Nat) : ByteArray := ([⟨#[99, 111, 110, 115, 116]⟩, ⟨#[108, 101, 97, 102]⟩, ⟨#[110, 111, 116]⟩, ⟨#[97, 110, 100]⟩, ⟨#[111, 114]⟩, ⟨#[120, 111, 114]⟩, ⟨#[97, 100, 100]⟩, ⟨#[115, 117, 98]⟩, ⟨#[109, 117, 108]⟩, ⟨#[101, 113]⟩, ⟨#[108, 116]⟩, ⟨#[115, 108, 116]⟩,
 ⟨#[109, 117, 120]⟩, ⟨#[106, 111, 105, 110]⟩, ⟨#[115, 108, 105, 99, 101]⟩, ⟨#[122, 101, 120, 116]⟩, ⟨#[115, 101, 120, 116]⟩, ⟨#[115, 104, 108]⟩, ⟨#[115, 104, 114]⟩] : List ByteArray).getD k ⟨#[]⟩
def opCells (k : Nat) : List V := [.str (opName k), .int .i64 (argC k : Nat), .bool (hasV k), .func (fitsF k) [], .func (runF k) (runC k)]
def opsAll : List V := (List.range 19).flatMap opCells
theorem AS : ∀ k, k < 19 → (opsAll.drop (k * 5)).take 5 = opCells k := by
 intro k hk
 match k, hk with
 | 0, _ | 1, _ | 2, _ | 3, _ | 4, _ | 5, _ | 6, _ | 7, _ | 8, _ | 9, _ | 10, _ | 11, _ | 12, _ | 13, _ | 14, _ | 15, _ | 16, _ | 17, _ | 18, _ => rfl
 | k + 19, hk => omega
theorem mn : opsAll.length = 95 := rfl
theorem nV : V.pureL opsAll = true := by kernel_rfl
theorem rS : opsAll.all V.isCell = true := by kernel_rfl
theorem AT (bs : List Nat) (H : Heap) (s : ByteArray) (f : Nat) : callw X bs 196 [.str s, .func f []] H = some (.agg [.str s, .int .i64 2, .bool false, .func 193 [], .func 236 [.eptr [.func f []] 0]], H) := by
 refine yw2 (rs := [.cell 4 208]) (N := 8) (fn := Tryz.f196) D3 Tryz.func196 ?_
 all_goals try (refine zs ?_; repeat' first | apply zs0 | apply zs2 | (intro hc; try have hq := dq hc))
attribute [push_cast] AT
theorem xI (bs : List Nat) (H : Heap) (s : ByteArray) (f : Nat) : callw X bs 203 [.str s, .func f []] H = some (.agg [.str s, .int .i64 2, .bool false, .func 237 [], .func 238 [.eptr [.func f []] 0]], H) := by
 refine yw2 (rs := [.cell 4 208]) (N := 8) (fn := Tryz.f203) Ea Tryz.func203 ?_
 all_goals try (refine zs ?_; repeat' first | apply zs0 | apply zs2 | (intro hc; try have hq := dq hc))
attribute [push_cast] xI
theorem vD (bs : List Nat) (H : Heap)  : callw X bs 167 [] H = some (.agg opsAll, H) := by
 refine yw2 (rs := [.cell 0 209]) (N := 24) (fn := Tryz.f167) DF Tryz.func167 ?_
 all_goals try (refine zs ?_; repeat' first | apply zs0 | apply zs2 | (intro hc; try have hq := dq hc))
 apply rf
 ·simp
 ·(simp only [seval, push_cast, *] <;> rfl)
 ·exact bL (v := .agg opsAll) nV
 ·simp only [seval, push_cast]
attribute [push_cast] vD
theorem nat0 (k : Nat) (n : Nat) (h : k ≠ n) : decide ((k : Int) = (n : Int)) = false := decide_eq_false (fun e => h (by omega))
theorem sub1 (n : Nat) (hn : n ≤ 1000000) : IntKind.i64.wrap ((n : Int) - 1) = (n : Int) - 1 := by rw [bi] <;> omega
theorem xJ (bs : List Nat) (H : Heap) (leaves : List Int) (x : Node) (k : Nat) (hk : x.op = (k : Int)) (hl : leaves.length ≤ 1000000) : callw X bs 174 [.list (leaves.map (.int .i64)), encNode x, .agg (opCells k)] H = some (.int .i64 (valueErrS leaves k x), H) := by
 refine yw2 (rs := [.tmp 6]) (N := 49) (fn := Tryz.f174) DM Tryz.func174 ?_
 simp only [opCells]
 by_cases h0 : k = 0
 ·subst h0
  simp only [valueErrS, if_true]
  repeat' first
   | (refine yw0 (id := 7) oz2 ?_)
   | (refine zs ?_; repeat' first | apply zs0 | apply zs2 | (intro hc; try have hq := dq hc)) | fail
 have d0 : decide ((k : Int) = 0) = false := nat0 k 0 h0
 by_cases h1 : k = 1
 ·subst h1
  have hw := sub1 leaves.length hl
  simp only [valueErrS, if_true, if_neg h0]
  by_cases hv : 0 ≤ x.value ∧ x.value < leaves.length
  ·obtain ⟨v, hvv⟩ : ∃ v : Nat, x.value = v := ⟨x.value.toNat, by omega⟩
   have hlt : v < leaves.length := by omega
   have hget : leaves[v]? = some leaves[v] := by simp [hlt]
   have hat : at0 leaves v = leaves[v] := by simp [at0, List.getD, hget]
   rw [if_pos hv, hvv, Int.toNat_natCast, hat]
   have hb : (decide (0 ≤ (v : Int)) && decide ((v : Int) ≤ (leaves.length : Int) - 1)) = true := by rw [Bool.and_eq_true, decide_eq_true_eq, decide_eq_true_eq]; omega
   clear hv hat
   generalize leaves[v] = y at hget
   repeat' first
    | (refine yw0 (id := 7) oz2 ?_)
    | (refine zs ?_; repeat' first | apply zs0 | apply zs2 | (intro hc; try have hq := dq hc)) | fail
  ·have hb : (decide (0 ≤ x.value) && decide (x.value ≤ (leaves.length : Int) - 1)) = false := by
    rw [Bool.and_eq_false_iff, decide_eq_false_iff_not, decide_eq_false_iff_not]; omega
   rw [if_neg hv]
   clear hv
   repeat' first
    | (refine yw0 (id := 7) oz2 ?_)
    | (refine zs ?_; repeat' first | apply zs0 | apply zs2 | (intro hc; try have hq := dq hc)) | fail
 have d1 : decide ((k : Int) = 1) = false := nat0 k 1 h1
 by_cases h2 : k = 14
 ·subst h2
  simp only [valueErrS, if_true, if_neg h0, if_neg h1]
  repeat' first
   | (refine yw0 (id := 7) oz2 ?_)
   | (refine zs ?_; repeat' first | apply zs0 | apply zs2 | (intro hc; try have hq := dq hc)) | fail
 have d2 : decide ((k : Int) = 14) = false := nat0 k 14 h2
 simp only [valueErrS, if_neg h0, if_neg h1, if_neg h2]
 clear h0 h1 h2
 cases hv : hasV k
 ·repeat' first
   | (refine yw0 (id := 7) oz2 ?_)
   | (refine zs ?_; repeat' first | apply zs0 | apply zs2 | (intro hc; try have hq := dq hc)) | fail
 ·repeat' first
   | (refine yw0 (id := 7) oz2 ?_)
   | (refine zs ?_; repeat' first | apply zs0 | apply zs2 | (intro hc; try have hq := dq hc)) | fail
end Go.E
namespace Go.E
open Go.Proofs
set_option maxRecDepth 100000
set_option maxHeartbeats 4000000
theorem uX (bs : List Nat) (H : Heap) (i : Int) (n : Int) : callw X bs 164 [.int .i64 i, .int .i64 n] H = some (.int .i64 (if isW n = true then 0 else 2), H) := by
 refine yw2 (rs := [.tmp 4]) (N := 8) (fn := Tryz.f164) DC Tryz.func164 ?_
 simp only [isW]
 all_goals try (refine zs ?_; repeat' first | apply zs0 | apply zs2 | (intro hc; try have hq := dq hc))
attribute [push_cast] uX
theorem AU (bs : List Nat) (H : Heap) (n : Int) (i : Nat) (id : Nat) (hi : i ≤ 1000000) (hH : H[id]? = some (.cells [.int .i64 i])) : callw X bs 173 [.int .i64 n, .ptr id 0] H = some (.bool (!(decide (0 ≤ n) && decide (n ≤ (i : Int) - 1))), H) := by
 refine yw2 (rs := [.tmp 3]) (N := 9) (fn := Tryz.f173) DL Tryz.func173 ?_
 have hw := sub1 i hi
 all_goals try (refine zs ?_; repeat' first | apply zs0 | apply zs2 | (intro hc; try have hq := dq hc))
attribute [push_cast] AU
theorem jv (nodes : List Node) (a : List Int) (n : Int) (y : Node) (h : nodes[n.toNat]? = some y) : widthsOf nodes (a ++ [n]) = widthsOf nodes a ++ [y.width] := by simp [widthsOf, h]
theorem AV (bs : List Nat) (H : Heap) (ci cx co : HObj) (nodes : List Node) (args : List Int) (c : Nat) (hl : args.length ≤ 1000000) (hargs : ∀ n ∈ args, 0 ≤ n ∧ n < nodes.length) (hC : H[c]? = some (.cells [.list (nodes.map encNode)])) :
  ∀ i ρ H', i ≤ args.length → (∃ ws, ws = widthsOf nodes (args.take i) ∧ H' = H ++ [ci, cx, co, .tok ws.length] ∧ ρ 4 = .ptr c 0 ∧ ρ 12 = .tl (H.length + 3) (ws.map (.int .i64)) ∧ ρ 56 = .list (args.map (.int .i64)) ∧ ρ 57 = .int .i64 args.length ∧ ρ 58 = .int .i64 i) →
   Lp X ⟨80, bs⟩ (loopAt Tryz.f169 0) ρ H' fun ex ρ' H' => H' = H ++ [ci, cx, co, .tok args.length] ∧ ex = .exit 0 ∧ ρ' 12 = .tl (H.length + 3) ((widthsOf nodes args).map (.int .i64)) := by
 have hC2 := iQ hC
 clear hC
 refine dO ?_ ?_
 ·rintro i ρ H' hi ⟨ws, hws, rfl, h4, h12, h56, h57, h58⟩
  have hget : args[i]? = some args[i] := by simp [hi]
  have hm := hargs args[i] (List.getElem_mem hi)
  have htk : args.take (i + 1) = args.take i ++ [args[i]] := by rw [List.take_add_one, hget]; rfl
  generalize args[i] = n at hget hm htk
  obtain ⟨m, rfl⟩ : ∃ m : Nat, n = m := ⟨n.toNat, by omega⟩
  have hlt : m < nodes.length := by omega
  have hget2 : nodes[m]? = some nodes[m] := by simp [hlt]
  have hsn := jv nodes (args.take i) m nodes[m] (by simp)
  generalize nodes[m] = y at hget2 hsn
  have hlen : ws.length = i := by rw [hws]; simp [widthsOf]; omega
  have hroom := pm ws.length (by omega)
  have hw := add1 i args.length hi hl
  rw [← hws, ← htk] at hsn
  replace hws : Kp (ws = widthsOf nodes (args.take i)) := ⟨hws⟩
  replace hsn : Kp (widthsOf nodes (args.take (i + 1)) = ws ++ [y.width]) := ⟨hsn⟩
  replace hlen : Kp (ws.length = i) := ⟨hlen⟩
  clear htk hm
  conv => arg 3; whnf
  all_goals try (refine zs ?_; repeat' first | apply zs0 | apply zs2 | (intro hc; try have hq := dq hc))
  exact ⟨ws ++ [y.width], hsn.out.symm, by simp, yw3, by simp [push_cast], yw3, yw3, yw3⟩
 ·rintro ρ H' ⟨ws, hws, rfl, h4, h12, h56, h57, h58⟩
  rw [List.take_length] at hws
  have hlen : ws.length = args.length := by rw [hws]; simp [widthsOf]
  replace hws : Kp (ws = widthsOf nodes args) := ⟨hws⟩
  replace hlen : Kp (ws.length = args.length) := ⟨hlen⟩
  conv => arg 3; whnf
  all_goals try (refine zs ?_; repeat' first | apply zs0 | apply zs2 | (intro hc; try have hq := dq hc))
  exact ⟨by rw [hlen.out], rfl, by rw [← hws.out]; (simp only [seval, push_cast, *] <;> rfl)⟩
theorem Ga (k : Nat) : argC k ≤ 3 := by
 match k with
 | 0 | 1 | 2 | 3 | 4 | 5 | 6 | 7 | 8 | 9 | 10 | 11 | 12 | 13 | 14 | 15 | 16 | 17 | 18 => decide
 | k + 19 => exact Nat.zero_le _
theorem Gb (bs : List Nat) (H : Heap) (leaves : List Int) (nodes : List Node) (i : Nat) (x : Node) (a b c : Nat) (hi : i ≤ nodes.length) (hn : nodes.length ≤ 1000000) (hl : leaves.length ≤ 1000000) (hal : x.args.length ≤ 1000000) (hA : H[a]? = some (.cells opsAll)) (hB : H[b]? = some (.cells [.list (leaves.map (.int .i64))])) (hC : H[c]? = some (.cells [.list (nodes.map encNode)])) : callw X bs 169 [.int .i64 i, encNode x, .ptr a 0, .ptr b 0, .ptr c 0] H = some (.int .i64 (nodeErrS leaves nodes i x), H) := by
 refine yw2 (rs := [.tmp 7]) (N := 80) (fn := Tryz.f169) DH Tryz.func169 ?_
 have hA2 := iQ hA
 have hB2 := iQ hB
 have hC2 := iQ hC
 unfold nodeErrS
 by_cases hop : 0 ≤ x.op ∧ x.op ≤ 18
 case neg =>
  have hb : (decide (0 ≤ x.op) && decide (x.op ≤ 18)) = false := by rw [Bool.and_eq_false_iff, decide_eq_false_iff_not, decide_eq_false_iff_not]; omega
  rw [if_pos hop]
  clear hop hC hC2
  repeat' first
   | (refine yw1 (id := 1) oz26 oz27 ?_)
   | (refine yw1 (id := 6) oz28 oz29 ?_)
   | (refine zs ?_; repeat' first | apply zs0 | apply zs2 | (intro hc; try have hq := dq hc)) | fail
 rw [if_neg (by simpa using hop)]
 obtain ⟨k, hk⟩ : ∃ k : Nat, x.op = k := ⟨x.op.toNat, by omega⟩
 have hk19 : k < 19 := by omega
 have hk18 : (k : Int) ≤ 18 := by omega
 rw [hk, Int.toNat_natCast]
 cases hw : isW x.width with
 | false =>
  rw [if_pos rfl]
  unfold isW at hw
  clear hop hC hC2
  repeat' first
   | (refine yw1 (id := 1) oz26 oz27 ?_)
   | (refine yw1 (id := 6) oz28 oz29 ?_)
   | (refine zs ?_; repeat' first | apply zs0 | apply zs2 | (intro hc; try have hq := dq hc)) | fail
 | true =>
 rw [if_neg (by simp)]
 unfold isW at hw
 have h95 : k * 5 + 5 ≤ 95 := by omega
 have hat := AS k hk19
 have hodd := fun (bs : List Nat) (l : List HObj) => mS bs (H ++ .cells [.int .i64 i] :: l) x.args 173 [.ptr H.length 0] (fun n => !(decide (0 ≤ n) && decide (n ≤ (i : Int) - 1))) hal (fun bs n _ => AU bs _ n i H.length (by omega) (by simp))
 have hve := fun (bs : List Nat) (H : Heap) => xJ bs H leaves x k hk hl
 simp only [encNode, encInts, hk] at hve
 simp only [opCells] at hat hve
 have hlen95 := mn
 by_cases hlen : x.args.length = argC k
 case neg =>
  have dl : decide ((x.args.length : Int) = ((argC k : Nat) : Int)) = false := decide_eq_false (by omega)
  rw [if_pos hlen]
  clear hop hC hC2 hlen
  repeat' first
   | (refine yw1 (id := 1) oz26 oz27 ?_)
   | (refine yw1 (id := 6) oz28 oz29 ?_)
   | (refine zs ?_; repeat' first | apply zs0 | apply zs2 | (intro hc; try have hq := dq hc)) | fail
 rw [if_neg (by simpa using hlen)]
 have dl : decide ((x.args.length : Int) = ((argC k : Nat) : Int)) = true := decide_eq_true (by omega)
 cases ho : x.args.any (fun n => !(decide (0 ≤ n) && decide (n ≤ (i : Int) - 1))) with
 | true =>
  rw [if_pos rfl]
  clear hop hC hC2 hlen
  repeat' first
   | (refine yw1 (id := 1) oz26 oz27 ?_)
   | (refine yw1 (id := 6) oz28 oz29 ?_)
   | (refine zs ?_; repeat' first | apply zs0 | apply zs2 | (intro hc; try have hq := dq hc)) | fail
 | false =>
 rw [if_neg (by simp)]
 by_cases hv : valueErrS leaves k x = 0
 case neg =>
  have dv : decide (valueErrS leaves k x = 0) = false := decide_eq_false hv
  rw [if_pos hv]
  clear hop hC hC2 hlen
  repeat' first
   | (refine yw1 (id := 1) oz26 oz27 ?_)
   | (refine yw1 (id := 6) oz28 oz29 ?_)
   | (refine zs ?_; repeat' first | apply zs0 | apply zs2 | (intro hc; try have hq := dq hc)) | fail
 rw [if_neg (by simpa using hv)]
 have hargs : ∀ n ∈ x.args, 0 ≤ n ∧ n < nodes.length := fun n hnm => by
  rw [List.any_eq_false] at ho
  have := ho n hnm
  simp only [Bool.not_eq_true', Bool.and_eq_false_iff, decide_eq_false_iff_not, not_or, Decidable.not_not] at this
  omega
 have hfit := fun (bs : List Nat) (H : Heap) => AQ bs H k hk19 x.width x.value (widthsOf nodes x.args) (by simpa [widthsOf] using hlen)
 have hloop := fun (bs : List Nat) (ci cx co : HObj) (ρ : Env) => AV bs H ci cx co nodes x.args c hal hargs hC 0 ρ
 clear hop hC hlen
 clear hargs
 repeat' first
  | (refine yw1 (id := 1) oz26 oz27 ?_)
  | (refine yw1 (id := 6) oz28 oz29 ?_)
  | (refine zs ?_; repeat' first | apply zs0 | apply zs2 | (intro hc; try have hq := dq hc)) | fail
 refine ab (af (c := loopAt Tryz.f169 0) rfl (hloop _ _ _ _ _ _ (by omega) ⟨[], rfl, rfl, yw3, yw3, yw3, yw3, yw3⟩)) ?_
 rintro ex ρ' H' ⟨rfl, rfl, h12⟩ hf
 have f9 := hf 9 rfl
 have f6 := hf 6 rfl
 simp only [seval, push_cast] at f9 f6
 clear hloop
 repeat' first
  | (refine yw1 (id := 1) oz26 oz27 ?_)
  | (refine yw1 (id := 6) oz28 oz29 ?_)
  | (refine zs ?_; repeat' first | apply zs0 | apply zs2 | (intro hc; try have hq := dq hc)) | fail
theorem pZ (bs : List Nat) (H : Heap) (leaves : List Int) (nodes : List Node) (hl : leaves.length ≤ 1000000) (hn : nodes.length ≤ 1000000) (hal : ∀ x ∈ nodes, x.args.length ≤ 1000000) : callw X bs 103 [.list (leaves.map (.int .i64)), .list (nodes.map encNode)] H = some (.tuple [.int .i64 (checkNodesS leaves nodes).1, .int .i64 (checkNodesS leaves nodes).2], H) := by
 refine yw2 (rs := [.tmp 4, .tmp 5]) (N := 30) (fn := Tryz.f103) CO Tryz.func103 ?_
 unfold checkNodesS
 by_cases h40 : 40 < leaves.length
 case pos =>
  rw [if_pos h40]
  have d : decide ((40 : Int) < leaves.length) = true := decide_eq_true (by omega)
  clear hal
  all_goals try (refine zs ?_; repeat' first | apply zs0 | apply zs2 | (intro hc; try have hq := dq hc))
 have d : decide ((40 : Int) < leaves.length) = false := decide_eq_false (by omega)
 rw [if_neg h40]
 have he1 := fun (bs : List Nat) (H : Heap) => mR bs H 164 [] (fun _ n => if isW n = true then (0 : Int) else 2) leaves hl (fun bs i x junk _ => uX bs _ i x)
 simp only [show encInt = V.int .i64 from rfl] at he1
 by_cases hr : (eachP (fun _ n => if isW n = true then (0 : Int) else 2) 0 leaves).2 = 0
 case neg =>
  rw [if_pos hr]
  generalize eachP (fun _ n => if isW n = true then (0 : Int) else 2) 0 leaves = r at he1 hr
  clear hal h40
  all_goals try (refine zs ?_; repeat' first | apply zs0 | apply zs2 | (intro hc; try have hq := dq hc))
 rw [if_neg (by simpa using hr)]
 by_cases h400 : 400 < nodes.length
 case pos =>
  rw [if_pos h400]
  have d : decide ((400 : Int) < nodes.length) = true := decide_eq_true (by omega)
  clear hal h40 h400
  all_goals try (refine zs ?_; repeat' first | apply zs0 | apply zs2 | (intro hc; try have hq := dq hc))
 rw [if_neg h400]
 have d : decide ((400 : Int) < nodes.length) = false := decide_eq_false (by omega)
 have he2 := fun (bs : List Nat) => ry bs (H ++ [.cells [.list (leaves.map (.int .i64))], .cells [.list (nodes.map encNode)], .cells opsAll]) 169 [.ptr (H.length + 2) 0, .ptr H.length 0, .ptr (H.length + 1) 0] (nodeErrS leaves nodes) nodes hn
  (fun bs i x junk hx => Gb bs _ leaves nodes i x _ _ _ (by have := (List.getElem?_eq_some_iff.1 hx).1; omega) hn hl (hal x (List.mem_of_getElem? hx)) (iQ (by simp) _) (iQ (by simp) _) (iQ (by simp) _))
 have hp := nV
 have hlen := mn
 have hc := rS
 clear hal h40 h400
 all_goals try (refine zs ?_; repeat' first | apply zs0 | apply zs2 | (intro hc; try have hq := dq hc))
end Go.E
namespace Go.E
theorem kd {k : Nat} (h : k ≤ 32) : (2 : Int) ^ k ≤ 4294967296 := by
 have : (2 : Nat) ^ k ≤ 2 ^ 32 := Nat.pow_le_pow_right (by omega) h
 have h2 : ((2 ^ k : Nat) : Int) ≤ ((2 ^ 32 : Nat) : Int) := Int.ofNat_le.2 this
 simpa using h2
theorem pow_pos' (k : Nat) : (0 : Int) < 2 ^ k := Int.pow_pos (by omega)
theorem mD (k : Nat) : ((2 ^ k : Nat) : Int) = 2 ^ k := by simp
theorem mT {w : Int} (h : w ≤ 32) : shl1 w = 2 ^ w.toNat := by
 unfold shl1
 have hk : w.toNat ≤ 32 := by omega
 rw [Nat.min_eq_left (by omega), Int.one_mul]
 have := kd hk
 have := pow_pos' w.toNat
 rw [bi] <;> omega
theorem c64 : (2 : Int) ^ 64 = 18446744073709551616 := by decide
theorem AW (x : Int) (k : Nat) (hk : k ≤ 64) : (((x % 2 ^ 64).toNat % 2 ^ k : Nat) : Int) = x % 2 ^ k := by
 rw [Int.natCast_emod, Int.toNat_of_nonneg (Int.emod_nonneg _ (by decide)), mD]
 exact Int.emod_emod_of_dvd x ⟨2 ^ (64 - k), by rw [← Int.pow_add]; congr 1; omega⟩
theorem AX (x : Int) (k : Nat) (hk : k ≤ 32) : bitsI .and .i64 x (2 ^ k - 1) = x % 2 ^ k := by
 have h1 := kd hk
 have h2 := pow_pos' k
 have e1 : ((2 : Int) ^ k - 1) % 2 ^ 64 = 2 ^ k - 1 := Int.emod_eq_of_lt (by omega) (by rw [c64]; omega)
 have e2 : ((2 : Int) ^ k - 1).toNat = 2 ^ k - 1 := by
  have := mD k
  have h3 : 0 < 2 ^ k := Nat.pow_pos (by omega)
  omega
 have e3 : (BitVec.ofInt 64 x &&& BitVec.ofInt 64 (2 ^ k - 1)).toNat = (x % 2 ^ 64).toNat % 2 ^ k := by
  rw [BitVec.toNat_and, BitVec.toNat_ofInt, BitVec.toNat_ofInt]
  have c : ((2 ^ 64 : Nat) : Int) = 2 ^ 64 := by decide
  rw [c, e1, e2, Nat.and_two_pow_sub_one_eq_mod]
 show IntKind.i64.wrap ((BitVec.ofInt 64 x &&& BitVec.ofInt 64 (2 ^ k - 1)).toNat : Int) = _
 rw [e3, AW x k (by omega)]
 have h3 := Int.emod_nonneg x (b := 2 ^ k) (by omega)
 have h4 := Int.emod_lt_of_pos x h2
 rw [bi] <;> omega
theorem gD (n : Nat) (h : n < 2 ^ 32) : (BitVec.ofInt 64 (n : Int)).toNat = n := by
 rw [BitVec.toNat_ofInt]
 have c : ((2 ^ 64 : Nat) : Int) = 18446744073709551616 := by decide
 rw [c]
 have : (2 : Nat) ^ 32 = 4294967296 := by decide
 rw [Int.emod_eq_of_lt (by omega) (by omega)]
 omega
theorem sx (n : Nat) (h : n < 2 ^ 32) : IntKind.i64.wrap (n : Int) = n := by
 have : (2 : Nat) ^ 32 = 4294967296 := by decide
 rw [bi] <;> omega
theorem pq (a b : Nat) (ha : a < 2 ^ 32) (hb : b < 2 ^ 32) : bitsI .and .i64 a b = ((a &&& b : Nat) : Int) := by
 show IntKind.i64.wrap ((BitVec.ofInt 64 (a : Int) &&& BitVec.ofInt 64 (b : Int)).toNat : Int) = _
 rw [BitVec.toNat_and, gD a ha, gD b hb]
 exact sx _ (Nat.lt_of_le_of_lt Nat.and_le_left ha)
theorem uc (a b : Nat) (ha : a < 2 ^ 32) (hb : b < 2 ^ 32) : bitsI .or .i64 a b = ((a ||| b : Nat) : Int) := by
 show IntKind.i64.wrap ((BitVec.ofInt 64 (a : Int) ||| BitVec.ofInt 64 (b : Int)).toNat : Int) = _
 rw [BitVec.toNat_or, gD a ha, gD b hb]
 exact sx _ (Nat.or_lt_two_pow ha hb)
theorem wL (a b : Nat) (ha : a < 2 ^ 32) (hb : b < 2 ^ 32) : bitsI .xor .i64 a b = ((a ^^^ b : Nat) : Int) := by
 show IntKind.i64.wrap ((BitVec.ofInt 64 (a : Int) ^^^ BitVec.ofInt 64 (b : Int)).toNat : Int) = _
 rw [BitVec.toNat_xor, gD a ha, gD b hb]
 exact sx _ (Nat.xor_lt_two_pow ha hb)
theorem B4 (a : Nat) (ha : a < 2 ^ 32) : bitsI .xor .i64 (-1) a = -1 - (a : Int) := by
 show IntKind.i64.wrap ((BitVec.ofInt 64 (-1) ^^^ BitVec.ofInt 64 (a : Int)).toNat : Int) = _
 have e : BitVec.ofInt 64 (-1) = BitVec.allOnes 64 := by decide
 rw [e, BitVec.allOnes_xor, BitVec.toNat_not, gD a ha]
 have : (2 : Nat) ^ 32 = 4294967296 := by decide
 have c : (2 : Nat) ^ 64 = 18446744073709551616 := by decide
 rw [c]
 have e2 : ((18446744073709551616 - 1 - a : Nat) : Int) = 18446744073709551615 - (a : Int) := by omega
 rw [e2]
 unfold IntKind.wrap
 simp [IntKind.bits, IntKind.signed]
 omega
end Go.E
namespace Go.E
def sgn (n w : Int) : Int := if 2 ^ (w.toNat - 1) ≤ n then n - 2 ^ w.toNat else n
def applyS (k : Nat) (W v : Int) (a w : List Int) : Int :=
 match k with
 | 0 | 1 => v
 | 2 => 2 ^ W.toNat - 1 - at0 a 0
 | 3 => (((at0 a 0).toNat &&& (at0 a 1).toNat : Nat) : Int)
 | 4 => (((at0 a 0).toNat ||| (at0 a 1).toNat : Nat) : Int)
 | 5 => (((at0 a 0).toNat ^^^ (at0 a 1).toNat : Nat) : Int)
 | 6 => (at0 a 0 + at0 a 1) % 2 ^ W.toNat
 | 7 => (at0 a 0 - at0 a 1) % 2 ^ W.toNat
 | 8 => (at0 a 0 * at0 a 1) % 2 ^ W.toNat
 | 9 => if at0 a 0 = at0 a 1 then 1 else 0
 | 10 => if at0 a 0 < at0 a 1 then 1 else 0
 | 11 => if sgn (at0 a 0) (at0 w 0) < sgn (at0 a 1) (at0 w 0) then 1 else 0
 | 12 => if at0 a 0 = 1 then at0 a 1 else at0 a 2
 | 13 => at0 a 0 * 2 ^ (at0 w 1).toNat + at0 a 1
 | 14 => (at0 a 0 / 2 ^ v.toNat) % 2 ^ W.toNat
 | 15 => at0 a 0
 | 16 => sgn (at0 a 0) (at0 w 0) % 2 ^ W.toNat
 | 17 => if W ≤ at0 a 1 then 0 else (at0 a 0 * 2 ^ (at0 a 1).toNat) % 2 ^ W.toNat
 | _ => if W ≤ at0 a 1 then 0 else at0 a 0 / 2 ^ (at0 a 1).toNat
def InW (n w : Int) : Prop := 0 ≤ n ∧ n < 2 ^ w.toNat
structure OkArgs (k : Nat) (W v : Int) (a w : List Int) : Prop where
 k19 : k < 19
 W1 : 1 ≤ W
 W16 : W ≤ 16
 la : a.length = argC k
 lw : w.length = argC k
 rng : ∀ i, i < argC k → InW (at0 a i) (at0 w i)
 wid : ∀ i, i < argC k → 1 ≤ at0 w i ∧ at0 w i ≤ 16
 fit : fitsS k W w v = true
 val : k = 14 → 0 ≤ v ∧ v ≤ 15
 con : k = 0 → InW v W
theorem InW.lt32 {n w : Int} (h : InW n w) (hw : w ≤ 16) : n < 65536 := by
 obtain ⟨_, h2⟩ := h
 have : (2 : Nat) ^ w.toNat ≤ 2 ^ 16 := Nat.pow_le_pow_right (by omega) (by omega)
 have h3 : ((2 ^ w.toNat : Nat) : Int) ≤ ((2 ^ 16 : Nat) : Int) := Int.ofNat_le.2 this
 rw [mD] at h3
 have : ((2 ^ 16 : Nat) : Int) = 65536 := by decide
 omega
theorem ke {w : Int} (h : 1 ≤ w) : (2 : Int) ^ w.toNat = 2 * 2 ^ (w.toNat - 1) := by
 rw [Int.mul_comm, ← Int.pow_succ]; congr 1; omega
theorem Gc {n w : Int} (h : InW n w) (hw : 1 ≤ w) : -2 ^ (w.toNat - 1) ≤ sgn n w ∧ sgn n w < 2 ^ (w.toNat - 1) := by
 obtain ⟨h1, h2⟩ := h
 have h3 := ke hw
 have h4 := pow_pos' (w.toNat - 1)
 unfold sgn
 split <;> omega
theorem aC (x : Int) (r : List Int) : at0 (x :: r) 0 = x := rfl
theorem dW (x y : Int) (r : List Int) : at0 (x :: y :: r) 1 = y := rfl
theorem M2 (x y z : Int) (r : List Int) : at0 (x :: y :: z :: r) 2 = z := rfl
theorem yC (x : Int) (k : Nat) : 0 ≤ x % 2 ^ k ∧ x % 2 ^ k < 2 ^ k := ⟨Int.emod_nonneg _ (by have := pow_pos' k; omega), Int.emod_lt_of_pos _ (pow_pos' k)⟩
theorem jh {n w : Int} (h : InW n w) : n.toNat < 2 ^ w.toNat := by
 have := h.2; have h0 := h.1; rw [← mD] at this; omega
theorem mE {m : Nat} {w : Nat} (h : m < 2 ^ w) : 0 ≤ (m : Int) ∧ (m : Int) < 2 ^ w := ⟨by omega, by rw [← mD]; omega⟩
theorem Hw {W : Int} (h : 1 ≤ W) : (2 : Int) ≤ 2 ^ W.toNat := by
 have := ke h; have := pow_pos' (W.toNat - 1); omega
theorem wM {a b : Int} (h : a ≤ b) : (2 : Int) ^ a.toNat ≤ 2 ^ b.toNat := by
 have : (2 : Nat) ^ a.toNat ≤ 2 ^ b.toNat := Nat.pow_le_pow_right (by omega) (by omega)
 have h3 := Int.ofNat_le.2 this
 simpa using h3
theorem zr {k : Nat} {W v : Int} {a w : List Int} (h : OkArgs k W v a w) (h1 : k ≠ 1) : InW (applyS k W v a w) W := by
 obtain ⟨hk, hW1, hW16, hla, hlw, hr, hw, hf, hv, hc⟩ := h
 have hp := pow_pos' W.toNat
 have hp2 := Hw hW1
 match k, hk, a, hla, w, hlw with
 | 0, _, _, _, _, _ => exact hc rfl
 | 1, _, _, _, _, _ => exact absurd rfl h1
 | 2, _, [x], _, [p], _ =>
  have r0 := hr 0 (by decide)
  simp only [fitsS, List.any_cons, List.any_nil, Bool.or_false, Bool.not_eq_true', decide_eq_false_iff_not, Decidable.not_not] at hf
  subst hf
  simp only [applyS, aC] at r0 ⊢
  obtain ⟨r1, r2⟩ := r0
  exact ⟨by omega, by omega⟩
 | 3, _, [x, y], _, [p, q], _ =>
  have r0 := hr 0 (by decide)
  have r1 := hr 1 (by decide)
  simp only [fitsS, List.any_cons, List.any_nil, Bool.or_false, Bool.not_eq_true', Bool.or_eq_false_iff, decide_eq_false_iff_not, Decidable.not_not] at hf
  obtain ⟨rfl, rfl⟩ := hf
  simp only [applyS, aC, dW] at r0 r1 ⊢
  exact mE (Nat.lt_of_le_of_lt Nat.and_le_left (jh r0))
 | 4, _, [x, y], _, [p, q], _ =>
  have r0 := hr 0 (by decide)
  have r1 := hr 1 (by decide)
  simp only [fitsS, List.any_cons, List.any_nil, Bool.or_false, Bool.not_eq_true', Bool.or_eq_false_iff, decide_eq_false_iff_not, Decidable.not_not] at hf
  obtain ⟨rfl, rfl⟩ := hf
  simp only [applyS, aC, dW] at r0 r1 ⊢
  exact mE (Nat.or_lt_two_pow (jh r0) (jh r1))
 | 5, _, [x, y], _, [p, q], _ =>
  have r0 := hr 0 (by decide)
  have r1 := hr 1 (by decide)
  simp only [fitsS, List.any_cons, List.any_nil, Bool.or_false, Bool.not_eq_true', Bool.or_eq_false_iff, decide_eq_false_iff_not, Decidable.not_not] at hf
  obtain ⟨rfl, rfl⟩ := hf
  simp only [applyS, aC, dW] at r0 r1 ⊢
  exact mE (Nat.xor_lt_two_pow (jh r0) (jh r1))
 | 6, _, _, _, _, _ | 7, _, _, _, _, _ | 8, _, _, _, _, _ | 14, _, _, _, _, _ | 16, _, _, _, _, _ => exact yC _ _
 | 9, _, _, _, _, _ | 10, _, _, _, _, _ | 11, _, _, _, _, _ =>
  simp only [applyS, InW]
  split <;> omega
 | 12, _, [x, y, z], _, [p, q, r], _ =>
  have r1 := hr 1 (by decide)
  have r2 := hr 2 (by decide)
  have hf2 : (decide (p = 1) && decide (q = W) && decide (r = W)) = true := hf
  rw [Bool.and_eq_true, Bool.and_eq_true] at hf2
  obtain rfl := of_decide_eq_true hf2.1.2
  obtain rfl := of_decide_eq_true hf2.2
  simp only [dW, M2] at r1 r2
  show InW (if x = 1 then y else z) r
  split
  ·exact r1
  ·exact r2
 | 13, _, [x, y], _, [p, q], _ =>
  have r0 := hr 0 (by decide)
  have r1 := hr 1 (by decide)
  have w0 := hw 0 (by decide)
  have w1 := hw 1 (by decide)
  have hf2 : IntKind.i64.wrap (p + q) = W := of_decide_eq_true hf
  simp only [aC, dW] at w0 w1
  rw [bi (by omega) (by omega)] at hf2
  subst hf2
  simp only [applyS, aC, dW] at r0 r1 ⊢
  obtain ⟨a1, a2⟩ := r0
  obtain ⟨b1, b2⟩ := r1
  have e : (2 : Int) ^ (p + q).toNat = 2 ^ p.toNat * 2 ^ q.toNat := by rw [← Int.pow_add]; congr 1; omega
  have hq := pow_pos' q.toNat
  refine ⟨by have := Int.mul_nonneg a1 (Int.le_of_lt hq); omega, ?_⟩
  rw [e]
  have : (x + 1) * 2 ^ q.toNat ≤ 2 ^ p.toNat * 2 ^ q.toNat := Int.mul_le_mul_of_nonneg_right (by omega) (by omega)
  rw [Int.add_mul] at this
  omega
 | 15, _, [x], _, [p], _ =>
  have r0 := hr 0 (by decide)
  have hf2 : p ≤ W := of_decide_eq_true hf
  simp only [applyS, aC] at r0 ⊢
  obtain ⟨a1, a2⟩ := r0
  have := wM hf2
  exact ⟨a1, by omega⟩
 | 17, _, _, _, _, _ =>
  simp only [applyS]
  split
  ·exact ⟨by omega, by omega⟩
  ·exact yC _ _
 | 18, _, [x, y], _, [p, q], _ =>
  have r0 := hr 0 (by decide)
  obtain rfl : p = W := of_decide_eq_true hf
  simp only [aC] at r0
  obtain ⟨a1, a2⟩ := r0
  show InW (if p ≤ y then 0 else x / 2 ^ y.toNat) p
  split
  ·exact ⟨by omega, by omega⟩
  ·refine ⟨Int.ediv_nonneg a1 (by have := pow_pos' y.toNat; omega), Int.lt_of_le_of_lt (Int.ediv_le_self _ a1) a2⟩
 | k + 19, hk, _, _, _, _ => omega
end Go.E
namespace Go.E
open Go.Proofs
set_option maxRecDepth 100000
set_option maxHeartbeats 4000000
theorem Gd {P : Program} {t : TypeId} {k k' : IntKind} {a b : Int} (h : 0 ≤ b) : binOpV P .shr t (.int k a) (.int k' b) = some (.int k (a.fdiv (2 ^ (min b.toNat k.bits)))) := by
 simp [binOpV, shiftOp, Int.not_lt.2 h]
attribute [push_cast] Gd
theorem Hx {n : Int} : unOpV .xor (.int .i64 n) = some (.int .i64 (bitsI .xor .i64 (-1) n)) := rfl
attribute [push_cast] Hx
theorem wN {w : Int} (h : w ≤ 32) : IntKind.i64.wrap (1 * 2 ^ (min w.toNat IntKind.i64.bits)) = 2 ^ w.toNat := mT h
theorem sy {n : Nat} (h : n ≤ 64) : min n IntKind.i64.bits = n := Nat.min_eq_left h
theorem mF (bs : List Nat) (H : Heap) (n width : Int) (h0 : 0 ≤ width) (h : width ≤ 16) : callw X bs 195 [.int .i64 n, .int .i64 width] H = some (.int .i64 (n % 2 ^ width.toNat), H) := by
 refine yw2 (rs := [.tmp 4]) (N := 10) (fn := Tryz.f195) D2 Tryz.func195 ?_
 have hs := wN (w := width) (by omega)
 have h1 := kd (k := width.toNat) (by omega)
 have h2 := pow_pos' width.toNat
 have hw : IntKind.i64.wrap ((2 : Int) ^ width.toNat - 1) = 2 ^ width.toNat - 1 := by rw [bi] <;> omega
 have hm := AX n width.toNat (by omega)
 clear h1 h2
 all_goals try (refine zs ?_; repeat' first | apply zs0 | apply zs2 | (intro hc; try have hq := dq hc))
theorem B5 (bs : List Nat) (H : Heap) (b : Bool) : callw X bs 239 [.bool b] H = some (.int .i64 (if b = true then 1 else 0), H) := by
 refine yw2 (rs := [.tmp 2]) (N := 4) (fn := Tryz.f239) ED Tryz.func239 ?_
 cases b
 ·all_goals try (refine zs ?_; repeat' first | apply zs0 | apply zs2 | (intro hc; try have hq := dq hc))
 ·all_goals try (refine zs ?_; repeat' first | apply zs0 | apply zs2 | (intro hc; try have hq := dq hc))
attribute [push_cast] B5
theorem Ge : bitsI .and .i64 1 1 = 1 := by
 have := pq 1 1 (by decide) (by decide)
 simpa using this
theorem Gf : bitsI .and .i64 0 1 = 0 := by
 have := pq 0 1 (by decide) (by decide)
 simpa using this
theorem qC (bs : List Nat) (H : Heap) (n w : Int) (hn : InW n w) (h1 : 1 ≤ w) (h16 : w ≤ 16) : callw X bs 207 [.int .i64 n, .int .i64 w] H = some (.int .i64 (sgn n w), H) := by
 refine yw2 (rs := [.tmp 4]) (N := 16) (fn := Tryz.f207) Ee Tryz.func207 ?_
 obtain ⟨n0, n1⟩ := hn
 have e0 : IntKind.i64.wrap (w - 1) = w - 1 := by rw [bi] <;> omega
 have e1 : (0 : Int) ≤ w - 1 := by omega
 have e7 : (0 : Int) ≤ w := by omega
 have e2 : min (w - 1).toNat IntKind.i64.bits = w.toNat - 1 := by rw [sy (by omega)]; omega
 have hp := pow_pos' (w.toNat - 1)
 have hps := ke h1
 have hs := wN (w := w) (by omega)
 have hle := kd (k := w.toNat) (by omega)
 unfold sgn
 by_cases hc : 2 ^ (w.toNat - 1) ≤ n
 ·have e3 : n.fdiv (2 ^ (w.toNat - 1)) = 1 := by
   rw [Int.fdiv_eq_ediv_of_nonneg _ (by omega)]
   have a1 : 1 ≤ n / 2 ^ (w.toNat - 1) := (Int.le_ediv_iff_mul_le hp).2 (by omega)
   have a2 : n / 2 ^ (w.toNat - 1) < 2 := (Int.ediv_lt_iff_lt_mul hp).2 (by omega)
   omega
  have e4 : bitsI .and .i64 1 1 = 1 := Ge
  have e5 : IntKind.i64.wrap (n - 2 ^ w.toNat) = n - 2 ^ w.toNat := by rw [bi] <;> omega
  rw [if_pos hc]
  clear hc hp hps hle n0 n1
  all_goals try (refine zs ?_; repeat' first | apply zs0 | apply zs2 | (intro hc; try have hq := dq hc))
 ·have e3 : n.fdiv (2 ^ (w.toNat - 1)) = 0 := by
   rw [Int.fdiv_eq_ediv_of_nonneg _ (by omega)]
   exact Int.ediv_eq_zero_of_lt n0 (by omega)
  have e4 : bitsI .and .i64 0 1 = 0 := Gf
  rw [if_neg hc]
  clear hc hp hps hle n0 n1 hs
  all_goals try (refine zs ?_; repeat' first | apply zs0 | apply zs2 | (intro hc; try have hq := dq hc))
theorem AY (bs : List Nat) (H : Heap) (x y : Int) : callw X bs 197 [.int .i64 x, .int .i64 y] H = some (.int .i64 (bitsI .and .i64 x y), H) := by
 refine yw2 (rs := [.tmp 4]) (N := 8) (fn := Tryz.f197) D4 Tryz.func197 ?_
 all_goals try (refine zs ?_; repeat' first | apply zs0 | apply zs2 | (intro hc; try have hq := dq hc))
attribute [push_cast] AY
theorem EE (bs : List Nat) (H : Heap) (x y : Int) : callw X bs 198 [.int .i64 x, .int .i64 y] H = some (.int .i64 (bitsI .or .i64 x y), H) := by
 refine yw2 (rs := [.tmp 4]) (N := 8) (fn := Tryz.f198) D5 Tryz.func198 ?_
 all_goals try (refine zs ?_; repeat' first | apply zs0 | apply zs2 | (intro hc; try have hq := dq hc))
attribute [push_cast] EE
theorem AZ (bs : List Nat) (H : Heap) (x y : Int) : callw X bs 199 [.int .i64 x, .int .i64 y] H = some (.int .i64 (bitsI .xor .i64 x y), H) := by
 refine yw2 (rs := [.tmp 4]) (N := 8) (fn := Tryz.f199) D6 Tryz.func199 ?_
 all_goals try (refine zs ?_; repeat' first | apply zs0 | apply zs2 | (intro hc; try have hq := dq hc))
attribute [push_cast] AZ
theorem A0 (bs : List Nat) (H : Heap) (x y : Int) : callw X bs 200 [.int .i64 x, .int .i64 y] H = some (.int .i64 (IntKind.i64.wrap (x + y)), H) := by
 refine yw2 (rs := [.tmp 4]) (N := 8) (fn := Tryz.f200) D7 Tryz.func200 ?_
 all_goals try (refine zs ?_; repeat' first | apply zs0 | apply zs2 | (intro hc; try have hq := dq hc))
attribute [push_cast] A0
theorem A1 (bs : List Nat) (H : Heap) (x y : Int) : callw X bs 201 [.int .i64 x, .int .i64 y] H = some (.int .i64 (IntKind.i64.wrap (x - y)), H) := by
 refine yw2 (rs := [.tmp 4]) (N := 8) (fn := Tryz.f201) D8 Tryz.func201 ?_
 all_goals try (refine zs ?_; repeat' first | apply zs0 | apply zs2 | (intro hc; try have hq := dq hc))
attribute [push_cast] A1
theorem A2 (bs : List Nat) (H : Heap) (x y : Int) : callw X bs 202 [.int .i64 x, .int .i64 y] H = some (.int .i64 (IntKind.i64.wrap (x * y)), H) := by
 refine yw2 (rs := [.tmp 4]) (N := 8) (fn := Tryz.f202) D9 Tryz.func202 ?_
 all_goals try (refine zs ?_; repeat' first | apply zs0 | apply zs2 | (intro hc; try have hq := dq hc))
attribute [push_cast] A2
theorem EF (bs : List Nat) (H : Heap) (x y w : Int) : callw X bs 204 [.int .i64 x, .int .i64 y, .int .i64 w] H = some (.bool (decide (x = y)), H) := by
 refine yw2 (rs := [.tmp 6]) (N := 10) (fn := Tryz.f204) Eb Tryz.func204 ?_
 all_goals try (refine zs ?_; repeat' first | apply zs0 | apply zs2 | (intro hc; try have hq := dq hc))
attribute [push_cast] EF
theorem EG (bs : List Nat) (H : Heap) (x y w : Int) : callw X bs 205 [.int .i64 x, .int .i64 y, .int .i64 w] H = some (.bool (decide (x < y)), H) := by
 refine yw2 (rs := [.tmp 6]) (N := 10) (fn := Tryz.f205) Ec Tryz.func205 ?_
 all_goals try (refine zs ?_; repeat' first | apply zs0 | apply zs2 | (intro hc; try have hq := dq hc))
attribute [push_cast] EG
theorem Hy (bs : List Nat) (H : Heap) (x y w : Int) (hx : InW x w) (hy : InW y w) (h1 : 1 ≤ w) (h16 : w ≤ 16) : callw X bs 206 [.int .i64 x, .int .i64 y, .int .i64 w] H = some (.bool (decide (sgn x w < sgn y w)), H) := by
 refine yw2 (rs := [.tmp 6]) (N := 14) (fn := Tryz.f206) Ed Tryz.func206 ?_
 have t1 := fun bs H => qC bs H x w hx h1 h16
 have t2 := fun bs H => qC bs H y w hy h1 h16
 clear hx hy
 all_goals try (refine zs ?_; repeat' first | apply zs0 | apply zs2 | (intro hc; try have hq := dq hc))
theorem oD (bs : List Nat) (H : Heap) (op W v : Int) (ar w : List V) (f : Nat) (p q r : Int) (h0 : 0 ≤ W) (h16 : W ≤ 16) (hf : ∀ bs H, callw X bs f [.int .i64 p, .int .i64 q] H = some (.int .i64 r, H)) : callw X bs 236 [.agg [.int .i64 op, .int .i64 W, .list ar, .int .i64 v], .list w, .list [.int .i64 p, .int .i64 q], .eptr [.func f []] 0] H = some (.int .i64 (r % 2 ^ W.toNat), H) := by
 refine yw2 (rs := [.tmp 7]) (N := 19) (fn := Tryz.f236) EA Tryz.func236 ?_
 have t1 := fun bs H => mF bs H r W h0 h16
 repeat' first
  | (refine yw1 (id := 1) [0, 1, 2, 3, 4, 5, 6, 8, 9, 7, 10, 11] [(8, 9)] ?_)
  | (refine zs ?_; repeat' first | apply zs0 | apply zs2 | (intro hc; try have hq := dq hc)) | fail
theorem wO (bs : List Nat) (H : Heap) (op W v : Int) (ar w : List V) (f : Nat) (p q s : Int) (b : Bool) (hf : ∀ bs H, callw X bs f [.int .i64 p, .int .i64 q, .int .i64 s] H = some (.bool b, H)) : callw X bs 238 [.agg [.int .i64 op, .int .i64 W, .list ar, .int .i64 v], .list (.int .i64 s :: w), .list [.int .i64 p, .int .i64 q], .eptr [.func f []] 0] H = some (.int .i64 (if b = true then 1 else 0), H) := by
 refine yw2 (rs := [.tmp 7]) (N := 20) (fn := Tryz.f238) EC Tryz.func238 ?_
 repeat' first
  | (refine yw0 (id := 1) oz39 ?_)
  | (refine zs ?_; repeat' first | apply zs0 | apply zs2 | (intro hc; try have hq := dq hc)) | fail
theorem M3 (bs : List Nat) (H : Heap) (op W v : Int) (ar w a : List V) : callw X bs 191 [.agg [.int .i64 op, .int .i64 W, .list ar, .int .i64 v], .list w, .list a] H = some (.int .i64 v, H) := by
 refine yw2 (rs := [.tmp 6]) (N := 9) (fn := Tryz.f191) DY Tryz.func191 ?_
 all_goals try (refine zs ?_; repeat' first | apply zs0 | apply zs2 | (intro hc; try have hq := dq hc))
theorem M4 (bs : List Nat) (H : Heap) (op W v x : Int) (ar w : List V) (hx : InW x W) (h1 : 1 ≤ W) (h16 : W ≤ 16) : callw X bs 194 [.agg [.int .i64 op, .int .i64 W, .list ar, .int .i64 v], .list w, .list [.int .i64 x]] H = some (.int .i64 (2 ^ W.toNat - 1 - x), H) := by
 refine yw2 (rs := [.tmp 6]) (N := 14) (fn := Tryz.f194) D1 Tryz.func194 ?_
 obtain ⟨a1, a2⟩ := hx
 have hp := kd (k := W.toNat) (by omega)
 obtain ⟨m, rfl⟩ : ∃ m : Nat, x = m := ⟨x.toNat, by omega⟩
 have e1 : bitsI .xor .i64 (-1) m = -1 - (m : Int) := B4 m (by
  have : (2 : Nat) ^ 32 = 4294967296 := by decide
  omega)
 have e2 : (-1 - (m : Int)) % 2 ^ W.toNat = 2 ^ W.toNat - 1 - m := by
  rw [← Int.add_emod_right, Int.emod_eq_of_lt (by omega) (by omega)]; omega
 have t1 := fun bs H => mF bs H (-1 - (m : Int)) W (by omega) h16
 rw [e2] at t1
 clear e2 hp a1 a2 h1 h16
 repeat' first
  | (refine yw0 (id := 1) oz0 ?_)
  | (refine zs ?_; repeat' first | apply zs0 | apply zs2 | (intro hc; try have hq := dq hc)) | fail
theorem Hz (bs : List Nat) (H : Heap) (op W v x y z : Int) (ar w : List V) : callw X bs 209 [.agg [.int .i64 op, .int .i64 W, .list ar, .int .i64 v], .list w, .list [.int .i64 x, .int .i64 y, .int .i64 z]] H = some (.int .i64 (if x = 1 then y else z), H) := by
 refine yw2 (rs := [.tmp 6]) (N := 17) (fn := Tryz.f209) Eg Tryz.func209 ?_
 by_cases h : x = 1
 ·have d : decide (x = 1) = true := decide_eq_true h
  rw [if_pos h]
  clear h
  all_goals try (refine zs ?_; repeat' first | apply zs0 | apply zs2 | (intro hc; try have hq := dq hc))
 ·have d : decide (x = 1) = false := decide_eq_false h
  rw [if_neg h]
  clear h
  all_goals try (refine zs ?_; repeat' first | apply zs0 | apply zs2 | (intro hc; try have hq := dq hc))
theorem qD {x q : Int} (hx : 0 ≤ x ∧ x < 65536) (h0 : 0 ≤ q) (h : q ≤ 16) : IntKind.i64.wrap (x * 2 ^ (min q.toNat IntKind.i64.bits)) = x * 2 ^ q.toNat := by
 rw [sy (by omega)]
 have h1 := kd (k := q.toNat) (by omega)
 have h2 := pow_pos' q.toNat
 have h3 : x * 2 ^ q.toNat ≤ 65536 * 4294967296 := Int.le_trans (Int.mul_le_mul_of_nonneg_right (by omega) (by omega)) (Int.mul_le_mul_of_nonneg_left h1 (by omega))
 have h4 := Int.mul_nonneg hx.1 (Int.le_of_lt h2)
 rw [bi] <;> omega
theorem HA {x y q : Int} (hx : 0 ≤ x ∧ x < 65536) (h0 : 0 ≤ q) (h : q ≤ 16) (hy : InW y q) : bitsI .or .i64 (x * 2 ^ q.toNat) y = x * 2 ^ q.toNat + y := by
 obtain ⟨y1, y2⟩ := hy
 obtain ⟨a, rfl⟩ : ∃ a : Nat, x = a := ⟨x.toNat, by omega⟩
 obtain ⟨b, rfl⟩ : ∃ b : Nat, y = b := ⟨y.toNat, by omega⟩
 have hb : b < 2 ^ q.toNat := by rw [← mD] at y2; omega
 have h3 : 2 ^ q.toNat ≤ 2 ^ 16 := Nat.pow_le_pow_right (by omega) (by omega)
 have c16 : (2 : Nat) ^ 16 = 65536 := by decide
 have c32 : (2 : Nat) ^ 32 = 4294967296 := by decide
 have h4 : a * 2 ^ q.toNat ≤ 65535 * 65536 := Nat.mul_le_mul (by omega) (by omega)
 have e : ((a : Int) * 2 ^ q.toNat) = ((a * 2 ^ q.toNat : Nat) : Int) := by simp
 rw [e, uc _ _ (by omega) (by omega)]
 have := Nat.shiftLeft_add_eq_or_of_lt hb a
 rw [Nat.shiftLeft_eq] at this
 rw [← this]; simp
theorem HB (bs : List Nat) (H : Heap) (op W v x y s q : Int) (ar w : List V) (hx : 0 ≤ x ∧ x < 65536) (hq0 : 0 ≤ q) (hq : q ≤ 16) (hy : InW y q) : callw X bs 211 [.agg [.int .i64 op, .int .i64 W, .list ar, .int .i64 v], .list (.int .i64 s :: .int .i64 q :: w), .list [.int .i64 x, .int .i64 y]] H = some (.int .i64 (x * 2 ^ q.toNat + y), H) := by
 refine yw2 (rs := [.tmp 6]) (N := 18) (fn := Tryz.f211) Ei Tryz.func211 ?_
 have e1 := qD hx hq0 hq
 have e2 := HA hx hq0 hq hy
 clear hx hq hy
 repeat' first
  | (refine yw0 (id := 1) oz6 ?_)
  | (refine zs ?_; repeat' first | apply zs0 | apply zs2 | (intro hc; try have hq := dq hc)) | fail
theorem ud {x v : Int} (h0 : 0 ≤ v) (h : v ≤ 64) : x.fdiv (2 ^ (min v.toNat IntKind.i64.bits)) = x / 2 ^ v.toNat := by
 rw [sy (by omega), Int.fdiv_eq_ediv_of_nonneg _ (Int.le_of_lt (pow_pos' _))]
theorem HC (bs : List Nat) (H : Heap) (op W v x : Int) (ar w : List V) (hv0 : 0 ≤ v) (hv : v ≤ 15) (h0 : 0 ≤ W) (h16 : W ≤ 16) : callw X bs 213 [.agg [.int .i64 op, .int .i64 W, .list ar, .int .i64 v], .list w, .list [.int .i64 x]] H = some (.int .i64 (x / 2 ^ v.toNat % 2 ^ W.toNat), H) := by
 refine yw2 (rs := [.tmp 6]) (N := 16) (fn := Tryz.f213) Ek Tryz.func213 ?_
 have e1 := ud (x := x) hv0 (by omega)
 have t1 := fun bs H => mF bs H (x / 2 ^ v.toNat) W h0 h16
 clear hv h0 h16
 repeat' first
  | (refine yw0 (id := 1) oz2 ?_)
  | (refine zs ?_; repeat' first | apply zs0 | apply zs2 | (intro hc; try have hq := dq hc)) | fail
theorem HD (bs : List Nat) (H : Heap) (op W v x : Int) (ar w : List V) : callw X bs 215 [.agg [.int .i64 op, .int .i64 W, .list ar, .int .i64 v], .list w, .list [.int .i64 x]] H = some (.int .i64 x, H) := by
 refine yw2 (rs := [.tmp 6]) (N := 10) (fn := Tryz.f215) Em Tryz.func215 ?_
 all_goals try (refine zs ?_; repeat' first | apply zs0 | apply zs2 | (intro hc; try have hq := dq hc))
theorem HE (bs : List Nat) (H : Heap) (op W v x s : Int) (ar w : List V) (hx : InW x s) (hs1 : 1 ≤ s) (hs16 : s ≤ 16) (h0 : 0 ≤ W) (h16 : W ≤ 16) : callw X bs 216 [.agg [.int .i64 op, .int .i64 W, .list ar, .int .i64 v], .list (.int .i64 s :: w), .list [.int .i64 x]] H = some (.int .i64 (sgn x s % 2 ^ W.toNat), H) := by
 refine yw2 (rs := [.tmp 6]) (N := 17) (fn := Tryz.f216) En Tryz.func216 ?_
 have t0 := fun bs H => qC bs H x s hx hs1 hs16
 have t1 := fun bs H => mF bs H (sgn x s) W h0 h16
 clear hx hs1 hs16 h0 h16
 repeat' first
  | (refine yw1 (id := 1) [0, 1, 2, 3, 4, 5, 7, 8, 6, 9, 10] [(7, 8)] ?_)
  | (refine zs ?_; repeat' first | apply zs0 | apply zs2 | (intro hc; try have hq := dq hc)) | fail
theorem xK (x : Int) (k : Nat) : x * 2 ^ k % 2 ^ k = 0 := Int.mul_emod_left _ _
theorem HF (bs : List Nat) (H : Heap) (op W v x y : Int) (ar w : List V) (hx : 0 ≤ x ∧ x < 65536) (hy : 0 ≤ y) (h0 : 0 ≤ W) (h16 : W ≤ 16) : callw X bs 218 [.agg [.int .i64 op, .int .i64 W, .list ar, .int .i64 v], .list w, .list [.int .i64 x, .int .i64 y]] H = some (.int .i64 (if W ≤ y then 0 else x * 2 ^ y.toNat % 2 ^ W.toNat), H) := by
 refine yw2 (rs := [.tmp 6]) (N := 20) (fn := Tryz.f218) Ep Tryz.func218 ?_
 by_cases h : W ≤ y
 ·have e1 := qD hx h0 h16
  have e2 : (if y < W then y else W) = W := if_neg (by omega)
  have e3 : (if W < y then W else y) = W := by split <;> omega
  have t1 := fun bs H => mF bs H (x * 2 ^ W.toNat) W h0 h16
  rw [xK] at t1
  rw [if_pos h]
  clear hx hy h h16
  repeat' first
   | (refine yw0 (id := 1) oz54 ?_)
   | (refine zs ?_; repeat' first | apply zs0 | apply zs2 | (intro hc; try have hq := dq hc)) | fail
 ·have e1 := qD hx hy (by omega : y ≤ 16)
  have e2 : (if y < W then y else W) = y := if_pos (by omega)
  have e3 : (if W < y then W else y) = y := if_neg (by omega)
  have t1 := fun bs H => mF bs H (x * 2 ^ y.toNat) W h0 h16
  rw [if_neg h]
  clear hx h h0 h16
  repeat' first
   | (refine yw0 (id := 1) oz54 ?_)
   | (refine zs ?_; repeat' first | apply zs0 | apply zs2 | (intro hc; try have hq := dq hc)) | fail
theorem HG (bs : List Nat) (H : Heap) (op W v x y : Int) (ar w : List V) (hx : InW x W) (hy : 0 ≤ y) (h0 : 0 ≤ W) (h16 : W ≤ 16) : callw X bs 219 [.agg [.int .i64 op, .int .i64 W, .list ar, .int .i64 v], .list w, .list [.int .i64 x, .int .i64 y]] H = some (.int .i64 (if W ≤ y then 0 else x / 2 ^ y.toNat), H) := by
 refine yw2 (rs := [.tmp 6]) (N := 17) (fn := Tryz.f219) Er Tryz.func219 ?_
 by_cases h : W ≤ y
 ·have e1 := ud (x := x) h0 (by omega)
  have e4 : x / 2 ^ W.toNat = 0 := Int.ediv_eq_zero_of_lt hx.1 hx.2
  have e2 : (if y < W then y else W) = W := if_neg (by omega)
  have e3 : (if W < y then W else y) = W := by split <;> omega
  rw [if_pos h]
  rw [e4] at e1
  clear hx hy h h16 e4
  repeat' first
   | (refine yw0 (id := 1) oz20 ?_)
   | (refine zs ?_; repeat' first | apply zs0 | apply zs2 | (intro hc; try have hq := dq hc)) | fail
 ·have e1 := ud (x := x) hy (by omega)
  have e2 : (if y < W then y else W) = y := if_pos (by omega)
  have e3 : (if W < y then W else y) = y := if_neg (by omega)
  rw [if_neg h]
  clear hx h h0 h16
  repeat' first
   | (refine yw0 (id := 1) oz20 ?_)
   | (refine zs ?_; repeat' first | apply zs0 | apply zs2 | (intro hc; try have hq := dq hc)) | fail
end Go.E
namespace Go.E
def valsOf (vals : List Int) (a : List Int) : List Int := a.map fun n => at0 vals n.toNat
def valN (nodes : List Node) (lv : List Int) (done : List Int) (x : Node) : Int :=
 if x.op = 1 then at0 lv x.value.toNat else applyS x.op.toNat x.width x.value (valsOf done x.args) (widthsOf nodes x.args)
def valsL (nodes : List Node) (lv : List Int) : Nat → List Int
 | 0 => []
 | i + 1 => valsL nodes lv i ++ [match nodes[i]? with | some x => valN nodes lv (valsL nodes lv i) x | none => 0]
theorem gV (nodes : List Node) (lv : List Int) : ∀ i, (valsL nodes lv i).length = i
 | 0 => rfl
 | i + 1 => by rw [valsL, List.length_append, gV nodes lv i]; rfl
theorem pr {α : Type} (g : Nat → α → Int) : ∀ (l : List α) (i : Nat), (eachP g i l).2 = 0 → ∀ j x, l[j]? = some x → g (i + j) x = 0
 | [], _, _, j, x, hx => by simp at hx
 | y :: r, i, h, j, x, hx => by
  unfold eachP at h
  split at h
  ·rename_i hne; exact absurd h hne
  ·rename_i hz
   cases j with
   | zero => simp at hx; subst hx; simpa using hz
   | succ j =>
    simp at hx
    have := pr g r (i + 1) h j x hx
    rwa [show i + 1 + j = i + (j + 1) by omega] at this
structure GoodN (leaves : List Int) (nodes : List Node) (i : Nat) (x : Node) : Prop where
 op0 : 0 ≤ x.op
 op18 : x.op ≤ 18
 W1 : 1 ≤ x.width
 W16 : x.width ≤ 16
 la : x.args.length = argC x.op.toNat
 args : ∀ n ∈ x.args, 0 ≤ n ∧ n < i
 val : valueErrS leaves x.op.toNat x = 0
 fit : fitsS x.op.toNat x.width (widthsOf nodes x.args) x.value = true
theorem Gg {leaves : List Int} {nodes : List Node} {i : Nat} {x : Node} (h : nodeErrS leaves nodes i x = 0) : GoodN leaves nodes i x := by
 unfold nodeErrS at h
 split at h
 ·omega
 rename_i h1
 split at h
 ·omega
 rename_i h2
 split at h
 ·omega
 rename_i h3
 split at h
 ·omega
 rename_i h4
 split at h
 ·rename_i h5; exact absurd h h5
 rename_i h5
 split at h
 case isFalse => omega
 rename_i h6
 simp only [Decidable.not_not] at h1 h3 h5
 have hw : isW x.width = true := by cases hb : isW x.width with | true => rfl | false => exact absurd hb h2
 unfold isW at hw
 rw [Bool.and_eq_true, decide_eq_true_eq, decide_eq_true_eq] at hw
 refine ⟨h1.1, h1.2, hw.1, hw.2, h3, fun n hn => ?_, h5, h6⟩
 rw [Bool.not_eq_true, List.any_eq_false] at h4
 have := h4 n hn
 simp only [Bool.not_eq_true', Bool.and_eq_false_iff, decide_eq_false_iff_not, not_or, Decidable.not_not] at this
 omega
def GoodAll (leaves : List Int) (nodes : List Node) : Prop := ∀ i x, nodes[i]? = some x → GoodN leaves nodes i x
theorem tw {leaves : List Int} {nodes : List Node} (h : (checkNodesS leaves nodes).2 = 0) : GoodAll leaves nodes := by
 intro i x hx
 unfold checkNodesS at h
 split at h
 ·cases h
 split at h
 ·rename_i h2; exact absurd h h2
 split at h
 ·cases h
 have := pr _ nodes 0 h i x hx
 rw [Nat.zero_add] at this
 exact Gg this
theorem A3 {leaves : List Int} {nodes : List Node} (h : (checkNodesS leaves nodes).2 = 0) : ∀ (j : Nat) w, leaves[j]? = some w → 1 ≤ w ∧ w ≤ 16 := by
 intro j w hw
 unfold checkNodesS at h
 split at h
 ·cases h
 split at h
 ·rename_i h2; exact absurd h h2
 rename_i h2
 simp only [ne_eq, Decidable.not_not] at h2
 have := pr _ leaves 0 h2 j w hw
 split at this
 ·rename_i hb
  unfold isW at hb
  rw [Bool.and_eq_true, decide_eq_true_eq, decide_eq_true_eq] at hb
  exact hb
 ·omega
def LeafOk (leaves lv : List Int) : Prop := lv.length = leaves.length ∧ ∀ (j : Nat) w v, leaves[j]? = some w → lv[j]? = some v → InW v w
theorem fW {l : List Int} {i : Nat} {v : Int} (h : l[i]? = some v) : at0 l i = v := by simp [at0, h]
theorem rT (nodes : List Node) (a : List Int) (i : Nat) (n : Int) (y : Node) (h : a[i]? = some n) (hy : nodes[n.toNat]? = some y) : at0 (widthsOf nodes a) i = y.width := by
 simp [at0, widthsOf, h, hy]
theorem A4 (vals a : List Int) (i : Nat) (n : Int) (h : a[i]? = some n) : at0 (valsOf vals a) i = at0 vals n.toNat := by
 simp [at0, valsOf, h]
theorem pt {leaves : List Int} {x : Node} (h : valueErrS leaves 1 x = 0) : 0 ≤ x.value ∧ x.value < leaves.length ∧ at0 leaves x.value.toNat = x.width := by
 have h' : (if 0 ≤ x.value ∧ x.value < leaves.length then (if at0 leaves x.value.toNat = x.width then (0 : Int) else 25) else 6) = 0 := h
 split at h'
 ·rename_i h1; split at h'
  ·rename_i h2; exact ⟨h1.1, h1.2, h2⟩
  ·omega
 ·omega
theorem xL {leaves : List Int} {x : Node} (h : valueErrS leaves 14 x = 0) : 0 ≤ x.value ∧ x.value ≤ 15 := by
 simp only [valueErrS] at h
 simp at h
 omega
theorem xM {leaves : List Int} {x : Node} (hW1 : 1 ≤ x.width) (hW : x.width ≤ 16) (h : valueErrS leaves 0 x = 0) : InW x.value x.width := by
 have h2 : fitsG x.value x.width = true := by
  simp only [valueErrS, if_true] at h
  split at h
  ·assumption
  ·omega
 unfold fitsG at h2
 rw [mT (by omega)] at h2
 have h3 := kd (k := x.width.toNat) (by omega)
 have h4 := pow_pos' x.width.toNat
 rw [bi (by omega) (by omega)] at h2
 rw [Bool.and_eq_true, Bool.and_eq_true, decide_eq_true_eq, decide_eq_true_eq, decide_eq_true_eq] at h2
 exact ⟨by omega, by omega⟩
theorem oE {leaves lv : List Int} {nodes : List Node} (hg : GoodAll leaves nodes) (hl : LeafOk leaves lv) : ∀ i, i ≤ nodes.length →
  (∀ (j : Nat) x, j < i → nodes[j]? = some x → InW (at0 (valsL nodes lv i) j) x.width) := by
 intro i
 induction i with
 | zero => intro _ j x hj; omega
 | succ i ih =>
  intro hi j x hj hx
  have hlen := gV nodes lv i
  by_cases hji : j < i
  ·have e : at0 (valsL nodes lv (i + 1)) j = at0 (valsL nodes lv i) j := by
    simp only [valsL, at0, List.getD, List.getElem?_append_left (by omega : j < (valsL nodes lv i).length)]
   rw [e]
   exact ih (by omega) j x hji hx
  ·obtain rfl : j = i := by omega
   have e : at0 (valsL nodes lv (j + 1)) j = valN nodes lv (valsL nodes lv j) x := by
    simp only [valsL, hx, at0, List.getD]
    rw [List.getElem?_append_right (by omega), hlen]; simp
   rw [e]
   exact valN_ok hg hl (ih (by omega)) hx
where
 okArgs {leaves lv : List Int} {nodes : List Node} {i : Nat} {x : Node} (hg : GoodAll leaves nodes) (_hl : LeafOk leaves lv) (hv : ∀ (j : Nat) y, j < i → nodes[j]? = some y → InW (at0 (valsL nodes lv i) j) y.width) (hx : nodes[i]? = some x) :
   OkArgs x.op.toNat x.width x.value (valsOf (valsL nodes lv i) x.args) (widthsOf nodes x.args) := by
  have g := hg i x hx
  have hil : i < nodes.length := (List.getElem?_eq_some_iff.1 hx).1
  have key : ∀ q, q < argC x.op.toNat → ∃ n y, x.args[q]? = some n ∧ nodes[n.toNat]? = some y ∧ n.toNat < i := fun q hq => by
   have h1 : q < x.args.length := by rw [g.la]; exact hq
   have h2 := g.args x.args[q] (List.getElem_mem h1)
   have h3 : (x.args[q]).toNat < nodes.length := by omega
   exact ⟨x.args[q], nodes[(x.args[q]).toNat], by simp [h1], by simp [h3], by omega⟩
  refine ⟨by have := g.op18; omega, g.W1, g.W16, by simp [valsOf, g.la], by simp [widthsOf, g.la], fun q hq => ?_, fun q hq => ?_, g.fit, fun h => ?_, fun h => ?_⟩
  ·obtain ⟨n, y, h1, h2, h3⟩ := key q hq
   rw [A4 _ _ _ n h1, rT _ _ _ n y h1 h2]
   exact hv n.toNat y h3 h2
  ·obtain ⟨n, y, h1, h2, h3⟩ := key q hq
   rw [rT _ _ _ n y h1 h2]
   have := hg _ y h2
   exact ⟨this.W1, this.W16⟩
  ·have := g.val; rw [h] at this; exact xL this
  ·have := g.val; rw [h] at this; exact xM g.W1 g.W16 this
 valN_ok {leaves lv : List Int} {nodes : List Node} {i : Nat} {x : Node} (hg : GoodAll leaves nodes) (hl : LeafOk leaves lv) (hv : ∀ (j : Nat) y, j < i → nodes[j]? = some y → InW (at0 (valsL nodes lv i) j) y.width) (hx : nodes[i]? = some x) :
   InW (valN nodes lv (valsL nodes lv i) x) x.width := by
  have g := hg i x hx
  unfold valN
  split
  ·rename_i h1
   have hva := g.val
   rw [h1] at hva
   obtain ⟨a, b, c⟩ := pt hva
   have h2 : x.value.toNat < lv.length := by rw [hl.1]; omega
   have h3 : x.value.toNat < leaves.length := by omega
   have h4 := hl.2 x.value.toNat leaves[x.value.toNat] lv[x.value.toNat] (by simp [h3]) (by simp [h2])
   rw [← fW (l := leaves) (i := x.value.toNat) (v := leaves[x.value.toNat]) (by simp [h3]), c] at h4
   rw [fW (l := lv) (i := x.value.toNat) (v := lv[x.value.toNat]) (by simp [h2])]
   exact h4
  ·rename_i h1
   exact zr (okArgs hg hl hv hx) (by have := g.op0; omega)
end Go.E
namespace Go.E
open Go.Proofs
set_option maxRecDepth 100000
set_option maxHeartbeats 4000000
theorem HH : ∀ k, X.keep (runF k) = false
 | 0 | 1 | 2 | 3 | 4 | 5 | 6 | 7 | 8 | 9 | 10 | 11 | 12 | 13 | 14 | 15 | 16 | 17 | 18 => rfl
 | _ + 19 => rfl
theorem InW.w16 {n w : Int} (h : InW n w) (hw : w ≤ 16) : 0 ≤ n ∧ n < 65536 := ⟨h.1, h.lt32 hw⟩
theorem fH {x : Int} (h : 0 ≤ x) : ((x.toNat : Nat) : Int) = x := Int.toNat_of_nonneg h
theorem ii {n w : Int} (h : InW n w) (hw : w ≤ 16) : n.toNat < 2 ^ 32 := by
 have := h.lt32 hw
 have c : (2 : Nat) ^ 32 = 4294967296 := by decide
 omega
theorem B6 {x y : Int} (hx : 0 ≤ x ∧ x < 65536) (hy : 0 ≤ y ∧ y < 65536) : IntKind.i64.wrap (x * y) = x * y := by
 have h1 : x * y ≤ 65536 * 65536 := Int.le_trans (Int.mul_le_mul_of_nonneg_right (by omega) hy.1) (Int.mul_le_mul_of_nonneg_left (by omega) (by omega))
 have h2 := Int.mul_nonneg hx.1 hy.1
 rw [bi] <;> omega
theorem B7 (bs : List Nat) (H : Heap) (k : Nat) (op W v : Int) (ar : List V) (a w : List Int) (h : OkArgs k W v a w) (h1 : k ≠ 1) :
  callw X bs (runF k) (.agg [.int .i64 op, .int .i64 W, .list ar, .int .i64 v] :: .list (w.map (.int .i64)) :: .list (a.map (.int .i64)) :: runC k) H = some (.int .i64 (applyS k W v a w), H) := by
 obtain ⟨hk, hW1, hW16, hla, hlw, hr, hw, hf, hv, hc⟩ := h
 have hW0 : 0 ≤ W := by omega
 match k, hk, a, hla, w, hlw with
 | 0, _, a, _, w, _ => exact M3 bs H op W v ar _ _
 | 1, _, _, _, _, _ => exact absurd rfl h1
 | 2, _, [x], _, [p], _ =>
  have r0 := hr 0 (by decide)
  simp only [fitsS, List.any_cons, List.any_nil, Bool.or_false, Bool.not_eq_true', decide_eq_false_iff_not, Decidable.not_not] at hf
  subst hf
  exact M4 bs H op p v x ar _ r0 hW1 hW16
 | 3, _, [x, y], _, [p, q], _ =>
  have r0 := hr 0 (by decide)
  have r1 := hr 1 (by decide)
  simp only [fitsS, List.any_cons, List.any_nil, Bool.or_false, Bool.not_eq_true', Bool.or_eq_false_iff, decide_eq_false_iff_not, Decidable.not_not] at hf
  obtain ⟨rfl, rfl⟩ := hf
  simp only [aC, dW] at r0 r1
  have e := pq x.toNat y.toNat (ii r0 hW16) (ii r1 hW16)
  rw [fH r0.1, fH r1.1] at e
  have hres := mE (Nat.lt_of_le_of_lt (Nat.and_le_left (m := y.toNat)) (jh r0))
  have := oD bs H op q v ar [.int .i64 q, .int .i64 q] 197 x y _ hW0 hW16 (fun bs H => AY bs H x y)
  rw [e, Int.emod_eq_of_lt hres.1 hres.2] at this
  exact this
 | 4, _, [x, y], _, [p, q], _ =>
  have r0 := hr 0 (by decide)
  have r1 := hr 1 (by decide)
  simp only [fitsS, List.any_cons, List.any_nil, Bool.or_false, Bool.not_eq_true', Bool.or_eq_false_iff, decide_eq_false_iff_not, Decidable.not_not] at hf
  obtain ⟨rfl, rfl⟩ := hf
  simp only [aC, dW] at r0 r1
  have e := uc x.toNat y.toNat (ii r0 hW16) (ii r1 hW16)
  rw [fH r0.1, fH r1.1] at e
  have hres := mE (Nat.or_lt_two_pow (jh r0) (jh r1))
  have := oD bs H op q v ar [.int .i64 q, .int .i64 q] 198 x y _ hW0 hW16 (fun bs H => EE bs H x y)
  rw [e, Int.emod_eq_of_lt hres.1 hres.2] at this
  exact this
 | 5, _, [x, y], _, [p, q], _ =>
  have r0 := hr 0 (by decide)
  have r1 := hr 1 (by decide)
  simp only [fitsS, List.any_cons, List.any_nil, Bool.or_false, Bool.not_eq_true', Bool.or_eq_false_iff, decide_eq_false_iff_not, Decidable.not_not] at hf
  obtain ⟨rfl, rfl⟩ := hf
  simp only [aC, dW] at r0 r1
  have e := wL x.toNat y.toNat (ii r0 hW16) (ii r1 hW16)
  rw [fH r0.1, fH r1.1] at e
  have hres := mE (Nat.xor_lt_two_pow (jh r0) (jh r1))
  have := oD bs H op q v ar [.int .i64 q, .int .i64 q] 199 x y _ hW0 hW16 (fun bs H => AZ bs H x y)
  rw [e, Int.emod_eq_of_lt hres.1 hres.2] at this
  exact this
 | 6, _, [x, y], _, [p, q], _ =>
  have r0 := hr 0 (by decide)
  have r1 := hr 1 (by decide)
  simp only [fitsS, List.any_cons, List.any_nil, Bool.or_false, Bool.not_eq_true', Bool.or_eq_false_iff, decide_eq_false_iff_not, Decidable.not_not] at hf
  obtain ⟨rfl, rfl⟩ := hf
  simp only [aC, dW] at r0 r1
  have b0 := r0.w16 hW16
  have b1 := r1.w16 hW16
  have e : IntKind.i64.wrap (x + y) = x + y := by rw [bi] <;> omega
  have := oD bs H op q v ar [.int .i64 q, .int .i64 q] 200 x y _ hW0 hW16 (fun bs H => A0 bs H x y)
  rw [e] at this
  exact this
 | 7, _, [x, y], _, [p, q], _ =>
  have r0 := hr 0 (by decide)
  have r1 := hr 1 (by decide)
  simp only [fitsS, List.any_cons, List.any_nil, Bool.or_false, Bool.not_eq_true', Bool.or_eq_false_iff, decide_eq_false_iff_not, Decidable.not_not] at hf
  obtain ⟨rfl, rfl⟩ := hf
  simp only [aC, dW] at r0 r1
  have b0 := r0.w16 hW16
  have b1 := r1.w16 hW16
  have e : IntKind.i64.wrap (x - y) = x - y := by rw [bi] <;> omega
  have := oD bs H op q v ar [.int .i64 q, .int .i64 q] 201 x y _ hW0 hW16 (fun bs H => A1 bs H x y)
  rw [e] at this
  exact this
 | 8, _, [x, y], _, [p, q], _ =>
  have r0 := hr 0 (by decide)
  have r1 := hr 1 (by decide)
  simp only [fitsS, List.any_cons, List.any_nil, Bool.or_false, Bool.not_eq_true', Bool.or_eq_false_iff, decide_eq_false_iff_not, Decidable.not_not] at hf
  obtain ⟨rfl, rfl⟩ := hf
  simp only [aC, dW] at r0 r1
  have b0 := r0.w16 hW16
  have b1 := r1.w16 hW16
  have e : IntKind.i64.wrap (x * y) = x * y := B6 b0 b1
  have := oD bs H op q v ar [.int .i64 q, .int .i64 q] 202 x y _ hW0 hW16 (fun bs H => A2 bs H x y)
  rw [e] at this
  exact this
 | 9, _, [x, y], _, [p, q], _ =>
  have := wO bs H op W v ar [.int .i64 q] 204 x y p _ (fun bs H => EF bs H x y p)
  simp only [decide_eq_true_eq] at this
  exact this
 | 10, _, [x, y], _, [p, q], _ =>
  have := wO bs H op W v ar [.int .i64 q] 205 x y p _ (fun bs H => EG bs H x y p)
  simp only [decide_eq_true_eq] at this
  exact this
 | 11, _, [x, y], _, [p, q], _ =>
  have r0 := hr 0 (by decide)
  have r1 := hr 1 (by decide)
  have w0 := hw 0 (by decide)
  have hf2 : (decide (W = 1) && decide (p = q)) = true := hf
  rw [Bool.and_eq_true] at hf2
  obtain rfl := of_decide_eq_true hf2.2
  simp only [aC, dW] at r0 r1 w0
  have := wO bs H op W v ar [.int .i64 p] 206 x y p _ (fun bs H => Hy bs H x y p r0 r1 w0.1 w0.2)
  simp only [decide_eq_true_eq] at this
  exact this
 | 12, _, [x, y, z], _, [p, q, r], _ => exact Hz bs H op W v x y z ar _
 | 13, _, [x, y], _, [p, q], _ =>
  have r0 := hr 0 (by decide)
  have r1 := hr 1 (by decide)
  have w0 := hw 0 (by decide)
  have w1 := hw 1 (by decide)
  simp only [aC, dW] at r0 r1 w0 w1
  exact HB bs H op W v x y p q ar [] (r0.w16 w0.2) (by omega) w1.2 r1
 | 14, _, [x], _, [p], _ => exact HC bs H op W v x ar _ (hv rfl).1 (hv rfl).2 hW0 hW16
 | 15, _, [x], _, [p], _ => exact HD bs H op W v x ar _
 | 16, _, [x], _, [p], _ =>
  have r0 := hr 0 (by decide)
  have w0 := hw 0 (by decide)
  simp only [aC] at r0 w0
  exact HE bs H op W v x p ar [] r0 w0.1 w0.2 hW0 hW16
 | 17, _, [x, y], _, [p, q], _ =>
  have r0 := hr 0 (by decide)
  have r1 := hr 1 (by decide)
  have w0 := hw 0 (by decide)
  simp only [aC, dW] at r0 r1 w0
  exact HF bs H op W v x y ar _ (r0.w16 w0.2) r1.1 hW0 hW16
 | 18, _, [x, y], _, [p, q], _ =>
  have r0 := hr 0 (by decide)
  have r1 := hr 1 (by decide)
  obtain rfl : p = W := of_decide_eq_true hf
  simp only [aC, dW] at r0 r1
  exact HG bs H op p v x y ar _ r0 r1.1 hW0 hW16
 | k + 19, hk, _, _, _, _ => omega
section
variable {cx : Cx} {bs : List Nat} {f t : Nat} {a b : V} {es r : List V} {H : Heap}
theorem M5 (hk : cx.keep f = false) : callw cx bs f (a :: .tl t es :: r) H = callw cx bs f (a :: .list es :: r) H := jZ hk rfl
theorem M6 (hk : cx.keep f = false) : callw cx bs f (a :: b :: .tl t es :: r) H = callw cx bs f (a :: b :: .list es :: r) H := jZ hk rfl
end
attribute [push_cast] M5 M6 HH
theorem zx : ∀ k, k < 19 → opsAll[k * 5 + 4]? = some (.func (runF k) (runC k)) := by
 intro k hk
 match k, hk with
 | 0, _ | 1, _ | 2, _ | 3, _ | 4, _ | 5, _ | 6, _ | 7, _ | 8, _ | 9, _ | 10, _ | 11, _ | 12, _ | 13, _ | 14, _ | 15, _ | 16, _ | 17, _ | 18, _ => rfl
 | k + 19, hk => omega
theorem xN (vals a : List Int) (n v : Int) (h : vals[n.toNat]? = some v) : valsOf vals (a ++ [n]) = valsOf vals a ++ [v] := by simp [valsOf, at0, h]
theorem Gh (bs : List Nat) (H : Heap) (cx : HObj) (nodes : List Node) (vals args : List Int) (hl : args.length ≤ 1000000) (hargs : ∀ n ∈ args, 0 ≤ n ∧ n < nodes.length ∧ n < vals.length) :
  ∀ i ρ H', i ≤ args.length → (∃ ws vs, ws = widthsOf nodes (args.take i) ∧ vs = valsOf vals (args.take i) ∧ H' = H ++ [cx, .tok ws.length, .tok vs.length] ∧ ρ 1 = .list (nodes.map encNode) ∧ ρ 3 = .list (vals.map (.int .i64)) ∧
    ρ 9 = .tl (H.length + 1) (ws.map (.int .i64)) ∧ ρ 10 = .tl (H.length + 2) (vs.map (.int .i64)) ∧ ρ 14 = .list (args.map (.int .i64)) ∧ ρ 15 = .int .i64 args.length ∧ ρ 16 = .int .i64 i) →
   Lp X ⟨47, bs⟩ (loopAt Tryz.f234 0) ρ H' fun ex ρ' H' => H' = H ++ [cx, .tok args.length, .tok args.length] ∧ ex = .exit 0 ∧ ρ' 9 = .tl (H.length + 1) ((widthsOf nodes args).map (.int .i64)) ∧ ρ' 10 = .tl (H.length + 2) ((valsOf vals args).map (.int .i64)) := by
 refine dO ?_ ?_
 ·rintro i ρ H' hi ⟨ws, vs, hws, hvs, rfl, h1, h3, h9, h10, h14, h15, h16⟩
  have hget : args[i]? = some args[i] := by simp [hi]
  have hm := hargs args[i] (List.getElem_mem hi)
  have htk : args.take (i + 1) = args.take i ++ [args[i]] := by rw [List.take_add_one, hget]; rfl
  generalize args[i] = n at hget hm htk
  obtain ⟨m, rfl⟩ : ∃ m : Nat, n = m := ⟨n.toNat, by omega⟩
  have hlt : m < nodes.length := by omega
  have hltv : m < vals.length := by omega
  have hget2 : nodes[m]? = some nodes[m] := by simp [hlt]
  have hget3 : vals[m]? = some vals[m] := by simp [hltv]
  have hsn := jv nodes (args.take i) m nodes[m] (by simp)
  have hsv := xN vals (args.take i) m vals[m] (by simp)
  generalize nodes[m] = y at hget2 hsn
  generalize vals[m] = z at hget3 hsv
  have hlen : ws.length = i := by rw [hws]; simp [widthsOf]; omega
  have hlenv : vs.length = i := by rw [hvs]; simp [valsOf]; omega
  have hroom := pm ws.length (by omega)
  have hroomv := pm vs.length (by omega)
  have hw := add1 i args.length hi hl
  rw [← hws, ← htk] at hsn
  rw [← hvs, ← htk] at hsv
  replace hws : Kp (ws = widthsOf nodes (args.take i)) := ⟨hws⟩
  replace hvs : Kp (vs = valsOf vals (args.take i)) := ⟨hvs⟩
  replace hsn : Kp (widthsOf nodes (args.take (i + 1)) = ws ++ [y.width]) := ⟨hsn⟩
  replace hsv : Kp (valsOf vals (args.take (i + 1)) = vs ++ [z]) := ⟨hsv⟩
  replace hlen : Kp (ws.length = i) := ⟨hlen⟩
  replace hlenv : Kp (vs.length = i) := ⟨hlenv⟩
  clear htk hm hlt hltv hargs
  conv => arg 3; whnf
  repeat' first
   | (refine yw1 (id := 5) oz45 oz46 ?_)
   | (refine yw0 (id := 7) oz6 ?_)
   | (refine zs ?_; repeat' first | apply zs0 | apply zs2 | (intro hc; try have hq := dq hc)) | fail
  exact ⟨ws ++ [y.width], vs ++ [z], hsn.out.symm, hsv.out.symm, by simp, yw3, yw3, by simp [push_cast], by simp [push_cast], yw3, yw3, yw3⟩
 ·rintro ρ H' ⟨ws, vs, hws, hvs, rfl, h1, h3, h9, h10, h14, h15, h16⟩
  rw [List.take_length] at hws hvs
  have hlen : ws.length = args.length := by rw [hws]; simp [widthsOf]
  have hlenv : vs.length = args.length := by rw [hvs]; simp [valsOf]
  replace hws : Kp (ws = widthsOf nodes args) := ⟨hws⟩
  replace hvs : Kp (vs = valsOf vals args) := ⟨hvs⟩
  replace hlen : Kp (ws.length = args.length) := ⟨hlen⟩
  replace hlenv : Kp (vs.length = args.length) := ⟨hlenv⟩
  clear hargs
  conv => arg 3; whnf
  repeat' first
   | (refine yw1 (id := 5) oz45 oz46 ?_)
   | (refine yw0 (id := 7) oz6 ?_)
   | (refine zs ?_; repeat' first | apply zs0 | apply zs2 | (intro hc; try have hq := dq hc)) | fail
  exact ⟨by rw [hlen.out, hlenv.out], rfl, by rw [← hws.out]; (simp only [seval, push_cast, *] <;> rfl), by rw [← hvs.out]; (simp only [seval, push_cast, *] <;> rfl)⟩
end Go.E
namespace Go.E
open Go.Proofs
set_option maxRecDepth 100000
set_option maxHeartbeats 4000000
theorem zy (bs : List Nat) (H : Heap) (nodes : List Node) (x : Node) (vals : List Int) (b : Nat) (hB : H[b]? = some (.cells opsAll)) (hal : x.args.length ≤ 1000000) (h0 : 0 ≤ x.op) (h1 : x.op ≠ 1) (hargs : ∀ n ∈ x.args, 0 ≤ n ∧ n < nodes.length ∧ n < vals.length) (hok : OkArgs x.op.toNat x.width x.value (valsOf vals x.args) (widthsOf nodes x.args)) : callw X bs 234 [.ptr b 0, .list (nodes.map encNode), encNode x, .list (vals.map (.int .i64))] H = some (.int .i64 (applyS x.op.toNat x.width x.value (valsOf vals x.args) (widthsOf nodes x.args)), H) := by
 refine yw2 (rs := [.tmp 8]) (N := 47) (fn := Tryz.f234) Ey Tryz.func234 ?_
 have hB2 := iQ hB
 have hrun := fun bs H => B7 bs H x.op.toNat x.op x.width x.value (x.args.map (.int .i64)) _ _ hok (by omega)
 have hk19 := hok.k19
 obtain ⟨k, hk⟩ : ∃ k : Nat, x.op = k := ⟨x.op.toNat, by omega⟩
 rw [hk, Int.toNat_natCast] at hrun hk19
 rw [hk, Int.toNat_natCast]
 have hat := zx k hk19
 have h95 : k * 5 + 5 ≤ 95 := by omega
 have hlen95 := mn
 have hloop := fun (bs : List Nat) (cx : HObj) (ρ : Env) => Gh bs H cx nodes vals x.args hal hargs 0 ρ
 clear hargs hok hB
 repeat' first
  | (refine yw1 (id := 5) oz45 oz46 ?_)
  | (refine yw0 (id := 7) oz6 ?_)
  | (refine zs ?_; repeat' first | apply zs0 | apply zs2 | (intro hc; try have hq := dq hc)) | fail
 refine ab (af (c := loopAt Tryz.f234 0) rfl (hloop _ _ _ _ (by omega) ⟨[], [], rfl, rfl, rfl, yw3, yw3, yw3, yw3, yw3, yw3, yw3⟩)) ?_
 rintro ex ρ' H' ⟨rfl, rfl, h9, h10⟩ hf
 have f0 := hf 0 rfl
 have f6 := hf 6 rfl
 simp only [seval, push_cast] at f0 f6
 clear hloop
 repeat' first
  | (refine yw1 (id := 5) oz45 oz46 ?_)
  | (refine yw0 (id := 7) oz6 ?_)
  | (refine zs ?_; repeat' first | apply zs0 | apply zs2 | (intro hc; try have hq := dq hc)) | fail
theorem tx (nodes : List Node) (lv : List Int) (i : Nat) (x : Node) (h : nodes[i]? = some x) : valsL nodes lv (i + 1) = valsL nodes lv i ++ [valN nodes lv (valsL nodes lv i) x] := by simp only [valsL, h]
theorem Gi (bs : List Nat) (H : Heap) (t : HObj) (leaves lv : List Int) (nodes : List Node) (hn : nodes.length ≤ 1000000) (hal : ∀ x ∈ nodes, x.args.length ≤ 1000000) (hg : GoodAll leaves nodes) (hl : LeafOk leaves lv) :
  ∀ i ρ H', i ≤ nodes.length → (∃ vs junk, vs = valsL nodes lv i ∧ H' = H ++ t :: .cells opsAll :: .tok vs.length :: junk ∧ ρ 0 = .list (nodes.map encNode) ∧ ρ 1 = .list (lv.map (.int .i64)) ∧ ρ 5 = .ptr (H.length + 1) 0 ∧
    ρ 6 = .tl (H.length + 2) (vs.map (.int .i64)) ∧ ρ 11 = .list (nodes.map encNode) ∧ ρ 12 = .int .i64 nodes.length ∧ ρ 13 = .int .i64 i) →
   Lp X ⟨38, bs⟩ (loopAt Tryz.f186 0) ρ H' fun ex ρ' H' => ∃ vs junk, vs = valsL nodes lv nodes.length ∧ H' = H ++ t :: .cells opsAll :: .tok vs.length :: junk ∧ ex = .exit 0 ∧ ρ' 6 = .tl (H.length + 2) (vs.map (.int .i64)) := by
 refine dO ?_ ?_
 ·rintro i ρ H' hi ⟨vs, junk, hvs, rfl, h0, h1, h5, h6, h11, h12, h13⟩
  have hget : nodes[i]? = some nodes[i] := by simp [hi]
  have hal' := hal nodes[i] (List.getElem_mem hi)
  have g := hg i nodes[i] hget
  have hok := oE.okArgs hg hl (oE hg hl i (by omega)) hget
  have hsv := tx nodes lv i nodes[i] hget
  generalize nodes[i] = x at hget hal' g hok hsv
  have hlen : vs.length = i := by rw [hvs]; exact gV nodes lv i
  have hroom := pm vs.length (by omega)
  have hw := add1 i nodes.length hi hn
  rw [← hvs] at hsv hok
  have hlr : lv.length = leaves.length := hl.1
  clear hg hl hal
  by_cases h1' : x.op = 1
  ·have d : decide (x.op = 1) = true := decide_eq_true h1'
   have hva := g.val
   rw [h1'] at hva
   obtain ⟨a, b, c⟩ := pt hva
   obtain ⟨m, hm⟩ : ∃ m : Nat, x.value = m := ⟨x.value.toNat, by omega⟩
   have hlt : m < lv.length := by omega
   have hget2 : lv[m]? = some lv[m] := by simp [hlt]
   have hv : valN nodes lv vs x = lv[m] := by unfold valN; rw [if_pos h1', hm, Int.toNat_natCast]; exact fW hget2
   rw [hv] at hsv
   generalize lv[m] = z at hget2 hsv hv
   replace hvs : Kp (vs = valsL nodes lv i) := ⟨hvs⟩
   replace hsv : Kp (valsL nodes lv (i + 1) = vs ++ [z]) := ⟨hsv⟩
   replace hlen : Kp (vs.length = i) := ⟨hlen⟩
   clear hv hva a b c hlt h1' g hok hlr
   conv => arg 3; whnf
   all_goals try (refine zs ?_; repeat' first | apply zs0 | apply zs2 | (intro hc; try have hq := dq hc))
   exact ⟨vs ++ [z], _, hsv.out.symm, by simp only [List.length_append, List.length_singleton]; rfl, yw3, yw3, yw3, by simp [push_cast], yw3, yw3, yw3⟩
  ·have d : decide (x.op = 1) = false := decide_eq_false h1'
   have hv : valN nodes lv vs x = applyS x.op.toNat x.width x.value (valsOf vs x.args) (widthsOf nodes x.args) := by unfold valN; rw [if_neg h1']
   rw [hv] at hsv
   have hap := fun bs rest => zy bs (H ++ t :: .cells opsAll :: rest) nodes x vs (H.length + 1) (by simp) hal' g.op0 h1' (fun n hn => by have := g.args n hn; omega) hok
   simp only [encNode, encInts] at hap
   generalize applyS x.op.toNat x.width x.value (valsOf vs x.args) (widthsOf nodes x.args) = z at hsv hap
   replace hvs : Kp (vs = valsL nodes lv i) := ⟨hvs⟩
   replace hsv : Kp (valsL nodes lv (i + 1) = vs ++ [z]) := ⟨hsv⟩
   replace hlen : Kp (vs.length = i) := ⟨hlen⟩
   clear hv h1' g hok hlr
   conv => arg 3; whnf
   all_goals try (refine zs ?_; repeat' first | apply zs0 | apply zs2 | (intro hc; try have hq := dq hc))
   exact ⟨vs ++ [z], _, hsv.out.symm, by simp only [List.length_append, List.length_singleton]; rfl, yw3, yw3, yw3, by simp [push_cast], yw3, yw3, yw3⟩
 ·rintro ρ H' ⟨vs, junk, hvs, rfl, h0, h1, h5, h6, h11, h12, h13⟩
  replace hvs : Kp (vs = valsL nodes lv nodes.length) := ⟨hvs⟩
  clear hal hg hl
  conv => arg 3; whnf
  all_goals try (refine zs ?_; repeat' first | apply zs0 | apply zs2 | (intro hc; try have hq := dq hc))
  exact ⟨vs, junk, hvs.out, rfl, rfl, yw3⟩
theorem A5 (bs : List Nat) (H : Heap) (leaves lv : List Int) (nodes : List Node) (hn : nodes.length ≤ 1000000) (hal : ∀ x ∈ nodes, x.args.length ≤ 1000000) (hg : GoodAll leaves nodes) (hl : LeafOk leaves lv) : callw X bs 186 [.list (nodes.map encNode), .list (lv.map (.int .i64))] H = some (.list ((valsL nodes lv nodes.length).map (.int .i64)), H) := by
 refine yw2 (rs := [.tmp 4]) (N := 38) (fn := Tryz.f186) DU Tryz.func186 ?_
 have hloop := fun (bs : List Nat) (t : HObj) (ρ : Env) => Gi bs H t leaves lv nodes hn hal hg hl 0 ρ
 have hp := nV
 have hlen := mn
 have hc := rS
 clear hal hg hl
 all_goals try (refine zs ?_; repeat' first | apply zs0 | apply zs2 | (intro hc; try have hq := dq hc))
 refine ab (af (c := loopAt Tryz.f186 0) rfl (hloop _ _ _ _ (by omega) ⟨[], [], rfl, rfl, yw3, yw3, yw3, yw3, yw3, yw3, yw3⟩)) ?_
 rintro ex ρ' H' ⟨vs, junk, hvs, rfl, rfl, h6⟩ hf
 rw [← hvs]
 clear hloop hvs
 all_goals try (refine zs ?_; repeat' first | apply zs0 | apply zs2 | (intro hc; try have hq := dq hc))
end Go.E
namespace Go.E
open Go.Proofs
set_option maxRecDepth 100000
set_option maxHeartbeats 4000000
theorem tz {α : Type} (g : Nat → α → Int) : ∀ (l : List α) (i : Nat), (∀ j x, l[j]? = some x → g (i + j) x = 0) → eachP g i l = (0, 0)
 | [], _, _ => rfl
 | y :: r, i, h => by
  unfold eachP
  rw [if_neg (by simpa using h 0 y rfl)]
  exact tz g r (i + 1) (fun j x hx => by have := h (j + 1) x hx; rwa [show i + (j + 1) = i + 1 + j by omega] at this)
theorem B8 {n w : Int} (h1 : 1 ≤ w) (h16 : w ≤ 16) (h : InW n w) : fitsG n w = true := by
 unfold fitsG
 rw [mT (by omega)]
 have h3 := kd (k := w.toNat) (by omega)
 have h4 := pow_pos' w.toNat
 rw [bi (by omega) (by omega)]
 obtain ⟨a, b⟩ := h
 rw [Bool.and_eq_true, Bool.and_eq_true, decide_eq_true_eq, decide_eq_true_eq, decide_eq_true_eq]
 omega
theorem xO (bs : List Nat) (H : Heap) (leaves : List Int) (nodes : List Node) (hl : leaves.length ≤ 1000000) (hn : nodes.length ≤ 1000000) (hal : ∀ x ∈ nodes, x.args.length ≤ 1000000) : callw X bs 183 [.list (leaves.map (.int .i64)), .list (nodes.map encNode)] H = some (.int .i64 (checkNodesS leaves nodes).2, H) := by
 refine yw2 (rs := [.tmp 4]) (N := 14) (fn := Tryz.f183) DR Tryz.func183 ?_
 have t := fun bs H => pZ bs H leaves nodes hl hn hal
 clear hal
 all_goals try (refine zs ?_; repeat' first | apply zs0 | apply zs2 | (intro hc; try have hq := dq hc))
theorem HI (bs : List Nat) (H : Heap) (leaves : List Int) (i : Nat) (n w : Int) (a : Nat) (hi : leaves[i]? = some w) (hA : H[a]? = some (.cells [.list (leaves.map (.int .i64))])) : callw X bs 184 [.int .i64 i, .int .i64 n, .ptr a 0] H = some (.int .i64 (if fitsG n w = true then 0 else 2), H) := by
 refine yw2 (rs := [.tmp 5]) (N := 13) (fn := Tryz.f184) DS Tryz.func184 ?_
 all_goals try (refine zs ?_; repeat' first | apply zs0 | apply zs2 | (intro hc; try have hq := dq hc))
theorem xQ (bs : List Nat) (H : Heap) (leaves lv : List Int) (nodes : List Node) (hll : leaves.length ≤ 1000000) (hn : nodes.length ≤ 1000000) (hal : ∀ x ∈ nodes, x.args.length ≤ 1000000) (hc : (checkNodesS leaves nodes).2 = 0) (hl : LeafOk leaves lv) : callw X bs 153 [.list (leaves.map (.int .i64)), .list (nodes.map encNode), .list (lv.map (.int .i64))] H = some (.tuple [.list ((valsL nodes lv nodes.length).map (.int .i64)), .int .i64 0], H) := by
 refine yw2 (rs := [.tmp 6, .tmp 7]) (N := 37) (fn := Tryz.f153) Dv Tryz.func153 ?_
 have t1 := fun bs H => xO bs H leaves nodes hll hn hal
 rw [hc] at t1
 have hlen := hl.1
 have d : decide ((lv.length : Int) = (leaves.length : Int)) = true := decide_eq_true (by omega)
 have hw := A3 hc
 have t2 := fun (bs : List Nat) rest => mR bs (H ++ .cells [.list (leaves.map (.int .i64))] :: rest) 184 [.ptr H.length 0] (fun i n => if fitsG n (at0 leaves i) = true then 0 else 2) lv (by omega)
  (fun bs i x junk hx => by
   have hi : i < leaves.length := by rw [← hlen]; exact (List.getElem?_eq_some_iff.1 hx).1
   have hg : leaves[i]? = some leaves[i] := by simp [hi]
   have := HI bs ((H ++ .cells [.list (leaves.map (.int .i64))] :: rest) ++ junk) leaves i x leaves[i] H.length hg (by simp)
   rw [fW hg]
   exact this)
 rw [tz _ lv 0 (fun j x hx => by
  have hi : j < leaves.length := by rw [← hlen]; exact (List.getElem?_eq_some_iff.1 hx).1
  have hg : leaves[j]? = some leaves[j] := by simp [hi]
  rw [Nat.zero_add, fW hg, if_pos]
  exact B8 (hw j _ hg).1 (hw j _ hg).2 (hl.2 j _ _ hg hx))] at t2
 simp only [show encInt = V.int .i64 from rfl] at t2
 have t3 := fun bs H => A5 bs H leaves lv nodes hn hal (tw hc) hl
 clear hal hl hw hc
 repeat' first
  | (refine yw1 (id := 1) [0, 1, 3, 4, 5, 6, 7, 2, 8, 9, 10, 11] [(4, 7)] ?_)
  | (refine zs ?_; repeat' first | apply zs0 | apply zs2 | (intro hc; try have hq := dq hc)) | fail
end Go.E
