/- What helpers of the program say, in plain Lean. Own work. -/
import Derived.Test.YtbnakdpmjlcneaaGreatEF
set_option linter.all false
namespace Go.E

theorem dle_true {a b : Int} (h : decide (a ≤ b) = true) : a ≤ b := of_decide_eq_true h
theorem dlt_true {a b : Int} (h : decide (a < b) = true) : a < b := of_decide_eq_true h
theorem dle_false {a b : Int} (h : decide (a ≤ b) = false) : b < a := Int.not_le.1 (of_decide_eq_false h)
theorem dlt_false {a b : Int} (h : decide (a < b) = false) : b ≤ a := Int.not_lt.1 (of_decide_eq_false h)
def firstL : List Int → Int
  | [] => 0
  | e :: r => if e ≠ 0 then e else firstL r
theorem firstL_2 (a b : Int) : firstL [a, b] = if a ≠ 0 then a else b := by
  simp only [firstL]; split <;> (try rfl); split <;> simp_all

/-! ### Names -/
def badAt (i : Nat) (c : Int) : Bool :=
  !(decide (97 ≤ c) && decide (c ≤ 122) || decide (65 ≤ c) && decide (c ≤ 90)) && (decide (i = 0) || decide (c ≠ 95) && !(decide (48 ≤ c) && decide (c ≤ 57)))
def badIn : Nat → List UInt8 → Bool
  | _, [] => false
  | i, b :: r => badAt i b.toNat || badIn (i + 1) r
def isNameS (s : ByteArray) : Bool := !badIn 0 s.data.toList && (decide ((1 : Int) ≤ s.size) && decide ((s.size : Int) ≤ 16))

theorem wrap_byte (b : UInt8) : IntKind.i64.wrap ((b.toNat : Nat) : Int) = b.toNat := by have := b.toNat_lt; rw [wrap64] <;> omega
theorem idx0 (i : Nat) : decide ((i : Int) = 0) = decide (i = 0) := by congr 1; simp
attribute [push_cast] indexV convV wrap_byte

/-! ### Names that were seen, as a map -/
def namesM (ns : List ByteArray) : List (V × V) := ns.map fun s => (.str s, .bool true)
def addName (s : ByteArray) : List ByteArray → List ByteArray
  | [] => [s]
  | t :: r => if s = t then s :: r else t :: addName s r
def hasName (s : ByteArray) : List ByteArray → Bool
  | [] => false
  | t :: r => decide (s = t) || hasName s r
theorem find_names (s : ByteArray) : ∀ ns : List ByteArray, findV (.str s) (namesM ns) = some (if hasName s ns = true then some (.bool true) else none)
  | [] => rfl
  | t :: r => by
    have ih := find_names s r
    simp only [namesM, List.map_cons, findV, keyEq, hasName] at ih ⊢
    by_cases h : s = t
    · simp [h]
    · simp [h, ih]
theorem put_names (s : ByteArray) : ∀ ns : List ByteArray, putV (.str s) (.bool true) (namesM ns) = namesM (addName s ns)
  | [] => rfl
  | t :: r => by
    have ih := put_names s r
    simp only [namesM, List.map_cons, putV, keyEq, addName] at ih ⊢
    by_cases h : s = t
    · simp [h]
    · simp [h, ih]
def nameErr (ns : List ByteArray) (s : ByteArray) : Int := firstL [if isNameS s = true then 0 else 4, if hasName s ns = true then 5 else 0]

/-! ### What netlists are made of -/
structure Port where
  name : ByteArray
  width : Int
def encPort (p : Port) : V := .agg [.str p.name, .int .i64 p.width]
structure Reg where
  name : ByteArray
  width : Int
  init : Int
  enable : Int
  next : Int
def encReg (r : Reg) : V := .agg [.str r.name, .int .i64 r.width, .int .i64 r.init, .int .i64 r.enable, .int .i64 r.next]
structure Node where
  op : Int
  width : Int
  args : List Int
  value : Int
def encInt (n : Int) : V := .int .i64 n
def encInts (l : List Int) : V := .list (l.map (.int .i64))
def encNode (x : Node) : V := .agg [.int .i64 x.op, .int .i64 x.width, encInts x.args, .int .i64 x.value]
structure Outp where
  name : ByteArray
  node : Int
def encOutp (o : Outp) : V := .agg [.str o.name, .int .i64 o.node]
structure Netl where
  name : ByteArray
  inputs : List Port
  regs : List Reg
  nodes : List Node
  outs : List Outp
def cellsNetl (n : Netl) : List V := [.str n.name, .list (n.inputs.map encPort), .list (n.regs.map encReg), .list (n.nodes.map encNode), .list (n.outs.map encOutp)]
def encNetl (n : Netl) : V := .agg (cellsNetl n)
attribute [push_cast] encPort encReg encInt encInts encNode encOutp encNetl cellsNetl

theorem pureL_int (k : IntKind) (l : List Int) : V.pureL (l.map (.int k)) = true := pureL_map fun _ => rfl
theorem pureL_bool (l : List Bool) : V.pureL (l.map .bool) = true := pureL_map fun _ => rfl
theorem pureL_encPort (l : List Port) : V.pureL (l.map encPort) = true := pureL_map fun _ => rfl
theorem pureL_encReg (l : List Reg) : V.pureL (l.map encReg) = true := pureL_map fun _ => rfl
theorem pureL_encOutp (l : List Outp) : V.pureL (l.map encOutp) = true := pureL_map fun _ => rfl
theorem pure_encInts (l : List Int) : (encInts l).pure = true := by simp only [encInts, V.pure, pureL_int]
theorem pureL_encInts (l : List (List Int)) : V.pureL (l.map encInts) = true := pureL_map pure_encInts
theorem pure_encNode (x : Node) : (encNode x).pure = true := by simp only [encNode, V.pure, V.pureL, pure_encInts, Bool.and_self]
theorem pureL_encNode (l : List Node) : V.pureL (l.map encNode) = true := pureL_map pure_encNode
attribute [push_cast] pureL_int pureL_bool pureL_encPort pureL_encReg pureL_encOutp pureL_encInts pureL_encNode

theorem all_int (k : IntKind) (l : List Int) : (l.map (V.int k)).all (fun e => e.cells.length == 1) = true := all_cells_map fun _ => rfl
theorem all_bool (l : List Bool) : (l.map V.bool).all (fun e => e.cells.length == 1) = true := all_cells_map fun _ => rfl
theorem all_encInts (l : List (List Int)) : (l.map encInts).all (fun e => e.cells.length == 1) = true := all_cells_map fun _ => rfl
theorem all_encPort (l : List Port) : (l.map encPort).all (fun e => e.cells.length == 2) = true := all_cells_map fun _ => rfl
theorem all_encReg (l : List Reg) : (l.map encReg).all (fun e => e.cells.length == 5) = true := all_cells_map fun _ => rfl
theorem all_encNode (l : List Node) : (l.map encNode).all (fun e => e.cells.length == 4) = true := all_cells_map fun _ => rfl
theorem all_encOutp (l : List Outp) : (l.map encOutp).all (fun e => e.cells.length == 2) = true := all_cells_map fun _ => rfl
theorem room8 (n : Nat) (h : n ≤ 1000000) : (n + 1) * 8 ≤ roomB := by unfold roomB; omega
attribute [push_cast] all_int all_bool all_encInts all_encPort all_encReg all_encNode all_encOutp appendV elemsV firstL

/-! ### each -/
def eachL {α S : Type} (g : Nat → α → S → Int × S) : Nat → List α → S → (Int × Int) × S
  | _, [], s => ((0, 0), s)
  | i, x :: r, s => if (g i x s).1 ≠ 0 then (((i : Int), (g i x s).1), (g i x s).2) else eachL g (i + 1) r (g i x s).2

/-- Without a state. -/
def eachP {α : Type} (g : Nat → α → Int) : Nat → List α → Int × Int
  | _, [] => (0, 0)
  | i, x :: r => if g i x ≠ 0 then ((i : Int), g i x) else eachP g (i + 1) r
theorem eachL_P {α : Type} (g : Nat → α → Int) : ∀ (l : List α) (i : Nat), eachL (fun i x (u : Unit) => (g i x, u)) i l () = (eachP g i l, ())
  | [], _ => rfl
  | x :: r, i => by
    simp only [eachL, eachP]
    split
    · rfl
    · exact eachL_P g r (i + 1)

/-- What a function value does, asked of by 'each'. -/
def Does (X : Cx) {α S : Type} (enc : α → V) (HS : S → Heap) (fid : Nat) (caps : List V) (g : Nat → α → S → Int × S) (l : List α) : Prop :=
  ∀ (bs : List Nat) (i : Nat) (x : α) (s : S) (junk : Heap), l[i]? = some x → callw X bs fid (.int .i64 i :: enc x :: caps) (HS s ++ junk) = some (.int .i64 (g i x s).1, HS (g i x s).2 ++ junk)
end Go.E
/- What graphs are, in plain Lean. Own work. -/
namespace Go.E

/-! ### Whether some element is so -/
def idxF {α : Type} (p : α → Bool) : Int → List α → Int
  | _, [] => -1
  | i, x :: r => if p x = true then i else idxF p (i + 1) r
theorem idxF_any {α : Type} (p : α → Bool) : ∀ (l : List α) (i : Int), 0 ≤ i → decide (idxF p i l ≥ 0) = l.any p
  | [], i, _ => by simp [idxF]
  | x :: r, i, h => by
    simp only [idxF, List.any_cons]
    by_cases hp : p x = true
    · simp [hp, h]
    · have := idxF_any p r (i + 1) (by omega)
      simp only [Bool.not_eq_true] at hp
      simp only [hp, Bool.false_eq_true, if_false, Bool.false_or]; exact this

/-! ### Operations of nodes -/
def shl1 (n : Int) : Int := IntKind.i64.wrap (1 * 2 ^ (min n.toNat 64))
def fitsG (n width : Int) : Bool := decide (width ≥ 0) && (decide (0 ≤ n) && decide (n ≤ IntKind.i64.wrap (shl1 width - 1)))
def isW (n : Int) : Bool := decide (1 ≤ n) && decide (n ≤ 16)
def argC (k : Nat) : Nat := [0, 0, 1, 2, 2, 2, 2, 2, 2, 2, 2, 2, 3, 2, 1, 1, 1, 2, 2].getD k 0
def hasV (k : Nat) : Bool := [true, true, false, false, false, false, false, false, false, false, false, false, false, false, true, false, false, false, false].getD k false
def at0 (a : List Int) (i : Nat) : Int := a.getD i 0
def fitsS (k : Nat) (w : Int) (a : List Int) (v : Int) : Bool :=
  match k with
  | 0 | 1 => true
  | 2 | 3 | 4 | 5 | 6 | 7 | 8 => !(a.any fun n => decide (n ≠ w))
  | 9 | 10 | 11 => decide (w = 1) && decide (at0 a 0 = at0 a 1)
  | 12 => decide (at0 a 0 = 1) && decide (at0 a 1 = w) && decide (at0 a 2 = w)
  | 13 => decide (IntKind.i64.wrap (at0 a 0 + at0 a 1) = w)
  | 14 => decide (IntKind.i64.wrap (v + w) ≤ at0 a 0)
  | 15 | 16 => decide (at0 a 0 ≤ w)
  | _ => decide (at0 a 0 = w)
def valueErrS (leaves : List Int) (k : Nat) (x : Node) : Int :=
  if k = 0 then (if fitsG x.value x.width = true then 0 else 2)
  else if k = 1 then (if 0 ≤ x.value ∧ x.value < leaves.length then (if at0 leaves x.value.toNat = x.width then 0 else 25) else 6)
  else if k = 14 then (if (decide (0 ≤ x.value) && decide (x.value ≤ 15)) = true then 0 else 2)
  else if hasV k = true ∨ x.value = 0 then 0 else 3
def widthsOf (nodes : List Node) (a : List Int) : List Int := a.map fun n => match nodes[n.toNat]? with | some y => y.width | none => 0
def nodeErrS (leaves : List Int) (nodes : List Node) (i : Nat) (x : Node) : Int :=
  if ¬ (0 ≤ x.op ∧ x.op ≤ 18) then 15
  else if isW x.width = false then 2
  else if x.args.length ≠ argC x.op.toNat then 10
  else if x.args.any (fun n => !(decide (0 ≤ n) && decide (n ≤ (i : Int) - 1))) = true then 9
  else if valueErrS leaves x.op.toNat x ≠ 0 then valueErrS leaves x.op.toNat x
  else if fitsS x.op.toNat x.width (widthsOf nodes x.args) x.value = true then 0 else 25
def checkNodesS (leaves : List Int) (nodes : List Node) : Int × Int :=
  if 40 < leaves.length then (0, 8) else
  if (eachP (fun _ n => if isW n = true then (0 : Int) else 2) 0 leaves).2 ≠ 0 then eachP (fun _ n => if isW n = true then (0 : Int) else 2) 0 leaves
  else if 400 < nodes.length then (0, 8) else eachP (nodeErrS leaves nodes) 0 nodes
theorem get_app {α : Type} {H : List α} {i : Nat} {x : α} (h : H[i]? = some x) (l : List α) : (H ++ l)[i]? = some x := by
  rw [List.getElem?_append_left (List.getElem?_eq_some_iff.1 h).1]; exact h
end Go.E
/- What netlists are, in plain Lean. Own work. -/
namespace Go.E
def fitsN (n width : Int) : Bool := decide (0 ≤ n) && decide (n ≤ IntKind.i64.wrap (shl1 width - 1))
def leavesN (n : Netl) : List Int := n.inputs.map (·.width) ++ n.regs.map (·.width)
def isNodeN (n : Netl) (i : Int) : Bool := decide (0 ≤ i) && decide (i ≤ (n.nodes.length : Int) - 1)
def widthAt (n : Netl) (i : Int) : Int := match n.nodes[i.toNat]? with | some y => y.width | none => 0
def portErrS (_ : Nat) (p : Port) (ns : List ByteArray) : Int × List ByteArray := (firstL [nameErr ns p.name, if isW p.width = true then 0 else 2], addName p.name ns)
def regErrS (_ : Nat) (r : Reg) (ns : List ByteArray) : Int × List ByteArray := (firstL [nameErr ns r.name, if (isW r.width && fitsN r.init r.width) = true then 0 else 2], addName r.name ns)
def regErr2S (n : Netl) (_ : Nat) (r : Reg) : Int :=
  if (!isNodeN n r.enable) = true then 9 else if ¬ widthAt n r.enable = 1 then 9 else if (!isNodeN n r.next) = true then 9 else if widthAt n r.next = r.width then 0 else 25
def outErrS (n : Netl) (_ : Nat) (o : Outp) (ns : List ByteArray) : Int × List ByteArray := (firstL [nameErr ns o.name, if isNodeN n o.node = true then 0 else 9], addName o.name ns)
def firstP : List (Int × Int) → Int × Int
  | [] => (0, 0)
  | r :: l => if r.2 ≠ 0 then r else firstP l
def checkNetS (n : Netl) : Int × Int :=
  let a := eachL portErrS 0 n.inputs []
  let b := eachL regErrS 0 n.regs a.2
  firstP [(0, firstL [if isNameS n.name = true then 0 else 4, if decide ((n.inputs.length : Int) ≤ 12) = true then 0 else 8]), a.1,
    (0, if decide ((n.inputs.length : Int) + n.regs.length ≤ 40) = true then 0 else 8), b.1, checkNodesS (leavesN n) n.nodes, eachP (regErr2S n) 0 n.regs,
    (0, if decide ((n.outs.length : Int) ≤ 12) = true then 0 else 8), (eachL (outErrS n) 0 n.outs []).1]
/-- Sizes that a law lets in. -/
structure Small (n : Netl) : Prop where
  name : n.name.size ≤ 1000
  inputs : n.inputs.length ≤ 1000
  regs : n.regs.length ≤ 1000
  nodes : n.nodes.length ≤ 1000
  outs : n.outs.length ≤ 1000
  inn : ∀ p ∈ n.inputs, p.name.size ≤ 1000
  rgn : ∀ r ∈ n.regs, r.name.size ≤ 1000
  otn : ∀ o ∈ n.outs, o.name.size ≤ 1000
  args : ∀ x ∈ n.nodes, x.args.length ≤ 1000
end Go.E
