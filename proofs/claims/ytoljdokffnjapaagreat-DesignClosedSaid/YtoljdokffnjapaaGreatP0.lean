/- Soundness of E, operation by operation (8): append, whole. Own work. -/
import Derived.Orders
import Derived.LoopN
import Derived.Scope
import Derived.Laws.IdiomCopy
set_option linter.all false
namespace Go.E
inductive V where
 | int (k : IntKind) (n : Int)
 | bool (b : Bool)
 | str (s : ByteArray)
 | nilS | nilP | nilF | nilM | nilI
 | list (es : List V)
 | tl (t : Nat) (es : List V)
 | ref (s id ver off len : Nat)
 | agg (cs : List V)
 | eptr (cs : List V) (off : Nat)
 | ptr (id off : Nat)
 | aptr (id ver i off : Nat)
 | func (f : Nat) (caps : List V)
 | map (id : Nat)
 | tuple (vs : List V)
 | undef
 | skip
 | yld (l : Nat)
inductive HObj where
 | cells (cs : List V)
 | arr (es : List V) (ver : Nat)
 | tok (n : Nat)
 | map (es : List (V × V))
abbrev Heap := List HObj
abbrev Env := Nat → V
def Env.put (ρ : Env) (d : Nat) (v : V) : Env := fun i => if i = d then v else ρ i
def V.cells : V → List V
 | .agg cs => cs
 | v => [v]
mutual
def V.pure : V → Bool
 | .int _ _ | .bool _ | .str _ | .nilS | .nilP | .nilF | .nilM | .nilI => true
 | .list es => V.pureL es
 | .agg cs => V.pureL cs
 | .eptr cs _ => V.pureL cs
 | .func _ caps => V.pureL caps
 | _ => false
def V.pureL : List V → Bool
 | [] => true
 | v :: vs => v.pure && V.pureL vs
end
mutual
def V.under (n : Nat) : V → Bool
 | .tl t _ => t < n
 | .ref _ id _ _ _ => id < n
 | .ptr id _ => id < n
 | .aptr id _ _ _ => id < n
 | .map id => id < n
 | .agg cs => V.underL n cs
 | .eptr cs _ => V.underL n cs
 | .func _ caps => V.underL n caps
 | .tuple vs => V.underL n vs
 | _ => true
def V.underL (n : Nat) : List V → Bool
 | [] => true
 | v :: vs => v.under n && V.underL n vs
end
def V.isCell : V → Bool
 | .agg _ | .tuple _ | .undef | .skip => false
 | _ => true
def ju : V → V
 | .tl _ es => .list es
 | .nilS => .list []
 | v => v
def V.norm : V → V
 | .agg cs => .agg (cs.map ju)
 | v => ju v
def jd : Value → V
 | .int k n => .int k n
 | .bool b => .bool b
 | .string s => .str s
 | .slice none 0 0 => .nilS
 | .pointer none => .nilP
 | .nilFunc => .nilF
 | .map none => .nilM
 | .nilIface => .nilI
 | _ => .undef
def ofVal : Value → V
 | .agg cs => .agg (cs.toList.map jd)
 | v => jd v
section types
variable (P : Program)
def isAggT (t : TypeId) : Option Bool :=
 match P.underlying t with
 | some (.struct _) | some (.array _ _) => some true
 | some _ => some false
 | none => none
def sizeT (t : TypeId) : Option Nat := (P.info? t).map (·.size)
def bytesT (t : TypeId) : Option Nat := (P.info? t).map (·.bytes)
def zeroT (t : TypeId) : Option V := (P.info? t).bind fun i => i.zero.map ofVal
def elemT (t : TypeId) : Option TypeId :=
 match P.underlying t with
 | some (.slice e) => some e
 | _ => none
def fieldsT (t : TypeId) : Option (Array Field) :=
 match P.underlying t with
 | some (.struct fs) => some fs
 | _ => none
def partV (t : TypeId) (cs : List V) (off : Nat) : Option V :=
 match isAggT P t, sizeT P t with
 | some true, some n => if off + n ≤ cs.length then some (.agg ((cs.drop off).take n)) else none
 | some false, _ => cs[off]?
 | _, _ => none
def loadV (t : TypeId) (p : V) (H : Heap) : Option V :=
 match p with
 | .eptr cs off => partV P t cs off
 | .ptr id off =>
  match H[id]? with
  | some (.cells cs) => partV P t cs off
  | _ => none
 | .aptr id ver i off =>
  match H[id]? with
  | some (.arr es v) => if v = ver then (es[i]?).bind fun e => partV P t e.cells off else none
  | _ => none
 | _ => none
end types
def writeCells (cs : List V) (off : Nat) (new : List V) : List V := cs.take off ++ new ++ cs.drop (off + new.length)
def likeV (e : V) (cs : List V) : V :=
 match e with
 | .agg _ => .agg cs
 | _ => cs.headD .undef
def okStore (bs : List Nat) (id : Nat) (v : V) : Bool := bs.headD 0 ≤ id || bs.all fun b => decide (b ≤ id) || v.under b
def storeV (P : Program) (bs : List Nat) (t : TypeId) (p v : V) (H : Heap) : Option Heap :=
 if sizeT P t = some v.cells.length ∧ v.cells.all V.isCell = true then
  match p with
  | .ptr id off =>
   match H[id]? with
   | some (.cells cs) =>
    if off + v.cells.length ≤ cs.length ∧ okStore bs id v = true then some (H.set id (.cells (writeCells cs off v.cells))) else none
   | _ => none
  | .aptr id ver i off =>
   match H[id]? with
   | some (.arr es v0) =>
    if v0 = ver ∧ okStore bs id v = true then
     (es[i]?).bind fun e =>
      if off + v.cells.length ≤ e.cells.length then some (H.set id (.arr (es.set i (likeV e (writeCells e.cells off v.cells))) v0)) else none
    else none
   | _ => none
  | _ => none
 else none
def bitsI (op : BinOp) (k : IntKind) (x y : Int) : Int :=
 let a := BitVec.ofInt k.bits x
 let b := BitVec.ofInt k.bits y
 match op with
 | .and => k.wrap (a &&& b).toNat
 | .or => k.wrap (a ||| b).toNat
 | .xor => k.wrap (a ^^^ b).toNat
 | _ => k.wrap (a &&& ~~~b).toNat
def intOp (op : BinOp) (k : IntKind) (x y : Int) : Option V :=
 match op with
 | .add => some (.int k (k.wrap (x + y)))
 | .sub => some (.int k (k.wrap (x - y)))
 | .mul => some (.int k (k.wrap (x * y)))
 | .quo => if y = 0 then none else some (.int k (k.wrap (x.tdiv y)))
 | .rem => if y = 0 then none else some (.int k (x.tmod y))
 | .and => some (.int k (bitsI .and k x y))
 | .or => some (.int k (bitsI .or k x y))
 | .xor => some (.int k (bitsI .xor k x y))
 | .andNot => some (.int k (bitsI .andNot k x y))
 | .eql => some (.bool (x == y))
 | .neq => some (.bool (x != y))
 | .lss => some (.bool (x < y))
 | .leq => some (.bool (x ≤ y))
 | .gtr => some (.bool (x > y))
 | .geq => some (.bool (x ≥ y))
 | _ => none
def shiftOp (op : BinOp) (k : IntKind) (x y : Int) : Option V :=
 if y < 0 then none else
 match op with
 | .shl => some (.int k (k.wrap (x * 2 ^ (min y.toNat k.bits))))
 | .shr => some (.int k (x.fdiv (2 ^ (min y.toNat k.bits))))
 | _ => none
def strOp (op : BinOp) (x y : ByteArray) : Option V :=
 match op with
 | .add => if x.size + y.size ≤ 140737488355328 then some (.str (x ++ y)) else none
 | .eql => some (.bool (decide (x = y)))
 | .neq => some (.bool !(decide (x = y)))
 | .lss => some (.bool (Op.bytesLess x.data.toList y.data.toList))
 | .leq => some (.bool (Op.bytesLess x.data.toList y.data.toList || decide (x = y)))
 | .gtr => some (.bool !(Op.bytesLess x.data.toList y.data.toList || decide (x = y)))
 | .geq => some (.bool !(Op.bytesLess x.data.toList y.data.toList))
 | _ => none
def eqT (P : Program) : Nat → TypeId → V → V → Option Bool
 | 0, _, _, _ => none
 | d + 1, t, x, y =>
  match P.underlying t, x, y with
  | some .bool, .bool a, .bool b => some (a == b)
  | some (.int _), .int k a, .int k' b => if k = k' then some (a == b) else none
  | some .string, .str a, .str b => some (decide (a = b))
  | some (.struct fs), .agg xs, .agg ys =>
   if P.stoodInHeld t then none else
   fs.toList.foldr (fun f (r : Option Bool) =>
    if f.name = "_" then none else
    (partV P f.type xs f.offset).bind fun a => (partV P f.type ys f.offset).bind fun b => (eqT P d f.type a b).bind fun e =>
     if e then r else some false) (some true)
  | _, _, _ => none
def eqlOp (P : Program) (t : TypeId) (x y : V) : Option Bool :=
 match x, y with
 | .bool a, .bool b => match P.underlying t with | some .bool => some (a == b) | _ => none
 | .nilS, .nilS => match P.underlying t with | some (.slice _) => some true | _ => none
 | .nilS, .list (_ :: _) | .nilS, .tl _ (_ :: _) | .list (_ :: _), .nilS | .tl _ (_ :: _), .nilS =>
  match P.underlying t with | some (.slice _) => some false | _ => none
 | .agg _, .agg _ => if (Program.eqGuardType P P.depth t) then none else eqT P 100 t x y
 | _, _ => none
def binOpV (P : Program) (op : BinOp) (t : TypeId) (x y : V) : Option V :=
 match op, x, y with
 | .shl, .int k a, .int _ b => shiftOp .shl k a b
 | .shr, .int k a, .int _ b => shiftOp .shr k a b
 | op, .int k a, .int k' b => if k = k' then intOp op k a b else none
 | op, .str a, .str b => strOp op a b
 | .eql, x, y => (eqlOp P t x y).map .bool
 | .neq, x, y => (eqlOp P t x y).map fun b => .bool !b
 | _, _, _ => none
def unOpV (op : UnOp) (x : V) : Option V :=
 match op, x with
 | .neg, .int k n => some (.int k (k.wrap (0 - n)))
 | .not, .bool b => some (.bool !b)
 | .xor, .int k n => some (.int k (bitsI .xor k (if k.signed then -1 else k.max) n))
 | _, _ => none
def convV (P : Program) (src dst : TypeId) (x : V) : Option V :=
 match P.underlying src, P.underlying dst, x with
 | some _, some (.int k), .int _ n => some (.int k (k.wrap n))
 | some _, some .string, .str s => some (.str s)
 | _, _, _ => none
def opnd (ρ : Env) : Operand → V
 | .tmp t => ρ t
 | .const v => ofVal v
 | .func f => .func f []
 | .global _ => .undef
def idxV : V → Option Nat
 | .int _ i => if 0 ≤ i then some i.toNat else none
 | _ => none
def boundV : Option V → Nat → Option Nat
 | none, d => some d
 | some v, _ => idxV v
def indexAddrV (P : Program) (t : TypeId) (x ix : V) : Option V :=
 match idxV ix with
 | none => none
 | some i =>
  match P.underlying t, x with
  | some (.slice e), .list es | some (.slice e), .tl _ es =>
   (es[i]?).bind fun c => if sizeT P e = some c.cells.length then some (.eptr c.cells 0) else none
  | some (.slice e), .ref s id ver off len => if i < len ∧ sizeT P e = some s then some (.aptr id ver (off + i) 0) else none
  | some (.array n e), .ptr id off => if i < n then (sizeT P e).map fun s => .ptr id (off + i * s) else none
  | some (.array n e), .eptr cs off => if i < n then (sizeT P e).map fun s => .eptr cs (off + i * s) else none
  | some (.array n e), .aptr id ver j off => if i < n then (sizeT P e).map fun s => .aptr id ver j (off + i * s) else none
  | _, _ => none
def fieldAddrV (P : Program) (t : TypeId) (x : V) (j : Nat) : Option V :=
 (fieldsT P t).bind fun fs => (fs[j]?).bind fun f =>
  if sizeT P f.type = some 0 then none else if sizeT P f.type = none then none else
  match x with
  | .ptr id off => some (.ptr id (off + f.offset))
  | .eptr cs off => some (.eptr cs (off + f.offset))
  | .aptr id ver i off => some (.aptr id ver i (off + f.offset))
  | _ => none
def fieldV (P : Program) (t : TypeId) (x : V) (j : Nat) : Option V :=
 match x with
 | .agg cs => (fieldsT P t).bind fun fs => (fs[j]?).bind fun f => partV P f.type cs f.offset
 | _ => none
def indexV (P : Program) (t : TypeId) (x ix : V) : Option V :=
 match idxV ix with
 | none => none
 | some i =>
  match P.underlying t, x with
  | some .string, .str s => (s.data[i]?).map fun b => .int .u8 b.toNat
  | some (.array n e), .agg cs => if i < n then (sizeT P e).bind fun s => partV P e cs (i * s) else none
  | _, _ => none
def sliceV (P : Program) (t : TypeId) (x : V) (lo hi mx : Option V) : Option V :=
 if mx.isSome then none else
 match P.underlying t, x with
 | some .string, .str s =>
  (boundV lo 0).bind fun l => (boundV hi s.size).bind fun h => if l ≤ h ∧ h ≤ s.size then some (.str (s.extract l h)) else none
 | some (.slice e), .nilS => (boundV lo 0).bind fun l => (boundV hi 0).bind fun h => if l = 0 ∧ h = 0 ∧ (sizeT P e).isSome = true then some .nilS else none
 | some (.slice e), .tl t [] => (boundV lo 0).bind fun l => (boundV hi 0).bind fun h => if l = 0 ∧ h = 0 ∧ (sizeT P e).isSome = true then some (.tl t []) else none
 | some (.slice e), .list es | some (.slice e), .tl _ es =>
  (sizeT P e).bind fun s => (boundV lo 0).bind fun l => (boundV hi es.length).bind fun h =>
   if l ≤ h ∧ h ≤ es.length ∧ es.all (fun c => c.cells.length == s) = true then some (.list ((es.take h).drop l)) else none
 | some (.slice e), .ref s id ver off len =>
  (boundV lo 0).bind fun l => (boundV hi len).bind fun h => if l ≤ h ∧ h ≤ len ∧ sizeT P e = some s then some (.ref s id ver (off + l) (h - l)) else none
 | _, _ => none
def placeCells (cs : List V) (off size : Nat) (v : V) : Option (List V) :=
 if v.cells.length = size ∧ off + size ≤ cs.length ∧ v.cells.all V.isCell = true then some (writeCells cs off v.cells) else none
def placeF (P : Program) (fs : Array Field) (cs : List V) (p : Nat × V) : Option (List V) :=
 (fs[p.1]?).bind fun f => (sizeT P f.type).bind fun s => placeCells cs f.offset s p.2
def placeA (s : Nat) (cs : List V) (p : Nat × V) : Option (List V) := placeCells cs (p.1 * s) s p.2
def buildV (P : Program) (t : TypeId) (parts : List (Nat × V)) : Option V :=
 match zeroT P t with
 | some (.agg z) =>
  match P.underlying t with
  | some (.struct fs) =>
   if fs.toList.all (fun f => (sizeT P f.type).isSome) = true then
    (parts.foldl (fun (r : Option (List V)) p => r.bind fun cs => placeF P fs cs p) (some z)).map .agg else none
  | some (.array _ e) =>
   (sizeT P e).bind fun s => (parts.foldl (fun (r : Option (List V)) p => r.bind fun cs => placeA s cs p) (some z)).map .agg
  | _ => none
 | _ => none
def takeElem (s : Nat) (v : V) : Option V := if v.norm.cells.length = s ∧ v.norm.pure = true ∧ v.norm.cells.all V.isCell = true then some v.norm else none
def takeElems (s : Nat) (l : List V) : Option (List V) := l.mapM (takeElem s)
def elemsV (H : Heap) : V → Option (List V)
 | .nilS => some []
 | .list es => some es
 | .tl _ es => some es
 | .ref _ id ver off len =>
  match H[id]? with
  | some (.arr es v) => if v = ver ∧ off + len ≤ es.length then some ((es.drop off).take len) else none
  | _ => none
 | _ => none
def lenV : V → Option Nat
 | .nilS => some 0
 | .list es => some es.length
 | .tl _ es => some es.length
 | .ref _ _ _ _ len => some len
 | .str s => some s.size
 | _ => none
def roomB : Nat := 70368744177664
def appendV (P : Program) (m : Bool) (t : TypeId) (s x : V) (H : Heap) : Option (V × Heap) :=
 (elemT P t).bind fun e => (sizeT P e).bind fun sz => (bytesT P e).bind fun by_ => (zeroT P e).bind fun z =>
  if sz = 0 ∨ by_ = 0 ∨ z.cells.length ≠ sz ∨ z.cells.all V.isCell = false then none else
  (elemsV H x).bind fun xs => (takeElems sz xs).bind fun new =>
   match s with
   | .nilS =>
    if new.length = 0 then some (.nilS, H) else
    if new.length * by_ ≤ roomB then (if m = true then some (.ref sz H.length 0 0 new.length, H ++ [.arr new 0]) else some (.tl H.length new, H ++ [.tok new.length])) else none
   | .list es => if new.length = 0 then some (.list es, H) else none
   | .tl tk es =>
    match H[tk]? with
    | some (.tok n) =>
     if n = es.length ∧ (es.length + new.length) * by_ ≤ roomB ∧ es.all (fun e => e.cells.length == sz) = true then
      (if m = true ∧ es.length = 0 ∧ new.length ≠ 0 then some (.ref sz H.length 0 0 new.length, H ++ [.arr new 0]) else some (.tl tk (es ++ new), H.set tk (.tok (es.length + new.length)))) else none
    | _ => none
   | .ref s0 id ver off len =>
    match H[id]? with
    | some (.arr es v0) =>
     if s0 = sz ∧ v0 = ver ∧ off = 0 ∧ len ≤ es.length ∧ (len + new.length) * by_ ≤ roomB then
      (takeElems sz (es.take len)).map fun old => (.ref sz id (ver + 1) 0 (len + new.length), H.set id (.arr (old ++ new) (ver + 1))) else none
    | _ => none
   | _ => none
def keyEq : V → V → Option Bool
 | .int k a, .int k' b => if k = k' then some (a == b) else none
 | .str a, .str b => some (decide (a = b))
 | .bool a, .bool b => some (a == b)
 | _, _ => none
def findV (k : V) : List (V × V) → Option (Option V)
 | [] => some none
 | (k', v) :: r =>
  match keyEq k k' with
  | some true => some (some v)
  | some false => findV k r
  | none => none
def putV (k v : V) : List (V × V) → List (V × V)
 | [] => [(k, v)]
 | (k', v') :: r => if keyEq k k' = some true then (k, v) :: r else (k', v') :: putV k v r
def simpleKeyT (P : Program) (t : TypeId) (k : V) : Bool :=
 match P.underlying t, k with
 | some (.int q), .int k _ => q == k
 | some .string, .str _ => true
 | some .bool, .bool _ => true
 | _, _ => false
def lookupV (P : Program) (t : TypeId) (m k : V) (ok : Bool) (H : Heap) : Option V :=
 match P.underlying t with
 | some (.map kt et) =>
  if simpleKeyT P kt k then
   (match m with
    | .nilM => some (none : Option V)
    | .map id => match H[id]? with
     | some (.map es) => findV k es
     | _ => none
    | _ => none).bind fun r => (zeroT P et).map fun z =>
    match r with
    | some v => if ok then .tuple [v, .bool true] else v
    | none => if ok then .tuple [z, .bool false] else z
  else none
 | _ => none
def mapUpdateV (P : Program) (bs : List Nat) (t : TypeId) (m k v : V) (H : Heap) : Option Heap :=
 match P.underlying t with
 | some (.map kt _) =>
  if simpleKeyT P kt k then
   match m with
   | .map id => match H[id]? with
    | some (.map es) =>
     (findV k es).bind fun _ => if okStore bs id v = true then some (H.set id (.map (putV k v es))) else none
    | _ => none
   | _ => none
  else none
 | _ => none
structure Cx where
 P : Program
 keep : Nat → Bool
 known : Nat → List V → Option V := fun _ _ => none
 iter : Nat → List V → Option (List (List V)) := fun _ _ => none
 own : TypeId → Bool := fun _ => false
 thaw : Operand → String → Bool := fun _ _ => false
 fresh : Nat → List V → Option (Nat × List V) := fun _ _ => none
 act : Nat → List V → Heap → Option (V × Heap) := fun _ _ _ => none
 vec : TypeId → String → Bool := fun _ _ => false
abbrev CallSem := List Nat → Nat → List V → Heap → Option (V × Heap)
structure Fx where
 n : Nat
 bs : List Nat
def callAt (cx : Cx) (o : Operand) (pos : String) (call : CallSem) : CallSem := fun bs f a H =>
 if cx.thaw o pos = true then
  match cx.fresh f (a.map V.norm) with
  | some (s, es) => some (.ref s H.length 0 0 es.length, H ++ [.arr es 0])
  | none => call bs f a H
 else call bs f a H
def evCallee (ρ : Env) (f : Operand) : Option (Nat × List V) :=
 match opnd ρ f with
 | .func g caps => some (g, caps)
 | _ => none
def minmax (isMax : Bool) : List V → Option V
 | [] => none
 | [v] => match v with | .int _ _ => some v | _ => none
 | .int k x :: .int _ y :: r => minmax isMax (.int k (if isMax then (if x < y then y else x) else (if y < x then y else x)) :: r)
 | _ => none
termination_by l => l.length
def evBuiltin (cx : Cx) (b : Builtin) (c : Call) (pos : String) (ρ : Env) (H : Heap) : Option (V × Heap) :=
 match b, c.argTypes.toList, c.args.toList.map (opnd ρ) with
 | .len, [t], [x] =>
  match cx.P.underlying t, x with
  | some (.slice _), .nilS | some (.slice _), .list _ | some (.slice _), .tl _ _ | some (.slice _), .ref .. | some .string, .str _ => (lenV x).map fun n => (.int .i64 n, H)
  | some (.array n _), _ => some (.int .i64 n, H)
  | _, _ => none
 | .append, [t, u], [s, x] => match cx.P.underlying u with | some (.slice _) => appendV cx.P (cx.vec t pos) t s x H | _ => none
 | .min, _, l => (minmax false l).map (·, H)
 | .max, _, l => (minmax true l).map (·, H)
 | _, _, _ => none
def evOp (cx : Cx) (fx : Fx) (call : CallSem) (o : Oper) (ρ : Env) (H : Heap) : Option (V × Heap) :=
 let e := opnd ρ
 let p (r : Option V) : Option (V × Heap) := r.map (·, H)
 match o.op with
 | .move x => some (e x, H)
 | .assign x =>
  match x, (match cx.P.underlying o.type with | some (.slice _) => true | _ => false), e x with
  | .const _, true, .nilS => some (.tl H.length [], H ++ [.tok 0])
  | _, _, v => some (v, H)
 | .pick c a b =>
  match e c with
  | .bool true => some (e a, H)
  | .bool false => some (e b, H)
  | _ => none
 | .alloc t => (zeroT cx.P t).bind fun z => if z.cells.all V.isCell then some (.ptr H.length 0, H ++ [.cells z.cells]) else none
 | .box _ x => if (e x).cells.all V.isCell then some (.ptr H.length 0, H ++ [.cells (e x).cells]) else none
 | .build t parts => p (buildV cx.P t (parts.toList.map fun q => (q.1, e q.2)))
 | .buildSlice t len parts =>
  (elemT cx.P t).bind fun el => (sizeT cx.P el).bind fun sz =>
   if sz ≠ 0 ∧ parts.toList.map (·.1) = List.range len ∧ len * sz ≤ 16777216 ∧ (zeroT cx.P el).isSome = true then
    (takeElems sz (parts.toList.map fun q => e q.2)).map fun es =>
     if len = 0 then (.tl H.length [], H ++ [.tok 0]) else if cx.vec t o.pos = true then (.ref sz H.length 0 0 len, H ++ [.arr es 0]) else if cx.own t = true then (.tl H.length es, H ++ [.tok len]) else (.list es, H)
   else none
 | .load t a => p (loadV cx.P t (e a) H)
 | .store t a x => (storeV cx.P fx.bs t (e a) (e x) H).map (.undef, ·)
 | .nilCheck x =>
  match e x with
  | .ptr id off => some (.ptr id off, H)
  | .eptr cs off => some (.eptr cs off, H)
  | .aptr id ver i off => some (.aptr id ver i off, H)
  | .func f caps => some (.func f caps, H)
  | _ => none
 | .binOp op t x y _ => p (binOpV cx.P op t (e x) (e y))
 | .unOp op _ x => p (unOpV op (e x))
 | .convert s d x => p (convV cx.P s d (e x))
 | .makeFunc (.func f) first caps => if first.size = 0 then some (.func f (caps.toList.map e), H) else none
 | .makeMap _ r => if r.isNone then some (.map H.length, H ++ [.map []]) else none
 | .makeSlice t l c =>
  (elemT cx.P t).bind fun el => (sizeT cx.P el).bind fun sz => (bytesT cx.P el).bind fun by_ => (zeroT cx.P el).bind fun z =>
   match e l, e c with
   | .int _ n, .int _ m =>
    if n = m ∧ 0 ≤ n ∧ n.toNat * by_ ≤ roomB ∧ n ≤ roomB ∧ sz ≠ 0 ∧ z.cells.length = sz ∧ z.cells.all V.isCell = true ∧ z.pure = true then
     some (.ref sz H.length 0 0 n.toNat, H ++ [.arr (List.replicate n.toNat z) 0]) else none
   | _, _ => none
 | .slice t x lo hi mx => p (sliceV cx.P t (e x) (lo.map e) (hi.map e) (mx.map e))
 | .fieldAddr t x j => p (fieldAddrV cx.P t (e x) j)
 | .field t x j => p (fieldV cx.P t (e x) j)
 | .indexAddr t x i => p (indexAddrV cx.P t (e x) (e i))
 | .index t x i => p (indexV cx.P t (e x) (e i))
 | .lookup t m k ok => p (lookupV cx.P t (e m) (e k) ok H)
 | .mapUpdate t m k v => (mapUpdateV cx.P fx.bs t (e m) (e k) (e v) H).map (.undef, ·)
 | .extract x i =>
  match e x with
  | .tuple vs => p vs[i]?
  | _ => none
 | .call c =>
  match c.callee with
  | .builtin b => evBuiltin cx b c o.pos ρ H
  | .value f => (evCallee ρ f).bind fun g => callAt cx f o.pos call fx.bs g.1 (c.args.toList.map e ++ g.2) H
  | _ => none
 | _ => none
def wantedV (ops : Array Oper) (o : Oper) (ρ : Env) : Option Bool :=
 match o.guard with
 | none => some true
 | some (j, want) =>
  match (ops[j]?).bind (·.dst) with
  | none => some false
  | some d =>
   match ρ d with
   | .bool b => some (b == want)
   | .skip => some false
   | _ => none
def evOper (cx : Cx) (fx : Fx) (call : CallSem) (ops : Array Oper) (o : Oper) (ρ : Env) (H : Heap) : Option (Env × Heap) :=
 (wantedV ops o ρ).bind fun b =>
  (if b then evOp cx fx call o ρ H else some (.skip, H)).bind fun r =>
   match o.dst with
   | none => some (ρ, r.2)
   | some d => if d < fx.n then some (ρ.put d r.1, r.2) else none
def evOps (cx : Cx) (fx : Fx) (call : CallSem) (ops : Array Oper) : List Oper → Env → Heap → Option (Env × Heap)
 | [], ρ, H => some (ρ, H)
 | o :: r, ρ, H => (evOper cx fx call ops o ρ H).bind fun s => evOps cx fx call ops r s.1 s.2
inductive Ex where
 | normal
 | exit (id : Nat)
 | ret
 deriving DecidableEq
abbrev Res := Ex × Env × Heap
abbrev LoopSem := (Env → Heap → Option Res) → Env → Heap → Option Res
def loopn : Nat → LoopSem
 | 0, _, _, _ => none
 | n + 1, f, ρ, H =>
  match f ρ H with
  | some (.normal, ρ', H') => loopn n f ρ' H'
  | r => r
def isE (o : Oper) : Bool :=
 match o.op with
 | .store .. | .mapUpdate .. => true
 | .call { callee := .value _, .. } => true
 | .call { callee := .builtin .append, .. } => true
 | _ => false
def isRA (P : Program) (o : Oper) : Bool :=
 match o.op with
 | .load .. | .lookup .. | .alloc _ | .box .. | .buildSlice .. | .makeMap .. | .makeSlice .. => true
 | .assign (.const _) => match P.underlying o.type with | some (.slice _) => true | _ => false
 | _ => false
def edgesOf (o : Oper) : List Nat := o.after.toList.filterMap fun e => if Region.binds .any e then some e.on else none
def tmpsOf (ops : Array Oper) (o : Oper) : List Nat := o.looksAt ops
def canonGo (ops : List Oper) : Nat → List Nat → List Nat
 | 0, acc => acc.reverse
 | n + 1, acc =>
  let ready := (List.range ops.length).filter fun i => !acc.contains i && ((ops[i]?).map fun o => (edgesOf o).all acc.contains).getD false
  match ready.find? fun i => !((ops[i]?).map isE).getD true with
  | some i => canonGo ops n (i :: acc)
  | none =>
   match ready with
   | i :: _ => canonGo ops n (i :: acc)
   | [] => acc.reverse
def canon (ops : Array Oper) : List Nat := canonGo ops.toList ops.size []
def ancGo : List Oper → List (List Nat) → List (List Nat)
 | [], acc => acc
 | o :: r, acc => ancGo r (acc ++ [((edgesOf o) ++ (edgesOf o).flatMap fun e => acc.getD e []).eraseDups])
def anc (ops : Array Oper) : List (List Nat) := ancGo ops.toList []
def topoOk (ops : Array Oper) : List Nat → List Nat → Bool
 | _, [] => true
 | done, i :: r => ((ops[i]?).map fun o => (edgesOf o).all done.contains).getD false && topoOk ops (done ++ [i]) r
def effOk (ops : Array Oper) (tb : List (List Nat)) : List Nat → Bool
 | [] => true
 | i :: r => (!((ops[i]?).map isE).getD true || r.all fun j => (tb.getD j []).contains i) && effOk ops tb r
def tmpOk (ops : Array Oper) (tb : List (List Nat)) : Bool :=
 (List.range ops.size).all fun i =>
  match (ops[i]?).bind (·.dst) with
  | none => true
  | some d => (List.range ops.size).all fun j =>
   i == j || (tb.getD j []).contains i || (tb.getD i []).contains j ||
    ((ops[j]?).map fun o => !(tmpsOf ops o).contains d && o.dst != some d).getD false
def nodupB : List Nat → Bool
 | [] => true
 | i :: r => !r.contains i && nodupB r
def drawOk (ops : Array Oper) (ord : List Nat) : Bool :=
 nodupB ord && ord.length == ops.size && (List.range ops.size).all ord.contains && ord.all (· < ops.size) && topoOk ops [] ord &&
  effOk ops (anc ops) ord && tmpOk ops (anc ops)
def evTrace (cx : Cx) (fx : Fx) (call : CallSem) (ops : Array Oper) : List Nat → Env → Heap → Option (List (Env × Heap) × Env × Heap)
 | [], ρ, H => some ([], ρ, H)
 | i :: r, ρ, H =>
  (ops[i]?).bind fun o => (evOper cx fx call ops o ρ H).bind fun s => (evTrace cx fx call ops r s.1 s.2).map fun z => ((ρ, H) :: z.1, z.2)
def obsEq (P : Program) (o : Oper) (ρ : Env) (Hp H H' : Heap) : Prop :=
 match o.op with
 | .load t a => loadV P t (opnd ρ a) H' = loadV P t (opnd ρ a) H
 | .lookup t m k ok => lookupV P t (opnd ρ m) (opnd ρ k) ok H' = lookupV P t (opnd ρ m) (opnd ρ k) ok H
 | _ => H'[Hp.length]? = H[Hp.length]?
def chkPairs (P : Program) (ops : Array Oper) (tb : List (List Nat)) (ord : List Nat) : List (Nat × Nat) :=
 (List.range ord.length).flatMap fun p => (List.range ord.length).filterMap fun q =>
  match ops[ord.getD p 0]?, ops[ord.getD q 0]? with
  | some o, some u => if p < q && isRA P o && isE u && !(tb.getD (ord.getD q 0) []).contains (ord.getD p 0) then some (p, q) else none
  | _, _ => none
def chkAll (P : Program) (ops : Array Oper) (ord : List Nat) (st : List (Env × Heap)) (last : Heap) : List (Nat × Nat) → Prop
 | [] => True
 | (p, q) :: r =>
  (∀ o s t, ops[ord.getD p 0]? = some o → st[p]? = some s → st[q]? = some t →
   obsEq P o s.1 s.2 t.2 ((st[q + 1]?).map (·.2) |>.getD last)) ∧ chkAll P ops ord st last r
open Classical in
noncomputable def evDraw (cx : Cx) (fx : Fx) (call : CallSem) (ops : Array Oper) (ρ : Env) (H : Heap) : Option (Env × Heap) :=
 if drawOk ops (canon ops) = true then
  (evTrace cx fx call ops (canon ops) ρ H).bind fun z =>
   if chkAll cx.P ops (canon ops) z.1 z.2.2 (chkPairs cx.P ops (anc ops) (canon ops)) then some z.2 else none
 else none
def putAll (n : Nat) (ρ : Env) : List (Nat × V) → Option Env
 | [] => some ρ
 | (d, v) :: r => if d < n then putAll n (ρ.put d v) r else none
def evRounds (fA fB : Env → Heap → Option Res) (n : Nat) (ps : List Nat) (ρ : Env) : List (List V) → Heap → Option (Ex × Heap)
 | [], H => some (.normal, H)
 | args :: rest, H =>
  if args.length = ps.length then
   (putAll n ρ (ps.zip args)).bind fun ρ1 =>
    match fA ρ1 H with
    | some (.normal, ρ2, H2) =>
     match fB ρ2 H2 with
     | some (.normal, _, H3) => evRounds fA fB n ps ρ rest H3
     | some (ex, _, H3) => some (ex, H3)
     | none => none
    | _ => none
  else none
noncomputable def evCode (cx : Cx) (fx : Fx) (lp : LoopSem) (call : CallSem) : Code → Env → Heap → Option Res
 | .skip, ρ, H | .label _, ρ, H => some (.normal, ρ, H)
 | .region _ ops draw, ρ, H =>
  (if draw then evDraw cx fx call ops ρ H else evOps cx fx call ops ops.toList ρ H).map fun s => (.normal, s.1, s.2)
 | .seq a b, ρ, H =>
  match evCode cx fx lp call a ρ H with
  | some (.normal, ρ', H') => evCode cx fx lp call b ρ' H'
  | r => r
 | .cond c a b, ρ, H =>
  match opnd ρ c with
  | .bool true => evCode cx fx lp call a ρ H
  | .bool false => evCode cx fx lp call b ρ H
  | _ => none
 | .block id c, ρ, H =>
  match evCode cx fx lp call c ρ H with
  | some (.exit id', ρ', H') => some (if id' = id then .normal else .exit id', ρ', H')
  | r => r
 | .loop c, ρ, H => lp (evCode cx fx lp call c) ρ H
 | .exit id, ρ, H => some (.exit id, ρ, H)
 | .ret, ρ, H => some (.ret, ρ, H)
 | .scope c, ρ, H => evCode cx fx lp call c ρ H
 | .rangeFunc f ps assign body, ρ, H =>
  match opnd ρ f with
  | .func gf caps => (cx.iter gf caps).bind fun l => (evRounds (evCode cx fx lp call assign) (evCode cx fx lp call body) fx.n ps.toList ρ l H).map fun r => (r.1, ρ, r.2)
  | _ => none
 | _, _, _ => none
def frz : Nat → Nat → Heap → V → Option V
 | 0, _, _, _ => none
 | d + 1, n0, H, v =>
  if v.pure = true then some v else
  match v with
  | .tl _ es => some (.list es)
  | .ref s id ver off len =>
   if id < n0 then some (.ref s id ver off len) else
   match H[id]? with
   | some (.arr es v0) =>
    if ver = v0 ∧ off + len ≤ es.length then (((es.drop off).take len).mapM (frz d n0 H)).bind fun l => if V.pureL l then some (.list l) else none else none
   | _ => none
  | .ptr id off =>
   if id < n0 then some (.ptr id off) else
   match H[id]? with
   | some (.cells cs) => (cs.mapM (frz d n0 H)).map fun l => .eptr l off
   | _ => none
  | .eptr cs off => (cs.mapM (frz d n0 H)).map fun l => .eptr l off
  | .agg cs => (cs.mapM (frz d n0 H)).map .agg
  | .func f caps => (caps.mapM (frz d n0 H)).map (.func f)
  | .map id => if id < n0 then some (.map id) else none
  | .aptr id ver i off => if id < n0 then some (.aptr id ver i off) else none
  | _ => none
def resultsV (P : Program) (fn : Func) (ρ : Env) (H : Heap) : Option (List V) :=
 fn.results.toList.mapM fun
  | .tmp t => some (ρ t)
  | .cell a t => loadV P t (ρ a) H
def packV : List V → V
 | [] => .undef
 | [v] => v
 | vs => .tuple vs
noncomputable def evBody (cx : Cx) (lp : LoopSem) (call : CallSem) (bs : List Nat) (f : Nat) (args : List V) (H : Heap) : Option (V × Heap) :=
 match cx.P.funcs[f]? with
 | none => none
 | some fn =>
  match fn.body with
  | none => none
  | some c =>
   if cx.keep f then (match cx.known f (args.map V.norm) with | some v => some (v, H) | none => cx.act f (args.map V.norm) H)
   else
    (evCode cx ⟨args.length + (fn.ntmps - args.length), H.length :: bs⟩ lp call c (fun i => (args.map V.norm).getD i .undef) H).bind fun r =>
     match r.1 with
     | .exit _ => none
     | _ => (resultsV cx.P fn r.2.1 r.2.2).bind fun vs => (vs.mapM (frz 6 H.length r.2.2)).map fun ws => (packV ws, r.2.2.take H.length)
noncomputable def callk (cx : Cx) : Nat → CallSem
 | 0 => fun _ _ _ _ => none
 | k + 1 => fun bs f args H => evBody cx (loopn k) (callk cx k) bs f args H
open Classical in
noncomputable def lim {α : Type} (g : Nat → Option α) : Option α :=
 if h : ∃ n a, g n = some a then some (Classical.choose (Classical.choose_spec h)) else none
noncomputable def loopw : LoopSem := fun f ρ H => lim fun n => loopn n f ρ H
noncomputable def callw (cx : Cx) : CallSem := fun bs f args H => lim fun k => callk cx k bs f args H
end Go.E
namespace Go.E
inductive Own where
 | none | imm | res (id : Nat)
inductive Loc where
 | cells (b o n : Nat)
 | arr (b o s ext ver : Nat)
 | tok (base : Option (Nat × Nat)) (s cap n : Nat)
 | map (b : Nat)
structure G where
 O : Nat → Nat → Own
 φ : Nat → Option Loc
def tokVal (base : Option (Nat × Nat)) (n cap : Nat) : Value :=
 match base with
 | none => .slice none 0 0
 | some (b, o) => .slice (some ⟨b, o, none⟩) n cap
inductive VRel (g : G) (w : World) : V → Value → Prop
 | int (k : IntKind) (n : Int) : VRel g w (.int k n) (.int k n)
 | yld (l : Nat) : VRel g w (.yld l) (.func (.yield l) #[] #[])
 | bool (b : Bool) : VRel g w (.bool b) (.bool b)
 | str (s : ByteArray) : VRel g w (.str s) (.string s)
 | nilS : VRel g w .nilS (.slice none 0 0)
 | nilP : VRel g w .nilP (.pointer none)
 | nilF : VRel g w .nilF .nilFunc
 | nilM : VRel g w .nilM (.map none)
 | nilI : VRel g w .nilI .nilIface
 | undef (v : Value) : VRel g w .undef v
 | skip : VRel g w .skip Go.undef
 | listNil : VRel g w (.list []) (.slice none 0 0)
 | listZ (a : Addr) : VRel g w (.list []) (.slice (some a) 0 0)
 | list (b o cap s : Nat) (es : List V) (c : Nat → Nat → Value) (hlen : es.length ≤ cap) (hpure : V.pureL es = true)
   (hs : ∀ (j : Nat) (e : V), es[j]? = some e → e.cells.length = s)
   (hO : ∀ j i, j < es.length → i < s → g.O b (o + j * s + i) = .imm)
   (hc : ∀ j i, j < es.length → i < s → w.cell? ⟨b, o + j * s + i, none⟩ = some (c j i))
   (hr : ∀ (j : Nat) (e : V) (i : Nat) (v : V), es[j]? = some e → e.cells[i]? = some v → VRel g w v (c j i)) :
   VRel g w (.list es) (.slice (some ⟨b, o, none⟩) es.length cap)
 | tl (t : Nat) (es : List V) (v' : Value) (base : Option (Nat × Nat)) (s cap n : Nat) (h : VRel g w (.list es) v')
   (ht : g.φ t = some (.tok base s cap n)) (hn : es.length ≤ n)
   (hcur : es.length = n → (∀ e ∈ es, e.cells.length = s) ∧ v' = tokVal base n cap) : VRel g w (.tl t es) v'
 | ref (s id ver off len cap b o s' ext ver' b' o' : Nat) (h : g.φ id = some (.arr b o s' ext ver')) (hv : ver ≤ ver') (hlen : len ≤ cap)
   (hcur : ver = ver' → s' = s ∧ (0 < cap → b' = b ∧ o' = o + off * s ∧ (off + cap) * s ≤ ext)) :
   VRel g w (.ref s id ver off len) (.slice (some ⟨b', o', none⟩) len cap)
 | agg (cs : List V) (vs : Array Value) (hs : vs.size = cs.length) (hr : ∀ (k : Nat) (v : V) (v' : Value), cs[k]? = some v → vs[k]? = some v' → VRel g w v v') :
   VRel g w (.agg cs) (.agg vs)
 | eptr (cs : List V) (off b o : Nat) (c : Nat → Value) (hO : ∀ i, i < cs.length → g.O b (o + i) = .imm)
   (hc : ∀ i, i < cs.length → w.cell? ⟨b, o + i, none⟩ = some (c i)) (hr : ∀ (i : Nat) (v : V), cs[i]? = some v → VRel g w v (c i)) :
   VRel g w (.eptr cs off) (.pointer (some ⟨b, o + off, none⟩))
 | ptr (id off b o n : Nat) (h : g.φ id = some (.cells b o n)) : VRel g w (.ptr id off) (.pointer (some ⟨b, o + off, none⟩))
 | aptr (id ver i off b o s ext ver' b' o' : Nat) (h : g.φ id = some (.arr b o s ext ver')) (hv : ver ≤ ver')
   (hcur : ver = ver' → b' = b ∧ o' = o + i * s + off) : VRel g w (.aptr id ver i off) (.pointer (some ⟨b', o', none⟩))
 | func (f : Nat) (cs : List V) (vs : Array Value) (hs : vs.size = cs.length) (hr : ∀ (k : Nat) (v : V) (v' : Value), cs[k]? = some v → vs[k]? = some v' → VRel g w v v') :
   VRel g w (.func f cs) (.func (.func f) #[] vs)
 | map (id b : Nat) (h : g.φ id = some (.map b)) : VRel g w (.map id) (.map (some b))
 | tuple (cs : List V) (vs : Array Value) (hs : vs.size = cs.length) (hr : ∀ (k : Nat) (v : V) (v' : Value), cs[k]? = some v → vs[k]? = some v' → VRel g w v v') :
   VRel g w (.tuple cs) (.tuple vs)
def LocLe : Loc → Loc → Prop
 | .cells b o n, l => l = .cells b o n
 | .map b, l => l = .map b
 | .arr b o s ext ver, .arr b' o' s' ext' ver' => ver ≤ ver' ∧ (ver = ver' → b' = b ∧ o' = o ∧ s' = s ∧ ext' = ext)
 | .tok base s cap n, .tok base' s' cap' n' => n ≤ n' ∧ (n = n' → base' = base ∧ s' = s ∧ cap' = cap)
 | _, _ => False
theorem LocLe.refl (l : Loc) : LocLe l l := by cases l <;> simp [LocLe]
theorem LocLe.trans {a b c : Loc} (h : LocLe a b) (k : LocLe b c) : LocLe a c := by
 cases a <;> cases b <;> simp [LocLe] at h <;> cases c <;> simp [LocLe] at k ⊢ <;> (try (obtain ⟨rfl, rfl, rfl⟩ := h; simp_all)) <;> (try (subst h; simp_all)) <;> (try (simp_all; done))
 ·refine ⟨by omega, fun e => ?_⟩
  obtain ⟨h1, h2⟩ := h; obtain ⟨k1, k2⟩ := k
  have := h2 (by omega); have := k2 (by omega); simp_all
 ·refine ⟨by omega, fun e => ?_⟩
  obtain ⟨h1, h2⟩ := h; obtain ⟨k1, k2⟩ := k
  have := h2 (by omega); have := k2 (by omega); simp_all
structure Ext (g : G) (w : World) (g' : G) (w' : World) : Prop where
 size : w.heap.size ≤ w'.heap.size
 imm : ∀ b o, g.O b o = .imm → g'.O b o = .imm ∧ w'.cell? ⟨b, o, none⟩ = w.cell? ⟨b, o, none⟩
 loc : ∀ id l, g.φ id = some l → ∃ l', g'.φ id = some l' ∧ LocLe l l'
 free : ∀ b, b < w.heap.size → (∀ o id, g.O b o ≠ .res id) → w'.heap[b]? = w.heap[b]? ∧ ∀ o, g'.O b o = g.O b o
 os : w'.os = w.os
 tape : w'.tape = w.tape
 output : w'.output = w.output
 drawn : w.drawn ≤ w'.drawn
theorem Ext.refl (g : G) (w : World) : Ext g w g w :=
 ⟨Nat.le_refl _, fun _ _ h => ⟨h, rfl⟩, fun _ l h => ⟨l, h, LocLe.refl l⟩, fun _ _ _ => ⟨rfl, fun _ => rfl⟩, rfl, rfl, rfl, Nat.le_refl _⟩
theorem Ext.trans {g g1 g2 : G} {w w1 w2 : World} (h : Ext g w g1 w1) (k : Ext g1 w1 g2 w2) : Ext g w g2 w2 where
 size := Nat.le_trans h.size k.size
 imm b o e := ⟨(k.imm b o (h.imm b o e).1).1, ((k.imm b o (h.imm b o e).1).2).trans (h.imm b o e).2⟩
 loc id l e := by
  obtain ⟨l1, e1, h1⟩ := h.loc id l e
  obtain ⟨l2, e2, h2⟩ := k.loc id l1 e1
  exact ⟨l2, e2, h1.trans h2⟩
 free b hb hf := by
  obtain ⟨e1, o1⟩ := h.free b hb hf
  obtain ⟨e2, o2⟩ := k.free b (Nat.lt_of_lt_of_le hb h.size) (fun o id => by rw [o1]; exact hf o id)
  exact ⟨e2.trans e1, fun o => (o2 o).trans (o1 o)⟩
 os := k.os.trans h.os
 tape := k.tape.trans h.tape
 output := k.output.trans h.output
 drawn := Nat.le_trans h.drawn k.drawn
structure Bears (g : G) (w : World) (g' : G) (w' : World) : Prop where
 imm : ∀ b o, g.O b o = .imm → g'.O b o = .imm ∧ w'.cell? ⟨b, o, none⟩ = w.cell? ⟨b, o, none⟩
 loc : ∀ id l, g.φ id = some l → ∃ l', g'.φ id = some l' ∧ LocLe l l'
theorem VRel.bear {g g' : G} {w w' : World} (x : Bears g w g' w') {v : V} {v' : Value} (h : VRel g w v v') : VRel g' w' v v' := by
 induction h with
 | int => exact .int _ _
 | yld => exact .yld _
 | bool => exact .bool _
 | str => exact .str _
 | nilS => exact .nilS
 | nilP => exact .nilP
 | nilF => exact .nilF
 | nilM => exact .nilM
 | nilI => exact .nilI
 | undef v => exact .undef v
 | skip => exact .skip
 | listNil => exact .listNil
 | listZ a => exact .listZ a
 | list b o cap s es c hlen hpure hs hO hc hr ih =>
  exact .list b o cap s es c hlen hpure hs (fun j i hj hi => (x.imm _ _ (hO j i hj hi)).1)
   (fun j i hj hi => ((x.imm _ _ (hO j i hj hi)).2).trans (hc j i hj hi)) ih
 | tl t es v' base s cap n h ht hn hcur ih =>
  obtain ⟨l', e, hl⟩ := x.loc t _ ht
  cases l' <;> simp [LocLe] at hl
  case tok base' s' cap' n' =>
   refine .tl t es v' base' s' cap' n' ih e (by omega) (fun he => ?_)
   have := hl.2 (by omega)
   obtain ⟨rfl, rfl, rfl⟩ := this
   obtain rfl : n = n' := by omega
   exact hcur he
 | ref s id ver off len cap b o s' ext ver' b' o' h hv hlen hcur =>
  obtain ⟨l', e, hl⟩ := x.loc id _ h
  cases l' <;> simp [LocLe] at hl
  case arr b2 o2 s2 ext2 ver2 =>
   refine .ref s id ver off len cap b2 o2 s2 ext2 ver2 b' o' e (by omega) hlen (fun he => ?_)
   have := hl.2 (by omega)
   obtain ⟨rfl, rfl, rfl, rfl⟩ := this
   exact hcur (by omega)
 | agg cs vs hs hr ih => exact .agg cs vs hs ih
 | eptr cs off b o c hO hc hr ih =>
  exact .eptr cs off b o c (fun i hi => (x.imm _ _ (hO i hi)).1) (fun i hi => ((x.imm _ _ (hO i hi)).2).trans (hc i hi)) ih
 | ptr id off b o n h =>
  obtain ⟨l', e, hl⟩ := x.loc id _ h
  simp [LocLe] at hl
  subst hl
  exact .ptr id off b o n e
 | aptr id ver i off b o s ext ver' b' o' h hv hcur =>
  obtain ⟨l', e, hl⟩ := x.loc id _ h
  cases l' <;> simp [LocLe] at hl
  case arr b2 o2 s2 ext2 ver2 =>
   refine .aptr id ver i off b2 o2 s2 ext2 ver2 b' o' e (by omega) (fun he => ?_)
   have := hl.2 (by omega)
   obtain ⟨rfl, rfl, rfl, rfl⟩ := this
   exact hcur (by omega)
 | func f cs vs hs hr ih => exact .func f cs vs hs ih
 | map id b h =>
  obtain ⟨l', e, hl⟩ := x.loc id _ h
  simp [LocLe] at hl
  subst hl
  exact .map id b e
 | tuple cs vs hs hr ih => exact .tuple cs vs hs ih
theorem VRel.mono {g g' : G} {w w' : World} (x : Ext g w g' w') {v : V} {v' : Value} (h : VRel g w v v') : VRel g' w' v v' := h.bear ⟨x.imm, x.loc⟩
inductive ORel (g : G) (w : World) (id : Nat) : HObj → Loc → Prop
 | cells (cs : List V) (b o : Nat) (h : ∀ k, k < cs.length → g.O b (o + k) = .res id ∧ w.frozen? ⟨b, o + k, none⟩ = false)
   (hc : ∀ (k : Nat) (v : V), cs[k]? = some v → ∃ v', w.cell? ⟨b, o + k, none⟩ = some v' ∧ VRel g w v v') : ORel g w id (.cells cs) (.cells b o cs.length)
 | arr (es : List V) (b o s ext ver : Nat) (hext : es.length * s ≤ ext) (hs : ∀ (j : Nat) (e : V), es[j]? = some e → e.cells.length = s)
   (h : ∀ k, k < ext → g.O b (o + k) = .res id ∧ w.frozen? ⟨b, o + k, none⟩ = false ∧ ∃ v', w.cell? ⟨b, o + k, none⟩ = some v')
   (hc : ∀ (j : Nat) (e : V) (i : Nat) (v : V), es[j]? = some e → e.cells[i]? = some v → ∃ v', w.cell? ⟨b, o + j * s + i, none⟩ = some v' ∧ VRel g w v v') :
   ORel g w id (.arr es ver) (.arr b o s ext ver)
 | tokNil (s : Nat) : ORel g w id (.tok 0) (.tok none s 0 0)
 | tok (n b o s cap : Nat) (hcap : n ≤ cap) (h0 : n = 0 → cap = 0)
   (h : ∀ k, n * s ≤ k → k < cap * s → g.O b (o + k) = .res id ∧ w.frozen? ⟨b, o + k, none⟩ = false ∧ ∃ v', w.cell? ⟨b, o + k, none⟩ = some v') :
   ORel g w id (.tok n) (.tok (some (b, o)) s cap n)
 | map (es : List (V × V)) (b clock : Nat) (es' : Array MapEntry) (ho : g.O b 0 = .res id) (hb : w.heap[b]? = some (.map es' clock)) (hs : es'.size = es.length)
   (hr : ∀ (k : Nat) (kv : V × V) (e : MapEntry), es[k]? = some kv → es'[k]? = some e → VRel g w kv.1 e.key ∧ VRel g w kv.2 e.val) :
   ORel g w id (.map es) (.map b)
def objUnder (n : Nat) : HObj → Bool
 | .cells cs => V.underL n cs
 | .arr es _ => V.underL n es
 | .tok _ => true
 | .map es => es.all fun kv => kv.1.under n && kv.2.under n
def okObj (bs : List Nat) (id : Nat) (ob : HObj) : Prop := ∀ b ∈ bs, b ≤ id ∨ objUnder b ob = true
structure Sim (bs : List Nat) (g : G) (H : Heap) (w : World) : Prop where
 bl : bs.headD 0 ≤ H.length
 srt : ∀ b ∈ bs, b ≤ bs.headD 0
 dom : ∀ id, g.φ id ≠ none → id < H.length
 old : ∀ b o, g.O b o ≠ .none → b < w.heap.size
 obj : ∀ id ob l, H[id]? = some ob → g.φ id = some l → ORel g w id ob l
 und : ∀ id ob, H[id]? = some ob → g.φ id ≠ none → okObj bs id ob
structure Out (bs : List Nat) (g : G) (w : World) (H : Heap) (g' : G) (w' : World) (H' : Heap) : Prop where
 sim : Sim bs g' H' w'
 ext : Ext g w g' w'
 len : H.length ≤ H'.length
 dom : ∀ id, g'.φ id ≠ none ↔ g.φ id ≠ none ∨ (H.length ≤ id ∧ id < H'.length)
theorem Out.refl {bs : List Nat} {g : G} {w : World} {H : Heap} (h : Sim bs g H w) : Out bs g w H g w H :=
 ⟨h, .refl g w, Nat.le_refl _, fun id => ⟨.inl, fun h => h.resolve_right (by omega)⟩⟩
theorem Out.trans {bs : List Nat} {g g1 g2 : G} {w w1 w2 : World} {H H1 H2 : Heap} (h : Out bs g w H g1 w1 H1) (k : Out bs g1 w1 H1 g2 w2 H2) : Out bs g w H g2 w2 H2 where
 sim := k.sim
 ext := h.ext.trans k.ext
 len := Nat.le_trans h.len k.len
 dom id := by
  rw [k.dom, h.dom]
  have := h.len; have := k.len
  constructor
  ·rintro ((h | h) | h)
   ·exact .inl h
   ·exact .inr (by omega)
   ·exact .inr (by omega)
  ·rintro (h | h)
   ·exact .inl (.inl h)
   ·by_cases hi : id < H1.length
    ·exact .inl (.inr ⟨h.1, hi⟩)
    ·exact .inr (by omega)
structure Keep (id : Nat) (g : G) (w : World) (g' : G) (w' : World) : Prop where
 own : ∀ b o, g.O b o = .res id → g'.O b o = .res id
 cell : ∀ b o, g.O b o = .res id → w'.cell? ⟨b, o, none⟩ = w.cell? ⟨b, o, none⟩ ∧ w'.frozen? ⟨b, o, none⟩ = w.frozen? ⟨b, o, none⟩
 map : ∀ b es c, g.O b 0 = .res id → w.heap[b]? = some (.map es c) → w'.heap[b]? = some (.map es c)
theorem ORel.keepB {g g' : G} {w w' : World} {id : Nat} {ob : HObj} {l : Loc} (x : Bears g w g' w') (k : Keep id g w g' w') (h : ORel g w id ob l) : ORel g' w' id ob l := by
 cases h with
 | cells cs b o h hc =>
  refine .cells cs b o (fun j hj => ⟨k.own _ _ (h j hj).1, ((k.cell _ _ (h j hj).1).2).trans (h j hj).2⟩) (fun j v hv => ?_)
  obtain ⟨v', e, r⟩ := hc j v hv
  have hj : j < cs.length := by rw [List.getElem?_eq_some_iff] at hv; exact hv.1
  exact ⟨v', ((k.cell _ _ (h j hj).1).1).trans e, r.bear x⟩
 | arr es b o s ext ver hext hs h hc =>
  refine .arr es b o s ext ver hext hs (fun j hj => ?_) (fun j e i v he hv => ?_)
  ·obtain ⟨h1, h2, v', h3⟩ := h j hj
   exact ⟨k.own _ _ h1, ((k.cell _ _ h1).2).trans h2, v', ((k.cell _ _ h1).1).trans h3⟩
  ·obtain ⟨v', e1, r⟩ := hc j e i v he hv
   have hj : j < es.length := by rw [List.getElem?_eq_some_iff] at he; exact he.1
   have hi : i < s := by have := hs j e he; obtain ⟨hh, _⟩ := List.getElem?_eq_some_iff.1 hv; omega
   have hk : j * s + i < ext := by
    have : (j + 1) * s ≤ es.length * s := Nat.mul_le_mul_right s hj
    rw [Nat.add_mul] at this; omega
   have ho := (h (j * s + i) hk).1
   rw [← Nat.add_assoc] at ho
   exact ⟨v', ((k.cell _ _ ho).1).trans e1, r.bear x⟩
 | tokNil s => exact .tokNil s
 | tok n b o s cap hcap h0 h =>
  refine .tok n b o s cap hcap h0 (fun j hj hk => ?_)
  obtain ⟨h1, h2, v', h3⟩ := h j hj hk
  exact ⟨k.own _ _ h1, ((k.cell _ _ h1).2).trans h2, v', ((k.cell _ _ h1).1).trans h3⟩
 | map es b clock es' ho hb hs hr =>
  exact .map es b clock es' (k.own _ _ ho) (k.map _ _ _ ho hb) hs (fun j kv e h1 h2 => ⟨(hr j kv e h1 h2).1.bear x, (hr j kv e h1 h2).2.bear x⟩)
theorem ORel.keep {g g' : G} {w w' : World} {id : Nat} {ob : HObj} {l : Loc} (x : Ext g w g' w') (k : Keep id g w g' w') (h : ORel g w id ob l) : ORel g' w' id ob l := h.keepB ⟨x.imm, x.loc⟩ k
end Go.E
namespace Go.E
section
variable {P : Program} {g : G} {w : World}
theorem ya (s : ByteArray) : ∀ (n i : Nat) (r : List UInt8), s.size - i = n → ByteArray.toList.loop s i r = r.reverse ++ s.data.toList.drop i
 | 0, i, r, h => by
  rw [ByteArray.toList.loop.eq_1, if_neg (by omega), List.drop_eq_nil_of_le (by
   have : s.data.toList.length = s.size := by simp
   omega)]
  simp
 | n + 1, i, r, h => by
  have hi : i < s.data.toList.length := by
   have : s.data.toList.length = s.size := by simp
   omega
  have hi2 : i < s.size := by omega
  rw [ByteArray.toList.loop.eq_1, if_pos (by omega), ya s n (i + 1) _ (by omega), List.drop_eq_getElem_cons hi]
  have hg : s.get! i = s.data.toList[i] := by
   have : i < s.data.size := hi2
   show s.data[i]! = _
   rw [getElem!_pos s.data i this]; simp
  simp [hg]
theorem qp (s : ByteArray) : s.toList = s.data.toList := by
 rw [ByteArray.toList.eq_1, ya s s.size 0 [] (by omega)]; simp
theorem sM (a b : ByteArray) : (a == b) = decide (a = b) := by
 have h : (a == b) = (a.data == b.data) := rfl
 rw [h, Bool.eq_iff_iff]; simp
 constructor
 ·intro h; cases a; cases b; simp_all
 ·intro h; rw [h]
theorem EL (a b : ByteArray) : (a.toList == b.toList) = decide (a = b) := by
 rw [qp, qp, Bool.eq_iff_iff]; simp
 constructor
 ·intro h; cases a; cases b; simp_all
 ·intro h; rw [h]
theorem fU (b o n : Nat) : (⟨b, o, none⟩ : Addr).add n = ⟨b, o + n, none⟩ := by
 unfold Addr.add; split <;> simp_all
theorem mH {t : TypeId} {i : TypeInfo} (h : P.info? t = some i) (w : World) : (typeInfo t).run P w = .ok i w := by
 simp [typeInfo, h]
theorem aD {t : TypeId} {n : Nat} (h : sizeT P t = some n) (w : World) : (sizeOf t).run P w = .ok n w := by
 unfold sizeT at h
 cases hi : P.info? t with
 | none => simp [hi] at h
 | some i => simp [hi] at h; simp [sizeOf, typeInfo, hi, h]
theorem lX {t : TypeId} {b : Bool} (h : isAggT P t = some b) (w : World) : (isAgg t).run P w = .ok b w := by
 unfold isAggT at h
 cases hu : P.underlying t with
 | none => simp [hu] at h
 | some d =>
  simp [hu] at h
  simp [isAgg, run_underlying hu]
  cases d <;> simp_all
theorem jE {t : TypeId} {z : V} (h : zeroT P t = some z) : ∃ v, z = ofVal v ∧ ∀ w, (zeroValue t).run P w = .ok v w := by
 unfold zeroT at h
 cases hi : P.info? t with
 | none => simp [hi] at h
 | some i =>
  simp [hi] at h
  obtain ⟨v, hv, rfl⟩ := h
  exact ⟨v, rfl, fun w => by simp [zeroValue, typeInfo, hi, hv]⟩
theorem sN (v : Value) : VRel g w (jd v) v := by
 unfold jd
 split <;> first | exact .int _ _ | exact .bool _ | exact .str _ | exact .nilS | exact .nilP | exact .nilF | exact .nilM | exact .nilI | exact .undef _
theorem iF (v : Value) : VRel g w (ofVal v) v := by
 unfold ofVal
 split
 ·rename_i cs
  refine .agg _ _ (by simp) (fun k v v' h h' => ?_)
  simp only [List.getElem?_map, Option.map_eq_some_iff, Array.getElem?_toList] at h
  obtain ⟨u, hu, rfl⟩ := h
  rw [h'] at hu
  cases hu
  exact sN _
 ·exact sN _
structure ERel (g : G) (w : World) (ρ : Env) (ts : Array Value) (n : Nat) : Prop where
 size : ts.size = n
 rel : ∀ i, VRel g w (ρ i) (ts.getD i Go.undef)
theorem ERel.mono {g' : G} {w' : World} {ρ : Env} {ts : Array Value} {n : Nat} (h : ERel g w ρ ts n) (x : Ext g w g' w') : ERel g' w' ρ ts n :=
 ⟨h.size, fun i => (h.rel i).mono x⟩
theorem ERel.opnd {ρ : Env} {a : Act} {n : Nat} (h : ERel g w ρ a.tmps n) (x : Operand) : VRel g w (opnd ρ x) (a.eval x) := by
 cases x with
 | tmp t => exact h.rel t
 | const v => exact iF v
 | global gl => exact .undef _
 | func f => exact .func f [] #[] rfl (by simp)
theorem ERel.put {ρ : Env} {ts : Array Value} {n d : Nat} {v : V} {v' : Value} (h : ERel g w ρ ts n) (hd : d < n) (hv : VRel g w v v') :
  ERel g w (ρ.put d v) (ts.setIfInBounds d v') n := by
 refine ⟨by simp [h.size], fun i => ?_⟩
 unfold Env.put
 by_cases hi : i = d
 ·subst hi
  have : i < ts.size := by rw [h.size]; exact hd
  simp [Array.getD, this, hv]
 ·rw [if_neg hi]
  have := h.rel i
  simp only [Array.getD_eq_getD_getElem?] at this ⊢
  rw [Array.getElem?_setIfInBounds_ne (Ne.symm hi)]
  exact this
theorem oo {es : List V} {v' : Value} (h : VRel g w (.list es) v') : v'.cells = #[v'] := by
 cases h <;> rfl
theorem vI {es : List V} {v' : Value} (h : VRel g w (.list es) v') : v'.oneCell' = true := by
 cases h <;> rfl
theorem zW {v : V} {v' : Value} (h : VRel g w v v') (hu : v ≠ .undef) :
  (∃ cs vs, v = .agg cs ∧ v' = .agg vs) ∨ (v.cells = [v] ∧ v'.cells = #[v']) := by
 cases h with
 | undef => exact absurd rfl hu
 | agg cs vs hs hr => exact .inl ⟨cs, vs, rfl, rfl⟩
 | tl t es v' base s cap n h ht hn hcur => exact .inr ⟨rfl, oo h⟩
 | _ => exact .inr ⟨rfl, rfl⟩
theorem gT {v : V} {v' : Value} (h : VRel g w v v') (hu : v ≠ .undef) :
  v'.cells.size = v.cells.length ∧ ∀ (k : Nat) (x : V) (x' : Value), v.cells[k]? = some x → v'.cells[k]? = some x' → VRel g w x x' := by
 rcases zW h hu with ⟨cs, vs, rfl, rfl⟩ | ⟨e, e'⟩
 ·cases h with
  | agg _ _ hs hr => exact ⟨hs, hr⟩
 ·rw [e, e']
  refine ⟨rfl, fun k x x' hx hx' => ?_⟩
  cases k with
  | zero => simp at hx hx'; subst hx; subst hx'; exact h
  | succ k => simp at hx
theorem lY {v : V} {v' : Value} (h : VRel g w v v') (hc : v.isCell = true) : v'.oneCell' = true ∧ v'.cells = #[v'] ∧ v.cells = [v] := by
 cases h with
 | tl t es _ base s cap n h ht hn hcur => exact ⟨vI h, oo h, rfl⟩
 | undef | skip | agg | tuple => simp [V.isCell] at hc
 | _ => exact ⟨rfl, rfl, rfl⟩
theorem oV {t : TypeId} {cs : List V} {off : Nat} {v : V} (hp : partV P t cs off = some v) {b o : Nat} {c : Nat → Value}
  (hc : ∀ i, i < cs.length → w.cell? ⟨b, o + i, none⟩ = some (c i)) (hr : ∀ (i : Nat) (v : V), cs[i]? = some v → VRel g w v (c i)) :
  ∃ v', (loadVar t ⟨b, o + off, none⟩).run P w = .ok v' w ∧ VRel g w v v' := by
 unfold partV at hp
 cases ha : isAggT P t with
 | none => simp [ha] at hp
 | some ag =>
  cases ag with
  | true =>
   cases hs : sizeT P t with
   | none => simp [ha, hs] at hp
   | some n =>
    simp only [ha, hs] at hp
    by_cases hle : off + n ≤ cs.length
    ·rw [if_pos hle] at hp
     cases hp
     have hl := run_loadCells (P := P) w ⟨b, o + off, none⟩ n (fun j => c (off + j)) (fun j hj => by
      rw [fU, Nat.add_assoc]; exact hc _ (by omega))
     refine ⟨.agg ((List.range n).map fun j => c (off + j)).toArray, by simp [loadVar, lX ha, aD hs, hl], ?_⟩
     refine .agg _ _ (by simp; omega) (fun k x x' hx hx' => ?_)
     have hk : k < n := by
      obtain ⟨hk, _⟩ := List.getElem?_eq_some_iff.1 hx
      simp at hk; omega
     rw [List.getElem?_take_of_lt hk, List.getElem?_drop] at hx
     simp [hk] at hx'
     subst hx'
     exact hr _ _ hx
    ·rw [if_neg hle] at hp; cases hp
  | false =>
   have hp' : cs[off]? = some v := by cases hs : sizeT P t <;> simpa [ha, hs] using hp
   obtain ⟨hlt, _⟩ := List.getElem?_eq_some_iff.1 hp'
   exact ⟨c off, by simp [loadVar, lX ha, hc off hlt], hr _ _ hp'⟩
theorem oW {t : TypeId} {cs : List V} {vs : Array Value} {off : Nat} {v : V} (hp : partV P t cs off = some v) (hs : vs.size = cs.length)
  (hr : ∀ (k : Nat) (v : V) (v' : Value), cs[k]? = some v → vs[k]? = some v' → VRel g w v v') :
  ∃ v', (part t vs off).run P w = .ok v' w ∧ VRel g w v v' := by
 unfold partV at hp
 cases ha : isAggT P t with
 | none => simp [ha] at hp
 | some ag =>
  cases ag with
  | true =>
   cases hz : sizeT P t with
   | none => simp [ha, hz] at hp
   | some n =>
    simp only [ha, hz] at hp
    by_cases hle : off + n ≤ cs.length
    ·rw [if_pos hle] at hp
     cases hp
     refine ⟨.agg (vs.extract off (off + n)), by simp [part, lX ha, aD hz], ?_⟩
     refine .agg _ _ (by simp; omega) (fun k x x' hx hx' => ?_)
     have hk : k < n := by
      obtain ⟨hk, _⟩ := List.getElem?_eq_some_iff.1 hx
      simp at hk; omega
     rw [List.getElem?_take_of_lt hk, List.getElem?_drop] at hx
     rw [Array.getElem?_extract] at hx'
     split at hx'
     ·exact hr _ _ _ hx hx'
     ·cases hx'
    ·rw [if_neg hle] at hp; cases hp
  | false =>
   have hp' : cs[off]? = some v := by cases hz : sizeT P t <;> simpa [ha, hz] using hp
   obtain ⟨hlt, _⟩ := List.getElem?_eq_some_iff.1 hp'
   have : off < vs.size := by omega
   exact ⟨vs[off], by simp [part, lX ha, this], hr _ _ _ hp' (by simp [this])⟩
theorem zX {es : List V} {v' : Value} (h : VRel g w (.list es) v') {i : Nat} {e : V} (he : es[i]? = some e) :
  ∃ (b o cap s : Nat) (c : Nat → Value), v' = .slice (some ⟨b, o, none⟩) es.length cap ∧ es.length ≤ cap ∧ e.cells.length = s ∧
   (∀ k, k < s → g.O b (o + i * s + k) = .imm ∧ w.cell? ⟨b, o + i * s + k, none⟩ = some (c k)) ∧ ∀ (k : Nat) (v : V), e.cells[k]? = some v → VRel g w v (c k) := by
 cases h with
 | listNil => simp at he
 | listZ a => simp at he
 | list b o cap s es c hlen hpure hs hO hc hr =>
  obtain ⟨hi, _⟩ := List.getElem?_eq_some_iff.1 he
  exact ⟨b, o, cap, s, c i, rfl, hlen, hs i e he, fun k hk => ⟨hO i k hi hk, hc i k hi hk⟩, fun k v hv => hr i e k v he hv⟩
theorem eC {t : Nat} {es : List V} {v' : Value} (h : VRel g w (.tl t es) v') : VRel g w (.list es) v' := by
 cases h with
 | tl t es v' base s cap n h ht hn hcur => exact h
theorem sb {es : List V} {v' : Value} (h : VRel g w (.list es) v') : ∃ a cap, v' = .slice a es.length cap := by
 cases h with
 | listNil => exact ⟨none, 0, rfl⟩
 | listZ a => exact ⟨_, 0, rfl⟩
 | list b o cap s es c hlen hpure hs hO hc hr => exact ⟨_, cap, rfl⟩
end
end Go.E
namespace Go.E
section
variable {P : Program} {g : G} {w : World} {bs : List Nat} {H : Heap}
theorem qq (hS : Sim bs g H w) {id b o n : Nat} {cs : List V} (hH : H[id]? = some (.cells cs)) (hφ : g.φ id = some (.cells b o n)) :
  n = cs.length ∧ (∀ k, k < cs.length → g.O b (o + k) = .res id ∧ w.frozen? ⟨b, o + k, none⟩ = false) ∧
   ∀ (k : Nat) (v : V), cs[k]? = some v → ∃ v', w.cell? ⟨b, o + k, none⟩ = some v' ∧ VRel g w v v' := by
 have h := hS.obj id _ _ hH hφ
 cases h with
 | cells _ _ _ h hc => exact ⟨rfl, h, hc⟩
theorem mv (hS : Sim bs g H w) {id b o s ext ver' ver : Nat} {es : List V} (hH : H[id]? = some (.arr es ver)) (hφ : g.φ id = some (.arr b o s ext ver')) :
  ver = ver' ∧ es.length * s ≤ ext ∧ (∀ (j : Nat) (e : V), es[j]? = some e → e.cells.length = s) ∧
   (∀ k, k < ext → g.O b (o + k) = .res id ∧ w.frozen? ⟨b, o + k, none⟩ = false ∧ ∃ v', w.cell? ⟨b, o + k, none⟩ = some v') ∧
   ∀ (j : Nat) (e : V) (i : Nat) (v : V), es[j]? = some e → e.cells[i]? = some v → ∃ v', w.cell? ⟨b, o + j * s + i, none⟩ = some v' ∧ VRel g w v v' := by
 have h := hS.obj id _ _ hH hφ
 cases h with
 | arr _ _ _ _ _ _ hext hs h hc => exact ⟨rfl, hext, hs, h, hc⟩
theorem sO (hS : Sim bs g H w) {t : TypeId} {p v : V} {p' : Value} (hl : loadV P t p H = some v) (hp : VRel g w p p') :
  ∃ v', (Instr.loadAt t p').run P w = .ok v' w ∧ VRel g w v v' := by
 cases hp with
 | eptr cs off b o c hO hc hr =>
  obtain ⟨v', e, r⟩ := oV (w := w) (b := b) (o := o) (c := c) hl hc hr
  exact ⟨v', by simp [Instr.loadAt, Instr.sureAddr, e], r⟩
 | ptr id off b o n h =>
  simp only [loadV] at hl
  cases hH : H[id]? with
  | none => simp [hH] at hl
  | some ob =>
   cases ob with
   | cells cs =>
    simp only [hH] at hl
    obtain ⟨_, _, hc⟩ := qq hS hH h
    obtain ⟨v', e, r⟩ := oV (g := g) (w := w) (b := b) (o := o) (c := fun i => (w.cell? ⟨b, o + i, none⟩).getD Go.undef) hl
     (fun i hi => by obtain ⟨x, hx, _⟩ := hc i cs[i] (by simp [hi]); simp [hx])
     (fun i v hv => by obtain ⟨x, hx, hr⟩ := hc i v hv; simpa [hx] using hr)
    exact ⟨v', by simp [Instr.loadAt, Instr.sureAddr, e], r⟩
   | _ => simp [hH] at hl
 | aptr id ver i off b o s ext ver' b' o' h hv hcur =>
  simp only [loadV] at hl
  cases hH : H[id]? with
  | none => simp [hH] at hl
  | some ob =>
   cases ob with
   | arr es v0 =>
    simp only [hH] at hl
    obtain ⟨rfl, _, _, _, hc⟩ := mv hS hH h
    by_cases hver : v0 = ver
    ·rw [if_pos hver] at hl
     subst hver
     obtain ⟨rfl, rfl⟩ := hcur rfl
     cases he : es[i]? with
     | none => simp [he] at hl
     | some e =>
      simp only [he, Option.bind_some] at hl
      obtain ⟨v', e1, r⟩ := oV (g := g) (w := w) (b := b') (o := o + i * s) (c := fun k => (w.cell? ⟨b', o + i * s + k, none⟩).getD Go.undef) hl
       (fun k hk => by obtain ⟨x, hx, _⟩ := hc i e k e.cells[k] he (by simp [hk]); simp [hx])
       (fun k v hv => by obtain ⟨x, hx, hr⟩ := hc i e k v he hv; simpa [hx] using hr)
      exact ⟨v', by simp [Instr.loadAt, Instr.sureAddr, e1], r⟩
    ·rw [if_neg hver] at hl; cases hl
   | _ => simp [hH] at hl
 | _ => simp [loadV] at hl
theorem xk {op : BinOp} {k : IntKind} {x y : Int} {v : V} (h : intOp op k x y = some v) (t : TypeId) :
  ∃ v', (binOp op t (.int k x) (.int k y)).run P w = .ok v' w ∧ VRel g w v v' := by
 cases op <;> simp only [intOp] at h <;> (try (split at h)) <;> (try cases h) <;>
  first
   | (refine ⟨_, ?_, .int _ _⟩; simp [binOp, Op.intArith, Op.intDiv, Op.intBits, bitsI, *]; done)
   | (refine ⟨_, ?_, .bool _⟩; simp [binOp, Op.intCmp]; done)
theorem pS {op : BinOp} {k k' : IntKind} {x y : Int} {v : V} (h : shiftOp op k x y = some v) :
  ∃ v', (Op.shift op k x k' y).run P w = .ok v' w ∧ VRel g w v v' := by
 unfold shiftOp at h
 split at h
 ·cases h
 ·rename_i hy
  cases op <;> simp at h <;> subst h <;> refine ⟨_, ?_, .int _ _⟩ <;> simp [Op.shift, hy]
theorem xl {op : BinOp} {x y : ByteArray} {v : V} (h : strOp op x y = some v) :
  ∃ v', (Op.stringOp op x y).run P w = .ok v' w ∧ VRel g w v v' := by
 have hm : IntKind.i64.max = 9223372036854775807 := by decide
 cases op <;> simp only [strOp] at h <;> (try (split at h)) <;> (try cases h) <;>
  first
   | (refine ⟨_, ?_, .str _⟩; simp only [Op.stringOp]; rw [if_neg (by rw [hm]; omega)]; rfl)
   | (refine ⟨_, ?_, .bool _⟩; simp only [Op.stringOp]; (try simp only [EL]); (try simp only [qp]); rfl)
theorem yO {op : UnOp} {x v : V} {x' : Value} (h : unOpV op x = some v) (hx : VRel g w x x') :
  ∃ v', (Op.unary op x').run P w = .ok v' w ∧ VRel g w v v' := by
 cases hx <;> cases op <;> simp [unOpV] at h <;> subst h <;>
  first
   | (refine ⟨_, ?_, .int _ _⟩; simp [Op.unary, Op.intArith, Op.intBits, bitsI]; done)
   | (refine ⟨_, ?_, .bool _⟩; simp [Op.unary]; done)
theorem yP {s d : TypeId} {x v : V} {x' : Value} (h : convV P s d x = some v) (hx : VRel g w x x') :
  ∃ v', (convert s d x').run P w = .ok v' w ∧ VRel g w v v' := by
 unfold convV at h
 split at h
 ·rename_i k k' n hs hd
  cases h; cases hx
  exact ⟨_, by simp [convert, run_underlying hs, run_underlying hd, Conv.intToInt], .int _ _⟩
 ·rename_i s' hs hd
  cases h; cases hx
  exact ⟨_, by simp [convert, run_underlying hs, run_underlying hd], .str _⟩
 ·cases h
theorem vJ {ix : V} {i : Nat} {ix' : Value} (h : idxV ix = some i) (hx : VRel g w ix ix') : ∃ k n, ix' = .int k n ∧ 0 ≤ n ∧ n.toNat = i := by
 cases hx <;> simp [idxV] at h
 case int k n => exact ⟨k, n, rfl, h.1, h.2⟩
theorem rF {t e : TypeId} {b o len cap s i : Nat} {k : IntKind} {n : Int} (ht : P.underlying t = some (.slice e)) (hs : sizeT P e = some s)
  (h0 : 0 ≤ n) (hi : n.toNat = i) (hlt : i < len) :
  (Instr.indexAt t (.slice (some ⟨b, o, none⟩) len cap) (.int k n)).run P w = .ok (.pointer (some ⟨b, o + i * s, none⟩)) w := by
 have h1 : 0 ≤ n ∧ n < (len : Int) := ⟨h0, by omega⟩
 simp [Instr.indexAt, run_underlying ht, asIntOf, h1, aD hs, fU, hi]
theorem nS {t e : TypeId} {b o len s i : Nat} {k : IntKind} {n : Int} (ht : P.underlying t = some (.array len e)) (hs : sizeT P e = some s)
  (h0 : 0 ≤ n) (hi : n.toNat = i) (hlt : i < len) :
  (Instr.indexAt t (.pointer (some ⟨b, o, none⟩)) (.int k n)).run P w = .ok (.pointer (some ⟨b, o + i * s, none⟩)) w := by
 have h1 : 0 ≤ n ∧ n < (len : Int) := ⟨h0, by omega⟩
 simp [Instr.indexAt, run_underlying ht, asIntOf, Instr.sureAddr, h1, aD hs, fU, hi]
theorem sP {t : TypeId} {x ix v : V} {x' ix' : Value} (h : indexAddrV P t x ix = some v) (hx : VRel g w x x') (hi : VRel g w ix ix') :
  ∃ v', (Instr.indexAt t x' ix').run P w = .ok v' w ∧ VRel g w v v' := by
 unfold indexAddrV at h
 cases hj : idxV ix with
 | none => simp [hj] at h
 | some i =>
  obtain ⟨k, n, rfl, h0, hn⟩ := vJ hj hi
  simp only [hj] at h
  have lists : ∀ (e : TypeId) (es : List V), P.underlying t = some (.slice e) → VRel g w (.list es) x' →
    ((es[i]?).bind fun c => if sizeT P e = some c.cells.length then some (V.eptr c.cells 0) else none) = some v →
    ∃ v', (Instr.indexAt t x' (.int k n)).run P w = .ok v' w ∧ VRel g w v v' := by
   intro e es ht hx h
   cases he : es[i]? with
   | none => simp [he] at h
   | some c =>
    simp only [he, Option.bind_some] at h
    by_cases hs : sizeT P e = some c.cells.length
    ·rw [if_pos hs] at h; cases h
     obtain ⟨b, o, cap, s, cc, rfl, hcap, hsz, h1, h2⟩ := zX hx he
     subst hsz
     obtain ⟨hlt, _⟩ := List.getElem?_eq_some_iff.1 he
     exact ⟨_, rF ht hs h0 hn hlt, .eptr c.cells 0 b (o + i * c.cells.length) cc (fun k hk => (h1 k hk).1) (fun k hk => (h1 k hk).2) h2⟩
    ·rw [if_neg hs] at h; cases h
  split at h
  ·rename_i e es ht; exact lists e es ht hx h
  ·rename_i e tk es ht; exact lists e es ht (eC hx) h
  ·rename_i e s id ver off len ht
   split at h
   ·rename_i hlt
    cases h
    obtain ⟨hlt, hs⟩ := hlt
    cases hx with
    | ref _ _ _ _ _ cap b o s' ext ver' b' o' hφ hv hlen hcur =>
     refine ⟨_, rF ht hs h0 hn hlt, .aptr _ _ _ _ b o s' ext ver' _ _ hφ hv (fun e => ?_)⟩
     obtain ⟨rfl, h2⟩ := hcur e
     obtain ⟨rfl, rfl, _⟩ := h2 (by omega)
     exact ⟨rfl, by rw [Nat.add_mul]; omega⟩
   ·cases h
  ·rename_i m e id off ht
   split at h
   ·rename_i hlt
    cases hs : sizeT P e with
    | none => simp [hs] at h
    | some s =>
     simp [hs] at h; subst h
     cases hx with
     | ptr _ _ b o n2 hφ =>
      exact ⟨_, nS ht hs h0 hn hlt, by rw [Nat.add_assoc]; exact .ptr _ _ b o n2 hφ⟩
   ·cases h
  ·rename_i m e cs off ht
   split at h
   ·rename_i hlt
    cases hs : sizeT P e with
    | none => simp [hs] at h
    | some s =>
     simp [hs] at h; subst h
     cases hx with
     | eptr _ _ b o c hO hc hr =>
      exact ⟨_, nS ht hs h0 hn hlt, by rw [Nat.add_assoc]; exact .eptr _ _ b o c hO hc hr⟩
   ·cases h
  ·rename_i m e id ver j off ht
   split at h
   ·rename_i hlt
    cases hs : sizeT P e with
    | none => simp [hs] at h
    | some s =>
     simp [hs] at h; subst h
     cases hx with
     | aptr _ _ _ _ b o s2 ext ver' b' o' hφ hv hcur =>
      exact ⟨_, nS ht hs h0 hn hlt, .aptr _ _ _ _ b o s2 ext ver' _ _ hφ hv (fun e => ⟨(hcur e).1, by have := (hcur e).2; omega⟩)⟩
   ·cases h
  ·cases h
theorem sQ {t : TypeId} {x v : V} {j : Nat} {x' : Value} (h : fieldAddrV P t x j = some v) (hx : VRel g w x x') :
  ∃ v', (Instr.fieldAt t x' j).run P w = .ok v' w ∧ VRel g w v v' := by
 unfold fieldAddrV fieldsT at h
 cases hu : P.underlying t with
 | none => simp [hu] at h
 | some d =>
  cases d <;> simp only [hu, Option.bind_none, Option.bind_some] at h <;> (try (cases h; done))
  rename_i fs
  cases hf : fs[j]? with
  | none => simp [hf] at h
  | some f =>
   simp only [hf, Option.bind_some] at h
   split at h
   ·cases h
   ·rename_i hz
    split at h
    ·cases h
    ·rename_i hz2
     cases hs : sizeT P f.type with
     | none => exact absurd hs hz2
     | some s =>
      have hs0 : s ≠ 0 := fun e => hz (by rw [hs, e])
      have run : ∀ b o, (Instr.fieldAt t (.pointer (some ⟨b, o, none⟩)) j).run P w = .ok (.pointer (some ⟨b, o + f.offset, none⟩)) w := fun b o => by
       simp [Instr.fieldAt, run_underlying hu, hf, Instr.sureAddr, fieldPlace, aD hs, hs0, fU]
      split at h
      ·cases h
       cases hx with
       | ptr _ _ b o n hφ => exact ⟨_, run _ _, by rw [Nat.add_assoc]; exact .ptr _ _ b o n hφ⟩
      ·cases h
       cases hx with
       | eptr _ _ b o c hO hc hr => exact ⟨_, run _ _, by rw [Nat.add_assoc]; exact .eptr _ _ b o c hO hc hr⟩
      ·cases h
       cases hx with
       | aptr _ _ _ _ b o s2 ext ver' b' o' hφ hv hcur =>
        exact ⟨_, run _ _, .aptr _ _ _ _ b o s2 ext ver' _ _ hφ hv (fun e => ⟨(hcur e).1, by have := (hcur e).2; omega⟩)⟩
      ·cases h
theorem xm {t : TypeId} {x v : V} {j : Nat} {x' : Value} (h : fieldV P t x j = some v) (hx : VRel g w x x') :
  ∃ v', (Instr.field t x' j).run P w = .ok v' w ∧ VRel g w v v' := by
 cases x <;> simp only [fieldV] at h <;> (try (cases h; done))
 rename_i cs
 cases hx with
 | agg _ vs hs hr =>
  unfold fieldsT at h
  cases hu : P.underlying t with
  | none => simp [hu] at h
  | some d =>
   cases d <;> simp only [hu, Option.bind_none, Option.bind_some] at h <;> (try (cases h; done))
   rename_i fs
   cases hf : fs[j]? with
   | none => simp [hf] at h
   | some f =>
    simp only [hf, Option.bind_some] at h
    obtain ⟨v', e, r⟩ := oW (w := w) h hs hr
    exact ⟨v', by simp [Instr.field, run_underlying hu, hf, asAgg, e], r⟩
theorem GK (s : ByteArray) (i : Nat) : s[i]? = s.data[i]? := by
 by_cases h : i < s.size
 ·rw [getElem?_pos s i h, getElem?_pos s.data i h]; rfl
 ·rw [getElem?_neg s i h, getElem?_neg s.data i h]
theorem xn {t : TypeId} {x ix v : V} {x' ix' : Value} (h : indexV P t x ix = some v) (hx : VRel g w x x') (hi : VRel g w ix ix') :
  ∃ v', (Instr.index t x' ix').run P w = .ok v' w ∧ VRel g w v v' := by
 unfold indexV at h
 cases hj : idxV ix with
 | none => simp [hj] at h
 | some i =>
  obtain ⟨k, n, rfl, h0, hn⟩ := vJ hj hi
  simp only [hj] at h
  split at h
  ·rename_i s hu
   cases hx
   cases hb : s.data[i]? with
   | none => simp [hb] at h
   | some b =>
    simp [hb] at h; subst h
    refine ⟨.int .u8 b.toNat, ?_, .int _ _⟩
    have hb' : s[n.toNat]? = some b := by rw [hn, GK]; exact hb
    simp [Instr.index, run_underlying hu, asIntOf, h0, hb']
  ·rename_i m e cs hu
   split at h
   ·rename_i hlt
    cases hs : sizeT P e with
    | none => simp [hs] at h
    | some s =>
     simp [hs] at h
     cases hx with
     | agg _ vs hs2 hr =>
      obtain ⟨v', e1, r⟩ := oW (w := w) h hs2 hr
      have h1 : 0 ≤ n ∧ n < (m : Int) := ⟨h0, by omega⟩
      exact ⟨v', by simp [Instr.index, run_underlying hu, asIntOf, h1, aD hs, hn, e1], r⟩
   ·cases h
  ·cases h
theorem vl {x v : V} {i : Nat} {x' : Value} {vs : List V} (hx : x = .tuple vs) (h : vs[i]? = some v) (hr : VRel g w x x') :
  ∃ v', (Instr.extract x' i).run P w = .ok v' w ∧ VRel g w v v' := by
 subst hx
 cases hr with
 | tuple _ ws hs hr =>
  obtain ⟨hlt, _⟩ := List.getElem?_eq_some_iff.1 h
  have : i < ws.size := by omega
  exact ⟨ws[i], by simp [Instr.extract, this], hr _ _ _ h (by simp [this])⟩
theorem zY {t ty : TypeId} {x : V} {x' : Value} {n : Nat} (hx : VRel g w x x') (hn : lenV x = some n)
  (ht : (∃ e, P.underlying t = some (.slice e)) ∨ P.underlying t = some .string) (hty : match P.underlying t with | some (.slice _) => (∀ s, x ≠ .str s) | _ => ∃ s, x = .str s) :
  (Builtin.len_ #[t] ty #[x']).run P w = .ok (.int .i64 n) w := by
 rcases ht with ⟨e, hu⟩ | hu
 ·simp only [hu] at hty
  have sl : ∃ a cap, x' = .slice a n cap := by
   cases x <;> simp [lenV] at hn
   case str s => exact absurd rfl (hty s)
   case nilS => subst hn; cases hx; exact ⟨none, 0, rfl⟩
   case list es => subst hn; exact sb hx
   case tl tk es => subst hn; exact sb (eC hx)
   case ref s id ver off len => subst hn; cases hx; exact ⟨_, _, rfl⟩
  obtain ⟨a, cap, rfl⟩ := sl
  simp [Builtin.len_, run_underlying hu, goInt]
 ·simp only [hu] at hty
  obtain ⟨s, rfl⟩ := hty
  cases hx
  simp [lenV] at hn
  subst hn
  simp [Builtin.len_, run_underlying hu, goInt]
end
end Go.E
namespace Go.E
section
variable {P : Program} {g : G} {w : World} {bs : List Nat} {H : Heap}
def ORelV (g : G) (w : World) : Option V → Option Value → Prop
 | none, none => True
 | some v, some v' => VRel g w v v'
 | _, _ => False
theorem eD {lo hi : Option V} {lo' hi' : Option Value} {len cap l h : Nat} {b : Bool} (hl : ORelV g w lo lo') (hh : ORelV g w hi hi')
  (h1 : boundV lo 0 = some l) (h2 : boundV hi len = some h) (h3 : l ≤ h) (h4 : h ≤ len) (h5 : len ≤ cap) :
  (Instr.sliceBounds b len cap lo' hi' none).run P w = .ok (l, h, cap) w := by
 have one : ∀ (x : V) (x' : Value) (i y : Nat) (c : BoundsCode), VRel g w x x' → idxV x = some i → i ≤ y → (Instr.sliceBound x' y c).run P w = .ok i w := by
  intro x x' i y c hx hi hy
  obtain ⟨k, n, rfl, h0, hn⟩ := vJ hi hx
  have : 0 ≤ n ∧ n ≤ (y : Int) := ⟨h0, by omega⟩
  simp [Instr.sliceBound, asIntOf, this, hn]
 cases lo with
 | none =>
  cases lo' with
  | some _ => exact hl.elim
  | none =>
   simp [boundV] at h1; subst h1
   cases hi with
   | none =>
    cases hi' with
    | some _ => exact hh.elim
    | none => simp [boundV] at h2; subst h2; simp [Instr.sliceBounds]
   | some x =>
    cases hi' with
    | none => exact hh.elim
    | some x' => simp only [boundV] at h2; simp [Instr.sliceBounds, one x x' h cap _ hh h2 (by omega)]
 | some y =>
  cases lo' with
  | none => exact hl.elim
  | some y' =>
   simp only [boundV] at h1
   cases hi with
   | none =>
    cases hi' with
    | some _ => exact hh.elim
    | none => simp [boundV] at h2; subst h2; simp [Instr.sliceBounds, one y y' l len _ hl h1 h3]
   | some x =>
    cases hi' with
    | none => exact hh.elim
    | some x' => simp only [boundV] at h2; simp [Instr.sliceBounds, one x x' h cap _ hh h2 (by omega), one y y' l h _ hl h1 h3]
theorem lZ {t e : TypeId} (hu : P.underlying t = some (.slice e)) (x : Value) (lo hi mx : Option Value) :
  (Instr.sliceAt t x lo hi mx).run P w = (Instr.slice t x lo hi mx).run P w := by simp [Instr.sliceAt, run_underlying hu]
theorem um : ∀ (l : List V) (n : Nat), V.pureL l = true → V.pureL (l.drop n) = true
 | l, 0, h => by simpa using h
 | [], _ + 1, h => by simpa using h
 | v :: r, n + 1, h => by simp [V.pureL] at h; simpa using um r n h.2
theorem un : ∀ (l : List V) (n : Nat), V.pureL l = true → V.pureL (l.take n) = true
 | _, 0, _ => by simp [V.pureL]
 | [], _ + 1, h => by simpa using h
 | v :: r, n + 1, h => by simp [V.pureL] at h ⊢; exact ⟨h.1, un r n h.2⟩
theorem vK {es : List V} {b o cap s l h : Nat} (hx : VRel g w (.list es) (.slice (some ⟨b, o, none⟩) es.length cap)) (hs : ∀ (j : Nat) (e : V), es[j]? = some e → e.cells.length = s) (h3 : l ≤ h) (h4 : h ≤ es.length)
  (a : Addr) (ha : l < h → a = ⟨b, o + l * s, none⟩) (ha0 : ∃ b' o', a = ⟨b', o', none⟩) :
  VRel g w (.list ((es.take h).drop l)) (.slice (some a) (h - l) (cap - l)) := by
 cases hx with
 | listZ =>
  simp only [List.length_nil] at h4
  obtain rfl : h = 0 := by omega
  obtain rfl : l = 0 := by omega
  simpa using VRel.listZ (g := g) (w := w) a
 | list _ _ _ s' _ c hlen hpure hs' hO hc hr =>
  have hL : ((es.take h).drop l).length = h - l := by simp; omega
  obtain ⟨b', o', rfl⟩ := ha0
  rw [← hL]
  have get : ∀ (j : Nat) (e : V), ((es.take h).drop l)[j]? = some e → j < h - l ∧ es[l + j]? = some e := fun j e he => by
   rw [List.getElem?_drop] at he
   obtain ⟨h1, _⟩ := List.getElem?_eq_some_iff.1 he
   simp at h1
   rw [List.getElem?_take_of_lt (by omega)] at he
   exact ⟨by omega, he⟩
  by_cases hlt : l < h
  ·cases ha hlt
   obtain rfl : s' = s := by
    have e1 : es[l]? = some (es[l]'(by omega)) := by simp
    have := hs' l _ e1; have := hs l _ e1; omega
   refine .list b (o + l * s') (cap - l) s' _ (fun j i => c (l + j) i) (by omega) (um _ _ (un _ _ hpure)) (fun j e he => hs' _ e (get j e he).2) (fun j i hj hi => ?_) (fun j i hj hi => ?_)
    (fun j e i v he hv => hr _ e i v (get j e he).2 hv)
   ·have := hO (l + j) i (by omega) hi
    rwa [Nat.add_mul, ← Nat.add_assoc] at this
   ·have := hc (l + j) i (by omega) hi
    rwa [Nat.add_mul, ← Nat.add_assoc] at this
  ·have h0 : (es.take h).drop l = [] := List.eq_nil_of_length_eq_zero (by omega)
   rw [h0]
   exact .list b' o' _ s' [] (fun _ _ => Go.undef) (by simp) rfl (fun j e he => by simp at he) (fun j i hj => by simp at hj) (fun j i hj => by simp at hj) (fun j e i v he => by simp at he)
theorem xo {t : TypeId} {x v : V} {x' : Value} {lo hi : Option V} {lo' hi' : Option Value} (hl : ORelV g w lo lo') (hh : ORelV g w hi hi')
  (h : sliceV P t x lo hi none = some v) (hx : VRel g w x x') :
  ∃ v', (Instr.sliceAt t x' lo' hi' none).run P w = .ok v' w ∧ VRel g w v v' := by
 have lists : ∀ (e : TypeId) (es : List V), P.underlying t = some (.slice e) → VRel g w (.list es) x' →
   ((sizeT P e).bind fun s => (boundV lo 0).bind fun l => (boundV hi es.length).bind fun h =>
    if l ≤ h ∧ h ≤ es.length ∧ es.all (fun c => c.cells.length == s) = true then some (V.list ((es.take h).drop l)) else none) = some v →
   ∃ v', (Instr.sliceAt t x' lo' hi' none).run P w = .ok v' w ∧ VRel g w v v' := by
  intro e es hu hx h
  rw [lZ hu]
  cases hs : sizeT P e with
  | none => simp [hs] at h
  | some s =>
   cases h1 : boundV lo 0 with
   | none => simp [hs, h1] at h
   | some l =>
    cases h2 : boundV hi es.length with
    | none => simp [hs, h1, h2] at h
    | some k =>
     simp only [hs, h1, h2, Option.bind_some] at h
     split at h
     ·rename_i hc
      obtain ⟨h3, h4, h5⟩ := hc
      cases h
      have hall : ∀ (j : Nat) (c : V), es[j]? = some c → c.cells.length = s := fun j c hj => by
       have := List.all_eq_true.1 h5 c (List.mem_of_getElem? hj)
       simpa using this
      have hx0 := hx
      cases hx with
      | listNil =>
       have hb := eD (P := P) (b := true) hl hh h1 h2 h3 h4 (Nat.le_refl _)
       simp only [List.length_nil] at hb h4
       obtain rfl : k = 0 := by omega
       obtain rfl : l = 0 := by omega
       refine ⟨.slice none 0 0, by simp [Instr.slice, run_underlying hu, hb, aD hs], ?_⟩
       simpa using VRel.listNil
      | listZ a =>
       have hb := eD (P := P) (b := true) hl hh h1 h2 h3 h4 (Nat.le_refl _)
       simp only [List.length_nil] at hb h4
       obtain rfl : k = 0 := by omega
       obtain rfl : l = 0 := by omega
       refine ⟨.slice (some a) 0 0, by simp [Instr.slice, run_underlying hu, hb, aD hs], ?_⟩
       simpa using VRel.listZ (g := g) (w := w) a
      | list b o cap s' _ c hlen hpure hs' hO hc hr =>
       have hb := eD (P := P) (b := true) hl hh h1 h2 h3 h4 hlen
       by_cases hcap : cap = l
       ·refine ⟨.slice (some ⟨b, o, none⟩) (k - l) (cap - l), by simp [Instr.slice, run_underlying hu, hb, aD hs, if_pos hcap], ?_⟩
        exact vK hx0 hall h3 h4 _ (fun hlt => by omega) ⟨_, _, rfl⟩
       ·refine ⟨.slice (some ⟨b, o + l * s, none⟩) (k - l) (cap - l), by simp [Instr.slice, run_underlying hu, hb, aD hs, if_neg hcap, fU], ?_⟩
        exact vK hx0 hall h3 h4 _ (fun _ => rfl) ⟨_, _, rfl⟩
     ·cases h
 unfold sliceV at h
 simp only [Option.isSome_none, Bool.false_eq_true, if_false] at h
 split at h
 ·rename_i s hu
  cases h1 : boundV lo 0 with
  | none => simp [h1] at h
  | some l =>
   cases h2 : boundV hi s.size with
   | none => simp [h1, h2] at h
   | some k =>
    simp only [h1, h2, Option.bind_some] at h
    split at h
    ·rename_i hc
     cases h; cases hx
     have hb := eD (P := P) (b := false) hl hh h1 h2 hc.1 hc.2 (Nat.le_refl _)
     exact ⟨.string (s.extract l k), by simp [Instr.sliceAt, Instr.slice, run_underlying hu, hb], .str _⟩
    ·cases h
 ·rename_i e hu
  rw [lZ hu]
  cases h1 : boundV lo 0 with
  | none => simp [h1] at h
  | some l =>
   cases h2 : boundV hi 0 with
   | none => simp [h1, h2] at h
   | some k =>
    simp only [h1, h2, Option.bind_some] at h
    split at h
    ·rename_i hc
     obtain ⟨rfl, rfl, hz⟩ := hc
     cases h; cases hx
     have hb := eD (P := P) (b := true) hl hh h1 h2 (Nat.le_refl _) (Nat.le_refl _) (Nat.le_refl _)
     cases hi : P.info? e with
     | none => simp [sizeT, hi] at hz
     | some i => exact ⟨.slice none 0 0, by simp [Instr.slice, run_underlying hu, hb, sizeOf, typeInfo, hi], .nilS⟩
    ·cases h
 ·rename_i e tk hu
  rw [lZ hu]
  cases h1 : boundV lo 0 with
  | none => simp [h1] at h
  | some l =>
   cases h2 : boundV hi 0 with
   | none => simp [h1, h2] at h
   | some k =>
    simp only [h1, h2, Option.bind_some] at h
    split at h
    ·rename_i hc
     obtain ⟨rfl, rfl, hz⟩ := hc
     cases h
     obtain ⟨s, hs⟩ := Option.isSome_iff_exists.1 hz
     refine ⟨x', ?_, hx⟩
     obtain ⟨a, cap, rfl⟩ := sb (eC hx)
     have hb := eD (P := P) (b := true) hl hh h1 h2 (Nat.le_refl _) (Nat.le_refl _) (show (0 : Nat) ≤ cap from Nat.zero_le _)
     cases a with
     | none =>
      have hc0 : cap = 0 := by
       have := eC hx
       generalize hes : ([] : List V) = es at this
       cases this with
       | listNil => rfl
      subst hc0
      simp [Instr.slice, run_underlying hu, hb, aD hs]
     | some a =>
      obtain ⟨b, o, rfl⟩ | hc0 : (∃ b o, a = ⟨b, o, none⟩) ∨ cap = 0 := by
       have := eC hx
       generalize hes : ([] : List V) = es at this
       cases this with
       | listZ a => exact .inr rfl
       | list b o cap s es c hlen hpure hs hO hc hr => exact .inl ⟨_, _, rfl⟩
      ·by_cases hcap : cap = 0
       ·subst hcap; simp [Instr.slice, run_underlying hu, hb, aD hs]
       ·simp [Instr.slice, run_underlying hu, hb, aD hs, fU, hcap]
      ·subst hc0; simp [Instr.slice, run_underlying hu, hb, aD hs]
    ·cases h
 ·rename_i e es hu; exact lists e es hu hx h
 ·rename_i e tk es hne hu; exact lists e es hu (eC hx) h
 ·rename_i e s id ver off len hu
  rw [lZ hu]
  cases h1 : boundV lo 0 with
  | none => simp [h1] at h
  | some l =>
   cases h2 : boundV hi len with
   | none => simp [h1, h2] at h
   | some k =>
    simp only [h1, h2, Option.bind_some] at h
    split at h
    ·rename_i hc
     obtain ⟨h3, h4, hs⟩ := hc
     cases h
     cases hx with
     | ref _ _ _ _ _ cap b o s' ext ver' b' o' hφ hv hlen hcur =>
      have hb := eD (P := P) (b := true) hl hh h1 h2 h3 h4 hlen
      by_cases hcap : cap = l
      ·refine ⟨.slice (some ⟨b', o', none⟩) (k - l) (cap - l), by simp [Instr.slice, run_underlying hu, hb, aD hs, if_pos hcap], ?_⟩
       exact .ref _ _ _ _ _ _ b o s' ext ver' _ _ hφ hv (by omega) (fun e => ⟨(hcur e).1, fun h0 => by omega⟩)
      ·refine ⟨.slice (some ⟨b', o' + l * s, none⟩) (k - l) (cap - l), by simp [Instr.slice, run_underlying hu, hb, aD hs, if_neg hcap, fU], ?_⟩
       refine .ref _ _ _ _ _ _ b o s' ext ver' _ _ hφ hv (by omega) (fun e => ⟨(hcur e).1, fun h0 => ?_⟩)
       obtain ⟨rfl, h6⟩ := hcur e
       obtain ⟨rfl, rfl, h7⟩ := h6 (by omega)
       exact ⟨rfl, by rw [Nat.add_mul]; omega, by rwa [show off + l + (cap - l) = off + cap by omega]⟩
    ·cases h
 ·cases h
theorem gH (o : Obj) {b : Nat} (k : Nat) (h : b ≠ w.heap.size) : ({ w with heap := w.heap.push o } : World).cell? ⟨b, k, none⟩ = w.cell? ⟨b, k, none⟩ := by
 unfold World.cell?
 simp only [Array.getElem?_push, if_neg h]
theorem aV (c : Array Value) (t : TypeId) (f : Nat × Nat) (k : Nat) : ({ w with heap := w.heap.push (.cells c t f) } : World).cell? ⟨w.heap.size, k, none⟩ = c[k]? := by
 unfold World.cell?
 simp
theorem kG (o : Obj) {b : Nat} (k : Nat) (h : b ≠ w.heap.size) : ({ w with heap := w.heap.push o } : World).frozen? ⟨b, k, none⟩ = w.frozen? ⟨b, k, none⟩ := by
 unfold World.frozen?
 simp only [Array.getElem?_push, if_neg h]
theorem eE (c : Array Value) (t : TypeId) (k : Nat) : ({ w with heap := w.heap.push (.cells c t) } : World).frozen? ⟨w.heap.size, k, none⟩ = false := by
 unfold World.frozen?
 simp
theorem fZ (o : Obj) {b : Nat} (h : b ≠ w.heap.size) : ({ w with heap := w.heap.push o } : World).heap[b]? = w.heap[b]? := by
 simp only [Array.getElem?_push, if_neg h]
def G.lay (g : G) (B : Nat) (who : Nat → Own) (id : Nat) (l : Option Loc) : G :=
 { O := fun b k => if b = B then who k else g.O b k, φ := fun i => if i = id then l else g.φ i }
theorem mw (hS : Sim bs g H w) (o : Obj) (who : Nat → Own) {id : Nat} (hid : g.φ id = none) (l : Option Loc) : Ext g w (g.lay w.heap.size who id l) { w with heap := w.heap.push o } where
 size := by simp
 imm b k h := by
  have hb : b ≠ w.heap.size := by have := hS.old b k (by rw [h]; simp); omega
  exact ⟨by simp [G.lay, hb, h], gH o k hb⟩
 loc j l' h := by
  have : j ≠ id := by rintro rfl; rw [hid] at h; cases h
  exact ⟨l', by simp [G.lay, this, h], LocLe.refl _⟩
 free b hb _ := ⟨fZ o (by omega), fun k => by simp [G.lay, show b ≠ w.heap.size by omega]⟩
 os := rfl
 tape := rfl
 output := rfl
 drawn := Nat.le_refl _
theorem vL (hS : Sim bs g H w) (o : Obj) (who : Nat → Own) (id0 : Nat) (l : Option Loc) (id : Nat) : Keep id g w (g.lay w.heap.size who id0 l) { w with heap := w.heap.push o } where
 own b k h := by
  have hb : b ≠ w.heap.size := by have := hS.old b k (by rw [h]; simp); omega
  simp [G.lay, hb, h]
 cell b k h := by
  have hb : b ≠ w.heap.size := by have := hS.old b k (by rw [h]; simp); omega
  exact ⟨gH o k hb, kG o k hb⟩
 map b es c h hh := by
  have hb : b ≠ w.heap.size := by have := hS.old b 0 (by rw [h]; simp); omega
  rw [fZ o hb]; exact hh
structure Lay (bs : List Nat) (g : G) (w : World) (H : Heap) (id : Nat) (g' : G) (w' : World) : Prop where
 sim : Sim bs g' H w'
 ext : Ext g w g' w'
 dom : ∀ j, g'.φ j ≠ none ↔ g.φ j ≠ none ∨ j = id
structure Open (bs : List Nat) (g : G) (H : Heap) (id : Nat) (ob : HObj) : Prop where
 none : g.φ id = .none
 base : bs.headD 0 ≤ id
 obj : H[id]? = some ob
theorem Bq {bs : List Nat} {n : Nat} (h : bs.headD 0 ≤ n) (m : Nat) (hm : n ≤ m) : bs.headD 0 ≤ m := Nat.le_trans h hm
theorem Sim.more (hS : Sim bs g H w) (ob : HObj) : Sim bs g (H ++ [ob]) w where
 bl := Bq hS.bl _ (by simp)
 srt := hS.srt
 dom id h := by have := hS.dom id h; simp; omega
 old := hS.old
 obj id ob' l h1 h2 := by
  have hlt := hS.dom id (by rw [h2]; simp)
  rw [List.getElem?_append_left hlt] at h1
  exact hS.obj id ob' l h1 h2
 und id ob' h1 h2 := by
  have hlt := hS.dom id h2
  rw [List.getElem?_append_left hlt] at h1
  exact hS.und id ob' h1 h2
theorem Sim.open (hS : Sim bs g H w) (ob : HObj) : Open bs g (H ++ [ob]) H.length ob where
 none := by
  cases h : g.φ H.length with
  | none => rfl
  | some l => have := hS.dom H.length (by rw [h]; simp); omega
 base := hS.bl
 obj := by simp
theorem Lay.out {g' : G} {w' : World} {ob : HObj} (h : Lay bs g w (H ++ [ob]) H.length g' w') : Out bs g w H g' w' (H ++ [ob]) where
 sim := h.sim
 ext := h.ext
 len := by simp
 dom id := by
  rw [h.dom]; simp; constructor
  ·rintro (h | h)
   ·exact .inl h
   ·right; omega
  ·rintro (h | h)
   ·exact .inl h
   ·right; omega
theorem mI (hS : Sim bs g H w) {id0 : Nat} (o : Obj) (who : Nat → Own) (ob : HObj) (l : Loc) (hO : Open bs g H id0 ob) (h : ORel (g.lay w.heap.size who id0 (some l)) { w with heap := w.heap.push o } id0 ob l) :
    Lay bs g w H id0 (g.lay w.heap.size who id0 (some l)) { w with heap := w.heap.push o } where
  sim := {
    bl := hS.bl
    srt := hS.srt
    dom := fun id hid => by
      by_cases e : id = id0
      · subst e; exact (List.getElem?_eq_some_iff.1 hO.obj).1
      · simp [G.lay, e] at hid; exact hS.dom id hid
    old := fun b k hk => by
      simp [G.lay] at hk ⊢
      by_cases e : b = w.heap.size
      · omega
      · simp [e] at hk; have := hS.old b k hk; omega
    obj := fun id ob' l' h1 h2 => by
      by_cases e : id = id0
      · subst e
        rw [hO.obj] at h1; cases h1
        simp [G.lay] at h2; subst h2
        exact h
      · simp [G.lay, e] at h2
        exact (hS.obj id ob' l' h1 h2).keep (mw hS o _ hO.none _) (vL hS o _ _ _ id)
    und := fun id ob' h2 h3 => by
      by_cases e : id = id0
      · subst e
        exact fun b hb => .inl (Nat.le_trans (hS.srt b hb) hO.base)
      · simp [G.lay, e] at h3; exact hS.und id ob' h2 h3 }
  ext := mw hS o _ hO.none _
  dom id := by
    simp [G.lay]
    by_cases e : id = id0
    · simp [e]
    · simp [e]
theorem yb (hS : Sim bs g H w) (o : Obj) : Ext g w (g.lay w.heap.size (fun _ => .imm) H.length (g.φ H.length)) { w with heap := w.heap.push o } where
 size := by simp
 imm b k h := by
  have hb : b ≠ w.heap.size := by have := hS.old b k (by rw [h]; simp); omega
  exact ⟨by simp [G.lay, hb, h], gH o k hb⟩
 loc j l' h := by
  refine ⟨l', ?_, LocLe.refl _⟩
  by_cases e : j = H.length
  ·subst e; simpa [G.lay] using h
  ·simpa [G.lay, e] using h
 free b hb _ := ⟨fZ o (by omega), fun k => by simp [G.lay, show b ≠ w.heap.size by omega]⟩
 os := rfl
 tape := rfl
 output := rfl
 drawn := Nat.le_refl _
theorem oq (hS : Sim bs g H w) (o : Obj) : Out bs g w H (g.lay w.heap.size (fun _ => .imm) H.length (g.φ H.length)) { w with heap := w.heap.push o } H where
  sim := {
    bl := hS.bl
    srt := hS.srt
    dom := fun id hid => by
      simp [G.lay] at hid
      by_cases e : id = H.length
      · subst e; simp at hid; exact hS.dom _ hid
      · simp [e] at hid; exact hS.dom id hid
    old := fun b k hk => by
      simp [G.lay] at hk ⊢
      by_cases e : b = w.heap.size
      · omega
      · simp [e] at hk; have := hS.old b k hk; omega
    obj := fun id ob' l' h1 h2 => by
      have h2' : g.φ id = some l' := by
        simp [G.lay] at h2
        by_cases e : id = H.length
        · subst e; simpa using h2
        · simpa [e] using h2
      exact (hS.obj id ob' l' h1 h2').keep (yb hS o) (vL hS o _ _ _ id)
    und := fun id ob' h2 h3 => hS.und id ob' h2 (by
      by_cases e : id = H.length
      · subst e; simpa [G.lay] using h3
      · simpa [G.lay, e] using h3) }
  ext := yb hS o
  len := Nat.le_refl _
  dom id := by
    simp [G.lay]
    by_cases e : id = H.length
    · subst e; simp
    · simp [e]; omega
end
end Go.E
namespace Go.E
section
variable {P : Program} {g : G} {w : World} {bs : List Nat} {H : Heap}
theorem iG {v : V} (h : v.cells.all V.isCell = true) : v ≠ .undef := by
 rintro rfl; simp [V.cells, V.isCell] at h
theorem nA {v : V} {v' : Value} (h : VRel g w v v') : VRel g w (ju v) v' := by
 cases v <;> simp only [ju] <;> first | exact h | skip
 case nilS => cases h; exact .listNil
 case tl => exact eC h
theorem vM {v : V} {v' : Value} (h : VRel g w v v') : VRel g w v.norm v' := by
 cases v <;> simp only [V.norm] <;> first | exact nA h | skip
 case agg cs =>
  cases h with
  | agg _ vs hs hr =>
   refine .agg _ _ (by simp [hs]) (fun k x x' hx hx' => ?_)
   rw [List.getElem?_map] at hx
   cases hk : cs[k]? with
   | none => simp [hk] at hx
   | some y => simp [hk] at hx; subst hx; exact nA (hr k y x' hk hx')
def RowR (g : G) (w : World) (cs : List V) (vs : Array Value) : Prop :=
 vs.size = cs.length ∧ ∀ (k : Nat) (v : V) (v' : Value), cs[k]? = some v → vs[k]? = some v' → VRel g w v v'
theorem nB (hS : Sim bs g H w) {id : Nat} {v : V} {v' : Value} (hO : Open bs g H id (.cells v.cells)) (h : VRel g w v v') (hc : v.cells.all V.isCell = true) (t : TypeId) :
  Lay bs g w H id (g.lay w.heap.size (fun _ => .res id) id (some (.cells w.heap.size 0 v.cells.length))) { w with heap := w.heap.push (.cells v'.cells t) } := by
 obtain ⟨hs, hr⟩ := gT h (iG hc)
 refine mI hS _ _ _ _ hO (.cells _ _ _ (fun k hk => ⟨by simp [G.lay], ?_⟩) (fun k x hx => ?_))
 ·simp
 ·obtain ⟨hlt, _⟩ := List.getElem?_eq_some_iff.1 hx
  have : k < v'.cells.size := by omega
  refine ⟨v'.cells[k], ?_, (hr k x _ hx (by simp [this])).mono (mw hS _ _ hO.none _)⟩
  have := aV (w := w) v'.cells t (0, 0) k
  simp only [Nat.zero_add]
  rw [this]; simp [*]
theorem uo {t : TypeId} {z : Value} (hz : (zeroValue t).run P w = .ok z w) :
  (Instr.alloc t true (.tuple #[])).run P w = .ok (.pointer (some ⟨w.heap.size, 0, none⟩)) { w with heap := w.heap.push (.cells z.cells t) } := by
 simp [Instr.alloc, hz, newVar, newRow]
theorem yc {t : TypeId} {z : Value} :
  (Instr.box t z).run P w = .ok (.pointer (some ⟨w.heap.size, 0, none⟩)) { w with heap := w.heap.push (.cells z.cells t) } := by
 simp [Instr.box, newVar, newRow]
theorem uq (off : Nat) : ∀ (l : List Value) (i : Nat) (cs : Array Value),
  ((l.zipIdx i).foldl (fun (cs : Array Value) (p : Value × Nat) => cs.setIfInBounds (off + p.2) p.1) cs).size = cs.size ∧
  ∀ k, ((l.zipIdx i).foldl (fun (cs : Array Value) (p : Value × Nat) => cs.setIfInBounds (off + p.2) p.1) cs)[k]? =
   if off + i ≤ k ∧ k < off + i + l.length ∧ k < cs.size then l[k - (off + i)]? else cs[k]?
 | [], i, cs => ⟨rfl, fun k => by simp; intro h1 h2; omega⟩
 | v :: r, i, cs => by
  simp only [List.zipIdx_cons, List.foldl_cons]
  obtain ⟨h1, h2⟩ := uq off r (i + 1) (cs.setIfInBounds (off + i) v)
  refine ⟨by rw [h1]; simp, fun k => ?_⟩
  rw [h2 k]
  simp only [Array.size_setIfInBounds, List.length_cons]
  by_cases hk : k = off + i
  ·subst hk
   rw [if_neg (by omega)]
   by_cases hb : off + i < cs.size
   ·rw [if_pos (by omega)]; simp [hb]
   ·rw [if_neg (by omega)]; simp [hb]
  ·by_cases hc : off + (i + 1) ≤ k ∧ k < off + (i + 1) + r.length ∧ k < cs.size
   ·rw [if_pos hc, if_pos (by omega)]
    rw [show k - (off + i) = (k - (off + (i + 1))) + 1 by omega, List.getElem?_cons_succ]
   ·rw [if_neg hc, if_neg (by omega)]
    rw [Array.getElem?_setIfInBounds_ne (by omega)]
theorem ur (off : Nat) (new cs : Array Value) :
  (new.zipIdx.foldl (fun (cs : Array Value) (p : Value × Nat) => cs.setIfInBounds (off + p.2) p.1) cs).size = cs.size ∧
  ∀ k, (new.zipIdx.foldl (fun (cs : Array Value) (p : Value × Nat) => cs.setIfInBounds (off + p.2) p.1) cs)[k]? =
   if off ≤ k ∧ k < off + new.size ∧ k < cs.size then new[k - off]? else cs[k]? := by
 rw [← Array.foldl_toList]
 have h := uq off new.toList 0 cs
 rw [Array.toList_zipIdx]
 simpa using h
theorem kH {cs new : List V} {off : Nat} (h : off + new.length ≤ cs.length) (k : Nat) :
  (writeCells cs off new)[k]? = if off ≤ k ∧ k < off + new.length then new[k - off]? else cs[k]? := by
 unfold writeCells
 by_cases h1 : k < off
 ·rw [if_neg (by omega), List.append_assoc, List.getElem?_append_left (by simp; omega), List.getElem?_take_of_lt h1]
 ·by_cases h2 : k < off + new.length
  ·rw [if_pos (by omega), List.append_assoc, List.getElem?_append_right (by simp; omega), List.getElem?_append_left (by simp; omega)]
   congr 1; simp; omega
  ·rw [if_neg (by omega), List.getElem?_append_right (by simp; omega), List.getElem?_drop]
   congr 1; simp; omega
theorem jc {cs new : List V} {off : Nat} (h : off + new.length ≤ cs.length) : (writeCells cs off new).length = cs.length := by
 unfold writeCells; simp; omega
theorem xp {cs cs' : List V} {vs : Array Value} {off size : Nat} {v : V} {v' : Value} (hR : RowR g w cs vs) (hp : placeCells cs off size v = some cs') (hv : VRel g w v v') :
  v'.cells.size = size ∧ off + v'.cells.size ≤ vs.size ∧ RowR g w cs' (v'.cells.zipIdx.foldl (fun (cs : Array Value) (p : Value × Nat) => cs.setIfInBounds (off + p.2) p.1) vs) := by
 unfold placeCells at hp
 split at hp
 ·rename_i hc
  cases hp
  obtain ⟨hs, hr⟩ := gT hv (iG hc.2.2)
  obtain ⟨h1, h2⟩ := ur off v'.cells vs
  refine ⟨by omega, by rw [hs, hR.1]; omega, by rw [h1, jc (by omega), hR.1], fun k x x' hx hx' => ?_⟩
  rw [kH (by omega)] at hx
  rw [h2] at hx'
  by_cases hk : off ≤ k ∧ k < off + v.cells.length
  ·rw [if_pos hk] at hx
   rw [if_pos ⟨hk.1, by omega, by rw [hR.1]; omega⟩] at hx'
   exact hr _ _ _ hx hx'
  ·rw [if_neg hk] at hx
   rw [if_neg (by rw [hs]; omega)] at hx'
   exact hR.2 _ _ _ hx hx'
 ·cases hp
inductive PartsR (g : G) (w : World) : List (Nat × V) → List (Nat × Value) → Prop
 | nil : PartsR g w [] []
 | cons (i : Nat) (v : V) (v' : Value) (l : List (Nat × V)) (l' : List (Nat × Value)) (h : VRel g w v v') (r : PartsR g w l l') : PartsR g w ((i, v) :: l) ((i, v') :: l')
theorem zZ {α : Type} (f : List V → α → Option (List V)) (l : List α) : l.foldl (fun (r : Option (List V)) p => r.bind fun cs => f cs p) none = none := by
 induction l with
 | nil => rfl
 | cons a r ih => simpa using ih
theorem oX (place : Nat → Option (Nat × Nat)) (f : List V → Nat × V → Option (List V))
  (hf : ∀ cs p cs', f cs p = some cs' → ∃ off size, place p.1 = some (off, size) ∧ placeCells cs off size p.2 = some cs') :
  ∀ (l : List (Nat × V)) (l' : List (Nat × Value)) (cs cs' : List V) (vs : Array Value), PartsR g w l l' → RowR g w cs vs →
   l.foldl (fun (r : Option (List V)) p => r.bind fun cs => f cs p) (some cs) = some cs' → ∃ vs', Instr.fill place vs l' = some vs' ∧ RowR g w cs' vs'
 | [], _, cs, cs', vs, hP, hR, h => by
  cases hP; simp at h; subst h; exact ⟨vs, rfl, hR⟩
 | (i, v) :: l, _, cs, cs', vs, hP, hR, h => by
  cases hP with
  | cons _ _ v' _ l' hv r =>
   simp only [List.foldl_cons, Option.bind_some] at h
   cases hc : f cs (i, v) with
   | none => rw [hc, zZ f] at h; cases h
   | some c1 =>
    rw [hc] at h
    obtain ⟨off, size, h1, h2⟩ := hf _ _ _ hc
    obtain ⟨e1, e2, e3⟩ := xp hR h2 hv
    obtain ⟨vs', h3, h4⟩ := oX place f hf l l' c1 cs' _ r e3 h
    refine ⟨vs', ?_, h4⟩
    simp only [Instr.fill, h1]
    rw [if_neg (by simp; omega)]
    exact h3
theorem run_mapM_list' {α β : Type} (f : α → Sem β) (k : α → β) : ∀ (l : List α) (w : World), (∀ x ∈ l, ∀ w, (f x).run P w = .ok (k x) w) → (l.mapM f).run P w = .ok (l.map k) w
 | [], w, _ => by simp
 | a :: r, w, hf => by
  simp only [List.mapM_cons, Sem.run_bind, hf a (by simp), Result.andThen_ok, run_mapM_list' f k r w (fun x hx => hf x (by simp [hx])), Sem.run_pure, List.map_cons]
theorem Br {α β : Type} (f : α → Sem β) (k : α → β) (l : Array α) (w : World) (hf : ∀ x ∈ l.toList, ∀ w, (f x).run P w = .ok (k x) w) : (l.mapM f).run P w = .ok (l.map k) w := by
 rw [Array.mapM_eq_mapM_toList]
 rw [Sem.run_map, run_mapM_list' f k l.toList w hf, Result.andThen_ok]
 congr 1
 exact Array.ext' (by simp)
theorem xq {t : TypeId} {parts : List (Nat × V)} {parts' : Array (Nat × Value)} {v : V} (h : buildV P t parts = some v) (hp : PartsR g w parts parts'.toList) :
  ∃ v', (Instr.build t parts').run P w = .ok v' w ∧ VRel g w v v' := by
 unfold buildV at h
 split at h
 case h_2 => cases h
 rename_i z hz
 obtain ⟨zv, hzv, hzr⟩ := jE hz
 have hR : RowR g w z zv.cells := by
  have := gT (g := g) (w := w) (iF zv) (by rw [← hzv]; simp)
  rwa [← hzv] at this
 split at h
 ·rename_i fs hu
  split at h
  ·rename_i hall
   cases hfo : parts.foldl (fun (r : Option (List V)) p => r.bind fun cs => placeF P fs cs p) (some z) with
   | none => simp [hfo] at h
   | some cs =>
    simp [hfo] at h; subst h
    have hm := Br (P := P) (fun f : Field => Prod.mk f.offset <$> sizeOf f.type) (fun f => (f.offset, (sizeT P f.type).getD 0)) fs w (fun x hx w => by
     have := List.all_eq_true.1 hall x hx
     obtain ⟨s, hs⟩ := Option.isSome_iff_exists.1 this
     simp [aD hs, hs])
    obtain ⟨vs, h1, h2⟩ := oX (g := g) (w := w) ((fs.map fun f => (f.offset, (sizeT P f.type).getD 0))[·]?) (placeF P fs) (fun cs p cs' hpl => by
     unfold placeF at hpl
     cases hf : fs[p.1]? with
     | none => simp [hf] at hpl
     | some f =>
      cases hs : sizeT P f.type with
      | none => simp [hf, hs] at hpl
      | some s =>
       simp only [hf, hs, Option.bind_some] at hpl
       exact ⟨f.offset, s, by simp [hf, hs], hpl⟩) parts _ z cs zv.cells hp hR hfo
    generalize (fs.map fun f => (f.offset, (sizeT P f.type).getD 0)) = pl at hm h1
    exact ⟨.agg vs, by simp [Instr.build, hzr, run_underlying hu, hm, h1], .agg _ _ h2.1 h2.2⟩
  ·cases h
 ·rename_i m e hu
  cases hs : sizeT P e with
  | none => simp [hs] at h
  | some s =>
   simp only [hs, Option.bind_some] at h
   cases hfo : parts.foldl (fun (r : Option (List V)) p => r.bind fun cs => placeA s cs p) (some z) with
   | none => simp [hfo] at h
   | some cs =>
    simp [hfo] at h; subst h
    obtain ⟨vs, h1, h2⟩ := oX (g := g) (w := w) (fun i => some (i * s, s)) (placeA s) (fun cs p cs' hpl => ⟨_, _, rfl, hpl⟩) parts _ z cs zv.cells hp hR hfo
    exact ⟨.agg vs, by simp [Instr.build, hzr, run_underlying hu, aD hs, h1], .agg _ _ h2.1 h2.2⟩
 ·cases h
theorem kW : ∀ {l : List V}, (∀ e ∈ l, e.pure = true) → V.pureL l = true
 | [], _ => rfl
 | v :: r, h => by simp [V.pureL, h v (by simp), kW (l := r) (fun e he => h e (by simp [he]))]
theorem vm {s : Nat} {v e : V} (h : takeElem s v = some e) : e = v.norm ∧ e.cells.length = s ∧ e.pure = true ∧ e.cells.all V.isCell = true := by
 unfold takeElem at h
 split at h
 ·rename_i hc; cases h; exact ⟨rfl, hc.1, hc.2.1, hc.2.2⟩
 ·cases h
theorem al {s : Nat} : ∀ {l es : List V}, takeElems s l = some es → es.length = l.length ∧ (∀ e ∈ es, e.cells.length = s ∧ e.pure = true ∧ e.cells.all V.isCell = true) ∧
  ∀ (j : Nat) (e : V), es[j]? = some e → ∃ v, l[j]? = some v ∧ e = v.norm
 | [], es, h => by simp [takeElems] at h; subst h; simp
 | v :: r, es, h => by
  simp only [takeElems, List.mapM_cons] at h
  cases h1 : takeElem s v with
  | none => simp [h1] at h
  | some e =>
   cases h2 : r.mapM (takeElem s) with
   | none => simp [h1, h2] at h
   | some es' =>
    simp [h1, h2] at h; subst h
    obtain ⟨k1, k2, k3⟩ := al (s := s) (l := r) (es := es') h2
    obtain ⟨e1, e2⟩ := vm h1
    refine ⟨by simp [k1], ?_, ?_⟩
    ·intro x hx
     rcases List.mem_cons.1 hx with rfl | hx
     ·exact e2
     ·exact k2 x hx
    ·intro j x hx
     cases j with
     | zero => simp at hx; subst hx; exact ⟨v, rfl, e1⟩
     | succ j => simp at hx; simpa using k3 j x hx
theorem qr (s : Nat) : ∀ (l : List Value) (i : Nat) (cs : Array Value), (∀ v ∈ l, v.cells.size = s) → (i + l.length) * s ≤ cs.size →
  ∃ vs, Instr.fill (fun i => some (i * s, s)) cs ((List.range' i l.length).zip l) = some vs ∧ vs.size = cs.size ∧
   (∀ k, k < i * s ∨ (i + l.length) * s ≤ k → vs[k]? = cs[k]?) ∧ ∀ j v q, l[j]? = some v → q < s → vs[(i + j) * s + q]? = v.cells[q]?
 | [], i, cs, _, _ => ⟨cs, by simp [Instr.fill], rfl, fun _ _ => rfl, fun j v q h => by simp at h⟩
 | v :: r, i, cs, hs, hle => by
  have hv : v.cells.size = s := hs v (by simp)
  have ea : (i + 1) * s = i * s + s := by rw [Nat.add_mul, Nat.one_mul]
  have eb : (i + 1 + r.length) * s = i * s + s + r.length * s := by rw [Nat.add_mul, ea]
  have hm : (i + (v :: r).length) * s = i * s + s + r.length * s := by rw [List.length_cons, ← eb]; congr 1; omega
  obtain ⟨h1, h2⟩ := ur (i * s) v.cells cs
  obtain ⟨vs, e1, e2, e3, e4⟩ := qr s r (i + 1) _ (fun x hx => hs x (by simp [hx])) (by rw [h1]; omega)
  refine ⟨vs, ?_, by rw [e2, h1], fun k hk => ?_, fun j x q hj hq => ?_⟩
  ·simp only [List.length_cons, List.range'_succ, List.zip_cons_cons, Instr.fill]
   rw [if_neg (by simp; omega)]
   exact e1
  ·rw [e3 k (by omega), h2, if_neg (by omega)]
  ·cases j with
   | zero =>
    simp at hj; subst hj
    rw [Nat.add_zero, e3 _ (.inl (by omega)), h2, if_pos (by omega)]
    congr 1; omega
   | succ j =>
    simp at hj
    rw [show i + (j + 1) = i + 1 + j by omega]
    exact e4 j x q hj hq
theorem qs {α : Type} : ∀ (l : List (Nat × α)) (i : Nat), l.map (·.1) = List.range' i l.length → l = (List.range' i (l.map (·.2)).length).zip (l.map (·.2))
 | [], _, _ => rfl
 | (j, a) :: r, i, h => by
  simp only [List.map_cons, List.length_cons, List.range'_succ, List.cons.injEq] at h
  obtain ⟨h1, h2⟩ := h
  simp only [List.map_cons, List.length_cons, List.range'_succ, List.zip_cons_cons, List.cons.injEq]
  subst h1
  exact ⟨rfl, qs r _ h2⟩
theorem sR {ρ : Operand → V} {ρ' : Operand → Value} (h : ∀ x, VRel g w (ρ x) (ρ' x)) : ∀ (l : List (Nat × Operand)), PartsR g w (l.map fun q => (q.1, ρ q.2)) (l.map fun q => (q.1, ρ' q.2))
 | [] => .nil
 | (i, x) :: r => .cons i _ _ _ _ (h x) (sR h r)
theorem sS {v : V} {v' : Value} {s : Nat} (h : VRel g w v v') (hs : v.norm.cells.length = s) (hc : v.norm.cells.all V.isCell = true) :
  v'.cells.size = s ∧ ∀ (k : Nat) (x : V) (x' : Value), v.norm.cells[k]? = some x → v'.cells[k]? = some x' → VRel g w x x' := by
 obtain ⟨h1, h2⟩ := gT (vM h) (iG hc)
 exact ⟨by omega, h2⟩
theorem vN {es : List V} {vals : List Value} {s : Nat} {cells : Array Value} {w1 : World} {g1 : G} {b o cap : Nat} (hl : vals.length = es.length) (hcap : es.length ≤ cap)
  (hes : ∀ e ∈ es, e.cells.length = s ∧ e.pure = true)
  (hrel : ∀ (j : Nat) (e : V) (v' : Value), es[j]? = some e → vals[j]? = some v' → v'.cells.size = s ∧ ∀ (k : Nat) (x : V) (x' : Value), e.cells[k]? = some x → v'.cells[k]? = some x' → VRel g1 w1 x x')
  (hc : ∀ (j q : Nat) (v' : Value), vals[j]? = some v' → q < s → cells[j * s + q]? = v'.cells[q]?)
  (hw : ∀ k, k < es.length * s → g1.O b (o + k) = .imm ∧ w1.cell? ⟨b, o + k, none⟩ = cells[k]?) :
  VRel g1 w1 (.list es) (.slice (some ⟨b, o, none⟩) es.length cap) := by
 have at_ : ∀ j i, j < es.length → i < s → j * s + i < es.length * s := fun j i hj hi => by
  have : (j + 1) * s ≤ es.length * s := Nat.mul_le_mul_right s hj
  rw [Nat.add_mul, Nat.one_mul] at this; omega
 refine .list b o cap s es (fun j i => (vals[j]?.getD Go.undef).cells[i]?.getD Go.undef) hcap (kW fun e he => (hes e he).2) (fun j e he => (hes e (List.mem_of_getElem? he)).1)
  (fun j i hj hi => by rw [Nat.add_assoc]; exact (hw _ (at_ j i hj hi)).1) (fun j i hj hi => ?_) (fun j e i x he hx => ?_)
 ·have hj' : j < vals.length := by omega
  have e1 : vals[j]? = some vals[j] := by simp [hj']
  have hsz := (hrel j es[j] vals[j] (by simp [hj]) e1).1
  rw [Nat.add_assoc, (hw _ (at_ j i hj hi)).2, hc j i _ e1 hi]
  simp [e1, hsz, hi]
 ·obtain ⟨hj, _⟩ := List.getElem?_eq_some_iff.1 he
  have e1 : vals[j]? = some vals[j] := by simp [show j < vals.length by omega]
  obtain ⟨hsz, h2⟩ := hrel j e vals[j] he e1
  obtain ⟨hi, _⟩ := List.getElem?_eq_some_iff.1 hx
  have : e.cells.length = s := (hes e (List.mem_of_getElem? he)).1
  have e2 : vals[j].cells[i]? = some (vals[j].cells[i]'(by omega)) := by simp [show i < vals[j].cells.size by omega]
  simp only [e1, Option.getD_some, e2]
  exact h2 i x _ hx e2
theorem Bs (hS : Sim bs g H w) {id0 : Nat} (ob : HObj) (l : Loc) (hO : Open bs g H id0 ob) (h : ORel { g with φ := fun i => if i = id0 then some l else g.φ i } w id0 ob l) :
    Lay bs g w H id0 { g with φ := fun i => if i = id0 then some l else g.φ i } w := by
  have x : Ext g w { g with φ := fun i => if i = id0 then some l else g.φ i } w :=
    { size := Nat.le_refl _, imm := fun _ _ h => ⟨h, rfl⟩, loc := fun id l' h2 => by
        have : id ≠ id0 := by rintro rfl; rw [hO.none] at h2; cases h2
        exact ⟨l', by simp [this, h2], LocLe.refl _⟩
      free := fun _ _ _ => ⟨rfl, fun _ => rfl⟩, os := rfl, tape := rfl, output := rfl, drawn := Nat.le_refl _ }
  refine ⟨⟨hS.bl, hS.srt, fun id hid => ?_, hS.old, fun id ob' l' h1 h2 => ?_, fun id ob' h2 h3 => ?_⟩, x, fun id => ?_⟩
  · by_cases e : id = id0
    · subst e; exact (List.getElem?_eq_some_iff.1 hO.obj).1
    · simp [e] at hid; exact hS.dom id hid
  · by_cases e : id = id0
    · subst e; rw [hO.obj] at h1; cases h1; simp at h2; subst h2; exact h
    · simp [e] at h2
      exact (hS.obj id ob' l' h1 h2).keep x ⟨fun _ _ h => h, fun _ _ _ => ⟨rfl, rfl⟩, fun _ _ _ _ h => h⟩
  · by_cases e : id = id0
    · subst e; exact fun b hb => .inl (Nat.le_trans (hS.srt b hb) hO.base)
    · simp [e] at h3; exact hS.und id ob' h2 h3
  · by_cases e : id = id0
    · simp [e]
    · simp [e]
theorem sT (hS : Sim bs g H w) {id : Nat} (hO : Open bs g H id (.tok 0)) : ∃ g', Lay bs g w H id g' w ∧ VRel g' w (.tl id []) (.slice none 0 0) :=
 ⟨_, Bs hS (.tok 0) (.tok none 0 0 0) hO (.tokNil 0), .tl _ _ _ none 0 0 0 .listNil (by simp) (by simp) (fun _ => ⟨by simp, rfl⟩)⟩
theorem tP {t el sz : Nat} {len : Nat} {parts : Array (Nat × Operand)} {ρ : Operand → V} {ρ' : Operand → Value} (hρ : ∀ x, VRel g w (ρ x) (ρ' x))
  (he : elemT P t = some el) (hsz : sizeT P el = some sz) (h0 : sz ≠ 0) (hr : parts.toList.map (·.1) = List.range len) (hm : len * sz ≤ 16777216) (hz : (zeroT P el).isSome = true)
  {es : List V} (ht : takeElems sz (parts.toList.map fun q => ρ q.2) = some es) :
  ∃ (vals : List Value) (vs : Array Value), vals.length = len ∧ es.length = len ∧ (∀ e ∈ es, e.cells.length = sz ∧ e.pure = true ∧ e.cells.all V.isCell = true) ∧
   (∀ (j : Nat) (e : V) (v' : Value), es[j]? = some e → vals[j]? = some v' → v'.cells.size = sz ∧ ∀ (k : Nat) (x : V) (x' : Value), e.cells[k]? = some x → v'.cells[k]? = some x' → VRel g w x x') ∧
   vs.size = len * sz ∧ (∀ (j : Nat) (v : Value) (q : Nat), vals[j]? = some v → q < sz → vs[j * sz + q]? = v.cells[q]?) ∧
   (Instr.buildSlice t len (parts.map fun (i, x) => (i, ρ' x))).run P w = .ok (.slice (some ⟨w.heap.size, 0, none⟩) len len) { w with heap := w.heap.push (.cells vs el) } := by
 have hu : P.underlying t = some (.slice el) := by
  unfold elemT at he; split at he <;> simp at he; subst he; assumption
 obtain ⟨z, hz'⟩ := Option.isSome_iff_exists.1 hz
 obtain ⟨zv, _, hzr⟩ := jE hz'
 obtain ⟨k1, k2, k3⟩ := al ht
 have hlen : parts.toList.length = len := by have := congrArg List.length hr; simpa using this
 generalize hvals : (parts.toList.map fun q => ρ' q.2) = vals
 have hvl : vals.length = len := by rw [← hvals]; simp [hlen]
 have hesl : es.length = len := by rw [k1]; simp [hlen]
 have hel : ∀ (j : Nat) (e : V) (v' : Value), es[j]? = some e → vals[j]? = some v' → v'.cells.size = sz ∧ ∀ (k : Nat) (x : V) (x' : Value), e.cells[k]? = some x → v'.cells[k]? = some x' → VRel g w x x' := by
  intro j e v' h1 h2
  obtain ⟨v, h3, rfl⟩ := k3 j e h1
  rw [List.getElem?_map] at h3
  rw [← hvals, List.getElem?_map] at h2
  cases hq : parts.toList[j]? with
  | none => rw [hq] at h3; cases h3
  | some q =>
   rw [hq] at h2 h3
   simp at h2 h3
   subst h2; subst h3
   have := k2 _ (List.mem_of_getElem? h1)
   exact sS (hρ q.2) this.1 this.2.2
 have hparts : (parts.map fun (i, x) => (i, ρ' x)).toList = (List.range' 0 vals.length).zip vals := by
  have e1 : (parts.map fun (i, x) => (i, ρ' x)).toList = parts.toList.map fun q => (q.1, ρ' q.2) := by simp
  rw [e1]
  have e2 := qs (parts.toList.map fun q => (q.1, ρ' q.2)) 0 (by simp [Function.comp_def, hlen]; rw [← List.range_eq_range']; simpa using hr)
  rw [e2]
  simp [Function.comp_def, ← hvals]
 generalize hcs0 : ((Array.range (len * sz)).map fun i => (if len * sz = 0 then (#[] : Array Value) else zv.cells)[i % (if len * sz = 0 then (#[] : Array Value) else zv.cells).size]!) = cs0
 have hcsz : cs0.size = len * sz := by rw [← hcs0]; simp
 obtain ⟨vs, f1, f2, f3, f4⟩ := qr sz vals 0 cs0 (fun v hv => by
   obtain ⟨j, hj⟩ := List.getElem?_of_mem hv
   obtain ⟨hlt, _⟩ := List.getElem?_eq_some_iff.1 hj
   exact (hel j es[j] v (by simp [show j < es.length by omega]) hj).1) (by rw [Nat.zero_add, hvl, hcsz]; exact Nat.le_refl _)
 have hrun : (Instr.buildSlice t len (parts.map fun (i, x) => (i, ρ' x))).run P w = .ok (.slice (some ⟨w.heap.size, 0, none⟩) len len) { w with heap := w.heap.push (.cells vs el) } := by
  have hle : ¬ (len * sz > 2 ^ 24) := by omega
  by_cases hzz : len * sz = 0
  ·simp only [hzz, if_true] at hcs0
   simp only [Instr.buildSlice, Sem.run_bind, run_underlying hu, Result.andThen_ok, aD hsz, Sem.run_ite, hle, if_false, hzz, if_true, Sem.run_pure]
   simp only [hparts]
   rw [hcs0, f1]
   simp [newRow]
  ·simp only [hzz, if_false] at hcs0
   simp only [Instr.buildSlice, Sem.run_bind, run_underlying hu, Result.andThen_ok, aD hsz, Sem.run_ite, hle, if_false, hzz, hzr, Sem.run_pure]
   simp only [hparts]
   rw [hcs0, f1]
   simp [newRow]
 exact ⟨vals, vs, hvl, hesl, k2, hel, by rw [f2, hcsz], fun j v q h1 h2 => by have := f4 j v q h1 h2; simpa using this, hrun⟩
theorem ot (hS : Sim bs g H w) {id : Nat} {t el sz : Nat} {len : Nat} {parts : Array (Nat × Operand)} {ρ : Operand → V} {ρ' : Operand → Value} (hρ : ∀ x, VRel g w (ρ x) (ρ' x))
  (he : elemT P t = some el) (hsz : sizeT P el = some sz) (h0 : sz ≠ 0) (hr : parts.toList.map (·.1) = List.range len) (hm : len * sz ≤ 16777216) (hz : (zeroT P el).isSome = true)
  {es : List V} (ht : takeElems sz (parts.toList.map fun q => ρ q.2) = some es) (hO : Open bs g H id (.arr es 0)) :
  ∃ v' w' g', (Instr.buildSlice t len (parts.map fun (i, x) => (i, ρ' x))).run P w = .ok v' w' ∧ Lay bs g w H id g' w' ∧ VRel g' w' (.ref sz id 0 0 len) v' := by
 obtain ⟨vals, vs, hvl, hesl, k2, hel, hvs, f4, hrun⟩ := tP hρ he hsz h0 hr hm hz ht
 refine ⟨_, _, g.lay w.heap.size (fun _ => .res id) id (some (.arr w.heap.size 0 sz (len * sz) 0)), hrun, ?_, ?_⟩
 ·refine mI hS _ _ _ _ hO (.arr _ _ _ _ _ _ (by rw [hesl]; exact Nat.le_refl _) (fun j e hj => (k2 e (List.mem_of_getElem? hj)).1) (fun q hq => ⟨by simp [G.lay], eE vs el _, ?_⟩) (fun j e q v hj hv => ?_))
  ·rw [Nat.zero_add, aV]; exact ⟨vs[q]'(by omega), by simp [show q < vs.size by omega]⟩
  ·obtain ⟨hlt, _⟩ := List.getElem?_eq_some_iff.1 hj
   obtain ⟨hq, _⟩ := List.getElem?_eq_some_iff.1 hv
   have hes := (k2 e (List.mem_of_getElem? hj)).1
   have e1 : vals[j]? = some vals[j] := by simp [show j < vals.length by omega]
   obtain ⟨hsz2, h2⟩ := hel j e vals[j] hj e1
   have e2 : vals[j].cells[q]? = some (vals[j].cells[q]'(by omega)) := by simp [show q < vals[j].cells.size by omega]
   rw [Nat.zero_add, aV, f4 j _ q e1 (by omega), e2]
   exact ⟨_, rfl, (h2 q v _ hv e2).mono (mw hS _ _ hO.none _)⟩
 ·exact .ref _ _ _ _ _ len w.heap.size 0 sz (len * sz) 0 _ _ (by simp [G.lay]) (Nat.le_refl _) (Nat.le_refl _) (fun _ => ⟨rfl, fun _ => ⟨rfl, by omega, by rw [Nat.zero_add]; exact Nat.le_refl _⟩⟩)
theorem ga (hS : Sim bs g H w) {id : Nat} {t el sz : Nat} {len : Nat} {own : Bool} (hO : len = 0 ∨ own = true → Open bs g H id (.tok len)) {parts : Array (Nat × Operand)} {ρ : Operand → V} {ρ' : Operand → Value} (hρ : ∀ x, VRel g w (ρ x) (ρ' x))
  (he : elemT P t = some el) (hsz : sizeT P el = some sz) (h0 : sz ≠ 0) (hr : parts.toList.map (·.1) = List.range len) (hm : len * sz ≤ 16777216) (hz : (zeroT P el).isSome = true)
  {es : List V} (ht : takeElems sz (parts.toList.map fun q => ρ q.2) = some es) :
  ∃ v' w' g', (Instr.buildSlice t len (parts.map fun (i, x) => (i, ρ' x))).run P w = .ok v' w' ∧
   (if len = 0 ∨ own = true then Lay bs g w H id g' w' else Out bs g w H g' w' H) ∧ VRel g' w' (if len = 0 then .tl id [] else if own = true then .tl id es else .list es) v' := by
 have hu : P.underlying t = some (.slice el) := by
  unfold elemT at he; split at he <;> simp at he; subst he; assumption
 obtain ⟨z, hz'⟩ := Option.isSome_iff_exists.1 hz
 obtain ⟨zv, _, hzr⟩ := jE hz'
 obtain ⟨k1, k2, k3⟩ := al ht
 have hlen : parts.toList.length = len := by have := congrArg List.length hr; simpa using this
 generalize hvals : (parts.toList.map fun q => ρ' q.2) = vals
 have hvl : vals.length = len := by rw [← hvals]; simp [hlen]
 have hesl : es.length = len := by rw [k1]; simp [hlen]
 have hel : ∀ (j : Nat) (e : V) (v' : Value), es[j]? = some e → vals[j]? = some v' → v'.cells.size = sz ∧ ∀ (k : Nat) (x : V) (x' : Value), e.cells[k]? = some x → v'.cells[k]? = some x' → VRel g w x x' := by
  intro j e v' h1 h2
  obtain ⟨v, h3, rfl⟩ := k3 j e h1
  rw [List.getElem?_map] at h3
  rw [← hvals, List.getElem?_map] at h2
  cases hq : parts.toList[j]? with
  | none => rw [hq] at h3; cases h3
  | some q =>
   rw [hq] at h2 h3
   simp at h2 h3
   subst h2; subst h3
   have := k2 _ (List.mem_of_getElem? h1)
   exact sS (hρ q.2) this.1 this.2.2
 have hparts : (parts.map fun (i, x) => (i, ρ' x)).toList = (List.range' 0 vals.length).zip vals := by
  have e1 : (parts.map fun (i, x) => (i, ρ' x)).toList = parts.toList.map fun q => (q.1, ρ' q.2) := by simp
  rw [e1]
  have e2 := qs (parts.toList.map fun q => (q.1, ρ' q.2)) 0 (by simp [Function.comp_def, hlen]; rw [← List.range_eq_range']; simpa using hr)
  rw [e2]
  simp [Function.comp_def, ← hvals]
 generalize hcs0 : ((Array.range (len * sz)).map fun i => (if len * sz = 0 then (#[] : Array Value) else zv.cells)[i % (if len * sz = 0 then (#[] : Array Value) else zv.cells).size]!) = cs0
 have hcsz : cs0.size = len * sz := by rw [← hcs0]; simp
 obtain ⟨vs, f1, f2, f3, f4⟩ := qr sz vals 0 cs0 (fun v hv => by
   obtain ⟨j, hj⟩ := List.getElem?_of_mem hv
   obtain ⟨hlt, _⟩ := List.getElem?_eq_some_iff.1 hj
   exact (hel j es[j] v (by simp [show j < es.length by omega]) hj).1) (by rw [Nat.zero_add, hvl, hcsz]; exact Nat.le_refl _)
 have hrun : (Instr.buildSlice t len (parts.map fun (i, x) => (i, ρ' x))).run P w = .ok (.slice (some ⟨w.heap.size, 0, none⟩) len len) { w with heap := w.heap.push (.cells vs el) } := by
  have hle : ¬ (len * sz > 2 ^ 24) := by omega
  by_cases hzz : len * sz = 0
  ·simp only [hzz, if_true] at hcs0
   simp only [Instr.buildSlice, Sem.run_bind, run_underlying hu, Result.andThen_ok, aD hsz, Sem.run_ite, hle, if_false, hzz, if_true, Sem.run_pure]
   simp only [hparts]
   rw [hcs0, f1]
   simp [newRow]
  ·simp only [hzz, if_false] at hcs0
   simp only [Instr.buildSlice, Sem.run_bind, run_underlying hu, Result.andThen_ok, aD hsz, Sem.run_ite, hle, if_false, hzz, hzr, Sem.run_pure]
   simp only [hparts]
   rw [hcs0, f1]
   simp [newRow]
 by_cases hl0 : len = 0
 ·subst hl0
  refine ⟨_, _, g.lay w.heap.size (fun _ => .res id) id (some (.tok (some (w.heap.size, 0)) sz 0 0)), hrun, ?_, ?_⟩
  ·simp only [true_or, if_true]
   refine mI hS _ _ (.tok 0) (.tok (some (w.heap.size, 0)) sz 0 0) (hO (.inl rfl)) (.tok 0 _ 0 sz 0 (by omega) (fun _ => rfl) (fun k _ hk => by omega))
  ·simp only [if_true]
   refine .tl _ _ _ (some (w.heap.size, 0)) sz 0 0 (.list _ _ _ sz [] (fun _ _ => Go.undef) (by simp) rfl (fun j e he => by simp at he) (fun j i hj => by simp at hj) (fun j i hj => by simp at hj) (fun j e i v he => by simp at he)) (by simp [G.lay]) (by simp) (fun _ => ⟨by simp, rfl⟩)
 cases own with
 | true =>
  simp only [if_neg hl0, or_true, if_true]
  have hlay := mI hS (.cells vs el) (fun _ => .imm) (.tok len) (.tok (some (w.heap.size, 0)) sz len len) (hO (.inr rfl)) (.tok len _ 0 sz len (Nat.le_refl _) (fun h => h) (fun k h1 h2 => by omega))
  refine ⟨_, _, _, hrun, hlay, ?_⟩
  have x := hlay.ext
  refine .tl _ _ _ (some (w.heap.size, 0)) sz len len ?_ (by simp [G.lay]) (by omega) (fun _ => ⟨fun e he => (k2 e he).1, rfl⟩)
  rw [← hesl]
  rw [← hesl] at x
  refine vN (vals := vals) (s := sz) (cells := vs) (by omega) (Nat.le_refl _) (fun e he => ⟨(k2 e he).1, (k2 e he).2.1⟩) (fun j e v' h1 h2 => ⟨(hel j e v' h1 h2).1, fun k x1 x2 hx1 hx2 => ((hel j e v' h1 h2).2 k x1 x2 hx1 hx2).mono x⟩) (fun j q v' h1 h2 => by have := f4 j v' q h1 h2; simpa using this) (fun k hk => ⟨by simp [G.lay], ?_⟩)
  rw [Nat.zero_add, aV]
 | false =>
  simp only [if_neg hl0, or_self, Bool.false_eq_true, if_false, or_false]
  refine ⟨_, _, g.lay w.heap.size (fun _ => .imm) H.length (g.φ H.length), hrun, oq hS _, ?_⟩
  have x := (oq hS (.cells vs el)).ext
  rw [← hesl]
  refine vN (vals := vals) (s := sz) (cells := vs) (by omega) (Nat.le_refl _) (fun e he => ⟨(k2 e he).1, (k2 e he).2.1⟩) (fun j e v' h1 h2 => ⟨(hel j e v' h1 h2).1, fun k x1 x2 hx1 hx2 => ((hel j e v' h1 h2).2 k x1 x2 hx1 hx2).mono x⟩) (fun j q v' h1 h2 => by have := f4 j v' q h1 h2; simpa using this) (fun k hk => ⟨by simp [G.lay], ?_⟩)
  rw [Nat.zero_add, aV]
end
end Go.E
namespace Go.E
section
variable {P : Program} {g : G} {w : World} {bs : List Nat} {H : Heap}
theorem eV (b : Nat) : ∀ (vs : List Value) (o : Nat) (w : World), (w.setCells b o vs).heap.size = w.heap.size ∧ (∀ b', b' ≠ b → (w.setCells b o vs).heap[b']? = w.heap[b']?) ∧
  (w.setCells b o vs).os = w.os ∧ (w.setCells b o vs).tape = w.tape ∧ (w.setCells b o vs).output = w.output ∧ (w.setCells b o vs).drawn = w.drawn
 | [], _, _ => ⟨rfl, fun _ _ => rfl, rfl, rfl, rfl, rfl⟩
 | v :: r, o, w => by
  obtain ⟨h1, h2, h3, h4, h5, h6⟩ := eV b r (o + 1) (w.setCell ⟨b, o, none⟩ v)
  refine ⟨by rw [World.setCells, h1]; simp [World.setCell], fun b' hb => ?_, h3, h4, h5, h6⟩
  rw [World.setCells, h2 b' hb]
  simp [World.setCell, Array.getElem?_modify, Ne.symm hb]
theorem nC {id b o : Nat} {vs : List Value} (hown : ∀ j, j < vs.length → g.O b (o + j) = .res id) : Ext g w g (w.setCells b o vs) := by
 obtain ⟨h1, h2, h3, h4, h5, h6⟩ := eV b vs o w
 refine ⟨by rw [h1]; exact Nat.le_refl _, fun b' k hk => ⟨hk, ?_⟩, fun _ l h => ⟨l, h, LocLe.refl l⟩, fun b' hb hf => ⟨?_, fun _ => rfl⟩, h3, h4, h5, Nat.le_of_eq h6.symm⟩
 ·refine World.cell?_setCells_out b vs o w _ (fun e _ => ?_)
  simp at e; subst e
  by_cases hc : k < o ∨ o + vs.length ≤ k
  ·exact hc
  ·have := hown (k - o) (by omega)
   rw [show o + (k - o) = k by omega, hk] at this
   cases this
 ·cases vs with
  | nil => rfl
  | cons v r =>
   refine h2 b' (fun e => ?_)
   subst e
   exact hf (o + 0) id (hown 0 (by simp))
theorem ma {id id' b o : Nat} {vs : List Value} (hown : ∀ j, j < vs.length → g.O b (o + j) = .res id) (hne : id' ≠ id)
  (hcell : ∀ j, j < vs.length → (w.cell? ⟨b, o + j, none⟩).isSome = true) : Keep id' g w g (w.setCells b o vs) := by
 refine ⟨fun _ _ h => h, fun b' k hk => ⟨?_, World.frozen?_setCells b vs o w _⟩, fun b' es c h hb => ?_⟩
 ·refine World.cell?_setCells_out b vs o w _ (fun e _ => ?_)
  simp at e; subst e
  by_cases hc : k < o ∨ o + vs.length ≤ k
  ·exact hc
  ·have := hown (k - o) (by omega)
   rw [show o + (k - o) = k by omega, hk] at this
   cases this; exact absurd rfl hne
 ·cases vs with
  | nil => exact hb
  | cons v r =>
   rw [(eV b (v :: r) o w).2.1 b' (fun e => ?_)]
   ·exact hb
   ·subst e
    have := hcell 0 (by simp)
    simp [World.cell?, hb] at this
theorem pT (n : Nat) : ∀ (a b : List V), V.underL n (a ++ b) = (V.underL n a && V.underL n b)
 | [], b => by simp [V.underL]
 | v :: r, b => by simp [V.underL, pT n r b, Bool.and_assoc]
theorem rG (n : Nat) : ∀ (a : List V) (k : Nat), V.underL n a = true → V.underL n (a.take k) = true
 | _, 0, _ => by simp [V.underL]
 | [], _ + 1, h => by simpa using h
 | v :: r, k + 1, h => by simp [V.underL] at h ⊢; exact ⟨h.1, rG n r k h.2⟩
theorem rH (n : Nat) : ∀ (a : List V) (k : Nat), V.underL n a = true → V.underL n (a.drop k) = true
 | _, 0, h => by simpa using h
 | [], _ + 1, h => by simpa using h
 | v :: r, k + 1, h => by simp [V.underL] at h ⊢; exact rH n r k h.2
theorem kQ {n : Nat} {v : V} (h : v.under n = true) : V.underL n v.cells = true := by
 cases v <;> first | (simpa [V.cells, V.under] using h) | (simp only [V.cells, V.underL, Bool.and_true]; exact h)
theorem qt {n : Nat} {cs new : List V} {off : Nat} (h : V.underL n cs = true) (hn : V.underL n new = true) : V.underL n (writeCells cs off new) = true := by
 unfold writeCells
 simp only [pT, Bool.and_eq_true]
 exact ⟨⟨rG n _ _ h, hn⟩, rH n _ _ h⟩
theorem mb {n : Nat} : ∀ {l : List V} {v : V}, V.underL n l = true → v ∈ l → v.under n = true
 | x :: r, v, h, hm => by
  simp [V.underL] at h
  rcases List.mem_cons.1 hm with rfl | hm
  ·exact h.1
  ·exact mb h.2 hm
theorem gU {n : Nat} : ∀ {l : List V}, (∀ v ∈ l, v.under n = true) → V.underL n l = true
 | [], _ => rfl
 | v :: r, h => by simp [V.underL, h v (by simp), gU (l := r) (fun e he => h e (by simp [he]))]
theorem oY {bs : List Nat} {id : Nat} {v : V} (hs : ∀ b ∈ bs, b ≤ bs.headD 0) (h : okStore bs id v = true) (b : Nat) (hb : b ∈ bs) : b ≤ id ∨ v.under b = true := by
 unfold okStore at h
 simp only [Bool.or_eq_true, decide_eq_true_eq, List.all_eq_true] at h
 rcases h with h | h
 ·exact .inl (Nat.le_trans (hs b hb) h)
 ·exact h b hb
theorem xr {e : V} {off : Nat} {new : List V} (hoff : off + new.length ≤ e.cells.length) (hc : new.all V.isCell = true) :
  (likeV e (writeCells e.cells off new)).cells = writeCells e.cells off new := by
 by_cases hag : ∃ cs, e = .agg cs
 ·obtain ⟨cs, rfl⟩ := hag; rfl
 ·have he : e.cells = [e] := by cases e <;> first | rfl | exact absurd ⟨_, rfl⟩ hag
  have hl : ∀ l, likeV e l = l.headD .undef := by cases e <;> first | (intro l; rfl) | exact absurd ⟨_, rfl⟩ hag
  rw [hl, he]
  rw [he] at hoff
  cases new with
  | nil =>
   have : writeCells [e] off [] = [e] := by unfold writeCells; simp
   rw [this]; simpa using he
  | cons x r =>
   simp at hoff
   have h0 : off = 0 ∧ r = [] := by
    constructor
    ·omega
    ·exact List.eq_nil_of_length_eq_zero (by omega)
   obtain ⟨rfl, rfl⟩ := h0
   simp [writeCells]
   simp at hc
   cases x <;> first | rfl | simp [V.isCell] at hc
theorem yQ {n : Nat} {e : V} {cs : List V} (h : V.underL n cs = true) : (likeV e cs).under n = true := by
 cases e <;> first | (simpa [likeV, V.under] using h) | (cases cs <;> simp_all [likeV, V.underL, V.under])
theorem qu {t : TypeId} {b o : Nat} {v : V} {v' : Value} (hv : VRel g w v v') (hs : sizeT P t = some v.cells.length) (hc : v.cells.all V.isCell = true)
  (hcell : ∀ j, j < v.cells.length → (w.cell? ⟨b, o + j, none⟩).isSome = true) (hf : ∀ j, j < v.cells.length → w.frozen? ⟨b, o + j, none⟩ = false) :
  (Instr.storeAt t (.pointer (some ⟨b, o, none⟩)) v').run P w = .ok () (w.setCells b o v'.cells.toList) := by
 obtain ⟨h1, h2⟩ := gT hv (iG hc)
 have hl : v'.cells.toList.length = v.cells.length := by simpa using h1
 have hst := run_storeCells_cells (P := P) b o v'.cells.toList 0 w (fun j hj => by simpa using hcell j (by omega)) (fun j hj => by simpa using hf j (by omega)) (fun x hx => by
  obtain ⟨k, hk⟩ := List.getElem?_of_mem hx
  obtain ⟨hlt, _⟩ := List.getElem?_eq_some_iff.1 hk
  have hk2 : v.cells[k]? = some (v.cells[k]'(by omega)) := by simp
  have := h2 k _ x hk2 (by simpa using hk)
  exact (lY this (List.all_eq_true.1 hc _ (List.mem_of_getElem? hk2))).1)
 simp [Instr.storeAt, Instr.sureAddr, storeVar, aD hs, h1, hst]
theorem xt (hS : Sim bs g H w) {t : TypeId} {p v : V} {p' v' : Value} {H' : Heap} (h : storeV P bs t p v H = some H') (hp : VRel g w p p') (hv : VRel g w v v') :
  ∃ w', (Instr.storeAt t p' v').run P w = .ok () w' ∧ Out bs g w H g w' H' := by
 unfold storeV at h
 split at h
 case isFalse => cases h
 rename_i hc
 obtain ⟨hsz, hall⟩ := hc
 obtain ⟨hs1, hr1⟩ := gT hv (iG hall)
 have hl : v'.cells.toList.length = v.cells.length := by simpa using hs1
 split at h
 ·rename_i id off
  split at h
  case h_2 => cases h
  rename_i cs hH
  split at h
  case isFalse => cases h
  rename_i hc
  obtain ⟨hoff, hund⟩ := hc
  cases h
  cases hp with
  | ptr _ _ b o n hφ =>
   obtain ⟨rfl, hown, hcell⟩ := qq hS hH hφ
   have own' : ∀ j, j < v'.cells.toList.length → g.O b (o + off + j) = .res id := fun j hj => by
    have := (hown (off + j) (by omega)).1
    rwa [← Nat.add_assoc] at this
   have cell' : ∀ j, j < v.cells.length → (w.cell? ⟨b, o + off + j, none⟩).isSome = true := fun j hj => by
    obtain ⟨x, hx, _⟩ := hcell (off + j) cs[off + j] (by simp [show off + j < cs.length by omega])
    rw [Nat.add_assoc, hx]; rfl
   have x := nC (w := w) own'
   have hlen : (writeCells cs off v.cells).length = cs.length := jc hoff
   refine ⟨_, qu hv hsz hall cell' (fun j hj => by have := (hown (off + j) (by omega)).2; rwa [← Nat.add_assoc] at this), ?_, x, by simp, fun id => by simp; omega⟩
   refine ⟨by simpa using hS.bl, hS.srt, fun i hi => by simpa using hS.dom i hi, fun b' k hk => by rw [(eV _ _ _ _).1]; exact hS.old b' k hk, fun i ob l h1 h2 => ?_, fun i ob h2 hm2 => ?_⟩
   ·by_cases e : i = id
    ·subst e
     obtain ⟨hlt, _⟩ := List.getElem?_eq_some_iff.1 hH
     simp [hlt] at h1; subst h1
     rw [hφ] at h2; cases h2
     rw [← hlen]
     refine .cells _ _ _ (fun k hk => ⟨(hown k (by omega)).1, by rw [World.frozen?_setCells]; exact (hown k (by omega)).2⟩) (fun k y hy => ?_)
     rw [kH hoff] at hy
     by_cases hk : off ≤ k ∧ k < off + v.cells.length
     ·rw [if_pos hk] at hy
      have hin := World.cell?_setCells_in b v'.cells.toList (o + off) w (fun j hj => cell' j (by omega)) (k - off) (by omega)
      rw [show o + off + (k - off) = o + k by omega] at hin
      exact ⟨_, hin, (hr1 (k - off) y _ hy (by simp [show k - off < v'.cells.size by omega])).mono x⟩
     ·rw [if_neg hk] at hy
      obtain ⟨y', e1, e2⟩ := hcell k y hy
      refine ⟨y', ?_, e2.mono x⟩
      rw [World.cell?_setCells_out _ _ _ _ _ (fun _ _ => by simp only; omega)]
      exact e1
    ·rw [List.getElem?_set_ne (Ne.symm e)] at h1
     exact (hS.obj i ob l h1 h2).keep x (ma own' e (fun j hj => cell' j (by omega)))
   ·by_cases e : i = id
    ·subst e
     obtain ⟨hlt, _⟩ := List.getElem?_eq_some_iff.1 hH
     simp [hlt] at h2; subst h2
     intro b hb
     rcases oY hS.srt hund b hb with h5 | hv2
     ·exact .inl h5
     ·rcases hS.und i _ hH hm2 b hb with h5 | hu
      ·exact .inl h5
      ·exact .inr (qt hu (kQ hv2))
    ·rw [List.getElem?_set_ne (Ne.symm e)] at h2
     exact hS.und i ob h2 hm2
 ·rename_i id ver i off
  split at h
  case h_2 => cases h
  rename_i es v0 hH
  split at h
  case isFalse => cases h
  rename_i hc
  obtain ⟨rfl, hund⟩ := hc
  cases he : es[i]? with
  | none => simp [he] at h
  | some e =>
   simp only [he, Option.bind_some] at h
   split at h
   case isFalse => cases h
   rename_i hoff
   cases h
   cases hp with
   | aptr _ _ _ _ b o s ext ver' b' o' hφ hver hcur =>
    obtain ⟨rfl, hext, hs, hown, hcell⟩ := mv hS hH hφ
    obtain ⟨rfl, rfl⟩ := hcur rfl
    have hes : e.cells.length = s := hs i e he
    obtain ⟨hi, _⟩ := List.getElem?_eq_some_iff.1 he
    have hbnd : ∀ k, k < s → i * s + k < ext := fun k hk => by
     have : (i + 1) * s ≤ es.length * s := Nat.mul_le_mul_right s hi
     rw [Nat.add_mul, Nat.one_mul] at this; omega
    have own' : ∀ j, j < v'.cells.toList.length → g.O b' (o + i * s + off + j) = .res id := fun j hj => by
     have := (hown (i * s + (off + j)) (hbnd _ (by omega))).1
     rwa [← Nat.add_assoc, ← Nat.add_assoc] at this
    have cell' : ∀ j, j < v.cells.length → (w.cell? ⟨b', o + i * s + off + j, none⟩).isSome = true := fun j hj => by
     obtain ⟨_, _, x, hx⟩ := hown (i * s + (off + j)) (hbnd _ (by omega))
     rw [← Nat.add_assoc, ← Nat.add_assoc] at hx
     rw [hx]; rfl
    have x := nC (w := w) own'
    have hlk := xr hoff hall
    refine ⟨_, qu hv hsz hall cell' (fun j hj => by have := (hown (i * s + (off + j)) (hbnd _ (by omega))).2.1; rwa [← Nat.add_assoc, ← Nat.add_assoc] at this), ?_, x, by simp, fun id => by simp; omega⟩
    refine ⟨by simpa using hS.bl, hS.srt, fun i hi => by simpa using hS.dom i hi, fun b' k hk => by rw [(eV _ _ _ _).1]; exact hS.old b' k hk, fun i1 ob l h1 h2 => ?_, fun i1 ob h2 hm2 => ?_⟩
    ·by_cases ee : i1 = id
     ·subst ee
      obtain ⟨hlt, _⟩ := List.getElem?_eq_some_iff.1 hH
      simp [hlt] at h1; subst h1
      rw [hφ] at h2; cases h2
      refine .arr _ _ _ _ _ _ (by simpa using hext) (fun j e2 hj => ?_) (fun k hk => ?_) (fun j e2 q y hj hy => ?_)
      ·by_cases ej : j = i
       ·subst ej; simp [hi] at hj; subst hj; rw [hlk, jc hoff, hes]
       ·rw [List.getElem?_set_ne (Ne.symm ej)] at hj; exact hs j e2 hj
      ·obtain ⟨k1, k2, y, k3⟩ := hown k hk
       refine ⟨k1, by rw [World.frozen?_setCells]; exact k2, ?_⟩
       by_cases hin : i * s + off ≤ k ∧ k < i * s + off + v'.cells.toList.length
       ·have := World.cell?_setCells_in b' v'.cells.toList (o + i * s + off) w (fun j hj => cell' j (by omega)) (k - (i * s + off)) (by omega)
        rw [show o + i * s + off + (k - (i * s + off)) = o + k by omega] at this
        exact ⟨_, this⟩
       ·rw [World.cell?_setCells_out _ _ _ _ _ (fun _ _ => by simp only; omega)]
        exact ⟨y, k3⟩
      ·by_cases ej : j = i
       ·subst ej
        simp [hi] at hj; subst hj
        rw [hlk, kH hoff] at hy
        by_cases hq : off ≤ q ∧ q < off + v.cells.length
        ·rw [if_pos hq] at hy
         have hin := World.cell?_setCells_in b' v'.cells.toList (o + j * s + off) w (fun j hj => cell' j (by omega)) (q - off) (by omega)
         rw [show o + j * s + off + (q - off) = o + j * s + q by omega] at hin
         exact ⟨_, hin, (hr1 (q - off) y _ hy (by simp [show q - off < v'.cells.size by omega])).mono x⟩
        ·rw [if_neg hq] at hy
         obtain ⟨y', e1, e2⟩ := hcell j e q y he hy
         refine ⟨y', ?_, e2.mono x⟩
         rw [World.cell?_setCells_out _ _ _ _ _ (fun _ _ => by simp only; omega)]
         exact e1
       ·rw [List.getElem?_set_ne (Ne.symm ej)] at hj
        obtain ⟨y', e1, e3⟩ := hcell j e2 q y hj hy
        refine ⟨y', ?_, e3.mono x⟩
        obtain ⟨hq, _⟩ := List.getElem?_eq_some_iff.1 hy
        have hq2 : q < s := by rw [hs j e2 hj] at hq; exact hq
        rw [World.cell?_setCells_out _ _ _ _ _ (fun _ _ => by
         simp only
         rcases Nat.lt_or_gt_of_ne ej with hlt2 | hgt
         ·have : (j + 1) * s ≤ i * s := Nat.mul_le_mul_right s hlt2
          rw [Nat.add_mul, Nat.one_mul] at this; omega
         ·have : (i + 1) * s ≤ j * s := Nat.mul_le_mul_right s hgt
          rw [Nat.add_mul, Nat.one_mul] at this; omega)]
        exact e1
     ·rw [List.getElem?_set_ne (Ne.symm ee)] at h1
      exact (hS.obj i1 ob l h1 h2).keep x (ma own' ee (fun j hj => cell' j (by omega)))
    ·by_cases ee : i1 = id
     ·subst ee
      obtain ⟨hlt, _⟩ := List.getElem?_eq_some_iff.1 hH
      simp [hlt] at h2; subst h2
      intro b hb
      rcases oY hS.srt hund b hb with h5 | hv2
      ·exact .inl h5
      ·rcases hS.und i1 _ hH hm2 b hb with h5 | hu
       ·exact .inl h5
       ·refine .inr (gU (fun y hy => ?_))
        rcases List.mem_or_eq_of_mem_set hy with hy | rfl
        ·exact mb hu hy
        ·exact yQ (qt (kQ (mb hu (List.mem_of_getElem? he))) (kQ hv2))
     ·rw [List.getElem?_set_ne (Ne.symm ee)] at h2
      exact hS.und i1 ob h2 hm2
 ·cases h
end
end Go.E
namespace Go.E
section
variable {P : Program} {g : G} {w : World} {bs : List Nat} {H : Heap}
theorem yR {n : Int} (h0 : 0 ≤ n) (h1 : n ≤ 9223372036854775807) : IntKind.i64.wrap n = n := by
 unfold IntKind.wrap
 simp [IntKind.bits, IntKind.signed]
 omega
theorem sU {t e : TypeId} (h : elemT P t = some e) : P.underlying t = some (.slice e) := by
 unfold elemT at h; split at h <;> simp at h; subst h; assumption
theorem yd {t : TypeId} {s b : Nat} (hs : sizeT P t = some s) (hb : bytesT P t = some b) : ∃ i, P.info? t = some i ∧ i.bytes = b ∧ i.size = s := by
 unfold sizeT at hs; unfold bytesT at hb
 cases h : P.info? t with
 | none => simp [h] at hs
 | some i => exact ⟨i, rfl, by simpa [h] using hb, by simpa [h] using hs⟩
theorem nD (hS : Sim bs g H w) {id : Nat} {t el sz by_ : Nat} {z : V} {k k' : IntKind} {n : Int} (hO : Open bs g H id (.arr (List.replicate n.toNat z) 0)) (he : elemT P t = some el) (hsz : sizeT P el = some sz) (hby : bytesT P el = some by_)
  (hz : zeroT P el = some z) (h0 : 0 ≤ n) (hb : n.toNat * by_ ≤ roomB) (hn : n ≤ roomB) (hs0 : sz ≠ 0) (hzl : z.cells.length = sz) (hzc : z.cells.all V.isCell = true) :
  ∃ v' w' g', (Instr.makeSlice t (.int k n) (.int k' n)).run P w = .ok v' w' ∧ Lay bs g w H id g' w' ∧ VRel g' w' (.ref sz id 0 0 n.toNat) v' := by
 have hu := sU he
 obtain ⟨zv, hzv, hzr⟩ := jE hz
 unfold roomB at hb hn
 obtain ⟨i, hi, hib, his⟩ := yd hsz hby
 have hw : IntKind.i64.wrap n = n := yR h0 (by omega)
 obtain ⟨hr1, hr2⟩ := gT (g := g) (w := w) (by rw [hzv]; exact iF zv : VRel g w z zv) (iG hzc)
 obtain ⟨m, rfl⟩ : ∃ m : Nat, n = m := ⟨n.toNat, by omega⟩
 simp only [Int.toNat_natCast] at hb ⊢
 have hbig : ¬ ((by_ : Int) * m > 2 ^ 48) := by
  have : m * by_ = by_ * m := Nat.mul_comm _ _
  have h2 : ((by_ * m : Nat) : Int) = (by_ : Int) * m := by simp
  rw [← h2]; omega
 generalize hcs : ((Array.range (m * sz)).map fun i => (if m * sz = 0 then (#[] : Array Value) else zv.cells)[i % (if m * sz = 0 then (#[] : Array Value) else zv.cells).size]!) = cs
 have hcl : cs.size = m * sz := by rw [← hcs]; simp
 have hget : ∀ j q, j < m → q < sz → cs[j * sz + q]? = zv.cells[q]? := fun j q hj hq => by
  have hlt : j * sz + q < m * sz := by
   have : (j + 1) * sz ≤ m * sz := Nat.mul_le_mul_right sz hj
   rw [Nat.add_mul, Nat.one_mul] at this; omega
  have hne : m * sz ≠ 0 := by omega
  rw [← hcs]
  simp only [hne, if_false]
  have hzs : zv.cells.size = sz := by omega
  rw [Array.getElem?_map, Array.getElem?_range]
  simp only [hlt, if_true, Option.map_some, hzs]
  rw [Nat.mul_comm j sz, Nat.mul_add_mod, Nat.mod_eq_of_lt hq]
  simp [show q < zv.cells.size by omega]
 have hrun : (Instr.makeSlice t (.int k (m : Int)) (.int k' (m : Int))).run P w = .ok (.slice (some ⟨w.heap.size, 0, none⟩) m m) { w with heap := w.heap.push (.cells cs el) } := by
  have c1 : ¬ ((m : Int) < 0) := by omega
  have c2 : ¬ ((m : Int) > m) := by omega
  by_cases hzz : m * sz = 0
  ·simp only [hzz, if_true] at hcs
   simp only [Instr.makeSlice, Sem.run_bind, run_underlying hu, Result.andThen_ok, asInt, asIntOf, Sem.run_pure, mH hi, hw, hib, hbig, c1, c2, decide_false, Bool.or_false, Bool.false_eq_true, if_false, Sem.run_ite, run_askRoom, sizeOf, his, Int.toNat_natCast, hzz, if_true]
   rw [hcs]
   simp [newRow]
  ·simp only [hzz, if_false] at hcs
   simp only [Instr.makeSlice, Sem.run_bind, run_underlying hu, Result.andThen_ok, asInt, asIntOf, Sem.run_pure, mH hi, hw, hib, hbig, c1, c2, decide_false, Bool.or_false, Bool.false_eq_true, if_false, Sem.run_ite, run_askRoom, sizeOf, his, Int.toNat_natCast, hzz, hzr]
   rw [hcs]
   simp [newRow]
 refine ⟨_, _, g.lay w.heap.size (fun _ => .res id) id (some (.arr w.heap.size 0 sz (m * sz) 0)), hrun, ?_, ?_⟩
 ·refine mI hS _ _ _ _ hO (.arr _ _ _ _ _ _ (by simp) (fun j e hj => ?_) (fun q hq => ⟨by simp [G.lay], eE cs el _, ?_⟩) (fun j e q v hj hv => ?_))
  ·obtain ⟨hlt, _⟩ := List.getElem?_eq_some_iff.1 hj
   simp at hlt
   simp [hlt] at hj
   rw [← hj]; exact hzl
  ·rw [Nat.zero_add, aV]; exact ⟨cs[q]'(by omega), by simp [show q < cs.size by omega]⟩
  ·obtain ⟨hlt, _⟩ := List.getElem?_eq_some_iff.1 hj
   simp at hlt
   simp [hlt] at hj
   rw [← hj] at hv
   obtain ⟨hq, _⟩ := List.getElem?_eq_some_iff.1 hv
   rw [Nat.zero_add, aV, hget j q hlt (by omega)]
   exact ⟨zv.cells[q]'(by omega), by simp [show q < zv.cells.size by omega], (hr2 q v _ hv (by simp [show q < zv.cells.size by omega])).mono (mw hS _ _ hO.none _)⟩
 ·exact .ref _ _ _ _ _ m w.heap.size 0 sz (m * sz) 0 _ _ (by simp [G.lay]) (Nat.le_refl _) (Nat.le_refl _) (fun _ => ⟨rfl, fun _ => ⟨rfl, by omega, by rw [Nat.zero_add]; exact Nat.le_refl _⟩⟩)
theorem oZ (v : V) : v.norm.cells = v.cells.map ju := by
 cases v <;> simp [V.norm, ju, V.cells]
theorem rv (v : V) : v.norm.cells.length = v.cells.length := by rw [oZ]; simp
theorem pa {L j q sz : Nat} (hj : j < L) (hq : q < sz) : j * sz + q < L * sz := by
 have : (j + 1) * sz ≤ L * sz := Nat.mul_le_mul_right sz hj
 rw [Nat.add_mul, Nat.one_mul] at this; omega
theorem qv (hS : Sim bs g H w) {x : V} {x' : Value} {xs new : List V} {sz : Nat} (hx : VRel g w x x') (he : elemsV H x = some xs) (ht : takeElems sz xs = some new) :
  ∃ a cap cells, x' = .slice a xs.length cap ∧ (Builtin.firstCells sz xs.length x').run P w = .ok (List.toArray cells) w ∧ cells.length = xs.length * sz ∧
   ∀ (j : Nat) (e : V) (q : Nat) (y : V), new[j]? = some e → e.cells[q]? = some y → ∃ y', cells[j * sz + q]? = some y' ∧ VRel g w y y' := by
 obtain ⟨k1, k2, k3⟩ := al ht
 have get : ∀ (j : Nat) (e : V), new[j]? = some e → ∃ v, xs[j]? = some v ∧ e = v.norm ∧ e.cells.length = sz ∧ e.cells.all V.isCell = true := fun j e hj => by
  obtain ⟨v, h1, h2⟩ := k3 j e hj
  have := k2 e (List.mem_of_getElem? hj)
  exact ⟨v, h1, h2, this.1, this.2.2⟩
 have xsz : ∀ (j : Nat) (e : V), xs[j]? = some e → e.cells.length = sz := fun j e hj => by
  obtain ⟨hlt, _⟩ := List.getElem?_eq_some_iff.1 hj
  have h1 : new[j]? = some (new[j]'(by omega)) := by simp
  obtain ⟨v, h2, h3, h4, _⟩ := get j _ h1
  rw [hj] at h2; cases h2
  rw [h3, rv] at h4; exact h4
 have row : ∀ (b o : Nat) (cell : Nat → Value), (∀ k, k < xs.length * sz → w.cell? ⟨b, o + k, none⟩ = some (cell k)) →
   (∀ (j : Nat) (e : V) (q : Nat) (y : V), xs[j]? = some e → e.cells[q]? = some y → VRel g w y (cell (j * sz + q))) →
   ∃ cells, (loadCells ⟨b, o, none⟩ (xs.length * sz)).run P w = .ok (List.toArray cells) w ∧ cells.length = xs.length * sz ∧
    ∀ (j : Nat) (e : V) (q : Nat) (y : V), new[j]? = some e → e.cells[q]? = some y → ∃ y', cells[j * sz + q]? = some y' ∧ VRel g w y y' := by
  intro b o cell hc hr
  have hl := run_loadCells (P := P) w ⟨b, o, none⟩ (xs.length * sz) cell (fun j hj => by rw [fU]; exact hc j hj)
  refine ⟨(List.range (xs.length * sz)).map cell, hl, by simp, fun j e q y hj hy => ?_⟩
  obtain ⟨v, h1, rfl, h3, h4⟩ := get j e hj
  obtain ⟨hlt, _⟩ := List.getElem?_eq_some_iff.1 h1
  obtain ⟨hq, _⟩ := List.getElem?_eq_some_iff.1 hy
  have hk := pa (sz := sz) hlt (show q < sz by omega)
  refine ⟨cell (j * sz + q), by simp [hk], ?_⟩
  rw [oZ, List.getElem?_map] at hy
  cases hv : v.cells[q]? with
  | none => simp [hv] at hy
  | some u => simp [hv] at hy; subst hy; exact nA (hr j v q u h1 hv)
 have lists : ∀ es, elemsV H x = some es → VRel g w (.list es) x' → ∃ a cap cells, x' = .slice a xs.length cap ∧ (Builtin.firstCells sz xs.length x').run P w = .ok (List.toArray cells) w ∧ cells.length = xs.length * sz ∧
   ∀ (j : Nat) (e : V) (q : Nat) (y : V), new[j]? = some e → e.cells[q]? = some y → ∃ y', cells[j * sz + q]? = some y' ∧ VRel g w y y' := by
  intro es he2 hx
  rw [he2] at he; cases he
  cases hx with
  | listNil =>
   refine ⟨none, 0, [], rfl, by simp [Builtin.firstCells], by simp, fun j e q y hj => ?_⟩
   simp at k1; rw [k1] at hj; simp at hj
  | listZ a =>
   refine ⟨some a, 0, [], rfl, by simp [Builtin.firstCells, loadCells, loadCellsFrom], by simp, fun j e q y hj => ?_⟩
   simp at k1; rw [k1] at hj; simp at hj
  | list b o cap s _ c hlen hpure hs hO hc hr =>
   by_cases h0 : xs.length = 0
   ·have hxs : xs = [] := List.eq_nil_of_length_eq_zero h0
    subst hxs
    have hl := run_loadCells (P := P) w ⟨b, o, none⟩ 0 (fun _ => Go.undef) (fun j hj => by omega)
    refine ⟨some ⟨b, o, none⟩, cap, [], rfl, by simpa [Builtin.firstCells] using hl, by simp, fun j e q y hj => ?_⟩
    simp at k1; rw [k1] at hj; simp at hj
   ·have hs0 : s = sz := by
     have e1 : xs[0]? = some (xs[0]'(by omega)) := by simp
     rw [← hs 0 _ e1, xsz 0 _ e1]
    subst hs0
    by_cases hsz : s = 0
    ·subst hsz
     obtain ⟨cells, r1, r2, r3⟩ := row b o (fun _ => Go.undef) (fun k hk => by omega) (fun j e q y hj hy => by
      obtain ⟨hq, _⟩ := List.getElem?_eq_some_iff.1 hy
      have := xsz j e hj; omega)
     exact ⟨_, _, cells, rfl, by simpa [Builtin.firstCells] using r1, r2, r3⟩
    ·obtain ⟨cells, r1, r2, r3⟩ := row b o (fun k => c (k / s) (k % s)) (fun k hk => by
      have h1 : k / s < xs.length := by rw [Nat.div_lt_iff_lt_mul (by omega)]; exact hk
      have h2 : k % s < s := Nat.mod_lt _ (by omega)
      have := hc (k / s) (k % s) h1 h2
      rwa [Nat.add_assoc, Nat.div_add_mod'] at this) (fun j e q y hj hy => by
      obtain ⟨hq, _⟩ := List.getElem?_eq_some_iff.1 hy
      have hq2 : q < s := by have := xsz j e hj; omega
      have e1 : (j * s + q) / s = j := by rw [Nat.mul_comm, Nat.mul_add_div (by omega), Nat.div_eq_of_lt hq2, Nat.add_zero]
      have e2 : (j * s + q) % s = q := by rw [Nat.mul_comm, Nat.mul_add_mod, Nat.mod_eq_of_lt hq2]
      rw [e1, e2]; exact hr j e q y hj hy)
     exact ⟨_, _, cells, rfl, by simpa [Builtin.firstCells] using r1, r2, r3⟩
 cases x with
 | nilS =>
  simp [elemsV] at he; subst he
  cases hx
  refine ⟨none, 0, [], rfl, by simp [Builtin.firstCells], by simp, fun j e q y hj => ?_⟩
  simp at k1; rw [k1] at hj; simp at hj
 | list es => exact lists es rfl hx
 | tl t es => exact lists es rfl (eC hx)
 | ref s id ver off len =>
  simp only [elemsV] at he
  cases hH : H[id]? with
  | none => simp [hH] at he
  | some ob =>
   cases ob with
   | arr es v0 =>
    simp only [hH] at he
    split at he
    ·rename_i hc
     obtain ⟨rfl, hle⟩ := hc
     cases he
     cases hx with
     | ref _ _ _ _ _ cap b o s' ext ver' b' o' hφ hv hlen hcur =>
      obtain ⟨rfl, hext, hs, hown, hcell⟩ := mv hS hH hφ
      obtain ⟨rfl, h6⟩ := hcur rfl
      have hL : ((es.drop off).take len).length = len := by simp; omega
      by_cases h0 : len = 0
      ·subst h0
       have hl := run_loadCells (P := P) w ⟨b', o', none⟩ 0 (fun _ => Go.undef) (fun j hj => by omega)
       refine ⟨some ⟨b', o', none⟩, cap, [], by simp, by simpa [Builtin.firstCells] using hl, by simp, fun j e q y hj => ?_⟩
       simp at k1; rw [k1] at hj; simp at hj
      ·obtain ⟨rfl, rfl, h7⟩ := h6 (by omega)
       have elem : ∀ (j : Nat) (e : V), ((es.drop off).take len)[j]? = some e → j < len ∧ es[off + j]? = some e := fun j e hj => by
        obtain ⟨hlt, _⟩ := List.getElem?_eq_some_iff.1 hj
        rw [hL] at hlt
        rw [List.getElem?_take_of_lt hlt, List.getElem?_drop] at hj
        exact ⟨hlt, hj⟩
       have hs0 : s' = sz := by
        have e1 := List.getElem?_eq_getElem (show 0 < ((es.drop off).take len).length by omega)
        rw [← hs _ _ (elem 0 _ e1).2, xsz 0 _ e1]
       subst hs0
       obtain ⟨cells, r1, r2, r3⟩ := row b' (o + off * s') (fun k => (w.cell? ⟨b', o + off * s' + k, none⟩).getD Go.undef) (fun k hk => by
        have hb : off * s' + k < ext := by
         have : (off + len) * s' ≤ es.length * s' := Nat.mul_le_mul_right s' hle
         rw [Nat.add_mul] at this
         rw [hL] at hk; omega
        obtain ⟨_, _, y, hy⟩ := hown (off * s' + k) hb
        rw [← Nat.add_assoc] at hy
        simp [hy]) (fun j e q y hj hy => by
        obtain ⟨hlt, hj2⟩ := elem j e hj
        obtain ⟨y', e1, e2⟩ := hcell (off + j) e q y hj2 hy
        rw [Nat.add_mul, ← Nat.add_assoc] at e1
        rw [← Nat.add_assoc]
        simpa [e1] using e2)
       refine ⟨_, cap, cells, by rw [hL], ?_, r2, r3⟩
       simpa [Builtin.firstCells] using r1
    ·cases he
   | _ => simp [hH] at he
 | _ => simp [elemsV] at he
end
end Go.E
namespace Go.E
section
variable {P : Program} {g : G} {w : World} {bs : List Nat} {H : Heap}
theorem ut (n M : Nat) (hM : n + (n + 768) / 4 ≤ M) : ∀ (r c : Nat), c ≤ M → Builtin.growBy n r c ≤ M
 | 0, c, h => by simpa [Builtin.growBy] using h
 | r + 1, c, h => by
  simp only [Builtin.growBy]
  split
  ·exact h
  ·exact ut n M hM r _ (by omega)
theorem vO {need cap : Nat} (h : cap < need) : Builtin.nextslicecap need cap ≤ 3 * need := by
 unfold Builtin.nextslicecap
 split
 ·omega
 ·split
  ·omega
  ·exact ut need _ (by omega) _ _ (by omega)
theorem uu {es : List V} {x' : Value} {sz : Nat} (hx : VRel g w (.list es) x') (hsz : ∀ (j : Nat) (e : V), es[j]? = some e → e.cells.length = sz) (w1 : World)
    (hcell : ∀ b o, g.O b o = .imm → w1.cell? ⟨b, o, none⟩ = w.cell? ⟨b, o, none⟩) :
    ∃ cells, (Builtin.firstCells sz es.length x').run P w1 = .ok (List.toArray cells) w1 ∧ cells.length = es.length * sz ∧
      ∀ (j : Nat) (e : V) (q : Nat) (y : V), es[j]? = some e → e.cells[q]? = some y → ∃ y', cells[j * sz + q]? = some y' ∧ VRel g w y y' := by
  cases hx with
  | listNil => exact ⟨[], by simp [Builtin.firstCells], by simp, fun j e q y hj => by simp at hj⟩
  | listZ a => exact ⟨[], by simp [Builtin.firstCells, loadCells, loadCellsFrom], by simp, fun j e q y hj => by simp at hj⟩
  | list b o cap s _ c hlen hpure hs hO hc hr =>
    by_cases h0 : es.length = 0
    · have hxs : es = [] := List.eq_nil_of_length_eq_zero h0
      subst hxs
      have hl := run_loadCells (P := P) w1 ⟨b, o, none⟩ 0 (fun _ => Go.undef) (fun j hj => by omega)
      exact ⟨[], by simpa [Builtin.firstCells] using hl, by simp, fun j e q y hj => by simp at hj⟩
    · have hs0 : s = sz := by
        have e1 : es[0]? = some (es[0]'(by omega)) := by simp
        rw [← hs 0 _ e1, hsz 0 _ e1]
      subst hs0
      have hl := run_loadCells (P := P) w1 ⟨b, o, none⟩ (es.length * s) (fun k => c (k / s) (k % s)) (fun k hk => by
        have hsp : 0 < s := by rcases Nat.eq_zero_or_pos s with h | h; · rw [h] at hk; omega
                               · exact h
        have h1 : k / s < es.length := by rw [Nat.div_lt_iff_lt_mul hsp]; exact hk
        have h2 : k % s < s := Nat.mod_lt _ hsp
        have := hc (k / s) (k % s) h1 h2
        rw [← hcell _ _ (hO (k / s) (k % s) h1 h2)] at this
        rwa [Nat.add_assoc, Nat.div_add_mod', ← fU] at this)
      refine ⟨_, by simpa [Builtin.firstCells] using hl, by simp, fun j e q y hj hy => ?_⟩
      obtain ⟨hlt, _⟩ := List.getElem?_eq_some_iff.1 hj
      obtain ⟨hq, _⟩ := List.getElem?_eq_some_iff.1 hy
      have hq2 : q < s := by have := hsz j e hj; omega
      refine ⟨c j q, ?_, hr j e q y hj hy⟩
      have hk := pa (sz := s) hlt hq2
      have e1 : (j * s + q) / s = j := by rw [Nat.mul_comm, Nat.mul_add_div (by omega), Nat.div_eq_of_lt hq2, Nat.add_zero]
      have e2 : (j * s + q) % s = q := by rw [Nat.mul_comm, Nat.mul_add_mod, Nat.mod_eq_of_lt hq2]
      simp [hk, e1, e2]
theorem kI {es : List V} {x' : Value} {sz : Nat} (hx : VRel g w (.list es) x') (hsz : ∀ (j : Nat) (e : V), es[j]? = some e → e.cells.length = sz) (w1 : World) (hw : w1.heap = w.heap) :
  ∃ cells, (Builtin.firstCells sz es.length x').run P w1 = .ok (List.toArray cells) w1 ∧ cells.length = es.length * sz ∧
   ∀ (j : Nat) (e : V) (q : Nat) (y : V), es[j]? = some e → e.cells[q]? = some y → ∃ y', cells[j * sz + q]? = some y' ∧ VRel g w y y' :=
 uu hx hsz w1 fun _ _ _ => by unfold World.cell?; rw [hw]
theorem sc (hS : Sim bs g H w) (d : Nat) (hd : w.drawn ≤ d) : Out bs g w H g { w with drawn := d } H := by
 have x : Ext g w g { w with drawn := d } := ⟨Nat.le_refl _, fun _ _ h => ⟨h, rfl⟩, fun _ l h => ⟨l, h, LocLe.refl l⟩, fun _ _ _ => ⟨rfl, fun _ => rfl⟩, rfl, rfl, rfl, hd⟩
 exact ⟨⟨hS.bl, hS.srt, hS.dom, hS.old, fun id ob l h1 h2 => (hS.obj id ob l h1 h2).keep x ⟨fun _ _ h => h, fun _ _ _ => ⟨rfl, rfl⟩, fun _ _ _ _ h => h⟩, hS.und⟩, x, Nat.le_refl _, fun id => ⟨.inl, fun h => h.resolve_right (by omega)⟩⟩
theorem tQ {es : List V} {s : Nat} {b o cap : Nat} {g1 : G} {w1 : World} (cell : Nat → Value) (hcap : es.length ≤ cap) (hes : ∀ (j : Nat) (e : V), es[j]? = some e → e.cells.length = s)
  (hp : V.pureL es = true) (hw : ∀ k, k < es.length * s → g1.O b (o + k) = .imm ∧ w1.cell? ⟨b, o + k, none⟩ = some (cell k))
  (hr : ∀ (j : Nat) (e : V) (q : Nat) (y : V), es[j]? = some e → e.cells[q]? = some y → VRel g1 w1 y (cell (j * s + q))) :
  VRel g1 w1 (.list es) (.slice (some ⟨b, o, none⟩) es.length cap) :=
 .list b o cap s es (fun j i => cell (j * s + i)) hcap hp hes (fun j i hj hi => by rw [Nat.add_assoc]; exact (hw _ (pa hj hi)).1)
  (fun j i hj hi => by rw [Nat.add_assoc]; exact (hw _ (pa hj hi)).2) hr
theorem mJ : ∀ (a b : List V), V.pureL (a ++ b) = (V.pureL a && V.pureL b)
 | [], b => by simp [V.pureL]
 | v :: r, b => by simp [V.pureL, mJ r b, Bool.and_assoc]
theorem gp (es new : List V) (j : Nat) (e : V) (h : (es ++ new)[j]? = some e) : (j < es.length ∧ es[j]? = some e) ∨ (es.length ≤ j ∧ j - es.length < new.length ∧ new[j - es.length]? = some e) := by
 by_cases hj : j < es.length
 ·left; rw [List.getElem?_append_left hj] at h; exact ⟨hj, h⟩
 ·right
  rw [List.getElem?_append_right (by omega)] at h
  obtain ⟨h1, _⟩ := List.getElem?_eq_some_iff.1 h
  exact ⟨by omega, h1, h⟩
theorem je (hS : Sim bs g H w) {t u e e2 ty sz by_ : Nat} {es xs new : List V} {x : V} {x' s' : Value} {a : Option Addr} {sCap : Nat} {z : V}
  (ht : P.underlying t = some (.slice e)) (hu : P.underlying u = some (.slice e2)) (hsz : sizeT P e = some sz) (hby : bytesT P e = some by_) (hz : zeroT P e = some z)
  (hzl : z.cells.length = sz) (hzc : z.cells.all V.isCell = true) (hb0 : by_ ≠ 0)
  (hs' : s' = .slice a es.length sCap) (hrow : ∃ co, (Builtin.firstCells sz es.length s').run P { w with drawn := w.drawn + 1 } = .ok (List.toArray co) { w with drawn := w.drawn + 1 } ∧ co.length = es.length * sz ∧ ∀ (j : Nat) (e : V) (q : Nat) (y : V), es[j]? = some e → e.cells[q]? = some y → ∃ y', co[j * sz + q]? = some y' ∧ VRel g w y y') (hx : VRel g w x x') (hxe : elemsV H x = some xs) (hnew : takeElems sz xs = some new)
  (hroom : (es.length + new.length) * by_ ≤ roomB) (hgrow : sCap < es.length + new.length) :
  ∃ newCap w1, es.length + new.length ≤ newCap ∧ w1.heap = w.heap ∧ Out bs g w H g w1 H ∧ ∃ cells : Array Value, cells.size = newCap * sz ∧
   (Builtin.append_ #[t, u] ty #[s', x']).run P w = .ok (.slice (some ⟨w.heap.size, 0, none⟩) (es.length + new.length) newCap) { w1 with heap := w1.heap.push (.cells cells e) } ∧
   ∀ (j : Nat) (e : V) (q : Nat) (y : V), (es ++ new)[j]? = some e → e.cells[q]? = some y → ∃ y', cells[j * sz + q]? = some y' ∧ VRel g w y y' := by
 subst hs'
 obtain ⟨i, hi, hib, his⟩ := yd hsz hby
 obtain ⟨zv, hzv, hzr⟩ := jE hz
 obtain ⟨hr1, _⟩ := gT (g := g) (w := w) (by rw [hzv]; exact iF zv : VRel g w z zv) (iG hzc)
 unfold roomB at hroom
 have hnl : new.length = xs.length := (al hnew).1
 generalize hq : Question.appendCap (es.length + new.length) sCap e = Q
 have hcut : ∃ nc, Q.cut (w.tape w.drawn Q) = nc ∧ es.length + new.length ≤ nc := by
  rw [← hq]; exact ⟨_, rfl, Nat.le_add_right _ _⟩
 obtain ⟨nc, hnc, hle⟩ := hcut
 have o1 := sc hS (w.drawn + 1) (Nat.le_succ _)
 obtain ⟨a2, cap2, cx, rfl, rx, cxl, crel⟩ := qv (P := P) o1.sim (hx.mono o1.ext) hxe hnew
 obtain ⟨co, ro, col, orel⟩ := hrow
 have hns : ¬ (Builtin.nextslicecap (es.length + xs.length) sCap * by_ > 2 ^ 48) := by
  have h1 := vO (need := es.length + xs.length) (cap := sCap) (by omega)
  have h2 : Builtin.nextslicecap (es.length + xs.length) sCap * by_ ≤ 3 * (es.length + xs.length) * by_ := Nat.mul_le_mul_right by_ h1
  rw [Nat.mul_assoc, ← hnl] at h2
  rw [← hnl]
  omega
 have hrest : (Builtin.zeroCells zv.cells (nc - (es.length + xs.length))).size = (nc - (es.length + xs.length)) * sz := by
  simp [Builtin.zeroCells]; rw [hr1, hzl]
 rw [hnl] at hq hle ⊢
 refine ⟨nc, { w with drawn := w.drawn + 1 }, by omega, rfl, o1, co.toArray ++ cx.toArray ++ Builtin.zeroCells zv.cells (nc - (es.length + xs.length)), ?_, ?_, ?_⟩
 ·simp only [Array.size_append, List.size_toArray, hrest, col, cxl]
  rw [← Nat.add_mul, ← Nat.add_mul]
  congr 1; omega
 ·have c1 : ¬ (es.length + xs.length ≤ sCap) := by omega
  have hforced : Q.forced = false := by rw [← hq]; rfl
  have hns' : ¬ (281474976710656 < Builtin.nextslicecap (es.length + xs.length) sCap * by_) := by
   have e1 : (2 : Nat) ^ 48 = 281474976710656 := by decide
   rw [e1] at hns; exact hns
  have ro' : (Builtin.firstCells sz es.length (Value.slice a es.length sCap)).run P w.drew = .ok co.toArray w.drew := ro
  have rx' : (Builtin.firstCells sz xs.length (Value.slice a2 xs.length cap2)).run P w.drew = .ok cx.toArray w.drew := rx
  simp [Builtin.append_, run_underlying ht, aD hsz, run_underlying hu, Builtin.lenOf, c1, mH hi, hib, hb0, hns', hq, hforced, hnc, ro', rx', hzr, newRow]
  have hco : ∀ Z : Array Value, (co ++ cx).toArray ++ Z = co.toArray ++ (cx.toArray ++ Z) := fun Z => Array.ext' (by simp)
  rw [hco]
  rfl
 ·intro j e' q y hj hy
  rcases gp es new j e' hj with ⟨hlt, h1⟩ | ⟨hge, hlt, h1⟩
  ·obtain ⟨y', e1, e2⟩ := orel j e' q y h1 hy
   obtain ⟨hk, _⟩ := List.getElem?_eq_some_iff.1 e1
   refine ⟨y', ?_, e2⟩
   rw [Array.append_assoc, Array.getElem?_append_left (by simpa using hk)]
   simpa using e1
  ·obtain ⟨y', e1, e2⟩ := crel (j - es.length) e' q y h1 hy
   obtain ⟨hk, _⟩ := List.getElem?_eq_some_iff.1 e1
   have hjs : j * sz + q = es.length * sz + ((j - es.length) * sz + q) := by
    rw [← Nat.add_assoc, ← Nat.add_mul]; congr 2; omega
   refine ⟨y', ?_, by
    have hxx : Bears g { w with drawn := w.drawn + 1 } g w := ⟨fun _ _ h => ⟨h, rfl⟩, fun _ l h => ⟨l, h, LocLe.refl l⟩⟩
    exact e2.bear hxx⟩
   rw [hjs, Array.append_assoc, Array.getElem?_append_right (by simp; omega), Array.getElem?_append_left (by simp [col]; omega)]
   simp [col]
   simpa using e1
def G.grow (g : G) (B h id : Nat) (l : Loc) : G := g.lay B (fun k => if k < h then .imm else .res id) id (some l)
theorem sd (hS : Sim bs g H w) (o : Obj) (h id : Nat) (l : Loc) (hle : ∀ l', g.φ id = some l' → LocLe l' l) : Ext g w (g.grow w.heap.size h id l) { w with heap := w.heap.push o } where
 size := by simp
 imm b k hk := by
  have hb : b ≠ w.heap.size := by have := hS.old b k (by rw [hk]; simp); omega
  exact ⟨by simp [G.grow, G.lay, hb, hk], gH o k hb⟩
 loc i l' hl := by
  by_cases e : i = id
  ·subst e; exact ⟨l, by simp [G.grow, G.lay], hle l' hl⟩
  ·exact ⟨l', by simp [G.grow, G.lay, e, hl], LocLe.refl _⟩
 free b hb _ := ⟨fZ o (by omega), fun k => by simp [G.grow, G.lay, show b ≠ w.heap.size by omega]⟩
 os := rfl
 tape := rfl
 output := rfl
 drawn := Nat.le_refl _
theorem vP (hS : Sim bs g H w) (o : Obj) (tk n s cap : Nat) (hl : H[tk]? = none → tk = H.length) (hdom : g.φ tk = none → tk = H.length) (hle : ∀ l', g.φ tk = some l' → LocLe l' (.tok (some (w.heap.size, 0)) s cap n)) (H' : Heap)
  (hH : (tk = H.length ∧ H' = H ++ [.tok n]) ∨ (tk < H.length ∧ g.φ tk ≠ none ∧ H' = H.set tk (.tok n))) (hn : n ≤ cap) (hn0 : n = 0 → cap = 0)
  (hc : ∀ k, k < cap * s → ∃ v, ({ w with heap := w.heap.push o } : World).cell? ⟨w.heap.size, k, none⟩ = some v) (hf : ∀ k, ({ w with heap := w.heap.push o } : World).frozen? ⟨w.heap.size, k, none⟩ = false) :
  Out bs g w H (g.grow w.heap.size (n * s) tk (.tok (some (w.heap.size, 0)) s cap n)) { w with heap := w.heap.push o } H' := by
 have x := sd hS o (n * s) tk _ hle
 have keep : ∀ id, id ≠ tk → Keep id g w (g.grow w.heap.size (n * s) tk (.tok (some (w.heap.size, 0)) s cap n)) { w with heap := w.heap.push o } := fun id _ => by
  refine ⟨fun b k h => ?_, fun b k h => ?_, fun b es c h hh => ?_⟩
  ·have hb : b ≠ w.heap.size := by have := hS.old b k (by rw [h]; simp); omega
   simp [G.grow, G.lay, hb, h]
  ·have hb : b ≠ w.heap.size := by have := hS.old b k (by rw [h]; simp); omega
   exact ⟨gH o k hb, kG o k hb⟩
  ·have hb : b ≠ w.heap.size := by have := hS.old b 0 (by rw [h]; simp); omega
   rw [fZ o hb]; exact hh
 have hlen : H.length ≤ H'.length := by rcases hH with ⟨_, rfl⟩ | ⟨_, _, rfl⟩ <;> simp
 have htk : tk < H'.length := by rcases hH with ⟨rfl, rfl⟩ | ⟨h, _, rfl⟩ <;> simp; exact h
 have hget : ∀ id, id ≠ tk → H'[id]? = H[id]? ∨ H.length < id := fun id hne => by
  rcases hH with ⟨rfl, rfl⟩ | ⟨h, _, rfl⟩
  ·by_cases hlt : id < H.length
   ·exact .inl (List.getElem?_append_left hlt)
   ·exact .inr (by omega)
  ·exact .inl (List.getElem?_set_ne (Ne.symm hne))
 have htok : H'[tk]? = some (.tok n) := by
  rcases hH with ⟨rfl, rfl⟩ | ⟨h, _, rfl⟩
  ·simp
  ·simp [h]
 have hbig : ∀ id, H.length < id → H'[id]? = none := fun id hlt => by
  rcases hH with ⟨rfl, rfl⟩ | ⟨h, _, rfl⟩ <;> (apply List.getElem?_eq_none; simp; omega)
 refine ⟨⟨by have := hS.bl; omega, hS.srt, fun id hid => ?_, fun b k hk => ?_, fun id ob l h1 h2 => ?_, fun id ob h2 hm2 => ?_⟩, x, hlen, fun id => ?_⟩
 ·by_cases e : id = tk
  ·rw [e]; exact htk
  ·have : g.φ id ≠ none := by simpa [G.grow, G.lay, e] using hid
   have := hS.dom id this; omega
 ·simp [G.grow, G.lay] at hk ⊢
  by_cases e : b = w.heap.size
  ·omega
  ·simp [e] at hk; have := hS.old b k hk; omega
 ·by_cases e : id = tk
  ·subst e
   rw [htok] at h1; cases h1
   simp [G.grow, G.lay] at h2; subst h2
   refine .tok _ _ 0 _ _ hn hn0 (fun k h3 h4 => ⟨?_, hf _, ?_⟩)
   ·simp [G.grow, G.lay, show ¬ (k < n * s) by omega]
   ·rw [Nat.zero_add]; exact hc k h4
  ·rcases hget id e with h3 | h3
   ·rw [h3] at h1
    have h2' : g.φ id = some l := by simpa [G.grow, G.lay, e] using h2
    exact (hS.obj id ob l h1 h2').keep x (keep id e)
   ·rw [hbig id h3] at h1; cases h1
 ·by_cases e : id = tk
  ·subst e; rw [htok] at h2; cases h2; exact fun b _ => .inr rfl
  ·rcases hget id e with h3 | h3
   ·rw [h3] at h2; exact hS.und id ob h2 (by simpa [G.grow, G.lay, e] using hm2)
   ·rw [hbig id h3] at h2; cases h2
 ·by_cases e : id = tk
  ·subst e
   have h1 : (g.grow w.heap.size (n * s) id (.tok (some (w.heap.size, 0)) s cap n)).φ id ≠ none := by simp [G.grow, G.lay]
   refine ⟨fun _ => ?_, fun _ => h1⟩
   rcases hH with ⟨rfl, rfl⟩ | ⟨h, h2, rfl⟩
   ·right; simp
   ·exact .inl h2
  ·have h1 : (g.grow w.heap.size (n * s) tk (.tok (some (w.heap.size, 0)) s cap n)).φ id = g.φ id := by simp [G.grow, G.lay, e]
   rw [h1]
   refine ⟨.inl, fun h => ?_⟩
   rcases h with h | h
   ·exact h
   ·exfalso
    rcases hH with ⟨rfl, rfl⟩ | ⟨h2, _, rfl⟩
    ·simp at h; omega
    ·simp at h; omega
theorem Aa (hS : Sim bs g H w) (o : Obj) (h0 tk : Nat) (ob0 : HObj) (l0 : Loc) (hdom : g.φ tk = none → tk = H.length) (hle : ∀ l', g.φ tk = some l' → LocLe l' l0) (H' : Heap)
  (hH : (tk = H.length ∧ H' = H ++ [ob0]) ∨ (tk < H.length ∧ g.φ tk ≠ none ∧ H' = H.set tk ob0)) (hor : ORel (g.grow w.heap.size h0 tk l0) { w with heap := w.heap.push o } tk ob0 l0) (hun : okObj bs tk ob0) :
  Out bs g w H (g.grow w.heap.size h0 tk l0) { w with heap := w.heap.push o } H' := by
 have x := sd hS o h0 tk _ hle
 have keep : ∀ id, id ≠ tk → Keep id g w (g.grow w.heap.size h0 tk l0) { w with heap := w.heap.push o } := fun id _ => by
  refine ⟨fun b k h => ?_, fun b k h => ?_, fun b es c h hh => ?_⟩
  ·have hb : b ≠ w.heap.size := by have := hS.old b k (by rw [h]; simp); omega
   simp [G.grow, G.lay, hb, h]
  ·have hb : b ≠ w.heap.size := by have := hS.old b k (by rw [h]; simp); omega
   exact ⟨gH o k hb, kG o k hb⟩
  ·have hb : b ≠ w.heap.size := by have := hS.old b 0 (by rw [h]; simp); omega
   rw [fZ o hb]; exact hh
 have hlen : H.length ≤ H'.length := by rcases hH with ⟨_, rfl⟩ | ⟨_, _, rfl⟩ <;> simp
 have htk : tk < H'.length := by rcases hH with ⟨rfl, rfl⟩ | ⟨h, _, rfl⟩ <;> simp; exact h
 have hget : ∀ id, id ≠ tk → H'[id]? = H[id]? ∨ H.length < id := fun id hne => by
  rcases hH with ⟨rfl, rfl⟩ | ⟨h, _, rfl⟩
  ·by_cases hlt : id < H.length
   ·exact .inl (List.getElem?_append_left hlt)
   ·exact .inr (by omega)
  ·exact .inl (List.getElem?_set_ne (Ne.symm hne))
 have htok : H'[tk]? = some ob0 := by
  rcases hH with ⟨rfl, rfl⟩ | ⟨h, _, rfl⟩
  ·simp
  ·simp [h]
 have hbig : ∀ id, H.length < id → H'[id]? = none := fun id hlt => by
  rcases hH with ⟨rfl, rfl⟩ | ⟨h, _, rfl⟩ <;> (apply List.getElem?_eq_none; simp; omega)
 refine ⟨⟨by have := hS.bl; omega, hS.srt, fun id hid => ?_, fun b k hk => ?_, fun id ob l h1 h2 => ?_, fun id ob h2 hm2 => ?_⟩, x, hlen, fun id => ?_⟩
 ·by_cases e : id = tk
  ·rw [e]; exact htk
  ·have : g.φ id ≠ none := by simpa [G.grow, G.lay, e] using hid
   have := hS.dom id this; omega
 ·simp [G.grow, G.lay] at hk ⊢
  by_cases e : b = w.heap.size
  ·omega
  ·simp [e] at hk; have := hS.old b k hk; omega
 ·by_cases e : id = tk
  ·subst e
   rw [htok] at h1; cases h1
   simp [G.grow, G.lay] at h2; subst h2
   exact hor
  ·rcases hget id e with h3 | h3
   ·rw [h3] at h1
    have h2' : g.φ id = some l := by simpa [G.grow, G.lay, e] using h2
    exact (hS.obj id ob l h1 h2').keep x (keep id e)
   ·rw [hbig id h3] at h1; cases h1
 ·by_cases e : id = tk
  ·subst e; rw [htok] at h2; cases h2; exact hun
  ·rcases hget id e with h3 | h3
   ·rw [h3] at h2; exact hS.und id ob h2 (by simpa [G.grow, G.lay, e] using hm2)
   ·rw [hbig id h3] at h2; cases h2
 ·by_cases e : id = tk
  ·subst e
   have h1 : (g.grow w.heap.size h0 id l0).φ id ≠ none := by simp [G.grow, G.lay]
   refine ⟨fun _ => ?_, fun _ => h1⟩
   rcases hH with ⟨rfl, rfl⟩ | ⟨h, h2, rfl⟩
   ·right; simp
   ·exact .inl h2
  ·have h1 : (g.grow w.heap.size h0 tk l0).φ id = g.φ id := by simp [G.grow, G.lay, e]
   rw [h1]
   refine ⟨.inl, fun h => ?_⟩
   rcases h with h | h
   ·exact h
   ·exfalso
    rcases hH with ⟨rfl, rfl⟩ | ⟨h2, _, rfl⟩
    ·simp at h; omega
    ·simp at h; omega
end
end Go.E
namespace Go.E
section
variable {P : Program} {g : G} {w : World} {bs : List Nat} {H : Heap}
theorem pb {es : List V} {s' : Value} (h : VRel g w (.list es) s') : ∃ a cap, s' = .slice a es.length cap ∧ es.length ≤ cap := by
 cases h with
 | listNil => exact ⟨none, 0, rfl, Nat.le_refl _⟩
 | listZ a => exact ⟨_, 0, rfl, Nat.le_refl _⟩
 | list b o cap s es c hlen hpure hs hO hc hr => exact ⟨_, cap, rfl, hlen⟩
theorem iw {t u e e2 ty sz L cap : Nat} {a : Option Addr} {x' : Value} {cells : List Value} {a2 : Option Addr} {cap2 : Nat}
  (ht : P.underlying t = some (.slice e)) (hu : P.underlying u = some (.slice e2)) (hsz : sizeT P e = some sz) (hle : L ≤ cap)
  (hx : x' = .slice a2 0 cap2) (hr : (Builtin.firstCells sz 0 x').run P w = .ok cells.toArray w) (hl : cells.length = 0) :
  (Builtin.append_ #[t, u] ty #[.slice a L cap, x']).run P w = .ok (.slice a L cap) w := by
 subst hx
 have hc : cells = [] := List.eq_nil_of_length_eq_zero hl
 subst hc
 cases a <;> simp [Builtin.append_, run_underlying ht, aD hsz, run_underlying hu, Builtin.lenOf, hle, hr, storeCells]
theorem qw {t u e e2 ty sz L n cap b o : Nat} {x' : Value} {cells : List Value} {a2 : Option Addr} {cap2 : Nat}
  (ht : P.underlying t = some (.slice e)) (hu : P.underlying u = some (.slice e2)) (hsz : sizeT P e = some sz) (hle : L + n ≤ cap)
  (hx : x' = .slice a2 n cap2) (hr : (Builtin.firstCells sz n x').run P w = .ok cells.toArray w)
  (hc : ∀ j, j < cells.length → (w.cell? ⟨b, o + L * sz + j, none⟩).isSome = true) (hf : ∀ j, j < cells.length → w.frozen? ⟨b, o + L * sz + j, none⟩ = false) (h1 : ∀ v ∈ cells, v.oneCell' = true) :
  (Builtin.append_ #[t, u] ty #[.slice (some ⟨b, o, none⟩) L cap, x']).run P w = .ok (.slice (some ⟨b, o, none⟩) (L + n) cap) (w.setCells b (o + L * sz) cells) := by
 subst hx
 have hst := run_storeCells_cells (P := P) b (o + L * sz) cells 0 w (by simpa using hc) (by simpa using hf) h1
 simp [Builtin.append_, run_underlying ht, aD hsz, run_underlying hu, Builtin.lenOf, hle, hr, fU, hst]
theorem nE {sz : Nat} {es new xs : List V} (hnew : takeElems sz xs = some new) (hes : V.pureL es = true) : V.pureL (es ++ new) = true := by
 rw [mJ, hes, kW (fun e he => ((al hnew).2.1 e he).2.1)]; rfl
theorem sV {g1 : G} {w2 : World} {es new xs : List V} {sz nc : Nat} {cells : Array Value} {B tk : Nat} {l : Loc} {w1 : World} (e : TypeId) (hw2 : w2 = { w1 with heap := w1.heap.push (.cells cells e) }) (hB : B = w1.heap.size)
  (hg : g1 = g.grow B ((es.length + new.length) * sz) tk l) (hx : Ext g w g1 w2) (hes : ∀ (j : Nat) (e : V), es[j]? = some e → e.cells.length = sz) (hp : V.pureL es = true) (hnew : takeElems sz xs = some new)
  (hnc : es.length + new.length ≤ nc) (hsize : cells.size = nc * sz)
  (hr : ∀ (j : Nat) (e : V) (q : Nat) (y : V), (es ++ new)[j]? = some e → e.cells[q]? = some y → ∃ y', cells[j * sz + q]? = some y' ∧ VRel g w y y') :
  VRel g1 w2 (.list (es ++ new)) (.slice (some ⟨B, 0, none⟩) (es.length + new.length) nc) := by
 have hl : (es ++ new).length = es.length + new.length := by simp
 rw [← hl]
 refine tQ (s := sz) (fun k => cells[k]?.getD Go.undef) (by omega) (fun j e' hj => ?_) (nE hnew hp) (fun k hk => ⟨?_, ?_⟩) (fun j e' q y hj hy => ?_)
 ·rcases gp es new j e' hj with ⟨_, h1⟩ | ⟨_, _, h1⟩
  ·exact hes j e' h1
  ·exact ((al hnew).2.1 e' (List.mem_of_getElem? h1)).1
 ·rw [hl] at hk; subst hg; simp [G.grow, G.lay, hk]
 ·rw [hl] at hk
  have hk2 : k < cells.size := by
   have : (es.length + new.length) * sz ≤ nc * sz := Nat.mul_le_mul_right sz hnc
   omega
  subst hw2; subst hB
  rw [Nat.zero_add, aV]; simp [hk2]
 ·obtain ⟨y', e1, e2⟩ := hr j e' q y hj hy
  rw [e1]; exact e2.mono hx
theorem ye {id n n' : Nat} {tb : Option (Nat × Nat)} {s cap : Nat} (h : ORel g w id (.tok n) (.tok tb s cap n')) :
  n = n' ∧ (tb = none → n = 0 ∧ cap = 0) ∧ ∀ b o, tb = some (b, o) → n ≤ cap ∧ (n = 0 → cap = 0) ∧
   ∀ k, n * s ≤ k → k < cap * s → g.O b (o + k) = .res id ∧ w.frozen? ⟨b, o + k, none⟩ = false ∧ ∃ v', w.cell? ⟨b, o + k, none⟩ = some v' := by
 cases h with
 | tokNil _ => exact ⟨rfl, fun _ => ⟨rfl, rfl⟩, fun b o h => (by cases h)⟩
 | tok _ b o _ _ hcap h0 h => exact ⟨rfl, fun h => (by cases h), fun b' o' e => (by cases e; exact ⟨hcap, h0, h⟩)⟩
theorem pureU (n : Nat) {v : V} (h : v.pure = true) : v.under n = true := by
 have key : ∀ v : V, v.pure = true → v.under n = true := by
  intro v
  induction v using V.rec (motive_2 := fun l => V.pureL l = true → V.underL n l = true) with
  | nil => rfl
  | cons v r h1 h2 =>
   rename_i h
   simp only [V.pureL, Bool.and_eq_true] at h
   simp only [V.underL, h1 h.1, h2 h.2, Bool.and_self]
  | agg cs ih => intro h; exact ih (by simpa [V.pure] using h)
  | eptr cs off ih => intro h; exact ih (by simpa [V.pure] using h)
  | func f cs ih => intro h; exact ih (by simpa [V.pure] using h)
  | _ => intro h; first | rfl | (simp [V.pure] at h)
 exact key v h
theorem yf {id : Nat} {old new : List V} {ver : Nat} (bs : List Nat) (h : ∀ e ∈ old ++ new, e.pure = true) : okObj bs id (.arr (old ++ new) ver) :=
 fun b _ => .inr (gU fun e he => pureU b (h e he))
theorem yg (hS : Sim bs g H w) {id b o sz ext ver len : Nat} (ver2 : Nat) (hv2 : ver ≤ ver2) {es old xs new : List V} (hc0 : sz ≠ 0) (hH : H[id]? = some (.arr es ver)) (hφ : g.φ id = some (.arr b o sz ext ver)) (hlen : len ≤ es.length)
  (hold : takeElems sz (es.take len) = some old) (hnew : takeElems sz xs = some new) (cx : List Value) (hcx : cx.length = new.length * sz) (hbnd : (len + new.length) * sz ≤ ext)
  (hcr : ∀ (j : Nat) (e : V) (q : Nat) (y : V), new[j]? = some e → e.cells[q]? = some y → ∃ y', cx[j * sz + q]? = some y' ∧ VRel g w y y') :
  Out bs g w H { g with φ := fun i => if i = id then some (.arr b o sz ext ver2) else g.φ i } (w.setCells b (o + len * sz) cx) (H.set id (.arr (old ++ new) ver2)) := by
 obtain ⟨_, hext, hes, hown, hcell⟩ := mv hS hH hφ
 obtain ⟨hid, _⟩ := List.getElem?_eq_some_iff.1 hH
 obtain ⟨k1, k2, k3⟩ := al hold
 obtain ⟨n1, n2, n3⟩ := al hnew
 have hol : old.length = len := by rw [k1, List.length_take]; omega
 have hsum : len * sz + cx.length = (len + new.length) * sz := by rw [hcx, Nat.add_mul]
 have own' : ∀ j, j < cx.length → g.O b (o + len * sz + j) = .res id := fun j hj => by
  have := (hown (len * sz + j) (by omega)).1
  rwa [← Nat.add_assoc] at this
 have cell'' : ∀ j, j < cx.length → (w.cell? ⟨b, o + len * sz + j, none⟩).isSome = true := fun j hj => by
  obtain ⟨_, _, v, hv⟩ := hown (len * sz + j) (by omega)
  rw [← Nat.add_assoc] at hv
  rw [hv]; rfl
 have x0 := nC (w := w) own'
 have xx : Ext g w { g with φ := fun i => if i = id then some (.arr b o sz ext ver2) else g.φ i } (w.setCells b (o + len * sz) cx) := by
  refine ⟨x0.size, x0.imm, fun i l hl => ?_, x0.free, x0.os, x0.tape, x0.output, x0.drawn⟩
  by_cases e1 : i = id
  ·subst e1; rw [hφ] at hl; cases hl
   refine ⟨.arr b o sz ext ver2, by simp, ?_⟩
   exact (show _ ∧ _ from ⟨hv2, fun _ => ⟨rfl, rfl, rfl, rfl⟩⟩)
  ·exact ⟨l, by simp [e1, hl], LocLe.refl _⟩
 have keep : ∀ i, i ≠ id → Keep i g w { g with φ := fun i => if i = id then some (.arr b o sz ext ver2) else g.φ i } (w.setCells b (o + len * sz) cx) := fun i hi => by
  have k0 := ma (w := w) own' hi cell''
  exact ⟨k0.own, k0.cell, k0.map⟩
 refine ⟨⟨by simpa using hS.bl, hS.srt, fun i hi => ?_, fun b' k hk => ?_, fun i ob l h1 h2 => ?_, fun i ob h2 hm2 => ?_⟩, xx, by simp, fun i => ?_⟩
 ·by_cases e1 : i = id
  ·simp; omega
  ·simp [e1] at hi; simpa using hS.dom i hi
 ·rw [(eV _ _ _ _).1]; exact hS.old b' k hk
 ·by_cases e1 : i = id
  ·subst e1
   simp [hid] at h1; subst h1
   simp at h2; subst h2
   refine .arr _ _ _ _ _ _ (by rw [List.length_append, hol]; exact hbnd) (fun j e' hj => ?_) (fun k hk => ?_) (fun j e' q y hj hy => ?_)
   ·rcases gp old new j e' hj with ⟨_, h1⟩ | ⟨_, _, h1⟩
    ·exact (k2 e' (List.mem_of_getElem? h1)).1
    ·exact (n2 e' (List.mem_of_getElem? h1)).1
   ·obtain ⟨q1, q2, v, q3⟩ := hown k hk
    refine ⟨q1, by rw [World.frozen?_setCells]; exact q2, ?_⟩
    by_cases hin : len * sz ≤ k ∧ k < len * sz + cx.length
    ·have := World.cell?_setCells_in b cx (o + len * sz) w cell'' (k - len * sz) (by omega)
     rw [show o + len * sz + (k - len * sz) = o + k by omega] at this
     exact ⟨_, this⟩
    ·rw [World.cell?_setCells_out _ _ _ _ _ (fun _ _ => by simp only; omega)]
     exact ⟨v, q3⟩
   ·obtain ⟨hq, _⟩ := List.getElem?_eq_some_iff.1 hy
    rcases gp old new j e' hj with ⟨hlt, h1⟩ | ⟨hge, hlt, h1⟩
    ·obtain ⟨v, h3, h4⟩ := k3 j e' h1
     have h5 := k2 e' (List.mem_of_getElem? h1)
     have hq2 : q < sz := by omega
     have hjl : j < len := by omega
     have h6 : es[j]? = some v := by rw [List.getElem?_take, if_pos hjl] at h3; exact h3
     subst h4
     rw [oZ, List.getElem?_map] at hy
     cases hv : v.cells[q]? with
     | none => simp [hv] at hy
     | some u =>
      simp [hv] at hy; subst hy
      obtain ⟨y', e1, e2⟩ := hcell j v q u h6 hv
      refine ⟨y', ?_, (nA e2).mono xx⟩
      have hk := pa (sz := sz) hjl hq2
      rw [World.cell?_setCells_out _ _ _ _ _ (fun _ _ => by simp only; omega)]
      exact e1
    ·obtain ⟨y', e1, e2⟩ := hcr (j - old.length) e' q y h1 hy
     obtain ⟨hk, _⟩ := List.getElem?_eq_some_iff.1 e1
     have hjs : j * sz + q = len * sz + ((j - old.length) * sz + q) := by
      rw [← Nat.add_assoc, ← Nat.add_mul]; congr 2; omega
     have := World.cell?_setCells_in b cx (o + len * sz) w cell'' ((j - old.length) * sz + q) hk
     refine ⟨y', ?_, e2.mono xx⟩
     rw [Nat.add_assoc, hjs, ← Nat.add_assoc, this, ← e1]; simp [hk]
  ·rw [List.getElem?_set_ne (Ne.symm e1)] at h1
   have h2' : g.φ i = some l := by simpa [e1] using h2
   exact (hS.obj i ob l h1 h2').keep xx (keep i e1)
 ·by_cases e1 : i = id
  ·subst e1; simp [hid] at h2; subst h2
   refine yf bs fun e he => ?_
   rcases List.mem_append.1 he with h1 | h1
   ·exact (k2 e h1).2.1
   ·exact (n2 e h1).2.1
  ·rw [List.getElem?_set_ne (Ne.symm e1)] at h2; exact hS.und i ob h2 (by simpa [e1] using hm2)
 ·by_cases e1 : i = id
  ·subst e1; simp [hφ]
  ·simp [e1]; omega
theorem se (hS : Sim bs g H w) {id sz ver nc len : Nat} {xs0 old xs new : List V} {cells : Array Value} (e : TypeId) (hdom : g.φ id = none → id = H.length) (hle : ∀ l', g.φ id = some l' → LocLe l' (.arr w.heap.size 0 sz (nc * sz) ver)) (H' : Heap)
  (hH : (id = H.length ∧ H' = H ++ [.arr (old ++ new) ver]) ∨ (id < H.length ∧ g.φ id ≠ none ∧ H' = H.set id (.arr (old ++ new) ver)))
  (hold : takeElems sz xs0 = some old) (hnew : takeElems sz xs = some new) (hlen : old.length = len) (hnc : len + new.length ≤ nc) (hcs : cells.size = nc * sz)
  (hrel : ∀ (j : Nat) (e : V) (q : Nat) (y : V), (old ++ new)[j]? = some e → e.cells[q]? = some y → ∃ y', cells[j * sz + q]? = some y' ∧ VRel g w y y') :
  ∃ g', Out bs g w H g' { w with heap := w.heap.push (.cells cells e) } H' ∧ VRel g' { w with heap := w.heap.push (.cells cells e) } (.ref sz id ver 0 (len + new.length)) (.slice (some ⟨w.heap.size, 0, none⟩) (len + new.length) nc) := by
 obtain ⟨k1, k2, k3⟩ := al hold
 obtain ⟨n1, n2, n3⟩ := al hnew
 have x := sd hS (.cells cells e) 0 id _ hle
 have hp : ∀ e ∈ old ++ new, e.pure = true := fun e he => by
  rcases List.mem_append.1 he with h1 | h1
  ·exact (k2 e h1).2.1
  ·exact (n2 e h1).2.1
 refine ⟨_, Aa hS (.cells cells e) 0 id (.arr (old ++ new) ver) (.arr w.heap.size 0 sz (nc * sz) ver) hdom hle H' hH ?_ (yf bs hp), ?_⟩
 ·refine .arr _ _ _ _ _ _ (by rw [List.length_append, hlen]; exact Nat.mul_le_mul_right sz hnc) (fun j e' hj => ?_) (fun k hk => ⟨?_, ?_, ?_⟩) (fun j e' q y hj hy => ?_)
  ·rcases gp old new j e' hj with ⟨_, h1⟩ | ⟨_, _, h1⟩
   ·exact (k2 e' (List.mem_of_getElem? h1)).1
   ·exact (n2 e' (List.mem_of_getElem? h1)).1
  ·simp [G.grow, G.lay]
  ·rw [Nat.zero_add]; exact eE cells e k
  ·rw [Nat.zero_add, aV]; exact ⟨cells[k]'(by omega), by simp [show k < cells.size by omega]⟩
  ·obtain ⟨y', e1, e2⟩ := hrel j e' q y hj hy
   refine ⟨y', ?_, e2.mono x⟩
   rw [Nat.zero_add, aV]; exact e1
 ·exact .ref sz id ver 0 (len + new.length) nc w.heap.size 0 sz (nc * sz) ver w.heap.size 0 (by simp [G.grow, G.lay]) (Nat.le_refl _) hnc (fun _ => ⟨rfl, fun _ => ⟨rfl, by omega, by rw [Nat.zero_add]; exact Nat.le_refl _⟩⟩)
theorem vQ (hS : Sim bs g H w) {m : Bool} {t u e2 ty : Nat} {s x v : V} {s' x' : Value} {H' : Heap} (ha : appendV P m t s x H = some (v, H')) (hs : VRel g w s s') (hx : VRel g w x x')
  (hu : P.underlying u = some (.slice e2)) :
  ∃ v' w' g', (Builtin.append_ #[t, u] ty #[s', x']).run P w = .ok v' w' ∧ Out bs g w H g' w' H' ∧ VRel g' w' v v' := by
 unfold appendV at ha
 cases he : elemT P t with
 | none => simp [he] at ha
 | some e =>
 cases hsz : sizeT P e with
 | none => simp [he, hsz] at ha
 | some sz =>
 cases hby : bytesT P e with
 | none => simp [he, hsz, hby] at ha
 | some by_ =>
 cases hz : zeroT P e with
 | none => simp [he, hsz, hby, hz] at ha
 | some z =>
 simp only [he, hsz, hby, hz, Option.bind_some] at ha
 split at ha
 ·cases ha
 rename_i hc
 have hc0 : sz ≠ 0 := fun h => hc (.inl h)
 have hb0 : by_ ≠ 0 := fun h => hc (.inr (.inl h))
 have hzl : z.cells.length = sz := Decidable.byContradiction fun h => hc (.inr (.inr (.inl h)))
 have hzc : z.cells.all V.isCell = true := by
  cases h : z.cells.all V.isCell with
  | true => rfl
  | false => exact absurd (.inr (.inr (.inr h))) hc
 cases hxe : elemsV H x with
 | none => simp [hxe] at ha
 | some xs =>
 cases hnew : takeElems sz xs with
 | none => simp [hxe, hnew] at ha
 | some new =>
 simp only [hxe, hnew, Option.bind_some] at ha
 have ht := sU he
 obtain ⟨a2, cap2, cx, hx', rx, cxl, crel⟩ := qv (P := P) hS hx hxe hnew
 have hnl : new.length = xs.length := (al hnew).1
 have hroomB : roomB = 70368744177664 := rfl
 cases s with
 | nilS =>
  simp only at ha
  cases hs
  split at ha
  ·rename_i h0
   cases ha
   have hx0 : xs.length = 0 := by omega
   rw [hx0] at hx' rx cxl
   exact ⟨_, _, _, iw ht hu hsz (Nat.le_refl _) hx' rx (by omega), Out.refl hS, .nilS⟩
  ·rename_i h0
   split at ha
   ·rename_i hroom
    obtain ⟨nc, w1, hnc, hheap, o1, cells, hcs, hrun, hrel⟩ := je (ty := ty) hS (es := []) ht hu hsz hby hz hzl hzc hb0 rfl (kI (P := P) (.listNil : VRel g w (.list []) _) (fun j e h => by simp at h) _ rfl) hx hxe hnew (by simpa using hroom) (by simp; omega)
    simp only [List.length_nil, Nat.zero_add, List.nil_append] at hnc hrun hrel
    rw [← hheap] at hrun
    split at ha
    ·cases ha
     obtain ⟨g', o2, r2⟩ := se o1.sim (sz := sz) (ver := 0) (nc := nc) (len := 0) (xs0 := []) (old := []) e (id := H.length) (fun _ => rfl) (fun l' hl' => by
      have := o1.sim.dom H.length (by rw [hl']; simp); omega) (H ++ [.arr new 0]) (.inl ⟨rfl, rfl⟩) rfl hnew rfl (by omega) hcs (fun j e' q y hj hy => by
       obtain ⟨y', e1, e2⟩ := hrel j e' q y hj hy
       exact ⟨y', e1, e2.mono o1.ext⟩)
     refine ⟨_, _, _, hrun, o1.trans o2, ?_⟩
     simpa using r2
    cases ha
    have hcell : ∀ k, k < nc * sz → ∃ v, ({ w1 with heap := w1.heap.push (.cells cells e) } : World).cell? ⟨w1.heap.size, k, none⟩ = some v := fun k hk => by
     rw [aV]; exact ⟨cells[k]'(by omega), by simp [show k < cells.size by omega]⟩
    have o2 := vP o1.sim (.cells cells e) H.length new.length sz nc (fun _ => rfl) (fun _ => rfl) (fun l' hl' => by
     have := o1.sim.dom H.length (by rw [hl']; simp); omega) (H ++ [.tok new.length]) (.inl ⟨rfl, rfl⟩) (by omega) (by omega) hcell (fun k => eE cells e k)
    have o := o1.trans o2
    refine ⟨_, _, _, hrun, o, ?_⟩
    refine .tl _ _ _ (some (w1.heap.size, 0)) sz nc new.length ?_ (by simp [G.grow, G.lay]) (Nat.le_refl _) (fun _ => ⟨fun e' he' => ((al hnew).2.1 e' he').1, rfl⟩)
    have := sV (es := []) (new := new) (xs := xs) (sz := sz) (nc := nc) e rfl rfl (by simp only [List.length_nil, Nat.zero_add]; rfl) o.ext (fun j e h => by simp at h) rfl hnew (by simpa using hnc) hcs (by simpa using hrel)
    simpa using this
   ·cases ha
 | list es =>
  simp only at ha
  split at ha
  ·rename_i h0
   cases ha
   obtain ⟨a, cap, rfl, hle⟩ := pb hs
   have hx0 : xs.length = 0 := by omega
   rw [hx0] at hx' rx cxl
   exact ⟨_, _, _, iw ht hu hsz hle hx' rx (by omega), Out.refl hS, hs⟩
  ·cases ha
 | tl tk es =>
  simp only at ha
  cases hH : H[tk]? with
  | none => simp [hH] at ha
  | some ob =>
  cases ob with
  | tok n =>
   simp only [hH] at ha
   split at ha
   case isFalse => cases ha
   rename_i hcond
   obtain ⟨rfl, hroom, hall⟩ := hcond
   split at ha
   ·rename_i hm
    obtain ⟨_, hz0, hn0⟩ := hm
    have he0 : es = [] := List.eq_nil_of_length_eq_zero hz0
    subst he0
    cases ha
    cases hs with
    | tl _ _ _ tbase ts tcap tn h hφ hn hcur =>
     have hob := hS.obj tk _ _ hH hφ
     obtain ⟨htn, hnone, hsome⟩ := ye hob
     have htv := (hcur htn).2
     have hcap0 : tcap = 0 := by
      rcases htb : tbase with _ | ⟨b, o⟩
      ·exact (hnone htb).2
      ·exact (hsome b o htb).2.1 (by simp)
     subst hcap0
     have htn0 : tn = 0 := by rw [← htn]; rfl
     subst htn0
     have hsl : ∃ a, s' = .slice a 0 0 := by
      rw [htv]; unfold tokVal; split
      ·exact ⟨_, rfl⟩
      ·exact ⟨_, rfl⟩
     obtain ⟨a, rfl⟩ := hsl
     obtain ⟨nc, w1, hnc, hheap, o1, cells, hcs, hrun, hrel⟩ := je (ty := ty) hS (es := []) ht hu hsz hby hz hzl hzc hb0 rfl (kI (P := P) h (fun j e h => by simp at h) _ rfl) hx hxe hnew hroom (by simp; omega)
     simp only [List.length_nil, Nat.zero_add, List.nil_append] at hnc hrun hrel
     rw [← hheap] at hrun
     obtain ⟨g', o2, r2⟩ := se o1.sim (sz := sz) (ver := 0) (nc := nc) (len := 0) (xs0 := []) (old := []) e (id := H.length) (fun _ => rfl) (fun l' hl' => by
      have := o1.sim.dom H.length (by rw [hl']; simp); omega) (H ++ [.arr new 0]) (.inl ⟨rfl, rfl⟩) rfl hnew rfl (by omega) hcs (fun j e' q y hj hy => by
       obtain ⟨y', e1, e2⟩ := hrel j e' q y hj hy
       exact ⟨y', e1, e2.mono o1.ext⟩)
     refine ⟨_, _, _, hrun, o1.trans o2, ?_⟩
     simpa using r2
   cases ha
   obtain ⟨htk, _⟩ := List.getElem?_eq_some_iff.1 hH
   have hes : ∀ (j : Nat) (e : V), es[j]? = some e → e.cells.length = sz := fun j e' hj => by
    have := List.all_eq_true.1 hall e' (List.mem_of_getElem? hj)
    simpa using this
   have hsl := eC hs
   obtain ⟨a, cap, hs', hle⟩ := pb hsl
   have hp : V.pureL es = true := by
    cases hsl with
    | listNil => rfl
    | listZ => rfl
    | list b o cap s es c hlen hpure hs hO hc hr => exact hpure
   by_cases h0 : new.length = 0
   ·
    have hx0 : xs.length = 0 := by omega
    have hn0 : new = [] := List.eq_nil_of_length_eq_zero h0
    subst hn0
    rw [hx0] at hx' rx cxl
    subst hs'
    refine ⟨_, _, _, iw ht hu hsz hle hx' rx (by omega), ?_, by simpa using hs⟩
    have : H.set tk (.tok (es.length + ([] : List V).length)) = H := by
     apply List.ext_getElem?
     intro i
     by_cases e1 : i = tk
     ·subst e1; simp [htk]; rw [List.getElem?_eq_some_iff] at hH; exact hH.2.symm
     ·rw [List.getElem?_set_ne (Ne.symm e1)]
    rw [this]
    exact Out.refl hS
   ·cases hs with
    | tl _ _ _ tbase ts tcap tn h hφ hn hcur =>
     have hob := hS.obj tk _ _ hH hφ
     obtain ⟨htn, hnone, hsome⟩ := ye hob
     subst htn
     obtain ⟨hts, htv⟩ := hcur rfl
     by_cases hroomy : es.length + new.length ≤ cap
     ·
      rcases htb : tbase with _ | ⟨b, o⟩
      ·obtain ⟨h1, h2⟩ := hnone htb
       rw [htb] at htv
       simp [tokVal] at htv
       rw [htv] at hs'
       simp at hs'
       omega
      ·obtain ⟨hcap, hz0, hspare⟩ := hsome b o htb
       subst htb
       simp only [tokVal] at htv
       rw [htv] at hs'
       cases hs'
       have hn1 : es.length ≠ 0 := fun h1 => by have := hz0 h1; omega
       have hss : ts = sz := by
        have e1 : es[0]? = some (es[0]'(by omega)) := by simp
        rw [← hts _ (List.mem_of_getElem? e1), hes 0 _ e1]
       subst hss
       subst htv
       have cb : ∀ j, j < cx.length → j + es.length * ts < cap * ts := fun j hj => by
        have : (es.length + xs.length) * ts ≤ cap * ts := Nat.mul_le_mul_right ts (by omega)
        rw [Nat.add_mul] at this; omega
       have spare : ∀ j, j < cx.length → g.O b (o + es.length * ts + j) = .res tk ∧ w.frozen? ⟨b, o + es.length * ts + j, none⟩ = false ∧ ∃ v', w.cell? ⟨b, o + es.length * ts + j, none⟩ = some v' := fun j hj => by
        have := hspare (es.length * ts + j) (by omega) (by have := cb j hj; omega)
        rwa [← Nat.add_assoc] at this
       have cellv : ∀ (k : Nat), k < xs.length * ts → ∃ y, (es ++ new)[es.length + k / ts]? = some y ∧ ∃ u, y.cells[k % ts]? = some u ∧ ∃ u', cx[k]? = some u' ∧ VRel g w u u' ∧ u.isCell = true := fun k hk => by
        have hd : k / ts < new.length := by rw [hnl, Nat.div_lt_iff_lt_mul (by omega)]; exact hk
        have hm : k % ts < ts := Nat.mod_lt _ (by omega)
        have e1 : new[k / ts]? = some new[k / ts] := by simp [hd]
        have h2 := (al hnew).2.1 _ (List.mem_of_getElem? e1)
        have h21 := h2.1
        have e3 : (new[k / ts]).cells[k % ts]? = some ((new[k / ts]).cells[k % ts]'(by omega)) := by simp
        obtain ⟨u', e4, e5⟩ := crel _ _ _ _ e1 e3
        rw [Nat.div_add_mod'] at e4
        refine ⟨_, ?_, _, e3, u', e4, e5, List.all_eq_true.1 h2.2.2 _ (List.mem_of_getElem? e3)⟩
        rw [List.getElem?_append_right (Nat.le_add_right _ _), Nat.add_sub_cancel_left]; exact e1
       have hone : ∀ v ∈ cx, v.oneCell' = true := fun v hv => by
        obtain ⟨k, hk⟩ := List.getElem?_of_mem hv
        obtain ⟨hlt, _⟩ := List.getElem?_eq_some_iff.1 hk
        obtain ⟨_, _, u, _, u', e4, e5, e6⟩ := cellv k (by omega)
        rw [hk] at e4; cases e4
        exact (lY e5 e6).1
       have hrun := qw (P := P) (ty := ty) (L := es.length) (n := xs.length) (cap := cap) (b := b) (o := o) ht hu hsz (by omega) hx' rx (fun j hj => by obtain ⟨_, _, v, hv⟩ := spare j hj; rw [hv]; rfl) (fun j hj => (spare j hj).2.1) hone
       let g' : G := { O := fun b' k => if b' = b ∧ o + es.length * ts ≤ k ∧ k < o + (es.length + new.length) * ts then .imm else g.O b' k, φ := fun i => if i = tk then some (.tok (some (b, o)) ts cap (es.length + new.length)) else g.φ i }
       have hcxl : es.length * ts + cx.length = (es.length + new.length) * ts := by rw [cxl, Nat.add_mul, hnl]
       have own' : ∀ j, j < cx.length → g.O b (o + es.length * ts + j) = .res tk := fun j hj => (spare j hj).1
       have x0 := nC (w := w) own'
       have hO : ∀ b' k, g.O b' k ≠ .res tk → g'.O b' k = g.O b' k := fun b' k hk => by
        simp only [g']
        split
        ·rename_i h3
         obtain ⟨rfl, h4, h5⟩ := h3
         have := own' (k - (o + es.length * ts)) (by omega)
         rw [show o + es.length * ts + (k - (o + es.length * ts)) = k by omega] at this
         exact absurd this hk
        ·rfl
       have xx : Ext g w g' (w.setCells b (o + es.length * ts) cx) := by
        refine ⟨x0.size, fun b' k hk => ⟨by rw [hO b' k (by rw [hk]; simp)]; exact hk, (x0.imm b' k hk).2⟩, fun i l hl => ?_, fun b' hb hf => ⟨(x0.free b' hb hf).1, fun k => hO b' k (hf k tk)⟩, x0.os, x0.tape, x0.output, x0.drawn⟩
        by_cases e1 : i = tk
        ·subst e1; rw [hφ] at hl; cases hl
         refine ⟨.tok (some (b, o)) ts cap (es.length + new.length), by simp [g'], ?_⟩
         exact (show _ ∧ _ from ⟨by omega, fun h => absurd h (by omega)⟩)
        ·exact ⟨l, by simp [g', e1, hl], LocLe.refl _⟩
       have cell'' : ∀ j, j < cx.length → (w.cell? ⟨b, o + es.length * ts + j, none⟩).isSome = true := fun j hj => by obtain ⟨_, _, v, hv⟩ := spare j hj; rw [hv]; rfl
       have keep : ∀ i, i ≠ tk → Keep i g w g' (w.setCells b (o + es.length * ts) cx) := fun i hi => by
        have k0 := ma (w := w) own' hi cell''
        exact ⟨fun b' k hk => by rw [hO b' k (by rw [hk]; simp; exact hi)]; exact hk, k0.cell, k0.map⟩
       refine ⟨_, _, g', hrun, ⟨⟨by simpa using hS.bl, hS.srt, fun i hi => ?_, fun b' k hk => ?_, fun i ob l h1 h2 => ?_, fun i ob h2 hm2 => ?_⟩, xx, by simp, fun i => ?_⟩, ?_⟩
       ·by_cases e1 : i = tk
        ·simp; omega
        ·simp [g', e1] at hi; simpa using hS.dom i hi
       ·rw [(eV _ _ _ _).1]
        by_cases h3 : b' = b ∧ o + es.length * ts ≤ k ∧ k < o + (es.length + new.length) * ts
        ·obtain ⟨rfl, h4, h5⟩ := h3
         have := own' (k - (o + es.length * ts)) (by omega)
         exact hS.old b' _ (by rw [this]; simp)
        ·simp [g', h3] at hk; exact hS.old b' k hk
       ·by_cases e1 : i = tk
        ·subst e1
         simp [htk] at h1; subst h1
         simp [g'] at h2; subst h2
         refine .tok _ _ _ _ _ (by omega) (by omega) (fun k h3 h4 => ?_)
         obtain ⟨k1, k2, v, k3⟩ := hspare k (by
          have : es.length * ts ≤ (es.length + new.length) * ts := Nat.mul_le_mul_right ts (by omega)
          omega) h4
         refine ⟨by simp only [g']; rw [if_neg (fun h5 => by have := h5.2; omega)]; exact k1, by rw [World.frozen?_setCells]; exact k2, v, ?_⟩
         rw [World.cell?_setCells_out _ _ _ _ _ (fun _ _ => by simp only; omega)]
         exact k3
        ·rw [List.getElem?_set_ne (Ne.symm e1)] at h1
         have h2' : g.φ i = some l := by simpa [g', e1] using h2
         exact (hS.obj i ob l h1 h2').keep xx (keep i e1)
       ·by_cases e1 : i = tk
        ·subst e1; simp [htk] at h2; subst h2; exact fun b _ => .inr rfl
        ·rw [List.getElem?_set_ne (Ne.symm e1)] at h2; exact hS.und i ob h2 (by simpa [g', e1] using hm2)
       ·by_cases e1 : i = tk
        ·subst e1; simp [g', hφ]
        ·simp [g', e1]; omega
       ·have hlist : VRel g' (w.setCells b (o + es.length * ts) cx) (.list (es ++ new)) (.slice (some ⟨b, o, none⟩) (es ++ new).length cap) := by
         cases hsl with
         | listZ => exact absurd rfl hn1
         | list _ _ _ s2 _ c hlen hpure hs2 hO2 hc2 hr2 =>
          have hs2' : s2 = ts := by
           have e1 : es[0]? = some (es[0]'(by omega)) := by simp
           rw [← hs2 0 _ e1, hes 0 _ e1]
          subst hs2'
          refine tQ (s := s2) (fun k => if k < es.length * s2 then c (k / s2) (k % s2) else cx[k - es.length * s2]?.getD Go.undef) (by simp; omega) (fun j e' hj => ?_) (nE hnew hp) (fun k hk => ⟨?_, ?_⟩) (fun j e' q y hj hy => ?_)
          ·rcases gp es new j e' hj with ⟨_, h1⟩ | ⟨_, _, h1⟩
           ·exact hes j e' h1
           ·exact ((al hnew).2.1 e' (List.mem_of_getElem? h1)).1
          ·rw [List.length_append] at hk
           by_cases hk1 : k < es.length * s2
           ·have h1 : k / s2 < es.length := by rw [Nat.div_lt_iff_lt_mul (by omega)]; exact hk1
            have h2 : k % s2 < s2 := Nat.mod_lt _ (by omega)
            have := hO2 (k / s2) (k % s2) h1 h2
            rw [Nat.add_assoc, Nat.div_add_mod'] at this
            rw [hO b (o + k) (by rw [this]; simp)]; exact this
           ·simp only [g']
            rw [if_pos ⟨trivial, by omega, by omega⟩]
          ·rw [List.length_append] at hk
           by_cases hk1 : k < es.length * s2
           ·rw [if_pos hk1]
            have h1 : k / s2 < es.length := by rw [Nat.div_lt_iff_lt_mul (by omega)]; exact hk1
            have h2 : k % s2 < s2 := Nat.mod_lt _ (by omega)
            have := hc2 (k / s2) (k % s2) h1 h2
            rw [Nat.add_assoc, Nat.div_add_mod'] at this
            rw [World.cell?_setCells_out _ _ _ _ _ (fun _ _ => by simp only; omega)]
            exact this
           ·rw [if_neg hk1]
            have hlt : k - es.length * s2 < cx.length := by omega
            have := World.cell?_setCells_in b cx (o + es.length * s2) w cell'' (k - es.length * s2) hlt
            rw [show o + es.length * s2 + (k - es.length * s2) = o + k by omega] at this
            rw [this]; simp [hlt]
          ·obtain ⟨hq, _⟩ := List.getElem?_eq_some_iff.1 hy
           rcases gp es new j e' hj with ⟨hlt, h1⟩ | ⟨hge, hlt, h1⟩
           ·have hq2 : q < s2 := by have := hes j e' h1; omega
            have hk := pa (sz := s2) hlt hq2
            have e1 : (j * s2 + q) / s2 = j := by rw [Nat.mul_comm, Nat.mul_add_div (by omega), Nat.div_eq_of_lt hq2, Nat.add_zero]
            have e2 : (j * s2 + q) % s2 = q := by rw [Nat.mul_comm, Nat.mul_add_mod, Nat.mod_eq_of_lt hq2]
            rw [if_pos hk, e1, e2]
            exact (hr2 j e' q y h1 hy).mono xx
           ·obtain ⟨y', e1, e2⟩ := crel (j - es.length) e' q y h1 hy
            have hjs : j * s2 + q = es.length * s2 + ((j - es.length) * s2 + q) := by
             rw [← Nat.add_assoc, ← Nat.add_mul]; congr 2; omega
            rw [if_neg (by omega), hjs, Nat.add_sub_cancel_left, e1]
            exact e2.mono xx
        have hnl2 : (es ++ new).length = es.length + xs.length := by simp [hnl]
        refine .tl _ _ _ (some (b, o)) ts cap (es.length + new.length) (by rw [hnl2] at hlist; exact hlist) (by simp [g']) (by simp) (fun _ => ⟨fun e' he' => ?_, by simp [tokVal, hnl]⟩)
        rcases List.mem_append.1 he' with h1 | h1
        ·exact hts e' h1
        ·exact ((al hnew).2.1 e' h1).1
     ·
      obtain ⟨nc, w1, hnc, hheap, o1, cells, hcs, hrun, hrel⟩ := je (ty := ty) hS ht hu hsz hby hz hzl hzc hb0 hs' (kI (P := P) hsl hes _ rfl) hx hxe hnew hroom (by omega)
      rw [← hheap] at hrun
      have hcell : ∀ k, k < nc * sz → ∃ v, ({ w1 with heap := w1.heap.push (.cells cells e) } : World).cell? ⟨w1.heap.size, k, none⟩ = some v := fun k hk => by
       rw [aV]; exact ⟨cells[k]'(by omega), by simp [show k < cells.size by omega]⟩
      have o2 := vP o1.sim (.cells cells e) tk (es.length + new.length) sz nc (fun h => by rw [hH] at h; cases h) (fun h => by rw [hφ] at h; cases h) (fun l' hl' => by
       rw [hφ] at hl'; cases hl'; exact (show _ ∧ _ from ⟨by omega, fun h => absurd h (by omega)⟩)) (H.set tk (.tok (es.length + new.length))) (.inr ⟨htk, by rw [hφ]; simp, rfl⟩) hnc (by omega) hcell (fun k => eE cells e k)
      have o := o1.trans o2
      refine ⟨_, _, _, hrun, o, ?_⟩
      refine .tl _ _ _ (some (w1.heap.size, 0)) sz nc (es.length + new.length) ?_ (by simp [G.grow, G.lay]) (by simp) (fun _ => ⟨fun e' he' => ?_, by simp [tokVal]⟩)
      ·exact sV (xs := xs) e rfl rfl rfl o.ext hes hp hnew hnc hcs hrel
      ·rcases List.mem_append.1 he' with h1 | h1
       ·obtain ⟨j, hj⟩ := List.getElem?_of_mem h1; exact hes j e' hj
       ·exact ((al hnew).2.1 e' h1).1
  | _ => simp [hH] at ha
 | ref s0 id ver off len =>
  simp only at ha
  cases hH : H[id]? with
  | none => simp [hH] at ha
  | some ob =>
  cases ob with
  | arr es v0 =>
   simp only [hH] at ha
   split at ha
   case isFalse => cases ha
   rename_i hcond
   obtain ⟨rfl, rfl, rfl, hlen, hroom⟩ := hcond
   cases hold : takeElems s0 (es.take len) with
   | none => simp [hold] at ha
   | some old =>
   simp only [hold, Option.map_some, Option.some.injEq, Prod.mk.injEq] at ha
   obtain ⟨rfl, rfl⟩ := ha
   have hol : old.length = len := by rw [(al hold).1, List.length_take]; omega
   have hsE : elemsV H (.ref s0 id v0 0 len) = some (es.take len) := by
    simp only [elemsV, hH, Nat.zero_add, List.drop_zero]
    rw [if_pos (by simpa using hlen)]
   obtain ⟨hid, _⟩ := List.getElem?_eq_some_iff.1 hH
   have hs2 := hs
   cases hs with
   | ref _ _ _ _ _ cap b o s' ext ver' b' o' hφ hv hle hcur =>
    obtain ⟨hver, hext, hes, hown, hcell⟩ := mv hS hH hφ
    subst hver
    obtain ⟨rfl, hcap⟩ := hcur rfl
    by_cases hroomy : len + new.length ≤ cap
    ·by_cases h0 : new.length = 0
     ·have hx0 : xs.length = 0 := by omega
      have hn0 : new = [] := List.eq_nil_of_length_eq_zero h0
      subst hn0
      rw [hx0] at hx' rx cxl
      have hb0' : (len + ([] : List V).length) * s' ≤ ext := by
       have h1 : len * s' ≤ es.length * s' := Nat.mul_le_mul_right s' hlen
       simpa using Nat.le_trans h1 hext
      have o1 := yg hS (v0 + 1) (Nat.le_succ _) hc0 hH hφ hlen hold hnew [] (by simp) hb0' (fun j e q y hj => by simp at hj)
      refine ⟨_, _, _, iw ht hu hsz hle hx' rx (by omega), o1, ?_⟩
      refine .ref _ _ _ _ _ cap b o s' ext (v0 + 1) b' o' (by simp) (Nat.le_refl _) (by simpa using hle) (fun _ => ⟨rfl, fun hc => hcap hc⟩)
     ·obtain ⟨rfl, rfl, hcx⟩ := hcap (by omega)
      have hbnd : (len + new.length) * s' ≤ ext := by
       have : (len + new.length) * s' ≤ (0 + cap) * s' := Nat.mul_le_mul_right s' (by omega)
       omega
      have hcxl : cx.length = new.length * s' := by rw [cxl, hnl]
      have hsum : len * s' + cx.length = (len + new.length) * s' := by rw [hcxl, Nat.add_mul]
      have spare : ∀ j, j < cx.length → w.frozen? ⟨b', o + len * s' + j, none⟩ = false ∧ ∃ v', w.cell? ⟨b', o + len * s' + j, none⟩ = some v' := fun j hj => by
       have := (hown (len * s' + j) (by omega)).2
       rwa [← Nat.add_assoc] at this
      have hone : ∀ v ∈ cx, v.oneCell' = true := fun v hv => by
       obtain ⟨k, hk⟩ := List.getElem?_of_mem hv
       obtain ⟨hlt, _⟩ := List.getElem?_eq_some_iff.1 hk
       have hd : k / s' < new.length := by rw [Nat.div_lt_iff_lt_mul (by omega)]; omega
       have hm : k % s' < s' := Nat.mod_lt _ (by omega)
       have e1 : new[k / s']? = some new[k / s'] := by simp [hd]
       have h2 := (al hnew).2.1 _ (List.mem_of_getElem? e1)
       have h21 := h2.1
       have e3 : (new[k / s']).cells[k % s']? = some ((new[k / s']).cells[k % s']'(by omega)) := by simp
       obtain ⟨u', e4, e5⟩ := crel _ _ _ _ e1 e3
       rw [Nat.div_add_mod'] at e4
       rw [hk] at e4; cases e4
       exact (lY e5 (List.all_eq_true.1 h2.2.2 _ (List.mem_of_getElem? e3))).1
      have hrun := qw (P := P) (ty := ty) (L := len) (n := xs.length) (cap := cap) (b := b') (o := o) ht hu hsz (by omega) hx' rx (fun j hj => by obtain ⟨_, v, hv⟩ := spare j hj; rw [hv]; rfl) (fun j hj => (spare j hj).1) hone
      have o1 := yg hS (v0 + 1) (Nat.le_succ _) hc0 hH hφ hlen hold hnew cx hcxl hbnd crel
      refine ⟨_, _, _, by simpa using hrun, o1, ?_⟩
      rw [← hnl]
      exact .ref _ _ _ _ _ cap b' o s' ext (v0 + 1) b' o (by simp) (Nat.le_refl _) hroomy (fun _ => ⟨rfl, fun _ => ⟨rfl, by omega, hcx⟩⟩)
    ·have o1 := sc hS (w.drawn + 1) (Nat.le_succ _)
     obtain ⟨a3, cap3, co, hs', ro, col, orel⟩ := qv (P := P) o1.sim (hs2.mono o1.ext) hsE hold
     have hxx : Bears g { w with drawn := w.drawn + 1 } g w := ⟨fun _ _ h => ⟨h, rfl⟩, fun _ l h => ⟨l, h, LocLe.refl l⟩⟩
     have htl : (es.take len).length = old.length := by rw [(al hold).1]
     rw [htl] at ro col
     obtain ⟨nc, w1, hnc, hheap, o1, cells, hcs, hrun, hrel⟩ := je (ty := ty) hS (es := old) ht hu hsz hby hz hzl hzc hb0 (by rw [hol]) ⟨co, ro, col, fun j e' q y hj hy => by
      obtain ⟨y', e1, e2⟩ := orel j e' q y hj hy
      exact ⟨y', e1, e2.bear hxx⟩⟩ hx hxe hnew (by rw [hol]; exact hroom) (by rw [hol]; omega)
     rw [← hheap] at hrun
     obtain ⟨g', o2, r2⟩ := se o1.sim (sz := s') (ver := v0 + 1) (nc := nc) (len := len) e (id := id) (fun h => by rw [hφ] at h; cases h) (fun l' hl' => by
      rw [hφ] at hl'; cases hl'; exact (show _ ∧ _ from ⟨by omega, fun h => absurd h (by omega)⟩)) (H.set id (.arr (old ++ new) (v0 + 1))) (.inr ⟨hid, by rw [hφ]; simp, rfl⟩) hold hnew hol (by rw [← hol]; exact hnc) hcs (fun j e' q y hj hy => by
       obtain ⟨y', e1, e2⟩ := hrel j e' q y hj hy
       exact ⟨y', e1, e2.mono o1.ext⟩)
     rw [hol] at hrun
     exact ⟨_, _, _, hrun, o1.trans o2, r2⟩
  | _ => simp [hH] at ha
 | _ => simp at ha
end
end Go.E
