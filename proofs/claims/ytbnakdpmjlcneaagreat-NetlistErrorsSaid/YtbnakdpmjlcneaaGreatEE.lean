/- A calculus of what code of E comes to. Own work. -/
import Derived.Test.YtbnakdpmjlcneaaGreatED
set_option linter.all false
namespace Go.E
section
variable {cx : Cx} {fx : Fx}

def Ev (cx : Cx) (fx : Fx) (c : Code) (ρ : Env) (H : Heap) (Q : Ex → Env → Heap → Prop) : Prop :=
  ∃ ex ρ' H', evCode cx fx loopw (callw cx) c ρ H = some (ex, ρ', H') ∧ Q ex ρ' H'
def Lp (cx : Cx) (fx : Fx) (c : Code) (ρ : Env) (H : Heap) (Q : Ex → Env → Heap → Prop) : Prop :=
  ∃ ex ρ' H', loopw (evCode cx fx loopw (callw cx) c) ρ H = some (ex, ρ', H') ∧ Q ex ρ' H'
def EvO (cx : Cx) (fx : Fx) (ops : Array Oper) (l : List Oper) (ρ : Env) (H : Heap) (K : Env → Heap → Prop) : Prop :=
  ∃ ρ' H', evOps cx fx (callw cx) ops l ρ H = some (ρ', H') ∧ K ρ' H'
def thenQ (cx : Cx) (fx : Fx) (c : Code) (Q : Ex → Env → Heap → Prop) : Ex → Env → Heap → Prop
  | .normal, ρ, H => Ev cx fx c ρ H Q
  | ex, ρ, H => Q ex ρ H
def blockQ (id : Nat) (Q : Ex → Env → Heap → Prop) : Ex → Env → Heap → Prop
  | .exit id', ρ, H => Q (if id' = id then .normal else .exit id') ρ H
  | ex, ρ, H => Q ex ρ H
def loopQ (cx : Cx) (fx : Fx) (c : Code) (Q : Ex → Env → Heap → Prop) : Ex → Env → Heap → Prop
  | .normal, ρ, H => Lp cx fx c ρ H Q
  | ex, ρ, H => Q ex ρ H

theorem Ev.mono {c : Code} {ρ : Env} {H : Heap} {Q Q' : Ex → Env → Heap → Prop} (h : Ev cx fx c ρ H Q) (hq : ∀ ex ρ' H', Q ex ρ' H' → Q' ex ρ' H') : Ev cx fx c ρ H Q' := by
  obtain ⟨ex, ρ', H', h1, h2⟩ := h; exact ⟨ex, ρ', H', h1, hq _ _ _ h2⟩
theorem Lp.mono {c : Code} {ρ : Env} {H : Heap} {Q Q' : Ex → Env → Heap → Prop} (h : Lp cx fx c ρ H Q) (hq : ∀ ex ρ' H', Q ex ρ' H' → Q' ex ρ' H') : Lp cx fx c ρ H Q' := by
  obtain ⟨ex, ρ', H', h1, h2⟩ := h; exact ⟨ex, ρ', H', h1, hq _ _ _ h2⟩

section
variable {ρ : Env} {H : Heap} {Q : Ex → Env → Heap → Prop}
theorem ev_skip (h : Q .normal ρ H) : Ev cx fx .skip ρ H Q := ⟨_, _, _, rfl, h⟩
theorem ev_label {l : Nat} (h : Q .normal ρ H) : Ev cx fx (.label l) ρ H Q := ⟨_, _, _, rfl, h⟩
theorem ev_exit {id : Nat} (h : Q (.exit id) ρ H) : Ev cx fx (.exit id) ρ H Q := ⟨_, _, _, rfl, h⟩
theorem ev_ret (h : Q .ret ρ H) : Ev cx fx .ret ρ H Q := ⟨_, _, _, rfl, h⟩
theorem ev_scope {c : Code} (h : Ev cx fx c ρ H Q) : Ev cx fx (.scope c) ρ H Q := h
theorem ev_seq {a b : Code} (h : Ev cx fx a ρ H (thenQ cx fx b Q)) : Ev cx fx (.seq a b) ρ H Q := by
  obtain ⟨ex, ρ', H', h1, h2⟩ := h
  cases ex with
  | normal =>
    obtain ⟨ex2, ρ2, H2, h3, h4⟩ := h2
    exact ⟨ex2, ρ2, H2, by simp only [evCode, h1, h3], h4⟩
  | _ => exact ⟨_, ρ', H', by simp only [evCode, h1], h2⟩
theorem ev_region {id : Nat} {ops : Array Oper} (h : EvO cx fx ops ops.toList ρ H (Q .normal)) : Ev cx fx (.region id ops false) ρ H Q := by
  obtain ⟨ρ', H', h1, h2⟩ := h
  exact ⟨_, ρ', H', by simp only [evCode, h1, Bool.false_eq_true, if_false, Option.map_some], h2⟩
theorem ev_block {id : Nat} {c : Code} (h : Ev cx fx c ρ H (blockQ id Q)) : Ev cx fx (.block id c) ρ H Q := by
  obtain ⟨ex, ρ', H', h1, h2⟩ := h
  cases ex with
  | exit id' => exact ⟨_, ρ', H', by simp only [evCode, h1], h2⟩
  | _ => exact ⟨_, ρ', H', by simp only [evCode, h1], h2⟩
theorem ev_cond {o : Operand} {x y : Code} (b : Bool) (hb : opnd ρ o = .bool b) (ht : b = true → Ev cx fx x ρ H Q) (hf : b = false → Ev cx fx y ρ H Q) : Ev cx fx (.cond o x y) ρ H Q := by
  cases b with
  | true => obtain ⟨ex, ρ', H', h1, h2⟩ := ht rfl; exact ⟨ex, ρ', H', by simp only [evCode, hb, h1], h2⟩
  | false => obtain ⟨ex, ρ', H', h1, h2⟩ := hf rfl; exact ⟨ex, ρ', H', by simp only [evCode, hb, h1], h2⟩
theorem ev_loop {c : Code} (h : Lp cx fx c ρ H Q) : Ev cx fx (.loop c) ρ H Q := h
theorem lp_round {c : Code} (h : Ev cx fx c ρ H (loopQ cx fx c Q)) : Lp cx fx c ρ H Q := by
  obtain ⟨ex, ρ', H', h1, h2⟩ := h
  cases ex with
  | normal =>
    obtain ⟨ex2, ρ2, H2, h3, h4⟩ := h2
    exact ⟨ex2, ρ2, H2, loopw_go h1 h3, h4⟩
  | _ => exact ⟨_, ρ', H', loopw_end h1 (by simp), h2⟩

theorem evo_nil {ops : Array Oper} {K : Env → Heap → Prop} : EvO cx fx ops [] ρ H K ↔ K ρ H := by
  constructor
  · rintro ⟨ρ', H', h1, h2⟩; simp [evOps] at h1; obtain ⟨rfl, rfl⟩ := h1; exact h2
  · exact fun h => ⟨ρ, H, rfl, h⟩

/-- Behind an operation. -/
def putK (n : Nat) (dst : Option Nat) (v : V) (ρ : Env) (K : Env → Prop) : Prop :=
  match dst with
  | none => K ρ
  | some d => d < n ∧ K (ρ.put d v)
def gotK (r : Option (V × Heap)) (K : V → Heap → Prop) : Prop :=
  match r with
  | some (v, H) => K v H
  | none => False
def wantK (b : Option Bool) (A B : Prop) : Prop :=
  match b with
  | some true => A
  | some false => B
  | none => False
theorem gotK_some {v : V} {H : Heap} {K : V → Heap → Prop} : gotK (some (v, H)) K ↔ K v H := Iff.rfl

theorem evo_cons {ops : Array Oper} {o : Oper} {r : List Oper} {K : Env → Heap → Prop} :
    EvO cx fx ops (o :: r) ρ H K ↔ wantK (wantedV ops o ρ) (gotK (evOp cx fx (callw cx) o ρ H) fun v H' => putK fx.n o.dst v ρ fun ρ' => EvO cx fx ops r ρ' H' K)
      (putK fx.n o.dst .skip ρ fun ρ' => EvO cx fx ops r ρ' H K) := by
  unfold EvO
  simp only [evOps, evOper]
  cases hw : wantedV ops o ρ with
  | none => simp [wantK]
  | some b =>
    cases b with
    | true =>
      simp only [Option.bind_some, if_true, wantK]
      cases ho : evOp cx fx (callw cx) o ρ H with
      | none => simp [gotK]
      | some r =>
        obtain ⟨v, H1⟩ := r
        simp only [Option.bind_some, gotK, putK]
        cases o.dst with
        | none => simp
        | some d =>
          simp only
          by_cases hd : d < fx.n
          · simp [hd]
          · simp [hd]
    | false =>
      simp only [Option.bind_some, Bool.false_eq_true, if_false, wantK, putK]
      cases o.dst with
      | none => simp
      | some d =>
        simp only
        by_cases hd : d < fx.n
        · simp [hd]
        · simp [hd]
end

/-- A function that cuts back: its contract from its code. -/
theorem call_of {f : Nat} {fn : Func} {c : Code} (hk : cx.keep f = false) (hf : cx.P.funcs[f]? = some fn) (hb : fn.body = some c) {bs : List Nat} {args : List V} {H : Heap} {v : V} {H' : Heap}
    (h : Ev cx ⟨args.length + (fn.ntmps - args.length), H.length :: bs⟩ c (fun i => (args.map V.norm).getD i .undef) H
      fun ex ρ H1 => (match ex with | .exit _ => False | _ => True) ∧ ∃ vs ws, resultsV cx.P fn ρ H1 = some vs ∧ vs.mapM (frz 6 H.length H1) = some ws ∧ packV ws = v ∧ H1.take H.length = H') :
    callw cx bs f args H = some (v, H') := by
  obtain ⟨ex, ρ, H1, h1, h2, vs, ws, h3, h4, h5, h6⟩ := h
  refine callw_body ?_
  unfold evBody
  simp only [hf, hb, hk, Bool.false_eq_true, if_false, h1, Option.bind_some]
  cases ex with
  | exit _ => exact h2.elim
  | normal => simp only [h3, Option.bind_some, h4, Option.map_some, h5, h6]
  | ret => simp only [h3, Option.bind_some, h4, Option.map_some, h5, h6]
attribute [irreducible] Ev EvO Lp thenQ blockQ loopQ
end
end Go.E
/- E, step by step, for simp. Own work. -/
namespace Go.E
section
variable {cx : Cx} {fx : Fx} {call : CallSem} {ρ : Env} {H : Heap} {dst : Option Nat} {ty : TypeId} {pos : String} {aft : Array Edge} {gd : Option (Nat × Bool)}

theorem put_get (ρ : Env) (d i : Nat) (v : V) : (ρ.put d v) i = if i = d then v else ρ i := rfl
theorem eo_move {x : Operand} : evOp cx fx call ⟨dst, .move x, ty, pos, aft, gd⟩ ρ H = some (opnd ρ x, H) := rfl
theorem eo_asg_tmp {t : Nat} : evOp cx fx call ⟨dst, .assign (.tmp t), ty, pos, aft, gd⟩ ρ H = some (ρ t, H) := rfl
theorem eo_asg_int {k : IntKind} {n : Int} : evOp cx fx call ⟨dst, .assign (.const (.int k n)), ty, pos, aft, gd⟩ ρ H = some (.int k n, H) := by simp [evOp, opnd, ofVal, ofVal1]
theorem eo_asg_bool {b : Bool} : evOp cx fx call ⟨dst, .assign (.const (.bool b)), ty, pos, aft, gd⟩ ρ H = some (.bool b, H) := by simp [evOp, opnd, ofVal, ofVal1]
theorem eo_asg_str {s : ByteArray} : evOp cx fx call ⟨dst, .assign (.const (.string s)), ty, pos, aft, gd⟩ ρ H = some (.str s, H) := by simp [evOp, opnd, ofVal, ofVal1]
theorem eo_asg_nilf : evOp cx fx call ⟨dst, .assign (.const .nilFunc), ty, pos, aft, gd⟩ ρ H = some (.nilF, H) := by simp [evOp, opnd, ofVal, ofVal1]
theorem eo_asg_nilp : evOp cx fx call ⟨dst, .assign (.const (.pointer none)), ty, pos, aft, gd⟩ ρ H = some (.nilP, H) := by simp [evOp, opnd, ofVal, ofVal1]
theorem eo_asg_nilm : evOp cx fx call ⟨dst, .assign (.const (.map none)), ty, pos, aft, gd⟩ ρ H = some (.nilM, H) := by simp [evOp, opnd, ofVal, ofVal1]
theorem eo_asg_func {f : Nat} : evOp cx fx call ⟨dst, .assign (.func f), ty, pos, aft, gd⟩ ρ H = some (.func f [], H) := rfl
theorem eo_asg_agg {cs : Array Value} : evOp cx fx call ⟨dst, .assign (.const (.agg cs)), ty, pos, aft, gd⟩ ρ H = some (.agg (cs.toList.map ofVal1), H) := by simp [evOp, opnd, ofVal, ofVal1]
theorem eo_asg_nils : evOp cx fx call ⟨dst, .assign (.const (.slice none 0 0)), ty, pos, aft, gd⟩ ρ H =
    (match cx.P.underlying ty with | some (.slice _) => some (.tl H.length [], H ++ [.tok 0]) | _ => some (.nilS, H)) := by
  cases hu : cx.P.underlying ty with
  | none => simp [evOp, hu, opnd, ofVal, ofVal1]
  | some d => cases d <;> simp [evOp, hu, opnd, ofVal, ofVal1]
theorem eo_pick {c a b : Operand} : evOp cx fx call ⟨dst, .pick c a b, ty, pos, aft, gd⟩ ρ H =
    (match opnd ρ c with | .bool true => some (opnd ρ a, H) | .bool false => some (opnd ρ b, H) | _ => none) := rfl
theorem eo_pick_b {c a b : Operand} {t : Bool} (h : opnd ρ c = .bool t) : evOp cx fx call ⟨dst, .pick c a b, ty, pos, aft, gd⟩ ρ H = some (if t = true then opnd ρ a else opnd ρ b, H) := by
  rw [eo_pick, h]; cases t <;> rfl
theorem eo_load {t : TypeId} {a : Operand} : evOp cx fx call ⟨dst, .load t a, ty, pos, aft, gd⟩ ρ H = (loadV cx.P t (opnd ρ a) H).map (·, H) := rfl
theorem eo_store {t : TypeId} {a x : Operand} : evOp cx fx call ⟨dst, .store t a x, ty, pos, aft, gd⟩ ρ H = (storeV cx.P fx.bs t (opnd ρ a) (opnd ρ x) H).map (V.undef, ·) := rfl
theorem eo_alloc {t : TypeId} : evOp cx fx call ⟨dst, .alloc t, ty, pos, aft, gd⟩ ρ H = (zeroT cx.P t).bind fun z => if z.cells.all V.isCell then some (.ptr H.length 0, H ++ [.cells z.cells]) else none := rfl
theorem eo_box {t : TypeId} {x : Operand} : evOp cx fx call ⟨dst, .box t x, ty, pos, aft, gd⟩ ρ H = if (opnd ρ x).cells.all V.isCell then some (.ptr H.length 0, H ++ [.cells (opnd ρ x).cells]) else none := rfl
theorem eo_build {t : TypeId} {parts : Array (Nat × Operand)} : evOp cx fx call ⟨dst, .build t parts, ty, pos, aft, gd⟩ ρ H = (buildV cx.P t (parts.toList.map fun q => (q.1, opnd ρ q.2))).map (·, H) := rfl
theorem eo_buildSlice {t : TypeId} {len : Nat} {parts : Array (Nat × Operand)} : evOp cx fx call ⟨dst, .buildSlice t len parts, ty, pos, aft, gd⟩ ρ H =
    (elemT cx.P t).bind fun el => (sizeT cx.P el).bind fun sz =>
      if sz ≠ 0 ∧ parts.toList.map (·.1) = List.range len ∧ len * sz ≤ 16777216 ∧ (zeroT cx.P el).isSome = true then
        (takeElems sz (parts.toList.map fun q => opnd ρ q.2)).map fun es =>
          if len = 0 then (.tl H.length [], H ++ [.tok 0]) else if cx.own t = true then (.tl H.length es, H ++ [.tok len]) else (.list es, H)
      else none := rfl
theorem eo_makeFunc {f : Nat} {caps : Array Operand} : evOp cx fx call ⟨dst, .makeFunc (.func f) #[] caps, ty, pos, aft, gd⟩ ρ H = some (.func f (caps.toList.map (opnd ρ)), H) := rfl
theorem eo_nilCheck {x : Operand} : evOp cx fx call ⟨dst, .nilCheck x, ty, pos, aft, gd⟩ ρ H =
    (match opnd ρ x with
    | .ptr id off => some (.ptr id off, H)
    | .eptr cs off => some (.eptr cs off, H)
    | .aptr id ver i off => some (.aptr id ver i off, H)
    | .func f caps => some (.func f caps, H)
    | _ => none) := rfl
theorem eo_extract {x : Operand} {i : Nat} : evOp cx fx call ⟨dst, .extract x i, ty, pos, aft, gd⟩ ρ H = (match opnd ρ x with | .tuple vs => (vs[i]?).map (·, H) | _ => none) := rfl
theorem eo_makeSlice {t : TypeId} {l c : Operand} : evOp cx fx call ⟨dst, .makeSlice t l c, ty, pos, aft, gd⟩ ρ H =
    (elemT cx.P t).bind fun el => (sizeT cx.P el).bind fun sz => (bytesT cx.P el).bind fun by_ => (zeroT cx.P el).bind fun z =>
      match opnd ρ l, opnd ρ c with
      | .int _ n, .int _ m =>
        if n = m ∧ 0 ≤ n ∧ n.toNat * by_ ≤ roomB ∧ n ≤ roomB ∧ sz ≠ 0 ∧ z.cells.length = sz ∧ z.cells.all V.isCell = true ∧ z.pure = true then
          some (.ref sz H.length 0 0 n.toNat, H ++ [.arr (List.replicate n.toNat z) 0]) else none
      | _, _ => none := rfl
theorem eb_min {c : Callee} {xs : Array Operand} {ts : Array TypeId} : evBuiltin cx .min ⟨c, xs, ts⟩ ρ H = (minmax false (xs.toList.map (opnd ρ))).map (·, H) := by unfold evBuiltin; rfl
theorem eb_max {c : Callee} {xs : Array Operand} {ts : Array TypeId} : evBuiltin cx .max ⟨c, xs, ts⟩ ρ H = (minmax true (xs.toList.map (opnd ρ))).map (·, H) := by unfold evBuiltin; rfl
theorem minmax2 {m : Bool} {k k' : IntKind} {x y : Int} : minmax m [.int k x, .int k' y] = some (.int k (if m then (if x < y then y else x) else (if y < x then y else x))) := by simp [minmax]
theorem eo_binOp {op : BinOp} {t : TypeId} {x y : Operand} {u : TypeId} : evOp cx fx call ⟨dst, .binOp op t x y u, ty, pos, aft, gd⟩ ρ H = (binOpV cx.P op t (opnd ρ x) (opnd ρ y)).map (·, H) := rfl
theorem eo_unOp {op : UnOp} {t : TypeId} {x : Operand} : evOp cx fx call ⟨dst, .unOp op t x, ty, pos, aft, gd⟩ ρ H = (unOpV op (opnd ρ x)).map (·, H) := rfl
theorem eo_conv {s d : TypeId} {x : Operand} : evOp cx fx call ⟨dst, .convert s d x, ty, pos, aft, gd⟩ ρ H = (convV cx.P s d (opnd ρ x)).map (·, H) := rfl
theorem eo_slice {t : TypeId} {x : Operand} {lo hi mx : Option Operand} : evOp cx fx call ⟨dst, .slice t x lo hi mx, ty, pos, aft, gd⟩ ρ H = (sliceV cx.P t (opnd ρ x) (lo.map (opnd ρ)) (hi.map (opnd ρ)) (mx.map (opnd ρ))).map (·, H) := rfl
theorem eo_fieldAddr {t : TypeId} {x : Operand} {j : Nat} : evOp cx fx call ⟨dst, .fieldAddr t x j, ty, pos, aft, gd⟩ ρ H = (fieldAddrV cx.P t (opnd ρ x) j).map (·, H) := rfl
theorem eo_field {t : TypeId} {x : Operand} {j : Nat} : evOp cx fx call ⟨dst, .field t x j, ty, pos, aft, gd⟩ ρ H = (fieldV cx.P t (opnd ρ x) j).map (·, H) := rfl
theorem eo_indexAddr {t : TypeId} {x i : Operand} : evOp cx fx call ⟨dst, .indexAddr t x i, ty, pos, aft, gd⟩ ρ H = (indexAddrV cx.P t (opnd ρ x) (opnd ρ i)).map (·, H) := rfl
theorem eo_index {t : TypeId} {x i : Operand} : evOp cx fx call ⟨dst, .index t x i, ty, pos, aft, gd⟩ ρ H = (indexV cx.P t (opnd ρ x) (opnd ρ i)).map (·, H) := rfl
theorem eo_lookup {t : TypeId} {m k : Operand} {ok : Bool} : evOp cx fx call ⟨dst, .lookup t m k ok, ty, pos, aft, gd⟩ ρ H = (lookupV cx.P t (opnd ρ m) (opnd ρ k) ok H).map (·, H) := rfl
theorem eo_mapUpdate {t : TypeId} {m k v : Operand} : evOp cx fx call ⟨dst, .mapUpdate t m k v, ty, pos, aft, gd⟩ ρ H = (mapUpdateV cx.P fx.bs t (opnd ρ m) (opnd ρ k) (opnd ρ v) H).map (V.undef, ·) := rfl
theorem eo_makeMap {t : TypeId} : evOp cx fx call ⟨dst, .makeMap t none, ty, pos, aft, gd⟩ ρ H = some (.map H.length, H ++ [.map []]) := rfl
theorem eo_call {f : Operand} {args : Array Operand} {tys : Array TypeId} : evOp cx fx call ⟨dst, .call ⟨.value f, args, tys⟩, ty, pos, aft, gd⟩ ρ H =
    (evCallee ρ f).bind fun g => call fx.bs g.1 (args.toList.map (opnd ρ) ++ g.2) H := rfl
theorem eo_callee_f {f : Nat} : evCallee ρ (.func f) = some (f, []) := rfl
theorem eo_callee_t {t : Nat} : evCallee ρ (.tmp t) = (match ρ t with | .func g caps => some (g, caps) | _ => none) := rfl
theorem eo_builtin {b : Builtin} {args : Array Operand} {tys : Array TypeId} : evOp cx fx call ⟨dst, .call ⟨.builtin b, args, tys⟩, ty, pos, aft, gd⟩ ρ H = evBuiltin cx b ⟨.builtin b, args, tys⟩ ρ H := rfl
theorem eb_len {c : Callee} {x : Operand} {t : TypeId} : evBuiltin cx .len ⟨c, #[x], #[t]⟩ ρ H =
    (match cx.P.underlying t, opnd ρ x with
    | some (.slice _), .nilS | some (.slice _), .list _ | some (.slice _), .tl _ _ | some (.slice _), .ref .. | some .string, .str _ => (lenV (opnd ρ x)).map fun n => (.int .i64 n, H)
    | some (.array n _), _ => some (.int .i64 n, H)
    | _, _ => none) := rfl
theorem eb_append {c : Callee} {s x : Operand} {t u : TypeId} : evBuiltin cx .append ⟨c, #[s, x], #[t, u]⟩ ρ H =
    (match cx.P.underlying u with | some (.slice _) => appendV cx.P t (opnd ρ s) (opnd ρ x) H | _ => none) := rfl
theorem op_tmp {t : Nat} : opnd ρ (.tmp t) = ρ t := rfl
theorem op_int {k : IntKind} {n : Int} : opnd ρ (.const (.int k n)) = .int k n := rfl
theorem op_bool {b : Bool} : opnd ρ (.const (.bool b)) = .bool b := rfl
theorem op_str {s : ByteArray} : opnd ρ (.const (.string s)) = .str s := rfl
theorem op_nils : opnd ρ (.const (.slice none 0 0)) = .nilS := rfl
theorem op_nilf : opnd ρ (.const .nilFunc) = .nilF := rfl
theorem op_nilp : opnd ρ (.const (.pointer none)) = .nilP := rfl
theorem op_agg {cs : Array Value} : opnd ρ (.const (.agg cs)) = .agg (cs.toList.map ofVal1) := rfl
theorem op_func {f : Nat} : opnd ρ (.func f) = .func f [] := rfl
theorem wv_none {ops : Array Oper} {op : Op} : wantedV ops ⟨dst, op, ty, pos, aft, none⟩ ρ = some true := rfl
theorem wv_some {ops : Array Oper} {op : Op} {j : Nat} {w : Bool} : wantedV ops ⟨dst, op, ty, pos, aft, some (j, w)⟩ ρ =
    (match (ops[j]?).bind (·.dst) with
    | none => some false
    | some d => match ρ d with | .bool b => some (b == w) | .skip => some false | _ => none) := rfl
theorem wantK_true {A B : Prop} : wantK (some true) A B ↔ A := Iff.rfl
theorem wantK_false {A B : Prop} : wantK (some false) A B ↔ B := Iff.rfl
theorem wantK_case {A B : Prop} (b : Bool) (h1 : b = true → A) (h2 : b = false → B) : wantK (some b) A B := by cases b; exact h2 rfl; exact h1 rfl
theorem putK_none {n : Nat} {v : V} {K : Env → Prop} : putK n none v ρ K ↔ K ρ := Iff.rfl
theorem putK_some {n d : Nat} {v : V} {K : Env → Prop} : putK n (some d) v ρ K ↔ d < n ∧ K (ρ.put d v) := Iff.rfl
theorem thenQ_normal {c : Code} {Q : Ex → Env → Heap → Prop} : thenQ cx fx c Q .normal ρ H ↔ Ev cx fx c ρ H Q := by unfold thenQ; rfl
theorem thenQ_exit {c : Code} {Q : Ex → Env → Heap → Prop} {id : Nat} : thenQ cx fx c Q (.exit id) ρ H ↔ Q (.exit id) ρ H := by unfold thenQ; rfl
theorem thenQ_ret {c : Code} {Q : Ex → Env → Heap → Prop} : thenQ cx fx c Q .ret ρ H ↔ Q .ret ρ H := by unfold thenQ; rfl
theorem blockQ_normal {id : Nat} {Q : Ex → Env → Heap → Prop} : blockQ id Q .normal ρ H ↔ Q .normal ρ H := by unfold blockQ; rfl
theorem blockQ_exit {id id' : Nat} {Q : Ex → Env → Heap → Prop} : blockQ id Q (.exit id') ρ H ↔ Q (if id' = id then .normal else .exit id') ρ H := by unfold blockQ; rfl
theorem blockQ_ret {id : Nat} {Q : Ex → Env → Heap → Prop} : blockQ id Q .ret ρ H ↔ Q .ret ρ H := by unfold blockQ; rfl
theorem loopQ_normal {c : Code} {Q : Ex → Env → Heap → Prop} : loopQ cx fx c Q .normal ρ H ↔ Lp cx fx c ρ H Q := by unfold loopQ; rfl
theorem loopQ_exit {c : Code} {Q : Ex → Env → Heap → Prop} {id : Nat} : loopQ cx fx c Q (.exit id) ρ H ↔ Q (.exit id) ρ H := by unfold loopQ; rfl
theorem loopQ_ret {c : Code} {Q : Ex → Env → Heap → Prop} : loopQ cx fx c Q .ret ρ H ↔ Q .ret ρ H := by unfold loopQ; rfl
/-- A value alone; a heap alone. -/
def gotV (r : Option V) (H : Heap) (K : V → Heap → Prop) : Prop := match r with | some v => K v H | none => False
def gotH (r : Option Heap) (K : V → Heap → Prop) : Prop := match r with | some H => K .undef H | none => False
theorem gotK_map {r : Option V} {K : V → Heap → Prop} : gotK (r.map (·, H)) K ↔ gotV r H K := by cases r <;> rfl
theorem gotK_mapH {r : Option Heap} {K : V → Heap → Prop} : gotK (r.map (V.undef, ·)) K ↔ gotH r K := by cases r <;> rfl
theorem gotV_some {v : V} {K : V → Heap → Prop} : gotV (some v) H K ↔ K v H := Iff.rfl
theorem gotH_some {K : V → Heap → Prop} : gotH (some H) K ↔ K .undef H := Iff.rfl
theorem bin_add {P : Program} {t : TypeId} {k : IntKind} {a b : Int} : binOpV P .add t (.int k a) (.int k b) = some (.int k (k.wrap (a + b))) := by simp [binOpV, intOp]
theorem bin_sub {P : Program} {t : TypeId} {k : IntKind} {a b : Int} : binOpV P .sub t (.int k a) (.int k b) = some (.int k (k.wrap (a - b))) := by simp [binOpV, intOp]
theorem bin_mul {P : Program} {t : TypeId} {k : IntKind} {a b : Int} : binOpV P .mul t (.int k a) (.int k b) = some (.int k (k.wrap (a * b))) := by simp [binOpV, intOp]
theorem bin_lss {P : Program} {t : TypeId} {k : IntKind} {a b : Int} : binOpV P .lss t (.int k a) (.int k b) = some (.bool (decide (a < b))) := by simp [binOpV, intOp]
theorem bin_leq {P : Program} {t : TypeId} {k : IntKind} {a b : Int} : binOpV P .leq t (.int k a) (.int k b) = some (.bool (decide (a ≤ b))) := by simp [binOpV, intOp]
theorem bin_gtr {P : Program} {t : TypeId} {k : IntKind} {a b : Int} : binOpV P .gtr t (.int k a) (.int k b) = some (.bool (decide (b < a))) := by simp [binOpV, intOp]
theorem bin_geq {P : Program} {t : TypeId} {k : IntKind} {a b : Int} : binOpV P .geq t (.int k a) (.int k b) = some (.bool (decide (b ≤ a))) := by simp [binOpV, intOp]
theorem bin_eql {P : Program} {t : TypeId} {k : IntKind} {a b : Int} : binOpV P .eql t (.int k a) (.int k b) = some (.bool (decide (a = b))) := by simp [binOpV, intOp]; by_cases h : a = b <;> simp [h]
theorem bin_neq {P : Program} {t : TypeId} {k : IntKind} {a b : Int} : binOpV P .neq t (.int k a) (.int k b) = some (.bool (decide (a ≠ b))) := by simp [binOpV, intOp]; by_cases h : a = b <;> simp [h]
theorem bin_and {P : Program} {t : TypeId} {k : IntKind} {a b : Int} : binOpV P .and t (.int k a) (.int k b) = some (.int k (bitsI .and k a b)) := by simp [binOpV, intOp]
theorem bin_or {P : Program} {t : TypeId} {k : IntKind} {a b : Int} : binOpV P .or t (.int k a) (.int k b) = some (.int k (bitsI .or k a b)) := by simp [binOpV, intOp]
theorem bin_xor {P : Program} {t : TypeId} {k : IntKind} {a b : Int} : binOpV P .xor t (.int k a) (.int k b) = some (.int k (bitsI .xor k a b)) := by simp [binOpV, intOp]
theorem bin_quo {P : Program} {t : TypeId} {k : IntKind} {a b : Int} (h : b ≠ 0) : binOpV P .quo t (.int k a) (.int k b) = some (.int k (k.wrap (a.tdiv b))) := by simp [binOpV, intOp, h]
theorem bin_rem {P : Program} {t : TypeId} {k : IntKind} {a b : Int} (h : b ≠ 0) : binOpV P .rem t (.int k a) (.int k b) = some (.int k (a.tmod b)) := by simp [binOpV, intOp, h]
theorem bin_seql {P : Program} {t : TypeId} {a b : ByteArray} : binOpV P .eql t (.str a) (.str b) = some (.bool (decide (a = b))) := by simp [binOpV, strOp]
theorem bin_sneq {P : Program} {t : TypeId} {a b : ByteArray} : binOpV P .neq t (.str a) (.str b) = some (.bool (!decide (a = b))) := by simp [binOpV, strOp]
theorem un_not {b : Bool} : unOpV .not (.bool b) = some (.bool !b) := rfl
theorem un_neg {k : IntKind} {n : Int} : unOpV .neg (.int k n) = some (.int k (k.wrap (0 - n))) := rfl
end

section
variable {cx : Cx} {fx : Fx} {ρ : Env} {H : Heap} {dst : Option Nat} {ty : TypeId} {pos : String} {aft : Array Edge} {gd : Option (Nat × Bool)} {ops : Array Oper} {r : List Oper} {op : Op} {K : Env → Heap → Prop}
theorem evo_end (h : K ρ H) : EvO cx fx ops [] ρ H K := evo_nil.2 h
theorem evo_op {d : Nat} {v : V} {H1 : Heap} (hw : wantedV ops ⟨some d, op, ty, pos, aft, gd⟩ ρ = some true) (ho : evOp cx fx (callw cx) ⟨some d, op, ty, pos, aft, gd⟩ ρ H = some (v, H1)) (hd : d < fx.n)
    (h : EvO cx fx ops r (ρ.put d v) H1 K) : EvO cx fx ops (⟨some d, op, ty, pos, aft, gd⟩ :: r) ρ H K := by
  rw [evo_cons, hw, ho]; exact ⟨hd, h⟩
theorem evo_op0 {v : V} {H1 : Heap} (hw : wantedV ops ⟨none, op, ty, pos, aft, gd⟩ ρ = some true) (ho : evOp cx fx (callw cx) ⟨none, op, ty, pos, aft, gd⟩ ρ H = some (v, H1))
    (h : EvO cx fx ops r ρ H1 K) : EvO cx fx ops (⟨none, op, ty, pos, aft, gd⟩ :: r) ρ H K := by
  rw [evo_cons, hw, ho]; exact h
theorem evo_off {d : Nat} (hw : wantedV ops ⟨some d, op, ty, pos, aft, gd⟩ ρ = some false) (hd : d < fx.n) (h : EvO cx fx ops r (ρ.put d .skip) H K) : EvO cx fx ops (⟨some d, op, ty, pos, aft, gd⟩ :: r) ρ H K := by
  rw [evo_cons, hw]; exact ⟨hd, h⟩
theorem evo_off0 (hw : wantedV ops ⟨none, op, ty, pos, aft, gd⟩ ρ = some false) (h : EvO cx fx ops r ρ H K) : EvO cx fx ops (⟨none, op, ty, pos, aft, gd⟩ :: r) ρ H K := by
  rw [evo_cons, hw]; exact h
/-- A guard that is not known yet: two ways, in which the truth is known in its place. -/
theorem evo_split {o : Oper} (b : Bool) (A B : Prop) (_ : wantedV ops o ρ = some b) (h1 : b = true → EvO cx fx ops (o :: r) ρ H K) (h2 : b = false → EvO cx fx ops (o :: r) ρ H K) : EvO cx fx ops (o :: r) ρ H K := by
  cases b; exact h2 rfl; exact h1 rfl
end

/-- The frame when a call begins. -/
def fr (l : List V) : Env := fun i => l.getD i .undef
theorem fr_zero (v : V) (l : List V) : fr (v :: l) 0 = v := rfl
theorem fr_succ (v : V) (l : List V) (i : Nat) : fr (v :: l) (i + 1) = fr l i := by simp [fr]
theorem fr_nil (i : Nat) : fr [] i = .undef := by simp [fr]

theorem call_of' {cx : Cx} {f N : Nat} {fn : Func} {c : Code} {bs : List Nat} {args : List V} {H : Heap} {v : V} {H' : Heap} (hk : cx.keep f = false) (hf : cx.P.funcs[f]? = some fn) (hb : fn.body = some c)
    (hN : args.length + (fn.ntmps - args.length) = N) {rs : List ResultVar} (hr : fn.results.toList = rs)
    (h : Ev cx ⟨N, H.length :: bs⟩ c (fr (args.map V.norm)) H
      fun ex ρ H1 => (match ex with | .exit _ => False | _ => True) ∧ ∃ vs ws, (rs.mapM fun (r : ResultVar) => match r with | .tmp t => some (ρ t) | .cell a t => loadV cx.P t (ρ a) H1) = some vs ∧ vs.mapM (frz 6 H.length H1) = some ws ∧ packV ws = v ∧ H1.take H.length = H') :
    callw cx bs f args H = some (v, H') := by
  subst hN; subst hr
  exact call_of hk hf hb h

theorem wrap64 {n : Int} (h1 : -9223372036854775808 ≤ n) (h2 : n ≤ 9223372036854775807) : IntKind.i64.wrap n = n := by
  unfold IntKind.wrap
  simp [IntKind.bits, IntKind.signed]
  omega

attribute [push_cast] eo_buildSlice eo_makeFunc eo_nilCheck eo_extract eo_makeSlice eb_min eb_max minmax2 gotK_some put_get eo_move eo_asg_tmp eo_asg_int eo_asg_bool eo_asg_str eo_asg_nilf eo_asg_nilp eo_asg_nilm eo_asg_func eo_asg_agg eo_asg_nils eo_load eo_store eo_alloc eo_box eo_build eo_binOp eo_unOp eo_conv eo_slice
  eo_fieldAddr eo_field eo_indexAddr eo_index eo_lookup eo_mapUpdate eo_makeMap eo_call eo_callee_f eo_callee_t eo_builtin eb_len eb_append op_tmp op_int op_bool op_str op_nils op_nilf op_nilp op_agg op_func wv_none wv_some wantK_true wantK_false
  putK_none putK_some thenQ_normal thenQ_exit thenQ_ret blockQ_normal blockQ_exit blockQ_ret loopQ_normal loopQ_exit loopQ_ret gotK_map gotK_mapH gotV_some gotH_some fr_zero fr_succ fr_nil
  bin_add bin_sub bin_mul bin_lss bin_leq bin_gtr bin_geq bin_eql bin_neq bin_and bin_or bin_xor bin_quo bin_rem bin_seql bin_sneq un_not un_neg
end Go.E
/- E, step by step: what is handed back; the heap of a call. Own work. -/
namespace Go.E

def resV (P : Program) (ρ : Env) (H : Heap) : ResultVar → Option V
  | .tmp t => some (ρ t)
  | .cell a t => loadV P t (ρ a) H

section
variable {cx : Cx} {ρ : Env} {H1 H' : Heap} {n0 : Nat} {ex : Ex}
/-- What a function's end owes. -/
def Leaf (cx : Cx) (rs : List ResultVar) (n0 : Nat) (v : V) (H' : Heap) (ex : Ex) (ρ : Env) (H1 : Heap) : Prop :=
  (match ex with | .exit _ => False | _ => True) ∧ ∃ vs ws, (rs.mapM (resV cx.P ρ H1)) = some vs ∧ vs.mapM (frz 6 n0 H1) = some ws ∧ packV ws = v ∧ H1.take n0 = H'

theorem call_at {cx : Cx} {f N : Nat} {fn : Func} {c : Code} {bs : List Nat} {args args' : List V} {H : Heap} {v : V} {H' : Heap} (hk : cx.keep f = false) (hf : cx.P.funcs[f]? = some fn) (hb : fn.body = some c)
    (hN : args.length + (fn.ntmps - args.length) = N) {rs : List ResultVar} (hr : fn.results.toList = rs) (ha : args.map V.norm = args')
    (h : Ev cx ⟨N, H.length :: bs⟩ c (fr args') H (Leaf cx rs H.length v H')) : callw cx bs f args H = some (v, H') := by
  subst ha
  refine call_of' hk hf hb hN hr (h.mono fun ex ρ' H1 hl => ?_)
  obtain ⟨h1, vs, ws, h2, h3⟩ := hl
  refine ⟨h1, vs, ws, ?_, h3⟩
  rw [← h2]
  congr 1

theorem leaf0 {v : V} (he : ∀ id, ex ≠ .exit id) (hv : v = .undef) (hh : H1.take n0 = H') : Leaf cx [] n0 v H' ex ρ H1 := by
  refine ⟨?_, [], [], rfl, rfl, hv.symm, hh⟩
  cases ex with
  | exit id => exact absurd rfl (he id)
  | _ => trivial
theorem leaf1 {r : ResultVar} {u v : V} (he : ∀ id, ex ≠ .exit id) (h1 : resV cx.P ρ H1 r = some u) (h2 : frz 6 n0 H1 u = some v) (hh : H1.take n0 = H') : Leaf cx [r] n0 v H' ex ρ H1 := by
  refine ⟨?_, [u], [v], by simp [h1], by simp [h2], rfl, hh⟩
  cases ex with
  | exit id => exact absurd rfl (he id)
  | _ => trivial
theorem leaf2 {r1 r2 : ResultVar} {u1 u2 v1 v2 : V} (he : ∀ id, ex ≠ .exit id) (h1 : resV cx.P ρ H1 r1 = some u1) (h2 : resV cx.P ρ H1 r2 = some u2) (h3 : frz 6 n0 H1 u1 = some v1) (h4 : frz 6 n0 H1 u2 = some v2) (hh : H1.take n0 = H') :
    Leaf cx [r1, r2] n0 (.tuple [v1, v2]) H' ex ρ H1 := by
  refine ⟨?_, [u1, u2], [v1, v2], by simp [h1, h2], by simp [h3, h4], rfl, hh⟩
  cases ex with
  | exit id => exact absurd rfl (he id)
  | _ => trivial
theorem leaf3 {r1 r2 r3 : ResultVar} {u1 u2 u3 v1 v2 v3 : V} (he : ∀ id, ex ≠ .exit id) (h1 : resV cx.P ρ H1 r1 = some u1) (h2 : resV cx.P ρ H1 r2 = some u2) (h5 : resV cx.P ρ H1 r3 = some u3) (h3 : frz 6 n0 H1 u1 = some v1) (h4 : frz 6 n0 H1 u2 = some v2)
    (h6 : frz 6 n0 H1 u3 = some v3) (hh : H1.take n0 = H') : Leaf cx [r1, r2, r3] n0 (.tuple [v1, v2, v3]) H' ex ρ H1 := by
  refine ⟨?_, [u1, u2, u3], [v1, v2, v3], by simp [h1, h2, h5], by simp [h3, h4, h6], rfl, hh⟩
  cases ex with
  | exit id => exact absurd rfl (he id)
  | _ => trivial

theorem frz_pure {d : Nat} {H : Heap} {v : V} (h : v.pure = true) : frz (d + 1) n0 H v = some v := by unfold frz; rw [if_pos h]
theorem frz_tl {d t : Nat} {H : Heap} {es : List V} : frz (d + 1) n0 H (.tl t es) = some (.list es) := by simp [frz, V.pure]
theorem resV_tmp {P : Program} {t : Nat} : resV P ρ H1 (.tmp t) = some (ρ t) := rfl
theorem resV_cell {P : Program} {a : Nat} {t : TypeId} : resV P ρ H1 (.cell a t) = loadV P t (ρ a) H1 := rfl
end

/-! ### The heap of a call: what was there, and its own -/
theorem heap_len (H : Heap) (l : List HObj) : (H ++ l).length = H.length + l.length := List.length_append
theorem heap_get0 (H : Heap) (x : HObj) (l : List HObj) : (H ++ x :: l)[H.length]? = some x := by simp
theorem heap_get (H : Heap) (l : List HObj) (k : Nat) : (H ++ l)[H.length + k]? = l[k]? := by
  rw [List.getElem?_append_right (by omega)]; congr 1; omega
theorem heap_set0 (H : Heap) (x y : HObj) (l : List HObj) : (H ++ x :: l).set H.length y = H ++ y :: l := by simp
theorem heap_set (H : Heap) (l : List HObj) (k : Nat) (y : HObj) : (H ++ l).set (H.length + k) y = H ++ l.set k y := by
  rw [List.set_append_right _ _ (by omega)]; congr 2; omega
theorem heap_take (H : Heap) (l : List HObj) : (H ++ l).take H.length = H := by simp
theorem heap_take0 (H : Heap) : H.take H.length = H := by simp
theorem heap_app (H : Heap) (l m : List HObj) : H ++ l ++ m = H ++ (l ++ m) := List.append_assoc _ _ _

/-- The bodies of a function's loops, in the order of the text. -/
def loops : Code → List Code
  | .seq a b => loops a ++ loops b
  | .cond _ a b => loops a ++ loops b
  | .block _ c | .scope c => loops c
  | .loop c => c :: loops c
  | _ => []
def loopAt (fn : Func) (k : Nat) : Code := ((fn.body.map loops).getD []).getD k .skip
theorem lp_any {cx : Cx} {fx : Fx} {c c' : Code} (h : c = c') {ρ : Env} {H : Heap} {Q : Ex → Env → Heap → Prop} (k : Lp cx fx c ρ H Q) : Lp cx fx c' ρ H Q := h ▸ k

attribute [irreducible] Leaf
attribute [push_cast] eo_pick frz_tl resV_tmp resV_cell heap_get0 heap_get heap_set0 heap_set heap_take heap_take0 heap_app beq_true beq_false
end Go.E
/- E, step by step: the set of rules for simp. Own work. -/
namespace Go.E
/-- A fact that simp is to leave alone. -/
structure Kp (p : Prop) : Prop where
  out : p
theorem add1 (i n : Nat) (h : i < n) (hn : n ≤ 1000000) : IntKind.i64.wrap ((i : Int) + 1) = ((i + 1 : Nat) : Int) := by rw [wrap64] <;> omega
theorem okStore_under {bs : List Nat} {id : Nat} {v : V} (h : ∀ n, v.under n = true) : okStore bs id v = true := by
  unfold okStore
  simp only [h, Bool.or_true, List.all_eq_true, Bool.or_eq_true]
  exact .inr fun _ _ => trivial
theorem okStore_bool {bs : List Nat} {id : Nat} {b : Bool} : okStore bs id (.bool b) = true := okStore_under fun _ => rfl
theorem okStore_int {bs : List Nat} {id : Nat} {k : IntKind} {n : Int} : okStore bs id (.int k n) = true := okStore_under fun _ => rfl
theorem okStore_str {bs : List Nat} {id : Nat} {s : ByteArray} : okStore bs id (.str s) = true := okStore_under fun _ => rfl
theorem okStore_list {bs : List Nat} {id : Nat} {es : List V} : okStore bs id (.list es) = true := okStore_under fun _ => rfl
theorem take_set (H : Heap) (i : Nat) (x : HObj) : (H.set i x).take H.length = H.set i x := List.take_of_length_le (by simp)
theorem vp_int {k : IntKind} {n : Int} : (V.int k n).pure = true := Eq.trans rfl rfl
theorem vp_bool {b : Bool} : (V.bool b).pure = true := Eq.trans rfl rfl
theorem vp_str {s : ByteArray} : (V.str s).pure = true := Eq.trans rfl rfl
theorem vp_nilS : V.nilS.pure = true := Eq.trans rfl rfl
theorem vp_nilP : V.nilP.pure = true := Eq.trans rfl rfl
theorem vp_nilF : V.nilF.pure = true := Eq.trans rfl rfl
theorem vp_nilM : V.nilM.pure = true := Eq.trans rfl rfl
theorem vp_nilI : V.nilI.pure = true := Eq.trans rfl rfl
theorem vp_list {es : List V} : (V.list es).pure = V.pureL es := Eq.trans rfl rfl
theorem vp_agg {cs : List V} : (V.agg cs).pure = V.pureL cs := Eq.trans rfl rfl
theorem vp_eptr {cs : List V} {off : Nat} : (V.eptr cs off).pure = V.pureL cs := Eq.trans rfl rfl
theorem vp_func {f : Nat} {cs : List V} : (V.func f cs).pure = V.pureL cs := Eq.trans rfl rfl
theorem vp_tl {t : Nat} {es : List V} : (V.tl t es).pure = false := Eq.trans rfl rfl
theorem vp_ref {s id ver off len : Nat} : (V.ref s id ver off len).pure = false := Eq.trans rfl rfl
theorem vp_ptr {id off : Nat} : (V.ptr id off).pure = false := Eq.trans rfl rfl
theorem vp_aptr {id ver i off : Nat} : (V.aptr id ver i off).pure = false := Eq.trans rfl rfl
theorem vp_map {id : Nat} : (V.map id).pure = false := Eq.trans rfl rfl
theorem vp_nil : V.pureL [] = true := Eq.trans rfl rfl
theorem vp_cons {v : V} {l : List V} : V.pureL (v :: l) = (v.pure && V.pureL l) := Eq.trans rfl rfl
theorem vc_int {k : IntKind} {n : Int} : (V.int k n).cells = [.int k n] := Eq.trans rfl rfl
theorem vc_bool {b : Bool} : (V.bool b).cells = [.bool b] := Eq.trans rfl rfl
theorem vc_str {s : ByteArray} : (V.str s).cells = [.str s] := Eq.trans rfl rfl
theorem vc_nilS : V.nilS.cells = [.nilS] := Eq.trans rfl rfl
theorem vc_nilP : V.nilP.cells = [.nilP] := Eq.trans rfl rfl
theorem vc_nilF : V.nilF.cells = [.nilF] := Eq.trans rfl rfl
theorem vc_nilM : V.nilM.cells = [.nilM] := Eq.trans rfl rfl
theorem vc_nilI : V.nilI.cells = [.nilI] := Eq.trans rfl rfl
theorem vc_list {es : List V} : (V.list es).cells = [.list es] := Eq.trans rfl rfl
theorem vc_agg {cs : List V} : (V.agg cs).cells = cs := Eq.trans rfl rfl
theorem vc_eptr {cs : List V} {off : Nat} : (V.eptr cs off).cells = [.eptr cs off] := Eq.trans rfl rfl
theorem vc_func {f : Nat} {cs : List V} : (V.func f cs).cells = [.func f cs] := Eq.trans rfl rfl
theorem vc_tl {t : Nat} {es : List V} : (V.tl t es).cells = [.tl t es] := Eq.trans rfl rfl
theorem vc_ref {s id ver off len : Nat} : (V.ref s id ver off len).cells = [.ref s id ver off len] := Eq.trans rfl rfl
theorem vc_ptr {id off : Nat} : (V.ptr id off).cells = [.ptr id off] := Eq.trans rfl rfl
theorem vc_aptr {id ver i off : Nat} : (V.aptr id ver i off).cells = [.aptr id ver i off] := Eq.trans rfl rfl
theorem vc_map {id : Nat} : (V.map id).cells = [.map id] := Eq.trans rfl rfl
attribute [push_cast] vc_int vc_bool vc_str vc_nilS vc_nilP vc_nilF vc_nilM vc_nilI vc_list vc_agg vc_eptr vc_func vc_tl vc_ref vc_ptr vc_aptr vc_map not_true_eq_false not_false_eq_true or_false false_or or_self
attribute [push_cast] vp_int vp_bool vp_str vp_nilS vp_nilP vp_nilF vp_nilM vp_nilI vp_list vp_agg vp_eptr vp_func vp_tl vp_ref vp_ptr vp_aptr vp_map vp_nil vp_cons
attribute [push_cast] take_set okStore_bool okStore_int okStore_str okStore_list lookupV mapUpdateV simpleKeyT
attribute [push_cast] Option.map_some Option.map_none Option.bind_some Option.bind_none List.map_cons List.map_nil List.append_nil List.cons_append List.nil_append
  List.range_succ List.range_zero ne_eq not_false_eq_true and_self true_and and_true if_true if_false takeElems takeElem List.mapM_cons List.mapM_nil V.isCell List.all_cons List.all_nil Option.isSome_some
  Bool.not_true Bool.not_false Bool.true_and Bool.false_and Bool.and_true Bool.and_false Bool.true_or Bool.false_or Bool.or_true Bool.or_false Option.bind_eq_bind Option.pure_def List.getElem?_cons_zero List.getElem?_cons_succ List.getElem?_nil indexAddrV idxV Int.natCast_nonneg Int.toNat_natCast List.getElem?_map List.length_singleton List.length_cons List.length_nil
  loadV partV lenV List.length_map fieldAddrV fieldsT fieldV Nat.zero_add List.drop_succ_cons List.drop_zero List.take_succ_cons List.take_zero V.norm norm1 List.toList_toArray
end Go.E
/- E, step by step: a region that draws its order. Own work. -/
namespace Go.E
section
variable {cx : Cx} {fx : Fx} {ops : Array Oper} {ρ : Env} {H : Heap}
def EvT (cx : Cx) (fx : Fx) (ops : Array Oper) (l : List Nat) (ρ : Env) (H : Heap) (K : List (Env × Heap) → Env → Heap → Prop) : Prop :=
  ∃ st ρ' H', evTrace cx fx (callw cx) ops l ρ H = some (st, ρ', H') ∧ K st ρ' H'
variable {r : List Nat} {K : List (Env × Heap) → Env → Heap → Prop} {dst : Option Nat} {ty : TypeId} {pos : String} {aft : Array Edge} {gd : Option (Nat × Bool)} {op : Op} {i : Nat}
theorem evt_end (h : K [] ρ H) : EvT cx fx ops [] ρ H K := ⟨_, _, _, rfl, h⟩
theorem evt_go {o : Oper} {ρ1 : Env} {H1 : Heap} (hi : ops[i]? = some o) (ho : evOper cx fx (callw cx) ops o ρ H = some (ρ1, H1)) (h : EvT cx fx ops r ρ1 H1 fun st => K ((ρ, H) :: st)) : EvT cx fx ops (i :: r) ρ H K := by
  obtain ⟨st, ρ', H', h1, h2⟩ := h
  exact ⟨(ρ, H) :: st, ρ', H', by simp only [evTrace, hi, Option.bind_some, ho, h1, Option.map_some], h2⟩
theorem evt_op {d : Nat} {v : V} {H1 : Heap} (hi : ops[i]? = some ⟨some d, op, ty, pos, aft, gd⟩) (hw : wantedV ops ⟨some d, op, ty, pos, aft, gd⟩ ρ = some true) (ho : evOp cx fx (callw cx) ⟨some d, op, ty, pos, aft, gd⟩ ρ H = some (v, H1)) (hd : d < fx.n)
    (h : EvT cx fx ops r (ρ.put d v) H1 fun st => K ((ρ, H) :: st)) : EvT cx fx ops (i :: r) ρ H K :=
  evt_go hi (by simp only [evOper, hw, Option.bind_some, if_true, ho, hd]) h
theorem evt_op0 {v : V} {H1 : Heap} (hi : ops[i]? = some ⟨none, op, ty, pos, aft, gd⟩) (hw : wantedV ops ⟨none, op, ty, pos, aft, gd⟩ ρ = some true) (ho : evOp cx fx (callw cx) ⟨none, op, ty, pos, aft, gd⟩ ρ H = some (v, H1))
    (h : EvT cx fx ops r ρ H1 fun st => K ((ρ, H) :: st)) : EvT cx fx ops (i :: r) ρ H K :=
  evt_go hi (by simp only [evOper, hw, Option.bind_some, if_true, ho]) h
theorem evt_off {d : Nat} (hi : ops[i]? = some ⟨some d, op, ty, pos, aft, gd⟩) (hw : wantedV ops ⟨some d, op, ty, pos, aft, gd⟩ ρ = some false) (hd : d < fx.n) (h : EvT cx fx ops r (ρ.put d .skip) H fun st => K ((ρ, H) :: st)) : EvT cx fx ops (i :: r) ρ H K :=
  evt_go hi (by simp only [evOper, hw, Option.bind_some, Bool.false_eq_true, if_false, hd, if_true]) h
theorem evt_off0 (hi : ops[i]? = some ⟨none, op, ty, pos, aft, gd⟩) (hw : wantedV ops ⟨none, op, ty, pos, aft, gd⟩ ρ = some false) (h : EvT cx fx ops r ρ H fun st => K ((ρ, H) :: st)) : EvT cx fx ops (i :: r) ρ H K :=
  evt_go hi (by simp only [evOper, hw, Option.bind_some, Bool.false_eq_true, if_false]) h
theorem evt_split {o : Oper} (b : Bool) (_ : ops[i]? = some o) (_ : wantedV ops o ρ = some b) (h1 : b = true → EvT cx fx ops (i :: r) ρ H K) (h2 : b = false → EvT cx fx ops (i :: r) ρ H K) : EvT cx fx ops (i :: r) ρ H K := by
  cases b; exact h2 rfl; exact h1 rfl

theorem ev_draw1 {id : Nat} {ord : List Nat} {ps : List (Nat × Nat)} {Q : Ex → Env → Heap → Prop} (hc : canon ops = ord) (hd : drawOk ops ord = true) (hp : chkPairs cx.P ops (anc ops) ord = ps)
    (h : EvT cx fx ops ord ρ H fun st ρ' H' => chkAll cx.P ops ord st H' ps ∧ Q .normal ρ' H') : Ev cx fx (.region id ops true) ρ H Q := by
  obtain ⟨st, ρ', H', h1, h2, h3⟩ := h
  unfold Ev
  refine ⟨_, ρ', H', ?_, h3⟩
  subst hc; subst hp
  simp only [evCode, if_true, evDraw, if_pos hd, h1, Option.bind_some, if_pos h2, Option.map_some]
theorem ev_draw0 {id : Nat} {ord : List Nat} {Q : Ex → Env → Heap → Prop} (hc : canon ops = ord) (hd : drawOk ops ord = true) (hp : chkPairs cx.P ops (anc ops) ord = [])
    (h : EvT cx fx ops ord ρ H fun _ ρ' H' => Q .normal ρ' H') : Ev cx fx (.region id ops true) ρ H Q := by
  refine ev_draw1 hc hd hp ?_
  obtain ⟨st, ρ', H', h1, h2⟩ := h
  exact ⟨st, ρ', H', h1, trivial, h2⟩
/-- What a drawn region owes at its end. -/
def ChkK (P : Program) (ops : Array Oper) (ord : List Nat) (ps : List (Nat × Nat)) (Q : Env → Heap → Prop) (st : List (Env × Heap)) (ρ : Env) (H : Heap) : Prop := chkAll P ops ord st H ps ∧ Q ρ H
theorem chkK_intro {P : Program} {ord : List Nat} {ps : List (Nat × Nat)} {Q : Env → Heap → Prop} {st : List (Env × Heap)} (h1 : chkAll P ops ord st H ps) (h2 : Q ρ H) : ChkK P ops ord ps Q st ρ H := ⟨h1, h2⟩
theorem ev_draw2 {id : Nat} {ord : List Nat} {ps : List (Nat × Nat)} {Q : Ex → Env → Heap → Prop} (hc : canon ops = ord) (hd : drawOk ops ord = true) (hp : chkPairs cx.P ops (anc ops) ord = ps)
    (h : EvT cx fx ops ord ρ H (ChkK cx.P ops ord ps (Q .normal))) : Ev cx fx (.region id ops true) ρ H Q := ev_draw1 hc hd hp h
theorem chk_nil {P : Program} {ord : List Nat} {st : List (Env × Heap)} {last : Heap} : chkAll P ops ord st last [] := trivial
theorem chk_cons {P : Program} {ord : List Nat} {st : List (Env × Heap)} {last : Heap} {p q : Nat} {l : List (Nat × Nat)} {o : Oper} {s t : Env × Heap} (ho : ops[ord.getD p 0]? = some o) (hs : st[p]? = some s) (ht : st[q]? = some t)
    (h : obsEq P o s.1 s.2 t.2 ((st[q + 1]?).map (·.2) |>.getD last)) (hr : chkAll P ops ord st last l) : chkAll P ops ord st last ((p, q) :: l) :=
  ⟨fun o' s' t' h1 h2 h3 => by rw [ho] at h1; rw [hs] at h2; rw [ht] at h3; cases h1; cases h2; cases h3; exact h, hr⟩
attribute [irreducible] EvT ChkK
end
end Go.E
/- E: what code never writes stays. Own work. -/
namespace Go.E

/-- Does code write slot j? -/
def wr : Code → Nat → Bool
  | .region _ ops _, j => ops.toList.any fun o => o.dst == some j
  | .seq a b, j => wr a j || wr b j
  | .cond _ a b, j => wr a j || wr b j
  | .block _ c, j | .scope c, j | .loop c, j => wr c j
  | _, _ => false

section
variable {cx : Cx} {fx : Fx} {call : CallSem}

theorem evOper_frame {ops : Array Oper} {o : Oper} {ρ ρ' : Env} {H H' : Heap} (h : evOper cx fx call ops o ρ H = some (ρ', H')) {j : Nat} (hj : o.dst ≠ some j) : ρ' j = ρ j := by
  unfold evOper at h
  cases hw : wantedV ops o ρ with
  | none => simp [hw] at h
  | some b =>
    simp only [hw, Option.bind_some] at h
    cases hv : (if b = true then evOp cx fx call o ρ H else some (.skip, H)) with
    | none => simp [hv] at h
    | some r =>
      simp only [hv, Option.bind_some] at h
      cases hd : o.dst with
      | none => simp [hd] at h; rw [h.1]
      | some d =>
        simp only [hd] at h
        split at h
        · simp at h
          have hne : j ≠ d := fun e => hj (by rw [hd, e])
          rw [← h.1]; simp [Env.put, hne]
        · cases h

theorem evOps_frame {ops : Array Oper} {j : Nat} : ∀ {l : List Oper} {ρ ρ' : Env} {H H' : Heap}, evOps cx fx call ops l ρ H = some (ρ', H') → (∀ o ∈ l, o.dst ≠ some j) → ρ' j = ρ j
  | [], _, _, _, _, h, _ => by simp [evOps] at h; rw [h.1]
  | o :: l, ρ, ρ', H, H', h, hj => by
    simp only [evOps] at h
    cases hv : evOper cx fx call ops o ρ H with
    | none => simp [hv] at h
    | some s =>
      obtain ⟨ρ1, H1⟩ := s
      rw [hv] at h
      simp only [Option.bind_some] at h
      rw [evOps_frame h fun o ho => hj o (by simp [ho]), evOper_frame hv (hj o (by simp))]

theorem evTrace_frame {ops : Array Oper} {j : Nat} (hj : ∀ o ∈ ops.toList, o.dst ≠ some j) : ∀ {l : List Nat} {ρ ρ' : Env} {H H' : Heap} {st}, evTrace cx fx call ops l ρ H = some (st, ρ', H') → ρ' j = ρ j
  | [], _, _, _, _, _, h => by simp [evTrace] at h; rw [h.2.1]
  | i :: l, ρ, ρ', H, H', st, h => by
    simp only [evTrace] at h
    cases ho : ops[i]? with
    | none => simp [ho] at h
    | some o =>
      simp only [ho, Option.bind_some] at h
      cases hv : evOper cx fx call ops o ρ H with
      | none => simp [hv] at h
      | some s =>
        obtain ⟨ρ1, H1⟩ := s
        rw [hv] at h
        simp only [Option.bind_some] at h
        cases ht : evTrace cx fx call ops l ρ1 H1 with
        | none => simp [ht] at h
        | some z =>
          obtain ⟨st', ρ2, H2⟩ := z
          rw [ht] at h
          simp at h
          have hm : o ∈ ops.toList := by
            have := Array.mem_of_getElem? ho
            exact Array.mem_toList_iff.2 this
          rw [← h.2.1, evTrace_frame hj ht, evOper_frame hv (hj o hm)]

theorem evDraw_frame {ops : Array Oper} {j : Nat} (hj : ∀ o ∈ ops.toList, o.dst ≠ some j) {ρ ρ' : Env} {H H' : Heap} (h : evDraw cx fx call ops ρ H = some (ρ', H')) : ρ' j = ρ j := by
  unfold evDraw at h
  split at h
  case isFalse => cases h
  cases ht : evTrace cx fx call ops (canon ops) ρ H with
  | none => simp [ht] at h
  | some z =>
    obtain ⟨st, ρ1, H1⟩ := z
    rw [ht] at h
    simp only [Option.bind_some] at h
    split at h
    · simp at h; rw [← h.1]; exact evTrace_frame hj ht
    · cases h

theorem any_dst {l : List Oper} {j : Nat} (h : (l.any fun o => o.dst == some j) = false) : ∀ o ∈ l, o.dst ≠ some j := by
  intro o ho e
  rw [List.any_eq_false] at h
  exact h o ho (by simp [e])

theorem evCode_frame {j : Nat} : ∀ {c : Code} {ρ ρ' : Env} {H H' : Heap} {ex : Ex}, evCode cx fx loopw call c ρ H = some (ex, ρ', H') → wr c j = false → ρ' j = ρ j := by
  intro c
  induction c with
  | region id ops draw =>
    intro ρ ρ' H H' ex h hw
    simp only [wr] at hw
    have hj := any_dst hw
    simp only [evCode] at h
    cases draw with
    | false =>
      simp only [Bool.false_eq_true, if_false] at h
      cases ho : evOps cx fx call ops ops.toList ρ H with
      | none => simp [ho] at h
      | some s => obtain ⟨ρ1, H1⟩ := s; rw [ho] at h; simp at h; rw [← h.2.1]; exact evOps_frame ho hj
    | true =>
      simp only [if_true] at h
      cases ho : evDraw cx fx call ops ρ H with
      | none => simp [ho] at h
      | some s => obtain ⟨ρ1, H1⟩ := s; rw [ho] at h; simp at h; rw [← h.2.1]; exact evDraw_frame hj ho
  | seq x y ihx ihy =>
    intro ρ ρ' H H' ex h hw
    simp only [wr, Bool.or_eq_false_iff] at hw
    simp only [evCode] at h
    cases hx : evCode cx fx loopw call x ρ H with
    | none => simp [hx] at h
    | some s =>
      obtain ⟨ex1, ρ1, H1⟩ := s
      rw [hx] at h
      cases ex1 with
      | normal => rw [ihy h hw.2, ihx hx hw.1]
      | exit _ => simp at h; rw [← h.2.1, ihx hx hw.1]
      | ret => simp at h; rw [← h.2.1, ihx hx hw.1]
  | cond o x y ihx ihy =>
    intro ρ ρ' H H' ex h hw
    simp only [wr, Bool.or_eq_false_iff] at hw
    simp only [evCode] at h
    split at h
    · exact ihx h hw.1
    · exact ihy h hw.2
    · cases h
  | block id x ih =>
    intro ρ ρ' H H' ex h hw
    simp only [wr] at hw
    simp only [evCode] at h
    cases hx : evCode cx fx loopw call x ρ H with
    | none => simp [hx] at h
    | some s =>
      obtain ⟨ex1, ρ1, H1⟩ := s
      rw [hx] at h
      cases ex1 with
      | normal => simp at h; rw [← h.2.1, ih hx hw]
      | exit _ => simp at h; rw [← h.2.1, ih hx hw]
      | ret => simp at h; rw [← h.2.1, ih hx hw]
  | loop x ih =>
    intro ρ ρ' H H' ex h hw
    simp only [wr] at hw
    simp only [evCode] at h
    obtain ⟨n, hn⟩ := loopw_some h
    clear h
    induction n generalizing ρ H with
    | zero => simp [loopn] at hn
    | succ n ihn =>
      simp only [loopn] at hn
      cases hx : evCode cx fx loopw call x ρ H with
      | none => simp [hx] at hn
      | some s =>
        obtain ⟨ex1, ρ1, H1⟩ := s
        rw [hx] at hn
        cases ex1 with
        | normal => rw [ihn hn, ih hx hw]
        | exit _ => simp at hn; rw [← hn.2.1, ih hx hw]
        | ret => simp at hn; rw [← hn.2.1, ih hx hw]
  | scope x ih => intro ρ ρ' H H' ex h hw; simp only [wr] at hw; simp only [evCode] at h; exact ih h hw
  | skip => intro ρ ρ' H H' ex h _; simp [evCode] at h; rw [h.2.1]
  | label _ => intro ρ ρ' H H' ex h _; simp [evCode] at h; rw [h.2.1]
  | exit _ => intro ρ ρ' H H' ex h _; simp [evCode] at h; rw [h.2.1]
  | ret => intro ρ ρ' H H' ex h _; simp [evCode] at h; rw [h.2.1]
  | rangeFunc f ps x y _ _ =>
    intro ρ ρ' H H' ex h _
    simp only [evCode] at h
    split at h
    · rename_i gf caps _
      cases hi : cx.iter gf caps with
      | none => simp [hi] at h
      | some l =>
        rw [hi] at h
        simp only [Option.bind_some] at h
        cases hr : evRounds (evCode cx fx loopw call x) (evCode cx fx loopw call y) fx.n ps.toList ρ l H with
        | none => simp [hr] at h
        | some z => rw [hr] at h; simp at h; rw [h.2.1]
    · cases h
  | _ => intro ρ ρ' H H' ex h _; simp [evCode] at h
end

section
variable {cx : Cx} {fx : Fx} {c : Code} {ρ : Env} {H : Heap} {Q : Ex → Env → Heap → Prop}
/-- A loop, and what it leaves alone. -/
theorem lp_frame (h : Lp cx fx c ρ H Q) : Lp cx fx c ρ H fun ex ρ' H' => Q ex ρ' H' ∧ ∀ j, wr c j = false → ρ' j = ρ j := by
  unfold Lp at h ⊢
  obtain ⟨ex, ρ', H', h1, h2⟩ := h
  exact ⟨ex, ρ', H', h1, h2, fun j hj => evCode_frame (c := .loop c) (by simpa only [evCode] using h1) (by simpa only [wr] using hj)⟩
end
end Go.E
/- E: loops by rounds. Own work. -/
namespace Go.E
section
variable {cx : Cx} {fx : Fx} {c : Code} {Q : Ex → Env → Heap → Prop}

def roundQ (I : Env → Heap → Prop) (Q : Ex → Env → Heap → Prop) : Ex → Env → Heap → Prop
  | .normal, ρ, H => I ρ H
  | ex, ρ, H => Q ex ρ H
theorem roundQ_normal {I : Env → Heap → Prop} {ρ : Env} {H : Heap} : roundQ I Q .normal ρ H ↔ I ρ H := Iff.rfl
theorem roundQ_exit {I : Env → Heap → Prop} {ρ : Env} {H : Heap} {id : Nat} : roundQ I Q (.exit id) ρ H ↔ Q (.exit id) ρ H := Iff.rfl
theorem roundQ_ret {I : Env → Heap → Prop} {ρ : Env} {H : Heap} : roundQ I Q .ret ρ H ↔ Q .ret ρ H := Iff.rfl

/-- A loop that goes up from i to n. -/
theorem loop_up {n : Nat} {Inv : Nat → Env → Heap → Prop} (hstep : ∀ i ρ H, i < n → Inv i ρ H → Ev cx fx c ρ H (roundQ (Inv (i + 1)) Q))
    (hend : ∀ ρ H, Inv n ρ H → Ev cx fx c ρ H (roundQ (fun _ _ => False) Q)) : ∀ i ρ H, i ≤ n → Inv i ρ H → Lp cx fx c ρ H Q := by
  intro i ρ H hi
  obtain ⟨k, hk⟩ : ∃ k, k = n - i := ⟨_, rfl⟩
  induction k generalizing i ρ H with
  | zero =>
    intro h
    obtain rfl : i = n := by omega
    refine lp_round ((hend ρ H h).mono fun ex ρ' H' hq => ?_)
    cases ex with
    | normal => exact hq.elim
    | exit id => exact loopQ_exit.2 hq
    | ret => exact loopQ_ret.2 hq
  | succ k ih =>
    intro h
    refine lp_round ((hstep i ρ H (by omega) h).mono fun ex ρ' H' hq => ?_)
    cases ex with
    | normal => exact loopQ_normal.2 (ih (i + 1) ρ' H' (by omega) (by omega) hq)
    | exit id => exact loopQ_exit.2 hq
    | ret => exact loopQ_ret.2 hq

/-- A loop with a measure. -/
theorem loop_wf {α : Type} {μ : α → Nat} {Inv : α → Env → Heap → Prop} (hstep : ∀ s ρ H, Inv s ρ H → Ev cx fx c ρ H (roundQ (fun ρ' H' => ∃ t, μ t < μ s ∧ Inv t ρ' H') Q)) : ∀ s ρ H, Inv s ρ H → Lp cx fx c ρ H Q := by
  intro s ρ H
  obtain ⟨k, hk⟩ : ∃ k, k = μ s := ⟨_, rfl⟩
  induction k using Nat.strongRecOn generalizing s ρ H with
  | _ k ih =>
    intro h
    refine lp_round ((hstep s ρ H h).mono fun ex ρ' H' hq => ?_)
    cases ex with
    | normal =>
      obtain ⟨t, h1, h2⟩ := hq
      exact loopQ_normal.2 (ih (μ t) (by omega) t ρ' H' rfl h2)
    | exit id => exact loopQ_exit.2 hq
    | ret => exact loopQ_ret.2 hq

/-- A loop behind which code goes on. -/
theorem lp_then {Q' : Ex → Env → Heap → Prop} {ρ : Env} {H : Heap} (h : Lp cx fx c ρ H Q) (hq : ∀ ex ρ' H', Q ex ρ' H' → (∀ j, wr c j = false → ρ' j = ρ j) → Q' ex ρ' H') : Lp cx fx c ρ H Q' :=
  (lp_frame h).mono fun ex ρ' H' h => hq ex ρ' H' h.1 h.2
end
attribute [irreducible] roundQ
/-- What 'slices.Backward' hands to yield. -/
def backL (es : List V) : List (List V) := (List.range es.length).reverse.map fun i : Nat => [.int .i64 (i : Int), es.getD i .undef]
/-- An element as a type of sz cells has it (sz = 0: of one cell, no struct). -/
def backOk (sz : Nat) : V → Bool
  | .agg cs => sz != 0 && cs.length == sz
  | e => sz == 0 && e.isCell
/-- The functions that are ranged over: those of 'slices.Backward', by their numbers, each with its elements' size. -/
def iterB (back : List (Nat × Nat)) (gf : Nat) (caps : List V) : Option (List (List V)) :=
  match caps with
  | [.eptr [.list es] 0] =>
    match back.lookup gf with
    | some sz => if es.length ≤ 1000000 ∧ es.all (backOk sz) = true then some (backL es) else none
    | none => none
  | _ => none
theorem drop_cons {α : Type} {l : List α} {i : Nat} {x : α} (h : l[i]? = some x) : l.drop i = x :: l.drop (i + 1) := by
  obtain ⟨h1, h2⟩ := List.getElem?_eq_some_iff.1 h
  rw [List.drop_eq_getElem_cons h1, h2]
/-- Functions of the library whose answer is known. -/
def concatL : List V → Option (List V)
  | [] => some []
  | .list es :: r => (concatL r).map (es ++ ·)
  | _ => none
def concatV (sz : Nat) : List V → Option V
  | [.list ls] => (concatL ls).bind fun l => if l.length ≤ 1000000 ∧ ls.length ≤ 1000000 ∧ V.pureL l = true ∧ (l.all fun e => e.cells.length == sz && e.cells.all V.isCell) = true then some (.list l) else none
  | _ => none
def cloneV : List V → Option V
  | [.list es] => if es.length ≤ 1000000 then some (.list es) else none
  | _ => none
def knownB (concats : List (Nat × Nat)) (clones : List Nat) (f : Nat) : Bool := (concats.lookup f).isSome || clones.contains f
/-- 'concats': each with the size of its elements. -/
def knownL (concats : List (Nat × Nat)) (clones : List Nat) (f : Nat) (a : List V) : Option V :=
  match concats.lookup f with
  | some sz => concatV sz a
  | none => if clones.contains f then cloneV a else none
end Go.E
