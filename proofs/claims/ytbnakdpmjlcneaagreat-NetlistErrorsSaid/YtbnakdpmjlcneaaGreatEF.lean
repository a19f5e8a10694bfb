/- E, step by step: stores, rows of values. Own work. -/
import Derived.Test.YtbnakdpmjlcneaaGreatEE
import Derived.KernelRfl
import Derived.Below
set_option linter.all false
namespace Go.E

theorem okStore_pure {bs : List Nat} {id : Nat} {v : V} (h : v.pure = true) : okStore bs id v = true := okStore_under fun n => pure_under n v h
theorem okStore_own {bs : List Nat} {id : Nat} {v : V} (h : bs.headD 0 ≤ id) : okStore bs id v = true := by unfold okStore; rw [decide_eq_true h, Bool.true_or]
theorem okStore_own0 {bs : List Nat} {n : Nat} {v : V} : okStore (n :: bs) n v = true := okStore_own (Nat.le_refl _)
theorem okStore_ownk {bs : List Nat} {n k : Nat} {v : V} : okStore (n :: bs) (n + k) v = true := okStore_own (Nat.le_add_right _ _)
theorem pureL_map {α : Type} {f : α → V} {l : List α} (h : ∀ x, (f x).pure = true) : V.pureL (l.map f) = true := by
  induction l with
  | nil => rfl
  | cons x l ih => simp only [List.map_cons, V.pureL, h, ih, Bool.and_self]
theorem takeElems_map {α : Type} {s : Nat} {f : α → V} {l : List α} (h : ∀ x, takeElem s (f x) = some (f x)) : takeElems s (l.map f) = some (l.map f) := by
  unfold takeElems
  induction l with
  | nil => rfl
  | cons x l ih => simp [List.mapM_cons, h, ih]
theorem all_cells_map {α : Type} {s : Nat} {f : α → V} {l : List α} (h : ∀ x, (f x).cells.length = s) : (l.map f).all (fun e => e.cells.length == s) = true := by
  rw [List.all_eq_true]
  intro y hy
  obtain ⟨x, _, rfl⟩ := List.mem_map.1 hy
  simp [h x]
theorem frz_map {α : Type} {d n0 : Nat} {H : Heap} {f : α → V} {l : List α} (h : ∀ x, (f x).pure = true) : frz (d + 1) n0 H (.list (l.map f)) = some (.list (l.map f)) := frz_pure (by simp only [V.pure]; exact pureL_map h)
theorem frz_mapM {d n0 : Nat} {H : Heap} : ∀ {l : List V}, V.pureL l = true → l.mapM (frz (d + 1) n0 H) = some l
  | [], _ => rfl
  | v :: l, h => by
    simp only [V.pureL, Bool.and_eq_true] at h
    simp only [List.mapM_cons, frz_pure h.1, frz_mapM h.2, Option.bind_eq_bind, Option.bind_some, Option.pure_def]
theorem frz_agg {d n0 : Nat} {H : Heap} {cs : List V} : frz (d + 2) n0 H (.agg cs) = (cs.mapM (frz (d + 1) n0 H)).map .agg := by
  by_cases h : V.pureL cs = true
  · rw [frz_pure (v := .agg cs) h, frz_mapM h, Option.map_some]
  · rw [frz, if_neg (show ¬ (V.agg cs).pure = true from h)]
theorem frz_func {d n0 f : Nat} {H : Heap} {cs : List V} : frz (d + 2) n0 H (.func f cs) = (cs.mapM (frz (d + 1) n0 H)).map (.func f) := by
  by_cases h : V.pureL cs = true
  · rw [frz_pure (v := .func f cs) h, frz_mapM h, Option.map_some]
  · rw [frz, if_neg (show ¬ (V.func f cs).pure = true from h)]
theorem frz_ptr {d n0 id off : Nat} {H : Heap} (h : n0 ≤ id) : frz (d + 1) n0 H (.ptr id off) = (match H[id]? with | some (.cells cs) => (cs.mapM (frz d n0 H)).map (V.eptr · off) | _ => none) := by
  rw [frz, if_neg (by simp [V.pure]), if_neg (by omega)]
  cases H[id]? with
  | none => rfl
  | some ob => cases ob <;> rfl
theorem frz_ref {d n0 s id ver off len : Nat} {H : Heap} (h : n0 ≤ id) : frz (d + 1) n0 H (.ref s id ver off len) = (match H[id]? with
    | some (.arr es v0) => if ver = v0 ∧ off + len ≤ es.length then (((es.drop off).take len).mapM (frz d n0 H)).bind fun l => if V.pureL l then some (.list l) else none else none
    | _ => none) := by
  rw [frz, if_neg (by simp [V.pure]), if_neg (by omega)]
  cases H[id]? with
  | none => rfl
  | some ob => cases ob <;> rfl
attribute [push_cast] frz_pure frz_mapM frz_agg frz_func frz_ptr frz_ref Nat.le_refl Nat.le_add_right List.drop_zero List.take_length
attribute [push_cast] okStore_own0 okStore_ownk okStore_pure pureL_map takeElems_map all_cells_map storeV writeCells Option.some.injEq List.headD_cons List.set_cons_zero List.set_cons_succ List.length_append List.append_assoc
end Go.E
/- E, step by step: arguments without rights. Own work. -/
namespace Go.E
theorem norm1_idem (v : V) : norm1 (norm1 v) = norm1 v := by cases v <;> rfl
theorem norm_idem (v : V) : v.norm.norm = v.norm := by
  cases v with
  | agg cs => simp only [V.norm, List.map_map]; congr 1; apply List.map_congr_left; intro x _; exact norm1_idem x
  | _ => rfl
theorem norm_map (l : List V) : (l.map V.norm).map V.norm = l.map V.norm := by rw [List.map_map]; apply List.map_congr_left; intro x _; exact norm_idem x
theorem callw_norm {cx : Cx} {bs : List Nat} {f : Nat} {args args' : List V} {H : Heap} (hk : cx.keep f = false) (ha : args.map V.norm = args'.map V.norm) : callw cx bs f args H = callw cx bs f args' H := by
  have hl : args.length = args'.length := by have := congrArg List.length ha; simpa using this
  have key : ∀ k, callk cx k bs f args H = callk cx k bs f args' H := by
    intro k
    cases k with
    | zero => rfl
    | succ k =>
      simp only [callk, evBody, hk, Bool.false_eq_true, if_false, hl, ha]
  unfold callw
  simp only [key]
section
variable {cx : Cx} {bs : List Nat} {f : Nat} {a b c d e : V} {H : Heap}
theorem cn_tl10 {t : Nat} {es : List V} (hk : cx.keep f = false) : callw cx bs f [.tl t es] H = callw cx bs f [.list es] H := callw_norm hk rfl
theorem cn_nl10 (hk : cx.keep f = false) : callw cx bs f [.nilS] H = callw cx bs f [.list []] H := callw_norm hk rfl
theorem cn_tl20 {t : Nat} {es : List V} (hk : cx.keep f = false) : callw cx bs f [.tl t es, b] H = callw cx bs f [.list es, b] H := callw_norm hk rfl
theorem cn_nl20 (hk : cx.keep f = false) : callw cx bs f [.nilS, b] H = callw cx bs f [.list [], b] H := callw_norm hk rfl
theorem cn_tl21 {t : Nat} {es : List V} (hk : cx.keep f = false) : callw cx bs f [a, .tl t es] H = callw cx bs f [a, .list es] H := callw_norm hk rfl
theorem cn_nl21 (hk : cx.keep f = false) : callw cx bs f [a, .nilS] H = callw cx bs f [a, .list []] H := callw_norm hk rfl
theorem cn_tl30 {t : Nat} {es : List V} (hk : cx.keep f = false) : callw cx bs f [.tl t es, b, c] H = callw cx bs f [.list es, b, c] H := callw_norm hk rfl
theorem cn_nl30 (hk : cx.keep f = false) : callw cx bs f [.nilS, b, c] H = callw cx bs f [.list [], b, c] H := callw_norm hk rfl
theorem cn_tl31 {t : Nat} {es : List V} (hk : cx.keep f = false) : callw cx bs f [a, .tl t es, c] H = callw cx bs f [a, .list es, c] H := callw_norm hk rfl
theorem cn_nl31 (hk : cx.keep f = false) : callw cx bs f [a, .nilS, c] H = callw cx bs f [a, .list [], c] H := callw_norm hk rfl
theorem cn_tl32 {t : Nat} {es : List V} (hk : cx.keep f = false) : callw cx bs f [a, b, .tl t es] H = callw cx bs f [a, b, .list es] H := callw_norm hk rfl
theorem cn_nl32 (hk : cx.keep f = false) : callw cx bs f [a, b, .nilS] H = callw cx bs f [a, b, .list []] H := callw_norm hk rfl
theorem cn_tl40 {t : Nat} {es : List V} (hk : cx.keep f = false) : callw cx bs f [.tl t es, b, c, d] H = callw cx bs f [.list es, b, c, d] H := callw_norm hk rfl
theorem cn_nl40 (hk : cx.keep f = false) : callw cx bs f [.nilS, b, c, d] H = callw cx bs f [.list [], b, c, d] H := callw_norm hk rfl
theorem cn_tl41 {t : Nat} {es : List V} (hk : cx.keep f = false) : callw cx bs f [a, .tl t es, c, d] H = callw cx bs f [a, .list es, c, d] H := callw_norm hk rfl
theorem cn_nl41 (hk : cx.keep f = false) : callw cx bs f [a, .nilS, c, d] H = callw cx bs f [a, .list [], c, d] H := callw_norm hk rfl
theorem cn_tl42 {t : Nat} {es : List V} (hk : cx.keep f = false) : callw cx bs f [a, b, .tl t es, d] H = callw cx bs f [a, b, .list es, d] H := callw_norm hk rfl
theorem cn_nl42 (hk : cx.keep f = false) : callw cx bs f [a, b, .nilS, d] H = callw cx bs f [a, b, .list [], d] H := callw_norm hk rfl
theorem cn_tl43 {t : Nat} {es : List V} (hk : cx.keep f = false) : callw cx bs f [a, b, c, .tl t es] H = callw cx bs f [a, b, c, .list es] H := callw_norm hk rfl
theorem cn_nl43 (hk : cx.keep f = false) : callw cx bs f [a, b, c, .nilS] H = callw cx bs f [a, b, c, .list []] H := callw_norm hk rfl
theorem cn_tl50 {t : Nat} {es : List V} (hk : cx.keep f = false) : callw cx bs f [.tl t es, b, c, d, e] H = callw cx bs f [.list es, b, c, d, e] H := callw_norm hk rfl
theorem cn_nl50 (hk : cx.keep f = false) : callw cx bs f [.nilS, b, c, d, e] H = callw cx bs f [.list [], b, c, d, e] H := callw_norm hk rfl
theorem cn_tl51 {t : Nat} {es : List V} (hk : cx.keep f = false) : callw cx bs f [a, .tl t es, c, d, e] H = callw cx bs f [a, .list es, c, d, e] H := callw_norm hk rfl
theorem cn_nl51 (hk : cx.keep f = false) : callw cx bs f [a, .nilS, c, d, e] H = callw cx bs f [a, .list [], c, d, e] H := callw_norm hk rfl
theorem cn_tl52 {t : Nat} {es : List V} (hk : cx.keep f = false) : callw cx bs f [a, b, .tl t es, d, e] H = callw cx bs f [a, b, .list es, d, e] H := callw_norm hk rfl
theorem cn_nl52 (hk : cx.keep f = false) : callw cx bs f [a, b, .nilS, d, e] H = callw cx bs f [a, b, .list [], d, e] H := callw_norm hk rfl
theorem cn_tl53 {t : Nat} {es : List V} (hk : cx.keep f = false) : callw cx bs f [a, b, c, .tl t es, e] H = callw cx bs f [a, b, c, .list es, e] H := callw_norm hk rfl
theorem cn_nl53 (hk : cx.keep f = false) : callw cx bs f [a, b, c, .nilS, e] H = callw cx bs f [a, b, c, .list [], e] H := callw_norm hk rfl
theorem cn_tl54 {t : Nat} {es : List V} (hk : cx.keep f = false) : callw cx bs f [a, b, c, d, .tl t es] H = callw cx bs f [a, b, c, d, .list es] H := callw_norm hk rfl
theorem cn_nl54 (hk : cx.keep f = false) : callw cx bs f [a, b, c, d, .nilS] H = callw cx bs f [a, b, c, d, .list []] H := callw_norm hk rfl
end
theorem dec_true {h : Decidable True} : @decide True h = true := by simp
theorem dec_false {h : Decidable False} : @decide False h = false := by simp
attribute [push_cast] dec_true dec_false not_true_eq_false not_false_eq_true
attribute [push_cast] cn_tl10 cn_nl10 cn_tl20 cn_nl20 cn_tl21 cn_nl21 cn_tl30 cn_nl30 cn_tl31 cn_nl31 cn_tl32 cn_nl32 cn_tl40 cn_nl40 cn_tl41 cn_nl41 cn_tl42 cn_nl42 cn_tl43 cn_nl43 cn_tl50 cn_nl50 cn_tl51 cn_nl51 cn_tl52 cn_nl52 cn_tl53 cn_nl53 cn_tl54 cn_nl54
/-! ### Heaps of which one thing was written -/
section
variable {H l : Heap} {m k : Nat} {x y z : HObj}
theorem hs_get0 : (H.set m x ++ y :: l)[H.length]? = some y := by rw [← List.length_set (as := H) (i := m) (a := x)]; exact heap_get0 _ _ _
theorem hs_get : (H.set m x ++ l)[H.length + k]? = l[k]? := by rw [← List.length_set (as := H) (i := m) (a := x)]; exact heap_get _ _ _
theorem hs_set0 : (H.set m x ++ y :: l).set H.length z = H.set m x ++ z :: l := by rw [← List.length_set (as := H) (i := m) (a := x)]; exact heap_set0 _ _ _ _
theorem hs_set : (H.set m x ++ l).set (H.length + k) y = H.set m x ++ l.set k y := by rw [← List.length_set (as := H) (i := m) (a := x)]; exact heap_set _ _ _ _
theorem hs_take : (H.set m x ++ l).take H.length = H.set m x := by rw [← List.length_set (as := H) (i := m) (a := x)]; exact heap_take _ _
theorem set_app (h : m < H.length) (x : HObj) (l : Heap) : (H ++ l).set m x = H.set m x ++ l := List.set_append_left _ _ h
end
attribute [push_cast] hs_get0 hs_get hs_set0 hs_set hs_take List.length_set List.set_set

attribute [push_cast] Option.getD_some Nat.mul_one Nat.zero_mul
end Go.E
/- Short names for the steps of E. Own work. -/
namespace Go.E
section
variable {cx : Cx} {fx : Fx} {ρ : Env} {H : Heap} {Q : Ex → Env → Heap → Prop}
theorem z1 {a b : Code} (h : Ev cx fx a ρ H (thenQ cx fx b Q)) : Ev cx fx (.seq a b) ρ H Q := ev_seq h
theorem z2 {id : Nat} {ops : Array Oper} (h : EvO cx fx ops ops.toList ρ H (Q .normal)) : Ev cx fx (.region id ops false) ρ H Q := ev_region h
theorem z4 {c : Code} (h : Ev cx fx c ρ H Q) : thenQ cx fx c Q .normal ρ H := thenQ_normal.2 h
theorem z5 {c : Code} (h : Q .ret ρ H) : thenQ cx fx c Q .ret ρ H := thenQ_ret.2 h
theorem z6 {c : Code} {id : Nat} (h : Q (.exit id) ρ H) : thenQ cx fx c Q (.exit id) ρ H := thenQ_exit.2 h
theorem z7 (h : Q .ret ρ H) : Ev cx fx .ret ρ H Q := ev_ret h
theorem z8 (h : Q .normal ρ H) : Ev cx fx .skip ρ H Q := ev_skip h
theorem z9 {id : Nat} (h : Q (.exit id) ρ H) : Ev cx fx (.exit id) ρ H Q := ev_exit h
theorem z10 {c : Code} (h : Ev cx fx c ρ H Q) : Ev cx fx (.scope c) ρ H Q := ev_scope h
theorem z11 {l : Nat} (h : Q .normal ρ H) : Ev cx fx (.label l) ρ H Q := ev_label h
theorem z12 {id : Nat} {c : Code} (h : Ev cx fx c ρ H (blockQ id Q)) : Ev cx fx (.block id c) ρ H Q := ev_block h
theorem z13 {c : Code} (h : Lp cx fx c ρ H Q) : Ev cx fx (.loop c) ρ H Q := ev_loop h
theorem z14 {id : Nat} (h : Q .normal ρ H) : blockQ id Q .normal ρ H := blockQ_normal.2 h
theorem z15 {id : Nat} (h : Q .ret ρ H) : blockQ id Q .ret ρ H := blockQ_ret.2 h
theorem z16 {id id' : Nat} (e : id' = id) (h : Q .normal ρ H) : blockQ id Q (.exit id') ρ H := blockQ_exit.2 (by rw [if_pos e]; exact h)
theorem z17 {id id' : Nat} (e : ¬ id' = id) (h : Q (.exit id') ρ H) : blockQ id Q (.exit id') ρ H := blockQ_exit.2 (by rw [if_neg e]; exact h)
theorem z18 {c : Code} (h : Lp cx fx c ρ H Q) : loopQ cx fx c Q .normal ρ H := loopQ_normal.2 h
theorem z19 {c : Code} (h : Q .ret ρ H) : loopQ cx fx c Q .ret ρ H := loopQ_ret.2 h
theorem z20 {c : Code} {id : Nat} (h : Q (.exit id) ρ H) : loopQ cx fx c Q (.exit id) ρ H := loopQ_exit.2 h
theorem z21 {I : Env → Heap → Prop} (h : I ρ H) : roundQ I Q .normal ρ H := roundQ_normal.2 h
theorem z22 {I : Env → Heap → Prop} (h : Q .ret ρ H) : roundQ I Q .ret ρ H := roundQ_ret.2 h
theorem z23 {I : Env → Heap → Prop} {id : Nat} (h : Q (.exit id) ρ H) : roundQ I Q (.exit id) ρ H := roundQ_exit.2 h
theorem z24 {o : Operand} {x y : Code} {b : Bool} (hb : opnd ρ o = .bool b) (ht : b = true → Ev cx fx x ρ H Q) (hf : b = false → Ev cx fx y ρ H Q) : Ev cx fx (.cond o x y) ρ H Q := ev_cond b hb ht hf
end
section
variable {cx : Cx} {fx : Fx} {ρ : Env} {H : Heap} {K : Env → Heap → Prop} {ops : Array Oper} {r : List Oper} {op : Op} {ty : TypeId} {pos : String} {aft : Array Edge} {gd : Option (Nat × Bool)}
theorem z3 (h : K ρ H) : EvO cx fx ops [] ρ H K := evo_end h
theorem z30 {d : Nat} {v : V} {H1 : Heap} (ho : evOp cx fx (callw cx) ⟨some d, op, ty, pos, aft, none⟩ ρ H = some (v, H1)) (hd : d < fx.n) (h : EvO cx fx ops r (ρ.put d v) H1 K) : EvO cx fx ops (⟨some d, op, ty, pos, aft, none⟩ :: r) ρ H K := evo_op wv_none ho hd h
theorem z31 {v : V} {H1 : Heap} (ho : evOp cx fx (callw cx) ⟨none, op, ty, pos, aft, none⟩ ρ H = some (v, H1)) (h : EvO cx fx ops r ρ H1 K) : EvO cx fx ops (⟨none, op, ty, pos, aft, none⟩ :: r) ρ H K := evo_op0 wv_none ho h
theorem z32 {d : Nat} {v : V} {H1 : Heap} (hw : wantedV ops ⟨some d, op, ty, pos, aft, gd⟩ ρ = some true) (ho : evOp cx fx (callw cx) ⟨some d, op, ty, pos, aft, gd⟩ ρ H = some (v, H1)) (hd : d < fx.n) (h : EvO cx fx ops r (ρ.put d v) H1 K) :
    EvO cx fx ops (⟨some d, op, ty, pos, aft, gd⟩ :: r) ρ H K := evo_op hw ho hd h
theorem z33 {v : V} {H1 : Heap} (hw : wantedV ops ⟨none, op, ty, pos, aft, gd⟩ ρ = some true) (ho : evOp cx fx (callw cx) ⟨none, op, ty, pos, aft, gd⟩ ρ H = some (v, H1)) (h : EvO cx fx ops r ρ H1 K) :
    EvO cx fx ops (⟨none, op, ty, pos, aft, gd⟩ :: r) ρ H K := evo_op0 hw ho h
theorem z34 {d : Nat} (hw : wantedV ops ⟨some d, op, ty, pos, aft, gd⟩ ρ = some false) (hd : d < fx.n) (h : EvO cx fx ops r (ρ.put d .skip) H K) : EvO cx fx ops (⟨some d, op, ty, pos, aft, gd⟩ :: r) ρ H K := evo_off hw hd h
theorem z35 (hw : wantedV ops ⟨none, op, ty, pos, aft, gd⟩ ρ = some false) (h : EvO cx fx ops r ρ H K) : EvO cx fx ops (⟨none, op, ty, pos, aft, gd⟩ :: r) ρ H K := evo_off0 hw h
theorem z36 {o : Oper} {b : Bool} (hw : wantedV ops o ρ = some b) (h1 : b = true → EvO cx fx ops (o :: r) ρ H K) (h2 : b = false → EvO cx fx ops (o :: r) ρ H K) : EvO cx fx ops (o :: r) ρ H K := evo_split b True True hw h1 h2
end
section
variable {cx : Cx} {n0 : Nat} {H' : Heap} {ρ : Env} {H1 : Heap}
theorem z40 {r : ResultVar} {u v : V} (h1 : resV cx.P ρ H1 r = some u) (h2 : frz 6 n0 H1 u = some v) (hh : H1.take n0 = H') : Leaf cx [r] n0 v H' .ret ρ H1 := leaf1 (by simp) h1 h2 hh
theorem z41 {r : ResultVar} {u v : V} (h1 : resV cx.P ρ H1 r = some u) (h2 : frz 6 n0 H1 u = some v) (hh : H1.take n0 = H') : Leaf cx [r] n0 v H' .normal ρ H1 := leaf1 (by simp) h1 h2 hh
theorem z42 {r1 r2 : ResultVar} {u1 u2 v1 v2 : V} (h1 : resV cx.P ρ H1 r1 = some u1) (h2 : resV cx.P ρ H1 r2 = some u2) (h3 : frz 6 n0 H1 u1 = some v1) (h4 : frz 6 n0 H1 u2 = some v2) (hh : H1.take n0 = H') :
    Leaf cx [r1, r2] n0 (.tuple [v1, v2]) H' .ret ρ H1 := leaf2 (by simp) h1 h2 h3 h4 hh
end
section
variable {cx : Cx} {fx : Fx} {ops : Array Oper} {ρ : Env} {H : Heap} {r : List Nat} {K : List (Env × Heap) → Env → Heap → Prop} {ty : TypeId} {pos : String} {aft : Array Edge} {gd : Option (Nat × Bool)} {op : Op} {i : Nat}
theorem z50 {id : Nat} {ord : List Nat} {Q : Ex → Env → Heap → Prop} (hc : canon ops = ord) (hd : drawOk ops ord = true) (hp : chkPairs cx.P ops (anc ops) ord = []) (h : EvT cx fx ops ord ρ H fun _ ρ' H' => Q .normal ρ' H') : Ev cx fx (.region id ops true) ρ H Q := ev_draw0 hc hd hp h
theorem z51 {id : Nat} {ord : List Nat} {ps : List (Nat × Nat)} {Q : Ex → Env → Heap → Prop} (hc : canon ops = ord) (hd : drawOk ops ord = true) (hp : chkPairs cx.P ops (anc ops) ord = ps) (h : EvT cx fx ops ord ρ H (ChkK cx.P ops ord ps (Q .normal))) :
    Ev cx fx (.region id ops true) ρ H Q := ev_draw2 hc hd hp h
theorem z52 (h : K [] ρ H) : EvT cx fx ops [] ρ H K := evt_end h
theorem z54 {d : Nat} {v : V} {H1 : Heap} (hi : ops[i]? = some ⟨some d, op, ty, pos, aft, none⟩) (ho : evOp cx fx (callw cx) ⟨some d, op, ty, pos, aft, none⟩ ρ H = some (v, H1)) (hd : d < fx.n) (h : EvT cx fx ops r (ρ.put d v) H1 fun st => K ((ρ, H) :: st)) :
    EvT cx fx ops (i :: r) ρ H K := evt_op hi wv_none ho hd h
theorem z55 {v : V} {H1 : Heap} (hi : ops[i]? = some ⟨none, op, ty, pos, aft, none⟩) (ho : evOp cx fx (callw cx) ⟨none, op, ty, pos, aft, none⟩ ρ H = some (v, H1)) (h : EvT cx fx ops r ρ H1 fun st => K ((ρ, H) :: st)) : EvT cx fx ops (i :: r) ρ H K := evt_op0 hi wv_none ho h
theorem z56 {d : Nat} {v : V} {H1 : Heap} (hi : ops[i]? = some ⟨some d, op, ty, pos, aft, gd⟩) (hw : wantedV ops ⟨some d, op, ty, pos, aft, gd⟩ ρ = some true) (ho : evOp cx fx (callw cx) ⟨some d, op, ty, pos, aft, gd⟩ ρ H = some (v, H1)) (hd : d < fx.n)
    (h : EvT cx fx ops r (ρ.put d v) H1 fun st => K ((ρ, H) :: st)) : EvT cx fx ops (i :: r) ρ H K := evt_op hi hw ho hd h
theorem z57 {v : V} {H1 : Heap} (hi : ops[i]? = some ⟨none, op, ty, pos, aft, gd⟩) (hw : wantedV ops ⟨none, op, ty, pos, aft, gd⟩ ρ = some true) (ho : evOp cx fx (callw cx) ⟨none, op, ty, pos, aft, gd⟩ ρ H = some (v, H1)) (h : EvT cx fx ops r ρ H1 fun st => K ((ρ, H) :: st)) :
    EvT cx fx ops (i :: r) ρ H K := evt_op0 hi hw ho h
theorem z58 {d : Nat} (hi : ops[i]? = some ⟨some d, op, ty, pos, aft, gd⟩) (hw : wantedV ops ⟨some d, op, ty, pos, aft, gd⟩ ρ = some false) (hd : d < fx.n) (h : EvT cx fx ops r (ρ.put d .skip) H fun st => K ((ρ, H) :: st)) : EvT cx fx ops (i :: r) ρ H K := evt_off hi hw hd h
theorem z59 (hi : ops[i]? = some ⟨none, op, ty, pos, aft, gd⟩) (hw : wantedV ops ⟨none, op, ty, pos, aft, gd⟩ ρ = some false) (h : EvT cx fx ops r ρ H fun st => K ((ρ, H) :: st)) : EvT cx fx ops (i :: r) ρ H K := evt_off0 hi hw h
theorem z60 {o : Oper} {b : Bool} (hi : ops[i]? = some o) (hw : wantedV ops o ρ = some b) (h1 : b = true → EvT cx fx ops (i :: r) ρ H K) (h2 : b = false → EvT cx fx ops (i :: r) ρ H K) : EvT cx fx ops (i :: r) ρ H K := evt_split b hi hw h1 h2
end
section
variable {P : Program} {ops : Array Oper} {ord : List Nat} {st : List (Env × Heap)} {last : Heap} {p q : Nat} {l : List (Nat × Nat)} {s t : Env × Heap} {dst : Option Nat} {ty : TypeId} {pos : String} {aft : Array Edge} {gd : Option (Nat × Bool)}
theorem zc1 {u : TypeId} {a : Operand} (ho : ops[ord.getD p 0]? = some ⟨dst, .load u a, ty, pos, aft, gd⟩) (hs : st[p]? = some s) (ht : st[q]? = some t)
    (h : loadV P u (opnd s.1 a) ((st[q + 1]?).map (·.2) |>.getD last) = loadV P u (opnd s.1 a) t.2) (hr : chkAll P ops ord st last l) : chkAll P ops ord st last ((p, q) :: l) := chk_cons ho hs ht h hr
theorem zc2 {u : TypeId} {m k : Operand} {ok : Bool} (ho : ops[ord.getD p 0]? = some ⟨dst, .lookup u m k ok, ty, pos, aft, gd⟩) (hs : st[p]? = some s) (ht : st[q]? = some t)
    (h : lookupV P u (opnd s.1 m) (opnd s.1 k) ok ((st[q + 1]?).map (·.2) |>.getD last) = lookupV P u (opnd s.1 m) (opnd s.1 k) ok t.2) (hr : chkAll P ops ord st last l) : chkAll P ops ord st last ((p, q) :: l) := chk_cons ho hs ht h hr
theorem zc3 {o : Oper} (ho : ops[ord.getD p 0]? = some o) (he : ∀ ρ Hp H H', obsEq P o ρ Hp H H' = (H'[Hp.length]? = H[Hp.length]?)) (hs : st[p]? = some s) (ht : st[q]? = some t)
    (h : ((st[q + 1]?).map (·.2) |>.getD last)[s.2.length]? = t.2[s.2.length]?) (hr : chkAll P ops ord st last l) : chkAll P ops ord st last ((p, q) :: l) := chk_cons ho hs ht (by rw [he]; exact h) hr
end
end Go.E
/- E, reckoned: the same interpreter, but what a drawn region owes is looked at by a Bool; so the kernel can run it. Own work. -/
namespace Go.E

mutual
def V.same : V → V → Bool
  | .int k a, .int k' b => decide (k = k') && decide (a = b)
  | .bool a, .bool b => decide (a = b)
  | .str a, .str b => decide (a = b)
  | .nilS, .nilS | .nilP, .nilP | .nilF, .nilF | .nilM, .nilM | .nilI, .nilI | .undef, .undef | .skip, .skip => true
  | .list a, .list b => V.sameL a b
  | .tl t a, .tl u b => decide (t = u) && V.sameL a b
  | .ref a b c d e, .ref a' b' c' d' e' => decide (a = a') && decide (b = b') && decide (c = c') && decide (d = d') && decide (e = e')
  | .agg a, .agg b => V.sameL a b
  | .tuple a, .tuple b => V.sameL a b
  | .eptr a n, .eptr b m => V.sameL a b && decide (n = m)
  | .ptr a b, .ptr a' b' => decide (a = a') && decide (b = b')
  | .aptr a b c d, .aptr a' b' c' d' => decide (a = a') && decide (b = b') && decide (c = c') && decide (d = d')
  | .func f a, .func g b => decide (f = g) && V.sameL a b
  | .map a, .map b => decide (a = b)
  | _, _ => false
def V.sameL : List V → List V → Bool
  | [], [] => true
  | a :: as, b :: bs => V.same a b && V.sameL as bs
  | _, _ => false
end

mutual
theorem V.same_eq : ∀ {a b : V}, V.same a b = true → a = b
  | .int .., b, h | .bool _, b, h | .str _, b, h | .ref .., b, h | .ptr .., b, h | .aptr .., b, h | .map _, b, h
  | .nilS, b, h | .nilP, b, h | .nilF, b, h | .nilM, b, h | .nilI, b, h | .undef, b, h | .skip, b, h => by
    cases b <;> simp_all [V.same]
  | .list a, b, h => by
    cases b <;> simp only [V.same, Bool.false_eq_true] at h
    rw [V.sameL_eq h]
  | .tl t a, b, h => by
    cases b <;> simp only [V.same, Bool.false_eq_true, Bool.and_eq_true, decide_eq_true_eq] at h
    rw [h.1, V.sameL_eq h.2]
  | .agg a, b, h => by
    cases b <;> simp only [V.same, Bool.false_eq_true] at h
    rw [V.sameL_eq h]
  | .tuple a, b, h => by
    cases b <;> simp only [V.same, Bool.false_eq_true] at h
    rw [V.sameL_eq h]
  | .eptr a n, b, h => by
    cases b <;> simp only [V.same, Bool.false_eq_true, Bool.and_eq_true, decide_eq_true_eq] at h
    rw [V.sameL_eq h.1, h.2]
  | .func f a, b, h => by
    cases b <;> simp only [V.same, Bool.false_eq_true, Bool.and_eq_true, decide_eq_true_eq] at h
    rw [h.1, V.sameL_eq h.2]
theorem V.sameL_eq : ∀ {a b : List V}, V.sameL a b = true → a = b
  | [], b, h => by cases b <;> simp_all [V.sameL]
  | a :: as, b, h => by
    cases b with
    | nil => simp [V.sameL] at h
    | cons b bs =>
      simp only [V.sameL, Bool.and_eq_true] at h
      rw [V.same_eq h.1, V.sameL_eq h.2]
end

def sameP : List (V × V) → List (V × V) → Bool
  | [], [] => true
  | a :: as, b :: bs => V.same a.1 b.1 && V.same a.2 b.2 && sameP as bs
  | _, _ => false
theorem sameP_eq : ∀ {a b : List (V × V)}, sameP a b = true → a = b
  | [], [], _ => rfl
  | [], _ :: _, h => by simp [sameP] at h
  | _ :: _, [], h => by simp [sameP] at h
  | (a1, a2) :: as, (b1, b2) :: bs, h => by
    simp only [sameP, Bool.and_eq_true] at h
    rw [V.same_eq h.1.1, V.same_eq h.1.2, sameP_eq h.2]
def HObj.same : HObj → HObj → Bool
  | .cells a, .cells b => V.sameL a b
  | .arr a n, .arr b m => V.sameL a b && decide (n = m)
  | .tok n, .tok m => decide (n = m)
  | .map a, .map b => sameP a b
  | _, _ => false
theorem HObj.same_eq : ∀ {a b : HObj}, HObj.same a b = true → a = b := by
  intro a b h
  cases a <;> cases b <;> simp only [HObj.same, Bool.false_eq_true, Bool.and_eq_true, decide_eq_true_eq] at h
  · rw [V.sameL_eq h]
  · rw [V.sameL_eq h.1, h.2]
  · rw [h]
  · rw [sameP_eq h]
def sameO {α : Type} (f : α → α → Bool) : Option α → Option α → Bool
  | none, none => true
  | some a, some b => f a b
  | _, _ => false
theorem sameO_eq {α : Type} {f : α → α → Bool} (hf : ∀ {a b : α}, f a b = true → a = b) : ∀ {a b : Option α}, sameO f a b = true → a = b := by
  intro a b h
  cases a <;> cases b <;> simp only [sameO, Bool.false_eq_true] at h
  · rfl
  · rw [hf h]

def obsB (P : Program) (o : Oper) (ρ : Env) (Hp H H' : Heap) : Bool :=
  match o.op with
  | .load t a => sameO V.same (loadV P t (opnd ρ a) H') (loadV P t (opnd ρ a) H)
  | .lookup t m k ok => sameO V.same (lookupV P t (opnd ρ m) (opnd ρ k) ok H') (lookupV P t (opnd ρ m) (opnd ρ k) ok H)
  | _ => sameO HObj.same H'[Hp.length]? H[Hp.length]?
theorem obsB_eq {P : Program} {o : Oper} {ρ : Env} {Hp H H' : Heap} (h : obsB P o ρ Hp H H' = true) : obsEq P o ρ Hp H H' := by
  unfold obsB at h
  unfold obsEq
  cases ho : o.op <;> simp only [ho] at h ⊢ <;> first | exact sameO_eq V.same_eq h | exact sameO_eq HObj.same_eq h
def chkB (P : Program) (ops : Array Oper) (ord : List Nat) (st : List (Env × Heap)) (last : Heap) : List (Nat × Nat) → Bool
  | [] => true
  | (p, q) :: r =>
    (match ops[ord.getD p 0]?, st[p]?, st[q]? with
    | some o, some s, some t => obsB P o s.1 s.2 t.2 ((st[q + 1]?).map (·.2) |>.getD last)
    | _, _, _ => true) && chkB P ops ord st last r
theorem chkB_all {P : Program} {ops : Array Oper} {ord : List Nat} {st : List (Env × Heap)} {last : Heap} : ∀ {l : List (Nat × Nat)}, chkB P ops ord st last l = true → chkAll P ops ord st last l
  | [], _ => trivial
  | (p, q) :: r, h => by
    simp only [chkB, Bool.and_eq_true] at h
    refine ⟨fun o s t ho hs ht => ?_, chkB_all h.2⟩
    have h1 := h.1
    rw [ho, hs, ht] at h1
    exact obsB_eq h1

def drawC (cx : Cx) (fx : Fx) (call : CallSem) (ops : Array Oper) (ρ : Env) (H : Heap) : Option (Env × Heap) :=
  if drawOk ops (canon ops) = true then
    (evTrace cx fx call ops (canon ops) ρ H).bind fun z =>
      if chkB cx.P ops (canon ops) z.1 z.2.2 (chkPairs cx.P ops (anc ops) (canon ops)) = true then some z.2 else none
  else none
theorem drawC_ev {cx : Cx} {fx : Fx} {call : CallSem} {ops : Array Oper} {ρ : Env} {H : Heap} {r : Env × Heap} (h : drawC cx fx call ops ρ H = some r) : evDraw cx fx call ops ρ H = some r := by
  unfold drawC at h
  unfold evDraw
  split at h
  · rename_i hd
    rw [if_pos hd]
    cases ht : evTrace cx fx call ops (canon ops) ρ H with
    | none => rw [ht] at h; simp at h
    | some z =>
      rw [ht] at h
      simp only [Option.bind_some] at h ⊢
      split at h
      · rename_i hc
        rw [if_pos (chkB_all hc)]; exact h
      · cases h
  · cases h

def codeC (cx : Cx) (fx : Fx) (lp : LoopSem) (call : CallSem) : Code → Env → Heap → Option Res
  | .skip, ρ, H | .label _, ρ, H => some (.normal, ρ, H)
  | .region _ ops draw, ρ, H =>
    (if draw then drawC cx fx call ops ρ H else evOps cx fx call ops ops.toList ρ H).map fun s => (.normal, s.1, s.2)
  | .seq a b, ρ, H =>
    match codeC cx fx lp call a ρ H with
    | some (.normal, ρ', H') => codeC cx fx lp call b ρ' H'
    | r => r
  | .cond c a b, ρ, H =>
    match opnd ρ c with
    | .bool true => codeC cx fx lp call a ρ H
    | .bool false => codeC cx fx lp call b ρ H
    | _ => none
  | .block id c, ρ, H =>
    match codeC cx fx lp call c ρ H with
    | some (.exit id', ρ', H') => some (if id' = id then .normal else .exit id', ρ', H')
    | r => r
  | .loop c, ρ, H => lp (codeC cx fx lp call c) ρ H
  | .exit id, ρ, H => some (.exit id, ρ, H)
  | .ret, ρ, H => some (.ret, ρ, H)
  | .scope c, ρ, H => codeC cx fx lp call c ρ H
  | .rangeFunc f ps assign body, ρ, H =>
    match opnd ρ f with
    | .func gf caps => (cx.iter gf caps).bind fun l => (evRounds (codeC cx fx lp call assign) (codeC cx fx lp call body) fx.n ps.toList ρ l H).map fun r => (r.1, ρ, r.2)
    | _ => none
  | _, _, _ => none

theorem codeC_ev {cx : Cx} {fx : Fx} {lp : LoopSem} {call : CallSem} (hl : LLe lp lp) : ∀ (c : Code) (ρ : Env) (H : Heap) (r : Res), codeC cx fx lp call c ρ H = some r → evCode cx fx lp call c ρ H = some r := by
  intro c
  induction c with
  | region id ops draw =>
    intro ρ H r e
    simp only [codeC, evCode] at e ⊢
    cases draw with
    | false => simpa using e
    | true =>
      simp only [if_true] at e ⊢
      cases ho : drawC cx fx call ops ρ H with
      | none => simp [ho] at e
      | some s => rw [ho] at e; rw [drawC_ev ho]; exact e
  | seq x y ihx ihy =>
    intro ρ H r e
    simp only [codeC, evCode] at e ⊢
    cases hx : codeC cx fx lp call x ρ H with
    | none => simp [hx] at e
    | some s =>
      obtain ⟨ex, ρ1, H1⟩ := s
      rw [hx] at e; rw [ihx _ _ _ hx]
      cases ex with
      | normal => exact ihy _ _ _ e
      | _ => exact e
  | cond o x y ihx ihy =>
    intro ρ H r e
    simp only [codeC, evCode] at e ⊢
    cases ho : opnd ρ o <;> simp only [ho] at e ⊢ <;> try (cases e; done)
    rename_i b
    cases b
    · exact ihy _ _ _ e
    · exact ihx _ _ _ e
  | block id x ih =>
    intro ρ H r e
    simp only [codeC, evCode] at e ⊢
    cases hx : codeC cx fx lp call x ρ H with
    | none => simp [hx] at e
    | some s => rw [hx] at e; rw [ih _ _ _ hx]; exact e
  | loop x ih => intro ρ H r e; simp only [codeC, evCode] at e ⊢; exact hl _ _ (fun ρ H r => ih ρ H r) _ _ _ e
  | scope x ih => intro ρ H r e; simp only [codeC, evCode] at e ⊢; exact ih _ _ _ e
  | rangeFunc f ps x y ihx ihy =>
    intro ρ H r e
    simp only [codeC, evCode] at e ⊢
    cases hf : opnd ρ f <;> simp only [hf] at e ⊢ <;> try (cases e; done)
    rename_i gf caps
    cases hi : cx.iter gf caps with
    | none => simp [hi] at e
    | some l =>
      rw [hi] at e
      simp only [Option.bind_some] at e ⊢
      cases hr : evRounds (codeC cx fx lp call x) (codeC cx fx lp call y) fx.n ps.toList ρ l H with
      | none => simp [hr] at e
      | some z => rw [hr] at e; rw [evRounds_le ihx ihy l _ _ hr]; exact e
  | _ => intro ρ H r e; simpa [codeC, evCode] using e

def bodyC (cx : Cx) (lp : LoopSem) (call : CallSem) (bs : List Nat) (f : Nat) (args : List V) (H : Heap) : Option (V × Heap) :=
  match cx.P.funcs[f]? with
  | none => none
  | some fn =>
    match fn.body with
    | none => none
    | some c =>
      if cx.keep f then (cx.known f (args.map V.norm)).map (·, H) else
        (codeC cx ⟨args.length + (fn.ntmps - args.length), H.length :: bs⟩ lp call c (fun i => (args.map V.norm).getD i .undef) H).bind fun r =>
          match r.1 with
          | .exit _ => none
          | _ => (resultsV cx.P fn r.2.1 r.2.2).bind fun vs => (vs.mapM (frz 6 H.length r.2.2)).map fun ws => (packV ws, r.2.2.take H.length)
def callC (cx : Cx) : Nat → CallSem
  | 0 => fun _ _ _ _ => none
  | k + 1 => fun bs f args H => bodyC cx (loopn k) (callC cx k) bs f args H

theorem bodyC_ev {cx : Cx} {lp : LoopSem} {call : CallSem} (hl : LLe lp lp) : CLe (bodyC cx lp call) (evBody cx lp call) := by
  intro bs f a H r e
  unfold bodyC at e
  unfold evBody
  cases hf : cx.P.funcs[f]? with
  | none => simp [hf] at e
  | some fn =>
    cases hb : fn.body with
    | none => simp [hf, hb] at e
    | some c =>
      simp only [hf, hb] at e ⊢
      split
      · rename_i hk
        rw [if_pos hk] at e; exact e
      · rename_i hk
        rw [if_neg hk] at e
        cases hc : codeC cx ⟨a.length + (fn.ntmps - a.length), H.length :: bs⟩ lp call c (fun i => (a.map V.norm).getD i .undef) H with
        | none => rw [hc] at e; simp at e
        | some s => rw [hc] at e; rw [codeC_ev hl _ _ _ _ hc]; exact e
theorem callC_ev {cx : Cx} : ∀ k, CLe (callC cx k) (callk cx k)
  | 0 => fun _ _ _ _ _ e => by simp [callC] at e
  | k + 1 => fun bs f a H r e => by
    have h1 := bodyC_ev (loopn_le (Nat.le_refl k)) bs f a H r e
    exact evBody_le (loopn_le (Nat.le_refl k)) (callC_ev k) bs f a H r h1
/-- A call that has been reckoned. -/
theorem callw_run {cx : Cx} {k : Nat} {bs : List Nat} {f : Nat} {a : List V} {H : Heap} {r : V × Heap} (h : callC cx k bs f a H = some r) : callw cx bs f a H = some r := callw_of (callC_ev k _ _ _ _ _ h)
end Go.E
/- What 'slices.Concat' does, away from its code: appends onto a block of one's own. Own work. -/
namespace Go.E
open Go.RowKit
section
variable {P : Program} {g : G} {w : World} {bs : List Nat} {H : Heap}

theorem Out.world {g' : G} {u w' : World} {H' : Heap} (o : Out bs g w H g' u H') (hh : w'.heap = u.heap) (ho : w'.os = u.os) (ht : w'.tape = u.tape) (hp : w'.output = u.output) : Out bs g w H g' w' H' := by
  have e : ({ u with drawn := w'.drawn } : World) = w' := by cases w'; cases u; simp_all
  have := o.trans (sim_drew o.sim w'.drawn)
  rwa [e] at this

/-- Nothing is laid, nothing is written. -/
theorem out_same (hS : Sim bs g H w) {w' : World} (hB : Below w.heap.size w w') (hs : w'.heap.size = w.heap.size) : Out bs g w H g w' H := by
  refine (Out.refl hS).world (Array.ext_getElem? fun i => ?_) hB.os hB.tape hB.output
  by_cases hi : i < w.heap.size
  · exact hB.block i hi
  · rw [Array.getElem?_eq_none (by omega), Array.getElem?_eq_none (by omega)]

/-- One block is laid, and is written no more. -/
theorem out_below (hS : Sim bs g H w) {w' : World} (hB : Below w.heap.size w w') (hs : w'.heap.size = w.heap.size + 1) :
    Out bs g w H (g.lay w.heap.size (fun _ => .imm) H.length (g.φ H.length)) w' H := by
  have hlt : w.heap.size < w'.heap.size := by omega
  have e : w'.heap = w.heap.push w'.heap[w.heap.size] := by
    apply Array.ext_getElem?
    intro i
    by_cases hi : i < w.heap.size
    · rw [hB.block i hi, Array.getElem?_push_lt hi]; simp [hi]
    · by_cases hi2 : i = w.heap.size
      · subst hi2; simp [hlt]
      · rw [Array.getElem?_eq_none (by omega), Array.getElem?_eq_none (by simp; omega)]
  exact (out_imm hS _).world e hB.os hB.tape hB.output

/-- A slice v over the block laid last, its first elements es; the block is of cap elements of sz cells. -/
def CatIn (g : G) (w : World) (sz cap : Nat) (es : List V) (v : Value) (wr : World) : Prop :=
  v = .slice (some ⟨w.heap.size, 0, none⟩) es.length cap ∧ Below w.heap.size w wr ∧ wr.heap.size = w.heap.size + 1 ∧
  (∀ k, k < cap * sz → (wr.cell? ⟨w.heap.size, k, none⟩).isSome = true ∧ wr.frozen? ⟨w.heap.size, k, none⟩ = false) ∧
  ∀ (j : Nat) (e : V) (q : Nat) (y : V), es[j]? = some e → e.cells[q]? = some y → ∃ y', wr.cell? ⟨w.heap.size, j * sz + q, none⟩ = some y' ∧ VRel g w y y'

theorem cat_start {sz cap : Nat} {z : Array Value} {n : Nat} {t : TypeId} (hz : z.size = sz) (hn : n ≤ cap) :
    CatIn g w sz cap [] (.slice (some ⟨w.heap.size, 0, none⟩) 0 cap) (w.drew.alloc (.cells (([] : List Value).toArray ++ Builtin.zeroCells z n ++ Builtin.zeroCells z (cap - n)) t)) := by
  have hsz : (([] : List Value).toArray ++ Builtin.zeroCells z n ++ Builtin.zeroCells z (cap - n)).size = cap * sz := by
    simp [size_zeroCells, hz]; rw [← Nat.add_mul]; congr 1; omega
  refine ⟨rfl, ⟨rfl, rfl, rfl, by simp, fun k hk => ?_⟩, by simp, fun k hk => ⟨?_, ?_⟩, by simp⟩
  · exact heap_push_lt (w := w.drew) _ (by simp; omega)
  · have := cell_push_new (w := w.drew) (([] : List Value).toArray ++ Builtin.zeroCells z n ++ Builtin.zeroCells z (cap - n)) t (0, 0) k
    have e : (w.drew.alloc (.cells (([] : List Value).toArray ++ Builtin.zeroCells z n ++ Builtin.zeroCells z (cap - n)) t)).cell? ⟨w.heap.size, k, none⟩ = _ := this
    rw [e]
    rw [Array.getElem?_eq_getElem (by omega)]; rfl
  · exact frozen_push_new (w := w.drew) _ t k

theorem cat_step (hold : ∀ b o, g.O b o = .imm → b < w.heap.size) {t u e e2 ty sz cap : Nat} {es new : List V} {v x' : Value} {wr : World} (ht : P.underlying t = some (.slice e)) (hu : P.underlying u = some (.slice e2)) (hsz : sizeT P e = some sz)
    (hI : CatIn g w sz cap es v wr) (hx : VRel g w (.list new) x') (hn : ∀ el ∈ new, el.cells.length = sz ∧ el.cells.all V.isCell = true) (hes : ∀ (j : Nat) (el : V) (q : Nat) (y : V), es[j]? = some el → el.cells[q]? = some y → q < sz)
    (hcap : es.length + new.length ≤ cap) : ∃ v' w', (Builtin.append_ #[t, u] ty #[v, x']).run P wr = .ok v' w' ∧ CatIn g w sz cap (es ++ new) v' w' := by
  obtain ⟨rfl, hB, hs, hc, hr⟩ := hI
  obtain ⟨cells, h1, h2, h3⟩ := list_rowB (P := P) hx (fun j el h => (hn el (List.mem_of_getElem? h)).1) wr (fun b o ho => hB.cell (hold b o ho))
  obtain ⟨a2, cap2, hx', hle⟩ := list_cap hx
  have hbd : es.length * sz + cells.length ≤ cap * sz := by rw [h2, ← Nat.add_mul]; exact Nat.mul_le_mul_right sz hcap
  have hone : ∀ v ∈ cells, v.oneCell' = true := fun v hv => by
    obtain ⟨k, hk⟩ := List.getElem?_of_mem hv
    obtain ⟨hlt, _⟩ := List.getElem?_eq_some_iff.1 hk
    have hsp : 0 < sz := by rcases Nat.eq_zero_or_pos sz with h | h
                            · rw [h] at h2; omega
                            · exact h
    have hd : k / sz < new.length := by rw [Nat.div_lt_iff_lt_mul hsp]; omega
    have hm : k % sz < sz := Nat.mod_lt _ hsp
    have e1 : new[k / sz]? = some new[k / sz] := by simp [hd]
    obtain ⟨g1, g2⟩ := hn _ (List.mem_of_getElem? e1)
    have e3 : (new[k / sz]).cells[k % sz]? = some ((new[k / sz]).cells[k % sz]'(by omega)) := by simp
    obtain ⟨u', e4, e5⟩ := h3 _ _ _ _ e1 e3
    rw [Nat.div_add_mod', hk] at e4
    cases e4
    exact (isCell_one e5 (List.all_eq_true.1 g2 _ (List.mem_of_getElem? e3))).1
  have hsome : ∀ j, j < cells.length → (wr.cell? ⟨w.heap.size, 0 + es.length * sz + j, none⟩).isSome = true := fun j hj => by rw [Nat.zero_add]; exact (hc _ (by omega)).1
  have run := append_in (P := P) (w := wr) (ty := ty) (b := w.heap.size) (o := 0) ht hu hsz hcap hx' h1 hsome (fun j hj => by rw [Nat.zero_add]; exact (hc _ (by omega)).2) hone
  obtain ⟨s1, s2, s3, s4, s5⟩ := setCells_heap w.heap.size cells (0 + es.length * sz) wr
  refine ⟨_, _, run, by simp, ⟨s3.trans hB.os, s4.trans hB.tape, s5.trans hB.output, by rw [s1]; exact hB.size, fun k hk => (s2 k (by omega)).trans (hB.block k hk)⟩, by rw [s1, hs], fun k hk => ⟨?_, ?_⟩, fun j el q y hj hy => ?_⟩
  · by_cases hin : es.length * sz ≤ k ∧ k < es.length * sz + cells.length
    · have := World.cell?_setCells_in w.heap.size cells (0 + es.length * sz) wr hsome (k - es.length * sz) (by omega)
      rw [show 0 + es.length * sz + (k - es.length * sz) = k by omega] at this
      rw [this]; rfl
    · rw [World.cell?_setCells_out _ _ _ _ _ (fun _ _ => by simp only; omega)]
      exact (hc k hk).1
  · rw [World.frozen?_setCells]; exact (hc k hk).2
  · rcases append_get es new j el hj with ⟨hlt, hj1⟩ | ⟨hge, hlt, hj1⟩
    · obtain ⟨y', e1, e2⟩ := hr j el q y hj1 hy
      have hk := at_lt (sz := sz) hlt (hes j el q y hj1 hy)
      refine ⟨y', ?_, e2⟩
      rw [World.cell?_setCells_out _ _ _ _ _ (fun _ _ => by simp only; omega)]
      exact e1
    · obtain ⟨y', e1, e2⟩ := h3 _ _ _ _ hj1 hy
      have hjs : j * sz + q = es.length * sz + ((j - es.length) * sz + q) := by
        rw [← Nat.add_assoc, ← Nat.add_mul]; congr 2; omega
      obtain ⟨hlt2, e3⟩ := List.getElem?_eq_some_iff.1 e1
      have := World.cell?_setCells_in w.heap.size cells (0 + es.length * sz) wr hsome _ hlt2
      refine ⟨y', ?_, e2⟩
      rw [hjs]
      rw [Nat.zero_add] at this
      rw [Nat.zero_add, this, e3]

theorem cat_end (hS : Sim bs g H w) {sz cap : Nat} {es : List V} {v : Value} {wr : World} (hI : CatIn g w sz cap es v wr) (hcap : es.length ≤ cap) (hp : V.pureL es = true) (hes : ∀ (j : Nat) (e : V), es[j]? = some e → e.cells.length = sz) :
    ∃ g', Out bs g w H g' wr H ∧ VRel g' wr (.list es) v := by
  obtain ⟨rfl, hB, hs, hc, hr⟩ := hI
  have o := out_below hS hB hs
  refine ⟨_, o, list_mk (s := sz) (fun k => (wr.cell? ⟨w.heap.size, k, none⟩).getD Go.undef) hcap hes hp (fun k hk => ⟨by simp [G.lay], ?_⟩) (fun j e q y hj hy => ?_)⟩
  · have h1 := (hc k (Nat.lt_of_lt_of_le hk (Nat.mul_le_mul_right sz hcap))).1
    rw [Nat.zero_add]
    cases h : wr.cell? ⟨w.heap.size, k, none⟩ with
    | none => rw [h] at h1; cases h1
    | some x => rfl
  · obtain ⟨y', e1, e2⟩ := hr j e q y hj hy
    rw [e1]
    exact e2.mono o.ext
end
end Go.E
