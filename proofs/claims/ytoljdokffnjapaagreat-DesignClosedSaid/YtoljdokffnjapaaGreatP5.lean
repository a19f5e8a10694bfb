/- Contracts of the references' base, in E: outputs, leaves. Own work. -/
import Derived.Test.YtoljdokffnjapaaGreatP4
import Derived.Test.YtoljdokffnjapaaGreatP2
import Derived.Test.YtoljdokffnjapaaGreatP3
set_option linter.all false
namespace Go.E
open Go.Proofs
def stepsAt (d : Desg) (i : Nat) (v s : List Int) : List Rul → Nat → List (DStep × List Int)
 | [], _ => []
 | x :: rs, r => if enD v x = true then (⟨i, r⟩, begL d.elements (hapL x.writes v s)) :: stepsAt d i v s rs (r + 1) else stepsAt d i v s rs (r + 1)
def stepsFrom (d : Desg) (s : List Int) : List (List Int) → Nat → List (DStep × List Int)
 | [], _ => []
 | l :: ls, i => stepsAt d i (valsD d l s) s d.rules 0 ++ stepsFrom d s ls (i + 1)
def encStep (p : DStep × List Int) : List V := [encDStep p.1, .list (p.2.map (.int .i64))]
def rdList {α : Type} (f : V → Option α) : V → Option (List α)
 | .list l => l.mapM f
 | _ => none
def rdInt : V → Option Int
 | .int .i64 n => some n
 | _ => none
def rdInts : V → Option (List Int) := rdList rdInt
def rdPort : V → Option Port
 | .agg [.str s, .int .i64 n] => some ⟨s, n⟩
 | _ => none
def rdElem : V → Option Elem
 | .agg [.str s, .int .i64 a, .int .i64 b, .int .i64 c, .int .i64 e] => some ⟨s, a, b, c, e⟩
 | _ => none
def rdNode : V → Option Node
 | .agg [.int .i64 a, .int .i64 b, l, .int .i64 c] => (rdInts l).map fun l => ⟨a, b, l, c⟩
 | _ => none
def rdWri : V → Option Wri
 | .agg [.int .i64 a, .int .i64 b, .int .i64 c] => some ⟨a, b, c⟩
 | _ => none
def rdRul : V → Option Rul
 | .agg [.str s, .int .i64 a, l] => (rdList rdWri l).map fun l => ⟨s, a, l⟩
 | _ => none
def rdOutp : V → Option Outp
 | .agg [.str s, .int .i64 n] => some ⟨s, n⟩
 | _ => none
def rdAttr : V → Option Attr
 | .agg [.int .i64 a, l] => (rdInts l).map fun l => ⟨a, l⟩
 | _ => none
def rdDesg : List V → Option Desg
 | [.str s, a, b, c, d, e, f] => (rdList rdPort a).bind fun a => (rdList rdElem b).bind fun b => (rdList rdNode c).bind fun c => (rdList rdRul d).bind fun d => (rdList rdOutp e).bind fun e => (rdList rdAttr f).map fun f => ⟨s, a, b, c, d, e, f⟩
 | _ => none
theorem yF {α : Type} {f : V → Option α} {enc : α → V} (h : ∀ v x, f v = some x → v = enc x) : ∀ {l : List V} {xs : List α}, l.mapM f = some xs → l = xs.map enc
 | [], xs, e => by simp at e; subst e; rfl
 | v :: l, xs, e => by
  simp only [List.mapM_cons, Option.bind_eq_bind, Option.pure_def] at e
  obtain ⟨x, h1, h2⟩ := Option.bind_eq_some_iff.1 e
  obtain ⟨ys, h3, h4⟩ := Option.bind_eq_some_iff.1 h2
  cases h4
  rw [h v x h1, yF h h3]; rfl
theorem iS {α : Type} {f : V → Option α} {enc : α → V} (h : ∀ v x, f v = some x → v = enc x) {v : V} {xs : List α} (e : rdList f v = some xs) : v = .list (xs.map enc) := by
 unfold rdList at e
 split at e
 ·rw [yF h e]
 ·cases e
theorem rd_mapM' {α : Type} {f : V → Option α} {enc : α → V} (h : ∀ x, f (enc x) = some x) : ∀ (xs : List α), (xs.map enc).mapM f = some xs
 | [] => rfl
 | x :: xs => by rw [List.map_cons, List.mapM_cons, h, rd_mapM' h xs]; rfl
theorem HM {v : V} {n : Int} (e : rdInt v = some n) : v = .int .i64 n := by
 unfold rdInt at e; split at e <;> cases e; rfl
theorem rr {v : V} {n : List Int} (e : rdInts v = some n) : v = encInts n := iS (enc := V.int .i64) (fun _ _ => HM) e
theorem Gk (v : V) (x : Port) (e : rdPort v = some x) : v = encPort x := by unfold rdPort at e; split at e <;> cases e; rfl
theorem Gl (v : V) (x : Elem) (e : rdElem v = some x) : v = encElem x := by unfold rdElem at e; split at e <;> cases e; rfl
theorem HN (v : V) (x : Wri) (e : rdWri v = some x) : v = encWri x := by unfold rdWri at e; split at e <;> cases e; rfl
theorem Gm (v : V) (x : Outp) (e : rdOutp v = some x) : v = encOutp x := by unfold rdOutp at e; split at e <;> cases e; rfl
theorem Gn (v : V) (x : Node) (e : rdNode v = some x) : v = encNode x := by
 unfold rdNode at e
 split at e
 ·obtain ⟨l, h1, rfl⟩ := Option.map_eq_some_iff.1 e
  rw [rr h1]; rfl
 ·cases e
theorem HO (v : V) (x : Rul) (e : rdRul v = some x) : v = encRul x := by
 unfold rdRul at e
 split at e
 ·obtain ⟨l, h1, rfl⟩ := Option.map_eq_some_iff.1 e
  rw [iS HN h1]; rfl
 ·cases e
theorem Gp (v : V) (x : Attr) (e : rdAttr v = some x) : v = encAttr x := by
 unfold rdAttr at e
 split at e
 ·obtain ⟨l, h1, rfl⟩ := Option.map_eq_some_iff.1 e
  rw [rr h1]; rfl
 ·cases e
theorem Gq {l : List V} {d : Desg} (e : rdDesg l = some d) : l = cellsDesg d := by
 unfold rdDesg at e
 split at e
 case h_2 => cases e
 obtain ⟨a, h1, e⟩ := Option.bind_eq_some_iff.1 e
 obtain ⟨b, h2, e⟩ := Option.bind_eq_some_iff.1 e
 obtain ⟨c, h3, e⟩ := Option.bind_eq_some_iff.1 e
 obtain ⟨r, h4, e⟩ := Option.bind_eq_some_iff.1 e
 obtain ⟨o, h5, e⟩ := Option.bind_eq_some_iff.1 e
 obtain ⟨f, h6, rfl⟩ := Option.map_eq_some_iff.1 e
 rw [iS Gk h1, iS Gl h2, iS Gn h3, iS HO h4, iS Gm h5, iS Gp h6]; rfl
theorem rd_ints' (l : List Int) : rdInts (encInts l) = some l := rd_mapM' (enc := V.int .i64) (fun _ => rfl) l
theorem rd_desg' (d : Desg) : rdDesg (cellsDesg d) = some d := by
 have h1 : rdList rdPort (.list (d.inputs.map encPort)) = some d.inputs := rd_mapM' (f := rdPort) (enc := encPort) (fun _ => rfl) _
 have h2 : rdList rdElem (.list (d.elements.map encElem)) = some d.elements := rd_mapM' (f := rdElem) (enc := encElem) (fun _ => rfl) _
 have h3 : rdList rdNode (.list (d.nodes.map encNode)) = some d.nodes := rd_mapM' (fun x => by
  show (rdInts (encInts x.args)).map _ = _; rw [rd_ints']; rfl) _
 have h4 : rdList rdRul (.list (d.rules.map encRul)) = some d.rules := rd_mapM' (fun x => by
  have : rdList rdWri (.list (x.writes.map encWri)) = some x.writes := rd_mapM' (f := rdWri) (enc := encWri) (fun _ => rfl) _
  show (rdList rdWri _).map _ = _; rw [this]; rfl) _
 have h5 : rdList rdOutp (.list (d.outs.map encOutp)) = some d.outs := rd_mapM' (f := rdOutp) (enc := encOutp) (fun _ => rfl) _
 have h6 : rdList rdAttr (.list (d.attrs.map encAttr)) = some d.attrs := rd_mapM' (fun x => by
  show (rdInts (encInts x.rules)).map _ = _; rw [rd_ints']; rfl) _
 simp only [rdDesg, cellsDesg, h1, h2, h3, h4, h5, h6, Option.bind_some, Option.map_some]
def sizesB (d : Desg) : Bool := decide (d.name.size ≤ 1000) && decide (d.inputs.length ≤ 1000) && decide (d.elements.length ≤ 1000) && decide (d.nodes.length ≤ 1000) && decide (d.rules.length ≤ 1000) && decide (d.outs.length ≤ 1000) && decide (d.attrs.length ≤ 1000) &&
 (d.inputs.all fun p => decide (p.name.size ≤ 1000)) && (d.elements.all fun p => decide (p.name.size ≤ 1000)) && (d.rules.all fun p => decide (p.name.size ≤ 1000)) && (d.outs.all fun p => decide (p.name.size ≤ 1000)) &&
 (d.nodes.all fun x => decide (x.args.length ≤ 1000)) && (d.rules.all fun x => decide (x.writes.length ≤ 1000)) && (d.attrs.all fun x => decide (x.rules.length ≤ 1000))
theorem uZ {d : Desg} : sizesB d = true ↔ FewD d := by
 simp only [sizesB, Bool.and_eq_true, decide_eq_true_eq, List.all_eq_true]
 constructor
 ·rintro ⟨⟨⟨⟨⟨⟨⟨⟨⟨⟨⟨⟨⟨a1, a2⟩, a3⟩, a4⟩, a5⟩, a6⟩, a7⟩, a8⟩, a9⟩, a10⟩, a11⟩, a12⟩, a13⟩, a14⟩
  exact ⟨a1, a2, a3, a4, a5, a6, a7, a8, a9, a10, a11, a12, a13, a14⟩
 ·rintro ⟨a1, a2, a3, a4, a5, a6, a7, a8, a9, a10, a11, a12, a13, a14⟩
  exact ⟨⟨⟨⟨⟨⟨⟨⟨⟨⟨⟨⟨⟨a1, a2⟩, a3⟩, a4⟩, a5⟩, a6⟩, a7⟩, a8⟩, a9⟩, a10⟩, a11⟩, a12⟩, a13⟩, a14⟩
def stepsOkB (d : Desg) (inputs : List (List Int)) (s : List Int) : Bool :=
 sizesB d && decide ((designErrR d).2 = 0) && decide (inputs.length ≤ 1000000) && (inputs.all fun l => decide (valErrS (inWs d) l = 0)) && decide (valErrS (elWs d) s = 0)
structure StepsOk (d : Desg) (inputs : List (List Int)) (s : List Int) : Prop where
 ok : OkD d
 len : inputs.length ≤ 1000000
 ins : ∀ l ∈ inputs, LeafOk (inWs d) l
 st : LeafOk (elWs d) s
theorem rX {d : Desg} {inputs : List (List Int)} {s : List Int} : stepsOkB d inputs s = true ↔ StepsOk d inputs s := by
 simp only [stepsOkB, Bool.and_eq_true, decide_eq_true_eq, List.all_eq_true, uZ]
 constructor
 ·rintro ⟨⟨⟨⟨h1, h2⟩, h3⟩, h4⟩, h5⟩
  have ok : OkD d := ⟨h1, h2⟩
  exact ⟨ok, h3, fun l hl => (fw ok.inW).1 (h4 l hl), (fw ok.elW).1 h5⟩
 ·rintro ⟨ok, h3, h4, h5⟩
  exact ⟨⟨⟨⟨ok.few, ok.err⟩, h3⟩, fun l hl => (fw ok.inW).2 (h4 l hl)⟩, (fw ok.elW).2 h5⟩
def iterS (gf : Nat) (caps : List V) : Option (List (List V)) :=
 match caps with
 | [.eptr [.list ins] 0, .eptr dcs 0, .eptr [.list ss] 0] =>
  if gf = 180 then
   (rdDesg dcs).bind fun d => (rdList rdInts (.list ins)).bind fun inputs => (rdInts (.list ss)).bind fun s =>
    if stepsOkB d inputs s = true then some ((stepsFrom d s inputs 0).map encStep) else none
  else none
 | _ => none
theorem wT {d : Desg} {inputs : List (List Int)} {s : List Int} (h : StepsOk d inputs s) :
  iterS 180 [.eptr [.list (inputs.map encInts)] 0, .eptr (cellsDesg d) 0, .eptr [.list (s.map (.int .i64))] 0] = some ((stepsFrom d s inputs 0).map encStep) := by
 have h1 : rdList rdInts (.list (inputs.map encInts)) = some inputs := rd_mapM' rd_ints' _
 have h2 : rdInts (.list (s.map (.int .i64))) = some s := rd_ints' s
 simp only [iterS, if_true, rd_desg', h1, h2, Option.bind_some, if_pos (rX.2 h)]
theorem zD {gf : Nat} {caps : List V} {l : List (List V)} (h : iterS gf caps = some l) : gf = 180 ∧ ∃ d inputs s, StepsOk d inputs s ∧
  caps = [.eptr [.list (inputs.map encInts)] 0, .eptr (cellsDesg d) 0, .eptr [.list (s.map (.int .i64))] 0] ∧ l = (stepsFrom d s inputs 0).map encStep := by
 unfold iterS at h
 split at h
 case h_2 => cases h
 split at h
 case isFalse => cases h
 rename_i hg
 obtain ⟨d, h1, h⟩ := Option.bind_eq_some_iff.1 h
 obtain ⟨inputs, h2, h⟩ := Option.bind_eq_some_iff.1 h
 obtain ⟨s, h3, h⟩ := Option.bind_eq_some_iff.1 h
 split at h
 case isFalse => cases h
 rename_i hb
 cases h
 have e2 := iS (enc := encInts) (fun _ _ => rr) h2
 have e3 := rr h3
 refine ⟨hg, d, inputs, s, rX.1 hb, ?_, rfl⟩
 cases e2
 cases e3
 rw [Gq h1]
end Go.E
namespace Go.E
open Go.Proofs
set_option maxRecDepth 100000
set_option maxHeartbeats 4000000
theorem Ci {P : Program} {a : Act} {W : World} {o : Oper} {t : TypeId} {x : Operand} {b : Bool} (hop : o.op = .unOp .not t x) (hv : a.eval x = .bool b) : (execOp a.eval o).run P W = .ok (.value (.bool (!b))) W := by
 unfold execOp
 simp only [hop, hv]
 cases b <;> simp [Op.unary, go_sem]
theorem A8 {P : Program} {a : Act} {W : World} {o : Oper} {c x y : Operand} {b z : Bool} (hop : o.op = .pick c x y) (hc : a.eval c = .bool b) (hz : (if b = true then a.eval x else a.eval y) = .bool z) : (execOp a.eval o).run P W = .ok (.value (.bool z)) W := by
 unfold execOp
 simp only [hop, hc]
 have ha : asBool (.bool b) = pure b := rfl
 simp only [ha, Sem.run_bind, Sem.run_pure, Result.andThen_ok, hz]
section
variable {d : Desg} {inputs : List (List Int)} {s : List Int} {L : Nat} {J : Nat → G → World → Prop} {Jx : World → Prop} {l : List (List V)}
structure StA (d : Desg) (inputs : List (List Int)) (s : List Int) (L : Nat) (ρ : Env) : Prop where
 h0 : ρ 0 = .yld L
 h1 : ρ 1 = .eptr [.list (inputs.map encInts)] 0
 h2 : ρ 2 = .eptr [.str d.name, .list (d.inputs.map encPort), .list (d.elements.map encElem), .list (d.nodes.map encNode), .list (d.rules.map encRul), .list (d.outs.map encOutp), .list (d.attrs.map encAttr)] 0
 h3 : ρ 3 = .eptr [.list (s.map (.int .i64))] 0
 h9 : ρ 9 = .list (inputs.map encInts)
 h10 : ρ 10 = .int .i64 (inputs.length : Int)
structure StO (d : Desg) (inputs : List (List Int)) (s : List Int) (L : Nat) (l : List (List V)) (i : Nat) (ρ : Env) (k : Nat) : Prop where
 a : StA d inputs s L ρ
 h11 : ρ 11 = .int .i64 (i : Int)
 rest : l.drop k = (stepsFrom d s (inputs.drop i) i).map encStep
 le : k ≤ l.length
structure StI (d : Desg) (inputs : List (List Int)) (s : List Int) (L : Nat) (l : List (List V)) (i : Nat) (v : List Int) (r : Nat) (ρ : Env) (k : Nat) : Prop where
 a : StA d inputs s L ρ
 h11 : ρ 11 = .int .i64 (i : Int)
 h5 : ρ 5 = .int .i64 (i : Int)
 h7 : ρ 7 = .list (v.map (.int .i64))
 h23 : ρ 23 = .int .i64 (d.rules.length : Int)
 h24 : ρ 24 = .int .i64 (r : Int)
 rest : l.drop k = (stepsAt d i v s (d.rules.drop r) r ++ stepsFrom d s (inputs.drop (i + 1)) (i + 1)).map encStep
 le : k ≤ l.length
theorem A9 {α : Type} {l : List α} {k : Nat} {x : α} {r : List α} (h : l.drop k = x :: r) : l[k]? = some x ∧ l.drop (k + 1) = r ∧ k + 1 ≤ l.length := ⟨ak h, ah h, gm h⟩
theorem Gr (hm : X.P.follows .mixedOrders = true) (hC : CallOk X (callw X)) (h : StepsOk d inputs s) (hJ : JOk J) (hY : YOk X.P L l J Jx) (hl : l = (stepsFrom d s inputs 0).map encStep) (c : Code) (hc : Tryz.f180.body = some c)
  (ρ : Env) (g0 : ρ 0 = .yld L) (g1 : ρ 1 = .eptr [.list (inputs.map encInts)] 0) (g2 : ρ 2 = .eptr (cellsDesg d) 0) (g3 : ρ 3 = .eptr [.list (s.map (.int .i64))] 0) :
  IW X.P 48 J Jx c ρ 0 (fun ex _ k => (ex = .normal ∨ ex = .ret) ∧ k = l.length) := by
 obtain rfl := Option.some.inj hc
 clear hc
 obtain ⟨F, hF⟩ : ∃ F, 1000000 < F := ⟨1000001, by omega⟩
 simp only [cellsDesg] at g2
 have hi6 := h.len
 have hr6 := h.ok.few.rules
 refine fK (eg hm hC hJ fun bs H => ?_)
 repeat' first
  | (refine yw1 (id := 7) oz16 oz17 ?_)
  | (refine zs ?_; repeat' first | apply zs0 | apply zs2 | (intro hc; try have hq := dq hc)) | fail
 refine ⟨rfl, rfl, ?_⟩
 show IW X.P 48 J Jx _ _ _ _
 refine pj (yu (fun m ρ k => ∃ i, i + m = inputs.length ∧ StO d inputs s L l i ρ k) ?_ inputs.length _ _ ⟨0, by omega, ⟨⟨yw3, yw3, yw3, yw3, yw3, yw3⟩, yw3, by rw [hl]; rfl, Nat.zero_le _⟩⟩)
 rintro m ρ k ⟨i, him, ⟨⟨a0, a1, a2, a3, a9, a10⟩, a11, hrest, hle⟩⟩
 clear g0 g1 g2 g3
 rcases Nat.eq_zero_or_pos m with rfl | hm0
 ·refine ⟨0, .inr rfl, ?_⟩
  obtain rfl : i = inputs.length := by omega
  have dd : decide ((inputs.length : Int) < (inputs.length : Int)) = false := decide_eq_false (by omega)
  have hk : k = l.length := by
   rw [List.drop_length] at hrest
   have := congrArg List.length hrest
   simp [stepsFrom] at this; omega
  refine fK (eg hm hC hJ fun bs H => ?_)
  repeat' first
   | (refine yw1 (id := 7) oz16 oz17 ?_)
   | (refine zs ?_; repeat' first | apply zs0 | apply zs2 | (intro hc; try have hq := dq hc)) | fail
  refine ⟨rfl, rfl, ?_⟩
  show IW X.P 48 J Jx _ _ _ _
  refine fK (mC (b := false) (yw3) ?_)
  exact yt ⟨.inl rfl, hk⟩
 ·obtain ⟨m, rfl⟩ : ∃ m', m = m' + 1 := ⟨m - 1, by omega⟩
  refine ⟨m, .inl rfl, ?_⟩
  have hlt : i < inputs.length := by omega
  have dd : decide ((i : Int) < (inputs.length : Int)) = true := decide_eq_true (by omega)
  obtain ⟨x, hx⟩ : ∃ x, inputs[i]? = some x := ⟨_, aS hlt⟩
  have hxo := h.ins x (List.mem_of_getElem? hx)
  have hdr : inputs.drop i = x :: inputs.drop (i + 1) := by rw [List.drop_eq_getElem_cons hlt]; congr 1; rw [aS hlt] at hx; exact Option.some.inj hx
  have hw := add1 i inputs.length hlt (by omega)
  have t1 := fun bs H => cO bs H F d x s _ (nO hF h.ok hxo h.st)
  simp only [encDesg, cellsDesg] at t1
  have hvl := jR d x s
  rw [hdr, stepsFrom] at hrest
  generalize valsD d x s = v at t1 hvl hrest
  refine fK (eg hm hC hJ fun bs H => ?_)
  repeat' first
   | (refine yw1 (id := 7) oz16 oz17 ?_)
   | (refine zs ?_; repeat' first | apply zs0 | apply zs2 | (intro hc; try have hq := dq hc)) | fail
  refine ⟨rfl, rfl, ?_⟩
  show IW X.P 48 J Jx _ _ _ _
  refine fK (mC (b := true) (yw3) (rm ?_))
  show IW X.P 48 J Jx _ _ _ _
  refine fK (pj (fK (eg hm hC hJ fun bs H => ?_)))
  repeat' first
   | (refine yw1 (id := 7) oz16 oz17 ?_)
   | (refine zs ?_; repeat' first | apply zs0 | apply zs2 | (intro hc; try have hq := dq hc)) | fail
  refine ⟨rfl, rfl, ?_⟩
  show IW X.P 48 J Jx _ _ _ _
  refine fK (eg hm hC hJ fun bs H => ?_)
  repeat' first
   | (refine yw1 (id := 7) oz16 oz17 ?_)
   | (refine zs ?_; repeat' first | apply zs0 | apply zs2 | (intro hc; try have hq := dq hc)) | fail
  refine ⟨rfl, rfl, ?_⟩
  show IW X.P 48 J Jx _ _ _ _
  refine fK (eg hm hC hJ fun bs H => ?_)
  repeat' first
   | (refine yw1 (id := 7) oz16 oz17 ?_)
   | (refine zs ?_; repeat' first | apply zs0 | apply zs2 | (intro hc; try have hq := dq hc)) | fail
  refine ⟨rfl, rfl, ?_⟩
  show IW X.P 48 J Jx _ _ _ _
  refine pj (yu (fun m ρ k => ∃ r, r + m = d.rules.length ∧ StI d inputs s L l i v r ρ k) ?_ d.rules.length _ _ ⟨0, by omega, ⟨⟨yw3, yw3, yw3, yw3, yw3, yw3⟩, yw3, yw3, yw3, yw3, yw3, hrest, hle⟩⟩)
  clear hrest hle a0 a1 a2 a3 a9 a10 a11
  rintro m' ρ k ⟨r, hrm, ⟨⟨a0, a1, a2, a3, a9, a10⟩, a11, a5, a7, a23, a24, hrest, hle⟩⟩
  rcases Nat.eq_zero_or_pos m' with rfl | hm0
  ·refine ⟨0, .inr rfl, ?_⟩
   obtain rfl : r = d.rules.length := by omega
   have dd2 : decide ((d.rules.length : Int) < (d.rules.length : Int)) = false := decide_eq_false (by omega)
   rw [List.drop_length, stepsAt, List.nil_append] at hrest
   refine fK (eg hm hC hJ fun bs H => ?_)
   repeat' first
    | (refine yw1 (id := 7) oz16 oz17 ?_)
    | (refine zs ?_; repeat' first | apply zs0 | apply zs2 | (intro hc; try have hq := dq hc)) | fail
   refine ⟨rfl, rfl, ?_⟩
   show IW X.P 48 J Jx _ _ _ _
   refine fK (mC (b := false) (yw3) ?_)
   refine yt ?_
   show IW X.P 48 J Jx _ _ _ _
   refine eg hm hC hJ fun bs H => ?_
   repeat' first
    | (refine yw1 (id := 7) oz16 oz17 ?_)
    | (refine zs ?_; repeat' first | apply zs0 | apply zs2 | (intro hc; try have hq := dq hc)) | fail
   exact ⟨rfl, rfl, by omega, i + 1, by omega, ⟨⟨yw3, yw3, yw3, yw3, yw3, yw3⟩, yw3, hrest, hle⟩⟩
  obtain ⟨m', rfl⟩ : ∃ z, m' = z + 1 := ⟨m' - 1, by omega⟩
  refine ⟨m', .inl rfl, ?_⟩
  have hlt2 : r < d.rules.length := by omega
  have dd2 : decide ((r : Int) < (d.rules.length : Int)) = true := decide_eq_true (by omega)
  obtain ⟨y, hy⟩ : ∃ y, d.rules[r]? = some y := ⟨_, aS hlt2⟩
  have hdr2 : d.rules.drop r = y :: d.rules.drop (r + 1) := by rw [List.drop_eq_getElem_cons hlt2]; congr 1; rw [aS hlt2] at hy; exact Option.some.inj hy
  have hw2 := add1 r d.rules.length hlt2 (by omega)
  have t2 := fun bs H => dx bs H F d (r : Int) v _ (tF h.ok hvl hy)
  have hsl : s.length = d.elements.length := by rw [h.st.1]; simp [elWs]
  have t3 := fun bs H => dM bs H F d (r : Int) v s _ (rW hF h.ok hvl hsl hy)
  have hpl : (hapL y.writes v s).length = d.elements.length := by
   have : ∀ (ws : List Wri) (o : List Int), (hapL ws v o).length = o.length := by
    intro ws
    induction ws with
    | nil => intro o; rfl
    | cons w ws ih => intro o; unfold hapL at ih ⊢; rw [List.foldl_cons, ih]; split <;> simp
   rw [this, hsl]
  have t4 := fun bs H => bR bs H F d (hapL y.writes v s) _ (kN hF h.ok.few.elements hpl)
  simp only [encDesg, cellsDesg] at t2 t3 t4
  rw [hdr2, stepsAt] at hrest
  refine fK (eg hm hC hJ fun bs H => ?_)
  repeat' first
   | (refine yw1 (id := 7) oz16 oz17 ?_)
   | (refine zs ?_; repeat' first | apply zs0 | apply zs2 | (intro hc; try have hq := dq hc)) | fail
  refine ⟨rfl, rfl, ?_⟩
  show IW X.P 48 J Jx _ _ _ _
  refine fK (mC (b := true) (yw3) (rm ?_))
  show IW X.P 48 J Jx _ _ _ _
  refine fK (pj (fK (eg hm hC hJ fun bs H => ?_)))
  repeat' first
   | (refine yw1 (id := 7) oz16 oz17 ?_)
   | (refine zs ?_; repeat' first | apply zs0 | apply zs2 | (intro hc; try have hq := dq hc)) | fail
  refine ⟨rfl, rfl, ?_⟩
  show IW X.P 48 J Jx _ _ _ _
  rcases bb (enD v y) with he | he
  case inr =>
   rw [he] at t2
   rw [he, if_neg (by simp)] at hrest
   refine fK (eg hm hC hJ fun bs H => ?_)
   repeat' first
    | (refine yw1 (id := 7) oz16 oz17 ?_)
    | (refine zs ?_; repeat' first | apply zs0 | apply zs2 | (intro hc; try have hq := dq hc)) | fail
   refine ⟨rfl, rfl, ?_⟩
   show IW X.P 48 J Jx _ _ _ _
   refine mC (b := false) (yw3) (rm ?_)
   show IW X.P 48 J Jx _ _ _ _
   refine eg hm hC hJ fun bs H => ?_
   repeat' first
    | (refine yw1 (id := 7) oz16 oz17 ?_)
    | (refine zs ?_; repeat' first | apply zs0 | apply zs2 | (intro hc; try have hq := dq hc)) | fail
   exact ⟨rfl, rfl, by omega, r + 1, by omega, ⟨⟨yw3, yw3, yw3, yw3, yw3, yw3⟩, yw3, yw3, yw3, yw3, yw3, hrest, hle⟩⟩
  rw [he] at t2
  rw [he, if_pos rfl, List.cons_append, List.map_cons] at hrest
  obtain ⟨hlk, hrest, hle⟩ := A9 hrest
  simp only [encStep, encDStep, cellsDStep] at hlk
  generalize begL d.elements (hapL y.writes v s) = nx at t4 hlk
  generalize hapL y.writes v s = hp at t3 t4
  intro g W a st
  refine wpIn_seq (wz hm hC hJ hY (ord := [0, 1, 2, 3, 4, 5, 6, 7, 8, 9, 10, 11, 12, 13, 14, 15]) (ps := [(9, 14)]) (y := 16) (m := 2) (by kernel_rfl) rfl rfl (by decide) rfl rfl (by intro i hi; have e := Option.some.inj hi; subst e; decide) (by kernel_rfl) (by kernel_rfl) (fun bs H => ?_) st)
  repeat' first
   | (refine yw1 (id := 7) oz16 oz17 ?_)
   | (refine zs ?_; repeat' first | apply zs0 | apply zs2 | (intro hc; try have hq := dq hc)) | fail
  refine ⟨rfl, by (simp only [seval, push_cast, *] <;> fail), yw3, by rw [hlk]; (simp only [seval, push_cast, *] <;> rfl), fun g W a st => ?_, fun W a hb hf hs hd hx => ?_⟩
  ·refine yw hC hJ (i := 17) (m := 1) (v := .bool false) (by kernel_rfl) (by kernel_rfl) rfl (by (simp only [putO, seval, push_cast, *] <;> fail)) (by intro i hi; have e := Option.some.inj hi; subst e; decide) (fun bs H => by (simp only [putO, seval, push_cast, *] <;> rfl)) st (fun g W a st => ?_)
   refine yw hC hJ (i := 18) (m := 0) (v := .bool false) (by kernel_rfl) (by kernel_rfl) rfl (by (simp only [putO, seval, push_cast, *] <;> fail)) (by intro i hi; have e := Option.some.inj hi; subst e; decide) (fun bs H => by (simp only [putO, seval, push_cast, *] <;> rfl)) st (fun g W a st => yx (by kernel_rfl) ?_)
   refine (mC (b := false) (by (simp only [putO, seval, push_cast, *] <;> rfl)) (rm ?_)) g W a st
   show IW X.P 48 J Jx _ _ _ _
   simp only [putO]
   refine eg hm hC hJ fun bs H => ?_
   repeat' first
    | (refine yw1 (id := 7) oz16 oz17 ?_)
    | (refine zs ?_; repeat' first | apply zs0 | apply zs2 | (intro hc; try have hq := dq hc)) | fail
   exact ⟨rfl, rfl, by omega, r + 1, by omega, ⟨⟨yw3, yw3, yw3, yw3, yw3, yw3⟩, yw3, yw3, yw3, yw3, yw3, hrest, hle⟩⟩
  ·have hb31 : a.tmps.getD 31 Go.undef = .bool true := hb 31 true (by intro e; have e := Option.some.inj e; exact absurd e (by decide)) (yw3)
   refine wA (b := fun i => if i = 31 then some true else if i = 43 then some false else none) (i := 17) (m := 1) (y := true) (by kernel_rfl) (by kernel_rfl) rfl rfl ⟨hx, fun i x h => ?_, hs, hd⟩ (fun c e => by cases e) (fun hv => Ci rfl (hv 43 false rfl)) 44 rfl (by decide) (fun W a st => ?_)
   ·by_cases e : i = 31
    ·subst e; rw [if_pos rfl] at h; cases h; exact hb31
    ·rw [if_neg e] at h
     by_cases e2 : i = 43
     ·subst e2; rw [if_pos rfl] at h; cases h; exact hf 43 rfl
     ·rw [if_neg e2] at h; cases h
   refine wA (i := 18) (m := 0) (y := true) (by kernel_rfl) (by kernel_rfl) rfl rfl st (fun c e => by cases e) (fun hv => A8 (b := true) rfl (hv 31 true rfl) (by rw [if_pos rfl]; exact hv 44 true rfl)) 45 rfl (by decide) (fun W a st => yx (by kernel_rfl) ?_)
   have h45 : a.eval (.tmp 45) = .bool true := by simpa [Act.eval] using st.env 45 true rfl
   exact wpIn_cond_true h45 (wpIn_ret (.inr ⟨rfl, st.j, st.df⟩))
end
theorem xU (gf : Nat) (caps : List V) (l : List (List V)) (h : X.iter gf caps = some l) : False := by
 have hit' : iterB [] gf caps = some l := h
 unfold iterB at hit'
 split at hit'
 ·split at hit' <;> simp_all
 ·cases hit'
noncomputable def X2 : Cx := { X with iter := iterS }
theorem Gs (hm : Tryz.prog.follows .mixedOrders = true) (hC : CallOk X (callw X)) : IterOk X2 := by
 intro gf caps l hit
 have hit' : iterS gf caps = some l := hit
 obtain ⟨rfl, d, inputs, s, hok, rfl, rfl⟩ := zD hit'
 refine ⟨⟨Tryz.f180, Tryz.func180, rfl, by decide +kernel⟩, ?_⟩
 exact FQ (cx := X) (fn := Tryz.f180) Tryz.func180 rfl (fun tmps w => by simp [results, Tryz.f180, go_sem]) (fun L J Jx hJ hY => Gr hm hC hok hJ hY rfl _ rfl _ rfl rfl rfl rfl)
theorem bF {bs : List Nat} {f : Nat} {a : List V} {H : Heap} {r : V × Heap} (h : callw X bs f a H = some r) : callw X2 bs f a H = some r := BY (cx := X) (it := iterS) (fun gf caps l e => by
 have := xU gf caps l e
 exact this.elim) h
theorem x2P : X2.P = X.P := Eq.trans rfl rfl
theorem M7 : X2.own = X.own := Eq.trans rfl rfl
theorem HP : X2.thaw = X.thaw := Eq.trans rfl rfl
theorem M8 : X2.vec = X.vec := Eq.trans rfl rfl
attribute [push_cast] x2P M7 HP M8
end Go.E
namespace Go.E
open Go.Proofs
set_option maxRecDepth 100000
theorem pI {α : Type} {f : α → V} : ∀ {es : List V}, (∀ el ∈ es, ∃ a, el = f a) → ∃ l : List α, es = l.map f
 | [], _ => ⟨[], rfl⟩
 | e :: r, h => by
  obtain ⟨a, ha⟩ := h e (by simp)
  obtain ⟨l, hl⟩ := pI (es := r) fun el hm => h el (by simp [hm])
  exact ⟨a :: l, by rw [ha, hl]; rfl⟩
theorem jA {α : Type} {f : α → V} {n : Nat} {t e : TypeId} {xs : List V} (hu : Tryz.prog.underlying t = some (.slice e)) (hr : isRow (Tryz.prog.underlying e) = true)
  (hf : ∀ ys, CellsT Tryz.prog n e ys → ∃ a, V.agg ys = f a) (h : CellsT Tryz.prog (n + 1) t xs) : ∃ l : List α, xs = [.list (l.map f)] := by
 unfold CellsT at h
 simp only [hu, hr, if_true] at h
 obtain ⟨es, rfl, _, he⟩ := h
 obtain ⟨l, hl⟩ := pI (f := f) (es := es) fun el hm => by
  obtain ⟨h1, h2⟩ := he el hm
  obtain ⟨a, ha⟩ := hf _ h1
  exact ⟨a, h2.trans ha⟩
 exact ⟨l, by rw [hl]⟩
theorem oG (n : Nat) (xs : List V) (h : CellsT Tryz.prog (n + 1) 3 xs) : ∃ i : Int, xs = [.int .i64 i] := by
 simp only [CellsT, Tryz.underlying3] at h
 obtain ⟨i, rfl, _⟩ := h
 exact ⟨i, rfl⟩
theorem yG (n : Nat) (xs : List V) (h : CellsT Tryz.prog (n + 1) 9 xs) : ∃ s : ByteArray, xs = [.str s] := by
 simp only [CellsT, Tryz.underlying9] at h
 obtain ⟨s, rfl, _⟩ := h
 exact ⟨s, rfl⟩
theorem sC (n : Nat) (xs : List V) (h : CellsT Tryz.prog (n + 2) 30 xs) : ∃ l : List Int, xs = [.list (l.map (.int .i64))] := by
 simp only [CellsT, Tryz.underlying30, Tryz.underlying3, isRow, Bool.false_eq_true, if_false] at h
 obtain ⟨es, rfl, _, he⟩ := h
 obtain ⟨l, hl⟩ := pI (f := V.int .i64) (es := es) fun el hm => by
  obtain ⟨⟨i, h1, _⟩, h2⟩ := he el hm
  rw [h1] at h2
  exact ⟨i, (List.cons.inj h2).1.symm⟩
 exact ⟨l, by rw [hl]⟩
theorem va (n : Nat) (xs : List V) (h : CellsT Tryz.prog (n + 3) 40 xs) : ∃ l : List (List Int), xs = [.list (l.map encInts)] := by
 unfold CellsT at h
 simp only [Tryz.underlying40, Tryz.underlying30, isRow, Bool.false_eq_true, if_false] at h
 obtain ⟨es, rfl, _, he⟩ := h
 obtain ⟨l, hl⟩ := pI (f := encInts) (es := es) fun el hm => by
  obtain ⟨h1, h2⟩ := he el hm
  obtain ⟨a, ha⟩ := sC n _ h1
  have h3 := h2.symm.trans ha
  exact ⟨a, (List.cons.inj h3).1⟩
 exact ⟨l, by rw [hl]⟩
theorem Cj (n : Nat) (xs : List V) (h : CellsT Tryz.prog (n + 2) 108 xs) : ∃ p : Port, V.agg xs = encPort p := by
 simp only [CellsT, Tryz.underlying108, FieldsT, Tryz.underlying9, Tryz.underlying3] at h
 obtain ⟨_, _, rfl, ⟨s, rfl, _⟩, _, _, rfl, ⟨i, rfl, _⟩, rfl⟩ := h
 exact ⟨⟨s, i⟩, rfl⟩
theorem Ck (n : Nat) (xs : List V) (h : CellsT Tryz.prog (n + 2) 112 xs) : ∃ p : Outp, V.agg xs = encOutp p := by
 simp only [CellsT, Tryz.underlying112, FieldsT, Tryz.underlying9, Tryz.underlying3] at h
 obtain ⟨_, _, rfl, ⟨s, rfl, _⟩, _, _, rfl, ⟨i, rfl, _⟩, rfl⟩ := h
 exact ⟨⟨s, i⟩, rfl⟩
theorem Cl (n : Nat) (xs : List V) (h : CellsT Tryz.prog (n + 2) 110 xs) : ∃ p : Elem, V.agg xs = encElem p := by
 simp only [CellsT, Tryz.underlying110, FieldsT, Tryz.underlying9, Tryz.underlying3] at h
 obtain ⟨_, _, rfl, ⟨s, rfl, _⟩, _, _, rfl, ⟨i, rfl, _⟩, _, _, rfl, ⟨j, rfl, _⟩, _, _, rfl, ⟨k, rfl, _⟩, _, _, rfl, ⟨l, rfl, _⟩, rfl⟩ := h
 exact ⟨⟨s, i, j, k, l⟩, rfl⟩
theorem Gt (n : Nat) (xs : List V) (h : CellsT Tryz.prog (n + 2) 80 xs) : ∃ p : Wri, V.agg xs = encWri p := by
 simp only [CellsT, Tryz.underlying80, FieldsT, Tryz.underlying3] at h
 obtain ⟨_, _, rfl, ⟨i, rfl, _⟩, _, _, rfl, ⟨j, rfl, _⟩, _, _, rfl, ⟨k, rfl, _⟩, rfl⟩ := h
 exact ⟨⟨i, j, k⟩, rfl⟩
theorem Cm (n : Nat) (xs : List V) (h : CellsT Tryz.prog (n + 3) 104 xs) : ∃ p : Node, V.agg xs = encNode p := by
 unfold CellsT at h
 simp only [Tryz.underlying104, FieldsT] at h
 obtain ⟨_, _, rfl, h1, _, _, rfl, h2, _, _, rfl, h3, _, _, rfl, h4, rfl⟩ := h
 obtain ⟨l, rfl⟩ := sC n _ h3
 obtain ⟨i, rfl⟩ := oG (n + 1) _ h1
 obtain ⟨j, rfl⟩ := oG (n + 1) _ h2
 obtain ⟨k, rfl⟩ := oG (n + 1) _ h4
 exact ⟨⟨i, j, l, k⟩, rfl⟩
theorem Cn (n : Nat) (xs : List V) (h : CellsT Tryz.prog (n + 3) 106 xs) : ∃ p : Attr, V.agg xs = encAttr p := by
 unfold CellsT at h
 simp only [Tryz.underlying106, FieldsT] at h
 obtain ⟨_, _, rfl, h1, _, _, rfl, h2, rfl⟩ := h
 obtain ⟨l, rfl⟩ := sC n _ h2
 obtain ⟨i, rfl⟩ := oG (n + 1) _ h1
 exact ⟨⟨i, l⟩, rfl⟩
theorem Gu (n : Nat) (xs : List V) (h : CellsT Tryz.prog (n + 4) 74 xs) : ∃ p : Rul, V.agg xs = encRul p := by
 unfold CellsT at h
 simp only [Tryz.underlying74, FieldsT] at h
 obtain ⟨_, _, rfl, h1, _, _, rfl, h2, _, _, rfl, h3, rfl⟩ := h
 obtain ⟨s, rfl⟩ := yG (n + 2) _ h1
 obtain ⟨i, rfl⟩ := oG (n + 2) _ h2
 obtain ⟨l, rfl⟩ := jA (f := encWri) Tryz.underlying72 (by rw [Tryz.underlying80]; rfl) (fun ys hy => Gt n ys hy) h3
 exact ⟨⟨s, i, l⟩, rfl⟩
theorem Co (n : Nat) (xs : List V) (h : CellsT Tryz.prog (n + 6) 29 xs) : ∃ m : Desg, xs = cellsDesg m := by
 unfold CellsT at h
 simp only [Tryz.underlying29, FieldsT] at h
 obtain ⟨_, _, rfl, h1, _, _, rfl, h2, _, _, rfl, h3, _, _, rfl, h4, _, _, rfl, h5, _, _, rfl, h6, _, _, rfl, h7, rfl⟩ := h
 obtain ⟨s, rfl⟩ := yG (n + 4) _ h1
 obtain ⟨l2, rfl⟩ := jA (f := encPort) Tryz.underlying22 (by rw [Tryz.underlying108]; rfl) (fun ys hy => Cj (n + 2) ys hy) h2
 obtain ⟨l3, rfl⟩ := jA (f := encElem) Tryz.underlying23 (by rw [Tryz.underlying110]; rfl) (fun ys hy => Cl (n + 2) ys hy) h3
 obtain ⟨l4, rfl⟩ := jA (f := encNode) Tryz.underlying24 (by rw [Tryz.underlying104]; rfl) (fun ys hy => Cm (n + 1) ys hy) h4
 obtain ⟨l5, rfl⟩ := jA (f := encRul) Tryz.underlying25 (by rw [Tryz.underlying74]; rfl) (fun ys hy => Gu n ys hy) h5
 obtain ⟨l6, rfl⟩ := jA (f := encOutp) Tryz.underlying26 (by rw [Tryz.underlying112]; rfl) (fun ys hy => Ck (n + 2) ys hy) h6
 obtain ⟨l7, rfl⟩ := jA (f := encAttr) Tryz.underlying27 (by rw [Tryz.underlying106]; rfl) (fun ys hy => Cn (n + 1) ys hy) h7
 exact ⟨⟨s, l2, l3, l4, l5, l6, l7⟩, rfl⟩
end Go.E
namespace Go.E
open Go.Proofs Classical
set_option maxRecDepth 100000
set_option maxHeartbeats 20000000
noncomputable section
def dB (F : Nat) (s1_ : List Int) (s2_ : List Int) : Nat → Nat → Option (Oc (Bool) (Unit))
 | 0, _ => none
 | k + 1, s2 => (if (decide ((s2 : Int) < (s1_.length : Int))) = true then ((s1_[s2]?).bind fun x5 => ((s2_[s2]?).bind fun x6 => (if (decide (¬x5 = x6)) = true then some (.a false) else (if inI ((s2 : Int) + 1) then dB F s1_ s2_ k (s2 + 1) else none)))) else some (.b ()))
theorem qd (bs : List Nat) (H : Heap) (F : Nat) (s1_ : List Int) (s2_ : List Int) : ∀ k s r ρ H', (∃ J3, H' = H ++ J3 ∧ ρ 0 = .list (s1_.map (V.int .i64)) ∧ ρ 1 = .list (s2_.map (V.int .i64)) ∧ ρ 12 = .int .i64 (s1_.length : Int) ∧ ρ 13 = .int .i64 (s : Int)) → dB F s1_ s2_ k s = some r → Lp X ⟨26, H.length :: bs⟩ (loopAt Tryz.f136 0) ρ H' ((fun r ex ρ H' => match r with | .a r => ∃ J3, H' = H ++ J3 ∧ ex = .ret ∧ ρ 4 = .bool r | .b r => ∃ J3, H' = H ++ J3 ∧ ex = .exit 0) r) := by
 refine ae (fun _ => rfl) ?_
 rintro k s2 r ρ H' ⟨J3, hH, h0, h1, h12, h13⟩ hR
 skip
 subst hH
 rw [dB] at hR
 conv => arg 3; whnf
 try refine zw ?_
 rcases iteE hR with ⟨c4, hR⟩ | ⟨c4, hR⟩
 ·obtain ⟨x5, x5_e, hR⟩ := bindE hR
  obtain ⟨x6, x6_e, hR⟩ := bindE hR
  try refine zu ?_
  (refine yw0 (id := 6) oz1 ?_)
  try refine zw ?_
  rcases iteE hR with ⟨c7, hR⟩ | ⟨c7, hR⟩
  ·obtain rfl := someE hR
   refine zu ?_
   exact ⟨_, hq, rfl, sl⟩
  ·obtain ⟨g8, hR⟩ := grdE hR
   have g8_w := ac g8
   refine zu ?_
   exact ⟨(s2 + 1), ⟨_, hq, sl, sl, sl, sl⟩, hR.out⟩
 ·obtain rfl := someE hR
  refine zu ?_
  exact ⟨_, hq, rfl⟩
def dQ (F : Nat) (s1_ : List Int) (s2_ : List Int) : List Int → Nat → Unit → Option (Oc (Bool) (Unit))
 | [], s2, _ => some (.b ())
 | x_ :: r_, s2, _ => ((s2_[s2]?).bind fun x6 => (if (decide (¬x_ = x6)) = true then some (.a false) else dQ F s1_ s2_ r_ (s2 + 1) ()))
theorem ki (F : Nat) (s1_ : List Int) (s2_ : List Int) (hl_ : s1_.length ≤ 1000000) : ∀ r_ i_ k_ (o_ : Unit), s1_.drop i_ = r_ → r_.length < k_ → dB F s1_ s2_ k_ i_ = dQ F s1_ s2_ r_ i_ o_
 | _, _, 0, _, _, hk => absurd hk (Nat.not_lt_zero _)
 | [], i_, k_ + 1, _, hd, _ => by rw [dB, dQ]; simp only [ai hd, Bool.false_eq_true, if_false]
 | x_ :: r_, i_, k_ + 1, _, hd, hk => by
  have ih := ki F s1_ s2_ hl_ r_ (i_ + 1) k_ () (ah hd) (Nat.lt_of_succ_lt_succ hk)
  rw [dB, dQ]; simp only [aq hd, ak hd, if_pos (av hd hl_), Option.bind_some, if_true, ih]
def fX (F : Nat) (s1_ : List Int) (s2_ : List Int) : Option (Bool) := (if (decide (¬(s1_.length : Int) = (s2_.length : Int))) = true then some false else ((dB F s1_ s2_ F 0).bind fun o9 => match o9 with | .a o10 => some o10 | .b o12 => some true))
theorem nh (bs : List Nat) (H : Heap) (F : Nat) (s1_ : List Int) (s2_ : List Int) (R : Bool) (hR0 : fX F s1_ s2_ = some R) : callw X bs 136 [.list (s1_.map (V.int .i64)), .list (s2_.map (V.int .i64))] H = some (.bool R, H) := by
 refine yw2 (rs := [.tmp 4]) (N := 26) (fn := Tryz.f136) Dh Tryz.func136 ?_
 have hR := Kp.mk hR0
 clear hR0
 rw [fX] at hR
 try refine zw ?_
 rcases iteE hR with ⟨c1, hR⟩ | ⟨c1, hR⟩
 ·obtain rfl := someE hR
  exact zv
 ·obtain ⟨o9, o9_e, hR⟩ := bindE hR
  refine zu ?_
  refine ab (af (c := (loopAt Tryz.f136 0)) rfl (qd _ H F s1_ s2_ _ 0 o9 _ _ ⟨[], by simp, sl, sl, sl, sl⟩ o9_e)) ?_
  rcases o9 with o10 | o12
  ·rintro ex ρ' H' ⟨J11, rfl, rfl, q4_o10⟩ hf
   clear hf
   obtain rfl := someE hR
   exact zv
  ·rintro ex ρ' H' ⟨J13, rfl, rfl⟩ hf
   clear hf
   obtain rfl := someE hR
   exact zv
def bx (F : Nat) (cv0 : List Int) (v : DVisit) : Option (Bool) := ((fX F v.state cv0).bind fun y1 => some y1)
theorem gM (bs : List Nat) (H : Heap) (F : Nat) (ca0 : Nat) (cv0 : List Int) (hca0 : H[ca0]? = some (.cells [.list (cv0.map (V.int .i64))])) (v : DVisit) (R : Bool) (hR0 : bx F cv0 v = some R) : callw X bs 160 [(encDVisit v), .ptr ca0 0] H = some (.bool R, H) := by
 refine yw2 (rs := [.tmp 3]) (N := 8) (fn := Tryz.f160) Dz Tryz.func160 ?_
 have hca0_l := aa hca0
 have hca0_a := get_app' hca0
 have hR := Kp.mk hR0
 clear hR0
 rw [bx] at hR
 (try simp only [cellsDStep, cellsDVisit, encDStep, encDVisit, encInts])
 obtain ⟨y1, y1_e, hR⟩ := bindE hR
 have y1_k := fun bs H => nh bs H F v.state cv0 y1 y1_e
 obtain rfl := someE hR
 exact zv
def aB (F : Nat) (cv0 : List DVisit) (cv1 : List Int) (lv0 : Nat) : Nat → Nat → Option (Oc (Nat) (Unit))
 | 0, _ => none
 | k + 1, s1 => (if (decide ((s1 : Int) < (lv0 : Int))) = true then ((cv0[s1]?).bind fun x4 => ((bx F cv1 x4).bind fun y5 => (if y5 = true then some (.a s1) else (if inI ((s1 : Int) + 1) then aB F cv0 cv1 lv0 k (s1 + 1) else none)))) else some (.b ()))
theorem mr (bs : List Nat) (H : Heap) (F : Nat) (ca0 : Nat) (ca1 : Nat) (cv0 : List DVisit) (vv0 : Nat) (lv0 : Nat) (cv1 : List Int) (hca0 : H[ca0]? = some (.arr (cv0.map encDVisit) vv0)) (hl_ca0 : cv0.length = lv0) (hca1 : H[ca1]? = some (.cells [.list (cv1.map (V.int .i64))])) : ∀ k s r ρ H', (∃ J2, H' = H ++ J2 ∧ ρ 0 = .ref 4 ca0 vv0 0 lv0 ∧ ρ 1 = .func 160 [.ptr ca1 0] ∧ ρ 7 = .int .i64 (lv0 : Int) ∧ ρ 8 = .int .i64 (s : Int)) → aB F cv0 cv1 lv0 k s = some r → Lp X ⟨19, H.length :: bs⟩ (loopAt Tryz.f82 0) ρ H' ((fun r ex ρ H' => match r with | .a r => ∃ J2, H' = H ++ J2 ∧ ex = .ret ∧ ρ 4 = .int .i64 (r : Int) | .b r => ∃ J2, H' = H ++ J2 ∧ ex = .exit 0) r) := by
 refine ae (fun _ => rfl) ?_
 rintro k s1 r ρ H' ⟨J2, hH, h0, h1, h7, h8⟩ hR
 skip
 subst hH
 rw [aB] at hR
 have hca0_l := aa hca0
 have hca0_a := get_app' hca0
 have hca1_l := aa hca1
 have hca1_a := get_app' hca1
 conv => arg 3; whnf
 try refine zw ?_
 rcases iteE hR with ⟨c3, hR⟩ | ⟨c3, hR⟩
 ·obtain ⟨x4, x4_e, hR⟩ := bindE hR
  have x4_l : s1 < lv0 := Nat.lt_of_lt_of_eq (aa x4_e) hl_ca0
  obtain ⟨y5, y5_e, hR⟩ := bindE hR
  have y5_k := fun (bs : List Nat) (l : Heap) => gM bs (H ++ l) F ca1 cv1 gt x4 y5 y5_e
  (try simp only [cellsDStep, cellsDVisit, encDStep, encDVisit, encInts] at y5_k)
  have y5_k0 := fun (bs : List Nat) => gM bs H F ca1 cv1 gt x4 y5 y5_e
  (try simp only [cellsDStep, cellsDVisit, encDStep, encDVisit, encInts] at y5_k0)
  try refine zw ?_
  clear y5_k y5_k0
  rcases iteE hR with ⟨c6, hR⟩ | ⟨c6, hR⟩
  ·obtain rfl := someE hR
   refine zu ?_
   exact ⟨_, hq, rfl, sl⟩
  ·obtain ⟨g7, hR⟩ := grdE hR
   have g7_w := ac g7
   refine zu ?_
   exact ⟨(s1 + 1), ⟨_, hq, sl, sl, sl, sl⟩, hR.out⟩
 ·obtain rfl := someE hR
  refine zu ?_
  exact ⟨_, hq, rfl⟩
def fQ (F : Nat) (cv0 : List DVisit) (cv1 : List Int) (lv0 : Nat) : Option (Int) := ((aB F cv0 cv1 lv0 F 0).bind fun o8 => match o8 with | .a o9 => some (o9 : Int) | .b o11 => some (-1))
theorem jj (bs : List Nat) (H : Heap) (F : Nat) (ca0 : Nat) (ca1 : Nat) (cv0 : List DVisit) (vv0 : Nat) (lv0 : Nat) (cv1 : List Int) (hca0 : H[ca0]? = some (.arr (cv0.map encDVisit) vv0)) (hl_ca0 : cv0.length = lv0) (hca1 : H[ca1]? = some (.cells [.list (cv1.map (V.int .i64))])) (R : Int) (hR0 : fQ F cv0 cv1 lv0 = some R) : callw X bs 82 [.ref 4 ca0 vv0 0 lv0, .func 160 [.ptr ca1 0]] H = some (.int .i64 R, H) := by
 refine yw2 (rs := [.tmp 4]) (N := 19) (fn := Tryz.f82) xk82 Tryz.func82 ?_
 have hca0_l := aa hca0
 have hca0_a := get_app' hca0
 have hca1_l := aa hca1
 have hca1_a := get_app' hca1
 have hR := Kp.mk hR0
 clear hR0
 rw [fQ] at hR
 obtain ⟨o8, o8_e, hR⟩ := bindE hR
 refine zu ?_
 refine ab (af (c := (loopAt Tryz.f82 0)) rfl (mr _ H F ca0 ca1 cv0 vv0 lv0 cv1 hca0 hl_ca0 hca1 _ 0 o8 _ _ ⟨[], by simp, sl, sl, sl, sl⟩ o8_e)) ?_
 rcases o8 with o9 | o11
 ·rintro ex ρ' H' ⟨J10, rfl, rfl, q4_o9⟩ hf
  clear hf
  obtain rfl := someE hR
  exact zv
 ·rintro ex ρ' H' ⟨J12, rfl, rfl⟩ hf
  clear hf
  obtain rfl := someE hR
  exact zv
def nP (F : Nat) (cv0 : List DVisit) (cv1 : List Int) (lv0 : Nat) : Option (Bool) := ((fQ F cv0 cv1 lv0).bind fun y1 => some (decide ((0 : Int) ≤ y1)))
theorem xV (bs : List Nat) (H : Heap) (F : Nat) (ca0 : Nat) (ca1 : Nat) (cv0 : List DVisit) (vv0 : Nat) (lv0 : Nat) (cv1 : List Int) (hca0 : H[ca0]? = some (.arr (cv0.map encDVisit) vv0)) (hl_ca0 : cv0.length = lv0) (hca1 : H[ca1]? = some (.cells [.list (cv1.map (V.int .i64))])) (R : Bool) (hR0 : nP F cv0 cv1 lv0 = some R) : callw X bs 159 [.ref 4 ca0 vv0 0 lv0, .func 160 [.ptr ca1 0]] H = some (.bool R, H) := by
 refine yw2 (rs := [.tmp 4]) (N := 9) (fn := Tryz.f159) Dy Tryz.func159 ?_
 have hca0_l := aa hca0
 have hca0_a := get_app' hca0
 have hca1_l := aa hca1
 have hca1_a := get_app' hca1
 have hR := Kp.mk hR0
 clear hR0
 rw [nP] at hR
 obtain ⟨y1, y1_e, hR⟩ := bindE hR
 have y1_k := fun (bs : List Nat) (l : Heap) => jj bs (H ++ l) F ca0 ca1 cv0 vv0 lv0 cv1 gt hl_ca0 gt y1 y1_e
 have y1_k0 := fun (bs : List Nat) => jj bs H F ca0 ca1 cv0 vv0 lv0 cv1 gt hl_ca0 gt y1 y1_e
 obtain rfl := someE hR
 exact zv
end
end Go.E
namespace Go.E
open Classical
def knownV (l : List DVisit) (s : List Int) : Bool := l.any fun v => decide (v.state = s)
def reachR (i : Nat) : List (DStep × List Int) → List DVisit → Option (Oc (List DVisit) Unit)
 | [], l => some (.a l)
 | x :: r, l => if knownV l x.2 = true then reachR i r l else if l.length = 300 then some (.b ()) else reachR i r (l ++ [⟨x.2, (i : Int), x.1⟩])
def reachF (d : Desg) (inputs : List (List Int)) : Nat → Nat × List DVisit → Option (Oc (List DVisit) Unit)
 | 0, _ => none
 | k + 1, (i, l) => match l[i]? with
  | none => some (.a l)
  | some v => (reachR i (stepsFrom d v.state inputs 0) l).bind fun o => match o with | .a l' => reachF d inputs k (i + 1, l') | .b _ => some (.b ())
def resetD (d : Desg) : List Int := d.elements.map (·.init)
def startD (d : Desg) : List DVisit := [⟨begL d.elements (resetD d), -1, ⟨0, 0⟩⟩]
def searchD (d : Desg) (inputs : List (List Int)) : List DVisit × Int := match reachF d inputs 302 (0, startD d) with
 | some (.a l) => (l, 0)
 | _ => ([], 16)
structure VisOk (d : Desg) (l : List DVisit) : Prop where
 len : l.length ≤ 300
 st : ∀ v ∈ l, LeafOk (elWs d) v.state
theorem tG {d : Desg} (h : OkD d) {x s : List Int} (hx : LeafOk (inWs d) x) (hs : LeafOk (elWs d) s) (i : Nat) : ∀ (rs : List Rul) (r : Nat), (∀ y ∈ rs, y ∈ d.rules) → ∀ p ∈ stepsAt d i (valsD d x s) s rs r, LeafOk (elWs d) p.2
 | [], _, _, p, hp => by cases hp
 | y :: rs, r, hr, p, hp => by
  unfold stepsAt at hp
  have ih := tG h hx hs i rs (r + 1) (fun z hz => hr z (by simp [hz]))
  split at hp
  ·rcases List.mem_cons.1 hp with rfl | hp
   ·exact wS h (wR h hx hs (h.rule (hr y (by simp))).2 hs)
   ·exact ih p hp
  ·exact ih p hp
theorem kj {d : Desg} (h : OkD d) {s : List Int} (hs : LeafOk (elWs d) s) : ∀ (ls : List (List Int)) (i : Nat), (∀ x ∈ ls, LeafOk (inWs d) x) → ∀ p ∈ stepsFrom d s ls i, LeafOk (elWs d) p.2
 | [], _, _, p, hp => by cases hp
 | x :: ls, i, hl, p, hp => by
  unfold stepsFrom at hp
  rcases List.mem_append.1 hp with hp | hp
  ·exact tG h (hl x (by simp)) hs i d.rules 0 (fun _ h => h) p hp
  ·exact kj h hs ls (i + 1) (fun y hy => hl y (by simp [hy])) p hp
theorem lj {d : Desg} (i : Nat) : ∀ {xs : List (DStep × List Int)} {l l' : List DVisit}, (∀ p ∈ xs, LeafOk (elWs d) p.2) → VisOk d l → reachR i xs l = some (.a l') → VisOk d l' ∧ l.length ≤ l'.length
 | [], l, l', _, hv, h => by cases h; exact ⟨hv, Nat.le_refl _⟩
 | x :: xs, l, l', hp, hv, h => by
  unfold reachR at h
  have hp' := fun p hq => hp p (List.mem_cons_of_mem x hq)
  split at h
  ·exact lj i hp' hv h
  ·split at h
   ·cases h
   ·rename_i h3
    have := lj i (l := l ++ [⟨x.2, (i : Int), x.1⟩]) hp' ⟨by have := hv.len; simp; omega, fun v hm => by
     rcases List.mem_append.1 hm with hm | hm
     ·exact hv.st v hm
     ·obtain rfl := List.mem_singleton.1 hm; exact hp x (by simp)⟩ h
    exact ⟨this.1, by have h5 := this.2; simp at h5; omega⟩
theorem Cp {d : Desg} (h : OkD d) : LeafOk (elWs d) (resetD d) := by
 refine ⟨by simp [resetD, elWs], fun j w v h1 h2 => ?_⟩
 unfold elWs at h1; unfold resetD at h2
 rw [List.getElem?_map, Option.map_eq_some_iff] at h1 h2
 obtain ⟨x, hx, rfl⟩ := h1
 obtain ⟨y, hy, rfl⟩ := h2
 rw [hx] at hy; cases hy
 have hm := List.mem_of_getElem? hx
 have hw := h.elW x.width (List.mem_map.2 ⟨x, hm, rfl⟩)
 exact (nM hw.1 hw.2).1 (rq h.elems x hm).2.2.1
theorem ni {d : Desg} (h : OkD d) : VisOk d (startD d) := ⟨by simp [startD], fun v hv => by obtain rfl := List.mem_singleton.1 hv; exact wS h (Cp h)⟩
theorem nX (i : Nat) : ∀ (xs : List (DStep × List Int)) (l : List DVisit), ∃ o, reachR i xs l = some o
 | [], l => ⟨_, rfl⟩
 | x :: xs, l => by
  unfold reachR
  split
  ·exact nX i xs l
  ·split
   ·exact ⟨_, rfl⟩
   ·exact nX i xs _
theorem kV {d : Desg} (h : OkD d) {inputs : List (List Int)} (hi : ∀ x ∈ inputs, LeafOk (inWs d) x) : ∀ (k i : Nat) (l : List DVisit), VisOk d l → 301 < k + i → i ≤ 301 → ∃ o, reachF d inputs k (i, l) = some o
 | 0, i, l, _, h1, h2 => by omega
 | k + 1, i, l, hv, h1, h2 => by
  unfold reachF
  split
  ·exact ⟨_, rfl⟩
  ·rename_i v hvi
   have hlt := aa hvi
   have hl := hv.len
   obtain ⟨o, ho⟩ := nX i (stepsFrom d v.state inputs 0) l
   rw [ho, Option.bind_some]
   cases o with
   | b u => exact ⟨_, rfl⟩
   | a l' => exact kV h hi k (i + 1) l' (lj i (kj h (hv.st v (List.mem_of_getElem? hvi)) inputs 0 hi) hv ho).1 (by omega) (by omega)
variable {F : Nat} (hF : 1000000 < F)
include hF in
theorem pJ (a b : List Int) (ha : a.length ≤ 1000000) : fX F a b = some (decide (a = b)) := by
 unfold fX
 by_cases hl : a.length = b.length
 ·have k : ∀ (r : List Int) (i : Nat), a.drop i = r → a.take i = b.take i → ∃ o, dQ F a b r i () = some o ∧ (match o with | .a x => x = false ∧ a ≠ b | .b _ => a = b) := by
   intro r
   induction r with
   | nil =>
    intro i hd ht
    have h1 : a.length ≤ i := by simpa using hd
    rw [List.take_of_length_le h1, List.take_of_length_le (by omega)] at ht
    exact ⟨_, rfl, ht⟩
   | cons x r ih =>
    intro i hd ht
    have hlt := gm hd
    have hx := ak hd
    have hb : b[i]? = some b[i] := aS (by omega)
    simp only [dQ, hb, Option.bind_some]
    by_cases h : x = b[i]
    ·rw [if_neg (by simp [h])]
     refine ih (i + 1) (ah hd) ?_
     rw [List.take_add_one, List.take_add_one, hx, hb, ht, h]
    ·rw [if_pos (by simpa using h)]
     refine ⟨_, rfl, rfl, fun e => h ?_⟩
     subst e
     rw [hx] at hb; exact Option.some.inj hb
  have e := ki F a b ha a 0 F () rfl (by omega)
  obtain ⟨o, h1, h2⟩ := k a 0 rfl rfl
  rw [if_neg (by simp [hl]), e, h1]
  cases o with
  | a x => obtain ⟨rfl, h3⟩ := h2; simp [h3]
  | b x => simp only at h2; simp [h2]
 ·have hne : a ≠ b := fun e => hl (by rw [e])
  rw [if_pos (by simp; omega)]; simp [hne]
include hF in
theorem zE (l : List DVisit) (s : List Int) (hl : l.length ≤ 1000) (hs : ∀ v ∈ l, v.state.length ≤ 1000000) : nP F l s l.length = some (knownV l s) := by
 unfold nP fQ
 rcases sB (fun i => match l[i]? with | some v => decide (v.state = s) | none => false) l.length with ⟨m, h1, h2, h3⟩ | h4
 ·have hk : knownV l s = true := by
   rw [aS h1] at h2
   exact List.any_eq_true.2 ⟨_, List.getElem_mem h1, h2⟩
  have e := qF (L := aB F l s l.length) (fun i => i) m (.a m) (fun k i hi => by
   have hg : l[i]? = some l[i] := aS (by omega)
   have hq := h3 i hi
   simp only [hg] at hq
   rw [aB, lt_n i _ (by omega), if_pos rfl, hg, Option.bind_some, bx, pJ hF _ _ (hs _ (List.getElem_mem (by omega))), hq]
   simp [in_1 (show i ≤ 1000000 by omega)]) (fun k => by
   have hg : l[m]? = some l[m] := aS h1
   have hq := h2
   simp only [hg] at hq
   rw [aB, lt_n m _ h1, if_pos rfl, hg, Option.bind_some, bx, pJ hF _ _ (hs _ (List.getElem_mem h1)), hq]
   simp) F 0 (by omega) (by omega)
  rw [e, hk]
  simp
 ·have hk : knownV l s = false := by
   unfold knownV
   rw [List.any_eq_false]
   intro v hv
   obtain ⟨j, hj⟩ := List.getElem?_of_mem hv
   have := h4 j (aa hj)
   simp only [hj] at this
   simpa using this
  have e := qF (L := aB F l s l.length) (fun i => i) l.length (.b ()) (fun k i hi => by
   have hg : l[i]? = some l[i] := aS hi
   have hq := h4 i hi
   simp only [hg] at hq
   rw [aB, lt_n i _ hi, if_pos rfl, hg, Option.bind_some, bx, pJ hF _ _ (hs _ (List.getElem_mem hi)), hq]
   simp [in_1 (show i ≤ 1000000 by omega)]) (fun k => by rw [aB, pD]; rfl) F 0 (by omega) (by omega)
  rw [e, hk]
  simp
end Go.E
namespace Go.E
theorem Ba (bs : List Nat) (H : Heap) (b : Bool) (e : Int) : callw X2 bs 72 [.bool b, .int .i64 e] H = some (.int .i64 (if b = true then 0 else e), H) := bF (pY bs H b e)
theorem zF (bs : List Nat) (H : Heap) (a b : Int) : callw X2 bs 59 [.list [.int .i64 a, .int .i64 b]] H = some (.int .i64 (firstL [a, b]), H) := bF (oC bs H a b)
attribute [push_cast] Ba zF
end Go.E
namespace Go.E
open Go.Proofs
set_option maxRecDepth 100000
set_option maxHeartbeats 4000000
theorem wU (bs : List Nat) (H : Heap) (d : Desg) (inputs : List (List Int)) (s : List Int) : callw X bs 143 [encDesg d, .list (inputs.map encInts), .list (s.map (.int .i64))] H = some (.func 180 [.eptr [.list (inputs.map encInts)] 0, .eptr (cellsDesg d) 0, .eptr [.list (s.map (.int .i64))] 0], H) := by
 refine yw2 (rs := [.tmp 6]) (N := 8) (fn := Tryz.f143) Do Tryz.func143 ?_
 simp only [encDesg, cellsDesg]
 all_goals try (refine zs ?_; repeat' first | apply zs0 | apply zs2 | (intro hc; try have hq := dq hc))
theorem wV {F : Nat} (hF : 1000000 < F) {d : Desg} (h : d.elements.length ≤ 1000) : dT F d = some (resetD d) := by
 have k : ∀ (r : List Elem) (i : Nat) (o : List Int), o.length + r.length ≤ 1000000 → aT F d r i o = some (o ++ r.map (·.init)) := by
  intro r
  induction r with
  | nil => intro i o _; simp [aT]
  | cons x r ih => intro i o h; simp only [List.length_cons] at h; rw [aT, if_pos (by omega), ih _ _ (by simp; omega)]; simp
 have e : aP F d F ([], 0) = _ := gK F d (by omega) d.elements 0 F [] rfl (by omega)
 unfold dT
 rw [e, k _ _ _ (by simp; omega), Option.bind_some]
 rfl
theorem HQ {A HX : Heap} {c : HObj} {n : Nat} (h : HX = A ++ [c]) (hn : n = A.length) : HX[n]? = some c := by subst h; subst hn; simp
noncomputable def reachV (d : Desg) (i : Nat) : List (DStep × List Int) → List DVisit → Option (Oc (List DVisit) Unit)
 | [], l => some (.a l)
 | x :: r, l => open Classical in if LeafOk (elWs d) x.2 then (if knownV l x.2 = true then reachV d i r l else if l.length = 300 then some (.b ()) else reachV d i r (l ++ [⟨x.2, (i : Int), x.1⟩])) else none
theorem vb {d : Desg} (i : Nat) : ∀ {xs : List (DStep × List Int)} (l : List DVisit), (∀ p ∈ xs, LeafOk (elWs d) p.2) → reachV d i xs l = reachR i xs l
 | [], _, _ => rfl
 | x :: xs, l, h => by
  have ih := fun l => vb (d := d) i (xs := xs) l (fun p hp => h p (by simp [hp]))
  unfold reachV reachR
  rw [if_pos (h x (by simp)), ih, ih]
theorem Cq (bs : List Nat) (H : Heap) (d : Desg) (inputs : List (List Int)) (s : List Int) (st : StepsOk d inputs s) (i : Nat) (J : Heap) (ρ : Env) (h4 : ρ 4 = .ptr (H.length + 1) 0) (h5 : ρ 5 = .ptr (H.length + 2) 0) (h6 : ρ 6 = .ptr (H.length + 3) 0) (h7 : ρ 7 = .ptr (H.length + (J.length + 5)) 0)
  (h29 : ρ 29 = .func 180 [.eptr [.list (inputs.map encInts)] 0, .eptr (cellsDesg d) 0, .eptr [.list (s.map (.int .i64))] 0]) :
  ∀ l r H', (VisOk d l ∧ ∃ ver J2, H' = H ++ .cells [.str d.name, .list (d.inputs.map encPort), .list (d.elements.map encElem), .list (d.nodes.map encNode), .list (d.rules.map encRul), .list (d.outs.map encOutp), .list (d.attrs.map encAttr)] :: .cells [.nilS] :: .cells [.int .i64 0] :: .cells [.ref 4 (H.length + 4) ver 0 l.length] :: .arr (l.map encDVisit) ver :: (J ++ .cells [.int .i64 (i : Int)] :: J2)) →
   reachV d i (stepsFrom d s inputs 0) l = some r → Ev X2 ⟨47, H.length :: bs⟩ (.rangeFunc (.tmp 29) #[30, 31] (rangeAt Tryz.f81 0).1 (rangeAt Tryz.f81 0).2) ρ H'
    ((fun r ex ρ' H' => ρ' = ρ ∧ match r with
     | .a l => ex = .normal ∧ ∃ ver J2, H' = H ++ .cells [.str d.name, .list (d.inputs.map encPort), .list (d.elements.map encElem), .list (d.nodes.map encNode), .list (d.rules.map encRul), .list (d.outs.map encOutp), .list (d.attrs.map encAttr)] :: .cells [.nilS] :: .cells [.int .i64 0] :: .cells [.ref 4 (H.length + 4) ver 0 l.length] :: .arr (l.map encDVisit) ver :: (J ++ .cells [.int .i64 (i : Int)] :: J2)
     | .b _ => ex = .ret ∧ ∃ J2, H' = H ++ .cells [.str d.name, .list (d.inputs.map encPort), .list (d.elements.map encElem), .list (d.nodes.map encNode), .list (d.rules.map encRul), .list (d.outs.map encOutp), .list (d.attrs.map encAttr)] :: .cells [.nilS] :: .cells [.int .i64 16] :: J2) r) := by
 obtain ⟨F, hF⟩ : ∃ F, 1000000 < F := ⟨1000001, by omega⟩
 have hel := st.ok.few.elements
 refine ww (g := encStep) (L0 := stepsFrom d s inputs 0) (S := reachV d i) (put := fun x => (ρ.put 30 (encDStep x.1)).put 31 (.list (x.2.map (.int .i64)))) h29 (wT st) (fun _ => rfl) (fun x => by simp only [encStep, putAll, List.zip_cons_cons, List.zip_nil_right]; rfl) ?_ ?_
 ·rintro l r H' ⟨hv, ver, J2, hH⟩ hR
  have hR := hR.out
  cases hR
  exact ⟨rfl, rfl, ver, J2, hH⟩
 ·rintro x xs l r H' ⟨hv, ver, J2, rfl⟩ hR
  have hR := hR.out
  unfold reachV at hR
  by_cases hx : LeafOk (elWs d) x.2
  case neg => rw [if_neg hx] at hR; cases hR
  rw [if_pos hx] at hR
  have hel2 : (elWs d).length = d.elements.length := by simp [elWs]
  have t1 := fun bs H ca0 ca1 ver h0 h1 => bF (xV bs H F ca0 ca1 l ver l.length x.2 h0 rfl h1 _ (zE hF l x.2 (by have := hv.len; omega) (fun v hm => by have := (hv.st v hm).1; omega)))
  have hlen := hv.len
  have hroom := ka (n := l.length + 1) (k := 48) (by omega) (by omega)
  have hta := ic encDVisit (l := l) (n := l.length) rfl
  have hlt := kb (l := l) (n := l.length) rfl
  have t2 : ∀ bs, callw X2 bs 159 [.ref 4 (H.length + 4) ver 0 l.length, .func 160 [.ptr (H.length + (J.length + (J2.length + 1 + 1) + 1 + 1 + 1 + 1 + 1)) 0]]
    (H ++ .cells [.str d.name, .list (d.inputs.map encPort), .list (d.elements.map encElem), .list (d.nodes.map encNode), .list (d.rules.map encRul), .list (d.outs.map encOutp), .list (d.attrs.map encAttr)] :: .cells [.nilS] :: .cells [.int .i64 0] :: .cells [.ref 4 (H.length + 4) ver 0 l.length] :: .arr (l.map encDVisit) ver ::
     (J ++ .cells [.int .i64 (i : Int)] :: (J2 ++ [.cells [.int .i64 x.1.inputs, .int .i64 x.1.rule], .cells [.list (x.2.map (.int .i64))]]))) = some (.bool (knownV l x.2), _) := fun bs =>
   t1 bs _ _ _ ver (by simp) (HQ (A := H ++ .cells [.str d.name, .list (d.inputs.map encPort), .list (d.elements.map encElem), .list (d.nodes.map encNode), .list (d.rules.map encRul), .list (d.outs.map encOutp), .list (d.attrs.map encAttr)] :: .cells [.nilS] :: .cells [.int .i64 0] :: .cells [.ref 4 (H.length + 4) ver 0 l.length] :: .arr (l.map encDVisit) ver ::
     (J ++ .cells [.int .i64 (i : Int)] :: (J2 ++ [.cells [.int .i64 x.1.inputs, .int .i64 x.1.rule]]))) (by simp) (by simp))
  clear t1
  rcases bb (knownV l x.2) with hk | hk
  ·rw [hk, if_pos rfl] at hR
   rw [hk] at t2
   replace hR : Kp (reachV d i xs l = some r) := ⟨hR⟩
   replace hv : Kp (VisOk d l) := ⟨hv⟩
   clear hx hel hel2 hF st
   conv => arg 3; whnf
   repeat' first
    | (refine yw1 (id := 1) oz18 oz19 ?_)
    | (refine yw0 (id := 5) oz0 ?_)
    | (refine zs ?_; repeat' first | apply zs0 | apply zs2 | (intro hc; try have hq := dq hc)) | fail
   conv => arg 3; whnf
   repeat' first
    | (refine yw1 (id := 1) oz18 oz19 ?_)
    | (refine yw0 (id := 5) oz0 ?_)
    | (refine zs ?_; repeat' first | apply zs0 | apply zs2 | (intro hc; try have hq := dq hc)) | fail
   exact ⟨l, ⟨hv.out, ver, _, hq⟩, hR.out⟩
  rw [hk] at t2
  rw [hk, if_neg (by simp)] at hR
  by_cases h3 : l.length = 300
  ·rw [if_pos h3] at hR
   obtain rfl := Option.some.inj hR
   have dd : decide ((l.length : Int) = 300) = true := decide_eq_true (by omega)
   clear hx hel hel2 hF st hR hv h3
   conv => arg 3; whnf
   repeat' first
    | (refine yw1 (id := 1) oz18 oz19 ?_)
    | (refine yw0 (id := 5) oz0 ?_)
    | (refine zs ?_; repeat' first | apply zs0 | apply zs2 | (intro hc; try have hq := dq hc)) | fail
   conv => arg 3; whnf
   repeat' first
    | (refine yw1 (id := 1) oz18 oz19 ?_)
    | (refine yw0 (id := 5) oz0 ?_)
    | (refine zs ?_; repeat' first | apply zs0 | apply zs2 | (intro hc; try have hq := dq hc)) | fail
   exact ⟨rfl, rfl, _, hq⟩
  ·rw [if_neg h3] at hR
   have dd : decide ((l.length : Int) = 300) = false := decide_eq_false (by omega)
   have hv2 : Kp (VisOk d (l ++ [⟨x.2, (i : Int), x.1⟩])) := ⟨by have := hv.len; simp; omega, fun v hm => by
     rcases List.mem_append.1 hm with hm | hm
     ·exact hv.st v hm
     ·obtain rfl := List.mem_singleton.1 hm; exact hx⟩
   replace hR : Kp (reachV d i xs (l ++ [⟨x.2, (i : Int), x.1⟩]) = some r) := ⟨hR⟩
   have rm1 : 48 ≤ roomB := by unfold roomB; omega
   clear hx hel hel2 hF st hv h3
   conv => arg 3; whnf
   repeat' first
    | (refine yw1 (id := 1) oz18 oz19 ?_)
    | (refine yw0 (id := 5) oz0 ?_)
    | (refine zs ?_; repeat' first | apply zs0 | apply zs2 | (intro hc; try have hq := dq hc)) | fail
   conv => arg 3; whnf
   repeat' first
    | (refine yw1 (id := 1) oz18 oz19 ?_)
    | (refine yw0 (id := 5) oz0 ?_)
    | (refine zs ?_; repeat' first | apply zs0 | apply zs2 | (intro hc; try have hq := dq hc)) | fail
   exact ⟨l ++ [⟨x.2, (i : Int), x.1⟩], ⟨hv2.out, ver + 1, J2 ++ [.cells [.int .i64 x.1.inputs, .int .i64 x.1.rule], .cells [.list (x.2.map (.int .i64))]], by simp [encDVisit, cellsDVisit]⟩, hR.out⟩
def rxH (d : Desg) (H : Heap) (l : List DVisit) (ver : Nat) (J : Heap) : Heap := H ++ .cells [.str d.name, .list (d.inputs.map encPort), .list (d.elements.map encElem), .list (d.nodes.map encNode), .list (d.rules.map encRul), .list (d.outs.map encOutp), .list (d.attrs.map encAttr)] :: .cells [.nilS] :: .cells [.int .i64 0] :: .cells [.ref 4 (H.length + 4) ver 0 l.length] :: .arr (l.map encDVisit) ver :: J
def rxRep (d : Desg) (inputs : List (List Int)) (H : Heap) (s : Nat × List DVisit) (ρ : Env) (H' : Heap) : Prop :=
 ∃ ver J, H' = rxH d H s.2 ver (J ++ [.cells [.int .i64 (s.1 : Int)]]) ∧ ρ 1 = .list (inputs.map encInts) ∧ ρ 2 = .ptr H.length 0 ∧ ρ 4 = .ptr (H.length + 1) 0 ∧ ρ 5 = .ptr (H.length + 2) 0 ∧ ρ 6 = .ptr (H.length + 3) 0 ∧ ρ 7 = .ptr (H.length + (J.length + 5)) 0 ∧ VisOk d s.2 ∧ s.1 ≤ s.2.length
def rxQ (d : Desg) (H : Heap) (r : Oc (List DVisit) Unit) (ex : Ex) (ρ' : Env) (H' : Heap) : Prop :=
 match r with
 | .a l => ex = .exit 0 ∧ VisOk d l ∧ ρ' 4 = .ptr (H.length + 1) 0 ∧ ρ' 5 = .ptr (H.length + 2) 0 ∧ ρ' 6 = .ptr (H.length + 3) 0 ∧ ∃ ver J, H' = rxH d H l ver J
 | .b _ => ex = .ret ∧ ρ' 4 = .ptr (H.length + 1) 0 ∧ ρ' 5 = .ptr (H.length + 2) 0 ∧ ∃ J, H' = H ++ .cells [.str d.name, .list (d.inputs.map encPort), .list (d.elements.map encElem), .list (d.nodes.map encNode), .list (d.rules.map encRul), .list (d.outs.map encOutp), .list (d.attrs.map encAttr)] :: .cells [.nilS] :: .cells [.int .i64 16] :: J
theorem Gv (bs : List Nat) (H : Heap) (d : Desg) (inputs : List (List Int)) (hd : OkD d) (h6 : inputs.length ≤ 1000000) (hin : ∀ x ∈ inputs, LeafOk (inWs d) x) :
  ∀ k s r ρ H', rxRep d inputs H s ρ H' → reachF d inputs k s = some r → Lp X2 ⟨47, H.length :: bs⟩ (loopAt Tryz.f81 0) ρ H' (rxQ d H r) := by
 refine ae (S := reachF d inputs) (rep := rxRep d inputs H) (Q := rxQ d H) (fun _ => rfl) ?_
 rintro k ⟨i, l⟩ r ρ H' ⟨ver, J, hH, h1, h2, h4, h5, h6', h7, hv, hi⟩ hR
 simp only at hH hv hi
 have hlen := hv.len
 have hR := hR.out
 rw [reachF] at hR
 rcases Nat.lt_or_ge i l.length with hlt | hge
 case inr =>
  have hn : l[i]? = none := by rw [List.getElem?_eq_none_iff]; omega
  rw [hn] at hR
  obtain rfl := Option.some.inj hR
  have dd : decide ((i : Int) < (l.length : Int)) = false := decide_eq_false (by omega)
  unfold rxH at hH
  subst hH
  replace hv : Kp (VisOk d l) := ⟨hv⟩
  clear hR hn hi hge hin hd
  conv => arg 3; whnf
  repeat' first
   | (refine yw1 (id := 1) oz18 oz19 ?_)
   | (refine yw0 (id := 5) oz0 ?_)
   | (refine zs ?_; repeat' first | apply zs0 | apply zs2 | (intro hc; try have hq := dq hc)) | fail
  exact ⟨rfl, hv.out, yw3, yw3, yw3, ver, J ++ [.cells [.int .i64 (i : Int)]], rfl⟩
 obtain ⟨v, hvi⟩ : ∃ v, l[i]? = some v := ⟨_, aS hlt⟩
 rw [hvi] at hR
 simp only at hR
 have dd : decide ((i : Int) < (l.length : Int)) = true := decide_eq_true (by omega)
 have hst : StepsOk d inputs v.state := ⟨hd, h6, hin, hv.st v (List.mem_of_getElem? hvi)⟩
 have t1 := fun bs H => bF (wU bs H d inputs v.state)
 simp only [encDesg, cellsDesg] at t1
 have hw := add1 i l.length hlt (by omega)
 obtain ⟨o, ho, hR⟩ := Option.bind_eq_some_iff.1 hR
 have hall := kj hd hst.st inputs 0 hin
 have hge : ∀ ver J, (rxH d H l ver J)[H.length + 4]? = some (.arr (l.map encDVisit) ver) := fun ver J => by simp [rxH]
 have hget : (l.map encDVisit)[i]? = some (encDVisit v) := by simp [hvi]
 have hlm : i < (l.map encDVisit).length := by simpa using hlt
 unfold rxH at hH
 subst hH
 conv => arg 3; whnf
 repeat' first
  | (refine yw1 (id := 1) oz18 oz19 ?_)
  | (refine yw0 (id := 5) oz0 ?_)
  | (refine zs ?_; repeat' first | apply zs0 | apply zs2 | (intro hc; try have hq := dq hc)) | fail
 refine yr (AE (c := .rangeFunc (.tmp 29) #[30, 31] (rangeAt Tryz.f81 0).1 (rangeAt Tryz.f81 0).2) rfl (Cq bs H d inputs v.state hst i J _ (yw3) (yw3) (yw3) (yw3) (by simp only [cellsDesg]; (simp only [seval, push_cast, *] <;> rfl)) l o _ ⟨hv, ver, [], rfl⟩ (by rw [vb i l hall]; exact ho))) ?_
 cases o with
 | b u =>
  obtain rfl := Option.some.inj hR
  rintro ex ρ' H' ⟨rfl, rfl, J2, rfl⟩
  clear hR hge hget hlm hall hst hin hd hv ho hi
  repeat' first
   | (refine yw1 (id := 1) oz18 oz19 ?_)
   | (refine yw0 (id := 5) oz0 ?_)
   | (refine zs ?_; repeat' first | apply zs0 | apply zs2 | (intro hc; try have hq := dq hc)) | fail
  exact ⟨rfl, yw3, yw3, J2, rfl⟩
 | a l' =>
  rintro ex ρ' H' ⟨rfl, rfl, ver', J2, rfl⟩
  obtain ⟨hv', hle⟩ := lj i hall hv ho
  have hw2 := add1 i 1000000 (by omega) (by omega)
  replace hv' : Kp (VisOk d l') := ⟨hv'⟩
  replace hR : Kp (reachF d inputs k (i + 1, l') = some r) := ⟨hR⟩
  replace hle : Kp (i + 1 ≤ l'.length) := ⟨by omega⟩
  clear hge hget hlm hall hst hin hd hv ho hi hlt hw dd
  repeat' first
   | (refine yw1 (id := 1) oz18 oz19 ?_)
   | (refine yw0 (id := 5) oz0 ?_)
   | (refine zs ?_; repeat' first | apply zs0 | apply zs2 | (intro hc; try have hq := dq hc)) | fail
  exact ⟨(i + 1, l'), ⟨ver', J ++ .cells [.int .i64 (i : Int)] :: J2, by simp [rxH], yw3, yw3, yw3, yw3, yw3, by (simp only [seval, push_cast, *] <;> first | rfl | (congr 1; first | omega | (simp; omega) | simp)), hv'.out, hle.out⟩, hR.out⟩
def rxR : Oc (List DVisit) Unit → V
 | .a l => .tuple [.list (l.map encDVisit), .int .i64 0]
 | .b _ => .tuple [.nilS, .int .i64 16]
theorem tH (bs : List Nat) (H : Heap) (d : Desg) (inputs : List (List Int)) (hd : OkD d) (h6 : inputs.length ≤ 1000000) (hin : ∀ x ∈ inputs, LeafOk (inWs d) x) (o : Oc (List DVisit) Unit) (ho : reachF d inputs 302 (0, startD d) = some o) : callw X2 bs 81 [encDesg d, .list (inputs.map encInts)] H = some (rxR o, H) := by
 refine yw2 (rs := [.cell 4 137, .cell 5 35]) (N := 47) (fn := Tryz.f81) rfl Tryz.func81 ?_
 obtain ⟨F, hF⟩ : ∃ F, 1000000 < F := ⟨1000001, by omega⟩
 have hel := hd.few.elements
 have t1 := fun bs H => bF (iK bs H F d _ (wV hF hel))
 have t2 := fun bs H => bF (bR bs H F d (resetD d) _ (kN hF hel (by simp [resetD])))
 have key := Gv bs H d inputs hd h6 hin 302 (0, startD d) o
 have hv0 := ni hd
 simp only [encDesg, cellsDesg] at t1 t2
 have rm1 : 48 ≤ roomB := by unfold roomB; omega
 have hs1 : startD d = [⟨begL d.elements (resetD d), -1, ⟨0, 0⟩⟩] := rfl
 generalize begL d.elements (resetD d) = s0 at t2 hs1
 generalize resetD d = z0 at t1 t2
 clear hel hF
 repeat' first
  | (refine yw1 (id := 1) oz18 oz19 ?_)
  | (refine yw0 (id := 5) oz0 ?_)
  | (refine zs ?_; repeat' first | apply zs0 | apply zs2 | (intro hc; try have hq := dq hc)) | fail
 refine ab (af (c := loopAt Tryz.f81 0) rfl (key _ _ ⟨0, [], by rw [hs1]; simp [rxH, encDVisit, cellsDVisit], yw3, yw3, yw3, yw3, yw3, yw3, hv0, Nat.zero_le _⟩ ho)) ?_
 clear key hv0 hs1 t1 t2 ho hin hd
 cases o with
 | b u =>
  rintro ex ρ' H' ⟨rfl, q4, q5, J2, rfl⟩ -
  unfold rxR
  repeat' first
   | (refine yw1 (id := 1) oz18 oz19 ?_)
   | (refine yw0 (id := 5) oz0 ?_)
   | (refine zs ?_; repeat' first | apply zs0 | apply zs2 | (intro hc; try have hq := dq hc)) | fail
 | a l =>
  rintro ex ρ' H' ⟨rfl, hv, q4, q5, q6, ver, J2, rfl⟩ -
  have hlen := hv.len
  have hta := ic encDVisit (l := l) (n := l.length) rfl
  have hlt := kb (l := l) (n := l.length) rfl
  unfold rxR rxH
  clear hv
  repeat' first
   | (refine yw1 (id := 1) oz18 oz19 ?_)
   | (refine yw0 (id := 5) oz0 ?_)
   | (refine zs ?_; repeat' first | apply zs0 | apply zs2 | (intro hc; try have hq := dq hc)) | fail
theorem Gw (bs : List Nat) (H : Heap) (d : Desg) (inputs : List (List Int)) (hd : OkD d) (h6 : inputs.length ≤ 1000000) (hin : ∀ x ∈ inputs, LeafOk (inWs d) x) (he : ¬(searchD d inputs).2 = 0) :
  callw X2 bs 81 [encDesg d, .list (inputs.map encInts)] H = some (.tuple [.nilS, .int .i64 16], H) := by
 obtain ⟨o, ho⟩ := kV hd hin 302 0 (startD d) (ni hd) (by omega) (by omega)
 cases o with
 | a l => exact absurd (by unfold searchD; rw [ho]) he
 | b u => exact tH bs H d inputs hd h6 hin _ ho
theorem Gx (bs : List Nat) (H : Heap) (d : Desg) (inputs : List (List Int)) (hd : OkD d) (h6 : inputs.length ≤ 1000000) (hin : ∀ x ∈ inputs, LeafOk (inWs d) x) (he : (searchD d inputs).2 = 0) :
  callw X2 bs 81 [encDesg d, .list (inputs.map encInts)] H = some (.tuple [.list ((searchD d inputs).1.map encDVisit), .int .i64 0], H) := by
 obtain ⟨o, ho⟩ := kV hd hin 302 0 (startD d) (ni hd) (by omega) (by omega)
 cases o with
 | a l =>
  have : searchD d inputs = (l, 0) := by unfold searchD; rw [ho]
  rw [this]
  exact tH bs H d inputs hd h6 hin _ ho
 | b u =>
  have : searchD d inputs = ([], 16) := by unfold searchD; rw [ho]
  rw [this] at he; exact absurd he (by decide)
end Go.E
namespace Go.E
open Go.Proofs Classical
set_option maxRecDepth 100000
set_option maxHeartbeats 20000000
noncomputable section
theorem z43 {cx : Cx} {n0 : Nat} {H' : Heap} {ρ : Env} {H1 : Heap} {r1 r2 r3 : ResultVar} {u1 u2 u3 v1 v2 v3 : V} (h1 : resV cx.P ρ H1 r1 = some u1) (h2 : resV cx.P ρ H1 r2 = some u2) (h3 : resV cx.P ρ H1 r3 = some u3)
  (k1 : frz 6 n0 H1 u1 = some v1) (k2 : frz 6 n0 H1 u2 = some v2) (k3 : frz 6 n0 H1 u3 = some v3) (hh : H1.take n0 = H') : Leaf cx [r1, r2, r3] n0 (.tuple [v1, v2, v3]) H' .ret ρ H1 :=
 by unfold Leaf; exact ⟨trivial, [u1, u2, u3], [v1, v2, v3], by simp [h1, h2, h3], by simp [k1, k2, k3], rfl, hh⟩
theorem ug (bs : List Nat) (H : Heap) (a b c d : Int) : callw X bs 59 [.list [.int .i64 a, .int .i64 b, .int .i64 c, .int .i64 d]] H = some (.int .i64 (firstL [a, b, c, d]), H) := kc bs H [a, b, c, d] (by simp)
attribute [push_cast] ug
def fM (F : Nat) (d : Desg) (rule : Int) (inputs : List Int) (s_ : List Int) : Option ((List Int) × Int) := ((fI F d).bind fun y1 => (if (decide (y1.2 = 0)) = true then ((bQ F y1.1 rule).bind fun y3 => ((aK F y1.1 inputs).bind fun y4 => ((aO F y1.1 s_).bind fun y5 => (if (decide (¬y3 = 0)) = true then some ([], y3) else (if (decide (¬y4 = 0)) = true then some ([], y4) else (if (decide (¬y5 = 0)) = true then some ([], y5) else ((aN F y1.1 inputs s_).bind fun y9 => ((aA F y1.1 rule y9).bind fun y10 => (if y10 = true then ((ap F y1.1 rule y9 s_).bind fun y12 => some (y12, 0)) else some ([], 24)))))))))) else (if (decide (¬y1.2 = 0)) = true then some ([], y1.2) else ((aN F y1.1 inputs s_).bind fun y14 => ((aA F y1.1 rule y14).bind fun y15 => (if y15 = true then ((ap F y1.1 rule y14 s_).bind fun y17 => some (y17, 0)) else some ([], 24)))))))
theorem qe (bs : List Nat) (H : Heap) (F : Nat) (d : Desg) (rule : Int) (inputs : List Int) (s_ : List Int) (R : (List Int) × Int) (hR0 : fM F d rule inputs s_ = some R) : callw X bs 13 [(encDesg d), .int .i64 rule, .list (inputs.map (V.int .i64)), .list (s_.map (V.int .i64))] H = some (.tuple [.list (R.1.map (V.int .i64)), .int .i64 R.2], H) := by
 refine yw2 (rs := [.tmp 8, .tmp 9]) (N := 48) (fn := Tryz.f13) xk13 Tryz.func13 ?_
 have hR := Kp.mk hR0
 clear hR0
 rw [fM] at hR
 (try simp only [cellsDesg, encDesg, encInts])
 obtain ⟨y1, y1_e, hR⟩ := bindE hR
 have y1_k := fun bs H => kg bs H F d y1 y1_e
 (try simp only [cellsDesg, encDesg, encInts] at y1_k)
 try refine zw ?_
 clear y1_k
 rcases iteE hR with ⟨c2, hR⟩ | ⟨c2, hR⟩
 ·obtain ⟨y3, y3_e, hR⟩ := bindE hR
  have y3_k := fun bs H => ip bs H F y1.1 rule y3 y3_e
  (try simp only [cellsDesg, encDesg, encInts] at y3_k)
  obtain ⟨y4, y4_e, hR⟩ := bindE hR
  have y4_k := fun bs H => dw bs H F y1.1 inputs y4 y4_e
  (try simp only [cellsDesg, encDesg, encInts] at y4_k)
  obtain ⟨y5, y5_e, hR⟩ := bindE hR
  have y5_k := fun bs H => dL bs H F y1.1 s_ y5 y5_e
  (try simp only [cellsDesg, encDesg, encInts] at y5_k)
  rcases iteE hR with ⟨c6, hR⟩ | ⟨c6, hR⟩
  ·have c6_p := of_decide_eq_true c6
   obtain rfl := someE hR
   try refine zu ?_
   (refine yw1 (id := 3) oz50 oz51 ?_)
   exact zv
  ·have c6_p := Decidable.not_not.1 (of_decide_eq_false c6)
   rcases iteE hR with ⟨c7, hR⟩ | ⟨c7, hR⟩
   ·have c7_p := of_decide_eq_true c7
    obtain rfl := someE hR
    try refine zu ?_
    (refine yw1 (id := 3) oz50 oz51 ?_)
    exact zv
   ·have c7_p := Decidable.not_not.1 (of_decide_eq_false c7)
    rcases iteE hR with ⟨c8, hR⟩ | ⟨c8, hR⟩
    ·have c8_p := of_decide_eq_true c8
     obtain rfl := someE hR
     try refine zu ?_
     (refine yw1 (id := 3) oz50 oz51 ?_)
     exact zv
    ·have c8_p := Decidable.not_not.1 (of_decide_eq_false c8)
     obtain ⟨y9, y9_e, hR⟩ := bindE hR
     have y9_k := fun bs H => cO bs H F y1.1 inputs s_ y9 y9_e
     (try simp only [cellsDesg, encDesg, encInts] at y9_k)
     obtain ⟨y10, y10_e, hR⟩ := bindE hR
     have y10_k := fun bs H => dx bs H F y1.1 rule y9 y10 y10_e
     (try simp only [cellsDesg, encDesg, encInts] at y10_k)
     try refine zu ?_
     (refine yw1 (id := 3) oz50 oz51 ?_)
     try refine zw ?_
     clear y3_k y4_k y5_k y9_k y10_k
     rcases iteE hR with ⟨c11, hR⟩ | ⟨c11, hR⟩
     ·obtain ⟨y12, y12_e, hR⟩ := bindE hR
      have y12_k := fun bs H => dM bs H F y1.1 rule y9 s_ y12 y12_e
      (try simp only [cellsDesg, encDesg, encInts] at y12_k)
      obtain rfl := someE hR
      exact zv
     ·obtain rfl := someE hR
      exact zv
 ·try refine zw ?_
  rcases iteE hR with ⟨c13, hR⟩ | ⟨c13, hR⟩
  ·obtain rfl := someE hR
   exact zv
  ·obtain ⟨y14, y14_e, hR⟩ := bindE hR
   have y14_k := fun bs H => cO bs H F y1.1 inputs s_ y14 y14_e
   (try simp only [cellsDesg, encDesg, encInts] at y14_k)
   obtain ⟨y15, y15_e, hR⟩ := bindE hR
   have y15_k := fun bs H => dx bs H F y1.1 rule y14 y15 y15_e
   (try simp only [cellsDesg, encDesg, encInts] at y15_k)
   try refine zw ?_
   clear y14_k y15_k
   rcases iteE hR with ⟨c16, hR⟩ | ⟨c16, hR⟩
   ·obtain ⟨y17, y17_e, hR⟩ := bindE hR
    have y17_k := fun bs H => dM bs H F y1.1 rule y14 s_ y17 y17_e
    (try simp only [cellsDesg, encDesg, encInts] at y17_k)
    obtain rfl := someE hR
    exact zv
   ·obtain rfl := someE hR
    exact zv
def fa (F : Nat) (cv0 : Desg) (a0_ : Int) (n : Int) : Option (Int) := ((bQ F cv0 n).bind fun y1 => some y1)
theorem lk (bs : List Nat) (H : Heap) (F : Nat) (ca0 : Nat) (cv0 : Desg) (hca0 : H[ca0]? = some (.cells [.str cv0.name, .list (cv0.inputs.map encPort), .list (cv0.elements.map encElem), .list (cv0.nodes.map encNode), .list (cv0.rules.map encRul), .list (cv0.outs.map encOutp), .list (cv0.attrs.map encAttr)])) (a0_ : Int) (n : Int) (R : Int) (hR0 : fa F cv0 a0_ n = some R) : callw X bs 71 [.int .i64 a0_, .int .i64 n, .ptr ca0 0] H = some (.int .i64 R, H) := by
 refine yw2 (rs := [.tmp 5]) (N := 9) (fn := Tryz.f71) xk71 Tryz.func71 ?_
 have hca0_l := aa hca0
 have hca0_a := get_app' hca0
 have hR := Kp.mk hR0
 clear hR0
 rw [fa] at hR
 obtain ⟨y1, y1_e, hR⟩ := bindE hR
 have y1_k := fun bs H => ip bs H F cv0 n y1 y1_e
 (try simp only [cellsDesg, encDesg, encInts] at y1_k)
 obtain rfl := someE hR
 exact zv
def cB (F : Nat) (l : List Int) (cv0 : Desg) : Nat → Nat → Option (Oc (Nat × Int) (Unit))
 | 0, _ => none
 | k + 1, s1 => (if (decide ((s1 : Int) < (l.length : Int))) = true then ((l[s1]?).bind fun x4 => ((fa F cv0 (s1 : Int) x4).bind fun y5 => (if (decide (¬y5 = 0)) = true then some (.a (s1, y5)) else (if inI ((s1 : Int) + 1) then cB F l cv0 k (s1 + 1) else none)))) else some (.b ()))
theorem oH (bs : List Nat) (H : Heap) (F : Nat) (ca0 : Nat) (cv0 : Desg) (hca0 : H[ca0]? = some (.cells [.str cv0.name, .list (cv0.inputs.map encPort), .list (cv0.elements.map encElem), .list (cv0.nodes.map encNode), .list (cv0.rules.map encRul), .list (cv0.outs.map encOutp), .list (cv0.attrs.map encAttr)])) (l : List Int) : ∀ k s r ρ H', (∃ J2, H' = H ++ J2 ∧ ρ 1 = .func 71 [.ptr ca0 0] ∧ ρ 9 = .list (l.map (V.int .i64)) ∧ ρ 10 = .int .i64 (l.length : Int) ∧ ρ 11 = .int .i64 (s : Int)) → cB F l cv0 k s = some r → Lp X ⟨25, H.length :: bs⟩ (loopAt Tryz.f70 0) ρ H' ((fun r ex ρ H' => match r with | .a r => ∃ J2, H' = H ++ J2 ∧ ex = .ret ∧ ρ 4 = .int .i64 (r.1 : Int) ∧ ρ 5 = .int .i64 r.2 | .b r => ∃ J2, H' = H ++ J2 ∧ ex = .exit 0) r) := by
 refine ae (fun _ => rfl) ?_
 rintro k s1 r ρ H' ⟨J2, hH, h1, h9, h10, h11⟩ hR
 skip
 subst hH
 rw [cB] at hR
 have hca0_l := aa hca0
 have hca0_a := get_app' hca0
 conv => arg 3; whnf
 try refine zw ?_
 rcases iteE hR with ⟨c3, hR⟩ | ⟨c3, hR⟩
 ·obtain ⟨x4, x4_e, hR⟩ := bindE hR
  obtain ⟨y5, y5_e, hR⟩ := bindE hR
  have y5_k := fun (bs : List Nat) (l : Heap) => lk bs (H ++ l) F ca0 cv0 gt (s1 : Int) x4 y5 y5_e
  have y5_k0 := fun (bs : List Nat) => lk bs H F ca0 cv0 gt (s1 : Int) x4 y5 y5_e
  try refine zw ?_
  clear y5_k y5_k0
  rcases iteE hR with ⟨c6, hR⟩ | ⟨c6, hR⟩
  ·obtain rfl := someE hR
   refine zu ?_
   exact ⟨_, hq, rfl, sl, sl⟩
  ·obtain ⟨g7, hR⟩ := grdE hR
   have g7_w := ac g7
   refine zu ?_
   exact ⟨(s1 + 1), ⟨_, hq, sl, sl, sl, sl⟩, hR.out⟩
 ·obtain rfl := someE hR
  refine zu ?_
  exact ⟨_, hq, rfl⟩
def ei (F : Nat) (l : List Int) (cv0 : Desg) : List Int → Nat → Unit → Option (Oc (Nat × Int) (Unit))
 | [], s1, _ => some (.b ())
 | x_ :: r_, s1, _ => ((fa F cv0 (s1 : Int) x_).bind fun y5 => (if (decide (¬y5 = 0)) = true then some (.a (s1, y5)) else ei F l cv0 r_ (s1 + 1) ()))
theorem jk (F : Nat) (l : List Int) (cv0 : Desg) (hl_ : l.length ≤ 1000000) : ∀ r_ i_ k_ (o_ : Unit), l.drop i_ = r_ → r_.length < k_ → cB F l cv0 k_ i_ = ei F l cv0 r_ i_ o_
 | _, _, 0, _, _, hk => absurd hk (Nat.not_lt_zero _)
 | [], i_, k_ + 1, _, hd, _ => by rw [cB, ei]; simp only [ai hd, Bool.false_eq_true, if_false]
 | x_ :: r_, i_, k_ + 1, _, hd, hk => by
  have ih := jk F l cv0 hl_ r_ (i_ + 1) k_ () (ah hd) (Nat.lt_of_succ_lt_succ hk)
  rw [cB, ei]; simp only [aq hd, ak hd, if_pos (av hd hl_), Option.bind_some, if_true, ih]
def gg (F : Nat) (cv0 : Desg) (l : List Int) : Option (Int × Int) := ((cB F l cv0 F 0).bind fun o8 => match o8 with | .a o9 => some ((o9.1 : Int), o9.2) | .b o11 => some (0, 0))
theorem qL (bs : List Nat) (H : Heap) (F : Nat) (ca0 : Nat) (cv0 : Desg) (hca0 : H[ca0]? = some (.cells [.str cv0.name, .list (cv0.inputs.map encPort), .list (cv0.elements.map encElem), .list (cv0.nodes.map encNode), .list (cv0.rules.map encRul), .list (cv0.outs.map encOutp), .list (cv0.attrs.map encAttr)])) (l : List Int) (R : Int × Int) (hR0 : gg F cv0 l = some R) : callw X bs 70 [.list (l.map (V.int .i64)), .func 71 [.ptr ca0 0]] H = some (.tuple [.int .i64 R.1, .int .i64 R.2], H) := by
 refine yw2 (rs := [.tmp 4, .tmp 5]) (N := 25) (fn := Tryz.f70) xk70 Tryz.func70 ?_
 have hca0_l := aa hca0
 have hca0_a := get_app' hca0
 have hR := Kp.mk hR0
 clear hR0
 rw [gg] at hR
 obtain ⟨o8, o8_e, hR⟩ := bindE hR
 refine zu ?_
 refine ab (af (c := (loopAt Tryz.f70 0)) rfl (oH _ H F ca0 cv0 hca0 l _ 0 o8 _ _ ⟨[], by simp, sl, sl, sl, sl⟩ o8_e)) ?_
 rcases o8 with o9 | o11
 ·rintro ex ρ' H' ⟨J10, rfl, rfl, q4_o9, q5_o9⟩ hf
  clear hf
  obtain rfl := someE hR
  exact zv
 ·rintro ex ρ' H' ⟨J12, rfl, rfl⟩ hf
  clear hf
  obtain rfl := someE hR
  exact zv
def bJ (F : Nat) (rules : List Int) (inputs : List Int) (y1 : Desg × Int) : Nat → ((List Int) × (List (List Int)) × Nat) → Option (Oc ((List (List Int)) × Nat) ((List (List Int))))
 | 0, _ => none
 | k + 1, (s24, s25, s26) => (if (decide ((s26 : Int) < (rules.length : Int))) = true then ((rules[s26]?).bind fun x30 => ((aN F y1.1 inputs s24).bind fun y31 => ((aA F y1.1 x30 y31).bind fun y32 => (if y32 = true then ((ap F y1.1 x30 y31 s24).bind fun y34 => (if (s25.length + 1) ≤ 1000000 then (if inI ((s26 : Int) + 1) then bJ F rules inputs y1 k (y34, (s25 ++ [y34]), (s26 + 1)) else none) else none)) else some (.a (s25, s26)))))) else some (.b s25))
theorem kB (bs : List Nat) (H : Heap) (F : Nat) (rules : List Int) (inputs : List Int) (y1 : Desg × Int) (a27 : HObj) : ∀ k s r ρ H', (∃ J28, H' = H ++ a27 :: .tok 0 :: .cells [.str y1.1.name, .list (y1.1.inputs.map encPort), .list (y1.1.elements.map encElem), .list (y1.1.nodes.map encNode), .list (y1.1.rules.map encRul), .list (y1.1.outs.map encOutp), .list (y1.1.attrs.map encAttr)] :: .tok s.2.1.length :: J28 ∧ ρ 1 = .list (rules.map (V.int .i64)) ∧ ρ 2 = .list (inputs.map (V.int .i64)) ∧ ρ 11 = .ptr (H.length + 2) 0 ∧ ρ 15 = .list (s.1.map (V.int .i64)) ∧ ρ 16 = .tl (H.length + 3) (s.2.1.map encInts) ∧ ρ 54 = .list (rules.map (V.int .i64)) ∧ ρ 55 = .int .i64 (rules.length : Int) ∧ ρ 56 = .int .i64 (s.2.2 : Int)) → bJ F rules inputs y1 k s = some r → Lp X ⟨85, H.length :: bs⟩ (loopAt Tryz.f16 0) ρ H' ((fun r ex ρ H' => match r with | .a r => ∃ J28, H' = H ++ a27 :: .tok 0 :: .cells [.str y1.1.name, .list (y1.1.inputs.map encPort), .list (y1.1.elements.map encElem), .list (y1.1.nodes.map encNode), .list (y1.1.rules.map encRul), .list (y1.1.outs.map encOutp), .list (y1.1.attrs.map encAttr)] :: .tok r.1.length :: J28 ∧ ex = .ret ∧ ρ 8 = .tl (H.length + 3) (r.1.map encInts) ∧ ρ 9 = .int .i64 (r.2 : Int) ∧ ρ 10 = .int .i64 0 | .b r => ∃ J28, H' = H ++ a27 :: .tok 0 :: .cells [.str y1.1.name, .list (y1.1.inputs.map encPort), .list (y1.1.elements.map encElem), .list (y1.1.nodes.map encNode), .list (y1.1.rules.map encRul), .list (y1.1.outs.map encOutp), .list (y1.1.attrs.map encAttr)] :: .tok r.length :: J28 ∧ ex = .exit 0 ∧ ρ 16 = .tl (H.length + 3) (r.map encInts)) r) := by
 refine ae (fun _ => rfl) ?_
 rintro k ⟨s24, s25, s26⟩ r ρ H' ⟨J28, hH, h1, h2, h11, h15, h16, h54, h55, h56⟩ hR
 simp only at hH h1 h2 h11 h15 h16 h54 h55 h56
 subst hH
 rw [bJ] at hR
 conv => arg 3; whnf
 try refine zw ?_
 rcases iteE hR with ⟨c29, hR⟩ | ⟨c29, hR⟩
 ·obtain ⟨x30, x30_e, hR⟩ := bindE hR
  obtain ⟨y31, y31_e, hR⟩ := bindE hR
  have y31_k := fun bs H => cO bs H F y1.1 inputs s24 y31 y31_e
  (try simp only [cellsDesg, encDesg, encInts] at y31_k)
  obtain ⟨y32, y32_e, hR⟩ := bindE hR
  have y32_k := fun bs H => dx bs H F y1.1 x30 y31 y32 y32_e
  (try simp only [cellsDesg, encDesg, encInts] at y32_k)
  try refine zw ?_
  clear y31_k y32_k
  rcases iteE hR with ⟨c33, hR⟩ | ⟨c33, hR⟩
  ·obtain ⟨y34, y34_e, hR⟩ := bindE hR
   have y34_k := fun bs H => dM bs H F y1.1 x30 y31 s24 y34 y34_e
   (try simp only [cellsDesg, encDesg, encInts] at y34_k)
   obtain ⟨g35, hR⟩ := grdE hR
   have g35_r := ka (n := (s25.length + 1)) (k := 24) g35 (by omega)
   obtain ⟨g36, hR⟩ := grdE hR
   have g36_w := ac g36
   refine zu ?_
   exact ⟨(y34, (s25 ++ [y34]), (s26 + 1)), ⟨_, hq, sl, sl, sl, sl, sl, sl, sl, sl⟩, hR.out⟩
  ·obtain rfl := someE hR
   refine zu ?_
   exact ⟨_, hq, rfl, sl, sl, sl⟩
 ·obtain rfl := someE hR
  refine zu ?_
  exact ⟨_, hq, rfl, sl⟩
def dR (F : Nat) (rules : List Int) (inputs : List Int) (y1 : Desg × Int) : List Int → Nat → ((List Int) × (List (List Int))) → Option (Oc ((List (List Int)) × Nat) ((List (List Int))))
 | [], s26, (s24, s25) => some (.b s25)
 | x_ :: r_, s26, (s24, s25) => ((aN F y1.1 inputs s24).bind fun y31 => ((aA F y1.1 x_ y31).bind fun y32 => (if y32 = true then ((ap F y1.1 x_ y31 s24).bind fun y34 => (if (s25.length + 1) ≤ 1000000 then dR F rules inputs y1 r_ (s26 + 1) (y34, (s25 ++ [y34])) else none)) else some (.a (s25, s26)))))
theorem kl (F : Nat) (rules : List Int) (inputs : List Int) (y1 : Desg × Int) (hl_ : rules.length ≤ 1000000) : ∀ r_ i_ k_ (o_ : (List Int) × (List (List Int))), rules.drop i_ = r_ → r_.length < k_ → bJ F rules inputs y1 k_ (o_.1, o_.2, i_) = dR F rules inputs y1 r_ i_ o_
 | _, _, 0, _, _, hk => absurd hk (Nat.not_lt_zero _)
 | [], i_, k_ + 1, ⟨s24, s25⟩, hd, _ => by rw [bJ, dR]; simp only [ai hd, Bool.false_eq_true, if_false]
 | x_ :: r_, i_, k_ + 1, ⟨s24, s25⟩, hd, hk => by
  have ih := fun o_ => kl F rules inputs y1 hl_ r_ (i_ + 1) k_ o_ (ah hd) (Nat.lt_of_succ_lt_succ hk)
  simp only [Prod.forall] at ih
  rw [bJ, dR]; simp only [aq hd, ak hd, if_pos (av hd hl_), Option.bind_some, if_true, ih]
def gN (F : Nat) (d : Desg) (rules : List Int) (inputs : List Int) (s_ : List Int) : Option ((List (List Int)) × Int × Int) := ((fI F d).bind fun y1 => (if (decide (y1.2 = 0)) = true then ((gg F y1.1 rules).bind fun y3 => (if (decide ((rules.length : Int) ≤ 60)) = true then ((aK F y1.1 inputs).bind fun y5 => ((aO F y1.1 s_).bind fun y6 => (if (decide (¬y3.2 = 0)) = true then some ([], 0, y3.2) else (if (decide (¬y5 = 0)) = true then some ([], 0, y5) else (if (decide (¬y6 = 0)) = true then some ([], 0, y6) else ((aF F y1.1 s_).bind fun y10 => ((bJ F rules inputs y1 F (y10, [y10], 0)).bind fun o37 => match o37 with | .a o38 => some (o38.1, (o38.2 : Int), 0) | .b o40 => some (o40, (rules.length : Int), 0)))))))) else ((aK F y1.1 inputs).bind fun y42 => ((aO F y1.1 s_).bind fun y43 => some ([], 0, 8))))) else (if (decide (¬y1.2 = 0)) = true then some ([], 0, y1.2) else ((aF F y1.1 s_).bind fun y45 => ((bJ F rules inputs y1 F (y45, [y45], 0)).bind fun o72 => match o72 with | .a o73 => some (o73.1, (o73.2 : Int), 0) | .b o75 => some (o75, (rules.length : Int), 0))))))
theorem sD (bs : List Nat) (H : Heap) (F : Nat) (d : Desg) (rules : List Int) (inputs : List Int) (s_ : List Int) (R : (List (List Int)) × Int × Int) (hR0 : gN F d rules inputs s_ = some R) : callw X bs 16 [(encDesg d), .list (rules.map (V.int .i64)), .list (inputs.map (V.int .i64)), .list (s_.map (V.int .i64))] H = some (.tuple [.list (R.1.map encInts), .int .i64 R.2.1, .int .i64 R.2.2], H) := by
 refine yw2 (rs := [.tmp 8, .tmp 9, .tmp 10]) (N := 85) (fn := Tryz.f16) xk16 Tryz.func16 ?_
 have hR := Kp.mk hR0
 clear hR0
 rw [gN] at hR
 (try simp only [cellsDesg, encDesg, encInts])
 obtain ⟨y1, y1_e, hR⟩ := bindE hR
 have y1_k := fun bs H => kg bs H F d y1 y1_e
 (try simp only [cellsDesg, encDesg, encInts] at y1_k)
 try refine zw ?_
 clear y1_k
 rcases iteE hR with ⟨c2, hR⟩ | ⟨c2, hR⟩
 ·obtain ⟨y3, y3_e, hR⟩ := bindE hR
  have y3_k := fun (bs : List Nat) (u0 u1 : HObj) (J : Heap) => qL bs (H ++ u0 :: u1 :: .cells [.str y1.1.name, .list (y1.1.inputs.map encPort), .list (y1.1.elements.map encElem), .list (y1.1.nodes.map encNode), .list (y1.1.rules.map encRul), .list (y1.1.outs.map encOutp), .list (y1.1.attrs.map encAttr)] :: J) F (H.length + 2) y1.1 gt rules y3 y3_e
  rcases iteE hR with ⟨c4, hR⟩ | ⟨c4, hR⟩
  ·obtain ⟨y5, y5_e, hR⟩ := bindE hR
   have y5_k := fun bs H => dw bs H F y1.1 inputs y5 y5_e
   (try simp only [cellsDesg, encDesg, encInts] at y5_k)
   obtain ⟨y6, y6_e, hR⟩ := bindE hR
   have y6_k := fun bs H => dL bs H F y1.1 s_ y6 y6_e
   (try simp only [cellsDesg, encDesg, encInts] at y6_k)
   rcases iteE hR with ⟨c7, hR⟩ | ⟨c7, hR⟩
   ·have c7_p := of_decide_eq_true c7
    obtain rfl := someE hR
    try refine zu ?_
    (refine yw1 (id := 4) oz41 oz42 ?_)
    try refine zu ?_
    all_goals (apply z43; (simp only [seval, push_cast, *]; with_reducible rfl); (simp only [seval, push_cast, *]; with_reducible rfl); (simp only [seval, push_cast, *]; with_reducible rfl); all_goals (first | (simp only [seval, push_cast, *] <;> fail) | (simp only [seval, push_cast] <;> fail) | (rw [bL rfl] <;> (simp [*] <;> fail))))
   ·have c7_p := Decidable.not_not.1 (of_decide_eq_false c7)
    rcases iteE hR with ⟨c8, hR⟩ | ⟨c8, hR⟩
    ·have c8_p := of_decide_eq_true c8
     obtain rfl := someE hR
     try refine zu ?_
     (refine yw1 (id := 4) oz41 oz42 ?_)
     try refine zu ?_
     all_goals (apply z43; (simp only [seval, push_cast, *]; with_reducible rfl); (simp only [seval, push_cast, *]; with_reducible rfl); (simp only [seval, push_cast, *]; with_reducible rfl); all_goals (first | (simp only [seval, push_cast, *] <;> fail) | (simp only [seval, push_cast] <;> fail) | (rw [bL rfl] <;> (simp [*] <;> fail))))
    ·have c8_p := Decidable.not_not.1 (of_decide_eq_false c8)
     rcases iteE hR with ⟨c9, hR⟩ | ⟨c9, hR⟩
     ·have c9_p := of_decide_eq_true c9
      obtain rfl := someE hR
      try refine zu ?_
      (refine yw1 (id := 4) oz41 oz42 ?_)
      try refine zu ?_
      all_goals (apply z43; (simp only [seval, push_cast, *]; with_reducible rfl); (simp only [seval, push_cast, *]; with_reducible rfl); (simp only [seval, push_cast, *]; with_reducible rfl); all_goals (first | (simp only [seval, push_cast, *] <;> fail) | (simp only [seval, push_cast] <;> fail) | (rw [bL rfl] <;> (simp [*] <;> fail))))
     ·have c9_p := Decidable.not_not.1 (of_decide_eq_false c9)
      obtain ⟨y10, y10_e, hR⟩ := bindE hR
      have y10_k := fun bs H => bR bs H F y1.1 s_ y10 y10_e
      (try simp only [cellsDesg, encDesg, encInts] at y10_k)
      obtain ⟨o37, o37_e, hR⟩ := bindE hR
      try refine zu ?_
      (refine yw1 (id := 4) oz41 oz42 ?_)
      try refine zu ?_
      refine ab (af (c := (loopAt Tryz.f16 0)) rfl (kB _ H F rules inputs y1 _ _ (y10, [y10], 0) o37 _ _ ⟨_, hq, sl, sl, sl, sl, sl, sl, sl, sl⟩ o37_e)) ?_
      clear y3_k y5_k y6_k y10_k
      rcases o37 with o38 | o40
      ·rintro ex ρ' H' ⟨J39, rfl, rfl, q8_o38, q9_o38, q10_o38⟩ hf
       clear hf
       obtain rfl := someE hR
       refine zu ?_
       all_goals (apply z43; (simp only [seval, push_cast, *]; with_reducible rfl); (simp only [seval, push_cast, *]; with_reducible rfl); (simp only [seval, push_cast, *]; with_reducible rfl); all_goals (first | (simp only [seval, push_cast, *] <;> fail) | (simp only [seval, push_cast] <;> fail) | (rw [bL rfl] <;> (simp [*] <;> fail))))
      ·rintro ex ρ' H' ⟨J41, rfl, rfl, q16_o40⟩ hf
       have q1_o40 : ρ' 1 = .list (rules.map (V.int .i64)) := (hf 1 rfl).trans (sl)
       clear hf
       obtain rfl := someE hR
       refine zu ?_
       all_goals (apply z43; (simp only [seval, push_cast, *]; with_reducible rfl); (simp only [seval, push_cast, *]; with_reducible rfl); (simp only [seval, push_cast, *]; with_reducible rfl); all_goals (first | (simp only [seval, push_cast, *] <;> fail) | (simp only [seval, push_cast] <;> fail) | (rw [bL rfl] <;> (simp [*] <;> fail))))
  ·obtain ⟨y42, y42_e, hR⟩ := bindE hR
   have y42_k := fun bs H => dw bs H F y1.1 inputs y42 y42_e
   (try simp only [cellsDesg, encDesg, encInts] at y42_k)
   obtain ⟨y43, y43_e, hR⟩ := bindE hR
   have y43_k := fun bs H => dL bs H F y1.1 s_ y43 y43_e
   (try simp only [cellsDesg, encDesg, encInts] at y43_k)
   obtain rfl := someE hR
   try refine zu ?_
   (refine yw1 (id := 4) oz41 oz42 ?_)
   try refine zu ?_
   all_goals (apply z43; (simp only [seval, push_cast, *]; with_reducible rfl); (simp only [seval, push_cast, *]; with_reducible rfl); (simp only [seval, push_cast, *]; with_reducible rfl); all_goals (first | (simp only [seval, push_cast, *] <;> fail) | (simp only [seval, push_cast] <;> fail) | (rw [bL rfl] <;> (simp [*] <;> fail))))
 ·try refine zw ?_
  rcases iteE hR with ⟨c44, hR⟩ | ⟨c44, hR⟩
  ·obtain rfl := someE hR
   refine zu ?_
   all_goals (apply z43; (simp only [seval, push_cast, *]; with_reducible rfl); (simp only [seval, push_cast, *]; with_reducible rfl); (simp only [seval, push_cast, *]; with_reducible rfl); all_goals (first | (simp only [seval, push_cast, *] <;> fail) | (simp only [seval, push_cast] <;> fail) | (rw [bL rfl] <;> (simp [*] <;> fail))))
  ·obtain ⟨y45, y45_e, hR⟩ := bindE hR
   have y45_k := fun bs H => bR bs H F y1.1 s_ y45 y45_e
   (try simp only [cellsDesg, encDesg, encInts] at y45_k)
   obtain ⟨o72, o72_e, hR⟩ := bindE hR
   refine zu ?_
   refine ab (af (c := (loopAt Tryz.f16 0)) rfl (kB _ H F rules inputs y1 _ _ (y45, [y45], 0) o72 _ _ ⟨_, hq, sl, sl, sl, sl, sl, sl, sl, sl⟩ o72_e)) ?_
   clear y45_k
   rcases o72 with o73 | o75
   ·rintro ex ρ' H' ⟨J74, rfl, rfl, q8_o73, q9_o73, q10_o73⟩ hf
    clear hf
    obtain rfl := someE hR
    refine zu ?_
    all_goals (apply z43; (simp only [seval, push_cast, *]; with_reducible rfl); (simp only [seval, push_cast, *]; with_reducible rfl); (simp only [seval, push_cast, *]; with_reducible rfl); all_goals (first | (simp only [seval, push_cast, *] <;> fail) | (simp only [seval, push_cast] <;> fail) | (rw [bL rfl] <;> (simp [*] <;> fail))))
   ·rintro ex ρ' H' ⟨J76, rfl, rfl, q16_o75⟩ hf
    have q1_o75 : ρ' 1 = .list (rules.map (V.int .i64)) := (hf 1 rfl).trans (sl)
    clear hf
    obtain rfl := someE hR
    refine zu ?_
    all_goals (apply z43; (simp only [seval, push_cast, *]; with_reducible rfl); (simp only [seval, push_cast, *]; with_reducible rfl); (simp only [seval, push_cast, *]; with_reducible rfl); all_goals (first | (simp only [seval, push_cast, *] <;> fail) | (simp only [seval, push_cast] <;> fail) | (rw [bL rfl] <;> (simp [*] <;> fail))))
end
end Go.E
namespace Go.E
open Go.Proofs
set_option maxRecDepth 100000
set_option maxHeartbeats 4000000
theorem or19 {k : Nat} (h : k < 19) : k = 0 ∨ k = 1 ∨ k = 2 ∨ k = 3 ∨ k = 4 ∨ k = 5 ∨ k = 6 ∨ k = 7 ∨ k = 8 ∨ k = 9 ∨ k = 10 ∨ k = 11 ∨ k = 12 ∨ k = 13 ∨ k = 14 ∨ k = 15 ∨ k = 16 ∨ k = 17 ∨ k = 18 := by omega
theorem M9 : argC 0 = 0 := rfl
theorem Na : argC 1 = 0 := rfl
theorem Nb : argC 2 = 1 := rfl
theorem Nc : argC 3 = 2 := rfl
theorem Nd : argC 4 = 2 := rfl
theorem Nf : argC 5 = 2 := rfl
theorem Ng : argC 6 = 2 := rfl
theorem Nh : argC 7 = 2 := rfl
theorem Ni : argC 8 = 2 := rfl
theorem Nj : argC 9 = 2 := rfl
theorem HR : argC 10 = 2 := rfl
theorem HT : argC 11 = 2 := rfl
theorem HU : argC 12 = 3 := rfl
theorem HV : argC 13 = 2 := rfl
theorem HW : argC 14 = 1 := rfl
theorem HY : argC 15 = 1 := rfl
theorem HZ : argC 16 = 1 := rfl
theorem H5 : argC 17 = 2 := rfl
theorem H6 : argC 18 = 2 := rfl
attribute [push_cast] M9 Na Nb Nc Nd Nf Ng Nh Ni Nj HR HT HU HV HW HY HZ H5 H6
theorem wW (bs : List Nat) (H : Heap) (k : Nat) (n : Int) (h : k < 19) (hn : n = (k : Int)) : callw X bs 221 [.int .i64 n] H = some (.int .i64 (argC k : Nat), H) := by
 refine yw2 (rs := [.tmp 2]) (N := 14) (fn := Tryz.f221) Et Tryz.func221 ?_
 rcases or19 h with rfl | rfl | rfl | rfl | rfl | rfl | rfl | rfl | rfl | rfl | rfl | rfl | rfl | rfl | rfl | rfl | rfl | rfl | rfl
 all_goals clear h
 all_goals try (refine zs ?_; repeat' first | apply zs0 | apply zs2 | (intro hc; try have hq := dq hc))
end Go.E
namespace Go.E
open Go.Proofs
set_option maxRecDepth 100000
set_option maxHeartbeats 4000000
theorem Bb (bs : List Nat) (H : Heap) (x : Node) (nodes : List Node) (hl : x.args.length ≤ 1000000) (hargs : ∀ n ∈ x.args, 0 ≤ n ∧ n < nodes.length) :
  ∀ i ρ H', i ≤ x.args.length → (∃ ws, ws = widthsOf nodes (x.args.take i) ∧ H' = H ++ [.cells [.int .i64 x.op, .int .i64 x.width, .list (x.args.map (.int .i64)), .int .i64 x.value], .tok ws.length] ∧ ρ 0 = .list (nodes.map encNode) ∧ ρ 3 = .ptr H.length 0 ∧ ρ 5 = .tl (H.length + 1) (ws.map (.int .i64)) ∧ ρ 6 = .int .i64 i) →
   Lp X ⟨133, bs⟩ (loopAt Tryz.f222 0) ρ H' fun ex ρ' H' => H' = H ++ [.cells [.int .i64 x.op, .int .i64 x.width, .list (x.args.map (.int .i64)), .int .i64 x.value], .tok x.args.length] ∧ ex = .exit 0 ∧ ρ' 5 = .tl (H.length + 1) ((widthsOf nodes x.args).map (.int .i64)) := by
 refine dO ?_ ?_
 ·rintro i ρ H' hi ⟨ws, hws, rfl, h0, h3, h5, h6⟩
  have hget : x.args[i]? = some x.args[i] := by simp [hi]
  have hm := hargs x.args[i] (List.getElem_mem hi)
  have htk : x.args.take (i + 1) = x.args.take i ++ [x.args[i]] := by rw [List.take_add_one, hget]; rfl
  generalize x.args[i] = n at hget hm htk
  obtain ⟨m, rfl⟩ : ∃ m : Nat, n = m := ⟨n.toNat, by omega⟩
  have hlt : m < nodes.length := by omega
  have hget2 : nodes[m]? = some nodes[m] := by simp [hlt]
  have hsn := jv nodes (x.args.take i) m nodes[m] (by simp)
  generalize nodes[m] = y at hget2 hsn
  have hlen : ws.length = i := by rw [hws]; simp [widthsOf]; omega
  have hroom := pm ws.length (by omega)
  have hw := add1 i x.args.length hi hl
  rw [← hws, ← htk] at hsn
  replace hsn : Kp (widthsOf nodes (x.args.take (i + 1)) = ws ++ [y.width]) := ⟨hsn⟩
  clear htk hm hws hlen hargs
  conv => arg 3; whnf
  repeat' first
   | (refine yw0 (id := 8) oz5 ?_)
   | (refine yw0 (id := 15) oz38 ?_)
   | (refine yw0 (id := 19) oz39 ?_)
   | (refine yw0 (id := 21) oz52 ?_)
   | (refine yw0 (id := 23) oz20 ?_)
   | (refine yw0 (id := 25) oz2 ?_)
   | (refine yw0 (id := 28) oz5 ?_)
   | (refine yw0 (id := 29) oz5 ?_)
   | (refine zs ?_; repeat' first | apply zs0 | apply zs2 | (intro hc; try have hq := dq hc)) | fail
  exact ⟨ws ++ [y.width], hsn.out.symm, by simp, yw3, yw3, by simp [push_cast], yw3⟩
 ·rintro ρ H' ⟨ws, hws, rfl, h0, h3, h5, h6⟩
  rw [List.take_length] at hws
  have hlen : ws.length = x.args.length := by rw [hws]; simp [widthsOf]
  replace hws : Kp (ws = widthsOf nodes x.args) := ⟨hws⟩
  replace hlen : Kp (ws.length = x.args.length) := ⟨hlen⟩
  clear hargs
  conv => arg 3; whnf
  repeat' first
   | (refine yw0 (id := 8) oz5 ?_)
   | (refine yw0 (id := 15) oz38 ?_)
   | (refine yw0 (id := 19) oz39 ?_)
   | (refine yw0 (id := 21) oz52 ?_)
   | (refine yw0 (id := 23) oz20 ?_)
   | (refine yw0 (id := 25) oz2 ?_)
   | (refine yw0 (id := 28) oz5 ?_)
   | (refine yw0 (id := 29) oz5 ?_)
   | (refine zs ?_; repeat' first | apply zs0 | apply zs2 | (intro hc; try have hq := dq hc)) | fail
  exact ⟨by rw [hlen.out], rfl, by rw [← hws.out]; (simp only [seval, push_cast, *] <;> rfl)⟩
theorem len1 {l : List Int} (h : l.length = 1) : ∃ a, l = [a] := by match l, h with | [a], _ => exact ⟨a, rfl⟩
theorem len2 {l : List Int} (h : l.length = 2) : ∃ a b, l = [a, b] := by match l, h with | [a, b], _ => exact ⟨a, b, rfl⟩
theorem len3 {l : List Int} (h : l.length = 3) : ∃ a b c, l = [a, b, c] := by match l, h with | [a, b, c], _ => exact ⟨a, b, c, rfl⟩
theorem wX (bs : List Nat) (H : Heap) (x : Node) (nodes : List Node) (k : Nat) (hk : x.op = (k : Int)) (hk19 : k < 19) (hk2 : 2 ≤ k) (ha : x.args.length = argC k) (hargs : ∀ n ∈ x.args, 0 ≤ n ∧ n < nodes.length) : callw X bs 222 [.list (nodes.map encNode), encNode x] H = some (.bool (fitsS k x.width (widthsOf nodes x.args) x.value), H) := by
 refine yw2 (rs := [.tmp 4]) (N := 133) (fn := Tryz.f222) Eu Tryz.func222 ?_
 have hloop := fun bs ρ => Bb bs H x nodes (by rw [ha]; have := Ga k; omega) hargs 0 ρ
 have hwl : (widthsOf nodes x.args).length = argC k := by simpa [widthsOf] using ha
 generalize hg : widthsOf nodes x.args = ws at hwl
 rw [hg] at hloop
 rw [hk] at hloop
 clear hargs ha
 rcases or19 hk19 with rfl | rfl | rfl | rfl | rfl | rfl | rfl | rfl | rfl | rfl | rfl | rfl | rfl | rfl | rfl | rfl | rfl | rfl | rfl
 all_goals try (exfalso; omega)
 all_goals clear hk19 hk2
 repeat' first
  | (refine yw0 (id := 8) oz5 ?_)
  | (refine yw0 (id := 15) oz38 ?_)
  | (refine yw0 (id := 19) oz39 ?_)
  | (refine yw0 (id := 21) oz52 ?_)
  | (refine yw0 (id := 23) oz20 ?_)
  | (refine yw0 (id := 25) oz2 ?_)
  | (refine yw0 (id := 28) oz5 ?_)
  | (refine yw0 (id := 29) oz5 ?_)
  | (refine zs ?_; repeat' first | apply zs0 | apply zs2 | (intro hc; try have hq := dq hc)) | fail
 all_goals refine ab (af (c := loopAt Tryz.f222 0) rfl (hloop _ _ _ (by omega) ⟨[], rfl, rfl, yw3, yw3, yw3, yw3⟩)) ?_
 all_goals clear hloop
 all_goals rintro ex ρ' H' ⟨rfl, rfl, h5⟩ hf
 all_goals have f3 := hf 3 rfl
 all_goals simp only [seval, push_cast] at f3
 all_goals clear hf hg
 all_goals first | (obtain ⟨w0, rfl⟩ := len1 hwl) | (obtain ⟨w0, w1, rfl⟩ := len2 hwl) | (obtain ⟨w0, w1, w2, rfl⟩ := len3 hwl)
 all_goals clear hwl
 all_goals simp only [fitsS, at0, List.getD_cons_zero, List.getD_cons_succ, List.any_cons, List.any_nil, Bool.or_false]
 all_goals try clear hk
 repeat' first
  | (refine yw0 (id := 8) oz5 ?_)
  | (refine yw0 (id := 15) oz38 ?_)
  | (refine yw0 (id := 19) oz39 ?_)
  | (refine yw0 (id := 21) oz52 ?_)
  | (refine yw0 (id := 23) oz20 ?_)
  | (refine yw0 (id := 25) oz2 ?_)
  | (refine yw0 (id := 28) oz5 ?_)
  | (refine yw0 (id := 29) oz5 ?_)
  | (refine zs ?_; repeat' first | apply zs0 | apply zs2 | (intro hc; try have hq := dq hc)) | fail
end Go.E
namespace Go.E
open Go.Proofs
set_option maxRecDepth 100000
set_option maxHeartbeats 4000000
def oddP (i : Nat) (n : Int) : Bool := !(decide (0 ≤ n) && decide (n ≤ (i : Int) - 1))
theorem H7 (bs : List Nat) (H : Heap) (x : Node) (i : Nat) (hl : x.args.length ≤ 1000000) (hi : i ≤ 1000000) (R : Bool) :
  ∀ j ρ H', j ≤ x.args.length → (H' = H ++ [.cells [.int .i64 x.op, .int .i64 x.width, .list (x.args.map (.int .i64)), .int .i64 x.value]] ∧ ρ 2 = .int .i64 i ∧ ρ 7 = .ptr H.length 0 ∧ ρ 8 = .int .i64 j ∧ Kp ((x.args.drop j).any (oddP i) = R)) →
   Lp X ⟨84, bs⟩ (loopAt Tryz.f178 0) ρ H' fun ex ρ' H' => H' = H ++ [.cells [.int .i64 x.op, .int .i64 x.width, .list (x.args.map (.int .i64)), .int .i64 x.value]] ∧ ((ex = .exit 0 ∧ R = false) ∨ (ex = .ret ∧ ρ' 6 = .int .i64 9 ∧ R = true)) := by
 have hi1 := sub1 i hi
 refine dO ?_ ?_
 ·rintro j ρ H' hj ⟨rfl, h2, h7, h8, hR⟩
  have hget : x.args[j]? = some x.args[j] := by simp [hj]
  generalize x.args[j] = n at hget
  have hw := add1 j x.args.length hj hl
  replace hR := hR.out
  rw [gq hget, List.any_cons] at hR
  replace hR : Kp ((oddP i n || (x.args.drop (j + 1)).any (oddP i)) = R) := ⟨hR⟩
  conv => arg 3; whnf
  repeat' first
   | (refine yw1 (id := 6) oz5 oz15 ?_)
   | (refine yw0 (id := 23) oz0 ?_)
   | (refine zs ?_; repeat' first | apply zs0 | apply zs2 | (intro hc; try have hq := dq hc)) | fail
  all_goals replace hR := hR.out
  all_goals unfold oddP at hR
  ·rw [hc] at hR
   exact ⟨rfl, .inr ⟨rfl, yw3, by rw [← hR]; rfl⟩⟩
  ·rw [hc] at hR
   exact ⟨rfl, yw3, yw3, yw3, ⟨by rw [← hR]; rfl⟩⟩
 ·rintro ρ H' ⟨rfl, h2, h7, h8, hR⟩
  replace hR := hR.out
  rw [List.drop_length, List.any_nil] at hR
  replace hR : Kp (false = R) := ⟨hR⟩
  conv => arg 3; whnf
  repeat' first
   | (refine yw1 (id := 6) oz5 oz15 ?_)
   | (refine yw0 (id := 23) oz0 ?_)
   | (refine zs ?_; repeat' first | apply zs0 | apply zs2 | (intro hc; try have hq := dq hc)) | fail
  exact ⟨rfl, .inl ⟨rfl, hR.out.symm⟩⟩
theorem zG (bs : List Nat) (H : Heap) (leaves : List Int) (nodes : List Node) (i : Nat) (x : Node) (hx : nodes[i]? = some x) (hl : leaves.length ≤ 1000000) (hn : nodes.length ≤ 1000000) (hal : x.args.length ≤ 1000000) : callw X bs 178 [.list (leaves.map (.int .i64)), .list (nodes.map encNode), .int .i64 i] H = some (.int .i64 (nodeErrS leaves nodes i x), H) := by
 refine yw2 (rs := [.tmp 6]) (N := 84) (fn := Tryz.f178) DP Tryz.func178 ?_
 have hi : i < nodes.length := (List.getElem?_eq_some_iff.1 hx).1
 unfold nodeErrS
 by_cases hop : 0 ≤ x.op ∧ x.op ≤ 18
 case neg =>
  have hb : (decide (0 ≤ x.op) && decide (x.op ≤ 18)) = false := by rw [Bool.and_eq_false_iff, decide_eq_false_iff_not, decide_eq_false_iff_not]; omega
  rw [if_pos hop]
  clear hop
  repeat' first
   | (refine yw1 (id := 6) oz5 oz15 ?_)
   | (refine yw0 (id := 23) oz0 ?_)
   | (refine zs ?_; repeat' first | apply zs0 | apply zs2 | (intro hc; try have hq := dq hc)) | fail
 rw [if_neg (by simpa using hop)]
 obtain ⟨k, hk⟩ : ∃ k : Nat, x.op = k := ⟨x.op.toNat, by omega⟩
 have hk19 : k < 19 := by omega
 have hk18 : (k : Int) ≤ 18 := by omega
 rw [hk, Int.toNat_natCast]
 have hac := fun bs H => wW bs H k x.op hk19 hk
 rw [hk] at hac
 cases hw : isW x.width with
 | false =>
  rw [if_pos rfl]
  unfold isW at hw
  clear hop
  repeat' first
   | (refine yw1 (id := 6) oz5 oz15 ?_)
   | (refine yw0 (id := 23) oz0 ?_)
   | (refine zs ?_; repeat' first | apply zs0 | apply zs2 | (intro hc; try have hq := dq hc)) | fail
 | true =>
 rw [if_neg (by simp)]
 have hw0 : 0 ≤ x.width := by simp only [isW, Bool.and_eq_true, decide_eq_true_eq] at hw; omega
 unfold isW at hw
 by_cases hlen : x.args.length = argC k
 case neg =>
  have dl : ¬ ((x.args.length : Int) = ((argC k : Nat) : Int)) := by omega
  rw [if_pos hlen]
  clear hop hlen
  repeat' first
   | (refine yw1 (id := 6) oz5 oz15 ?_)
   | (refine yw0 (id := 23) oz0 ?_)
   | (refine zs ?_; repeat' first | apply zs0 | apply zs2 | (intro hc; try have hq := dq hc)) | fail
 rw [if_neg (by simpa using hlen)]
 have dl : (x.args.length : Int) = ((argC k : Nat) : Int) := by omega
 have hloop := fun bs ρ => H7 bs H x i hal (by omega) (x.args.any (oddP i)) 0 ρ
 rw [hk] at hloop
 have hodd : x.args.any (fun n => !(decide (0 ≤ n) && decide (n ≤ (i : Int) - 1))) = x.args.any (oddP i) := rfl
 rw [hodd]
 have dl2 : Kp ((x.args.length : Int) = ((argC k : Nat) : Int)) := ⟨dl⟩
 have dl3 : decide ((x.args.length : Int) = ((argC k : Nat) : Int)) = true := decide_eq_true dl
 clear hop hodd dl
 repeat' first
  | (refine yw1 (id := 6) oz5 oz15 ?_)
  | (refine yw0 (id := 23) oz0 ?_)
  | (refine zs ?_; repeat' first | apply zs0 | apply zs2 | (intro hc; try have hq := dq hc)) | fail
 refine ab (af (c := loopAt Tryz.f178 0) rfl (hloop _ _ _ (by omega) ⟨rfl, yw3, yw3, yw3, ⟨rfl⟩⟩)) ?_
 clear hloop
 rintro ex ρ' H' ⟨rfl, ⟨rfl, ho⟩ | ⟨rfl, h6, ho⟩⟩ hf
 case inr =>
  rw [ho, if_pos rfl]
  repeat' first
   | (refine yw1 (id := 6) oz5 oz15 ?_)
   | (refine yw0 (id := 23) oz0 ?_)
   | (refine zs ?_; repeat' first | apply zs0 | apply zs2 | (intro hc; try have hq := dq hc)) | fail
 rw [ho, if_neg (by simp)]
 have f7 := hf 7 rfl
 have f0 := hf 0 rfl
 have f1 := hf 1 rfl
 simp only [seval, push_cast] at f7 f0 f1
 clear hf
 have hargs : ∀ n ∈ x.args, 0 ≤ n ∧ n < nodes.length := fun n hnm => by
  rw [List.any_eq_false] at ho
  have := ho n hnm
  simp only [oddP, Bool.not_eq_true', Bool.and_eq_false_iff, decide_eq_false_iff_not, not_or, Decidable.not_not] at this
  omega
 have hlen : x.args.length = argC k := by have := dl2.out; omega
 have hwf := fun bs H (h2 : 2 ≤ k) => wX bs H x nodes k hk hk19 h2 hlen hargs
 have hfits := fun bs H => tZ bs H x.value x.width hw0
 simp only [encNode, encInts, hk] at hwf
 clear hargs ho hlen hac dl3
 by_cases h0 : k = 0
 ·subst h0
  have hG : fitsG x.value x.width = fitsN x.value x.width := by unfold fitsG fitsN; rw [decide_eq_true hw0]; rfl
  simp only [valueErrS, if_true, hG, fitsS]
  clear hwf hG
  cases hv : fitsN x.value x.width
  ·simp only [Bool.false_eq_true, if_false]
   repeat' first
    | (refine yw1 (id := 6) oz5 oz15 ?_)
    | (refine yw0 (id := 23) oz0 ?_)
    | (refine zs ?_; repeat' first | apply zs0 | apply zs2 | (intro hc; try have hq := dq hc)) | fail
  ·simp only [if_true]
   repeat' first
    | (refine yw1 (id := 6) oz5 oz15 ?_)
    | (refine yw0 (id := 23) oz0 ?_)
    | (refine zs ?_; repeat' first | apply zs0 | apply zs2 | (intro hc; try have hq := dq hc)) | fail
 have d0 : decide ((k : Int) = 0) = false := nat0 k 0 h0
 by_cases h1 : k = 1
 ·subst h1
  have hw := sub1 leaves.length hl
  clear hwf hfits
  simp only [valueErrS, if_true, if_neg h0, fitsS]
  by_cases hv : 0 ≤ x.value ∧ x.value < leaves.length
  ·obtain ⟨v, hvv⟩ : ∃ v : Nat, x.value = v := ⟨x.value.toNat, by omega⟩
   have hlt : v < leaves.length := by omega
   have hget : leaves[v]? = some leaves[v] := by simp [hlt]
   have hat : at0 leaves v = leaves[v] := by simp [at0, List.getD, hget]
   rw [if_pos hv, hvv, Int.toNat_natCast, hat]
   have hb : (decide (0 ≤ (v : Int)) && decide ((v : Int) ≤ (leaves.length : Int) - 1)) = true := by rw [Bool.and_eq_true, decide_eq_true_eq, decide_eq_true_eq]; omega
   have hle : (v : Int) ≤ (leaves.length : Int) - 1 := by omega
   clear hv hat
   generalize leaves[v] = y at hget
   by_cases hy : y = x.width
   ·rw [if_pos hy]
    repeat' first
     | (refine yw1 (id := 6) oz5 oz15 ?_)
     | (refine yw0 (id := 23) oz0 ?_)
     | (refine zs ?_; repeat' first | apply zs0 | apply zs2 | (intro hc; try have hq := dq hc)) | fail
   ·rw [if_neg hy]
    repeat' first
     | (refine yw1 (id := 6) oz5 oz15 ?_)
     | (refine yw0 (id := 23) oz0 ?_)
     | (refine zs ?_; repeat' first | apply zs0 | apply zs2 | (intro hc; try have hq := dq hc)) | fail
  ·have hb : (decide (0 ≤ x.value) && decide (x.value ≤ (leaves.length : Int) - 1)) = false := by
    rw [Bool.and_eq_false_iff, decide_eq_false_iff_not, decide_eq_false_iff_not]; omega
   rw [if_neg hv]
   clear hv
   repeat' first
    | (refine yw1 (id := 6) oz5 oz15 ?_)
    | (refine yw0 (id := 23) oz0 ?_)
    | (refine zs ?_; repeat' first | apply zs0 | apply zs2 | (intro hc; try have hq := dq hc)) | fail
 have d1 : decide ((k : Int) = 1) = false := nat0 k 1 h1
 replace hwf := fun bs H => hwf bs H (by omega)
 clear hfits
 generalize hg : fitsS k x.width (widthsOf nodes x.args) x.value = fb at hwf
 by_cases h2 : k = 14
 ·subst h2
  clear hg
  have e14 : ((14 : Nat) : Int) = 14 := rfl
  rw [e14] at hwf
  simp only [valueErrS, if_true, if_neg h0, if_neg h1]
  cases hv : (decide (0 ≤ x.value) && decide (x.value ≤ 15))
  ·simp only [Bool.false_eq_true, if_false]
   repeat' first
    | (refine yw1 (id := 6) oz5 oz15 ?_)
    | (refine yw0 (id := 23) oz0 ?_)
    | (refine zs ?_; repeat' first | apply zs0 | apply zs2 | (intro hc; try have hq := dq hc)) | fail
  ·simp only [if_true]
   cases fb
   ·repeat' first
     | (refine yw1 (id := 6) oz5 oz15 ?_)
     | (refine yw0 (id := 23) oz0 ?_)
     | (refine zs ?_; repeat' first | apply zs0 | apply zs2 | (intro hc; try have hq := dq hc)) | fail
   ·repeat' first
     | (refine yw1 (id := 6) oz5 oz15 ?_)
     | (refine yw0 (id := 23) oz0 ?_)
     | (refine zs ?_; repeat' first | apply zs0 | apply zs2 | (intro hc; try have hq := dq hc)) | fail
 have d2 : decide ((k : Int) = 14) = false := nat0 k 14 h2
 have hhv : hasV k = false := by
  rcases or19 hk19 with rfl | rfl | rfl | rfl | rfl | rfl | rfl | rfl | rfl | rfl | rfl | rfl | rfl | rfl | rfl | rfl | rfl | rfl | rfl <;> first | rfl | (exfalso; omega)
 simp only [valueErrS, if_neg h0, if_neg h1, if_neg h2, hhv]
 clear h0 h1 h2 hg
 by_cases hv : x.value = 0
 ·rw [hv] at hwf
  cases fb
  ·repeat' first
    | (refine yw1 (id := 6) oz5 oz15 ?_)
    | (refine yw0 (id := 23) oz0 ?_)
    | (refine zs ?_; repeat' first | apply zs0 | apply zs2 | (intro hc; try have hq := dq hc)) | fail
  ·repeat' first
    | (refine yw1 (id := 6) oz5 oz15 ?_)
    | (refine yw0 (id := 23) oz0 ?_)
    | (refine zs ?_; repeat' first | apply zs0 | apply zs2 | (intro hc; try have hq := dq hc)) | fail
 ·cases fb
  ·repeat' first
    | (refine yw1 (id := 6) oz5 oz15 ?_)
    | (refine yw0 (id := 23) oz0 ?_)
    | (refine zs ?_; repeat' first | apply zs0 | apply zs2 | (intro hc; try have hq := dq hc)) | fail
  ·repeat' first
    | (refine yw1 (id := 6) oz5 oz15 ?_)
    | (refine yw0 (id := 23) oz0 ?_)
    | (refine zs ?_; repeat' first | apply zs0 | apply zs2 | (intro hc; try have hq := dq hc)) | fail
end Go.E
namespace Go.E
open Go.Proofs
set_option maxRecDepth 100000
set_option maxHeartbeats 4000000
theorem xW (bs : List Nat) (H : Heap) (leaves : List Int) (nodes : List Node) (hl : leaves.length ≤ 1000000) (hn : nodes.length ≤ 1000000) (hal : ∀ x ∈ nodes, x.args.length ≤ 1000000) : callw X bs 128 [.list (leaves.map (.int .i64)), .list (nodes.map encNode)] H = some (.tuple [.int .i64 (nodesErrR leaves nodes).1, .int .i64 (nodesErrR leaves nodes).2], H) := by
 refine yw2 (rs := [.tmp 4, .tmp 5]) (N := 25) (fn := Tryz.f128) Db Tryz.func128 ?_
 have key : ∀ (R : Int × Int) (bs : List Nat) i ρ H', i ≤ nodes.length → (H' = H ∧ ρ 0 = .list (leaves.map (.int .i64)) ∧ ρ 1 = .list (nodes.map encNode) ∧ ρ 6 = .int .i64 i ∧ Kp (eachP (nodeErrS leaves nodes) i (nodes.drop i) = R)) →
   Lp X ⟨25, bs⟩ (loopAt Tryz.f128 0) ρ H' fun ex ρ' H' => H' = H ∧ ((ex = .exit 0 ∧ R = (0, 0)) ∨ (ex = .ret ∧ ρ' 4 = .int .i64 R.1 ∧ ρ' 5 = .int .i64 R.2)) := by
  intro R bs
  refine dO ?_ ?_
  ·rintro i ρ H' hi ⟨rfl, h0, h1, h6, hR⟩
   have hget : nodes[i]? = some nodes[i] := by simp [hi]
   have hne := fun bs H => zG bs H leaves nodes i nodes[i] hget hl hn (hal _ (List.getElem_mem hi))
   have hw := add1 i nodes.length hi hn
   replace hR := hR.out
   rw [gq hget, eachP] at hR
   generalize nodeErrS leaves nodes i nodes[i] = e at hne hR
   replace hR : Kp ((if e ≠ 0 then ((i : Int), e) else eachP (nodeErrS leaves nodes) (i + 1) (nodes.drop (i + 1))) = R) := ⟨hR⟩
   clear hget hal
   conv => arg 3; whnf
   all_goals try (refine zs ?_; repeat' first | apply zs0 | apply zs2 | (intro hc; try have hq := dq hc))
   ·have hc : e ≠ 0 := by simpa using hc
    rw [← hR.out, if_pos hc]
    exact ⟨rfl, .inr ⟨rfl, yw3, yw3⟩⟩
   ·have hc : e = 0 := by simpa using hc
    exact ⟨rfl, yw3, yw3, yw3, ⟨by rw [← hR.out, if_neg (by simp [hc])]⟩⟩
  ·rintro ρ H' ⟨rfl, h0, h1, h6, hR⟩
   replace hR := hR.out
   rw [List.drop_length, eachP] at hR
   replace hR : Kp ((0, 0) = R) := ⟨hR⟩
   clear hal
   conv => arg 3; whnf
   all_goals try (refine zs ?_; repeat' first | apply zs0 | apply zs2 | (intro hc; try have hq := dq hc))
   exact ⟨rfl, .inl ⟨rfl, hR.out.symm⟩⟩
 clear hal
 unfold nodesErrR
 by_cases h : 400 < nodes.length
 ·rw [if_pos h]
  have d : (400 : Int) < nodes.length := by omega
  clear key
  all_goals try (refine zs ?_; repeat' first | apply zs0 | apply zs2 | (intro hc; try have hq := dq hc))
 rw [if_neg h]
 have d : decide ((400 : Int) < nodes.length) = false := decide_eq_false (by omega)
 all_goals try (refine zs ?_; repeat' first | apply zs0 | apply zs2 | (intro hc; try have hq := dq hc))
 refine ab (af (c := loopAt Tryz.f128 0) rfl (key (eachP (nodeErrS leaves nodes) 0 nodes) _ 0 _ _ (by omega) ⟨rfl, yw3, yw3, yw3, ⟨rfl⟩⟩)) ?_
 clear key
 rintro ex ρ' H' ⟨rfl, ⟨rfl, h2⟩ | ⟨rfl, h2, h3⟩⟩ -
 ·rw [h2]
  all_goals try (refine zs ?_; repeat' first | apply zs0 | apply zs2 | (intro hc; try have hq := dq hc))
 ·all_goals try (refine zs ?_; repeat' first | apply zs0 | apply zs2 | (intro hc; try have hq := dq hc))
end Go.E
namespace Go.E
open Go.Proofs Classical
set_option maxRecDepth 100000
set_option maxHeartbeats 400000
noncomputable section
def dN (F : Nat) (n : Int) : Option (Bool) := some (decide ((1 : Int) ≤ n) && decide (n ≤ 16))
theorem lP (bs : List Nat) (H : Heap) (F : Nat) (n : Int) (R : Bool) (hR0 : dN F n = some R) : callw X bs 176 [.int .i64 n] H = some (.bool R, H) := by
 refine yw2 (rs := [.tmp 2]) (N := 5) (fn := Tryz.f176) zg Tryz.func176 ?_
 have hR := Kp.mk hR0
 clear hR0
 rw [dN] at hR
 obtain rfl := someE hR
 exact zv
def bG (F : Nat) (l : List Port) (s2 : Nat) : Nat → Nat → Option (Oc (Nat) (Unit))
 | 0, _ => none
 | k + 1, s8 => (if (decide ((s8 : Int) < (s2 : Int))) = true then ((l[s8]?).bind fun x11 => ((l[s2]?).bind fun x12 => (if (decide (x11.name = x12.name)) = true then some (.a s2) else (if inI ((s8 : Int) + 1) then bG F l s2 k (s8 + 1) else none)))) else some (.b ()))
theorem oI (bs : List Nat) (H : Heap) (F : Nat) (l : List Port) (s2 : Nat) : ∀ k s r ρ H', (∃ J9, H' = H ++ J9 ∧ ρ 0 = .list (l.map encPort) ∧ ρ 4 = .int .i64 (s2 : Int) ∧ ρ 5 = .int .i64 (s : Int)) → bG F l s2 k s = some r → Lp X ⟨48, H.length :: bs⟩ (loopAt Tryz.f126 1) ρ H' ((fun r ex ρ H' => match r with | .a r => ∃ J9, H' = H ++ J9 ∧ ex = .ret ∧ ρ 2 = .int .i64 (r : Int) ∧ ρ 3 = .int .i64 5 | .b r => ∃ J9, H' = H ++ J9 ∧ ex = .exit 2) r) := by
 refine ae (fun _ => rfl) ?_
 rintro k s8 r ρ H' ⟨J9, hH, h0, h4, h5⟩ hR
 skip
 subst hH
 rw [bG] at hR
 conv => arg 3; whnf
 try refine zw ?_
 rcases iteE hR with ⟨c10, hR⟩ | ⟨c10, hR⟩
 ·obtain ⟨x11, x11_e, hR⟩ := bindE hR
  obtain ⟨x12, x12_e, hR⟩ := bindE hR
  try refine zu ?_
  (refine yw0 (id := 11) oz20 ?_)
  try refine zw ?_
  rcases iteE hR with ⟨c13, hR⟩ | ⟨c13, hR⟩
  ·obtain rfl := someE hR
   refine zu ?_
   exact ⟨_, hq, rfl, sl, sl⟩
  ·obtain ⟨g14, hR⟩ := grdE hR
   have g14_w := ac g14
   refine zu ?_
   exact ⟨(s8 + 1), ⟨_, hq, sl, sl, sl⟩, hR.out⟩
 ·obtain rfl := someE hR
  refine zu ?_
  exact ⟨_, hq, rfl⟩
def bH (F : Nat) (l : List Port) : Nat → Nat → Option (Oc (Nat × Nat) (Unit))
 | 0, _ => none
 | k + 1, s2 => (if (decide ((s2 : Int) < (l.length : Int))) = true then ((l[s2]?).bind fun x5 => (if x5.name.size ≤ 1000000 then (if (isNameS x5.name) = true then ((bG F l s2 F 0).bind fun o15 => match o15 with | .a o16 => some (.a (o16, 5)) | .b o18 => ((dN F x5.width).bind fun y21 => (if y21 = true then (if inI ((s2 : Int) + 1) then bH F l k (s2 + 1) else none) else some (.a (s2, 2))))) else some (.a (s2, 4))) else none)) else some (.b ()))
theorem oJ (bs : List Nat) (H : Heap) (F : Nat) (l : List Port) : ∀ k s r ρ H', (∃ J3, H' = H ++ J3 ∧ ρ 0 = .list (l.map encPort) ∧ ρ 4 = .int .i64 (s : Int)) → bH F l k s = some r → Lp X ⟨48, H.length :: bs⟩ (loopAt Tryz.f126 0) ρ H' ((fun r ex ρ H' => match r with | .a r => ∃ J3, H' = H ++ J3 ∧ ex = .ret ∧ ρ 2 = .int .i64 (r.1 : Int) ∧ ρ 3 = .int .i64 (r.2 : Int) | .b r => ∃ J3, H' = H ++ J3 ∧ ex = .exit 0) r) := by
 refine ae (fun _ => rfl) ?_
 rintro k s2 r ρ H' ⟨J3, hH, h0, h4⟩ hR
 skip
 subst hH
 rw [bH] at hR
 conv => arg 3; whnf
 try refine zw ?_
 rcases iteE hR with ⟨c4, hR⟩ | ⟨c4, hR⟩
 ·obtain ⟨x5, x5_e, hR⟩ := bindE hR
  obtain ⟨g6, hR⟩ := grdE hR
  have g6_k := fun bs H => ld bs H x5.name g6
  try refine zw ?_
  clear g6_k
  rcases iteE hR with ⟨c7, hR⟩ | ⟨c7, hR⟩
  ·obtain ⟨o15, o15_e, hR⟩ := bindE hR
   refine zu ?_
   refine ab (af (c := (loopAt Tryz.f126 1)) rfl (oI _ H F l s2 _ 0 o15 _ _ ⟨_, hq, sl, sl, sl⟩ o15_e)) ?_
   rcases o15 with o16 | o18
   ·rintro ex ρ' H' ⟨J17, rfl, rfl, q2_o16, q3_o16⟩ hf
    clear hf
    obtain rfl := someE hR
    refine zu ?_
    exact ⟨_, hq, rfl, sl, sl⟩
   ·rintro ex ρ' H' ⟨J19, rfl, rfl⟩ hf
    have q0_o18 : ρ' 0 = .list (l.map encPort) := (hf 0 rfl).trans (sl)
    have q4_o18 : ρ' 4 = .int .i64 (s2 : Int) := (hf 4 rfl).trans (sl)
    clear hf
    obtain ⟨y21, y21_e, hR⟩ := bindE hR
    have y21_k := fun bs H => lP bs H F x5.width y21 y21_e
    try refine zw ?_
    clear y21_k
    rcases iteE hR with ⟨c22, hR⟩ | ⟨c22, hR⟩
    ·obtain ⟨g23, hR⟩ := grdE hR
     have g23_w := ac g23
     refine zu ?_
     exact ⟨(s2 + 1), ⟨_, hq, sl, sl⟩, hR.out⟩
    ·obtain rfl := someE hR
     refine zu ?_
     exact ⟨_, hq, rfl, sl, sl⟩
  ·obtain rfl := someE hR
   refine zu ?_
   exact ⟨_, hq, rfl, sl, sl⟩
 ·obtain rfl := someE hR
  refine zu ?_
  exact ⟨_, hq, rfl⟩
def cX (F : Nat) (l : List Port) : List Port → Nat → Unit → Option (Oc (Nat × Nat) (Unit))
 | [], s2, _ => some (.b ())
 | x_ :: r_, s2, _ => (if x_.name.size ≤ 1000000 then (if (isNameS x_.name) = true then ((bG F l s2 F 0).bind fun o15 => match o15 with | .a o16 => some (.a (o16, 5)) | .b o18 => ((dN F x_.width).bind fun y21 => (if y21 = true then cX F l r_ (s2 + 1) () else some (.a (s2, 2))))) else some (.a (s2, 4))) else none)
theorem jl (F : Nat) (l : List Port) (hl_ : l.length ≤ 1000000) : ∀ r_ i_ k_ (o_ : Unit), l.drop i_ = r_ → r_.length < k_ → bH F l k_ i_ = cX F l r_ i_ o_
 | _, _, 0, _, _, hk => absurd hk (Nat.not_lt_zero _)
 | [], i_, k_ + 1, _, hd, _ => by rw [bH, cX]; simp only [ai hd, Bool.false_eq_true, if_false]
 | x_ :: r_, i_, k_ + 1, _, hd, hk => by
  have ih := jl F l hl_ r_ (i_ + 1) k_ () (ah hd) (Nat.lt_of_succ_lt_succ hk)
  rw [bH, cX]; simp only [aq hd, ak hd, if_pos (av hd hl_), Option.bind_some, if_true, ih]
def fc (F : Nat) (l : List Port) : Option (Int × Int) := (if (decide ((12 : Int) < (l.length : Int))) = true then some (0, 8) else ((bH F l F 0).bind fun o24 => match o24 with | .a o25 => some ((o25.1 : Int), (o25.2 : Int)) | .b o27 => some (0, 0)))
theorem qM (bs : List Nat) (H : Heap) (F : Nat) (l : List Port) (R : Int × Int) (hR0 : fc F l = some R) : callw X bs 126 [.list (l.map encPort)] H = some (.tuple [.int .i64 R.1, .int .i64 R.2], H) := by
 refine yw2 (rs := [.tmp 2, .tmp 3]) (N := 48) (fn := Tryz.f126) C9 Tryz.func126 ?_
 have hR := Kp.mk hR0
 clear hR0
 rw [fc] at hR
 try refine zw ?_
 rcases iteE hR with ⟨c1, hR⟩ | ⟨c1, hR⟩
 ·obtain rfl := someE hR
  exact zv
 ·obtain ⟨o24, o24_e, hR⟩ := bindE hR
  refine zu ?_
  refine ab (af (c := (loopAt Tryz.f126 0)) rfl (oJ _ H F l _ 0 o24 _ _ ⟨[], by simp, sl, sl⟩ o24_e)) ?_
  rcases o24 with o25 | o27
  ·rintro ex ρ' H' ⟨J26, rfl, rfl, q2_o25, q3_o25⟩ hf
   clear hf
   obtain rfl := someE hR
   exact zv
  ·rintro ex ρ' H' ⟨J28, rfl, rfl⟩ hf
   clear hf
   obtain rfl := someE hR
   exact zv
def bd (F : Nat) (l : List Elem) (s3 : Nat) : Nat → Nat → Option (Oc (Nat) (Unit))
 | 0, _ => none
 | k + 1, s9 => (if (decide ((s9 : Int) < (s3 : Int))) = true then ((l[s9]?).bind fun x12 => ((l[s3]?).bind fun x13 => (if (decide (x12.name = x13.name)) = true then some (.a s3) else (if inI ((s9 : Int) + 1) then bd F l s3 k (s9 + 1) else none)))) else some (.b ()))
theorem nj (bs : List Nat) (H : Heap) (F : Nat) (inputs : List Port) (l : List Elem) (s3 : Nat) : ∀ k s r ρ H', (∃ J10, H' = H ++ J10 ∧ ρ 0 = .list (inputs.map encPort) ∧ ρ 1 = .list (l.map encElem) ∧ ρ 6 = .int .i64 (s3 : Int) ∧ ρ 7 = .int .i64 (s : Int)) → bd F l s3 k s = some r → Lp X ⟨103, H.length :: bs⟩ (loopAt Tryz.f127 1) ρ H' ((fun r ex ρ H' => match r with | .a r => ∃ J10, H' = H ++ J10 ∧ ex = .ret ∧ ρ 4 = .int .i64 (r : Int) ∧ ρ 5 = .int .i64 5 | .b r => ∃ J10, H' = H ++ J10 ∧ ex = .exit 2) r) := by
 refine ae (fun _ => rfl) ?_
 rintro k s9 r ρ H' ⟨J10, hH, h0, h1, h6, h7⟩ hR
 skip
 subst hH
 rw [bd] at hR
 conv => arg 3; whnf
 try refine zw ?_
 rcases iteE hR with ⟨c11, hR⟩ | ⟨c11, hR⟩
 ·obtain ⟨x12, x12_e, hR⟩ := bindE hR
  obtain ⟨x13, x13_e, hR⟩ := bindE hR
  try refine zu ?_
  (refine yw0 (id := 11) oz20 ?_)
  try refine zw ?_
  rcases iteE hR with ⟨c14, hR⟩ | ⟨c14, hR⟩
  ·obtain rfl := someE hR
   refine zu ?_
   exact ⟨_, hq, rfl, sl, sl⟩
  ·obtain ⟨g15, hR⟩ := grdE hR
   have g15_w := ac g15
   refine zu ?_
   exact ⟨(s9 + 1), ⟨_, hq, sl, sl, sl, sl⟩, hR.out⟩
 ·obtain rfl := someE hR
  refine zu ?_
  exact ⟨_, hq, rfl⟩
def be (F : Nat) (inputs : List Port) (l : List Elem) (s3 : Nat) : Nat → Nat → Option (Oc (Nat) (Unit))
 | 0, _ => none
 | k + 1, s21 => (if (decide ((s21 : Int) < (inputs.length : Int))) = true then ((inputs[s21]?).bind fun x24 => ((l[s3]?).bind fun x25 => (if (decide (x24.name = x25.name)) = true then some (.a s3) else (if inI ((s21 : Int) + 1) then be F inputs l s3 k (s21 + 1) else none)))) else some (.b ()))
theorem nk (bs : List Nat) (H : Heap) (F : Nat) (inputs : List Port) (l : List Elem) (s3 : Nat) : ∀ k s r ρ H', (∃ J22, H' = H ++ J22 ∧ ρ 0 = .list (inputs.map encPort) ∧ ρ 1 = .list (l.map encElem) ∧ ρ 6 = .int .i64 (s3 : Int) ∧ ρ 8 = .int .i64 (s : Int)) → be F inputs l s3 k s = some r → Lp X ⟨103, H.length :: bs⟩ (loopAt Tryz.f127 2) ρ H' ((fun r ex ρ H' => match r with | .a r => ∃ J22, H' = H ++ J22 ∧ ex = .ret ∧ ρ 4 = .int .i64 (r : Int) ∧ ρ 5 = .int .i64 5 | .b r => ∃ J22, H' = H ++ J22 ∧ ex = .exit 4) r) := by
 refine ae (fun _ => rfl) ?_
 rintro k s21 r ρ H' ⟨J22, hH, h0, h1, h6, h8⟩ hR
 skip
 subst hH
 rw [be] at hR
 conv => arg 3; whnf
 try refine zw ?_
 rcases iteE hR with ⟨c23, hR⟩ | ⟨c23, hR⟩
 ·obtain ⟨x24, x24_e, hR⟩ := bindE hR
  obtain ⟨x25, x25_e, hR⟩ := bindE hR
  try refine zu ?_
  (refine yw0 (id := 16) oz20 ?_)
  try refine zw ?_
  rcases iteE hR with ⟨c26, hR⟩ | ⟨c26, hR⟩
  ·obtain rfl := someE hR
   refine zu ?_
   exact ⟨_, hq, rfl, sl, sl⟩
  ·obtain ⟨g27, hR⟩ := grdE hR
   have g27_w := ac g27
   refine zu ?_
   exact ⟨(s21 + 1), ⟨_, hq, sl, sl, sl, sl⟩, hR.out⟩
 ·obtain rfl := someE hR
  refine zu ?_
  exact ⟨_, hq, rfl⟩
def bf (F : Nat) (inputs : List Port) (l : List Elem) : Nat → Nat → Option (Oc (Nat × Nat) (Unit))
 | 0, _ => none
 | k + 1, s3 => (if (decide ((s3 : Int) < (l.length : Int))) = true then ((l[s3]?).bind fun x6 => (if x6.name.size ≤ 1000000 then (if (isNameS x6.name) = true then ((bd F l s3 F 0).bind fun o16 => match o16 with | .a o17 => some (.a (o17, 5)) | .b o19 => ((be F inputs l s3 F 0).bind fun o28 => match o28 with | .a o29 => some (.a (o29, 5)) | .b o31 => (if (decide ((0 : Int) ≤ x6.kind) && decide (x6.kind ≤ 1)) = true then ((dN F x6.width).bind fun y36 => (if y36 = true then (if 0 ≤ x6.width then (if (fitsN x6.init x6.width) = true then (if (decide ((0 : Int) ≤ x6.clk) && decide (x6.clk ≤ 3)) = true then (if inI ((s3 : Int) + 1) then bf F inputs l k (s3 + 1) else none) else some (.a (s3, 2))) else some (.a (s3, 2))) else none) else some (.a (s3, 2)))) else some (.a (s3, 15))))) else some (.a (s3, 4))) else none)) else some (.b ()))
theorem nl (bs : List Nat) (H : Heap) (F : Nat) (inputs : List Port) (l : List Elem) : ∀ k s r ρ H', (∃ J4, H' = H ++ J4 ∧ ρ 0 = .list (inputs.map encPort) ∧ ρ 1 = .list (l.map encElem) ∧ ρ 6 = .int .i64 (s : Int)) → bf F inputs l k s = some r → Lp X ⟨103, H.length :: bs⟩ (loopAt Tryz.f127 0) ρ H' ((fun r ex ρ H' => match r with | .a r => ∃ J4, H' = H ++ J4 ∧ ex = .ret ∧ ρ 4 = .int .i64 (r.1 : Int) ∧ ρ 5 = .int .i64 (r.2 : Int) | .b r => ∃ J4, H' = H ++ J4 ∧ ex = .exit 0) r) := by
 refine ae (fun _ => rfl) ?_
 rintro k s3 r ρ H' ⟨J4, hH, h0, h1, h6⟩ hR
 skip
 subst hH
 rw [bf] at hR
 conv => arg 3; whnf
 try refine zw ?_
 rcases iteE hR with ⟨c5, hR⟩ | ⟨c5, hR⟩
 ·obtain ⟨x6, x6_e, hR⟩ := bindE hR
  obtain ⟨g7, hR⟩ := grdE hR
  have g7_k := fun bs H => ld bs H x6.name g7
  try refine zw ?_
  clear g7_k
  rcases iteE hR with ⟨c8, hR⟩ | ⟨c8, hR⟩
  ·obtain ⟨o16, o16_e, hR⟩ := bindE hR
   refine zu ?_
   refine ab (af (c := (loopAt Tryz.f127 1)) rfl (nj _ H F inputs l s3 _ 0 o16 _ _ ⟨_, hq, sl, sl, sl, sl⟩ o16_e)) ?_
   rcases o16 with o17 | o19
   ·rintro ex ρ' H' ⟨J18, rfl, rfl, q4_o17, q5_o17⟩ hf
    clear hf
    obtain rfl := someE hR
    refine zu ?_
    exact ⟨_, hq, rfl, sl, sl⟩
   ·rintro ex ρ' H' ⟨J20, rfl, rfl⟩ hf
    have q0_o19 : ρ' 0 = .list (inputs.map encPort) := (hf 0 rfl).trans (sl)
    have q1_o19 : ρ' 1 = .list (l.map encElem) := (hf 1 rfl).trans (sl)
    have q6_o19 : ρ' 6 = .int .i64 (s3 : Int) := (hf 6 rfl).trans (sl)
    clear hf
    obtain ⟨o28, o28_e, hR⟩ := bindE hR
    refine zu ?_
    refine ab (af (c := (loopAt Tryz.f127 2)) rfl (nk _ H F inputs l s3 _ 0 o28 _ _ ⟨_, hq, sl, sl, sl, sl⟩ o28_e)) ?_
    rcases o28 with o29 | o31
    ·rintro ex ρ' H' ⟨J30, rfl, rfl, q4_o29, q5_o29⟩ hf
     clear hf
     obtain rfl := someE hR
     refine zu ?_
     exact ⟨_, hq, rfl, sl, sl⟩
    ·rintro ex ρ' H' ⟨J32, rfl, rfl⟩ hf
     have q0_o31 : ρ' 0 = .list (inputs.map encPort) := (hf 0 rfl).trans (sl)
     have q1_o31 : ρ' 1 = .list (l.map encElem) := (hf 1 rfl).trans (sl)
     have q6_o31 : ρ' 6 = .int .i64 (s3 : Int) := (hf 6 rfl).trans (sl)
     clear hf
     try refine zw ?_
     rcases iteE hR with ⟨c34, hR⟩ | ⟨c34, hR⟩
     ·obtain ⟨c34_1, c34_2⟩ := ed c34
      obtain ⟨y36, y36_e, hR⟩ := bindE hR
      have y36_k := fun bs H => lP bs H F x6.width y36 y36_e
      try refine zu ?_
      (refine yw0 (id := 20) [0, 1, 2, 3, 4, 5, 6, 7, 8, 9, 10, 11, 12, 13, 14, 15, 16, 17, 18, 19, 20, 21, 22, 23, 24, 25, 26, 27, 28, 29] ?_)
      try refine zw ?_
      clear y36_k
      rcases iteE hR with ⟨c37, hR⟩ | ⟨c37, hR⟩
      ·obtain ⟨g40, hR⟩ := grdE hR
       have k41_k := fun bs H => tZ bs H x6.init x6.width g40
       try refine zw ?_
       clear k41_k
       rcases iteE hR with ⟨c42, hR⟩ | ⟨c42, hR⟩
       ·try refine zw ?_
        rcases iteE hR with ⟨c44, hR⟩ | ⟨c44, hR⟩
        ·obtain ⟨c44_1, c44_2⟩ := ed c44
         obtain ⟨g45, hR⟩ := grdE hR
         have g45_w := ac g45
         refine zu ?_
         exact ⟨(s3 + 1), ⟨_, hq, sl, sl, sl⟩, hR.out⟩
        ·obtain rfl := someE hR
         refine zu ?_
         exact ⟨_, hq, rfl, sl, sl⟩
       ·obtain rfl := someE hR
        refine zu ?_
        exact ⟨_, hq, rfl, sl, sl⟩
      ·obtain rfl := someE hR
       refine zu ?_
       exact ⟨_, hq, rfl, sl, sl⟩
     ·obtain rfl := someE hR
      refine zu ?_
      exact ⟨_, hq, rfl, sl, sl⟩
  ·obtain rfl := someE hR
   refine zu ?_
   exact ⟨_, hq, rfl, sl, sl⟩
 ·obtain rfl := someE hR
  refine zu ?_
  exact ⟨_, hq, rfl⟩
def bS (F : Nat) (inputs : List Port) (l : List Elem) : List Elem → Nat → Unit → Option (Oc (Nat × Nat) (Unit))
 | [], s3, _ => some (.b ())
 | x_ :: r_, s3, _ => (if x_.name.size ≤ 1000000 then (if (isNameS x_.name) = true then ((bd F l s3 F 0).bind fun o16 => match o16 with | .a o17 => some (.a (o17, 5)) | .b o19 => ((be F inputs l s3 F 0).bind fun o28 => match o28 with | .a o29 => some (.a (o29, 5)) | .b o31 => (if (decide ((0 : Int) ≤ x_.kind) && decide (x_.kind ≤ 1)) = true then ((dN F x_.width).bind fun y36 => (if y36 = true then (if 0 ≤ x_.width then (if (fitsN x_.init x_.width) = true then (if (decide ((0 : Int) ≤ x_.clk) && decide (x_.clk ≤ 3)) = true then bS F inputs l r_ (s3 + 1) () else some (.a (s3, 2))) else some (.a (s3, 2))) else none) else some (.a (s3, 2)))) else some (.a (s3, 15))))) else some (.a (s3, 4))) else none)
theorem iC (F : Nat) (inputs : List Port) (l : List Elem) (hl_ : l.length ≤ 1000000) : ∀ r_ i_ k_ (o_ : Unit), l.drop i_ = r_ → r_.length < k_ → bf F inputs l k_ i_ = bS F inputs l r_ i_ o_
 | _, _, 0, _, _, hk => absurd hk (Nat.not_lt_zero _)
 | [], i_, k_ + 1, _, hd, _ => by rw [bf, bS]; simp only [ai hd, Bool.false_eq_true, if_false]
 | x_ :: r_, i_, k_ + 1, _, hd, hk => by
  have ih := iC F inputs l hl_ r_ (i_ + 1) k_ () (ah hd) (Nat.lt_of_succ_lt_succ hk)
  rw [bf, bS]; simp only [aq hd, ak hd, if_pos (av hd hl_), Option.bind_some, if_true, ih]
def eZ (F : Nat) (inputs : List Port) (l : List Elem) : Option (Int × Int) := (if inI ((inputs.length : Int) + (l.length : Int)) then (if (decide ((40 : Int) < ((inputs.length : Int) + (l.length : Int)))) = true then some (0, 8) else ((bf F inputs l F 0).bind fun o46 => match o46 with | .a o47 => some ((o47.1 : Int), (o47.2 : Int)) | .b o49 => some (0, 0))) else none)
theorem oK (bs : List Nat) (H : Heap) (F : Nat) (inputs : List Port) (l : List Elem) (R : Int × Int) (hR0 : eZ F inputs l = some R) : callw X bs 127 [.list (inputs.map encPort), .list (l.map encElem)] H = some (.tuple [.int .i64 R.1, .int .i64 R.2], H) := by
 refine yw2 (rs := [.tmp 4, .tmp 5]) (N := 103) (fn := Tryz.f127) Da Tryz.func127 ?_
 have hR := Kp.mk hR0
 clear hR0
 rw [eZ] at hR
 obtain ⟨g1, hR⟩ := grdE hR
 have g1_w := ac g1
 try refine zw ?_
 rcases iteE hR with ⟨c2, hR⟩ | ⟨c2, hR⟩
 ·obtain rfl := someE hR
  exact zv
 ·obtain ⟨o46, o46_e, hR⟩ := bindE hR
  refine zu ?_
  refine ab (af (c := (loopAt Tryz.f127 0)) rfl (nl _ H F inputs l _ 0 o46 _ _ ⟨[], by simp, sl, sl, sl⟩ o46_e)) ?_
  rcases o46 with o47 | o49
  ·rintro ex ρ' H' ⟨J48, rfl, rfl, q4_o47, q5_o47⟩ hf
   clear hf
   obtain rfl := someE hR
   exact zv
  ·rintro ex ρ' H' ⟨J50, rfl, rfl⟩ hf
   clear hf
   obtain rfl := someE hR
   exact zv
def cz (F : Nat) (d : Desg) : Nat → ((List Int) × Nat) → Option ((List Int))
 | 0, _ => none
 | k + 1, (s8, s9) => (if (decide ((s9 : Int) < (d.inputs.length : Int))) = true then ((d.inputs[s9]?).bind fun x12 => (if (s8.length + 1) ≤ 1000000 then (if inI ((s9 : Int) + 1) then cz F d k ((s8 ++ [x12.width]), (s9 + 1)) else none) else none)) else some s8)
theorem qf (bs : List Nat) (H : Heap) (F : Nat) (d : Desg) : ∀ k s r ρ H', (∃ J10, H' = H ++ .cells [.str d.name, .list (d.inputs.map encPort), .list (d.elements.map encElem), .list (d.nodes.map encNode), .list (d.rules.map encRul), .list (d.outs.map encOutp), .list (d.attrs.map encAttr)] :: .tok 0 :: .tok s.1.length :: J10 ∧ ρ 1 = .ptr H.length 0 ∧ ρ 3 = .tl (H.length + 2) (s.1.map (V.int .i64)) ∧ ρ 4 = .int .i64 (s.2 : Int)) → cz F d k s = some r → Lp X ⟨39, H.length :: bs⟩ (loopAt Tryz.f75 0) ρ H' ((fun r ex ρ H' => ∃ J10, H' = H ++ .cells [.str d.name, .list (d.inputs.map encPort), .list (d.elements.map encElem), .list (d.nodes.map encNode), .list (d.rules.map encRul), .list (d.outs.map encOutp), .list (d.attrs.map encAttr)] :: .tok 0 :: .tok r.length :: J10 ∧ ex = .exit 0 ∧ ρ 3 = .tl (H.length + 2) (r.map (V.int .i64))) r) := by
 refine ae (fun _ => rfl) ?_
 rintro k ⟨s8, s9⟩ r ρ H' ⟨J10, hH, h1, h3, h4⟩ hR
 simp only at hH h1 h3 h4
 subst hH
 rw [cz] at hR
 conv => arg 3; whnf
 try refine zw ?_
 rcases iteE hR with ⟨c11, hR⟩ | ⟨c11, hR⟩
 ·obtain ⟨x12, x12_e, hR⟩ := bindE hR
  obtain ⟨g13, hR⟩ := grdE hR
  have g13_r := ka (n := (s8.length + 1)) (k := 8) g13 (by omega)
  obtain ⟨g14, hR⟩ := grdE hR
  have g14_w := ac g14
  refine zu ?_
  exact ⟨((s8 ++ [x12.width]), (s9 + 1)), ⟨_, hq, sl, sl, sl⟩, hR.out⟩
 ·obtain rfl := someE hR
  refine zu ?_
  exact ⟨_, hq, rfl, sl⟩
def cC (F : Nat) (d : Desg) : List Port → Nat → (List Int) → Option ((List Int))
 | [], s9, s8 => some s8
 | x_ :: r_, s9, s8 => (if (s8.length + 1) ≤ 1000000 then cC F d r_ (s9 + 1) (s8 ++ [x_.width]) else none)
theorem km (F : Nat) (d : Desg) (hl_ : d.inputs.length ≤ 1000000) : ∀ r_ i_ k_ (o_ : (List Int)), d.inputs.drop i_ = r_ → r_.length < k_ → cz F d k_ (o_, i_) = cC F d r_ i_ o_
 | _, _, 0, _, _, hk => absurd hk (Nat.not_lt_zero _)
 | [], i_, k_ + 1, s8, hd, _ => by rw [cz, cC]; simp only [ai hd, Bool.false_eq_true, if_false]
 | x_ :: r_, i_, k_ + 1, s8, hd, hk => by
  have ih := fun o_ => km F d hl_ r_ (i_ + 1) k_ o_ (ah hd) (Nat.lt_of_succ_lt_succ hk)
  rw [cz, cC]; simp only [aq hd, ak hd, if_pos (av hd hl_), Option.bind_some, if_true, ih]
def cA (F : Nat) (d : Desg) : Nat → ((List Int) × Nat) → Option ((List Int))
 | 0, _ => none
 | k + 1, (s25, s26) => (if (decide ((s26 : Int) < (d.elements.length : Int))) = true then ((d.elements[s26]?).bind fun x29 => (if (s25.length + 1) ≤ 1000000 then (if inI ((s26 : Int) + 1) then cA F d k ((s25 ++ [x29.width]), (s26 + 1)) else none) else none)) else some s25)
theorem qg (bs : List Nat) (H : Heap) (F : Nat) (d : Desg) : ∀ k s r ρ H', (∃ J27, H' = H ++ .cells [.str d.name, .list (d.inputs.map encPort), .list (d.elements.map encElem), .list (d.nodes.map encNode), .list (d.rules.map encRul), .list (d.outs.map encOutp), .list (d.attrs.map encAttr)] :: .tok 0 :: .tok s.1.length :: J27 ∧ ρ 1 = .ptr H.length 0 ∧ ρ 3 = .tl (H.length + 2) (s.1.map (V.int .i64)) ∧ ρ 5 = .int .i64 (s.2 : Int)) → cA F d k s = some r → Lp X ⟨39, H.length :: bs⟩ (loopAt Tryz.f75 1) ρ H' ((fun r ex ρ H' => ∃ J27, H' = H ++ .cells [.str d.name, .list (d.inputs.map encPort), .list (d.elements.map encElem), .list (d.nodes.map encNode), .list (d.rules.map encRul), .list (d.outs.map encOutp), .list (d.attrs.map encAttr)] :: .tok 0 :: .tok r.length :: J27 ∧ ex = .exit 2 ∧ ρ 3 = .tl (H.length + 2) (r.map (V.int .i64))) r) := by
 refine ae (fun _ => rfl) ?_
 rintro k ⟨s25, s26⟩ r ρ H' ⟨J27, hH, h1, h3, h5⟩ hR
 simp only at hH h1 h3 h5
 subst hH
 rw [cA] at hR
 conv => arg 3; whnf
 try refine zw ?_
 rcases iteE hR with ⟨c28, hR⟩ | ⟨c28, hR⟩
 ·obtain ⟨x29, x29_e, hR⟩ := bindE hR
  obtain ⟨g30, hR⟩ := grdE hR
  have g30_r := ka (n := (s25.length + 1)) (k := 8) g30 (by omega)
  obtain ⟨g31, hR⟩ := grdE hR
  have g31_w := ac g31
  refine zu ?_
  exact ⟨((s25 ++ [x29.width]), (s26 + 1)), ⟨_, hq, sl, sl, sl⟩, hR.out⟩
 ·obtain rfl := someE hR
  refine zu ?_
  exact ⟨_, hq, rfl, sl⟩
def cD (F : Nat) (d : Desg) : List Elem → Nat → (List Int) → Option ((List Int))
 | [], s26, s25 => some s25
 | x_ :: r_, s26, s25 => (if (s25.length + 1) ≤ 1000000 then cD F d r_ (s26 + 1) (s25 ++ [x_.width]) else none)
theorem kn (F : Nat) (d : Desg) (hl_ : d.elements.length ≤ 1000000) : ∀ r_ i_ k_ (o_ : (List Int)), d.elements.drop i_ = r_ → r_.length < k_ → cA F d k_ (o_, i_) = cD F d r_ i_ o_
 | _, _, 0, _, _, hk => absurd hk (Nat.not_lt_zero _)
 | [], i_, k_ + 1, s25, hd, _ => by rw [cA, cD]; simp only [ai hd, Bool.false_eq_true, if_false]
 | x_ :: r_, i_, k_ + 1, s25, hd, hk => by
  have ih := fun o_ => kn F d hl_ r_ (i_ + 1) k_ o_ (ah hd) (Nat.lt_of_succ_lt_succ hk)
  rw [cA, cD]; simp only [aq hd, ak hd, if_pos (av hd hl_), Option.bind_some, if_true, ih]
def fd (F : Nat) (d : Desg) : Option ((List Int)) := ((cz F d F ([], 0)).bind fun o16 => ((cA F d F (o16, 0)).bind fun o33 => some o33))
theorem jB (bs : List Nat) (H : Heap) (F : Nat) (d : Desg) (R : (List Int)) (hR0 : fd F d = some R) : callw X bs 75 [(encDesg d)] H = some (.list (R.map (V.int .i64)), H) := by
 refine yw2 (rs := [.tmp 2]) (N := 39) (fn := Tryz.f75) xk75 Tryz.func75 ?_
 have hR := Kp.mk hR0
 clear hR0
 rw [fd] at hR
 (try simp only [cellsDesg, encDesg, encInts])
 obtain ⟨o16, o16_e, hR⟩ := bindE hR
 refine zu ?_
 refine ab (af (c := (loopAt Tryz.f75 0)) rfl (qf _ H F d _ ([], 0) o16 _ _ ⟨_, hq, sl, sl, sl⟩ o16_e)) ?_
 rintro ex ρ' H' ⟨J17, rfl, rfl, q3_o16⟩ hf
 have q1_o16 : ρ' 1 = .ptr H.length 0 := (hf 1 rfl).trans (sl)
 clear hf
 obtain ⟨o33, o33_e, hR⟩ := bindE hR
 refine zu ?_
 refine ab (af (c := (loopAt Tryz.f75 1)) rfl (qg _ H F d _ (o16, 0) o33 _ _ ⟨_, hq, sl, sl, sl⟩ o33_e)) ?_
 rintro ex ρ' H' ⟨J34, rfl, rfl, q3_o33⟩ hf
 clear hf
 obtain rfl := someE hR
 exact zv
def dy (F : Nat) (nodes : List Node) (i : Int) : Option (Bool) := (if inI ((nodes.length : Int) - 1) then some (decide ((0 : Int) ≤ i) && decide (i ≤ ((nodes.length : Int) - 1))) else none)
theorem jC (bs : List Nat) (H : Heap) (F : Nat) (nodes : List Node) (i : Int) (R : Bool) (hR0 : dy F nodes i = some R) : callw X bs 87 [.list (nodes.map encNode), .int .i64 i] H = some (.bool R, H) := by
 refine yw2 (rs := [.tmp 4]) (N := 10) (fn := Tryz.f87) xk87 Tryz.func87 ?_
 have hR := Kp.mk hR0
 clear hR0
 rw [dy] at hR
 obtain ⟨g1, hR⟩ := grdE hR
 have g1_w := ac g1
 obtain rfl := someE hR
 exact zv
def bI (F : Nat) (nodes : List Node) (i : Int) : Option (Bool) := ((dy F nodes i).bind fun y1 => (if y1 = true then ((idxI nodes i).bind fun x3 => some (decide (x3.width = 1))) else some false))
theorem jS (bs : List Nat) (H : Heap) (F : Nat) (nodes : List Node) (i : Int) (R : Bool) (hR0 : bI F nodes i = some R) : callw X bs 33 [.list (nodes.map encNode), .int .i64 i] H = some (.bool R, H) := by
 refine yw2 (rs := [.tmp 4]) (N := 16) (fn := Tryz.f33) xk33 Tryz.func33 ?_
 have hR := Kp.mk hR0
 clear hR0
 rw [bI] at hR
 obtain ⟨y1, y1_e, hR⟩ := bindE hR
 have y1_k := fun bs H => jC bs H F nodes i y1 y1_e
 try refine zw ?_
 clear y1_k
 rcases iteE hR with ⟨c2, hR⟩ | ⟨c2, hR⟩
 ·obtain ⟨x3, x3_e, hR⟩ := bindE hR
  obtain ⟨x3_p, x3_e⟩ := idxE x3_e
  obtain rfl := someE hR
  exact zv
 ·obtain rfl := someE hR
  exact zv
def bz (F : Nat) (elements : List Elem) (nodes : List Node) (l : List Wri) : Nat → Nat → Option (Oc (Nat) (Unit))
 | 0, _ => none
 | k + 1, s2 => (if (decide ((s2 : Int) < (l.length : Int))) = true then ((l[s2]?).bind fun x5 => (if inI ((elements.length : Int) - 1) then (if (decide ((0 : Int) ≤ x5.element) && decide (x5.element ≤ ((elements.length : Int) - 1))) = true then ((bI F nodes x5.cond).bind fun y9 => (if y9 = true then ((dy F nodes x5.value).bind fun y12 => (if y12 = true then ((idxI nodes x5.value).bind fun x15 => ((idxI elements x5.element).bind fun x17 => (if (decide (¬x15.width = x17.width)) = true then some (.a 25) else (if inI ((s2 : Int) + 1) then bz F elements nodes l k (s2 + 1) else none)))) else some (.a 9))) else some (.a 9))) else some (.a 6)) else none)) else some (.b ()))
theorem nY (bs : List Nat) (H : Heap) (F : Nat) (elements : List Elem) (nodes : List Node) (l : List Wri) : ∀ k s r ρ H', (∃ J3, H' = H ++ J3 ∧ ρ 0 = .list (elements.map encElem) ∧ ρ 1 = .list (nodes.map encNode) ∧ ρ 2 = .list (l.map encWri) ∧ ρ 7 = .int .i64 (s : Int)) → bz F elements nodes l k s = some r → Lp X ⟨64, H.length :: bs⟩ (loopAt Tryz.f129 0) ρ H' ((fun r ex ρ H' => match r with | .a r => ∃ J3, H' = H ++ J3 ∧ ex = .ret ∧ ρ 6 = .int .i64 (r : Int) | .b r => ∃ J3, H' = H ++ J3 ∧ ex = .exit 0) r) := by
 refine ae (fun _ => rfl) ?_
 rintro k s2 r ρ H' ⟨J3, hH, h0, h1, h2, h7⟩ hR
 skip
 subst hH
 rw [bz] at hR
 conv => arg 3; whnf
 try refine zw ?_
 rcases iteE hR with ⟨c4, hR⟩ | ⟨c4, hR⟩
 ·obtain ⟨x5, x5_e, hR⟩ := bindE hR
  obtain ⟨g6, hR⟩ := grdE hR
  have g6_w := ac g6
  try refine zw ?_
  rcases iteE hR with ⟨c7, hR⟩ | ⟨c7, hR⟩
  ·obtain ⟨c7_1, c7_2⟩ := ed c7
   obtain ⟨y9, y9_e, hR⟩ := bindE hR
   have y9_k := fun bs H => jS bs H F nodes x5.cond y9 y9_e
   try refine zw ?_
   clear y9_k
   rcases iteE hR with ⟨c10, hR⟩ | ⟨c10, hR⟩
   ·obtain ⟨y12, y12_e, hR⟩ := bindE hR
    have y12_k := fun bs H => jC bs H F nodes x5.value y12 y12_e
    try refine zw ?_
    clear y12_k
    rcases iteE hR with ⟨c13, hR⟩ | ⟨c13, hR⟩
    ·obtain ⟨x15, x15_e, hR⟩ := bindE hR
     obtain ⟨x15_p, x15_e⟩ := idxE x15_e
     obtain ⟨x17, x17_e, hR⟩ := bindE hR
     obtain ⟨x17_p, x17_e⟩ := idxE x17_e
     try refine zu ?_
     (refine yw0 (id := 10) oz16 ?_)
     try refine zw ?_
     rcases iteE hR with ⟨c18, hR⟩ | ⟨c18, hR⟩
     ·obtain rfl := someE hR
      refine zu ?_
      exact ⟨_, hq, rfl, sl⟩
     ·obtain ⟨g19, hR⟩ := grdE hR
      have g19_w := ac g19
      refine zu ?_
      exact ⟨(s2 + 1), ⟨_, hq, sl, sl, sl, sl⟩, hR.out⟩
    ·obtain rfl := someE hR
     refine zu ?_
     exact ⟨_, hq, rfl, sl⟩
   ·obtain rfl := someE hR
    refine zu ?_
    exact ⟨_, hq, rfl, sl⟩
  ·obtain rfl := someE hR
   refine zu ?_
   exact ⟨_, hq, rfl, sl⟩
 ·obtain rfl := someE hR
  refine zu ?_
  exact ⟨_, hq, rfl⟩
def cr (F : Nat) (elements : List Elem) (nodes : List Node) (l : List Wri) : List Wri → Nat → Unit → Option (Oc (Nat) (Unit))
 | [], s2, _ => some (.b ())
 | x_ :: r_, s2, _ => (if inI ((elements.length : Int) - 1) then (if (decide ((0 : Int) ≤ x_.element) && decide (x_.element ≤ ((elements.length : Int) - 1))) = true then ((bI F nodes x_.cond).bind fun y9 => (if y9 = true then ((dy F nodes x_.value).bind fun y12 => (if y12 = true then ((idxI nodes x_.value).bind fun x15 => ((idxI elements x_.element).bind fun x17 => (if (decide (¬x15.width = x17.width)) = true then some (.a 25) else cr F elements nodes l r_ (s2 + 1) ()))) else some (.a 9))) else some (.a 9))) else some (.a 6)) else none)
theorem iU (F : Nat) (elements : List Elem) (nodes : List Node) (l : List Wri) (hl_ : l.length ≤ 1000000) : ∀ r_ i_ k_ (o_ : Unit), l.drop i_ = r_ → r_.length < k_ → bz F elements nodes l k_ i_ = cr F elements nodes l r_ i_ o_
 | _, _, 0, _, _, hk => absurd hk (Nat.not_lt_zero _)
 | [], i_, k_ + 1, _, hd, _ => by rw [bz, cr]; simp only [ai hd, Bool.false_eq_true, if_false]
 | x_ :: r_, i_, k_ + 1, _, hd, hk => by
  have ih := iU F elements nodes l hl_ r_ (i_ + 1) k_ () (ah hd) (Nat.lt_of_succ_lt_succ hk)
  rw [bz, cr]; simp only [aq hd, ak hd, if_pos (av hd hl_), Option.bind_some, if_true, ih]
def eO (F : Nat) (elements : List Elem) (nodes : List Node) (l : List Wri) : Option (Int) := (if (decide ((16 : Int) < (l.length : Int))) = true then some 8 else ((bz F elements nodes l F 0).bind fun o20 => match o20 with | .a o21 => some (o21 : Int) | .b o23 => some 0))
theorem qh (bs : List Nat) (H : Heap) (F : Nat) (elements : List Elem) (nodes : List Node) (l : List Wri) (R : Int) (hR0 : eO F elements nodes l = some R) : callw X bs 129 [.list (elements.map encElem), .list (nodes.map encNode), .list (l.map encWri)] H = some (.int .i64 R, H) := by
 refine yw2 (rs := [.tmp 6]) (N := 64) (fn := Tryz.f129) Dc Tryz.func129 ?_
 have hR := Kp.mk hR0
 clear hR0
 rw [eO] at hR
 try refine zw ?_
 rcases iteE hR with ⟨c1, hR⟩ | ⟨c1, hR⟩
 ·obtain rfl := someE hR
  exact zv
 ·obtain ⟨o20, o20_e, hR⟩ := bindE hR
  refine zu ?_
  refine ab (af (c := (loopAt Tryz.f129 0)) rfl (nY _ H F elements nodes l _ 0 o20 _ _ ⟨[], by simp, sl, sl, sl, sl⟩ o20_e)) ?_
  rcases o20 with o21 | o23
  ·rintro ex ρ' H' ⟨J22, rfl, rfl, q6_o21⟩ hf
   clear hf
   obtain rfl := someE hR
   exact zv
  ·rintro ex ρ' H' ⟨J24, rfl, rfl⟩ hf
   clear hf
   obtain rfl := someE hR
   exact zv
def bp (F : Nat) (l : List Outp) (s2 : Nat) : Nat → Nat → Option (Oc (Nat) (Unit))
 | 0, _ => none
 | k + 1, s8 => (if (decide ((s8 : Int) < (s2 : Int))) = true then ((l[s8]?).bind fun x11 => ((l[s2]?).bind fun x12 => (if (decide (x11.name = x12.name)) = true then some (.a s2) else (if inI ((s8 : Int) + 1) then bp F l s2 k (s8 + 1) else none)))) else some (.b ()))
theorem np (bs : List Nat) (H : Heap) (F : Nat) (nodes : List Node) (l : List Outp) (s2 : Nat) : ∀ k s r ρ H', (∃ J9, H' = H ++ J9 ∧ ρ 0 = .list (nodes.map encNode) ∧ ρ 1 = .list (l.map encOutp) ∧ ρ 6 = .int .i64 (s2 : Int) ∧ ρ 7 = .int .i64 (s : Int)) → bp F l s2 k s = some r → Lp X ⟨51, H.length :: bs⟩ (loopAt Tryz.f130 1) ρ H' ((fun r ex ρ H' => match r with | .a r => ∃ J9, H' = H ++ J9 ∧ ex = .ret ∧ ρ 4 = .int .i64 (r : Int) ∧ ρ 5 = .int .i64 5 | .b r => ∃ J9, H' = H ++ J9 ∧ ex = .exit 2) r) := by
 refine ae (fun _ => rfl) ?_
 rintro k s8 r ρ H' ⟨J9, hH, h0, h1, h6, h7⟩ hR
 skip
 subst hH
 rw [bp] at hR
 conv => arg 3; whnf
 try refine zw ?_
 rcases iteE hR with ⟨c10, hR⟩ | ⟨c10, hR⟩
 ·obtain ⟨x11, x11_e, hR⟩ := bindE hR
  obtain ⟨x12, x12_e, hR⟩ := bindE hR
  try refine zu ?_
  (refine yw0 (id := 11) oz20 ?_)
  try refine zw ?_
  rcases iteE hR with ⟨c13, hR⟩ | ⟨c13, hR⟩
  ·obtain rfl := someE hR
   refine zu ?_
   exact ⟨_, hq, rfl, sl, sl⟩
  ·obtain ⟨g14, hR⟩ := grdE hR
   have g14_w := ac g14
   refine zu ?_
   exact ⟨(s8 + 1), ⟨_, hq, sl, sl, sl, sl⟩, hR.out⟩
 ·obtain rfl := someE hR
  refine zu ?_
  exact ⟨_, hq, rfl⟩
def bq (F : Nat) (nodes : List Node) (l : List Outp) : Nat → Nat → Option (Oc (Nat × Nat) (Unit))
 | 0, _ => none
 | k + 1, s2 => (if (decide ((s2 : Int) < (l.length : Int))) = true then ((l[s2]?).bind fun x5 => (if x5.name.size ≤ 1000000 then (if (isNameS x5.name) = true then ((bp F l s2 F 0).bind fun o15 => match o15 with | .a o16 => some (.a (o16, 5)) | .b o18 => ((dy F nodes x5.node).bind fun y21 => (if y21 = true then (if inI ((s2 : Int) + 1) then bq F nodes l k (s2 + 1) else none) else some (.a (s2, 9))))) else some (.a (s2, 4))) else none)) else some (.b ()))
theorem nq (bs : List Nat) (H : Heap) (F : Nat) (nodes : List Node) (l : List Outp) : ∀ k s r ρ H', (∃ J3, H' = H ++ J3 ∧ ρ 0 = .list (nodes.map encNode) ∧ ρ 1 = .list (l.map encOutp) ∧ ρ 6 = .int .i64 (s : Int)) → bq F nodes l k s = some r → Lp X ⟨51, H.length :: bs⟩ (loopAt Tryz.f130 0) ρ H' ((fun r ex ρ H' => match r with | .a r => ∃ J3, H' = H ++ J3 ∧ ex = .ret ∧ ρ 4 = .int .i64 (r.1 : Int) ∧ ρ 5 = .int .i64 (r.2 : Int) | .b r => ∃ J3, H' = H ++ J3 ∧ ex = .exit 0) r) := by
 refine ae (fun _ => rfl) ?_
 rintro k s2 r ρ H' ⟨J3, hH, h0, h1, h6⟩ hR
 skip
 subst hH
 rw [bq] at hR
 conv => arg 3; whnf
 try refine zw ?_
 rcases iteE hR with ⟨c4, hR⟩ | ⟨c4, hR⟩
 ·obtain ⟨x5, x5_e, hR⟩ := bindE hR
  obtain ⟨g6, hR⟩ := grdE hR
  have g6_k := fun bs H => ld bs H x5.name g6
  try refine zw ?_
  clear g6_k
  rcases iteE hR with ⟨c7, hR⟩ | ⟨c7, hR⟩
  ·obtain ⟨o15, o15_e, hR⟩ := bindE hR
   refine zu ?_
   refine ab (af (c := (loopAt Tryz.f130 1)) rfl (np _ H F nodes l s2 _ 0 o15 _ _ ⟨_, hq, sl, sl, sl, sl⟩ o15_e)) ?_
   rcases o15 with o16 | o18
   ·rintro ex ρ' H' ⟨J17, rfl, rfl, q4_o16, q5_o16⟩ hf
    clear hf
    obtain rfl := someE hR
    refine zu ?_
    exact ⟨_, hq, rfl, sl, sl⟩
   ·rintro ex ρ' H' ⟨J19, rfl, rfl⟩ hf
    have q0_o18 : ρ' 0 = .list (nodes.map encNode) := (hf 0 rfl).trans (sl)
    have q1_o18 : ρ' 1 = .list (l.map encOutp) := (hf 1 rfl).trans (sl)
    have q6_o18 : ρ' 6 = .int .i64 (s2 : Int) := (hf 6 rfl).trans (sl)
    clear hf
    obtain ⟨y21, y21_e, hR⟩ := bindE hR
    have y21_k := fun bs H => jC bs H F nodes x5.node y21 y21_e
    try refine zw ?_
    clear y21_k
    rcases iteE hR with ⟨c22, hR⟩ | ⟨c22, hR⟩
    ·obtain ⟨g23, hR⟩ := grdE hR
     have g23_w := ac g23
     refine zu ?_
     exact ⟨(s2 + 1), ⟨_, hq, sl, sl, sl⟩, hR.out⟩
    ·obtain rfl := someE hR
     refine zu ?_
     exact ⟨_, hq, rfl, sl, sl⟩
  ·obtain rfl := someE hR
   refine zu ?_
   exact ⟨_, hq, rfl, sl, sl⟩
 ·obtain rfl := someE hR
  refine zu ?_
  exact ⟨_, hq, rfl⟩
def cf (F : Nat) (nodes : List Node) (l : List Outp) : List Outp → Nat → Unit → Option (Oc (Nat × Nat) (Unit))
 | [], s2, _ => some (.b ())
 | x_ :: r_, s2, _ => (if x_.name.size ≤ 1000000 then (if (isNameS x_.name) = true then ((bp F l s2 F 0).bind fun o15 => match o15 with | .a o16 => some (.a (o16, 5)) | .b o18 => ((dy F nodes x_.node).bind fun y21 => (if y21 = true then cf F nodes l r_ (s2 + 1) () else some (.a (s2, 9))))) else some (.a (s2, 4))) else none)
theorem iL (F : Nat) (nodes : List Node) (l : List Outp) (hl_ : l.length ≤ 1000000) : ∀ r_ i_ k_ (o_ : Unit), l.drop i_ = r_ → r_.length < k_ → bq F nodes l k_ i_ = cf F nodes l r_ i_ o_
 | _, _, 0, _, _, hk => absurd hk (Nat.not_lt_zero _)
 | [], i_, k_ + 1, _, hd, _ => by rw [bq, cf]; simp only [ai hd, Bool.false_eq_true, if_false]
 | x_ :: r_, i_, k_ + 1, _, hd, hk => by
  have ih := iL F nodes l hl_ r_ (i_ + 1) k_ () (ah hd) (Nat.lt_of_succ_lt_succ hk)
  rw [bq, cf]; simp only [aq hd, ak hd, if_pos (av hd hl_), Option.bind_some, if_true, ih]
def ek (F : Nat) (nodes : List Node) (l : List Outp) : Option (Int × Int) := (if (decide ((12 : Int) < (l.length : Int))) = true then some (0, 8) else ((bq F nodes l F 0).bind fun o24 => match o24 with | .a o25 => some ((o25.1 : Int), (o25.2 : Int)) | .b o27 => some (0, 0)))
theorem pK (bs : List Nat) (H : Heap) (F : Nat) (nodes : List Node) (l : List Outp) (R : Int × Int) (hR0 : ek F nodes l = some R) : callw X bs 130 [.list (nodes.map encNode), .list (l.map encOutp)] H = some (.tuple [.int .i64 R.1, .int .i64 R.2], H) := by
 refine yw2 (rs := [.tmp 4, .tmp 5]) (N := 51) (fn := Tryz.f130) Dd Tryz.func130 ?_
 have hR := Kp.mk hR0
 clear hR0
 rw [ek] at hR
 try refine zw ?_
 rcases iteE hR with ⟨c1, hR⟩ | ⟨c1, hR⟩
 ·obtain rfl := someE hR
  exact zv
 ·obtain ⟨o24, o24_e, hR⟩ := bindE hR
  refine zu ?_
  refine ab (af (c := (loopAt Tryz.f130 0)) rfl (nq _ H F nodes l _ 0 o24 _ _ ⟨[], by simp, sl, sl, sl⟩ o24_e)) ?_
  rcases o24 with o25 | o27
  ·rintro ex ρ' H' ⟨J26, rfl, rfl, q4_o25, q5_o25⟩ hf
   clear hf
   obtain rfl := someE hR
   exact zv
  ·rintro ex ρ' H' ⟨J28, rfl, rfl⟩ hf
   clear hf
   obtain rfl := someE hR
   exact zv
def eo (F : Nat) (l : List Int) (n : Int) : Nat → Nat → Option (Oc (Bool) (Unit))
 | 0, _ => none
 | k + 1, s1 => (if (decide ((s1 : Int) < (l.length : Int))) = true then ((l[s1]?).bind fun x4 => (if (decide (x4 = n)) = true then some (.a true) else (if inI ((s1 : Int) + 1) then eo F l n k (s1 + 1) else none))) else some (.b ()))
theorem sE (bs : List Nat) (H : Heap) (F : Nat) (l : List Int) (n : Int) : ∀ k s r ρ H', (∃ J2, H' = H ++ J2 ∧ ρ 0 = .list (l.map (V.int .i64)) ∧ ρ 1 = .int .i64 n ∧ ρ 5 = .int .i64 (s : Int)) → eo F l n k s = some r → Lp X ⟨18, H.length :: bs⟩ (loopAt Tryz.f131 0) ρ H' ((fun r ex ρ H' => match r with | .a r => ∃ J2, H' = H ++ J2 ∧ ex = .ret ∧ ρ 4 = .bool r | .b r => ∃ J2, H' = H ++ J2 ∧ ex = .exit 0) r) := by
 refine ae (fun _ => rfl) ?_
 rintro k s1 r ρ H' ⟨J2, hH, h0, h1, h5⟩ hR
 skip
 subst hH
 rw [eo] at hR
 conv => arg 3; whnf
 try refine zw ?_
 rcases iteE hR with ⟨c3, hR⟩ | ⟨c3, hR⟩
 ·obtain ⟨x4, x4_e, hR⟩ := bindE hR
  try refine zw ?_
  rcases iteE hR with ⟨c5, hR⟩ | ⟨c5, hR⟩
  ·obtain rfl := someE hR
   refine zu ?_
   exact ⟨_, hq, rfl, sl⟩
  ·obtain ⟨g6, hR⟩ := grdE hR
   have g6_w := ac g6
   refine zu ?_
   exact ⟨(s1 + 1), ⟨_, hq, sl, sl, sl⟩, hR.out⟩
 ·obtain rfl := someE hR
  refine zu ?_
  exact ⟨_, hq, rfl⟩
def fe (F : Nat) (l : List Int) (n : Int) : List Int → Nat → Unit → Option (Oc (Bool) (Unit))
 | [], s1, _ => some (.b ())
 | x_ :: r_, s1, _ => (if (decide (x_ = n)) = true then some (.a true) else fe F l n r_ (s1 + 1) ())
theorem lQ (F : Nat) (l : List Int) (n : Int) (hl_ : l.length ≤ 1000000) : ∀ r_ i_ k_ (o_ : Unit), l.drop i_ = r_ → r_.length < k_ → eo F l n k_ i_ = fe F l n r_ i_ o_
 | _, _, 0, _, _, hk => absurd hk (Nat.not_lt_zero _)
 | [], i_, k_ + 1, _, hd, _ => by rw [eo, fe]; simp only [ai hd, Bool.false_eq_true, if_false]
 | x_ :: r_, i_, k_ + 1, _, hd, hk => by
  have ih := lQ F l n hl_ r_ (i_ + 1) k_ () (ah hd) (Nat.lt_of_succ_lt_succ hk)
  rw [eo, fe]; simp only [aq hd, ak hd, if_pos (av hd hl_), Option.bind_some, if_true, ih]
def iz (F : Nat) (l : List Int) (n : Int) : Option (Bool) := ((eo F l n F 0).bind fun o7 => match o7 with | .a o8 => some o8 | .b o10 => some false)
theorem vE (bs : List Nat) (H : Heap) (F : Nat) (l : List Int) (n : Int) (R : Bool) (hR0 : iz F l n = some R) : callw X bs 131 [.list (l.map (V.int .i64)), .int .i64 n] H = some (.bool R, H) := by
 refine yw2 (rs := [.tmp 4]) (N := 18) (fn := Tryz.f131) De Tryz.func131 ?_
 have hR := Kp.mk hR0
 clear hR0
 rw [iz] at hR
 obtain ⟨o7, o7_e, hR⟩ := bindE hR
 refine zu ?_
 refine ab (af (c := (loopAt Tryz.f131 0)) rfl (sE _ H F l n _ 0 o7 _ _ ⟨[], by simp, sl, sl, sl⟩ o7_e)) ?_
 rcases o7 with o8 | o10
 ·rintro ex ρ' H' ⟨J9, rfl, rfl, q4_o8⟩ hf
  clear hf
  obtain rfl := someE hR
  exact zv
 ·rintro ex ρ' H' ⟨J11, rfl, rfl⟩ hf
  clear hf
  obtain rfl := someE hR
  exact zv
def bA (F : Nat) (d : Desg) (s14 : Nat) (x17 : Rul) : Nat → Nat → Option (Oc (Nat) (Unit))
 | 0, _ => none
 | k + 1, s20 => (if (decide ((s20 : Int) < (s14 : Int))) = true then ((d.rules[s20]?).bind fun x23 => (if (decide (x23.name = x17.name)) = true then some (.a s14) else (if inI ((s20 : Int) + 1) then bA F d s14 x17 k (s20 + 1) else none))) else some (.b ()))
theorem nZ (bs : List Nat) (H : Heap) (F : Nat) (d : Desg) (s14 : Nat) (J15 : Heap) (x17 : Rul) : ∀ k s r ρ H', (∃ J21, H' = H ++ .cells [.str d.name, .list (d.inputs.map encPort), .list (d.elements.map encElem), .list (d.nodes.map encNode), .list (d.rules.map encRul), .list (d.outs.map encOutp), .list (d.attrs.map encAttr)] :: (J15 ++ .cells [.str x17.name, .int .i64 x17.guard, .list (x17.writes.map encWri)] :: J21) ∧ ρ 1 = .ptr H.length 0 ∧ ρ 10 = .int .i64 (s14 : Int) ∧ ρ 11 = .ptr (H.length + (J15.length + 1)) 0 ∧ ρ 12 = .int .i64 (s : Int)) → bA F d s14 x17 k s = some r → Lp X ⟨185, H.length :: bs⟩ (loopAt Tryz.f38 1) ρ H' ((fun r ex ρ H' => match r with | .a r => ∃ J21, H' = H ++ .cells [.str d.name, .list (d.inputs.map encPort), .list (d.elements.map encElem), .list (d.nodes.map encNode), .list (d.rules.map encRul), .list (d.outs.map encOutp), .list (d.attrs.map encAttr)] :: (J15 ++ .cells [.str x17.name, .int .i64 x17.guard, .list (x17.writes.map encWri)] :: J21) ∧ ex = .ret ∧ ρ 2 = .int .i64 (r : Int) ∧ ρ 3 = .int .i64 5 | .b r => ∃ J21, H' = H ++ .cells [.str d.name, .list (d.inputs.map encPort), .list (d.elements.map encElem), .list (d.nodes.map encNode), .list (d.rules.map encRul), .list (d.outs.map encOutp), .list (d.attrs.map encAttr)] :: (J15 ++ .cells [.str x17.name, .int .i64 x17.guard, .list (x17.writes.map encWri)] :: J21) ∧ ex = .exit 2) r) := by
 refine ae (fun _ => rfl) ?_
 rintro k s20 r ρ H' ⟨J21, hH, h1, h10, h11, h12⟩ hR
 skip
 subst hH
 rw [bA] at hR
 conv => arg 3; whnf
 try refine zw ?_
 rcases iteE hR with ⟨c22, hR⟩ | ⟨c22, hR⟩
 ·obtain ⟨x23, x23_e, hR⟩ := bindE hR
  try refine zu ?_
  (refine yw0 (id := 23) oz1 ?_)
  try refine zw ?_
  rcases iteE hR with ⟨c24, hR⟩ | ⟨c24, hR⟩
  ·obtain rfl := someE hR
   refine zu ?_
   exact ⟨_, hq, rfl, sl, sl⟩
  ·obtain ⟨g25, hR⟩ := grdE hR
   have g25_w := ac g25
   refine zu ?_
   exact ⟨(s20 + 1), ⟨_, hq, sl, sl, sl, sl⟩, hR.out⟩
 ·obtain rfl := someE hR
  refine zu ?_
  exact ⟨_, hq, rfl⟩
def aZ (F : Nat) (d : Desg) : Nat → Nat → Option (Oc (Nat × Int) (Unit))
 | 0, _ => none
 | k + 1, s14 => (if (decide ((s14 : Int) < (d.rules.length : Int))) = true then ((d.rules[s14]?).bind fun x17 => (if x17.name.size ≤ 1000000 then (if (isNameS x17.name) = true then ((bA F d s14 x17 F 0).bind fun o26 => match o26 with | .a o27 => some (.a (o27, 5)) | .b o29 => ((bI F d.nodes x17.guard).bind fun y31 => (if y31 = true then ((eO F d.elements d.nodes x17.writes).bind fun y33 => (if (decide (¬y33 = 0)) = true then some (.a (s14, y33)) else (if inI ((s14 : Int) + 1) then aZ F d k (s14 + 1) else none))) else some (.a (s14, 9))))) else some (.a (s14, 4))) else none)) else some (.b ()))
theorem oc (bs : List Nat) (H : Heap) (F : Nat) (d : Desg) : ∀ k s r ρ H', (∃ J15, H' = H ++ .cells [.str d.name, .list (d.inputs.map encPort), .list (d.elements.map encElem), .list (d.nodes.map encNode), .list (d.rules.map encRul), .list (d.outs.map encOutp), .list (d.attrs.map encAttr)] :: J15 ∧ ρ 1 = .ptr H.length 0 ∧ ρ 10 = .int .i64 (s : Int)) → aZ F d k s = some r → Lp X ⟨185, H.length :: bs⟩ (loopAt Tryz.f38 0) ρ H' ((fun r ex ρ H' => match r with | .a r => ∃ J15, H' = H ++ .cells [.str d.name, .list (d.inputs.map encPort), .list (d.elements.map encElem), .list (d.nodes.map encNode), .list (d.rules.map encRul), .list (d.outs.map encOutp), .list (d.attrs.map encAttr)] :: J15 ∧ ex = .ret ∧ ρ 2 = .int .i64 (r.1 : Int) ∧ ρ 3 = .int .i64 r.2 | .b r => ∃ J15, H' = H ++ .cells [.str d.name, .list (d.inputs.map encPort), .list (d.elements.map encElem), .list (d.nodes.map encNode), .list (d.rules.map encRul), .list (d.outs.map encOutp), .list (d.attrs.map encAttr)] :: J15 ∧ ex = .exit 0) r) := by
 refine ae (fun _ => rfl) ?_
 rintro k s14 r ρ H' ⟨J15, hH, h1, h10⟩ hR
 skip
 subst hH
 rw [aZ] at hR
 conv => arg 3; whnf
 try refine zw ?_
 rcases iteE hR with ⟨c16, hR⟩ | ⟨c16, hR⟩
 ·obtain ⟨x17, x17_e, hR⟩ := bindE hR
  obtain ⟨g18, hR⟩ := grdE hR
  have g18_k := fun bs H => ld bs H x17.name g18
  try refine zw ?_
  clear g18_k
  rcases iteE hR with ⟨c19, hR⟩ | ⟨c19, hR⟩
  ·obtain ⟨o26, o26_e, hR⟩ := bindE hR
   refine zu ?_
   refine ab (af (c := (loopAt Tryz.f38 1)) rfl (nZ _ H F d s14 J15 x17 _ 0 o26 _ _ ⟨_, hq, sl, sl, sl, sl⟩ o26_e)) ?_
   rcases o26 with o27 | o29
   ·rintro ex ρ' H' ⟨J28, rfl, rfl, q2_o27, q3_o27⟩ hf
    clear hf
    obtain rfl := someE hR
    refine zu ?_
    exact ⟨_, hq, rfl, sl, sl⟩
   ·rintro ex ρ' H' ⟨J30, rfl, rfl⟩ hf
    have q1_o29 : ρ' 1 = .ptr H.length 0 := (hf 1 rfl).trans (sl)
    have q10_o29 : ρ' 10 = .int .i64 (s14 : Int) := (hf 10 rfl).trans (sl)
    have q11_o29 : ρ' 11 = .ptr (H.length + (J15.length + 1)) 0 := (hf 11 rfl).trans (sl)
    clear hf
    obtain ⟨y31, y31_e, hR⟩ := bindE hR
    have y31_k := fun bs H => jS bs H F d.nodes x17.guard y31 y31_e
    try refine zw ?_
    clear y31_k
    rcases iteE hR with ⟨c32, hR⟩ | ⟨c32, hR⟩
    ·obtain ⟨y33, y33_e, hR⟩ := bindE hR
     have y33_k := fun bs H => qh bs H F d.elements d.nodes x17.writes y33 y33_e
     try refine zw ?_
     clear y33_k
     rcases iteE hR with ⟨c34, hR⟩ | ⟨c34, hR⟩
     ·obtain rfl := someE hR
      refine zu ?_
      exact ⟨_, hq, rfl, sl, sl⟩
     ·obtain ⟨g35, hR⟩ := grdE hR
      have g35_w := ac g35
      refine zu ?_
      exact ⟨(s14 + 1), ⟨_, hq, sl, sl⟩, hR.out⟩
    ·obtain rfl := someE hR
     refine zu ?_
     exact ⟨_, hq, rfl, sl, sl⟩
  ·obtain rfl := someE hR
   refine zu ?_
   exact ⟨_, hq, rfl, sl, sl⟩
 ·obtain rfl := someE hR
  refine zu ?_
  exact ⟨_, hq, rfl⟩
def ct (F : Nat) (d : Desg) : List Rul → Nat → Unit → Option (Oc (Nat × Int) (Unit))
 | [], s14, _ => some (.b ())
 | x_ :: r_, s14, _ => (if x_.name.size ≤ 1000000 then (if (isNameS x_.name) = true then ((bA F d s14 x_ F 0).bind fun o26 => match o26 with | .a o27 => some (.a (o27, 5)) | .b o29 => ((bI F d.nodes x_.guard).bind fun y31 => (if y31 = true then ((eO F d.elements d.nodes x_.writes).bind fun y33 => (if (decide (¬y33 = 0)) = true then some (.a (s14, y33)) else ct F d r_ (s14 + 1) ())) else some (.a (s14, 9))))) else some (.a (s14, 4))) else none)
theorem iV (F : Nat) (d : Desg) (hl_ : d.rules.length ≤ 1000000) : ∀ r_ i_ k_ (o_ : Unit), d.rules.drop i_ = r_ → r_.length < k_ → aZ F d k_ i_ = ct F d r_ i_ o_
 | _, _, 0, _, _, hk => absurd hk (Nat.not_lt_zero _)
 | [], i_, k_ + 1, _, hd, _ => by rw [aZ, ct]; simp only [ai hd, Bool.false_eq_true, if_false]
 | x_ :: r_, i_, k_ + 1, _, hd, hk => by
  have ih := iV F d hl_ r_ (i_ + 1) k_ () (ah hd) (Nat.lt_of_succ_lt_succ hk)
  rw [aZ, ct]; simp only [aq hd, ak hd, if_pos (av hd hl_), Option.bind_some, if_true, ih]
def ba (F : Nat) (d : Desg) (s44 : Nat) (x47 : Attr) : Nat → Nat → Option (Oc (Nat × Nat) (Unit))
 | 0, _ => none
 | k + 1, s51 => (if (decide ((s51 : Int) < (x47.rules.length : Int))) = true then ((x47.rules[s51]?).bind fun x54 => (if inI ((d.rules.length : Int) - 1) then (if (decide ((0 : Int) ≤ x54) && decide (x54 ≤ ((d.rules.length : Int) - 1))) = true then (if 0 ≤ s51 ∧ s51 ≤ x47.rules.length then ((iz F (x47.rules.take s51) x54).bind fun y59 => (if y59 = true then some (.a (s44, 23)) else (if inI ((s51 : Int) + 1) then ba F d s44 x47 k (s51 + 1) else none))) else none) else some (.a (s44, 6))) else none)) else some (.b ()))
theorem od (bs : List Nat) (H : Heap) (F : Nat) (d : Desg) (s44 : Nat) (J45 : Heap) (x47 : Attr) : ∀ k s r ρ H', (∃ J52, H' = H ++ .cells [.str d.name, .list (d.inputs.map encPort), .list (d.elements.map encElem), .list (d.nodes.map encNode), .list (d.rules.map encRul), .list (d.outs.map encOutp), .list (d.attrs.map encAttr)] :: (J45 ++ .cells [.int .i64 x47.kind, .list (x47.rules.map (V.int .i64))] :: J52) ∧ ρ 1 = .ptr H.length 0 ∧ ρ 16 = .int .i64 (s44 : Int) ∧ ρ 17 = .ptr (H.length + (J45.length + 1)) 0 ∧ ρ 18 = .int .i64 (s : Int)) → ba F d s44 x47 k s = some r → Lp X ⟨185, H.length :: bs⟩ (loopAt Tryz.f38 3) ρ H' ((fun r ex ρ H' => match r with | .a r => ∃ J52, H' = H ++ .cells [.str d.name, .list (d.inputs.map encPort), .list (d.elements.map encElem), .list (d.nodes.map encNode), .list (d.rules.map encRul), .list (d.outs.map encOutp), .list (d.attrs.map encAttr)] :: (J45 ++ .cells [.int .i64 x47.kind, .list (x47.rules.map (V.int .i64))] :: J52) ∧ ex = .ret ∧ ρ 2 = .int .i64 (r.1 : Int) ∧ ρ 3 = .int .i64 (r.2 : Int) | .b r => ∃ J52, H' = H ++ .cells [.str d.name, .list (d.inputs.map encPort), .list (d.elements.map encElem), .list (d.nodes.map encNode), .list (d.rules.map encRul), .list (d.outs.map encOutp), .list (d.attrs.map encAttr)] :: (J45 ++ .cells [.int .i64 x47.kind, .list (x47.rules.map (V.int .i64))] :: J52) ∧ ex = .exit 6) r) := by
 refine ae (fun _ => rfl) ?_
 rintro k s51 r ρ H' ⟨J52, hH, h1, h16, h17, h18⟩ hR
 skip
 subst hH
 rw [ba] at hR
 conv => arg 3; whnf
 try refine zw ?_
 rcases iteE hR with ⟨c53, hR⟩ | ⟨c53, hR⟩
 ·obtain ⟨x54, x54_e, hR⟩ := bindE hR
  obtain ⟨g55, hR⟩ := grdE hR
  have g55_w := ac g55
  try refine zu ?_
  (refine yw0 (id := 46) oz20 ?_)
  try refine zw ?_
  rcases iteE hR with ⟨c56, hR⟩ | ⟨c56, hR⟩
  ·obtain ⟨c56_1, c56_2⟩ := ed c56
   obtain ⟨g57, hR⟩ := grdE hR
   obtain ⟨g57_a, g57_b⟩ := g57
   have g57_s := cutV (P := Tryz.prog) (V.int .i64) Tryz.underlying30 sz3 (fun _ => rfl) x47.rules none (some (.int .i64 (s51 : Int))) 0 s51 rfl boundN g57_a g57_b
   simp only [List.drop_zero, List.take_length] at g57_s
   obtain ⟨y59, y59_e, hR⟩ := bindE hR
   have y59_k := fun bs H => vE bs H F (x47.rules.take s51) x54 y59 y59_e
   try refine zu ?_
   (refine yw0 (id := 48) oz2 ?_)
   try refine zw ?_
   clear y59_k
   rcases iteE hR with ⟨c60, hR⟩ | ⟨c60, hR⟩
   ·obtain rfl := someE hR
    refine zu ?_
    exact ⟨_, hq, rfl, sl, sl⟩
   ·obtain ⟨g61, hR⟩ := grdE hR
    have g61_w := ac g61
    refine zu ?_
    exact ⟨(s51 + 1), ⟨_, hq, sl, sl, sl, sl⟩, hR.out⟩
  ·obtain rfl := someE hR
   refine zu ?_
   exact ⟨_, hq, rfl, sl, sl⟩
 ·obtain rfl := someE hR
  refine zu ?_
  exact ⟨_, hq, rfl⟩
def cu (F : Nat) (d : Desg) (s44 : Nat) (x47 : Attr) : List Int → Nat → Unit → Option (Oc (Nat × Nat) (Unit))
 | [], s51, _ => some (.b ())
 | x_ :: r_, s51, _ => (if inI ((d.rules.length : Int) - 1) then (if (decide ((0 : Int) ≤ x_) && decide (x_ ≤ ((d.rules.length : Int) - 1))) = true then (if 0 ≤ s51 ∧ s51 ≤ x47.rules.length then ((iz F (x47.rules.take s51) x_).bind fun y59 => (if y59 = true then some (.a (s44, 23)) else cu F d s44 x47 r_ (s51 + 1) ())) else none) else some (.a (s44, 6))) else none)
theorem iW (F : Nat) (d : Desg) (s44 : Nat) (x47 : Attr) (hl_ : x47.rules.length ≤ 1000000) : ∀ r_ i_ k_ (o_ : Unit), x47.rules.drop i_ = r_ → r_.length < k_ → ba F d s44 x47 k_ i_ = cu F d s44 x47 r_ i_ o_
 | _, _, 0, _, _, hk => absurd hk (Nat.not_lt_zero _)
 | [], i_, k_ + 1, _, hd, _ => by rw [ba, cu]; simp only [ai hd, Bool.false_eq_true, if_false]
 | x_ :: r_, i_, k_ + 1, _, hd, hk => by
  have ih := iW F d s44 x47 hl_ r_ (i_ + 1) k_ () (ah hd) (Nat.lt_of_succ_lt_succ hk)
  rw [ba, cu]; simp only [aq hd, ak hd, if_pos (av hd hl_), Option.bind_some, if_true, ih]
def bc (F : Nat) (d : Desg) : Nat → Nat → Option (Oc (Nat × Nat) (Unit))
 | 0, _ => none
 | k + 1, s44 => (if (decide ((s44 : Int) < (d.attrs.length : Int))) = true then ((d.attrs[s44]?).bind fun x47 => (if (decide ((0 : Int) ≤ x47.kind) && decide (x47.kind ≤ 3)) = true then (if (decide ((x47.rules.length : Int) = 0)) = true then some (.a (s44, 10)) else (if (decide ((16 : Int) < (x47.rules.length : Int))) = true then some (.a (s44, 10)) else ((ba F d s44 x47 F 0).bind fun o62 => match o62 with | .a o63 => some (.a (o63.1, o63.2)) | .b o65 => (if inI ((s44 : Int) + 1) then bc F d k (s44 + 1) else none)))) else some (.a (s44, 15)))) else some (.b ()))
theorem of (bs : List Nat) (H : Heap) (F : Nat) (d : Desg) : ∀ k s r ρ H', (∃ J45, H' = H ++ .cells [.str d.name, .list (d.inputs.map encPort), .list (d.elements.map encElem), .list (d.nodes.map encNode), .list (d.rules.map encRul), .list (d.outs.map encOutp), .list (d.attrs.map encAttr)] :: J45 ∧ ρ 1 = .ptr H.length 0 ∧ ρ 16 = .int .i64 (s : Int)) → bc F d k s = some r → Lp X ⟨185, H.length :: bs⟩ (loopAt Tryz.f38 2) ρ H' ((fun r ex ρ H' => match r with | .a r => ∃ J45, H' = H ++ .cells [.str d.name, .list (d.inputs.map encPort), .list (d.elements.map encElem), .list (d.nodes.map encNode), .list (d.rules.map encRul), .list (d.outs.map encOutp), .list (d.attrs.map encAttr)] :: J45 ∧ ex = .ret ∧ ρ 2 = .int .i64 (r.1 : Int) ∧ ρ 3 = .int .i64 (r.2 : Int) | .b r => ∃ J45, H' = H ++ .cells [.str d.name, .list (d.inputs.map encPort), .list (d.elements.map encElem), .list (d.nodes.map encNode), .list (d.rules.map encRul), .list (d.outs.map encOutp), .list (d.attrs.map encAttr)] :: J45 ∧ ex = .exit 4) r) := by
 refine ae (fun _ => rfl) ?_
 rintro k s44 r ρ H' ⟨J45, hH, h1, h16⟩ hR
 skip
 subst hH
 rw [bc] at hR
 conv => arg 3; whnf
 try refine zw ?_
 rcases iteE hR with ⟨c46, hR⟩ | ⟨c46, hR⟩
 ·obtain ⟨x47, x47_e, hR⟩ := bindE hR
  try refine zw ?_
  rcases iteE hR with ⟨c48, hR⟩ | ⟨c48, hR⟩
  ·obtain ⟨c48_1, c48_2⟩ := ed c48
   try refine zw ?_
   rcases iteE hR with ⟨c49, hR⟩ | ⟨c49, hR⟩
   ·obtain rfl := someE hR
    refine zu ?_
    exact ⟨_, hq, rfl, sl, sl⟩
   ·try refine zw ?_
    rcases iteE hR with ⟨c50, hR⟩ | ⟨c50, hR⟩
    ·obtain rfl := someE hR
     refine zu ?_
     exact ⟨_, hq, rfl, sl, sl⟩
    ·obtain ⟨o62, o62_e, hR⟩ := bindE hR
     refine zu ?_
     refine ab (af (c := (loopAt Tryz.f38 3)) rfl (od _ H F d s44 J45 x47 _ 0 o62 _ _ ⟨_, hq, sl, sl, sl, sl⟩ o62_e)) ?_
     rcases o62 with o63 | o65
     ·rintro ex ρ' H' ⟨J64, rfl, rfl, q2_o63, q3_o63⟩ hf
      clear hf
      obtain rfl := someE hR
      refine zu ?_
      exact ⟨_, hq, rfl, sl, sl⟩
     ·rintro ex ρ' H' ⟨J66, rfl, rfl⟩ hf
      have q1_o65 : ρ' 1 = .ptr H.length 0 := (hf 1 rfl).trans (sl)
      have q16_o65 : ρ' 16 = .int .i64 (s44 : Int) := (hf 16 rfl).trans (sl)
      clear hf
      obtain ⟨g67, hR⟩ := grdE hR
      have g67_w := ac g67
      refine zu ?_
      exact ⟨(s44 + 1), ⟨_, hq, sl, sl⟩, hR.out⟩
  ·obtain rfl := someE hR
   refine zu ?_
   exact ⟨_, hq, rfl, sl, sl⟩
 ·obtain rfl := someE hR
  refine zu ?_
  exact ⟨_, hq, rfl⟩
def cv (F : Nat) (d : Desg) : List Attr → Nat → Unit → Option (Oc (Nat × Nat) (Unit))
 | [], s44, _ => some (.b ())
 | x_ :: r_, s44, _ => (if (decide ((0 : Int) ≤ x_.kind) && decide (x_.kind ≤ 3)) = true then (if (decide ((x_.rules.length : Int) = 0)) = true then some (.a (s44, 10)) else (if (decide ((16 : Int) < (x_.rules.length : Int))) = true then some (.a (s44, 10)) else ((ba F d s44 x_ F 0).bind fun o62 => match o62 with | .a o63 => some (.a (o63.1, o63.2)) | .b o65 => cv F d r_ (s44 + 1) ()))) else some (.a (s44, 15)))
theorem iX (F : Nat) (d : Desg) (hl_ : d.attrs.length ≤ 1000000) : ∀ r_ i_ k_ (o_ : Unit), d.attrs.drop i_ = r_ → r_.length < k_ → bc F d k_ i_ = cv F d r_ i_ o_
 | _, _, 0, _, _, hk => absurd hk (Nat.not_lt_zero _)
 | [], i_, k_ + 1, _, hd, _ => by rw [bc, cv]; simp only [ai hd, Bool.false_eq_true, if_false]
 | x_ :: r_, i_, k_ + 1, _, hd, hk => by
  have ih := iX F d hl_ r_ (i_ + 1) k_ () (ah hd) (Nat.lt_of_succ_lt_succ hk)
  rw [bc, cv]; simp only [aq hd, ak hd, if_pos (av hd hl_), Option.bind_some, if_true, ih]
def fN (F : Nat) (d : Desg) : Option (Int × Int) := (if d.name.size ≤ 1000000 then (if (isNameS d.name) = true then ((fc F d.inputs).bind fun y3 => (if (decide (¬y3.2 = 0)) = true then some (y3.1, y3.2) else ((eZ F d.inputs d.elements).bind fun y5 => (if (decide (¬y5.2 = 0)) = true then some (y5.1, y5.2) else ((fd F d).bind fun y7 => (if y7.length ≤ 1000000 then (if d.nodes.length ≤ 1000000 then (if ∀ x ∈ d.nodes, x.args.length ≤ 1000000 then (if (decide (¬(nodesErrR y7 d.nodes).2 = 0)) = true then some ((nodesErrR y7 d.nodes).1, (nodesErrR y7 d.nodes).2) else (if (decide ((16 : Int) < (d.rules.length : Int))) = true then some (0, 8) else ((aZ F d F 0).bind fun o36 => match o36 with | .a o37 => some ((o37.1 : Int), o37.2) | .b o39 => ((ek F d.nodes d.outs).bind fun y41 => (if (decide (¬y41.2 = 0)) = true then some (y41.1, y41.2) else (if (decide ((16 : Int) < (d.attrs.length : Int))) = true then some (0, 8) else ((bc F d F 0).bind fun o68 => match o68 with | .a o69 => some ((o69.1 : Int), (o69.2 : Int)) | .b o71 => some (0, 0)))))))) else none) else none) else none)))))) else some (0, 4)) else none)
theorem qi (bs : List Nat) (H : Heap) (F : Nat) (d : Desg) (R : Int × Int) (hR0 : fN F d = some R) : callw X bs 38 [(encDesg d)] H = some (.tuple [.int .i64 R.1, .int .i64 R.2], H) := by
 refine yw2 (rs := [.tmp 2, .tmp 3]) (N := 185) (fn := Tryz.f38) xk38 Tryz.func38 ?_
 have hR := Kp.mk hR0
 clear hR0
 rw [fN] at hR
 (try simp only [cellsDesg, encDesg, encInts])
 obtain ⟨g1, hR⟩ := grdE hR
 have g1_k := fun bs H => ld bs H d.name g1
 try refine zw ?_
 clear g1_k
 rcases iteE hR with ⟨c2, hR⟩ | ⟨c2, hR⟩
 ·obtain ⟨y3, y3_e, hR⟩ := bindE hR
  have y3_k := fun bs H => qM bs H F d.inputs y3 y3_e
  try refine zw ?_
  clear y3_k
  rcases iteE hR with ⟨c4, hR⟩ | ⟨c4, hR⟩
  ·obtain rfl := someE hR
   exact zv
  ·obtain ⟨y5, y5_e, hR⟩ := bindE hR
   have y5_k := fun bs H => oK bs H F d.inputs d.elements y5 y5_e
   try refine zw ?_
   clear y5_k
   rcases iteE hR with ⟨c6, hR⟩ | ⟨c6, hR⟩
   ·obtain rfl := someE hR
    exact zv
   ·obtain ⟨y7, y7_e, hR⟩ := bindE hR
    have y7_k := fun bs H => jB bs H F d y7 y7_e
    (try simp only [cellsDesg, encDesg, encInts] at y7_k)
    obtain ⟨g8, hR⟩ := grdE hR
    obtain ⟨g9, hR⟩ := grdE hR
    obtain ⟨g10, hR⟩ := grdE hR
    have k11_k := fun bs H => xW bs H y7 d.nodes g8 g9 g10
    try refine zu ?_
    (refine yw1 (id := 9) [0, 2, 3, 1, 4, 5, 6, 7, 8, 9] [(2, 3)] ?_)
    try refine zw ?_
    clear y7_k k11_k
    rcases iteE hR with ⟨c12, hR⟩ | ⟨c12, hR⟩
    ·obtain rfl := someE hR
     exact zv
    ·try refine zw ?_
     rcases iteE hR with ⟨c13, hR⟩ | ⟨c13, hR⟩
     ·obtain rfl := someE hR
      exact zv
     ·obtain ⟨o36, o36_e, hR⟩ := bindE hR
      refine zu ?_
      refine ab (af (c := (loopAt Tryz.f38 0)) rfl (oc _ H F d _ 0 o36 _ _ ⟨_, hq, sl, sl⟩ o36_e)) ?_
      rcases o36 with o37 | o39
      ·rintro ex ρ' H' ⟨J38, rfl, rfl, q2_o37, q3_o37⟩ hf
       clear hf
       obtain rfl := someE hR
       exact zv
      ·rintro ex ρ' H' ⟨J40, rfl, rfl⟩ hf
       have q1_o39 : ρ' 1 = .ptr H.length 0 := (hf 1 rfl).trans (sl)
       clear hf
       obtain ⟨y41, y41_e, hR⟩ := bindE hR
       have y41_k := fun bs H => pK bs H F d.nodes d.outs y41 y41_e
       try refine zw ?_
       clear y41_k
       rcases iteE hR with ⟨c42, hR⟩ | ⟨c42, hR⟩
       ·obtain rfl := someE hR
        exact zv
       ·try refine zw ?_
        rcases iteE hR with ⟨c43, hR⟩ | ⟨c43, hR⟩
        ·obtain rfl := someE hR
         exact zv
        ·obtain ⟨o68, o68_e, hR⟩ := bindE hR
         refine zu ?_
         refine ab (af (c := (loopAt Tryz.f38 2)) rfl (of _ H F d _ 0 o68 _ _ ⟨_, hq, sl, sl⟩ o68_e)) ?_
         rcases o68 with o69 | o71
         ·rintro ex ρ' H' ⟨J70, rfl, rfl, q2_o69, q3_o69⟩ hf
          clear hf
          obtain rfl := someE hR
          exact zv
         ·rintro ex ρ' H' ⟨J72, rfl, rfl⟩ hf
          clear hf
          obtain rfl := someE hR
          exact zv
 ·obtain rfl := someE hR
  exact zv
def cP (F : Nat) (d : Desg) : Nat → Nat → Option (Oc (Bool) (Unit))
 | 0, _ => none
 | k + 1, s10 => (if (decide ((s10 : Int) < (d.nodes.length : Int))) = true then ((d.nodes[s10]?).bind fun x13 => (if (decide ((5 : Int) < (x13.args.length : Int))) = true then some (.a false) else (if inI ((s10 : Int) + 1) then cP F d k (s10 + 1) else none))) else some (.b ()))
theorem lR (bs : List Nat) (H : Heap) (F : Nat) (d : Desg) : ∀ k s r ρ H', (∃ J11, H' = H ++ .cells [.str d.name, .list (d.inputs.map encPort), .list (d.elements.map encElem), .list (d.nodes.map encNode), .list (d.rules.map encRul), .list (d.outs.map encOutp), .list (d.attrs.map encAttr)] :: J11 ∧ ρ 1 = .ptr H.length 0 ∧ ρ 3 = .int .i64 (s : Int)) → cP F d k s = some r → Lp X ⟨161, H.length :: bs⟩ (loopAt Tryz.f12 0) ρ H' ((fun r ex ρ H' => match r with | .a r => ∃ J11, H' = H ++ .cells [.str d.name, .list (d.inputs.map encPort), .list (d.elements.map encElem), .list (d.nodes.map encNode), .list (d.rules.map encRul), .list (d.outs.map encOutp), .list (d.attrs.map encAttr)] :: J11 ∧ ex = .ret ∧ ρ 2 = .bool r | .b r => ∃ J11, H' = H ++ .cells [.str d.name, .list (d.inputs.map encPort), .list (d.elements.map encElem), .list (d.nodes.map encNode), .list (d.rules.map encRul), .list (d.outs.map encOutp), .list (d.attrs.map encAttr)] :: J11 ∧ ex = .exit 0) r) := by
 refine ae (fun _ => rfl) ?_
 rintro k s10 r ρ H' ⟨J11, hH, h1, h3⟩ hR
 skip
 subst hH
 rw [cP] at hR
 conv => arg 3; whnf
 try refine zw ?_
 rcases iteE hR with ⟨c12, hR⟩ | ⟨c12, hR⟩
 ·obtain ⟨x13, x13_e, hR⟩ := bindE hR
  try refine zw ?_
  rcases iteE hR with ⟨c14, hR⟩ | ⟨c14, hR⟩
  ·obtain rfl := someE hR
   refine zu ?_
   exact ⟨_, hq, rfl, sl⟩
  ·obtain ⟨g15, hR⟩ := grdE hR
   have g15_w := ac g15
   refine zu ?_
   exact ⟨(s10 + 1), ⟨_, hq, sl, sl⟩, hR.out⟩
 ·obtain rfl := someE hR
  refine zu ?_
  exact ⟨_, hq, rfl⟩
def dC (F : Nat) (d : Desg) : List Node → Nat → Unit → Option (Oc (Bool) (Unit))
 | [], s10, _ => some (.b ())
 | x_ :: r_, s10, _ => (if (decide ((5 : Int) < (x_.args.length : Int))) = true then some (.a false) else dC F d r_ (s10 + 1) ())
theorem lm (F : Nat) (d : Desg) (hl_ : d.nodes.length ≤ 1000000) : ∀ r_ i_ k_ (o_ : Unit), d.nodes.drop i_ = r_ → r_.length < k_ → cP F d k_ i_ = dC F d r_ i_ o_
 | _, _, 0, _, _, hk => absurd hk (Nat.not_lt_zero _)
 | [], i_, k_ + 1, _, hd, _ => by rw [cP, dC]; simp only [ai hd, Bool.false_eq_true, if_false]
 | x_ :: r_, i_, k_ + 1, _, hd, hk => by
  have ih := lm F d hl_ r_ (i_ + 1) k_ () (ah hd) (Nat.lt_of_succ_lt_succ hk)
  rw [cP, dC]; simp only [aq hd, ak hd, if_pos (av hd hl_), Option.bind_some, if_true, ih]
def cQ (F : Nat) (d : Desg) : Nat → Nat → Option (Oc (Bool) (Unit))
 | 0, _ => none
 | k + 1, s21 => (if (decide ((s21 : Int) < (d.rules.length : Int))) = true then ((d.rules[s21]?).bind fun x24 => (if (decide ((20 : Int) < (x24.writes.length : Int))) = true then some (.a false) else (if (decide ((40 : Int) < (x24.name.size : Int))) = true then some (.a false) else (if inI ((s21 : Int) + 1) then cQ F d k (s21 + 1) else none)))) else some (.b ()))
theorem lS (bs : List Nat) (H : Heap) (F : Nat) (d : Desg) : ∀ k s r ρ H', (∃ J22, H' = H ++ .cells [.str d.name, .list (d.inputs.map encPort), .list (d.elements.map encElem), .list (d.nodes.map encNode), .list (d.rules.map encRul), .list (d.outs.map encOutp), .list (d.attrs.map encAttr)] :: J22 ∧ ρ 1 = .ptr H.length 0 ∧ ρ 4 = .int .i64 (s : Int)) → cQ F d k s = some r → Lp X ⟨161, H.length :: bs⟩ (loopAt Tryz.f12 1) ρ H' ((fun r ex ρ H' => match r with | .a r => ∃ J22, H' = H ++ .cells [.str d.name, .list (d.inputs.map encPort), .list (d.elements.map encElem), .list (d.nodes.map encNode), .list (d.rules.map encRul), .list (d.outs.map encOutp), .list (d.attrs.map encAttr)] :: J22 ∧ ex = .ret ∧ ρ 2 = .bool r | .b r => ∃ J22, H' = H ++ .cells [.str d.name, .list (d.inputs.map encPort), .list (d.elements.map encElem), .list (d.nodes.map encNode), .list (d.rules.map encRul), .list (d.outs.map encOutp), .list (d.attrs.map encAttr)] :: J22 ∧ ex = .exit 2) r) := by
 refine ae (fun _ => rfl) ?_
 rintro k s21 r ρ H' ⟨J22, hH, h1, h4⟩ hR
 skip
 subst hH
 rw [cQ] at hR
 conv => arg 3; whnf
 try refine zw ?_
 rcases iteE hR with ⟨c23, hR⟩ | ⟨c23, hR⟩
 ·obtain ⟨x24, x24_e, hR⟩ := bindE hR
  try refine zw ?_
  rcases iteE hR with ⟨c25, hR⟩ | ⟨c25, hR⟩
  ·obtain rfl := someE hR
   refine zu ?_
   exact ⟨_, hq, rfl, sl⟩
  ·try refine zw ?_
   rcases iteE hR with ⟨c27, hR⟩ | ⟨c27, hR⟩
   ·obtain rfl := someE hR
    refine zu ?_
    exact ⟨_, hq, rfl, sl⟩
   ·obtain ⟨g28, hR⟩ := grdE hR
    have g28_w := ac g28
    refine zu ?_
    exact ⟨(s21 + 1), ⟨_, hq, sl, sl⟩, hR.out⟩
 ·obtain rfl := someE hR
  refine zu ?_
  exact ⟨_, hq, rfl⟩
def dD (F : Nat) (d : Desg) : List Rul → Nat → Unit → Option (Oc (Bool) (Unit))
 | [], s21, _ => some (.b ())
 | x_ :: r_, s21, _ => (if (decide ((20 : Int) < (x_.writes.length : Int))) = true then some (.a false) else (if (decide ((40 : Int) < (x_.name.size : Int))) = true then some (.a false) else dD F d r_ (s21 + 1) ()))
theorem lq (F : Nat) (d : Desg) (hl_ : d.rules.length ≤ 1000000) : ∀ r_ i_ k_ (o_ : Unit), d.rules.drop i_ = r_ → r_.length < k_ → cQ F d k_ i_ = dD F d r_ i_ o_
 | _, _, 0, _, _, hk => absurd hk (Nat.not_lt_zero _)
 | [], i_, k_ + 1, _, hd, _ => by rw [cQ, dD]; simp only [ai hd, Bool.false_eq_true, if_false]
 | x_ :: r_, i_, k_ + 1, _, hd, hk => by
  have ih := lq F d hl_ r_ (i_ + 1) k_ () (ah hd) (Nat.lt_of_succ_lt_succ hk)
  rw [cQ, dD]; simp only [aq hd, ak hd, if_pos (av hd hl_), Option.bind_some, if_true, ih]
def cR (F : Nat) (d : Desg) : Nat → Nat → Option (Oc (Bool) (Unit))
 | 0, _ => none
 | k + 1, s34 => (if (decide ((s34 : Int) < (d.attrs.length : Int))) = true then ((d.attrs[s34]?).bind fun x37 => (if (decide ((20 : Int) < (x37.rules.length : Int))) = true then some (.a false) else (if inI ((s34 : Int) + 1) then cR F d k (s34 + 1) else none))) else some (.b ()))
theorem lT (bs : List Nat) (H : Heap) (F : Nat) (d : Desg) : ∀ k s r ρ H', (∃ J35, H' = H ++ .cells [.str d.name, .list (d.inputs.map encPort), .list (d.elements.map encElem), .list (d.nodes.map encNode), .list (d.rules.map encRul), .list (d.outs.map encOutp), .list (d.attrs.map encAttr)] :: J35 ∧ ρ 1 = .ptr H.length 0 ∧ ρ 5 = .int .i64 (s : Int)) → cR F d k s = some r → Lp X ⟨161, H.length :: bs⟩ (loopAt Tryz.f12 2) ρ H' ((fun r ex ρ H' => match r with | .a r => ∃ J35, H' = H ++ .cells [.str d.name, .list (d.inputs.map encPort), .list (d.elements.map encElem), .list (d.nodes.map encNode), .list (d.rules.map encRul), .list (d.outs.map encOutp), .list (d.attrs.map encAttr)] :: J35 ∧ ex = .ret ∧ ρ 2 = .bool r | .b r => ∃ J35, H' = H ++ .cells [.str d.name, .list (d.inputs.map encPort), .list (d.elements.map encElem), .list (d.nodes.map encNode), .list (d.rules.map encRul), .list (d.outs.map encOutp), .list (d.attrs.map encAttr)] :: J35 ∧ ex = .exit 4) r) := by
 refine ae (fun _ => rfl) ?_
 rintro k s34 r ρ H' ⟨J35, hH, h1, h5⟩ hR
 skip
 subst hH
 rw [cR] at hR
 conv => arg 3; whnf
 try refine zw ?_
 rcases iteE hR with ⟨c36, hR⟩ | ⟨c36, hR⟩
 ·obtain ⟨x37, x37_e, hR⟩ := bindE hR
  try refine zw ?_
  rcases iteE hR with ⟨c38, hR⟩ | ⟨c38, hR⟩
  ·obtain rfl := someE hR
   refine zu ?_
   exact ⟨_, hq, rfl, sl⟩
  ·obtain ⟨g39, hR⟩ := grdE hR
   have g39_w := ac g39
   refine zu ?_
   exact ⟨(s34 + 1), ⟨_, hq, sl, sl⟩, hR.out⟩
 ·obtain rfl := someE hR
  refine zu ?_
  exact ⟨_, hq, rfl⟩
def dE (F : Nat) (d : Desg) : List Attr → Nat → Unit → Option (Oc (Bool) (Unit))
 | [], s34, _ => some (.b ())
 | x_ :: r_, s34, _ => (if (decide ((20 : Int) < (x_.rules.length : Int))) = true then some (.a false) else dE F d r_ (s34 + 1) ())
theorem lr (F : Nat) (d : Desg) (hl_ : d.attrs.length ≤ 1000000) : ∀ r_ i_ k_ (o_ : Unit), d.attrs.drop i_ = r_ → r_.length < k_ → cR F d k_ i_ = dE F d r_ i_ o_
 | _, _, 0, _, _, hk => absurd hk (Nat.not_lt_zero _)
 | [], i_, k_ + 1, _, hd, _ => by rw [cR, dE]; simp only [ai hd, Bool.false_eq_true, if_false]
 | x_ :: r_, i_, k_ + 1, _, hd, hk => by
  have ih := lr F d hl_ r_ (i_ + 1) k_ () (ah hd) (Nat.lt_of_succ_lt_succ hk)
  rw [cR, dE]; simp only [aq hd, ak hd, if_pos (av hd hl_), Option.bind_some, if_true, ih]
def cS (F : Nat) (d : Desg) : Nat → Nat → Option (Oc (Bool) (Unit))
 | 0, _ => none
 | k + 1, s45 => (if (decide ((s45 : Int) < (d.inputs.length : Int))) = true then ((d.inputs[s45]?).bind fun x48 => (if (decide ((40 : Int) < (x48.name.size : Int))) = true then some (.a false) else (if inI ((s45 : Int) + 1) then cS F d k (s45 + 1) else none))) else some (.b ()))
theorem lU (bs : List Nat) (H : Heap) (F : Nat) (d : Desg) : ∀ k s r ρ H', (∃ J46, H' = H ++ .cells [.str d.name, .list (d.inputs.map encPort), .list (d.elements.map encElem), .list (d.nodes.map encNode), .list (d.rules.map encRul), .list (d.outs.map encOutp), .list (d.attrs.map encAttr)] :: J46 ∧ ρ 1 = .ptr H.length 0 ∧ ρ 6 = .int .i64 (s : Int)) → cS F d k s = some r → Lp X ⟨161, H.length :: bs⟩ (loopAt Tryz.f12 3) ρ H' ((fun r ex ρ H' => match r with | .a r => ∃ J46, H' = H ++ .cells [.str d.name, .list (d.inputs.map encPort), .list (d.elements.map encElem), .list (d.nodes.map encNode), .list (d.rules.map encRul), .list (d.outs.map encOutp), .list (d.attrs.map encAttr)] :: J46 ∧ ex = .ret ∧ ρ 2 = .bool r | .b r => ∃ J46, H' = H ++ .cells [.str d.name, .list (d.inputs.map encPort), .list (d.elements.map encElem), .list (d.nodes.map encNode), .list (d.rules.map encRul), .list (d.outs.map encOutp), .list (d.attrs.map encAttr)] :: J46 ∧ ex = .exit 6) r) := by
 refine ae (fun _ => rfl) ?_
 rintro k s45 r ρ H' ⟨J46, hH, h1, h6⟩ hR
 skip
 subst hH
 rw [cS] at hR
 conv => arg 3; whnf
 try refine zw ?_
 rcases iteE hR with ⟨c47, hR⟩ | ⟨c47, hR⟩
 ·obtain ⟨x48, x48_e, hR⟩ := bindE hR
  try refine zw ?_
  rcases iteE hR with ⟨c49, hR⟩ | ⟨c49, hR⟩
  ·obtain rfl := someE hR
   refine zu ?_
   exact ⟨_, hq, rfl, sl⟩
  ·obtain ⟨g50, hR⟩ := grdE hR
   have g50_w := ac g50
   refine zu ?_
   exact ⟨(s45 + 1), ⟨_, hq, sl, sl⟩, hR.out⟩
 ·obtain rfl := someE hR
  refine zu ?_
  exact ⟨_, hq, rfl⟩
def dF (F : Nat) (d : Desg) : List Port → Nat → Unit → Option (Oc (Bool) (Unit))
 | [], s45, _ => some (.b ())
 | x_ :: r_, s45, _ => (if (decide ((40 : Int) < (x_.name.size : Int))) = true then some (.a false) else dF F d r_ (s45 + 1) ())
theorem lu (F : Nat) (d : Desg) (hl_ : d.inputs.length ≤ 1000000) : ∀ r_ i_ k_ (o_ : Unit), d.inputs.drop i_ = r_ → r_.length < k_ → cS F d k_ i_ = dF F d r_ i_ o_
 | _, _, 0, _, _, hk => absurd hk (Nat.not_lt_zero _)
 | [], i_, k_ + 1, _, hd, _ => by rw [cS, dF]; simp only [ai hd, Bool.false_eq_true, if_false]
 | x_ :: r_, i_, k_ + 1, _, hd, hk => by
  have ih := lu F d hl_ r_ (i_ + 1) k_ () (ah hd) (Nat.lt_of_succ_lt_succ hk)
  rw [cS, dF]; simp only [aq hd, ak hd, if_pos (av hd hl_), Option.bind_some, if_true, ih]
def cT (F : Nat) (d : Desg) : Nat → Nat → Option (Oc (Bool) (Unit))
 | 0, _ => none
 | k + 1, s56 => (if (decide ((s56 : Int) < (d.elements.length : Int))) = true then ((d.elements[s56]?).bind fun x59 => (if (decide ((40 : Int) < (x59.name.size : Int))) = true then some (.a false) else (if inI ((s56 : Int) + 1) then cT F d k (s56 + 1) else none))) else some (.b ()))
theorem lV (bs : List Nat) (H : Heap) (F : Nat) (d : Desg) : ∀ k s r ρ H', (∃ J57, H' = H ++ .cells [.str d.name, .list (d.inputs.map encPort), .list (d.elements.map encElem), .list (d.nodes.map encNode), .list (d.rules.map encRul), .list (d.outs.map encOutp), .list (d.attrs.map encAttr)] :: J57 ∧ ρ 1 = .ptr H.length 0 ∧ ρ 7 = .int .i64 (s : Int)) → cT F d k s = some r → Lp X ⟨161, H.length :: bs⟩ (loopAt Tryz.f12 4) ρ H' ((fun r ex ρ H' => match r with | .a r => ∃ J57, H' = H ++ .cells [.str d.name, .list (d.inputs.map encPort), .list (d.elements.map encElem), .list (d.nodes.map encNode), .list (d.rules.map encRul), .list (d.outs.map encOutp), .list (d.attrs.map encAttr)] :: J57 ∧ ex = .ret ∧ ρ 2 = .bool r | .b r => ∃ J57, H' = H ++ .cells [.str d.name, .list (d.inputs.map encPort), .list (d.elements.map encElem), .list (d.nodes.map encNode), .list (d.rules.map encRul), .list (d.outs.map encOutp), .list (d.attrs.map encAttr)] :: J57 ∧ ex = .exit 8) r) := by
 refine ae (fun _ => rfl) ?_
 rintro k s56 r ρ H' ⟨J57, hH, h1, h7⟩ hR
 skip
 subst hH
 rw [cT] at hR
 conv => arg 3; whnf
 try refine zw ?_
 rcases iteE hR with ⟨c58, hR⟩ | ⟨c58, hR⟩
 ·obtain ⟨x59, x59_e, hR⟩ := bindE hR
  try refine zw ?_
  rcases iteE hR with ⟨c60, hR⟩ | ⟨c60, hR⟩
  ·obtain rfl := someE hR
   refine zu ?_
   exact ⟨_, hq, rfl, sl⟩
  ·obtain ⟨g61, hR⟩ := grdE hR
   have g61_w := ac g61
   refine zu ?_
   exact ⟨(s56 + 1), ⟨_, hq, sl, sl⟩, hR.out⟩
 ·obtain rfl := someE hR
  refine zu ?_
  exact ⟨_, hq, rfl⟩
def dG (F : Nat) (d : Desg) : List Elem → Nat → Unit → Option (Oc (Bool) (Unit))
 | [], s56, _ => some (.b ())
 | x_ :: r_, s56, _ => (if (decide ((40 : Int) < (x_.name.size : Int))) = true then some (.a false) else dG F d r_ (s56 + 1) ())
theorem lx (F : Nat) (d : Desg) (hl_ : d.elements.length ≤ 1000000) : ∀ r_ i_ k_ (o_ : Unit), d.elements.drop i_ = r_ → r_.length < k_ → cT F d k_ i_ = dG F d r_ i_ o_
 | _, _, 0, _, _, hk => absurd hk (Nat.not_lt_zero _)
 | [], i_, k_ + 1, _, hd, _ => by rw [cT, dG]; simp only [ai hd, Bool.false_eq_true, if_false]
 | x_ :: r_, i_, k_ + 1, _, hd, hk => by
  have ih := lx F d hl_ r_ (i_ + 1) k_ () (ah hd) (Nat.lt_of_succ_lt_succ hk)
  rw [cT, dG]; simp only [aq hd, ak hd, if_pos (av hd hl_), Option.bind_some, if_true, ih]
def cU (F : Nat) (d : Desg) : Nat → Nat → Option (Oc (Bool) (Unit))
 | 0, _ => none
 | k + 1, s67 => (if (decide ((s67 : Int) < (d.outs.length : Int))) = true then ((d.outs[s67]?).bind fun x70 => (if (decide ((40 : Int) < (x70.name.size : Int))) = true then some (.a false) else (if inI ((s67 : Int) + 1) then cU F d k (s67 + 1) else none))) else some (.b ()))
theorem lW (bs : List Nat) (H : Heap) (F : Nat) (d : Desg) : ∀ k s r ρ H', (∃ J68, H' = H ++ .cells [.str d.name, .list (d.inputs.map encPort), .list (d.elements.map encElem), .list (d.nodes.map encNode), .list (d.rules.map encRul), .list (d.outs.map encOutp), .list (d.attrs.map encAttr)] :: J68 ∧ ρ 1 = .ptr H.length 0 ∧ ρ 8 = .int .i64 (s : Int)) → cU F d k s = some r → Lp X ⟨161, H.length :: bs⟩ (loopAt Tryz.f12 5) ρ H' ((fun r ex ρ H' => match r with | .a r => ∃ J68, H' = H ++ .cells [.str d.name, .list (d.inputs.map encPort), .list (d.elements.map encElem), .list (d.nodes.map encNode), .list (d.rules.map encRul), .list (d.outs.map encOutp), .list (d.attrs.map encAttr)] :: J68 ∧ ex = .ret ∧ ρ 2 = .bool r | .b r => ∃ J68, H' = H ++ .cells [.str d.name, .list (d.inputs.map encPort), .list (d.elements.map encElem), .list (d.nodes.map encNode), .list (d.rules.map encRul), .list (d.outs.map encOutp), .list (d.attrs.map encAttr)] :: J68 ∧ ex = .exit 10) r) := by
 refine ae (fun _ => rfl) ?_
 rintro k s67 r ρ H' ⟨J68, hH, h1, h8⟩ hR
 skip
 subst hH
 rw [cU] at hR
 conv => arg 3; whnf
 try refine zw ?_
 rcases iteE hR with ⟨c69, hR⟩ | ⟨c69, hR⟩
 ·obtain ⟨x70, x70_e, hR⟩ := bindE hR
  try refine zw ?_
  rcases iteE hR with ⟨c71, hR⟩ | ⟨c71, hR⟩
  ·obtain rfl := someE hR
   refine zu ?_
   exact ⟨_, hq, rfl, sl⟩
  ·obtain ⟨g72, hR⟩ := grdE hR
   have g72_w := ac g72
   refine zu ?_
   exact ⟨(s67 + 1), ⟨_, hq, sl, sl⟩, hR.out⟩
 ·obtain rfl := someE hR
  refine zu ?_
  exact ⟨_, hq, rfl⟩
def dH (F : Nat) (d : Desg) : List Outp → Nat → Unit → Option (Oc (Bool) (Unit))
 | [], s67, _ => some (.b ())
 | x_ :: r_, s67, _ => (if (decide ((40 : Int) < (x_.name.size : Int))) = true then some (.a false) else dH F d r_ (s67 + 1) ())
theorem ly (F : Nat) (d : Desg) (hl_ : d.outs.length ≤ 1000000) : ∀ r_ i_ k_ (o_ : Unit), d.outs.drop i_ = r_ → r_.length < k_ → cU F d k_ i_ = dH F d r_ i_ o_
 | _, _, 0, _, _, hk => absurd hk (Nat.not_lt_zero _)
 | [], i_, k_ + 1, _, hd, _ => by rw [cU, dH]; simp only [ai hd, Bool.false_eq_true, if_false]
 | x_ :: r_, i_, k_ + 1, _, hd, hk => by
  have ih := ly F d hl_ r_ (i_ + 1) k_ () (ah hd) (Nat.lt_of_succ_lt_succ hk)
  rw [cU, dH]; simp only [aq hd, ak hd, if_pos (av hd hl_), Option.bind_some, if_true, ih]
def iM (F : Nat) (d : Desg) : Option (Bool) := (if (decide ((40 : Int) < (d.name.size : Int))) = true then some false else (if (decide ((45 : Int) < (d.inputs.length : Int))) = true then some false else (if (decide ((45 : Int) < (d.elements.length : Int))) = true then some false else (if (decide ((60 : Int) < (d.nodes.length : Int))) = true then (if (decide ((d.nodes.length : Int) ≤ 400)) = true then some false else (if (decide ((405 : Int) < (d.nodes.length : Int))) = true then some false else (if (decide ((20 : Int) < (d.rules.length : Int))) = true then some false else (if (decide ((20 : Int) < (d.outs.length : Int))) = true then some false else (if (decide ((20 : Int) < (d.attrs.length : Int))) = true then some false else ((cP F d F 0).bind fun o16 => match o16 with | .a o17 => some o17 | .b o19 => ((cQ F d F 0).bind fun o29 => match o29 with | .a o30 => some o30 | .b o32 => ((cR F d F 0).bind fun o40 => match o40 with | .a o41 => some o41 | .b o43 => ((cS F d F 0).bind fun o51 => match o51 with | .a o52 => some o52 | .b o54 => ((cT F d F 0).bind fun o62 => match o62 with | .a o63 => some o63 | .b o65 => ((cU F d F 0).bind fun o73 => match o73 with | .a o74 => some o74 | .b o76 => some true))))))))))) else (if (decide ((405 : Int) < (d.nodes.length : Int))) = true then some false else (if (decide ((20 : Int) < (d.rules.length : Int))) = true then some false else (if (decide ((20 : Int) < (d.outs.length : Int))) = true then some false else (if (decide ((20 : Int) < (d.attrs.length : Int))) = true then some false else ((cP F d F 0).bind fun o88 => match o88 with | .a o89 => some o89 | .b o91 => ((cQ F d F 0).bind fun o101 => match o101 with | .a o102 => some o102 | .b o104 => ((cR F d F 0).bind fun o112 => match o112 with | .a o113 => some o113 | .b o115 => ((cS F d F 0).bind fun o123 => match o123 with | .a o124 => some o124 | .b o126 => ((cT F d F 0).bind fun o134 => match o134 with | .a o135 => some o135 | .b o137 => ((cU F d F 0).bind fun o145 => match o145 with | .a o146 => some o146 | .b o148 => some true))))))))))))))
theorem uh (bs : List Nat) (H : Heap) (F : Nat) (d : Desg) (R : Bool) (hR0 : iM F d = some R) : callw X bs 12 [(encDesg d)] H = some (.bool R, H) := by
 refine yw2 (rs := [.tmp 2]) (N := 161) (fn := Tryz.f12) xk12 Tryz.func12 ?_
 have hR := Kp.mk hR0
 clear hR0
 rw [iM] at hR
 (try simp only [cellsDesg, encDesg, encInts])
 try refine zw ?_
 rcases iteE hR with ⟨c1, hR⟩ | ⟨c1, hR⟩
 ·obtain rfl := someE hR
  exact zv
 ·try refine zw ?_
  rcases iteE hR with ⟨c2, hR⟩ | ⟨c2, hR⟩
  ·obtain rfl := someE hR
   exact zv
  ·try refine zw ?_
   rcases iteE hR with ⟨c3, hR⟩ | ⟨c3, hR⟩
   ·obtain rfl := someE hR
    exact zv
   ·try refine zw ?_
    rcases iteE hR with ⟨c4, hR⟩ | ⟨c4, hR⟩
    ·try refine zw ?_
     rcases iteE hR with ⟨c5, hR⟩ | ⟨c5, hR⟩
     ·obtain rfl := someE hR
      exact zv
     ·try refine zw ?_
      rcases iteE hR with ⟨c6, hR⟩ | ⟨c6, hR⟩
      ·obtain rfl := someE hR
       exact zv
      ·try refine zw ?_
       rcases iteE hR with ⟨c7, hR⟩ | ⟨c7, hR⟩
       ·obtain rfl := someE hR
        exact zv
       ·try refine zw ?_
        rcases iteE hR with ⟨c8, hR⟩ | ⟨c8, hR⟩
        ·obtain rfl := someE hR
         exact zv
        ·try refine zw ?_
         rcases iteE hR with ⟨c9, hR⟩ | ⟨c9, hR⟩
         ·obtain rfl := someE hR
          exact zv
         ·obtain ⟨o16, o16_e, hR⟩ := bindE hR
          refine zu ?_
          refine ab (af (c := (loopAt Tryz.f12 0)) rfl (lR _ H F d _ 0 o16 _ _ ⟨_, hq, sl, sl⟩ o16_e)) ?_
          rcases o16 with o17 | o19
          ·rintro ex ρ' H' ⟨J18, rfl, rfl, q2_o17⟩ hf
           clear hf
           obtain rfl := someE hR
           exact zv
          ·rintro ex ρ' H' ⟨J20, rfl, rfl⟩ hf
           have q1_o19 : ρ' 1 = .ptr H.length 0 := (hf 1 rfl).trans (sl)
           clear hf
           obtain ⟨o29, o29_e, hR⟩ := bindE hR
           refine zu ?_
           refine ab (af (c := (loopAt Tryz.f12 1)) rfl (lS _ H F d _ 0 o29 _ _ ⟨_, hq, sl, sl⟩ o29_e)) ?_
           rcases o29 with o30 | o32
           ·rintro ex ρ' H' ⟨J31, rfl, rfl, q2_o30⟩ hf
            clear hf
            obtain rfl := someE hR
            exact zv
           ·rintro ex ρ' H' ⟨J33, rfl, rfl⟩ hf
            have q1_o32 : ρ' 1 = .ptr H.length 0 := (hf 1 rfl).trans (sl)
            clear hf
            obtain ⟨o40, o40_e, hR⟩ := bindE hR
            refine zu ?_
            refine ab (af (c := (loopAt Tryz.f12 2)) rfl (lT _ H F d _ 0 o40 _ _ ⟨_, hq, sl, sl⟩ o40_e)) ?_
            rcases o40 with o41 | o43
            ·rintro ex ρ' H' ⟨J42, rfl, rfl, q2_o41⟩ hf
             clear hf
             obtain rfl := someE hR
             exact zv
            ·rintro ex ρ' H' ⟨J44, rfl, rfl⟩ hf
             have q1_o43 : ρ' 1 = .ptr H.length 0 := (hf 1 rfl).trans (sl)
             clear hf
             obtain ⟨o51, o51_e, hR⟩ := bindE hR
             refine zu ?_
             refine ab (af (c := (loopAt Tryz.f12 3)) rfl (lU _ H F d _ 0 o51 _ _ ⟨_, hq, sl, sl⟩ o51_e)) ?_
             rcases o51 with o52 | o54
             ·rintro ex ρ' H' ⟨J53, rfl, rfl, q2_o52⟩ hf
              clear hf
              obtain rfl := someE hR
              exact zv
             ·rintro ex ρ' H' ⟨J55, rfl, rfl⟩ hf
              have q1_o54 : ρ' 1 = .ptr H.length 0 := (hf 1 rfl).trans (sl)
              clear hf
              obtain ⟨o62, o62_e, hR⟩ := bindE hR
              refine zu ?_
              refine ab (af (c := (loopAt Tryz.f12 4)) rfl (lV _ H F d _ 0 o62 _ _ ⟨_, hq, sl, sl⟩ o62_e)) ?_
              rcases o62 with o63 | o65
              ·rintro ex ρ' H' ⟨J64, rfl, rfl, q2_o63⟩ hf
               clear hf
               obtain rfl := someE hR
               exact zv
              ·rintro ex ρ' H' ⟨J66, rfl, rfl⟩ hf
               have q1_o65 : ρ' 1 = .ptr H.length 0 := (hf 1 rfl).trans (sl)
               clear hf
               obtain ⟨o73, o73_e, hR⟩ := bindE hR
               refine zu ?_
               refine ab (af (c := (loopAt Tryz.f12 5)) rfl (lW _ H F d _ 0 o73 _ _ ⟨_, hq, sl, sl⟩ o73_e)) ?_
               rcases o73 with o74 | o76
               ·rintro ex ρ' H' ⟨J75, rfl, rfl, q2_o74⟩ hf
                clear hf
                obtain rfl := someE hR
                exact zv
               ·rintro ex ρ' H' ⟨J77, rfl, rfl⟩ hf
                clear hf
                obtain rfl := someE hR
                exact zv
    ·try refine zw ?_
     rcases iteE hR with ⟨c78, hR⟩ | ⟨c78, hR⟩
     ·obtain rfl := someE hR
      exact zv
     ·try refine zw ?_
      rcases iteE hR with ⟨c79, hR⟩ | ⟨c79, hR⟩
      ·obtain rfl := someE hR
       exact zv
      ·try refine zw ?_
       rcases iteE hR with ⟨c80, hR⟩ | ⟨c80, hR⟩
       ·obtain rfl := someE hR
        exact zv
       ·try refine zw ?_
        rcases iteE hR with ⟨c81, hR⟩ | ⟨c81, hR⟩
        ·obtain rfl := someE hR
         exact zv
        ·obtain ⟨o88, o88_e, hR⟩ := bindE hR
         refine zu ?_
         refine ab (af (c := (loopAt Tryz.f12 0)) rfl (lR _ H F d _ 0 o88 _ _ ⟨_, hq, sl, sl⟩ o88_e)) ?_
         rcases o88 with o89 | o91
         ·rintro ex ρ' H' ⟨J90, rfl, rfl, q2_o89⟩ hf
          clear hf
          obtain rfl := someE hR
          exact zv
         ·rintro ex ρ' H' ⟨J92, rfl, rfl⟩ hf
          have q1_o91 : ρ' 1 = .ptr H.length 0 := (hf 1 rfl).trans (sl)
          clear hf
          obtain ⟨o101, o101_e, hR⟩ := bindE hR
          refine zu ?_
          refine ab (af (c := (loopAt Tryz.f12 1)) rfl (lS _ H F d _ 0 o101 _ _ ⟨_, hq, sl, sl⟩ o101_e)) ?_
          rcases o101 with o102 | o104
          ·rintro ex ρ' H' ⟨J103, rfl, rfl, q2_o102⟩ hf
           clear hf
           obtain rfl := someE hR
           exact zv
          ·rintro ex ρ' H' ⟨J105, rfl, rfl⟩ hf
           have q1_o104 : ρ' 1 = .ptr H.length 0 := (hf 1 rfl).trans (sl)
           clear hf
           obtain ⟨o112, o112_e, hR⟩ := bindE hR
           refine zu ?_
           refine ab (af (c := (loopAt Tryz.f12 2)) rfl (lT _ H F d _ 0 o112 _ _ ⟨_, hq, sl, sl⟩ o112_e)) ?_
           rcases o112 with o113 | o115
           ·rintro ex ρ' H' ⟨J114, rfl, rfl, q2_o113⟩ hf
            clear hf
            obtain rfl := someE hR
            exact zv
           ·rintro ex ρ' H' ⟨J116, rfl, rfl⟩ hf
            have q1_o115 : ρ' 1 = .ptr H.length 0 := (hf 1 rfl).trans (sl)
            clear hf
            obtain ⟨o123, o123_e, hR⟩ := bindE hR
            refine zu ?_
            refine ab (af (c := (loopAt Tryz.f12 3)) rfl (lU _ H F d _ 0 o123 _ _ ⟨_, hq, sl, sl⟩ o123_e)) ?_
            rcases o123 with o124 | o126
            ·rintro ex ρ' H' ⟨J125, rfl, rfl, q2_o124⟩ hf
             clear hf
             obtain rfl := someE hR
             exact zv
            ·rintro ex ρ' H' ⟨J127, rfl, rfl⟩ hf
             have q1_o126 : ρ' 1 = .ptr H.length 0 := (hf 1 rfl).trans (sl)
             clear hf
             obtain ⟨o134, o134_e, hR⟩ := bindE hR
             refine zu ?_
             refine ab (af (c := (loopAt Tryz.f12 4)) rfl (lV _ H F d _ 0 o134 _ _ ⟨_, hq, sl, sl⟩ o134_e)) ?_
             rcases o134 with o135 | o137
             ·rintro ex ρ' H' ⟨J136, rfl, rfl, q2_o135⟩ hf
              clear hf
              obtain rfl := someE hR
              exact zv
             ·rintro ex ρ' H' ⟨J138, rfl, rfl⟩ hf
              have q1_o137 : ρ' 1 = .ptr H.length 0 := (hf 1 rfl).trans (sl)
              clear hf
              obtain ⟨o145, o145_e, hR⟩ := bindE hR
              refine zu ?_
              refine ab (af (c := (loopAt Tryz.f12 5)) rfl (lW _ H F d _ 0 o145 _ _ ⟨_, hq, sl, sl⟩ o145_e)) ?_
              rcases o145 with o146 | o148
              ·rintro ex ρ' H' ⟨J147, rfl, rfl, q2_o146⟩ hf
               clear hf
               obtain rfl := someE hR
               exact zv
              ·rintro ex ρ' H' ⟨J149, rfl, rfl⟩ hf
               clear hf
               obtain rfl := someE hR
               exact zv
end
end Go.E
namespace Go.E
open Go.Proofs
set_option maxRecDepth 100000
set_option maxHeartbeats 4000000
end Go.E
namespace Go.E
open Go.Proofs
set_option maxRecDepth 100000
set_option maxHeartbeats 4000000
end Go.E
