/- Soundness of E: code. Own work. -/
import Derived.Test.YtbnakdpmjlcneaaGreatP1
set_option linter.all false
namespace Go.E

def exOf : Ex → Exit
  | .normal => .normal
  | .exit id => .exit id
  | .ret => .ret

/-- A region that draws is sound. -/
def DrawOk (cx : Cx) : Prop :=
  ∀ (r : Option Nat) (fx : Fx) (call : CallSem), CallOk cx call → ∀ (id : Nat) (ops : Array Oper) (Q : Exit → Act → World → Prop) (g : G) (w : World) (H H' : Heap) (ρ ρ' : Env) (a : Act),
    evDraw cx fx call ops ρ H = some (ρ', H') → Sim fx.bs g H w → ERel g w ρ a.tmps fx.n →
    (∀ a' w' g', Out fx.bs g w H g' w' H' → ERel g' w' ρ' a'.tmps fx.n → a'.defers = a.defers → Q .normal a' w') → (Code.region id ops true).wpIn (FR r) 0 cx.P Q a w

/-! ### A range over a function -/
theorem ERel.bear {g g' : G} {w w' : World} {ρ : Env} {ts : Array Value} {n : Nat} (h : ERel g w ρ ts n) (x : Bears g w g' w') : ERel g' w' ρ ts n := ⟨h.size, fun i => (h.rel i).bear x⟩

theorem putAll_rel {g : G} {w : World} {n : Nat} : ∀ (ps : List Nat) (args : List V) (args' : List Value) (ρ ρ1 : Env) (ts : Array Value), putAll n ρ (ps.zip args) = some ρ1 → ERel g w ρ ts n → ArgsR g w args args' →
    ERel g w ρ1 ((ps.zip args').foldl (fun t (p : Nat × Value) => t.setIfInBounds p.1 p.2) ts) n
  | [], _, _, ρ, ρ1, ts, h, hE, _ => by simp [putAll] at h; subst h; exact hE
  | p :: ps, [], args', ρ, ρ1, ts, h, hE, hA => by
    have : args' = [] := List.eq_nil_of_length_eq_zero (by simpa using hA.1)
    subst this
    simp [putAll] at h; subst h; exact hE
  | p :: ps, x :: args, [], ρ, ρ1, ts, h, hE, hA => by have := hA.1; simp at this
  | p :: ps, x :: args, x' :: args', ρ, ρ1, ts, h, hE, hA => by
    simp only [List.zip_cons_cons, putAll] at h
    split at h
    · rename_i hp
      exact putAll_rel ps args args' _ ρ1 _ h (hE.put hp (hA.2 0 x x' rfl rfl)) ⟨by have := hA.1; simpa using this, fun j y y' hy hy' => hA.2 (j + 1) y y' (by simpa using hy) (by simpa using hy')⟩
    · cases h

def codeOf : Ex → Option Code
  | .normal => none
  | .exit id => some (.exit id)
  | .ret => some .ret

theorem enter_ok {P : Program} {bs : List Nat} {r : Option Nat} {g : G} {w : World} {H : Heap} (hS : Sim bs g H w) (hR : ROk r g w) (fn : FuncId) (tmps : Array Value) (ps : Array Tmp) (assign body : Code) :
    ∃ (L : Nat) (ms : List Nat) (D : Nat) (w1 : World), (Instr.enterLoop fn tmps ps assign body r).run P w = .ok (L, ms.map mkD) w1 ∧
      w1.heap[L]? = some (.loop { state := .ready, pending := none, fn, tmps, params := ps, assign, body, defers := D }) ∧ w.heap.size ≤ L ∧ (∀ j, g.O L j = .none) ∧ ms.Nodup ∧
      (∀ D ∈ ms, w.heap.size ≤ D ∧ D ≠ L ∧ MarkAt g w1 D) ∧ Sim bs g H w1 ∧ Ext g w g w1 := by
  have hnone : ∀ b, w.heap.size ≤ b → ∀ j, g.O b j = .none := fun b hb j => by
    cases h : g.O b j with
    | none => rfl
    | imm => have := hS.old b j (by rw [h]; simp); omega
    | res id => have := hS.old b j (by rw [h]; simp); omega
  cases r with
  | none =>
    refine ⟨w.heap.size + 1, [w.heap.size], w.heap.size, _, run_enterLoop_outer fn tmps ps assign body, ?_, by omega, hnone _ (by omega), by simp, fun D hD => ?_, hS.allocFree.allocFree, ?_⟩
    · have := World.alloc_heap_new (w.alloc (.deferred (some []))) (.loop { state := .ready, pending := none, fn, tmps, params := ps, assign, body, defers := w.heap.size })
      rwa [World.size_alloc] at this
    · simp only [List.mem_singleton] at hD
      subst hD
      exact ⟨Nat.le_refl _, by omega, (Go.RowKit.Below.heap_alloc _ _ _ (by simp)).trans (World.alloc_heap_new w _), hnone _ (Nat.le_refl _)⟩
    · exact (ext_alloc hS.old).trans (ext_alloc (fun b k h => by have := hS.old b k h; simp; omega))
  | some l =>
    obtain ⟨rec, h1, h2⟩ := hR l rfl
    exact ⟨w.heap.size, [], rec.defers, _, run_enterLoop_inner h1 fn tmps ps assign body, World.alloc_heap_new w _, Nat.le_refl _, hnone _ (Nat.le_refl _), by simp, by simp, hS.allocFree, ext_alloc hS.old⟩

/-- What is shown of a piece of code. -/
def SubOk (cx : Cx) (call : CallSem) (fx : Fx) (k : Nat) (c : Code) : Prop :=
  ∀ (r : Option Nat) (Q : Exit → Act → World → Prop) (g : G) (w : World) (H H' : Heap) (ρ ρ' : Env) (a : Act) (ex : Ex),
    evCode cx fx (loopn k) call c ρ H = some (ex, ρ', H') → Sim fx.bs g H w → ROk r g w → ERel g w ρ a.tmps fx.n →
    (∀ a' w' g', Out fx.bs g w H g' w' H' → ERel g' w' ρ' a'.tmps fx.n → Mk w.heap.size g' w' a.defers a'.defers → Q (exOf ex) a' w') → c.wpIn (FR r) 0 cx.P Q a w

theorem range_wp {cx : Cx} {call : CallSem} {fx : Fx} {k : Nat} (hI : IterOk cx) {f : Operand} {ps : Array Tmp} {assign body : Code} (ihA : SubOk cx call fx k assign) (ihB : SubOk cx call fx k body)
    {r : Option Nat} {Q : Exit → Act → World → Prop} {g : G} {w : World} {H H' : Heap} {ρ ρ' : Env} {a : Act} {ex : Ex}
    (h : (match opnd ρ f with
      | .func gf caps => (cx.iter gf caps).bind fun l => (evRounds (evCode cx fx (loopn k) call assign) (evCode cx fx (loopn k) call body) fx.n ps.toList ρ l H).map fun z => (z.1, ρ, z.2)
      | _ => none) = some (ex, ρ', H')) (hS : Sim fx.bs g H w) (hR : ROk r g w) (hE : ERel g w ρ a.tmps fx.n)
    (hn : ∀ a' w' g', Out fx.bs g w H g' w' H' → ERel g' w' ρ' a'.tmps fx.n → Mk w.heap.size g' w' a.defers a'.defers → Q (exOf ex) a' w') : (Code.rangeFunc f ps assign body).wpIn (FR r) 0 cx.P Q a w := by
  have hf := hE.opnd f
  split at h
  case h_2 => cases h
  rename_i gf caps hop
  rw [hop] at hf
  cases hit : cx.iter gf caps with
  | none => simp [hit] at h
  | some l =>
  rw [hit] at h
  simp only [Option.bind_some] at h
  generalize hfA : evCode cx fx (loopn k) call assign = fA at h
  generalize hfB : evCode cx fx (loopn k) call body = fB at h
  cases hr : evRounds fA fB fx.n ps.toList ρ l H with
  | none => simp [hr] at h
  | some z =>
  obtain ⟨ex0, H0⟩ := z
  rw [hr] at h
  simp only [Option.map_some, Option.some.injEq, Prod.mk.injEq] at h
  obtain ⟨rfl, rfl, rfl⟩ := h
  obtain ⟨⟨gfn, hgf, hgb, hgn⟩, hiter⟩ := hI gf caps l hit
  generalize hev : a.eval f = fv at hf
  cases hf
  rename_i vs hvs hvr
  refine wpIn_rangeFunc (fun fn _ => ?_)
  obtain ⟨L, ms, D, w1, e1, e2, e3, e4, e5, e6, e7, e8⟩ := enter_ok (P := cx.P) hS hR fn a.tmps ps assign body
  have hcall : ∀ args w, (callFunc gf args).run cx.P w = .ok (.enter gf args) w := fun args w => by
    have hb2 : gfn.body.isNone = false := by cases hq : gfn.body <;> simp [hq] at hgb ⊢
    simp only [callFunc, run_program, Sem.run_bind, Result.andThen_ok, hgf]
    simp [hgn, hb2]
  refine ⟨L, ms.map mkD, w1, { target := .fn (.func gf) vs, args := #[.func (.yield L) #[] #[]] }, w1, gf, #[.func (.yield L) #[] #[]] ++ vs, w1, e1, ?_, fun _ _ => trivial, ?_, (fun h => by cases h), ?_⟩
  · simp only [resolve, hev]; simp [go_sem]
  · simp [invoke, go_sem, hcall]
  refine callsIn_FR.2 ?_
  have hA : ArgsR g w caps vs.toList := ⟨by simpa using hvs, fun j x x' hx hx' => hvr j x x' hx (by simpa using hx')⟩
  let rec_ : LoopState → Option Code → Loop := fun st pe => { state := st, pending := pe, fn, tmps := a.tmps, params := ps, assign, body, defers := D }
  let J : Nat → World → Prop := fun j W => ∃ g' Hk, Out fx.bs g w H g' W Hk ∧ W.heap[L]? = some (.loop (rec_ .ready none)) ∧ (∀ i, g'.O L i = .none) ∧ (∀ D ∈ ms, MarkAt g' W D) ∧
    evRounds fA fB fx.n ps.toList ρ (l.drop j) Hk = some (ex0, H0)
  let Jx : World → Prop := fun W => ∃ g' c, Out fx.bs g w H g' W H0 ∧ W.heap[L]? = some (.loop (rec_ .done (some c))) ∧ (∀ i, g'.O L i = .none) ∧ (∀ D ∈ ms, MarkAt g' W D) ∧ codeOf ex0 = some c
  have hD1 : ∀ (g' : G) (W : World) (Hk : Heap), Out fx.bs g w H g' W Hk → Out fx.bs g w H g' { W with drawn := W.drawn + 1 } Hk := fun g' W Hk o => ⟨o.sim.drawn, o.ext.trans (drawn_ext g' W), o.len, o.dom⟩
  have hJ1 : ∀ j W, J j W → ∃ g', Bears g w g' W := fun j W ⟨g', Hk, o, _⟩ => ⟨g', o.ext.bears⟩
  have hJ2 : ∀ j W, J j W → J j { W with drawn := W.drawn + 1 } := fun j W ⟨g', Hk, o, k1, k2, k3, k4⟩ => ⟨g', Hk, hD1 g' W Hk o, k1, k2, k3, k4⟩
  have hJ3 : ∀ W, Jx W → Jx { W with drawn := W.drawn + 1 } := fun W ⟨g', c, o, k1, k2, k3, k4⟩ => ⟨g', c, hD1 g' W _ o, k1, k2, k3, k4⟩
  have hJ0 : J 0 w1 := ⟨g, H, ⟨e7, e8, Nat.le_refl _, fun id => ⟨.inl, fun h => h.resolve_right (by omega)⟩⟩, e2, e4, fun D hD => (e6 D hD).2.2, by simpa using hr⟩
  have hY : ∀ j args W args', l[j]? = some args → J j W → (∀ g', Bears g w g' W → ArgsR g' W args args') →
      YieldAt Fence.wide 0 cx.P L args'.toArray W fun e W' => (e = .returned (.bool true) ∧ J (j + 1) W') ∨ (e = .returned (.bool false) ∧ Jx W') := by
    rintro j args W args' hj ⟨g', Hk, o, k1, k2, k3, k4⟩ hargs
    have hargs := hargs g' o.ext.bears
    have hjl := (List.getElem?_eq_some_iff.1 hj)
    rw [List.drop_eq_getElem_cons hjl.1, hjl.2] at k4
    simp only [evRounds] at k4
    split at k4
    case isFalse => cases k4
    rename_i hlen
    cases hp : putAll fx.n ρ (ps.toList.zip args) with
    | none => simp [hp] at k4
    | some ρ1 =>
    simp only [hp, Option.bind_some] at k4
    have hsz : args'.toArray.size = ps.size := by have := hargs.1; simp only [List.size_toArray]; simpa [hlen] using this
    refine ⟨fn, _, assign, body, run_yield k1 hsz, ?_⟩
    have hE1 : ERel g' W ρ1 ((ps.zip args'.toArray).foldl (fun tmps (x : Nat × Value) => tmps.setIfInBounds x.1 x.2) a.tmps) fx.n := by
      have := putAll_rel ps.toList args args' ρ ρ1 a.tmps hp (hE.mono o.ext) hargs
      rw [← Array.foldl_toList]
      simpa using this
    have hRL : ROk (some L) g' W := fun l' hl' => by cases hl'; exact ⟨_, k1, k2⟩
    refine roundIn_of_wpIn (F := Fence.wide) trivial ?_
    cases hqA : fA ρ1 Hk with
    | none => simp [hqA] at k4
    | some zA =>
    obtain ⟨exA, ρ2, H2⟩ := zA
    rw [hqA] at k4
    cases exA with
    | exit id => simp at k4
    | ret => simp at k4
    | normal =>
    simp only at k4
    refine ihA (some L) _ g' W Hk H2 ρ1 ρ2 { tmps := _, defers := [] } .normal (by rw [hfA]; exact hqA) o.sim hRL hE1 (fun a2 W2 g2 o2 E2 _ => ?_)
    obtain ⟨q1, q2⟩ := o2.ext.keepsFree k1 k2
    refine ⟨_, run_beginRound q1 rfl, ?_⟩
    have hL2 : L < W2.heap.size := (Array.getElem?_eq_some_iff.1 q1).1
    have hb2 : (W2.putObj L (.loop { rec_ .ready none with state := .busy })).heap[L]? = some (.loop { rec_ .ready none with state := .busy }) := World.putObj_heap_same hL2
    cases hqB : fB ρ2 H2 with
    | none => simp [hqB] at k4
    | some zB =>
    obtain ⟨exB, ρ3, H3⟩ := zB
    rw [hqB] at k4
    refine ihB (some L) _ g2 _ H2 H3 ρ2 ρ3 a2 exB (by rw [hfB]; exact hqB) (o2.sim.putFree q2) (fun l' hl' => by cases hl'; exact ⟨_, hb2, q2⟩) (E2.bear (bears_put q2)) (fun a3 W3 g3 o3 _ _ => ?_)
    obtain ⟨p1, p2⟩ := o3.ext.keepsFree hb2 q2
    have hL3 : L < W3.heap.size := (Array.getElem?_eq_some_iff.1 p1).1
    have ow : Out fx.bs g w H g3 W3 H3 := by
      have oa : Out fx.bs g w H g2 (W2.putObj L (.loop { rec_ .ready none with state := .busy })) H2 := (o.trans o2).putFree e3 q2
      exact oa.trans o3
    have marks : ∀ ob, ∀ D ∈ ms, MarkAt g3 (W3.putObj L ob) D := fun ob D hD =>
      ((((k3 D hD).mono o2.ext).put (e6 D hD).2.1).mono o3.ext).put (e6 D hD).2.1
    have fin : ∀ jump, (Instr.endRound L jump).run cx.P W3 = .ok (.bool jump.isNone) (W3.putObj L (.loop (rec_ (if jump.isNone then .ready else .done) jump))) := fun jump => run_endRound jump p1
    cases exB with
    | normal =>
      simp only at k4
      exact ⟨_, _, fin none, .inl ⟨rfl, g3, H3, ow.putFree e3 p2, World.putObj_heap_same hL3, p2, marks _, k4⟩⟩
    | exit id =>
      simp only [Option.some.injEq, Prod.mk.injEq] at k4
      obtain ⟨rfl, rfl⟩ := k4
      exact ⟨_, _, fin (some (.exit id)), .inr ⟨rfl, g3, _, ow.putFree e3 p2, World.putObj_heap_same hL3, p2, marks _, rfl⟩⟩
    | ret =>
      simp only [Option.some.injEq, Prod.mk.injEq] at k4
      obtain ⟨rfl, rfl⟩ := k4
      exact ⟨_, _, fin (some .ret), .inr ⟨rfl, g3, _, ow.putFree e3 p2, World.putObj_heap_same hL3, p2, marks _, rfl⟩⟩
  have key := hiter g w w1 vs.toList hA L J Jx hJ1 hJ2 hJ3 hY hJ0
  have hvl : vs.toList.toArray = vs := by simp
  rw [hvl] at key
  refine key.mono ?_
  have mk : ∀ (g' : G) (W : World), (∀ D ∈ ms, MarkAt g' W D) → Mk w.heap.size g' W a.defers (ms.map mkD ++ a.defers) := fun g' W hM => ⟨ms, rfl, e5, fun D hD => ⟨(e6 D hD).1, hM D hD⟩⟩
  rintro e W2 ⟨⟨v, rfl⟩, ⟨g', Hk, o, k1, k2, k3, k4⟩ | ⟨g', c, o, k1, k2, k3, k4⟩⟩
  · simp only [List.drop_length, evRounds, Option.some.injEq, Prod.mk.injEq] at k4
    obtain ⟨rfl, rfl⟩ := k4
    refine ⟨none, _, run_endLoop k1 (by simp [rec_]), ?_⟩
    refine hn { a with defers := ms.map mkD ++ a.defers } _ g' (o.putFree e3 k2) (hE.bear (o.putFree e3 k2).ext.bears) (mk g' _ fun D hD => (k3 D hD).put (e6 D hD).2.1)
  · refine ⟨some c, _, run_endLoop k1 (by simp [rec_]), ?_⟩
    have := hn { a with defers := ms.map mkD ++ a.defers } (W2.putObj L (.loop { rec_ .done (some c) with state := .exhausted })) g' (o.putFree e3 k2) (hE.bear (o.putFree e3 k2).ext.bears) (mk g' _ fun D hD => (k3 D hD).put (e6 D hD).2.1)
    cases ex0 with
    | normal => simp [codeOf] at k4
    | exit id => simp [codeOf] at k4; subst k4; exact wpIn_exit this
    | ret => simp [codeOf] at k4; subst k4; exact wpIn_ret this

section
variable {cx : Cx} {call : CallSem} {fx : Fx}

theorem evCode_wp (hC : CallOk cx call) (hD : DrawOk cx) (hI : IterOk cx) (k : Nat) : ∀ (c : Code) (r : Option Nat) (Q : Exit → Act → World → Prop) (g : G) (w : World) (H H' : Heap) (ρ ρ' : Env) (a : Act) (ex : Ex),
    evCode cx fx (loopn k) call c ρ H = some (ex, ρ', H') → Sim fx.bs g H w → ROk r g w → ERel g w ρ a.tmps fx.n →
    (∀ a' w' g', Out fx.bs g w H g' w' H' → ERel g' w' ρ' a'.tmps fx.n → Mk w.heap.size g' w' a.defers a'.defers → Q (exOf ex) a' w') → c.wpIn (FR r) 0 cx.P Q a w := by
  intro c
  induction c with
  | skip =>
    intro r Q g w H H' ρ ρ' a ex h hS hR hE hn
    simp [evCode] at h; obtain ⟨rfl, rfl, rfl⟩ := h
    exact wpIn_skip (hn a w g (Out.refl hS) hE (Mk.refl rfl))
  | label l =>
    intro r Q g w H H' ρ ρ' a ex h hS hR hE hn
    simp [evCode] at h; obtain ⟨rfl, rfl, rfl⟩ := h
    exact wpIn_label (hn a w g (Out.refl hS) hE (Mk.refl rfl))
  | region id ops draw =>
    intro r Q g w H H' ρ ρ' a ex h hS hR hE hn
    simp only [evCode] at h
    cases draw with
    | false =>
      simp only [Bool.false_eq_true, if_false] at h
      cases ho : evOps cx fx call ops ops.toList ρ H with
      | none => simp [ho] at h
      | some s => simp [ho] at h; obtain ⟨rfl, rfl, rfl⟩ := h; exact region_text rfl hC ho hS hE (fun a' w' g' o e d => hn a' w' g' o e (Mk.refl d))
    | true =>
      simp only [if_true] at h
      cases ho : evDraw cx fx call ops ρ H with
      | none => simp [ho] at h
      | some s => simp [ho] at h; obtain ⟨rfl, rfl, rfl⟩ := h; exact hD r fx call hC id ops Q g w H _ ρ _ a ho hS hE (fun a' w' g' o e d => hn a' w' g' o e (Mk.refl d))
  | seq x y ihx ihy =>
    intro r Q g w H H' ρ ρ' a ex h hS hR hE hn
    simp only [evCode] at h
    refine wpIn_seq ?_
    cases hx : evCode cx fx (loopn k) call x ρ H with
    | none => simp [hx] at h
    | some r =>
      obtain ⟨e1, ρ1, H1⟩ := r
      rw [hx] at h
      cases e1 with
      | normal =>
        simp only at h
        exact ihx r _ g w H H1 ρ ρ1 a .normal hx hS hR hE (fun a1 w1 g1 o1 e1 d1 => ihy r _ g1 w1 H1 H' ρ1 ρ' a1 ex h o1.sim (hR.mono o1.ext) e1 (fun a2 w2 g2 o2 e2 d2 => hn a2 w2 g2 (o1.trans o2) e2 (d1.trans o2.ext o1.ext.size d2)))
      | exit id =>
        simp only [Option.some.injEq, Prod.mk.injEq] at h
        obtain ⟨rfl, rfl, rfl⟩ := h
        exact ihx r _ g w H H1 ρ ρ1 a _ hx hS hR hE (fun a1 w1 g1 o1 e1 d1 => hn a1 w1 g1 o1 e1 d1)
      | ret =>
        simp only [Option.some.injEq, Prod.mk.injEq] at h
        obtain ⟨rfl, rfl, rfl⟩ := h
        exact ihx r _ g w H H1 ρ ρ1 a _ hx hS hR hE (fun a1 w1 g1 o1 e1 d1 => hn a1 w1 g1 o1 e1 d1)
  | cond o x y ihx ihy =>
    intro r Q g w H H' ρ ρ' a ex h hS hR hE hn
    simp only [evCode] at h
    have ho := hE.opnd o
    split at h
    · rename_i hb; rw [hb] at ho
      have : a.eval o = .bool true := by generalize a.eval o = z at ho; cases ho; rfl
      exact wpIn_cond_true this (ihx r Q g w H H' ρ ρ' a ex h hS hR hE hn)
    · rename_i hb; rw [hb] at ho
      have : a.eval o = .bool false := by generalize a.eval o = z at ho; cases ho; rfl
      exact wpIn_cond_false this (ihy r Q g w H H' ρ ρ' a ex h hS hR hE hn)
    · cases h
  | block id x ih =>
    intro r Q g w H H' ρ ρ' a ex h hS hR hE hn
    simp only [evCode] at h
    refine wpIn_block ?_
    cases hx : evCode cx fx (loopn k) call x ρ H with
    | none => simp [hx] at h
    | some r =>
      obtain ⟨e1, ρ1, H1⟩ := r
      rw [hx] at h
      cases e1 with
      | normal =>
        simp only [Option.some.injEq, Prod.mk.injEq] at h
        obtain ⟨rfl, rfl, rfl⟩ := h
        exact ih r _ g w H H1 ρ ρ1 a _ hx hS hR hE (fun a1 w1 g1 o1 e1 d1 => hn a1 w1 g1 o1 e1 d1)
      | exit id' =>
        simp only [Option.some.injEq, Prod.mk.injEq] at h
        obtain ⟨rfl, rfl, rfl⟩ := h
        refine ih r _ g w H H1 ρ ρ1 a _ hx hS hR hE (fun a1 w1 g1 o1 e1 d1 => ?_)
        have := hn a1 w1 g1 o1 e1 d1
        by_cases hid : id' = id
        · simpa [exOf, Exit.inBlock, hid] using this
        · simpa [exOf, Exit.inBlock, hid] using this
      | ret =>
        simp only [Option.some.injEq, Prod.mk.injEq] at h
        obtain ⟨rfl, rfl, rfl⟩ := h
        exact ih r _ g w H H1 ρ ρ1 a _ hx hS hR hE (fun a1 w1 g1 o1 e1 d1 => hn a1 w1 g1 o1 e1 d1)
  | loop x ih =>
    intro r Q g w H H' ρ ρ' a ex h hS hR hE hn
    simp only [evCode] at h
    have key : ∀ (m : Nat) (g : G) (w : World) (H : Heap) (ρ : Env) (a : Act), loopn m (evCode cx fx (loopn k) call x) ρ H = some (ex, ρ', H') → Sim fx.bs g H w → ROk r g w → ERel g w ρ a.tmps fx.n →
        (∀ a' w' g', Out fx.bs g w H g' w' H' → ERel g' w' ρ' a'.tmps fx.n → Mk w.heap.size g' w' a.defers a'.defers → Q (exOf ex) a' w') → Code.roundsIn (FR r) 0 cx.P x Q m a w := by
      intro m
      induction m with
      | zero => intro g w H ρ a h; simp [loopn] at h
      | succ m ihm =>
        intro g w H ρ a h hS hR hE hn
        simp only [loopn] at h
        rw [roundsIn_succ]
        cases hx : evCode cx fx (loopn k) call x ρ H with
        | none => simp [hx] at h
        | some r =>
          obtain ⟨e1, ρ1, H1⟩ := r
          rw [hx] at h
          cases e1 with
          | normal =>
            simp only at h
            exact ih r _ g w H H1 ρ ρ1 a .normal hx hS hR hE (fun a1 w1 g1 o1 e1 d1 => ihm g1 w1 H1 ρ1 a1 h o1.sim (hR.mono o1.ext) e1 (fun a2 w2 g2 o2 e2 d2 => hn a2 w2 g2 (o1.trans o2) e2 (d1.trans o2.ext o1.ext.size d2)))
          | exit id =>
            simp only [Option.some.injEq, Prod.mk.injEq] at h
            obtain ⟨rfl, rfl, rfl⟩ := h
            exact ih r _ g w H H1 ρ ρ1 a _ hx hS hR hE (fun a1 w1 g1 o1 e1 d1 => hn a1 w1 g1 o1 e1 d1)
          | ret =>
            simp only [Option.some.injEq, Prod.mk.injEq] at h
            obtain ⟨rfl, rfl, rfl⟩ := h
            exact ih r _ g w H H1 ρ ρ1 a _ hx hS hR hE (fun a1 w1 g1 o1 e1 d1 => hn a1 w1 g1 o1 e1 d1)
    exact wpIn_loop_rounds k (key k g w H ρ a h hS hR hE hn)
  | exit id =>
    intro r Q g w H H' ρ ρ' a ex h hS hR hE hn
    simp [evCode] at h; obtain ⟨rfl, rfl, rfl⟩ := h
    exact wpIn_exit (hn a w g (Out.refl hS) hE (Mk.refl rfl))
  | ret =>
    intro r Q g w H H' ρ ρ' a ex h hS hR hE hn
    simp [evCode] at h; obtain ⟨rfl, rfl, rfl⟩ := h
    exact wpIn_ret (hn a w g (Out.refl hS) hE (Mk.refl rfl))
  | scope x ih =>
    intro r Q g w H H' ρ ρ' a ex h hS hR hE hn
    simp only [evCode] at h
    refine wpIn_scope (ih r _ g w H H' ρ ρ' a ex h hS hR hE (fun a1 w1 g1 o1 e1 d1 => ?_))
    have := hn a1 w1 g1 o1 e1 d1
    cases ex <;> exact this
  | rangeFunc f ps assign body ihA ihB =>
    intro r Q g w H H' ρ ρ' a ex h hS hR hE hn
    simp only [evCode] at h
    exact range_wp hI ihA ihB h hS hR hE hn
  | goto l => intro r Q g w H H' ρ ρ' a ex h; simp [evCode] at h
  | refuse why => intro r Q g w H H' ρ ρ' a ex h; simp [evCode] at h
end
end Go.E
/- Soundness of E: what a call hands back. Own work. -/
namespace Go.E
section
variable {P : Program} {g : G} {w : World} {bs : List Nat} {H : Heap}

mutual
theorem pure_under (n : Nat) : ∀ v : V, v.pure = true → v.under n = true
  | .int .., _ | .bool _, _ | .str _, _ | .nilS, _ | .nilP, _ | .nilF, _ | .nilM, _ | .nilI, _ => rfl
  | .list _, _ => rfl
  | .agg cs, h => pureL_under n cs h
  | .eptr cs _, h => pureL_under n cs h
  | .func _ caps, h => pureL_under n caps h
  | .tl .., h | .ref .., h | .ptr .., h | .aptr .., h | .map _, h | .tuple _, h | .undef, h | .skip, h => by simp [V.pure] at h
theorem pureL_under (n : Nat) : ∀ l : List V, V.pureL l = true → V.underL n l = true
  | [], _ => rfl
  | v :: r, h => by
    simp only [V.pureL, Bool.and_eq_true] at h
    simp only [V.underL, Bool.and_eq_true]
    exact ⟨pure_under n v h.1, pureL_under n r h.2⟩
end

theorem pureL_get {l : List V} {k : Nat} {v : V} (h : V.pureL l = true) (hk : l[k]? = some v) : v.pure = true := by
  induction l generalizing k with
  | nil => simp at hk
  | cons x r ih =>
    simp only [V.pureL, Bool.and_eq_true] at h
    cases k with
    | zero => simp at hk; subst hk; exact h.1
    | succ k => simp at hk; exact ih h.2 hk
theorem underL_get {n : Nat} {l : List V} {k : Nat} {v : V} (h : V.underL n l = true) (hk : l[k]? = some v) : v.under n = true :=
  underL_mem h (List.mem_of_getElem? hk)

/-- Names of things told of lie under n, when all that have a place do. -/
theorem VRel.under {n : Nat} (hn : ∀ id, g.φ id ≠ none → id < n) {v : V} {v' : Value} (h : VRel g w v v') : v.under n = true := by
  have lt : ∀ {id l}, g.φ id = some l → id < n := fun h => hn _ (by rw [h]; simp)
  have all : ∀ {cs : List V} {vs : Array Value}, vs.size = cs.length → (∀ (k : Nat) (v : V) (v' : Value), cs[k]? = some v → vs[k]? = some v' → v.under n = true) → V.underL n cs = true := fun hs ih => by
    refine underL_of (fun v hv => ?_)
    obtain ⟨k, hk⟩ := List.getElem?_of_mem hv
    obtain ⟨hlt, _⟩ := List.getElem?_eq_some_iff.1 hk
    exact ih k v _ hk (by rw [Array.getElem?_eq_getElem (by omega)])
  induction h with
  | tl t es v' base s cap n' h ht hn' hcur ih => simpa [V.under] using lt ht
  | ref _ _ _ _ _ _ _ _ _ _ _ _ _ h => simpa [V.under] using lt h
  | ptr _ _ _ _ _ h => simpa [V.under] using lt h
  | aptr _ _ _ _ _ _ _ _ _ _ _ h => simpa [V.under] using lt h
  | map _ _ h => simpa [V.under] using lt h
  | agg cs vs hs hr ih => exact all hs ih
  | func f cs vs hs hr ih => exact all hs ih
  | tuple cs vs hs hr ih => exact all hs ih
  | eptr cs off b o c hO hc hr ih =>
    refine underL_of (fun v hv => ?_)
    obtain ⟨k, hk⟩ := List.getElem?_of_mem hv
    exact ih k v hk
  | _ => rfl

theorem ORel.under {n id : Nat} (hn : ∀ id, g.φ id ≠ none → id < n) {ob : HObj} {l : Loc} (h : ORel g w id ob l) : objUnder n ob = true := by
  cases h with
  | cells cs b o h hc =>
    refine underL_of (fun v hv => ?_)
    obtain ⟨k, hk⟩ := List.getElem?_of_mem hv
    obtain ⟨v', _, r⟩ := hc k v hk
    exact r.under hn
  | arr es b o s ext ver hext hs h hc =>
    refine underL_of (fun e he => ?_)
    obtain ⟨j, hj⟩ := List.getElem?_of_mem he
    have : V.underL n e.cells = true := underL_of (fun v hv => by
      obtain ⟨k, hk⟩ := List.getElem?_of_mem hv
      obtain ⟨v', _, r⟩ := hc j e k v hj hk
      exact r.under hn)
    cases e <;> first | exact this | simpa [V.cells, V.underL] using this
  | tokNil => rfl
  | tok => rfl
  | map es b clock es' ho hb hs hr =>
    refine List.all_eq_true.2 (fun kv hkv => ?_)
    obtain ⟨k, hk⟩ := List.getElem?_of_mem hkv
    obtain ⟨hlt, _⟩ := List.getElem?_eq_some_iff.1 hk
    obtain ⟨r1, r2⟩ := hr k kv _ hk (by rw [Array.getElem?_eq_getElem (by omega)])
    simp [r1.under hn, r2.under hn]

/-- Things from n0 on lose their place; their cells are written no more. -/
def G.cut (g : G) (n0 : Nat) : G :=
  { O := fun b o => match g.O b o with | .res id => if id < n0 then .res id else .imm | x => x
    φ := fun id => if id < n0 then g.φ id else none }
theorem cut_imm {n0 b o : Nat} (h : g.O b o = .imm) : (g.cut n0).O b o = .imm := by simp [G.cut, h]
theorem cut_res {n0 b o id : Nat} (h : g.O b o = .res id) (hi : n0 ≤ id) : (g.cut n0).O b o = .imm := by simp [G.cut, h, show ¬ id < n0 by omega]
theorem cut_res_lt {n0 b o id : Nat} (h : g.O b o = .res id) (hi : id < n0) : (g.cut n0).O b o = .res id := by simp [G.cut, h, hi]
theorem cut_loc {n0 id : Nat} {l : Loc} (h : g.φ id = some l) (hi : id < n0) : (g.cut n0).φ id = some l := by simp [G.cut, h, hi]

theorem VRel.cut {n0 : Nat} {v : V} {v' : Value} (h : VRel g w v v') : v.under n0 = true → VRel (g.cut n0) w v v' := by
  induction h with
  | int => exact fun _ => .int _ _
  | bool => exact fun _ => .bool _
  | str => exact fun _ => .str _
  | nilS => exact fun _ => .nilS
  | nilP => exact fun _ => .nilP
  | nilF => exact fun _ => .nilF
  | nilM => exact fun _ => .nilM
  | nilI => exact fun _ => .nilI
  | undef v => exact fun _ => .undef v
  | skip => exact fun _ => .skip
  | listNil => exact fun _ => .listNil
  | listZ a => exact fun _ => .listZ a
  | list b o cap s es c hlen hpure hs hO hc hr ih =>
    refine fun _ => .list b o cap s es c hlen hpure hs (fun j i hj hi => cut_imm (hO j i hj hi)) hc (fun j e i v he hv => ih j e i v he hv ?_)
    have := pureL_get hpure he
    refine pure_under _ _ (?_ : v.pure = true)
    cases e <;> simp only [V.cells] at hv <;> (try (cases i <;> simp at hv; subst hv; exact this))
    exact pureL_get this hv
  | tl t es v' base s cap n h ht hn hcur ih => exact fun hu => .tl t es v' base s cap n (ih rfl) (cut_loc ht (by simpa [V.under] using hu)) hn hcur
  | ref s id ver off len cap b o s' ext ver' b' o' h hv hlen hcur => exact fun hu => .ref s id ver off len cap b o s' ext ver' b' o' (cut_loc h (by simpa [V.under] using hu)) hv hlen hcur
  | agg cs vs hs hr ih => exact fun hu => .agg cs vs hs (fun k v v' h1 h2 => ih k v v' h1 h2 (underL_get (by simpa [V.under] using hu) h1))
  | eptr cs off b o c hO hc hr ih => exact fun hu => .eptr cs off b o c (fun i hi => cut_imm (hO i hi)) hc (fun i v hv => ih i v hv (underL_get (by simpa [V.under] using hu) hv))
  | ptr id off b o n h => exact fun hu => .ptr id off b o n (cut_loc h (by simpa [V.under] using hu))
  | aptr id ver i off b o s ext ver' b' o' h hv hcur => exact fun hu => .aptr id ver i off b o s ext ver' b' o' (cut_loc h (by simpa [V.under] using hu)) hv hcur
  | func f cs vs hs hr ih => exact fun hu => .func f cs vs hs (fun k v v' h1 h2 => ih k v v' h1 h2 (underL_get (by simpa [V.under] using hu) h1))
  | map id b h => exact fun hu => .map id b (cut_loc h (by simpa [V.under] using hu))
  | tuple cs vs hs hr ih => exact fun hu => .tuple cs vs hs (fun k v v' h1 h2 => ih k v v' h1 h2 (underL_get (by simpa [V.under] using hu) h1))

theorem ORel.cut {n0 id : Nat} {ob : HObj} {l : Loc} (h : ORel g w id ob l) (hi : id < n0) (hu : objUnder n0 ob = true) : ORel (g.cut n0) w id ob l := by
  cases h with
  | cells cs b o h hc =>
    refine .cells cs b o (fun k hk => ⟨cut_res_lt (h k hk).1 hi, (h k hk).2⟩) (fun k v hv => ?_)
    obtain ⟨v', e, r⟩ := hc k v hv
    exact ⟨v', e, r.cut (underL_get hu hv)⟩
  | arr es b o s ext ver hext hs h hc =>
    refine .arr es b o s ext ver hext hs (fun k hk => ⟨cut_res_lt (h k hk).1 hi, (h k hk).2⟩) (fun j e i v he hv => ?_)
    obtain ⟨v', e1, r⟩ := hc j e i v he hv
    exact ⟨v', e1, r.cut (underL_get (under_cells (underL_get hu he)) hv)⟩
  | tokNil s => exact .tokNil s
  | tok n b o s cap hcap h0 h => exact .tok n b o s cap hcap h0 (fun k h1 h2 => ⟨cut_res_lt (h k h1 h2).1 hi, (h k h1 h2).2⟩)
  | map es b clock es' ho hb hs hr =>
    refine .map es b clock es' (cut_res_lt ho hi) hb hs (fun k kv e h1 h2 => ?_)
    have := List.all_eq_true.1 hu kv (List.mem_of_getElem? h1)
    simp only [Bool.and_eq_true] at this
    exact ⟨(hr k kv e h1 h2).1.cut this.1, (hr k kv e h1 h2).2.cut this.2⟩

theorem mapM_get {α β : Type} {f : α → Option β} : ∀ {l : List α} {r : List β}, l.mapM f = some r → r.length = l.length ∧ (∀ (k : Nat) (b : β), r[k]? = some b → ∃ a, l[k]? = some a ∧ f a = some b) ∧ ∀ (k : Nat) (a : α), l[k]? = some a → ∃ b, r[k]? = some b ∧ f a = some b
  | [], r, h => by simp at h; subst h; simp
  | a :: l, r, h => by
    simp only [List.mapM_cons] at h
    cases h1 : f a with
    | none => simp [h1] at h
    | some b =>
      cases h2 : l.mapM f with
      | none => simp [h1, h2] at h
      | some r2 =>
        simp [h1, h2] at h; subst h
        obtain ⟨i1, i2, i3⟩ := mapM_get h2
        refine ⟨by simp [i1], fun k b2 hk => ?_, fun k a2 hk => ?_⟩
        · cases k with
          | zero => simp at hk; subst hk; exact ⟨a, rfl, h1⟩
          | succ k => simp at hk; simpa using i2 k b2 hk
        · cases k with
          | zero => simp at hk; subst hk; exact ⟨b, rfl, h1⟩
          | succ k => simp at hk; simpa using i3 k a2 hk

/-- Cells of what is read off are read off. -/
theorem frz_cells {n0 : Nat} {H : Heap} {d : Nat} {v u : V} (h : frz d n0 H v = some u) :
    u.cells.length = v.cells.length ∧ ∀ (i : Nat) (x : V), v.cells[i]? = some x → ∃ d' y, d' ≤ d ∧ u.cells[i]? = some y ∧ frz d' n0 H x = some y := by
  have one : (∀ cs, v ≠ .agg cs) → (∀ cs, u ≠ .agg cs) → u.cells.length = v.cells.length ∧ ∀ (i : Nat) (x : V), v.cells[i]? = some x → ∃ d' y, d' ≤ d ∧ u.cells[i]? = some y ∧ frz d' n0 H x = some y := by
    intro h1 h2
    have e1 : v.cells = [v] := by cases v <;> first | rfl | exact absurd rfl (h1 _)
    have e2 : u.cells = [u] := by cases u <;> first | rfl | exact absurd rfl (h2 _)
    rw [e1, e2]
    refine ⟨rfl, fun i x hx => ?_⟩
    cases i with
    | zero => simp at hx; subst hx; exact ⟨d, u, Nat.le_refl _, rfl, h⟩
    | succ i => simp at hx
  have nb : ∀ (cs : List V) (x : Option (List V)), (x.bind fun l => if V.pureL l = true then some (V.list l) else none) ≠ some (.agg cs) := by
    intro cs x hx
    cases x <;> simp at hx
  cases d with
  | zero => simp [frz] at h
  | succ d =>
    by_cases hp : v.pure = true
    · have : u = v := by unfold frz at h; rw [if_pos hp] at h; exact (Option.some.inj h).symm
      subst this
      refine ⟨rfl, fun i x hx => ⟨d + 1, x, Nat.le_refl _, hx, ?_⟩⟩
      have hx2 : x.pure = true := by
        cases u <;> simp only [V.cells] at hx <;> (try (cases i <;> simp at hx; subst hx; exact hp))
        exact pureL_get (by simpa [V.pure] using hp) hx
      unfold frz; rw [if_pos hx2]
    · unfold frz at h
      rw [if_neg hp] at h
      cases v <;> simp only at h <;> (try (cases h; done))
      case agg cs =>
        cases hm : cs.mapM (frz d n0 H) with
        | none => simp [hm] at h
        | some l =>
          simp [hm] at h; subst h
          obtain ⟨i1, i2, i3⟩ := mapM_get hm
          refine ⟨i1, fun i x hx => ?_⟩
          obtain ⟨y, e1, e2⟩ := i3 i x hx
          exact ⟨d, y, by omega, e1, e2⟩
      all_goals
        refine one (fun cs => by simp) (fun cs hc => ?_)
        subst hc
        first
          | (simp at h; done)
          | (split at h <;> (try (simp at h; done)) <;> split at h <;> (try (simp at h; done)) <;> split at h <;> (try (simp at h; done)) <;> exact nb cs _ h)
          | (split at h <;> (try (simp at h; done)) <;> split at h <;> simp at h)
          | (split at h <;> simp at h)

theorem frz_sound {n0 : Nat} (hS : Sim bs g H w) : ∀ (d : Nat) (v u : V) (v' : Value), frz d n0 H v = some u → VRel g w v v' → VRel (g.cut n0) w u v'
  | 0, v, u, v', h, _ => by simp [frz] at h
  | d + 1, v, u, v', h, r => by
    have ih : ∀ d' ≤ d, ∀ (v u : V) (v' : Value), frz d' n0 H v = some u → VRel g w v v' → VRel (g.cut n0) w u v' := fun d' hd' => frz_sound hS d'
    unfold frz at h
    by_cases hp : v.pure = true
    · rw [if_pos hp] at h; cases h; exact r.cut (pure_under _ _ hp)
    · rw [if_neg hp] at h
      cases r with
      | tl t es v' base s cap n hl ht hn hcur => cases h; exact hl.cut rfl
      | ref s id ver off len cap b o s' ext ver' b' o' hφ hv hlen hcur =>
        simp only at h
        split at h
        · rename_i hlt; cases h
          exact (VRel.ref s id ver off len cap b o s' ext ver' b' o' hφ hv hlen hcur).cut (by simpa [V.under] using hlt)
        · rename_i hge
          split at h
          case h_2 => cases h
          rename_i es v0 hH
          split at h
          case isFalse => cases h
          rename_i hc
          obtain ⟨rfl, hle⟩ := hc
          cases hm : ((es.drop off).take len).mapM (frz d n0 H) with
          | none => simp [hm] at h
          | some l =>
            simp only [hm, Option.bind_some] at h
            split at h
            case isFalse => cases h
            rename_i hpl
            cases h
            obtain ⟨rfl, hext, hs, hown, hcell⟩ := obj_arr hS hH hφ
            obtain ⟨rfl, hcur⟩ := hcur rfl
            obtain ⟨i1, i2, i3⟩ := mapM_get hm
            have hll : l.length = len := by rw [i1]; simp; omega
            rw [← hll]
            have hget : ∀ (j : Nat) (e : V), l[j]? = some e → ∃ e0, es[off + j]? = some e0 ∧ frz d n0 H e0 = some e := fun j e he => by
              obtain ⟨a, h1, h2⟩ := i2 j e he
              obtain ⟨hj, _⟩ := List.getElem?_eq_some_iff.1 he
              rw [List.getElem?_take, if_pos (by omega), List.getElem?_drop] at h1
              exact ⟨a, h1, h2⟩
            by_cases hl0 : len = 0
            · refine .list _ _ _ s' _ (fun _ _ => Go.undef) (by omega) hpl (fun j e he => ?_) (fun j i hj => by omega) (fun j i hj => by omega) (fun j e i v he => ?_)
              · obtain ⟨hj, _⟩ := List.getElem?_eq_some_iff.1 he; omega
              · obtain ⟨hj, _⟩ := List.getElem?_eq_some_iff.1 he; omega
            · obtain ⟨rfl, rfl, hcap⟩ := hcur (by omega)
              have bnd : ∀ j i, j < len → i < s' → (off + j) * s' + i < ext := fun j i hj hi => by
                have : (off + j + 1) * s' ≤ (off + cap) * s' := Nat.mul_le_mul_right s' (by omega)
                rw [Nat.add_mul (off + j)] at this; omega
              have pos : ∀ j i, o + off * s' + j * s' + i = o + ((off + j) * s' + i) := fun j i => by rw [Nat.add_mul]; omega
              refine .list _ _ _ s' _ (fun j i => (w.cell? ⟨b', o + off * s' + j * s' + i, none⟩).getD Go.undef) (by omega) hpl (fun j e he => ?_) (fun j i hj hi => ?_) (fun j i hj hi => ?_) (fun j e i v he hv => ?_)
              · obtain ⟨e0, h1, h2⟩ := hget j e he
                rw [(frz_cells h2).1]; exact hs _ _ h1
              · rw [pos]; exact cut_res (hown _ (bnd j i (by omega) hi)).1 (by omega)
              · obtain ⟨x, hx⟩ := (hown _ (bnd j i (by omega) hi)).2.2
                rw [pos, hx]; rfl
              · obtain ⟨e0, h1, h2⟩ := hget j e he
                obtain ⟨f1, f2⟩ := frz_cells h2
                obtain ⟨hi, _⟩ := List.getElem?_eq_some_iff.1 hv
                obtain ⟨d', y, hd', h3, h4⟩ := f2 i (e0.cells[i]'(by omega)) (by simp)
                rw [hv] at h3; cases h3
                obtain ⟨x, hx, r⟩ := hcell (off + j) e0 i (e0.cells[i]'(by omega)) h1 (by simp)
                rw [pos, ← Nat.add_assoc, hx]
                exact ih d' hd' _ _ _ h4 r
      | agg cs vs hs hr =>
        simp only at h
        cases hm : cs.mapM (frz d n0 H) with
        | none => simp [hm] at h
        | some l =>
          simp [hm] at h; subst h
          obtain ⟨i1, i2, i3⟩ := mapM_get hm
          refine .agg _ _ (by omega) (fun k x x' hx hx' => ?_)
          obtain ⟨y, h1, h2⟩ := i2 k x hx
          exact ih d (Nat.le_refl _) _ _ _ h2 (hr k y x' h1 hx')
      | func f cs vs hs hr =>
        simp only at h
        cases hm : cs.mapM (frz d n0 H) with
        | none => simp [hm] at h
        | some l =>
          simp [hm] at h; subst h
          obtain ⟨i1, i2, i3⟩ := mapM_get hm
          refine .func _ _ _ (by omega) (fun k x x' hx hx' => ?_)
          obtain ⟨y, h1, h2⟩ := i2 k x hx
          exact ih d (Nat.le_refl _) _ _ _ h2 (hr k y x' h1 hx')
      | eptr cs off b o c hO hc hr =>
        simp only at h
        cases hm : cs.mapM (frz d n0 H) with
        | none => simp [hm] at h
        | some l =>
          simp [hm] at h; subst h
          obtain ⟨i1, i2, i3⟩ := mapM_get hm
          refine .eptr _ _ _ _ c (fun i hi => cut_imm (hO i (by omega))) (fun i hi => hc i (by omega)) (fun k x hx => ?_)
          obtain ⟨y, h1, h2⟩ := i2 k x hx
          exact ih d (Nat.le_refl _) _ _ _ h2 (hr k y h1)
      | ptr id off b o n hφ =>
        simp only at h
        split at h
        · rename_i hlt; cases h
          exact (VRel.ptr id off b o n hφ).cut (by simpa [V.under] using hlt)
        · split at h
          case h_2 => cases h
          rename_i cs hH
          cases hm : cs.mapM (frz d n0 H) with
          | none => simp [hm] at h
          | some l =>
            simp [hm] at h; subst h
            obtain ⟨rfl, hown, hcell⟩ := obj_cells hS hH hφ
            obtain ⟨i1, i2, i3⟩ := mapM_get hm
            refine .eptr _ _ _ _ (fun i => (w.cell? ⟨b, o + i, none⟩).getD Go.undef) (fun i hi => cut_res (hown i (by omega)).1 (by omega)) (fun i hi => ?_) (fun k x hx => ?_)
            · obtain ⟨x, hx, _⟩ := hcell i (cs[i]'(by omega)) (by simp)
              rw [hx]; rfl
            · obtain ⟨y, h1, h2⟩ := i2 k x hx
              obtain ⟨x', hx', r⟩ := hcell k y h1
              rw [hx']
              exact ih d (Nat.le_refl _) _ _ _ h2 r
      | aptr id ver i off b o s ext ver' b' o' hφ hv hcur =>
        simp only at h
        split at h
        · rename_i hlt; cases h
          exact (VRel.aptr id ver i off b o s ext ver' b' o' hφ hv hcur).cut (by simpa [V.under] using hlt)
        · cases h
      | map id b hφ =>
        simp only at h
        split at h
        · rename_i hlt; cases h
          exact (VRel.map id b hφ).cut (by simpa [V.under] using hlt)
        · cases h
      | undef => cases h
      | skip => cases h
      | tuple => cases h
      | _ => first | (simp at h; done) | exact absurd (by simp [V.pure]) hp
end
end Go.E
/- Soundness of E: calls. Own work. -/
namespace Go.E
section
variable {P : Program} {g : G} {w : World} {bs : List Nat} {H : Heap}

/-- Into a call that cuts back. -/
theorem Sim.enter (hS : Sim bs g H w) : Sim (H.length :: bs) g H w where
  bl := Nat.le_refl _
  srt b hb := by
    rcases List.mem_cons.1 hb with rfl | hb
    · exact Nat.le_refl _
    · exact Nat.le_trans (hS.srt b hb) hS.bl
  dom := hS.dom
  old := hS.old
  obj := hS.obj
  und id ob h1 h2 b hb := by
    rcases List.mem_cons.1 hb with rfl | hb
    · cases hl : g.φ id with
      | none => exact absurd hl h2
      | some l => exact .inr ((hS.obj id ob l h1 hl).under hS.dom)
    · exact hS.und id ob h1 h2 b hb

/-- Out of it. -/
theorem Out.leave {g1 : G} {w1 : World} {H1 : Heap} (hS : Sim bs g H w) (o : Out (H.length :: bs) g w H g1 w1 H1) : Out bs g w H (g1.cut H.length) w1 (H1.take H.length) where
  sim := {
    bl := by have := hS.bl; have := o.len; simp only [List.length_take]; omega
    srt := hS.srt
    dom := fun id hid => by
      simp only [G.cut] at hid
      split at hid
      · have := o.len; simp only [List.length_take]; omega
      · exact absurd rfl hid
    old := fun b k hk => by
      simp only [G.cut] at hk
      cases hO : g1.O b k with
      | none => simp [hO] at hk
      | imm => exact o.sim.old b k (by simp [hO])
      | res id => exact o.sim.old b k (by simp [hO])
    obj := fun id ob l h1 h2 => by
      simp only [G.cut] at h2
      split at h2
      · rename_i hlt
        rw [List.getElem?_take, if_pos hlt] at h1
        refine (o.sim.obj id ob l h1 h2).cut hlt ?_
        rcases o.sim.und id ob h1 (by rw [h2]; simp) H.length (by simp) with h3 | h3
        · omega
        · exact h3
      · cases h2
    und := fun id ob h1 h2 b hb => by
      simp only [G.cut] at h2
      split at h2
      · rename_i hlt
        rw [List.getElem?_take, if_pos hlt] at h1
        exact o.sim.und id ob h1 h2 b (by simp [hb])
      · exact absurd rfl h2 }
  ext := {
    size := o.ext.size
    imm := fun b k h => ⟨cut_imm (o.ext.imm b k h).1, (o.ext.imm b k h).2⟩
    loc := fun id l h => by
      obtain ⟨l', h1, h2⟩ := o.ext.loc id l h
      exact ⟨l', cut_loc h1 (hS.dom id (by rw [h]; simp)), h2⟩
    free := fun b hb hf => by
      obtain ⟨h1, h2⟩ := o.ext.free b hb hf
      refine ⟨h1, fun k => ?_⟩
      simp only [G.cut]
      rw [h2 k]
      cases hO : g.O b k with
      | none => rfl
      | imm => rfl
      | res id => exact absurd hO (hf k id)
    os := o.ext.os
    tape := o.ext.tape
    output := o.ext.output
    drawn := o.ext.drawn }
  len := by have := o.len; simp only [List.length_take]; omega
  dom id := by
    have h1 := o.dom id
    have h2 := o.len
    simp only [G.cut, List.length_take]
    by_cases hlt : id < H.length
    · rw [if_pos hlt, h1]
      constructor
      · rintro (h | h)
        · exact .inl h
        · omega
      · rintro (h | h)
        · exact .inl h
        · omega
    · rw [if_neg hlt]
      constructor
      · intro h; exact absurd rfl h
      · rintro (h | h)
        · exact absurd (hS.dom id h) hlt
        · omega

theorem load_run (hS : Sim bs g H w) {t : TypeId} {p v : V} {p' : Value} (hl : loadV P t p H = some v) (hp : VRel g w p p') :
    ∃ v', ((do loadVar t (← asAddr p')) : Sem Value).run P w = .ok v' w ∧ VRel g w v v' := by
  obtain ⟨v', h1, h2⟩ := load_sound hS hl hp
  refine ⟨v', ?_, h2⟩
  cases hp with
  | eptr => simpa [Instr.loadAt, Instr.sureAddr, asAddr] using h1
  | ptr => simpa [Instr.loadAt, Instr.sureAddr, asAddr] using h1
  | aptr => simpa [Instr.loadAt, Instr.sureAddr, asAddr] using h1
  | _ => simp [loadV] at hl

theorem results_list (hS : Sim bs g H w) {ρ : Env} {ts : Array Value} {n : Nat} (hE : ERel g w ρ ts n) : ∀ (l : List ResultVar) (vs : List V),
    (l.mapM fun (r : ResultVar) => match r with | .tmp t => some (ρ t) | .cell a t => loadV P t (ρ a) H) = some vs →
    ∃ vs', (l.mapM fun (r : ResultVar) => match r with | .tmp t => (pure (ts.getD t Go.undef) : Sem Value) | .cell a t => do loadVar t (← asAddr (ts.getD a Go.undef))).run P w = .ok vs' w ∧ ArgsR g w vs vs'
  | [], vs, h => by simp at h; subst h; exact ⟨[], by simp, by simp [ArgsR]⟩
  | r :: l, vs, h => by
    simp only [List.mapM_cons] at h
    have key : ∀ (x : Option V) (s : Sem Value), (∀ v, x = some v → ∃ v', s.run P w = .ok v' w ∧ VRel g w v v') →
        (x.bind fun y => (l.mapM fun (r : ResultVar) => match r with | .tmp t => some (ρ t) | .cell a t => loadV P t (ρ a) H).bind fun ys => some (y :: ys)) = some vs →
        ∃ vs', (do let y ← s; let ys ← (l.mapM fun (r : ResultVar) => match r with | .tmp t => (pure (ts.getD t Go.undef) : Sem Value) | .cell a t => do loadVar t (← asAddr (ts.getD a Go.undef))); pure (y :: ys) : Sem (List Value)).run P w = .ok vs' w ∧ ArgsR g w vs vs' := by
      intro x s hx h
      cases x with
      | none => simp at h
      | some v =>
        simp only [Option.bind_some] at h
        cases hm : (l.mapM fun (r : ResultVar) => match r with | .tmp t => some (ρ t) | .cell a t => loadV P t (ρ a) H) with
        | none => rw [hm] at h; simp at h
        | some vs1 =>
          rw [hm] at h; simp at h; subst h
          obtain ⟨v', r1, r2⟩ := hx v rfl
          obtain ⟨vs', q1, q2⟩ := results_list hS hE l vs1 hm
          refine ⟨v' :: vs', by simp only [Sem.run_bind, r1, Result.andThen_ok, q1, Sem.run_pure], by simp [q2.1], fun j x x' h1 h2 => ?_⟩
          cases j with
          | zero => simp at h1 h2; subst h1; subst h2; exact r2
          | succ j => simp at h1 h2; exact q2.2 j x x' h1 h2
    rw [List.mapM_cons]
    cases r with
    | tmp t => exact key (some (ρ t)) _ (fun v hv => by cases hv; exact ⟨_, by simp, hE.rel t⟩) h
    | cell a t => exact key (loadV P t (ρ a) H) _ (fun v hv => load_run hS hv (hE.rel a)) h

/-- Values in a row as they are handed back. -/
def packed (vs : List Value) : Value := if h : vs.toArray.size = 1 then vs.toArray[0] else .tuple vs.toArray

theorem pack_rel {vs : List V} {vs' : List Value} (h : ArgsR g w vs vs') : VRel g w (packV vs) (packed vs') := by
  obtain ⟨h1, h2⟩ := h
  unfold packed
  cases vs with
  | nil => exact .undef _
  | cons v r =>
    cases r with
    | nil =>
      have : vs'.toArray.size = 1 := by simpa using h1
      rw [dif_pos this]
      exact h2 0 v _ rfl (by simp)
    | cons v2 r =>
      have : ¬ vs'.toArray.size = 1 := by simp [h1]
      rw [dif_neg this]
      exact .tuple _ _ (by simp [h1]) (fun k x x' hx hx' => h2 k x x' hx (by simpa using hx'))

theorem results_run (hS : Sim bs g H w) {fn : Func} {ρ : Env} {ts : Array Value} {n : Nat} (hE : ERel g w ρ ts n) {vs : List V} (h : resultsV P fn ρ H = some vs) :
    ∃ vs', (results fn ts).run P w = .ok (packed vs') w ∧ ArgsR g w vs vs' := by
  obtain ⟨vs', h1, h2⟩ := results_list hS hE fn.results.toList vs h
  refine ⟨vs', ?_, h2⟩
  unfold results
  rw [Array.mapM_eq_mapM_toList]
  simp only [Sem.run_bind, map_eq_pure_bind, Sem.run_pure]
  erw [h1]
  rfl

theorem init_rel {args : List V} {args' : List Value} (h : ArgsR g w args args') (k : Nat) :
    ERel g w (fun i => args.getD i .undef) (args'.toArray ++ Array.replicate k Go.undef) (args.length + k) := by
  obtain ⟨h1, h2⟩ := h
  refine ⟨by simp [h1], fun i => ?_⟩
  by_cases hi : i < args.length
  · have e1 : args.getD i .undef = args[i] := by simp [List.getD, hi]
    simp only [e1]
    have e2 : (args'.toArray ++ Array.replicate k Go.undef).getD i Go.undef = args'[i]'(by omega) := by
      rw [Array.getD_eq_getD_getElem?, Array.getElem?_append_left (by simp; omega)]
      simp [show i < args'.length by omega]
    rw [e2]
    exact h2 i _ _ (by simp [hi]) (by simp)
  · have e1 : args.getD i .undef = .undef := by simp [List.getD, hi]
    simp only [e1]
    exact .undef _

theorem args_norm {args : List V} {args' : List Value} (h : ArgsR g w args args') : ArgsR g w (args.map V.norm) args' := by
  refine ⟨by simp [h.1], fun j x x' hx hx' => ?_⟩
  rw [List.getElem?_map] at hx
  cases hj : args[j]? with
  | none => simp [hj] at hx
  | some y => simp [hj] at hx; subst hx; exact norm_rel (h.2 j y x' hj hx')

theorem frz_list {n0 : Nat} (hS : Sim bs g H w) {d : Nat} {vs us : List V} {vs' : List Value} (h : vs.mapM (frz d n0 H) = some us) (hr : ArgsR g w vs vs') : ArgsR (g.cut n0) w us vs' := by
  obtain ⟨i1, i2, _⟩ := mapM_get h
  refine ⟨by rw [i1]; exact hr.1, fun j x x' hx hx' => ?_⟩
  obtain ⟨y, h1, h2⟩ := i2 j x hx
  exact frz_sound hS d y x x' h2 (hr.2 j y x' h1 hx')

/-- Out of a body: the marks, then the results. -/
theorem leave_ok {P : Program} {bs : List Nat} {g g1 : G} {w w1 : World} {H H1 : Heap} {fn : Func} {ρ : Env} {n : Nat} {a : Act} {R : Ending → World → Prop} (o1 : Out bs g w H g1 w1 H1) (e1 : ERel g1 w1 ρ a.tmps n) (d1 : Mk w.heap.size g1 w1 [] a.defers)
    (h : ∀ w2, Out bs g w H g1 w2 H1 → ERel g1 w2 ρ a.tmps n → ∃ v, (results fn a.tmps).run P w2 = .ok v w2 ∧ R (.returned v) w2) : LeavesInM (FR none) 0 P fn a.tmps R a.defers .returning w1 := by
  obtain ⟨ms, h1, h2, h3⟩ := d1
  rw [h1, List.append_nil]
  refine leaves_marks (K := fun w2 => Out bs g w H g1 w2 H1 ∧ ERel g1 w2 ρ a.tmps n) (fun w2 hk => h w2 hk.1 hk.2) ms w1 (fun w2 D hD hk => ?_) h2 (fun D hD => (h3 D hD).2.1) ⟨o1, e1⟩
  have hO := (h3 D hD).2.2
  exact ⟨hk.1.putFree (h3 D hD).1 hO, hk.2.bear (bears_put hO)⟩

/-- What is known of a function holds. -/
def ActOk (cx : Cx) : Prop :=
  ∀ f fn args v H H', cx.P.funcs[f]? = some fn → cx.keep f = true → cx.act f args H = some (v, H') → ∀ bs g w args', Sim bs g H w → ArgsR g w args args' →
    Calls cx.P f args'.toArray w fun e w' => ∃ v' g', e = .returned v' ∧ Out bs g w H g' w' H' ∧ VRel g' w' v v'
theorem act_none {cx : Cx} (h : ∀ f a H, cx.act f a H = none) : ActOk cx := fun f _ args _ H _ _ _ e => by rw [h] at e; cases e
def KnownOk (cx : Cx) : Prop := FreshOk cx ∧ ActOk cx ∧
  ∀ f fn args v, cx.P.funcs[f]? = some fn → cx.keep f = true → cx.known f args = some v → ∀ bs g w H args', Sim bs g H w → ArgsR g w args args' →
    Calls cx.P f args'.toArray w fun e w' => ∃ v' g', e = .returned v' ∧ Out bs g w H g' w' H ∧ VRel g' w' v v'

theorem body_ok {cx : Cx} (hD : DrawOk cx) (hI : IterOk cx) (hK : KnownOk cx) (hN : ∀ (f : Nat) (fn : Func), cx.P.funcs[f]? = some fn → fn.name ≠ "runtime.NumGoroutine") (k : Nat) {call : CallSem} (hC : CallOk cx call) :
    CallOk cx (evBody cx (loopn k) call) := by
  refine ⟨hK.1, fun bs f args H v H' h => ?_⟩
  unfold evBody at h
  cases hf : cx.P.funcs[f]? with
  | none => simp [hf] at h
  | some fn =>
    cases hb : fn.body with
    | none => simp [hf, hb] at h
    | some c =>
      simp only [hf, hb] at h
      refine ⟨⟨fn, hf, by rw [hb]; rfl, hN f fn hf⟩, fun g w args' hS hA => ?_⟩
      by_cases hk : cx.keep f = true
      · rw [if_pos hk] at h
        cases hv : cx.known f (args.map V.norm) with
        | none =>
          rw [hv] at h
          exact hK.2.1 f fn _ _ _ _ hf hk h _ _ _ _ hS (args_norm hA)
        | some v1 =>
          rw [hv] at h
          simp only [Option.some.injEq, Prod.mk.injEq] at h
          obtain ⟨rfl, rfl⟩ := h
          exact hK.2.2 f fn _ _ hf hk hv _ _ _ _ _ hS (args_norm hA)
      · have hsz : args'.toArray.size = args.length := by simp [hA.1]
        refine callsIn_FR (r := none) (n := 0).1 (callsIn_of_wp_marks hf hb trivial ?_)
        rw [hsz]
        rw [if_neg hk] at h
        cases hc : evCode cx ⟨args.length + (fn.ntmps - args.length), H.length :: bs⟩ (loopn k) call c (fun i => (args.map V.norm).getD i .undef) H with
        | none => rw [hc] at h; simp at h
        | some r =>
          obtain ⟨ex, ρ', H1⟩ := r
          rw [hc] at h
          simp only [Option.bind_some] at h
          have hI' := init_rel (args_norm hA) (fn.ntmps - args.length)
          rw [List.length_map] at hI'
          refine evCode_wp hC hD hI k c none _ g w H H1 _ ρ' { tmps := args'.toArray ++ Array.replicate (fn.ntmps - args.length) Go.undef, defers := [] } ex hc hS.enter (fun _ h => by cases h) hI' (fun a1 w1 g1 o1 e1 d1 => ?_)
          have fin : ∀ vs us, resultsV cx.P fn ρ' H1 = some vs → vs.mapM (frz 6 H.length H1) = some us → (packV us, H1.take H.length) = (v, H') →
              LeavesInM (FR none) 0 cx.P fn a1.tmps (fun e w' => ∃ v' g', e = .returned v' ∧ Out bs g w H g' w' H' ∧ VRel g' w' v v') a1.defers .returning w1 := by
            intro vs us hvs hus he
            cases he
            refine leave_ok o1 e1 d1 (fun w2 o2 e2 => ?_)
            obtain ⟨vs', r1, r2⟩ := results_run o2.sim e2 hvs
            exact ⟨_, r1, _, _, rfl, o2.leave hS, pack_rel (frz_list o2.sim hus r2)⟩
          cases ex with
          | exit id => simp at h
          | normal =>
            simp only at h
            cases hv : resultsV cx.P fn ρ' H1 with
            | none => simp [hv] at h
            | some vs =>
              cases hu : vs.mapM (frz 6 H.length H1) with
              | none => simp [hv, hu] at h
              | some us => simp only [hv, hu, Option.bind_some, Option.map_some, Option.some.injEq] at h; exact fin vs us hv hu h
          | ret =>
            simp only at h
            cases hv : resultsV cx.P fn ρ' H1 with
            | none => simp [hv] at h
            | some vs =>
              cases hu : vs.mapM (frz 6 H.length H1) with
              | none => simp [hv, hu] at h
              | some us => simp only [hv, hu, Option.bind_some, Option.map_some, Option.some.injEq] at h; exact fin vs us hv hu h

theorem callk_ok {cx : Cx} (hD : DrawOk cx) (hI : IterOk cx) (hK : KnownOk cx) (hN : ∀ (f : Nat) (fn : Func), cx.P.funcs[f]? = some fn → fn.name ≠ "runtime.NumGoroutine") : ∀ k, CallOk cx (callk cx k)
  | 0 => ⟨hK.1, fun _ _ _ _ _ _ h => by simp [callk] at h⟩
  | k + 1 => body_ok hD hI hK hN k (callk_ok hD hI hK hN k)
end
end Go.E
/- Soundness of E: a region that draws (1): what an operation looks at. Own work. -/
namespace Go.E
section
variable {cx : Cx} {g : G} {w : World} {bs : List Nat} {H : Heap} {call : CallSem} {ρ ρ' : Env} {a : Act}

theorem evOp_congr {fx : Fx} (o : Oper) (h : ∀ x ∈ o.op.operands, opnd ρ x = opnd ρ' x) (H : Heap) : evOp cx fx call o ρ H = evOp cx fx call o ρ' H := by
  obtain ⟨dst, op, type, pos, after, guard⟩ := o
  have pairs : ∀ ps : Array (Nat × Operand), (∀ x ∈ ps.map (·.2), opnd ρ x = opnd ρ' x) → (ps.toList.map fun q => (q.1, opnd ρ q.2)) = ps.toList.map fun q => (q.1, opnd ρ' q.2) := fun ps hp =>
    List.map_congr_left fun p hm => by rw [hp p.2 (Array.mem_map.2 ⟨p, by simpa using hm, rfl⟩)]
  have pairs2 : ∀ ps : Array (Nat × Operand), (∀ x ∈ ps.map (·.2), opnd ρ x = opnd ρ' x) → (ps.toList.map fun q => opnd ρ q.2) = ps.toList.map fun q => opnd ρ' q.2 := fun ps hp =>
    List.map_congr_left fun p hm => by rw [hp p.2 (Array.mem_map.2 ⟨p, by simpa using hm, rfl⟩)]
  cases op <;> simp only [Op.operands] at h <;> simp only [evOp]
  case build t ps => rw [pairs ps fun x hx => h x (by simpa using hx)]
  case buildSlice t n ps => rw [pairs2 ps fun x hx => h x (by simpa using hx)]
  case makeFunc fn first captured =>
    cases fn with
    | func f => simp only; rw [List.map_congr_left (l := captured.toList) fun x hx => h x (by simp; right; simpa using hx)]
    | _ => rfl
  case call c =>
    have hargs : c.args.toList.map (opnd ρ) = c.args.toList.map (opnd ρ') := List.map_congr_left fun x hx => h x (by simp [Call.operands]; right; simpa using hx)
    cases hc : c.callee with
    | value f =>
      have hf : opnd ρ f = opnd ρ' f := h f (by simp [Call.operands, hc])
      simp only [evCallee, hargs, hf]
    | invoke r m => rfl
    | builtin b => simp only [evBuiltin, hargs]
  case assign x => rw [h x (by simp)]
  case slice t x lo hi mx => cases lo <;> cases hi <;> cases mx <;> simp_all
  all_goals (first | rfl | (simp_all; done))

/-- The environment as an operation sees it. -/
def seen (ops : Array Oper) (o : Oper) (ρ : Env) : Env := fun d => if d ∈ o.looksAt ops then ρ d else .undef
theorem seen_opnd {ops : Array Oper} {o : Oper} {x : Operand} (hx : x ∈ o.op.operands) : opnd (seen ops o ρ) x = opnd ρ x := by
  cases x with
  | tmp t =>
    have : t ∈ o.looksAt ops := List.mem_append_left _ (List.mem_filterMap.2 ⟨.tmp t, by simpa using hx, rfl⟩)
    simp [opnd, seen, this]
  | _ => rfl
theorem seen_wanted {ops : Array Oper} {o : Oper} : wantedV ops o (seen ops o ρ) = wantedV ops o ρ := by
  unfold wantedV
  cases hg : o.guard with
  | none => rfl
  | some p =>
    obtain ⟨j, want⟩ := p
    cases hd : (ops[j]?).bind (·.dst) with
    | none => simp [hd]
    | some d =>
      have : d ∈ o.looksAt ops := by simp [Oper.looksAt, hg, hd]
      simp [hd, seen, this]

/-- The heap, as an operation that has no effect sees it, is the same. -/
def sees (P : Program) (o : Oper) (ρ : Env) (H H' : Heap) : Prop :=
  match o.op with
  | .load t x => ∀ v, loadV P t (opnd ρ x) H = some v → loadV P t (opnd ρ x) H' = some v
  | .lookup t m k ok => ∀ v, lookupV P t (opnd ρ m) (opnd ρ k) ok H = some v → lookupV P t (opnd ρ m) (opnd ρ k) ok H' = some v
  | _ => True

/-- What laying comes to, wherever the thing's place in the heap is. -/
def LayWp (cx : Cx) (o : Oper) (ρ : Env) (id : Nat) (v : V) (ob : HObj) : Prop :=
  ∀ (bs : List Nat) (g : G) (w : World) (H : Heap) (a : Act) (n : Nat) (next : Act → World → Prop) (Q : Exit → Act → World → Prop),
    Open bs g H id ob → Sim bs g H w → ERel g w ρ a.tmps n → (∀ v' w' g', Lay bs g w H id g' w' → VRel g' w' v v' → next (a.put o.dst v') w') → o.wp cx.P a w next Q

theorem builtin_quiet {b : Builtin} {c : Call} {pos : String} {v : V} {Hp Hp' : Heap} (hb : b ≠ .append) (h : evBuiltin cx b c pos ρ Hp = some (v, Hp')) : Hp' = Hp ∧ ∀ H, evBuiltin cx b c pos ρ H = some (v, H) := by
  have looks : ∀ (r : Option V), (r.map (·, Hp)) = some (v, Hp') → Hp' = Hp ∧ ∀ H : Heap, (r.map (·, H)) = some (v, H) := by
    intro r h1
    cases r with
    | none => simp at h1
    | some y => simp at h1; obtain ⟨rfl, rfl⟩ := h1; exact ⟨rfl, fun H => by simp⟩
  unfold evBuiltin at h ⊢
  generalize c.argTypes.toList = l1 at h ⊢
  generalize c.args.toList.map (opnd ρ) = l2 at h ⊢
  cases b
  case append => exact absurd rfl hb
  case len =>
    rcases l1 with _ | ⟨t, _ | ⟨_, _⟩⟩ <;> rcases l2 with _ | ⟨x, _ | ⟨_, _⟩⟩ <;> (try (simp at h; done))
    cases hu : cx.P.underlying t with
    | none => simp [hu] at h
    | some d =>
      cases d <;> cases x <;> simp [hu, lenV] at h ⊢ <;> simp [h]
  case min => exact looks _ h
  case max => exact looks _ h
  all_goals (simp at h)

theorem evOp_quiet {fx : Fx} {o : Oper} {v : V} {Hp Hp' : Heap} (hq : isE o = false) (h : evOp cx fx call o ρ Hp = some (v, Hp')) :
    (Hp' = Hp ∧ ∀ H, sees cx.P o ρ Hp H → evOp cx fx call o ρ H = some (v, H)) ∨
    (∃ ob, Hp' = Hp ++ [ob] ∧ isRA cx.P o = true ∧ (∀ t x, o.op ≠ .load t x) ∧ (∀ t m k ok, o.op ≠ .lookup t m k ok) ∧ LayWp cx o ρ Hp.length v ob) := by
  obtain ⟨dst, op, type, pos, after, guard⟩ := o
  have looks : ∀ (r : Option V), (r.map (·, Hp)) = some (v, Hp') → Hp' = Hp ∧ ∀ H : Heap, (r.map (·, H)) = some (v, H) := by
    intro r h1
    cases r with
    | none => simp at h1
    | some y => simp at h1; obtain ⟨rfl, rfl⟩ := h1; exact ⟨rfl, fun H => by simp⟩
  have valw : ∀ (bs : List Nat) (g : G) (w : World) (H : Heap) (a : Act) (next : Act → World → Prop) (Q : Exit → Act → World → Prop) (id : Nat) (o : Oper) v' w' g', (execOp a.eval o).run cx.P w = .ok (.value v') w' → Lay bs g w H id g' w' → VRel g' w' v v' →
      (∀ v' w' g', Lay bs g w H id g' w' → VRel g' w' v v' → next (a.put o.dst v') w') → o.wp cx.P a w next Q := by
    intro bs g w H a next Q id o v' w' g' h1 h2 h3 hn
    unfold Oper.wp; rw [h1]; exact hn v' w' g' h2 h3
  unfold evOp at h
  simp only [sees]
  unfold evOp
  cases op <;> simp only at h ⊢ <;> (try (cases h; done)) <;> (try (simp [isE] at hq; done))
  case move x => cases h; exact .inl ⟨rfl, fun _ _ => rfl⟩
  case assign x =>
    cases x with
    | const c =>
      have plain : (some (opnd ρ (.const c), Hp) : Option (V × Heap)) = some (v, Hp') → Hp' = Hp ∧ v = opnd ρ (.const c) := fun h => by cases h; exact ⟨rfl, rfl⟩
      cases hn2 : opnd ρ (.const c) with
      | nilS =>
        cases hu : cx.P.underlying type with
        | none => simp only [hu, hn2] at h ⊢; cases h; exact .inl ⟨rfl, fun _ _ => rfl⟩
        | some d =>
          cases d with
          | slice el =>
            simp only [hu, hn2] at h
            cases h
            refine .inr ⟨.tok 0, rfl, by simp [isRA, hu], by simp, by simp, ?_⟩
            intro bs g w H a n next Q hO hS hE hn
            have hx := hE.opnd (.const c)
            rw [hn2] at hx
            obtain ⟨g', o1, r1⟩ := assign_nil hS hO
            have hcv : a.eval (.const c) = .slice none 0 0 := by
              generalize a.eval (.const c) = y at hx
              cases hx; rfl
            exact valw _ _ _ _ _ _ _ _ _ (.slice none 0 0) w g' (by simp [execOp, hcv]) o1 r1 hn
          | _ => simp only [hu, hn2] at h ⊢; cases h; exact .inl ⟨rfl, fun _ _ => rfl⟩
      | _ => simp only [hn2] at h ⊢; simp at h; obtain ⟨rfl, rfl⟩ := h; exact .inl ⟨rfl, fun _ _ => by simp⟩
    | _ => simp only at h ⊢; cases h; exact .inl ⟨rfl, fun _ _ => rfl⟩
  case pick c x y =>
    split at h
    · cases h; exact .inl ⟨rfl, fun _ _ => rfl⟩
    · cases h; exact .inl ⟨rfl, fun _ _ => rfl⟩
    · cases h
  case alloc t =>
    cases hz : zeroT cx.P t with
    | none => simp [hz] at h
    | some z =>
      simp only [hz, Option.bind_some] at h
      split at h
      · rename_i hc
        cases h
        refine .inr ⟨.cells z.cells, rfl, rfl, by simp, by simp, ?_⟩
        intro bs g w H a n next Q hO hS hE hn
        obtain ⟨zv, hzv, hzr⟩ := zero_of hz
        have hr : VRel g w z zv := by rw [hzv]; exact ofVal_rel zv
        exact valw _ _ _ _ _ _ _ _ _ _ _ _ (by simp [execOp, run_alloc (hzr w)]) (lay_cells hS hO hr hc t) (.ptr _ _ w.heap.size 0 z.cells.length (by simp [G.lay])) hn
      · cases h
  case box t x =>
    split at h
    · rename_i hc
      cases h
      refine .inr ⟨.cells (opnd ρ x).cells, rfl, rfl, by simp, by simp, ?_⟩
      intro bs g w H a n next Q hO hS hE hn
      exact valw _ _ _ _ _ _ _ _ _ _ _ _ (by simp [execOp, run_box]) (lay_cells hS hO (hE.opnd x) hc t) (.ptr _ _ w.heap.size 0 (opnd ρ x).cells.length (by simp [G.lay])) hn
    · cases h
  case build t parts => obtain ⟨h1, h2⟩ := looks _ h; exact .inl ⟨h1, fun H _ => h2 H⟩
  case buildSlice t len parts =>
    cases he : elemT cx.P t with
    | none => simp [he] at h
    | some el =>
    cases hsz : sizeT cx.P el with
    | none => simp [he, hsz] at h
    | some sz =>
    simp only [he, hsz, Option.bind_some] at h ⊢
    split at h
    · rename_i hc
      obtain ⟨h0, hr, hm, hz⟩ := hc
      cases ht : takeElems sz (parts.toList.map fun q => opnd ρ q.2) with
      | none => simp [ht] at h
      | some es =>
        simp only [ht, Option.map_some, Option.some.injEq] at h
        by_cases hl0 : len = 0
        · simp only [hl0, if_true, Prod.mk.injEq] at h
          obtain ⟨rfl, rfl⟩ := h
          refine .inr ⟨.tok 0, rfl, rfl, by simp, by simp, ?_⟩
          intro bs g w H a n next Q hO hS hE hn
          obtain ⟨v', w', g', r1, r2, r3⟩ := buildSlice_sound (own := false) hS (fun _ => by subst hl0; exact hO) (fun x => hE.opnd x) he hsz h0 hr hm hz ht
          simp only [hl0, true_or, if_true] at r2 r3
          exact valw _ _ _ _ _ _ _ _ _ _ _ _ (by simp only [execOp]; simp [r1]) r2 r3 hn
        · simp only [hl0, if_false] at h
          cases hvc : cx.vec t pos with
          | true =>
            simp only [hvc, if_true, Prod.mk.injEq] at h
            obtain ⟨rfl, rfl⟩ := h
            refine .inr ⟨.arr es 0, rfl, rfl, by simp, by simp, ?_⟩
            intro bs g w H a n next Q hO hS hE hn
            obtain ⟨v', w', g', r1, r2, r3⟩ := buildSlice_vec hS (fun x => hE.opnd x) he hsz h0 hr hm hz ht hO
            exact valw _ _ _ _ _ _ _ _ _ _ _ _ (by simp only [execOp]; simp [r1]) r2 r3 hn
          | false =>
          simp only [hvc, Bool.false_eq_true, if_false] at h
          cases hw : cx.own t with
          | true =>
            simp only [hw, if_true, Prod.mk.injEq] at h
            obtain ⟨rfl, rfl⟩ := h
            refine .inr ⟨.tok len, rfl, rfl, by simp, by simp, ?_⟩
            intro bs g w H a n next Q hO hS hE hn
            obtain ⟨v', w', g', r1, r2, r3⟩ := buildSlice_sound (own := true) hS (fun _ => hO) (fun x => hE.opnd x) he hsz h0 hr hm hz ht
            simp only [hl0, or_true, if_true, if_false] at r2 r3
            exact valw _ _ _ _ _ _ _ _ _ _ _ _ (by simp only [execOp]; simp [r1]) r2 r3 hn
          | false =>
            simp only [hw, Bool.false_eq_true, if_false, Prod.mk.injEq] at h
            obtain ⟨rfl, rfl⟩ := h
            refine .inl ⟨rfl, fun H _ => ?_⟩
            rw [if_pos ⟨h0, hr, hm, hz⟩]
            simp [hl0, hw, hvc]
    · cases h
  case load t x =>
    cases hl : loadV cx.P t (opnd ρ x) Hp with
    | none => simp [hl] at h
    | some y =>
      simp [hl] at h; obtain ⟨rfl, rfl⟩ := h
      exact .inl ⟨rfl, fun H hs => by simp [hs y rfl]⟩
  case nilCheck x =>
    split at h
    all_goals (first | (cases h; done) | (rename_i hx2; cases h; exact .inl ⟨rfl, fun _ _ => by simp [hx2]⟩))
  case binOp op t x y _ => obtain ⟨h1, h2⟩ := looks _ h; exact .inl ⟨h1, fun H _ => h2 H⟩
  case unOp op t x => obtain ⟨h1, h2⟩ := looks _ h; exact .inl ⟨h1, fun H _ => h2 H⟩
  case convert s d x => obtain ⟨h1, h2⟩ := looks _ h; exact .inl ⟨h1, fun H _ => h2 H⟩
  case makeFunc fn first caps =>
    cases fn with
    | func f =>
      simp only at h ⊢
      split at h
      · rename_i h0; cases h; exact .inl ⟨rfl, fun _ _ => by simp [h0]⟩
      · cases h
    | _ => simp at h
  case makeMap t r =>
    cases r with
    | none =>
      simp at h
      obtain ⟨rfl, rfl⟩ := h
      refine .inr ⟨.map [], rfl, rfl, by simp, by simp, ?_⟩
      intro bs g w H a n next Q hO hS hE hn
      obtain ⟨v', w', g', r1, r2, r3⟩ := makeMap_sound (P := cx.P) (t := t) hS hO
      exact valw _ _ _ _ _ _ _ _ _ _ _ _ (by simp [execOp, r1]) r2 r3 hn
    | some x => simp at h
  case makeSlice t l c =>
    cases he : elemT cx.P t with
    | none => simp [he] at h
    | some el =>
    cases hsz : sizeT cx.P el with
    | none => simp [he, hsz] at h
    | some sz =>
    cases hby : bytesT cx.P el with
    | none => simp [he, hsz, hby] at h
    | some by_ =>
    cases hz : zeroT cx.P el with
    | none => simp [he, hsz, hby, hz] at h
    | some z =>
    simp only [he, hsz, hby, hz, Option.bind_some] at h
    split at h
    · rename_i k n k' m hl2 hc2
      split at h
      · rename_i hcond
        obtain ⟨rfl, h0, h1, h2, h3, h4, h5, h6⟩ := hcond
        cases h
        refine .inr ⟨_, rfl, rfl, by simp, by simp, ?_⟩
        intro bs g w H a nn next Q hO hS hE hn
        have hl := hE.opnd l
        have hc := hE.opnd c
        rw [hl2] at hl; rw [hc2] at hc
        obtain ⟨v', w', g', r1, r2, r3⟩ := makeSlice_sound (P := cx.P) (t := t) (k := k) (k' := k') hS hO he hsz hby hz h0 h1 h2 h3 h4 h5
        cases hlv : a.eval l with
        | int kk nn =>
          cases hcv : a.eval c with
          | int kk2 nn2 =>
            rw [hlv] at hl; rw [hcv] at hc; cases hl; cases hc
            exact valw _ _ _ _ _ _ _ _ _ _ _ _ (by simp [execOp, hlv, hcv, r1]) r2 r3 hn
          | _ => rw [hcv] at hc; cases hc
        | _ => rw [hlv] at hl; cases hl
      · cases h
    · cases h
  case slice t x lo hi mx => obtain ⟨h1, h2⟩ := looks _ h; exact .inl ⟨h1, fun H _ => h2 H⟩
  case fieldAddr t x j => obtain ⟨h1, h2⟩ := looks _ h; exact .inl ⟨h1, fun H _ => h2 H⟩
  case field t x j => obtain ⟨h1, h2⟩ := looks _ h; exact .inl ⟨h1, fun H _ => h2 H⟩
  case indexAddr t x i => obtain ⟨h1, h2⟩ := looks _ h; exact .inl ⟨h1, fun H _ => h2 H⟩
  case index t x i => obtain ⟨h1, h2⟩ := looks _ h; exact .inl ⟨h1, fun H _ => h2 H⟩
  case lookup t m k ok =>
    cases hl : lookupV cx.P t (opnd ρ m) (opnd ρ k) ok Hp with
    | none => simp [hl] at h
    | some y =>
      simp [hl] at h; obtain ⟨rfl, rfl⟩ := h
      exact .inl ⟨rfl, fun H hs => by simp [hs y rfl]⟩
  case extract x i =>
    split at h
    · rename_i hx2; obtain ⟨h1, h2⟩ := looks _ h; exact .inl ⟨h1, fun H _ => by simpa [hx2] using h2 H⟩
    · cases h
  case call c =>
    obtain ⟨callee, args, argTypes⟩ := c
    cases callee with
    | value f => simp [isE] at hq
    | invoke r m => simp at h
    | builtin b =>
      simp only at h ⊢
      refine .inl ?_
      have hb : b ≠ .append := by rintro rfl; simp [isE] at hq
      obtain ⟨h1, h2⟩ := builtin_quiet hb h
      exact ⟨h1, fun H _ => h2 H⟩
end
end Go.E
/- Soundness of E: a region that draws (2): orders; one operation. Own work. -/
namespace Go.E

def Closed (ops : Array Oper) (L : Nat → Prop) : Prop := ∀ i o, ops[i]? = some o → L i → ∀ e ∈ edgesOf o, L e

def RowOk (ops : Array Oper) (i : Nat) (row : List Nat) : Prop :=
  ∀ o, ops[i]? = some o → ∀ L : Nat → Prop, Closed ops L → (∀ e ∈ edgesOf o, L e) → ∀ j ∈ row, L j

theorem ancGo_spec (ops : Array Oper) : ∀ (l : List Oper) (acc : List (List Nat)), (∀ k, l[k]? = ops[acc.length + k]?) → (∀ i row, acc[i]? = some row → RowOk ops i row) →
    ∀ i row, (ancGo l acc)[i]? = some row → RowOk ops i row
  | [], acc, _, h, i, row, hr => h i row hr
  | o :: r, acc, hl, h, i, row, hr => by
    refine ancGo_spec ops r _ (fun k => ?_) (fun i row hr => ?_) i row hr
    · have := hl (k + 1)
      simp only [List.getElem?_cons_succ] at this
      rw [this, List.length_append]; congr 1; simp; omega
    · by_cases hlt : i < acc.length
      · rw [List.getElem?_append_left hlt] at hr; exact h i row hr
      · rw [List.getElem?_append_right (by omega)] at hr
        obtain ⟨h1, h2⟩ := List.getElem?_eq_some_iff.1 hr
        have hi : i = acc.length := by simp at h1; omega
        subst hi
        simp at h2
        intro o2 ho2 L hL he j hj
        have e1 : o2 = o := by have := hl 0; simp at this; rw [← this] at ho2; exact (Option.some.inj ho2).symm
        subst e1
        rw [← h2, List.mem_eraseDups] at hj
        rcases List.mem_append.1 hj with hj | hj
        · exact he j hj
        · obtain ⟨e, h3, h4⟩ := List.mem_flatMap.1 hj
          cases ha : acc[e]? with
          | none => simp [ha] at h4
          | some row2 =>
            simp [ha] at h4
            have hlt2 : e < acc.length := (List.getElem?_eq_some_iff.1 ha).1
            cases hoe : ops[e]? with
            | none =>
              have := hl 0
              simp at this
              have h5 : acc.length < ops.size := by
                have h6 := this.symm
                rw [Array.getElem?_eq_some_iff] at h6; exact h6.1
              rw [Array.getElem?_eq_none_iff] at hoe; omega
            | some oe => exact h e row2 ha oe hoe L hL (hL e oe hoe (he e h3)) j h4

theorem anc_row {ops : Array Oper} {i : Nat} {o : Oper} (ho : ops[i]? = some o) {L : Nat → Prop} (hL : Closed ops L) (he : ∀ e ∈ edgesOf o, L e) {j : Nat} (hj : j ∈ (anc ops).getD i []) : L j := by
  cases ha : (anc ops)[i]? with
  | none => simp [ha] at hj
  | some row =>
    simp [ha] at hj
    exact ancGo_spec ops ops.toList [] (fun k => by simp) (fun i row h => by simp at h) i row ha o ho L hL he j hj

theorem nodupB_spec : ∀ {l : List Nat}, nodupB l = true → ∀ {p q i : Nat}, l[p]? = some i → l[q]? = some i → p = q
  | [], _, p, q, i, h1, _ => by simp at h1
  | x :: r, h, p, q, i, h1, h2 => by
    simp only [nodupB, Bool.and_eq_true, Bool.not_eq_true', List.contains_eq_mem, decide_eq_false_iff_not] at h
    cases p with
    | zero =>
      cases q with
      | zero => rfl
      | succ q => simp at h1 h2; subst h1; exact absurd (List.mem_of_getElem? h2) h.1
    | succ p =>
      cases q with
      | zero => simp at h1 h2; subst h2; exact absurd (List.mem_of_getElem? h1) h.1
      | succ q => simp at h1 h2; rw [nodupB_spec h.2 h1 h2]

theorem topo_spec {ops : Array Oper} : ∀ {l done : List Nat}, topoOk ops done l = true → ∀ {p i : Nat}, l[p]? = some i → ∃ o, ops[i]? = some o ∧ ∀ e ∈ edgesOf o, e ∈ done ++ l.take p
  | [], _, _, p, i, h1 => by simp at h1
  | x :: r, done, h, p, i, h1 => by
    simp only [topoOk, Bool.and_eq_true] at h
    cases p with
    | zero =>
      simp at h1; subst h1
      cases ho : ops[x]? with
      | none => simp [ho] at h
      | some o =>
        simp [ho] at h
        exact ⟨o, rfl, fun e he => by simpa using h.1 e he⟩
    | succ p =>
      simp at h1
      obtain ⟨o, h2, h3⟩ := topo_spec h.2 h1
      exact ⟨o, h2, fun e he => by simpa using h3 e he⟩

theorem eff_spec {ops : Array Oper} {tb : List (List Nat)} : ∀ {l : List Nat}, effOk ops tb l = true → ∀ {p q i j : Nat} {o : Oper}, p < q → l[p]? = some i → l[q]? = some j → ops[i]? = some o → isE o = true → i ∈ tb.getD j []
  | [], _, p, q, i, j, o, _, h1, _, _, _ => by simp at h1
  | x :: r, h, p, q, i, j, o, hlt, h1, h2, ho, he => by
    simp only [effOk, Bool.and_eq_true, Bool.or_eq_true] at h
    cases p with
    | zero =>
      simp at h1; subst h1
      cases q with
      | zero => omega
      | succ q =>
        simp at h2
        rcases h.1 with h3 | h3
        · simp [ho, he] at h3
        · have := List.all_eq_true.1 h3 j (List.mem_of_getElem? h2)
          simpa using this
    | succ p =>
      cases q with
      | zero => omega
      | succ q => simp at h1 h2; exact eff_spec h.2 (by omega) h1 h2 ho he

theorem tmp_spec {ops : Array Oper} {tb : List (List Nat)} (h : tmpOk ops tb = true) {i j d : Nat} {o u : Oper} (hi : ops[i]? = some o) (hj : ops[j]? = some u) (hd : o.dst = some d) (hne : i ≠ j) :
    i ∈ tb.getD j [] ∨ j ∈ tb.getD i [] ∨ (d ∉ u.looksAt ops ∧ u.dst ≠ some d) := by
  have hi2 := (Array.getElem?_eq_some_iff.1 hi).1
  have hj2 := (Array.getElem?_eq_some_iff.1 hj).1
  have h1 := List.all_eq_true.1 h i (List.mem_range.2 hi2)
  simp only [hi, Option.bind_some, hd] at h1
  have h2 := List.all_eq_true.1 h1 j (List.mem_range.2 hj2)
  simp only [hj, tmpsOf, Option.map_some, Option.getD_some, Bool.or_eq_true, beq_iff_eq, Bool.and_eq_true, Bool.not_eq_true', bne_iff_ne, List.contains_eq_mem, decide_eq_true_eq, decide_eq_false_iff_not] at h2
  rcases h2 with ((h2 | h2) | h2) | h2
  · exact absurd h2 hne
  · exact .inl h2
  · exact .inr (.inl h2)
  · exact .inr (.inr h2)

theorem chk_spec {P : Program} {ops : Array Oper} {ord : List Nat} {st : List (Env × Heap)} {last : Heap} : ∀ {l : List (Nat × Nat)}, chkAll P ops ord st last l → ∀ {p q : Nat}, (p, q) ∈ l →
    ∀ {o s t}, ops[ord.getD p 0]? = some o → st[p]? = some s → st[q]? = some t → obsEq P o s.1 s.2 t.2 ((st[q + 1]?).map (·.2) |>.getD last)
  | [], _, p, q, hm => by simp at hm
  | (p0, q0) :: r, h, p, q, hm => by
    intro h1 h2 h3
    rcases List.mem_cons.1 hm with e | hm
    · cases e; exact h.1 _ _ _ h1 h2 h3
    · exact chk_spec h.2 hm h1 h2 h3

theorem pairs_mem {P : Program} {ops : Array Oper} {tb : List (List Nat)} {ord : List Nat} {p q i j : Nat} {o u : Oper} (hlt : p < q) (hp : ord[p]? = some i) (hq : ord[q]? = some j) (ho : ops[i]? = some o) (hu : ops[j]? = some u)
    (hr : isRA P o = true) (he : isE u = true) (hn : i ∉ tb.getD j []) : (p, q) ∈ chkPairs P ops tb ord := by
  have hp2 := (List.getElem?_eq_some_iff.1 hp).1
  have hq2 := (List.getElem?_eq_some_iff.1 hq).1
  unfold chkPairs
  refine List.mem_flatMap.2 ⟨p, List.mem_range.2 hp2, List.mem_filterMap.2 ⟨q, List.mem_range.2 hq2, ?_⟩⟩
  have e1 : ord.getD p 0 = i := by simp [List.getD, hp]
  have e2 : ord.getD q 0 = j := by simp [List.getD, hq]
  simp only [e1, e2, ho, hu, hlt, decide_true, hr, he, Bool.true_and, Bool.and_self]
  rw [if_pos (by simpa using hn)]

section
variable {cx : Cx} {call : CallSem} {fx : Fx} {ops : Array Oper}

/-- The states along an order, one behind the other. -/
theorem trace_spec : ∀ {ord : List Nat} {ρ : Env} {H : Heap} {st : List (Env × Heap)} {z : Env × Heap}, evTrace cx fx call ops ord ρ H = some (st, z) → st.length = ord.length ∧
    ((st ++ [z])[0]? = some (ρ, H)) ∧ ∀ p i, ord[p]? = some i → ∃ o s t, ops[i]? = some o ∧ (st ++ [z])[p]? = some s ∧ (st ++ [z])[p + 1]? = some t ∧ evOper cx fx call ops o s.1 s.2 = some t
  | [], ρ, H, st, z, h => by simp [evTrace] at h; obtain ⟨rfl, rfl⟩ := h; simp
  | i :: r, ρ, H, st, z, h => by
    simp only [evTrace] at h
    cases ho : ops[i]? with
    | none => simp [ho] at h
    | some o =>
      simp only [ho, Option.bind_some] at h
      cases hs : evOper cx fx call ops o ρ H with
      | none => simp [hs] at h
      | some s =>
        simp only [hs, Option.bind_some] at h
        cases ht : evTrace cx fx call ops r s.1 s.2 with
        | none => simp [ht] at h
        | some q =>
          obtain ⟨st2, z2⟩ := q
          simp [ht] at h
          obtain ⟨rfl, rfl⟩ := h
          obtain ⟨h1, h2, h3⟩ := trace_spec ht
          refine ⟨by simp [h1], by simp, fun p j hp => ?_⟩
          cases p with
          | zero =>
            simp at hp; subst hp
            exact ⟨o, (ρ, H), s, ho, by simp, by simpa using h2, hs⟩
          | succ p =>
            simp at hp
            obtain ⟨o2, s2, t2, k1, k2, k3, k4⟩ := h3 p j hp
            exact ⟨o2, s2, t2, k1, by simpa using k2, by simpa using k3, k4⟩

/-- What an operation puts into the frame. -/
def putO (ρ : Env) (dst : Option Nat) (v : V) : Env := match dst with | none => ρ | some d => ρ.put d v

theorem evOper_split {o : Oper} {ρ ρ' : Env} {H H' : Heap} (h : evOper cx fx call ops o ρ H = some (ρ', H')) :
    ∃ b v, wantedV ops o ρ = some b ∧ (if b then evOp cx fx call o ρ H else some (.skip, H)) = some (v, H') ∧ ρ' = putO ρ o.dst v ∧ ∀ d, o.dst = some d → d < fx.n := by
  unfold evOper at h
  cases hw : wantedV ops o ρ with
  | none => simp [hw] at h
  | some b =>
    simp only [hw, Option.bind_some] at h
    cases hv : (if b then evOp cx fx call o ρ H else some (.skip, H)) with
    | none => rw [hv] at h; simp at h
    | some r =>
      obtain ⟨v, H1⟩ := r
      rw [hv] at h
      simp only [Option.bind_some] at h
      refine ⟨b, v, rfl, ?_⟩
      cases hd : o.dst with
      | none => simp [hd] at h; obtain ⟨rfl, rfl⟩ := h; exact ⟨hv, rfl, by simp⟩
      | some d =>
        simp only [hd] at h
        split at h
        · rename_i hlt; cases h; exact ⟨hv, rfl, fun d' hd' => by cases hd'; exact hlt⟩
        · cases h

/-- An effect, carried out where it stands. -/
theorem eff_wp {r : Option Nat} (hC : CallOk cx call) {i : Nat} {o : Oper} (hi : ops[i]? = some o) {ρ : Env} {b : Bool} {v : V} {H H' : Heap} (hw : wantedV ops o ρ = some b)
    (h : (if b then evOp cx fx call o ρ H else some (.skip, H)) = some (v, H')) {g : G} {w : World} {a : Act} (hS : Sim fx.bs g H w) (hE : ERel g w (seen ops o ρ) a.tmps fx.n) {K : Act → World → Prop} {Q : Exit → Act → World → Prop}
    (hn : ∀ v' w' g', Out fx.bs g w H g' w' H' → VRel g' w' v v' → K (a.put o.dst v') w') : wpOpIn (FR r) 0 cx.P ops Q i K a w := by
  unfold wpOpIn
  rw [← seen_wanted] at hw
  simp only [hi, wanted_eq hw hE]
  cases b with
  | true =>
    simp only [if_true] at h ⊢
    rw [← evOp_congr (ρ := seen ops o ρ) o (fun x hx => seen_opnd hx)] at h
    exact wpIn_of_wp (evOp_noDefer h) (evOp_wp rfl hC h hS hE hn)
  | false =>
    simp only [Bool.false_eq_true, if_false] at h ⊢
    cases h
    exact ⟨fun _ _ => trivial, hn _ _ g (Out.refl hS) .skip⟩

/-- Whatever has no effect, carried out in any state that looks the same. -/
theorem quiet_wp {r : Option Nat} (hC : CallOk cx call) {i : Nat} {o : Oper} (hi : ops[i]? = some o) (hq : isE o = false) {ρ : Env} {b : Bool} {v : V} {Hp Hp' : Heap} (hw : wantedV ops o ρ = some b)
    (h : (if b then evOp cx fx call o ρ Hp else some (.skip, Hp)) = some (v, Hp')) :
    (Hp' = Hp ∧ ∀ (g : G) (w : World) (H : Heap) (a : Act), Sim fx.bs g H w → ERel g w (seen ops o ρ) a.tmps fx.n → sees cx.P o ρ Hp H → ∀ (K : Act → World → Prop) (Q : Exit → Act → World → Prop),
      (∀ v' w' g', Out fx.bs g w H g' w' H → VRel g' w' v v' → K (a.put o.dst v') w') → wpOpIn (FR r) 0 cx.P ops Q i K a w) ∨
    (∃ ob, Hp' = Hp ++ [ob] ∧ isRA cx.P o = true ∧ (∀ t x, o.op ≠ .load t x) ∧ (∀ t m k ok, o.op ≠ .lookup t m k ok) ∧
      ∀ (g : G) (w : World) (H : Heap) (a : Act), Open fx.bs g H Hp.length ob → Sim fx.bs g H w → ERel g w (seen ops o ρ) a.tmps fx.n → ∀ (K : Act → World → Prop) (Q : Exit → Act → World → Prop),
        (∀ v' w' g', Lay fx.bs g w H Hp.length g' w' → VRel g' w' v v' → K (a.put o.dst v') w') → wpOpIn (FR r) 0 cx.P ops Q i K a w) := by
  cases b with
  | false =>
    simp only [Bool.false_eq_true, if_false] at h
    cases h
    refine .inl ⟨rfl, fun g w H a hS hE _ K Q hn => ?_⟩
    unfold wpOpIn
    rw [← seen_wanted] at hw
    simp only [hi, wanted_eq hw hE, Bool.false_eq_true, if_false]
    exact ⟨fun _ _ => trivial, hn _ _ g (Out.refl hS) .skip⟩
  | true =>
    simp only [if_true] at h
    rw [← evOp_congr (ρ := seen ops o ρ) o (fun x hx => seen_opnd hx)] at h
    rcases evOp_quiet hq h with ⟨h1, h2⟩ | ⟨ob, h1, h2, h3, h4, h5⟩
    · refine .inl ⟨h1, fun g w H a hS hE hsee K Q hn => ?_⟩
      unfold wpOpIn
      rw [← seen_wanted] at hw
      simp only [hi, wanted_eq hw hE, if_true]
      refine wpIn_of_wp (evOp_noDefer h) (evOp_wp rfl hC (h2 H ?_) hS hE hn)
      unfold sees at hsee ⊢
      split
      · rename_i t x ho
        simp only [ho] at hsee
        rw [seen_opnd (by rw [ho]; simp [Op.operands])]
        exact hsee
      · rename_i t m k ok ho
        simp only [ho] at hsee
        rw [seen_opnd (by rw [ho]; simp [Op.operands]), seen_opnd (by rw [ho]; simp [Op.operands])]
        exact hsee
      · trivial
    · refine .inr ⟨ob, h1, h2, h3, h4, fun g w H a hO hS hE K Q hn => ?_⟩
      unfold wpOpIn
      rw [← seen_wanted] at hw
      simp only [hi, wanted_eq hw hE, if_true]
      exact wpIn_of_wp (evOp_noDefer h) (h5 _ _ _ _ _ _ _ _ hO hS hE hn)
end
end Go.E
/- Soundness of E: a region that draws (3). Own work. -/
namespace Go.E

theorem loadV_more {P : Program} {t : TypeId} {p v : V} {H : Heap} (ob : HObj) (h : loadV P t p H = some v) : loadV P t p (H ++ [ob]) = some v := by
  unfold loadV at h ⊢
  split at h
  · exact h
  · rename_i id off
    cases hH : H[id]? with
    | none => simp [hH] at h
    | some x =>
      have hlt := (List.getElem?_eq_some_iff.1 hH).1
      simp only [List.getElem?_append_left hlt]
      simpa [hH] using h
  · rename_i id ver i off
    cases hH : H[id]? with
    | none => simp [hH] at h
    | some x =>
      have hlt := (List.getElem?_eq_some_iff.1 hH).1
      simp only [List.getElem?_append_left hlt]
      simpa [hH] using h
  · cases h

theorem lookupV_more {P : Program} {t : TypeId} {m k v : V} {ok : Bool} {H : Heap} (ob : HObj) (h : lookupV P t m k ok H = some v) : lookupV P t m k ok (H ++ [ob]) = some v := by
  have key : ∀ id x, H[id]? = some x → (H ++ [ob])[id]? = some x := fun id x hH => by
    rw [List.getElem?_append_left (List.getElem?_eq_some_iff.1 hH).1]; exact hH
  cases m with
  | map id =>
    cases hH : H[id]? with
    | none =>
      unfold lookupV at h; simp only [hH] at h
      split at h
      · split at h <;> simp at h
      · cases h
    | some x =>
      unfold lookupV at h ⊢
      simp only [key id x hH]
      simpa only [hH] using h
  | _ => simpa [lookupV] using h

section
variable {cx : Cx} {call : CallSem} {fx : Fx} {ops : Array Oper}

structure Tr (cx : Cx) (call : CallSem) (fx : Fx) (ops : Array Oper) (ord : List Nat) (S : Nat → Env × Heap) : Prop where
  nd : nodupB ord = true
  all : ∀ i, i < ops.size → i ∈ ord
  topo : topoOk ops [] ord = true
  eff : effOk ops (anc ops) ord = true
  tmp : tmpOk ops (anc ops) = true
  step : ∀ p i, ord[p]? = some i → ∃ o, ops[i]? = some o ∧ evOper cx fx call ops o (S p).1 (S p).2 = some (S (p + 1))
  obs : ∀ p q i j o u, p < q → ord[p]? = some i → ord[q]? = some j → ops[i]? = some o → ops[j]? = some u → isRA cx.P o = true → isE u = true → i ∉ (anc ops).getD j [] →
    obsEq cx.P o (S p).1 (S p).2 (S q).2 (S (q + 1)).2

variable {ord : List Nat} {S : Nat → Env × Heap}

theorem Tr.edges (t : Tr cx call fx ops ord S) {p i : Nat} {o : Oper} (hp : ord[p]? = some i) (ho : ops[i]? = some o) : ∀ e ∈ edgesOf o, e ∈ ord.take p := by
  obtain ⟨o2, h1, h2⟩ := topo_spec t.topo hp
  rw [ho] at h1; cases h1
  simpa using h2

theorem take_mem {ord : List Nat} {p i : Nat} : i ∈ ord.take p ↔ ∃ q, q < p ∧ ord[q]? = some i := by
  constructor
  · intro h
    obtain ⟨q, hq⟩ := List.getElem?_of_mem h
    rw [List.getElem?_take] at hq
    split at hq
    · rename_i hlt; exact ⟨q, hlt, hq⟩
    · cases hq
  · rintro ⟨q, h1, h2⟩
    exact List.mem_of_getElem? (i := q) (by rw [List.getElem?_take, if_pos h1]; exact h2)

theorem Tr.closed (t : Tr cx call fx ops ord S) (p : Nat) : Closed ops (· ∈ ord.take p) := by
  intro i o ho hi e he
  obtain ⟨q, h1, h2⟩ := take_mem.1 hi
  obtain ⟨q2, h3, h4⟩ := take_mem.1 (t.edges h2 ho e he)
  exact take_mem.2 ⟨q2, by omega, h4⟩

/-- Who is waited for stands ahead. -/
theorem Tr.ahead (t : Tr cx call fx ops ord S) {p i j : Nat} {o : Oper} (hp : ord[p]? = some i) (ho : ops[i]? = some o) (hj : j ∈ (anc ops).getD i []) : ∃ q, q < p ∧ ord[q]? = some j :=
  take_mem.1 (anc_row ho (t.closed p) (t.edges hp ho) hj)

theorem Tr.op (t : Tr cx call fx ops ord S) {p i : Nat} (hp : ord[p]? = some i) : ∃ o, ops[i]? = some o := by
  obtain ⟨o, h, _⟩ := t.step p i hp; exact ⟨o, h⟩

/-- A temporary that no one writes. -/
theorem Tr.frame (t : Tr cx call fx ops ord S) {d q1 : Nat} : ∀ (k : Nat), q1 + k ≤ ord.length → (∀ p i o, q1 ≤ p → p < q1 + k → ord[p]? = some i → ops[i]? = some o → o.dst ≠ some d) → (S (q1 + k)).1 d = (S q1).1 d
  | 0, _, _ => rfl
  | k + 1, hk, h => by
    rw [← t.frame k (by omega) (fun p i o h1 h2 => h p i o h1 (by omega))]
    have hlt : q1 + k < ord.length := by omega
    obtain ⟨o, ho, hs⟩ := t.step (q1 + k) ord[q1 + k] (by simp [hlt])
    obtain ⟨b, v, _, _, h3, _⟩ := evOper_split hs
    rw [show q1 + (k + 1) = q1 + k + 1 by omega, h3]
    have hd := h (q1 + k) _ o (by omega) (by omega) (by simp [hlt]) ho
    unfold putO
    cases hdst : o.dst with
    | none => rfl
    | some d' => simp only [Env.put]; rw [if_neg (fun e => hd (by rw [hdst, e]))]

structure DInv (fx : Fx) (ops : Array Oper) (ord : List Nat) (S : Nat → Env × Heap) (g0 : G) (w0 : World) (ds : List Deferred) (L : Nat → Prop) (T : Nat) (a : Act) (w : World) (g : G) : Prop where
  closed : Closed ops L
  Tle : T ≤ ord.length
  before : ∀ p i o, p < T → ord[p]? = some i → ops[i]? = some o → isE o = true → L i
  after : ∀ p i, T ≤ p → ord[p]? = some i → ¬ L i
  at_ : T < ord.length → ∃ i o, ord[T]? = some i ∧ ops[i]? = some o ∧ isE o = true
  sim : Sim fx.bs g (S T).2 w
  ext : Ext g0 w0 g w
  dom : ∀ id, g.φ id ≠ none ↔ g0.φ id ≠ none ∨ ∃ p i, ord[p]? = some i ∧ L i ∧ (S p).2.length ≤ id ∧ id < (S (p + 1)).2.length
  mono : ∀ p, p < T → (S p).2.length ≤ (S (p + 1)).2.length
  env : ∀ d q, q ≤ ord.length → (∀ p i o, p < q → ord[p]? = some i → ops[i]? = some o → o.dst = some d → L i) → (∀ p i o, q ≤ p → ord[p]? = some i → ops[i]? = some o → o.dst = some d → ¬ L i) →
    VRel g w ((S q).1 d) (a.tmps.getD d Go.undef)
  size : a.tmps.size = fx.n
  defers : a.defers = ds

/-- Up to the next effect. -/
theorem Tr.next (t : Tr cx call fx ops ord S) (hC : CallOk cx call) {g : G} {w : World} : ∀ (k q : Nat), q + k = ord.length → Sim fx.bs g (S q).2 w →
    ∃ T, q ≤ T ∧ T ≤ ord.length ∧ (∀ p i o, q ≤ p → p < T → ord[p]? = some i → ops[i]? = some o → isE o = false) ∧ (T < ord.length → ∃ i o, ord[T]? = some i ∧ ops[i]? = some o ∧ isE o = true) ∧
      Sim fx.bs g (S T).2 w ∧ ∀ p, q ≤ p → p < T → (S p).2.length ≤ (S (p + 1)).2.length
  | 0, q, hq, hS => ⟨q, Nat.le_refl _, by omega, fun p i o h1 h2 => by omega, fun h => by omega, hS, fun p h1 h2 => by omega⟩
  | k + 1, q, hq, hS => by
    have hlt : q < ord.length := by omega
    have hp : ord[q]? = some ord[q] := by simp [hlt]
    obtain ⟨o, ho, hs⟩ := t.step q _ hp
    cases he : isE o with
    | true => exact ⟨q, Nat.le_refl _, by omega, fun p i o h1 h2 => by omega, fun _ => ⟨_, o, hp, ho, he⟩, hS, fun p h1 h2 => by omega⟩
    | false =>
      obtain ⟨b, v, h1, h2, h3, h4⟩ := evOper_split hs
      have hS' : Sim fx.bs g (S (q + 1)).2 w ∧ (S q).2.length ≤ (S (q + 1)).2.length := by
        rcases quiet_wp (r := none) hC ho he h1 h2 with ⟨h5, _⟩ | ⟨ob, h5, _⟩
        · rw [h5]; exact ⟨hS, Nat.le_refl _⟩
        · rw [h5]; exact ⟨hS.more ob, by simp⟩
      obtain ⟨T, k1, k2, k3, k4, k5, k6⟩ := t.next hC k (q + 1) (by omega) hS'.1
      refine ⟨T, by omega, k2, fun p i o' h5 h6 h7 h8 => ?_, k4, k5, fun p h5 h6 => ?_⟩
      · by_cases e : p = q
        · subst e; rw [hp] at h7; cases h7; rw [ho] at h8; cases h8; exact he
        · exact k3 p i o' (by omega) h6 h7 h8
      · by_cases e : p = q
        · subst e; exact hS'.2
        · exact k6 p (by omega) h6

section
variable {g0 : G} {w0 : World} {ds : List Deferred} {L : Nat → Prop} {T : Nat} {a : Act} {w : World} {g : G}

theorem DInv.len (D : DInv fx ops ord S g0 w0 ds L T a w g) {p : Nat} : ∀ (k : Nat), p + k ≤ T → (S p).2.length ≤ (S (p + k)).2.length
  | 0, _ => Nat.le_refl _
  | k + 1, h => Nat.le_trans (D.len k (by omega)) (D.mono (p + k) (by omega))

theorem DInv.anc (D : DInv fx ops ord S g0 w0 ds L T a w g) {i j : Nat} {o : Oper} (ho : ops[i]? = some o) (hi : L i) (hj : j ∈ (Go.E.anc ops).getD i []) : L j :=
  anc_row ho D.closed (D.closed i o ho hi) hj

theorem DInv.seen (D : DInv fx ops ord S g0 w0 ds L T a w g) (t : Tr cx call fx ops ord S) {p i : Nat} {o : Oper} (hp : ord[p]? = some i) (ho : ops[i]? = some o) (hi : ¬ L i) (he : ∀ e ∈ edgesOf o, L e) :
    ERel g w (seen ops o (S p).1) a.tmps fx.n := by
  refine ⟨D.size, fun d => ?_⟩
  unfold Go.E.seen
  split
  case isFalse => exact .undef _
  rename_i hd
  have hplt := (List.getElem?_eq_some_iff.1 hp).1
  refine D.env d p (by omega) (fun p2 j u h1 h2 h3 h4 => ?_) (fun p2 j u h1 h2 h3 h4 hj => ?_)
  · have hne : j ≠ i := fun e => by subst e; have := nodupB_spec t.nd hp h2; omega
    rcases tmp_spec t.tmp h3 ho h4 hne with h5 | h5 | h5
    · exact anc_row ho D.closed he h5
    · obtain ⟨q, h6, h7⟩ := t.ahead h2 h3 h5
      have := nodupB_spec t.nd hp h7; omega
    · exact absurd hd h5.1
  · by_cases e : p2 = p
    · subst e; rw [hp] at h2; cases h2; exact hi hj
    · have hne : j ≠ i := fun e => hi (e ▸ hj)
      rcases tmp_spec t.tmp h3 ho h4 hne with h5 | h5 | h5
      · obtain ⟨q, h6, h7⟩ := t.ahead hp ho h5
        have := nodupB_spec t.nd h2 h7; omega
      · exact hi (D.anc h3 hj h5)
      · exact h5.1 hd

theorem DInv.env' (D : DInv fx ops ord S g0 w0 ds L T a w g) (t : Tr cx call fx ops ord S) {p i : Nat} {o : Oper} (hp : ord[p]? = some i) (ho : ops[i]? = some o) (hi : ¬ L i) {v : V} {v' : Value} {g' : G} {w' : World}
    (hS : (S (p + 1)).1 = putO (S p).1 o.dst v) (hn : ∀ d, o.dst = some d → d < fx.n) (x : Ext g w g' w') (hv : VRel g' w' v v') :
    ∀ d q, q ≤ ord.length → (∀ p2 j o2, p2 < q → ord[p2]? = some j → ops[j]? = some o2 → o2.dst = some d → (L j ∨ j = i)) → (∀ p2 j o2, q ≤ p2 → ord[p2]? = some j → ops[j]? = some o2 → o2.dst = some d → ¬ (L j ∨ j = i)) →
      VRel g' w' ((S q).1 d) ((a.put o.dst v').tmps.getD d Go.undef) := by
  intro d q hq h1 h2
  by_cases hd : o.dst = some d
  · have hlt : p < q := by
      by_cases h : q ≤ p
      · exact absurd (.inr rfl) (h2 p i o h hp ho hd)
      · omega
    have hf := t.frame (d := d) (q1 := p + 1) (q - (p + 1)) (by omega) (fun p2 j u h3 h4 h5 h6 h7 => by
      have hne : i ≠ j := fun e => by subst e; have := nodupB_spec t.nd hp h5; omega
      have hL : L j := (h1 p2 j u (by omega) h5 h6 h7).resolve_right (fun e => hne e.symm)
      rcases tmp_spec t.tmp ho h6 hd hne with h8 | h8 | h8
      · exact hi (D.anc h6 hL h8)
      · obtain ⟨q2, h9, h10⟩ := t.ahead hp ho h8
        have := nodupB_spec t.nd h5 h10; omega
      · exact h8.2 h7)
    rw [show p + 1 + (q - (p + 1)) = q by omega] at hf
    rw [hf, hS]
    have hdl : d < a.tmps.size := by rw [D.size]; exact hn d hd
    have e1 : (a.put o.dst v').tmps.getD d Go.undef = v' := by
      rw [hd]
      have : d < (a.tmps.setIfInBounds d v').size := by simpa using hdl
      simp [Act.put, Array.getD, hdl]
    rw [e1]
    simp only [hd, putO, Env.put, if_true]
    exact hv
  · have e1 : (a.put o.dst v').tmps.getD d Go.undef = a.tmps.getD d Go.undef := by
      cases hdst : o.dst with
      | none => rfl
      | some d2 =>
        have hne : d2 ≠ d := fun e => hd (by rw [hdst, e])
        simp [Act.put, Array.getD_eq_getD_getElem?, Array.getElem?_setIfInBounds_ne hne]
    rw [e1]
    refine (D.env d q hq (fun p2 j u h3 h4 h5 h6 => ?_) (fun p2 j u h3 h4 h5 h6 h7 => h2 p2 j u h3 h4 h5 h6 (.inl h7))).mono x
    rcases h1 p2 j u h3 h4 h5 h6 with h7 | h7
    · exact h7
    · subst h7; rw [ho] at h5; cases h5; exact absurd h6 hd

theorem DInv.closed' (D : DInv fx ops ord S g0 w0 ds L T a w g) {i : Nat} {o : Oper} (ho : ops[i]? = some o) (he : ∀ e ∈ edgesOf o, L e) : Closed ops fun j => L j ∨ j = i := by
  intro j u hu hj e hee
  rcases hj with hj | rfl
  · exact .inl (D.closed j u hu hj e hee)
  · rw [ho] at hu; cases hu; exact .inl (he e hee)

theorem put_size (a : Act) (d : Option Nat) (v : Value) : (a.put d v).tmps.size = a.tmps.size := by cases d <;> simp [Act.put]
theorem put_defers (a : Act) (d : Option Nat) (v : Value) : (a.put d v).defers = a.defers := by cases d <;> rfl

/-- What o saw is what it sees now; what it laid lies there. -/
theorem DInv.chain (D : DInv fx ops ord S g0 w0 ds L T a w g) (t : Tr cx call fx ops ord S) (hC : CallOk cx call) {p i : Nat} {o : Oper} (hp : ord[p]? = some i) (ho : ops[i]? = some o) (hi : ¬ L i) (hq : isE o = false)
    (hr : isRA cx.P o = true) (I : Heap → Prop) (hI1 : ∀ q H', p ≤ q → obsEq cx.P o (S p).1 (S p).2 (S q).2 H' → I (S q).2 → I H') (hI2 : ∀ H ob, I H → I (H ++ [ob])) :
    ∀ (k q : Nat), p ≤ q → (q = p → ∀ j u, ord[q]? = some j → ops[j]? = some u → True) → q + k ≤ T → I (S q).2 → I (S (q + k)).2
  | 0, _, _, _, _, h => h
  | k + 1, q, hpq, hx, hT, h => by
    have ih := D.chain t hC hp ho hi hq hr I hI1 hI2 k q hpq hx (by omega) h
    have hlt : q + k < ord.length := by have := D.Tle; omega
    have hq2 : ord[q + k]? = some ord[q + k] := by simp [hlt]
    obtain ⟨u, hu, hs⟩ := t.step (q + k) _ hq2
    cases he : isE u with
    | true =>
      have hne : q + k ≠ p := fun e => by subst e; rw [hp] at hq2; cases hq2; rw [ho] at hu; cases hu; rw [hq] at he; cases he
      have hL := D.before (q + k) _ u (by omega) hq2 hu he
      exact hI1 (q + k) _ (by omega) (t.obs p (q + k) i _ o u (by omega) hp hq2 ho hu hr he (fun hm => hi (D.anc hu hL hm))) ih
    | false =>
      obtain ⟨b, v, h1, h2, h3, h4⟩ := evOper_split hs
      rw [show q + (k + 1) = q + k + 1 by omega]
      rcases quiet_wp (r := none) hC hu he h1 h2 with ⟨h5, _⟩ | ⟨ob, h5, _⟩
      · rw [h5]; exact ih
      · rw [h5]; exact hI2 _ _ ih

theorem DInv.step {r : Option Nat} (D : DInv fx ops ord S g0 w0 ds L T a w g) (t : Tr cx call fx ops ord S) (hC : CallOk cx call) (hb : ∀ id, g0.φ id ≠ none → id < (S 0).2.length) (hb0 : fx.bs.headD 0 ≤ (S 0).2.length)
    {p i : Nat} {o : Oper} (hp : ord[p]? = some i) (ho : ops[i]? = some o) (hi : ¬ L i) (he : ∀ e ∈ edgesOf o, L e)
    {K : Act → World → Prop} {Q : Exit → Act → World → Prop} (hK : ∀ a' w' g' T', DInv fx ops ord S g0 w0 ds (fun j => L j ∨ j = i) T' a' w' g' → K a' w') : wpOpIn (FR r) 0 cx.P ops Q i K a w := by
  obtain ⟨o2, ho2, hs⟩ := t.step p i hp
  rw [ho] at ho2; cases ho2
  obtain ⟨b, v, hw, hv, hput, hn⟩ := evOper_split hs
  have hE := D.seen t hp ho hi he
  have hplt := (List.getElem?_eq_some_iff.1 hp).1
  cases hq : isE o with
  | true =>
    -- it is the next effect
    have hpT : p = T := by
      rcases Nat.lt_trichotomy p T with h | h | h
      · exact absurd (D.before p i o h hp ho hq) hi
      · exact h
      · obtain ⟨j, u, h1, h2, h3⟩ := D.at_ (by omega)
        exact absurd (anc_row ho D.closed he (eff_spec t.eff h h1 hp h2 h3)) (D.after T j (Nat.le_refl _) h1)
    subst hpT
    refine eff_wp hC ho hw hv D.sim hE (fun v' w' g' o1 r1 => ?_)
    obtain ⟨T', k1, k2, k3, k4, k5, k6⟩ := t.next hC (ord.length - (p + 1)) (p + 1) (by omega) o1.sim
    refine hK _ w' g' T' ⟨D.closed' ho he, k2, fun p2 j u h1 h2 h3 h4 => ?_, fun p2 j h1 h2 h3 => ?_, k4, k5, D.ext.trans o1.ext, fun id => ?_, fun p2 h1 => ?_, D.env' t hp ho hi hput hn o1.ext r1, by rw [put_size, D.size], by rw [put_defers, D.defers]⟩
    · rcases Nat.lt_trichotomy p2 p with h | h | h
      · exact .inl (D.before p2 j u h h2 h3 h4)
      · subst h; rw [hp] at h2; cases h2; exact .inr rfl
      · rw [k3 p2 j u (by omega) h1 h2 h3] at h4; cases h4
    · rcases h3 with h3 | h3
      · exact D.after p2 j (by omega) h2 h3
      · subst h3; have := nodupB_spec t.nd hp h2; omega
    · rw [o1.dom, D.dom]
      constructor
      · rintro ((h | ⟨p2, j, h1, h2, h3⟩) | h)
        · exact .inl h
        · exact .inr ⟨p2, j, h1, .inl h2, h3⟩
        · exact .inr ⟨p, i, hp, .inr rfl, h⟩
      · rintro (h | ⟨p2, j, h1, h2, h3⟩)
        · exact .inl (.inl h)
        · rcases h2 with h2 | h2
          · exact .inl (.inr ⟨p2, j, h1, h2, h3⟩)
          · subst h2
            have := nodupB_spec t.nd hp h1
            subst this
            exact .inr h3
    · rcases Nat.lt_trichotomy p2 p with h | h | h
      · exact D.mono p2 h
      · subst h; exact o1.len
      · exact k6 p2 (by omega) h1
  | false =>
    have hpT : p < T := by
      rcases Nat.lt_trichotomy p T with h | h | h
      · exact h
      · subst h
        obtain ⟨j, u, h1, h2, h3⟩ := D.at_ (by omega)
        rw [hp] at h1; cases h1; rw [ho] at h2; cases h2; rw [hq] at h3; cases h3
      · obtain ⟨j, u, h1, h2, h3⟩ := D.at_ (by omega)
        exact absurd (anc_row ho D.closed he (eff_spec t.eff h h1 hp h2 h3)) (D.after T j (Nat.le_refl _) h1)
    have hafter : ∀ p2 j, T ≤ p2 → ord[p2]? = some j → ¬ (L j ∨ j = i) := fun p2 j h1 h2 h3 => by
      rcases h3 with h3 | h3
      · exact D.after p2 j h1 h2 h3
      · subst h3; have := nodupB_spec t.nd hp h2; omega
    rcases quiet_wp (r := r) hC ho hq hw hv with ⟨h5, h6⟩ | ⟨ob, h5, hr, hnl, hnk, h6⟩
    · have hsees : sees cx.P o (S p).1 (S p).2 (S T).2 := by
        unfold sees
        split
        · rename_i t' x hop
          intro y hy
          have := D.chain t hC hp ho hi hq (by simp [isRA, hop]) (fun H => loadV cx.P t' (opnd (S p).1 x) H = some y) (fun q H' _ h1 h2 => by
            simp only [obsEq, hop] at h1; rw [h1]; exact h2) (fun H ob h => loadV_more ob h) (T - p) p (Nat.le_refl _) (fun _ _ _ _ _ => trivial) (by omega) hy
          rwa [show p + (T - p) = T by omega] at this
        · rename_i t' m k ok hop
          intro y hy
          have := D.chain t hC hp ho hi hq (by simp [isRA, hop]) (fun H => lookupV cx.P t' (opnd (S p).1 m) (opnd (S p).1 k) ok H = some y) (fun q H' _ h1 h2 => by
            simp only [obsEq, hop] at h1; rw [h1]; exact h2) (fun H ob h => lookupV_more ob h) (T - p) p (Nat.le_refl _) (fun _ _ _ _ _ => trivial) (by omega) hy
          rwa [show p + (T - p) = T by omega] at this
        · trivial
      refine h6 g w (S T).2 a D.sim hE hsees K Q (fun v' w' g' o1 r1 => ?_)
      refine hK _ w' g' T ⟨D.closed' ho he, D.Tle, fun p2 j u h1 h2 h3 h4 => .inl (D.before p2 j u h1 h2 h3 h4), hafter, D.at_, o1.sim, D.ext.trans o1.ext, fun id => ?_, D.mono, D.env' t hp ho hi hput hn o1.ext r1, by rw [put_size, D.size], by rw [put_defers, D.defers]⟩
      rw [o1.dom, D.dom]
      constructor
      · rintro ((h | ⟨p2, j, h1, h2, h3⟩) | h)
        · exact .inl h
        · exact .inr ⟨p2, j, h1, .inl h2, h3⟩
        · omega
      · rintro (h | ⟨p2, j, h1, h2, h3⟩)
        · exact .inl (.inl h)
        · rcases h2 with h2 | h2
          · exact .inl (.inr ⟨p2, j, h1, h2, h3⟩)
          · subst h2
            have := nodupB_spec t.nd hp h1
            subst this
            rw [h5] at h3; omega
    · have hlen1 : (S (p + 1)).2.length = (S p).2.length + 1 := by rw [h5]; simp
      have hopen : Open fx.bs g (S T).2 (S p).2.length ob := by
        refine ⟨?_, ?_, ?_⟩
        · cases hφ : g.φ (S p).2.length with
          | none => rfl
          | some l =>
            exfalso
            rcases (D.dom (S p).2.length).1 (by rw [hφ]; simp) with h | ⟨p2, j, h1, h2, h3, h4⟩
            · have h7 := hb _ h
              have h8 := D.len (p := 0) p (by omega)
              rw [Nat.zero_add] at h8; omega
            · have hp2 : p2 < T := by
                by_cases h : T ≤ p2
                · exact absurd h2 (D.after p2 j h h1)
                · omega
              rcases Nat.lt_trichotomy p2 p with h | h | h
              · have h8 := D.len (p := p2 + 1) (p - (p2 + 1)) (by omega)
                rw [show p2 + 1 + (p - (p2 + 1)) = p by omega] at h8; omega
              · subst h; rw [hp] at h1; cases h1; exact hi h2
              · have h8 := D.len (p := p + 1) (p2 - (p + 1)) (by omega)
                rw [show p + 1 + (p2 - (p + 1)) = p2 by omega] at h8; omega
        · have h8 := D.len (p := 0) p (by omega)
          rw [Nat.zero_add] at h8; omega
        · have := D.chain t hC hp ho hi hq hr (fun H => H[(S p).2.length]? = some ob) (fun q H' _ h1 h2 => by
            unfold obsEq at h1
            split at h1
            · rename_i t' x hop; exact absurd hop (hnl t' x)
            · rename_i t' m k ok hop; exact absurd hop (hnk t' m k ok)
            · rw [h1]; exact h2) (fun H ob' h => by rw [List.getElem?_append_left (List.getElem?_eq_some_iff.1 h).1]; exact h) (T - (p + 1)) (p + 1) (by omega) (fun _ _ _ _ _ => trivial) (by omega) (by rw [h5]; simp)
          rwa [show p + 1 + (T - (p + 1)) = T by omega] at this
      refine h6 g w (S T).2 a hopen D.sim hE K Q (fun v' w' g' o1 r1 => ?_)
      refine hK _ w' g' T ⟨D.closed' ho he, D.Tle, fun p2 j u h1 h2 h3 h4 => .inl (D.before p2 j u h1 h2 h3 h4), hafter, D.at_, o1.sim, D.ext.trans o1.ext, fun id => ?_, D.mono, D.env' t hp ho hi hput hn o1.ext r1, by rw [put_size, D.size], by rw [put_defers, D.defers]⟩
      rw [o1.dom, D.dom]
      constructor
      · rintro ((h | ⟨p2, j, h1, h2, h3⟩) | h)
        · exact .inl h
        · exact .inr ⟨p2, j, h1, .inl h2, h3⟩
        · subst h; exact .inr ⟨p, i, hp, .inr rfl, Nat.le_refl _, by omega⟩
      · rintro (h | ⟨p2, j, h1, h2, h3⟩)
        · exact .inl (.inl h)
        · rcases h2 with h2 | h2
          · exact .inl (.inr ⟨p2, j, h1, h2, h3⟩)
          · subst h2
            have := nodupB_spec t.nd hp h1
            subst this
            exact .inr (by omega)
end
end
end Go.E
/- Soundness of E: a region that draws (4). Own work. -/
namespace Go.E
section
variable {cx : Cx} {call : CallSem} {fx : Fx} {ops : Array Oper} {ord : List Nat} {S : Nat → Env × Heap}

theorem edgesOf_mem {o : Oper} {e : Nat} : e ∈ edgesOf o ↔ ∃ x ∈ o.after.toList, Region.binds .any x = true ∧ x.on = e := by
  unfold edgesOf
  simp only [List.mem_filterMap]
  constructor
  · rintro ⟨x, h1, h2⟩
    split at h2
    · rename_i hb; cases h2; exact ⟨x, h1, hb, rfl⟩
    · cases h2
  · rintro ⟨x, h1, h2, h3⟩
    exact ⟨x, h1, by rw [if_pos h2, h3]⟩

def Lof (listed : Array Bool) : Nat → Prop := fun i => listed.getD i false = true

theorem ready_mem {ops : Array Oper} {listed : Array Bool} (hs : listed.size = ops.size) {i : Nat} : i ∈ Region.ready .any ops listed ↔ ∃ o, ops[i]? = some o ∧ ¬ Lof listed i ∧ ∀ e ∈ edgesOf o, Lof listed e := by
  unfold Region.ready
  rw [List.mem_filter, List.mem_range]
  have key : ∀ (h : i < listed.size), listed.getD i true = listed[i] ∧ listed.getD i false = listed[i] := fun h => by simp [Array.getD, h]
  constructor
  · rintro ⟨h1, h2⟩
    simp only [Bool.and_eq_true, Bool.not_eq_true'] at h2
    obtain ⟨h3, h4⟩ := h2
    cases ho : ops[i]? with
    | none => rw [ho] at h4; simp at h4
    | some o =>
      rw [ho] at h4
      simp only [Option.map_some, Option.getD_some] at h4
      refine ⟨o, rfl, ?_, fun e he => ?_⟩
      · unfold Lof; rw [(key (by omega)).2, ← (key (by omega)).1, h3]; simp
      · obtain ⟨x, hx, hb, rfl⟩ := edgesOf_mem.1 he
        rw [Array.all_eq_true'] at h4
        have := h4 x (by simpa using hx)
        simpa [hb, Lof] using this
  · rintro ⟨o, ho, h1, h2⟩
    have hi : i < ops.size := (Array.getElem?_eq_some_iff.1 ho).1
    refine ⟨hi, ?_⟩
    simp only [ho, Option.map_some, Option.getD_some, Bool.and_eq_true, Bool.not_eq_true']
    refine ⟨?_, ?_⟩
    · rw [(key (by omega)).1, ← (key (by omega)).2]
      unfold Lof at h1; simpa using h1
    · rw [Array.all_eq_true']
      intro x hx
      cases hb : Region.binds .any x with
      | false => rfl
      | true => simpa [Lof] using h2 x.on (edgesOf_mem.2 ⟨x, by simpa using hx, hb, rfl⟩)

/-- Some one is ready, as long as not all are listed. -/
theorem some_ready (t : Tr cx call fx ops ord S) {listed : Array Bool} (hs : listed.size = ops.size) {i : Nat} (hi : i < ops.size) (hn : ¬ Lof listed i) : Region.ready .any ops listed ≠ [] := by
  obtain ⟨p, hp⟩ := List.getElem?_of_mem (t.all i hi)
  clear hi
  induction p using Nat.strongRecOn generalizing i with
  | ind p ih =>
    obtain ⟨o, ho⟩ := t.op hp
    by_cases hall : ∀ e ∈ edgesOf o, Lof listed e
    · exact List.ne_nil_of_mem ((ready_mem hs).2 ⟨o, ho, hn, hall⟩)
    · simp only [Classical.not_forall] at hall
      obtain ⟨e, he, hne⟩ := hall
      obtain ⟨q, hq, hqe⟩ := take_mem.1 (t.edges hp ho e he)
      exact ih q hq hne hqe

theorem Lof_set {listed : Array Bool} {i : Nat} (hi : i < listed.size) (j : Nat) : Lof (listed.setIfInBounds i true) j ↔ Lof listed j ∨ j = i := by
  unfold Lof
  rw [Array.getD_eq_getD_getElem?, Array.getD_eq_getD_getElem?]
  by_cases e : j = i
  · subst e
    simp [hi]
  · rw [Array.getElem?_setIfInBounds_ne (Ne.symm e)]
    simp [e]

theorem DInv.congr {g0 : G} {w0 : World} {ds : List Deferred} {L L' : Nat → Prop} (h : ∀ j, L j ↔ L' j) {T : Nat} {a : Act} {w : World} {g : G} (D : DInv fx ops ord S g0 w0 ds L T a w g) : DInv fx ops ord S g0 w0 ds L' T a w g := by
  have : L = L' := funext fun j => propext (h j)
  exact this ▸ D

theorem any_wp {r : Option Nat} (t : Tr cx call fx ops ord S) (hC : CallOk cx call) {g0 : G} {w0 : World} {ds : List Deferred} (hb : ∀ id, g0.φ id ≠ none → id < (S 0).2.length) (hb0 : fx.bs.headD 0 ≤ (S 0).2.length)
    {Q : Exit → Act → World → Prop} (hQ : ∀ a w g T, DInv fx ops ord S g0 w0 ds (fun i => i < ops.size) T a w g → Q .normal a w) :
    ∀ (n : Nat) (listed : Array Bool), listed.size = ops.size → ((List.range ops.size).filter fun i => !listed.getD i false).length ≤ n → ∀ a w g T, DInv fx ops ord S g0 w0 ds (Lof listed) T a w g → wpAnyIn (FR r) 0 cx.P .any ops Q n listed a w := by
  have done : ∀ (listed : Array Bool), listed.size = ops.size → (∀ i, i < ops.size → Lof listed i) → ∀ a w g T, DInv fx ops ord S g0 w0 ds (Lof listed) T a w g → Q .normal a w := by
    intro listed hs hall a w g T D
    refine hQ a w g T (D.congr fun j => ⟨fun h => ?_, fun h => hall j h⟩)
    unfold Lof at h
    rw [Array.getD_eq_getD_getElem?] at h
    cases hj : listed[j]? with
    | none => simp [hj] at h
    | some b => have := (Array.getElem?_eq_some_iff.1 hj).1; omega
  intro n
  induction n with
  | zero =>
    intro listed hs hc a w g T D
    have hall : ∀ i, i < ops.size → Lof listed i := fun i hi => by
      have h0 : ((List.range ops.size).filter fun i => !listed.getD i false) = [] := List.eq_nil_of_length_eq_zero (by omega)
      rw [List.filter_eq_nil_iff] at h0
      have := h0 i (List.mem_range.2 hi)
      simpa [Lof] using this
    refine ⟨?_, done listed hs hall a w g T D⟩
    cases hr : Region.ready .any ops listed with
    | nil => rfl
    | cons i r =>
      have := (ready_mem hs).1 (by rw [hr]; exact List.mem_cons_self : i ∈ Region.ready .any ops listed)
      obtain ⟨o, ho, h1, _⟩ := this
      exact absurd (hall i (Array.getElem?_eq_some_iff.1 ho).1) h1
  | succ n ih =>
    intro listed hs hc a w g T D
    refine ⟨fun hr => ?_, fun i hi => ?_⟩
    · refine done listed hs (fun i hi => ?_) a w g T D
      by_cases h : Lof listed i
      · exact h
      · exact absurd hr (some_ready t hs hi h)
    · obtain ⟨o, ho, h1, h2⟩ := (ready_mem hs).1 hi
      have hlt : i < ops.size := (Array.getElem?_eq_some_iff.1 ho).1
      obtain ⟨p, hp⟩ := List.getElem?_of_mem (t.all i hlt)
      refine D.step t hC hb hb0 hp ho h1 h2 (fun a' w' g' T' D' => ?_)
      refine ih (listed.setIfInBounds i true) (by simpa using hs) ?_ a' w' g' T' (D'.congr fun j => (Lof_set (by omega) j).symm)
      have hsub : ((List.range ops.size).filter fun j => !(listed.setIfInBounds i true).getD j false) = (((List.range ops.size).filter fun j => !listed.getD j false).filter fun j => decide (j ≠ i)) := by
        rw [List.filter_filter]
        refine List.filter_congr (fun j hj => ?_)
        have := Lof_set (listed := listed) (i := i) (by omega) j
        unfold Lof at this
        by_cases e : j = i
        · subst e; simp at this ⊢; exact this
        · simp [e] at this ⊢; rw [this]
      rw [hsub]
      have hlt2 : ((((List.range ops.size).filter fun j => !listed.getD j false).filter fun j => decide (j ≠ i))).length < ((List.range ops.size).filter fun j => !listed.getD j false).length := by
        rw [List.length_filter_lt_length_iff_exists]
        refine ⟨i, List.mem_filter.2 ⟨List.mem_range.2 hlt, ?_⟩, by simp⟩
        unfold Lof at h1; simpa using h1
      omega

theorem drawOk_all {cx : Cx} (hm : cx.P.follows .mixedOrders = true) : DrawOk cx := by
  intro r fx call hC id ops Q g w H H' ρ ρ' a h hS hE hn
  unfold evDraw at h
  split at h
  case isFalse => cases h
  rename_i hok
  cases ht : evTrace cx fx call ops (canon ops) ρ H with
  | none => simp [ht] at h
  | some z0 =>
    obtain ⟨st, z⟩ := z0
    simp only [ht, Option.bind_some] at h
    split at h
    case isFalse => cases h
    rename_i hchk
    cases h
    obtain ⟨s1, s2, s3⟩ := trace_spec ht
    simp only [drawOk, Bool.and_eq_true, beq_iff_eq] at hok
    obtain ⟨⟨⟨⟨⟨⟨k1, k2⟩, k3⟩, k4⟩, k5⟩, k6⟩, k7⟩ := hok
    generalize hord : canon ops = ord at *
    let S : Nat → Env × Heap := fun p => ((st ++ [(ρ', H')])[p]?).getD (ρ', H')
    have hS0 : S 0 = (ρ, H) := by simp only [S]; rw [s2]; rfl
    have hSm : S ord.length = (ρ', H') := by simp only [S]; rw [← s1]; simp
    have hSst : ∀ p s, st[p]? = some s → S p = s := fun p s hp => by
      have := (List.getElem?_eq_some_iff.1 hp).1
      simp only [S]; rw [List.getElem?_append_left this, hp]; rfl
    have t : Tr cx call fx ops ord S := by
      refine ⟨k1, fun i hi => ?_, k5, k6, k7, fun p i hp => ?_, fun p q i j o u hlt hp hq ho hu hr he hni => ?_⟩
      · have := List.all_eq_true.1 k3 i (List.mem_range.2 hi)
        simpa using this
      · obtain ⟨o, s, t, h1, h2, h3, h4⟩ := s3 p i hp
        refine ⟨o, h1, ?_⟩
        have e1 : S p = s := by simp only [S]; rw [h2]; rfl
        have e2 : S (p + 1) = t := by simp only [S]; rw [h3]; rfl
        rw [e1, e2]; exact h4
      · have hp2 := (List.getElem?_eq_some_iff.1 hp).1
        have hq2 := (List.getElem?_eq_some_iff.1 hq).1
        have hsp : st[p]? = some st[p] := by simp [s1, hp2]
        have hsq : st[q]? = some st[q] := by simp [s1, hq2]
        have := chk_spec hchk (pairs_mem hlt hp hq ho hu hr he hni) (o := o) (by simp [List.getD, hp, ho]) hsp hsq
        rw [← hSst p _ hsp, ← hSst q _ hsq] at this
        have e3 : ((st[q + 1]?).map (·.2)).getD H' = (S (q + 1)).2 := by
          by_cases hlt2 : q + 1 < st.length
          · have h1 : st[q + 1]? = some st[q + 1] := by simp [hlt2]
            rw [h1, hSst _ _ h1]; rfl
          · have h1 : st[q + 1]? = none := by rw [List.getElem?_eq_none_iff]; omega
            have h2 : q + 1 = ord.length := by omega
            rw [h1, h2, hSm]; rfl
        rw [e3] at this
        exact this
    have hbase : ∀ id, g.φ id ≠ none → id < (S 0).2.length := fun id hid => by rw [hS0]; exact hS.dom id hid
    have hb0 : fx.bs.headD 0 ≤ (S 0).2.length := by rw [hS0]; exact hS.bl
    refine wpIn_region_any hm ?_
    obtain ⟨T, q1, q2, q3, q4, q5, q6⟩ := t.next hC (g := g) (w := { w with drawn := w.drawn + 1 }) ord.length 0 (by omega) (by rw [hS0]; exact hS.drawn)
    have hnl : ∀ i, ¬ Lof (Array.replicate ops.size false) i := fun i h => by
      unfold Lof at h
      rw [Array.getD_eq_getD_getElem?, Array.getElem?_replicate] at h
      split at h <;> simp at h
    refine any_wp t hC (g0 := g) (w0 := w) (ds := a.defers) hbase hb0 (fun a' w' g' T' D => ?_) ops.size (Array.replicate ops.size false) (by simp) (by
      have := List.length_filter_le (fun i => !(Array.replicate ops.size false).getD i false) (List.range ops.size)
      simpa using this) a _ g T ⟨fun i o _ h => absurd h (hnl i), q2, fun p i o h1 h2 h3 h4 => ?_, fun p i _ _ => hnl i, q4, q5, drawn_ext g w, fun id => ?_, fun p h => q6 p (by omega) h, fun d q hq h1 h2 => ?_, hE.size, rfl⟩
    · -- all are done
      have hT : T' = ord.length := by
        by_cases h : T' < ord.length
        · obtain ⟨i, o, h1, h2, h3⟩ := D.at_ h
          exact absurd (Array.getElem?_eq_some_iff.1 h2).1 (D.after T' i (Nat.le_refl _) h1)
        · have := D.Tle; omega
      subst hT
      have hlenmono : ∀ p, p ≤ ord.length → H.length ≤ (S p).2.length := fun p hp => by
        have := D.len (p := 0) p (by omega)
        rw [hS0, Nat.zero_add] at this; exact this
      have hsim := D.sim
      rw [hSm] at hsim
      refine hn a' w' g' ⟨hsim, D.ext, by have := hlenmono ord.length (Nat.le_refl _); rwa [hSm] at this, fun id => ?_⟩ ⟨D.size, fun d => ?_⟩ D.defers
      · rw [D.dom]
        constructor
        · rintro (h | ⟨p, i, h1, h2, h3, h4⟩)
          · exact .inl h
          · have hp2 := (List.getElem?_eq_some_iff.1 h1).1
            have e1 := hlenmono p (by omega)
            have e2 := D.len (p := p + 1) (ord.length - (p + 1)) (by omega)
            rw [show p + 1 + (ord.length - (p + 1)) = ord.length by omega, hSm] at e2
            exact .inr ⟨by omega, by simp only at e2; omega⟩
        · rintro (h | ⟨h1, h2⟩)
          · exact .inl h
          · right
            -- the interval that id lies in
            have : ∀ n, n ≤ ord.length → id < (S n).2.length → ∃ p, p < n ∧ (S p).2.length ≤ id ∧ id < (S (p + 1)).2.length := by
              intro n
              induction n with
              | zero => intro _ h; rw [hS0] at h; simp only at h; omega
              | succ n ih =>
                intro hn h
                by_cases hlt : id < (S n).2.length
                · obtain ⟨p, h3, h4⟩ := ih (by omega) hlt
                  exact ⟨p, by omega, h4⟩
                · exact ⟨n, by omega, by omega, h⟩
            obtain ⟨p, h3, h4, h5⟩ := this ord.length (Nat.le_refl _) (by rw [hSm]; exact h2)
            have hp : ord[p]? = some ord[p] := by simp [h3]
            obtain ⟨o, ho⟩ := t.op hp
            exact ⟨p, ord[p], hp, (Array.getElem?_eq_some_iff.1 ho).1, h4, h5⟩
      · have := D.env d ord.length (Nat.le_refl _) (fun p i o _ _ ho _ => (Array.getElem?_eq_some_iff.1 ho).1) (fun p i o h1 h2 => by have := (List.getElem?_eq_some_iff.1 h2).1; omega)
        rwa [hSm] at this
    · have := q3 p i o (by omega) h1 h2 h3; rw [h4] at this; cases this
    · exact ⟨.inl, fun h => h.resolve_right (fun ⟨p, i, _, h2, _⟩ => hnl i h2)⟩
    · have hf := t.frame (d := d) (q1 := 0) q (by omega) (fun p i o _ h3 h4 h5 h6 => hnl i (h1 p i o (by omega) h4 h5 h6))
      rw [Nat.zero_add] at hf
      rw [hf, hS0]
      exact (hE.rel d).mono (drawn_ext g w)
end
end Go.E
/- E: more rounds, more depth; limits. Own work. -/
namespace Go.E

def CLe (c c' : CallSem) : Prop := ∀ bs f a H r, c bs f a H = some r → c' bs f a H = some r
def LLe (l l' : LoopSem) : Prop := ∀ f f' : Env → Heap → Option Res, (∀ ρ H r, f ρ H = some r → f' ρ H = some r) → ∀ ρ H r, l f ρ H = some r → l' f' ρ H = some r

section
variable {cx : Cx} {fx : Fx}

theorem callAt_le {call call' : CallSem} (h : CLe call call') {fo : Operand} {pos : String} : CLe (callAt cx fo pos call) (callAt cx fo pos call') := by
  intro bs f a H r e
  unfold callAt at e ⊢
  split
  · rename_i ht
    rw [if_pos ht] at e
    split at e
    · exact e
    · exact h _ _ _ _ _ e
  · rename_i ht
    rw [if_neg ht] at e
    exact h _ _ _ _ _ e
theorem evOp_call (o : Oper) : (∃ f args tys, o.op = .call ⟨.value f, args, tys⟩) ∨ ∀ (call call' : CallSem) ρ H, evOp cx fx call o ρ H = evOp cx fx call' o ρ H := by
  obtain ⟨dst, op, type, pos, after, guard⟩ := o
  cases op
  case call c =>
    obtain ⟨callee, args, tys⟩ := c
    cases callee with
    | value f => exact .inl ⟨f, args, tys, rfl⟩
    | _ => exact .inr fun _ _ _ _ => rfl
  case makeFunc fn first caps => cases fn <;> exact .inr fun _ _ _ _ => rfl
  all_goals exact .inr fun _ _ _ _ => rfl

/-- What holds of each operation's calls holds of it. -/
theorem evOp_le {call call' : CallSem} (h : CLe call call') {o : Oper} {ρ : Env} {H : Heap} {r : V × Heap} (e : evOp cx fx call o ρ H = some r) : evOp cx fx call' o ρ H = some r := by
  rcases evOp_call (cx := cx) (fx := fx) o with ⟨f, args, tys, ho⟩ | h2
  · unfold evOp at e ⊢
    simp only [ho] at e ⊢
    cases hc : evCallee ρ f with
    | none => simp [hc] at e
    | some g => simp only [hc, Option.bind_some] at e ⊢; exact callAt_le h _ _ _ _ _ e
  · rw [h2 call' call]; exact e

theorem evOper_le {call call' : CallSem} (h : CLe call call') {ops : Array Oper} {o : Oper} {ρ : Env} {H : Heap} {r : Env × Heap} (e : evOper cx fx call ops o ρ H = some r) : evOper cx fx call' ops o ρ H = some r := by
  unfold evOper at e ⊢
  cases hw : wantedV ops o ρ with
  | none => simp [hw] at e
  | some b =>
    simp only [hw, Option.bind_some] at e ⊢
    cases b with
    | false => exact e
    | true =>
      simp only [if_true] at e ⊢
      cases hv : evOp cx fx call o ρ H with
      | none => simp [hv] at e
      | some v => rw [hv] at e; rw [evOp_le h hv]; exact e

theorem evOps_le {call call' : CallSem} (h : CLe call call') {ops : Array Oper} : ∀ {l : List Oper} {ρ : Env} {H : Heap} {r : Env × Heap}, evOps cx fx call ops l ρ H = some r → evOps cx fx call' ops l ρ H = some r
  | [], _, _, _, e => e
  | o :: l, ρ, H, r, e => by
    simp only [evOps] at e ⊢
    cases hv : evOper cx fx call ops o ρ H with
    | none => simp [hv] at e
    | some s => rw [hv] at e; rw [evOper_le h hv]; exact evOps_le h e

theorem evTrace_le {call call' : CallSem} (h : CLe call call') {ops : Array Oper} : ∀ {l : List Nat} {ρ : Env} {H : Heap} {r : List (Env × Heap) × Env × Heap}, evTrace cx fx call ops l ρ H = some r → evTrace cx fx call' ops l ρ H = some r
  | [], _, _, _, e => e
  | i :: l, ρ, H, r, e => by
    simp only [evTrace] at e ⊢
    cases ho : ops[i]? with
    | none => simp [ho] at e
    | some o =>
      simp only [ho, Option.bind_some] at e ⊢
      cases hv : evOper cx fx call ops o ρ H with
      | none => simp [hv] at e
      | some s =>
        rw [hv] at e; rw [evOper_le h hv]
        simp only [Option.bind_some] at e ⊢
        cases ht : evTrace cx fx call ops l s.1 s.2 with
        | none => simp [ht] at e
        | some z => rw [ht] at e; rw [evTrace_le h ht]; exact e

theorem evDraw_le {call call' : CallSem} (h : CLe call call') {ops : Array Oper} {ρ : Env} {H : Heap} {r : Env × Heap} (e : evDraw cx fx call ops ρ H = some r) : evDraw cx fx call' ops ρ H = some r := by
  unfold evDraw at e ⊢
  split at e
  case isFalse => cases e
  rename_i hok
  rw [if_pos hok]
  cases ht : evTrace cx fx call ops (canon ops) ρ H with
  | none => simp [ht] at e
  | some z => rw [ht] at e; rw [evTrace_le h ht]; exact e

theorem evRounds_le {fA fB fA' fB' : Env → Heap → Option Res} (hA : ∀ ρ H r, fA ρ H = some r → fA' ρ H = some r) (hB : ∀ ρ H r, fB ρ H = some r → fB' ρ H = some r) {n : Nat} {ps : List Nat} {ρ : Env} :
    ∀ (l : List (List V)) (H : Heap) (r : Ex × Heap), evRounds fA fB n ps ρ l H = some r → evRounds fA' fB' n ps ρ l H = some r
  | [], _, _, e => e
  | args :: l, H, r, e => by
    simp only [evRounds] at e ⊢
    split at e
    case isFalse => cases e
    rename_i hl
    rw [if_pos hl]
    cases hp : putAll n ρ (ps.zip args) with
    | none => simp [hp] at e
    | some ρ1 =>
      simp only [hp, Option.bind_some] at e ⊢
      cases hx : fA ρ1 H with
      | none => simp [hx] at e
      | some s =>
        obtain ⟨ex, ρ2, H2⟩ := s
        rw [hx] at e; rw [hA _ _ _ hx]
        cases ex with
        | normal =>
          simp only at e ⊢
          cases hy : fB ρ2 H2 with
          | none => simp [hy] at e
          | some s =>
            obtain ⟨ex, ρ3, H3⟩ := s
            rw [hy] at e; rw [hB _ _ _ hy]
            cases ex with
            | normal => exact evRounds_le hA hB l _ _ e
            | _ => exact e
        | _ => simp at e

theorem evCode_le {lp lp' : LoopSem} {call call' : CallSem} (hl : LLe lp lp') (h : CLe call call') : ∀ (c : Code) (ρ : Env) (H : Heap) (r : Res), evCode cx fx lp call c ρ H = some r → evCode cx fx lp' call' c ρ H = some r := by
  intro c
  induction c with
  | region id ops draw =>
    intro ρ H r e
    simp only [evCode] at e ⊢
    cases draw with
    | false =>
      simp only [Bool.false_eq_true, if_false] at e ⊢
      cases ho : evOps cx fx call ops ops.toList ρ H with
      | none => simp [ho] at e
      | some s => rw [ho] at e; rw [evOps_le h ho]; exact e
    | true =>
      simp only [if_true] at e ⊢
      cases ho : evDraw cx fx call ops ρ H with
      | none => simp [ho] at e
      | some s => rw [ho] at e; rw [evDraw_le h ho]; exact e
  | seq x y ihx ihy =>
    intro ρ H r e
    simp only [evCode] at e ⊢
    cases hx : evCode cx fx lp call x ρ H with
    | none => simp [hx] at e
    | some s =>
      obtain ⟨ex, ρ1, H1⟩ := s
      rw [hx] at e; rw [ihx _ _ _ hx]
      cases ex with
      | normal => exact ihy _ _ _ e
      | _ => exact e
  | cond o x y ihx ihy =>
    intro ρ H r e
    simp only [evCode] at e ⊢
    split at e
    · exact ihx _ _ _ e
    · exact ihy _ _ _ e
    · cases e
  | block id x ih =>
    intro ρ H r e
    simp only [evCode] at e ⊢
    cases hx : evCode cx fx lp call x ρ H with
    | none => simp [hx] at e
    | some s => rw [hx] at e; rw [ih _ _ _ hx]; exact e
  | loop x ih => intro ρ H r e; simp only [evCode] at e ⊢; exact hl _ _ (fun ρ H r => ih ρ H r) _ _ _ e
  | scope x ih => intro ρ H r e; simp only [evCode] at e ⊢; exact ih _ _ _ e
  | rangeFunc f ps x y ihx ihy =>
    intro ρ H r e
    simp only [evCode] at e ⊢
    split at e
    case h_2 => cases e
    rename_i gf caps hf
    cases hi : cx.iter gf caps with
    | none => simp [hi] at e
    | some l =>
      rw [hi] at e
      simp only [Option.bind_some] at e ⊢
      cases hr : evRounds (evCode cx fx lp call x) (evCode cx fx lp call y) fx.n ps.toList ρ l H with
      | none => simp [hr] at e
      | some z => rw [hr] at e; rw [evRounds_le ihx ihy l _ _ hr]; exact e
  | _ => intro ρ H r e; simpa [evCode] using e

theorem loopn_succ (k : Nat) (f : Env → Heap → Option Res) (ρ : Env) (H : Heap) : loopn (k + 1) f ρ H = (match f ρ H with | some (.normal, ρ', H') => loopn k f ρ' H' | r => r) := rfl

theorem loopn_le : ∀ {k k' : Nat}, k ≤ k' → LLe (loopn k) (loopn k')
  | 0, _, _ => fun f f' _ ρ H r e => by simp [loopn] at e
  | k + 1, 0, h => absurd h (by omega)
  | k + 1, k' + 1, h => fun f f' hf ρ H r e => by
    simp only [loopn] at e ⊢
    cases hx : f ρ H with
    | none => simp [hx] at e
    | some s =>
      obtain ⟨ex, ρ1, H1⟩ := s
      rw [hx] at e; rw [hf _ _ _ hx]
      cases ex with
      | normal => exact loopn_le (by omega) f f' hf _ _ _ e
      | _ => exact e

theorem evBody_le {lp lp' : LoopSem} {call call' : CallSem} (hl : LLe lp lp') (h : CLe call call') : CLe (evBody cx lp call) (evBody cx lp' call') := by
  intro bs f a H r e
  unfold evBody at e ⊢
  cases hf : cx.P.funcs[f]? with
  | none => simp [hf] at e
  | some fn =>
    cases hb : fn.body with
    | none => simp [hf, hb] at e
    | some c =>
      simp only [hf, hb] at e ⊢
      split
      · rename_i hk
        rw [if_pos hk] at e; exact e
      · rename_i hk
        rw [if_neg hk] at e
        cases hc : evCode cx ⟨a.length + (fn.ntmps - a.length), H.length :: bs⟩ lp call c (fun i => (a.map V.norm).getD i .undef) H with
        | none => rw [hc] at e; simp at e
        | some s => rw [hc] at e; rw [evCode_le hl h _ _ _ _ hc]; exact e

theorem callk_succ : ∀ k, CLe (callk cx k) (callk cx (k + 1))
  | 0 => fun _ _ _ _ _ e => by simp [callk] at e
  | k + 1 => evBody_le (loopn_le (by omega)) (callk_succ k)
theorem callk_le {k k' : Nat} (h : k ≤ k') : CLe (callk cx k) (callk cx k') := by
  induction k' with
  | zero => obtain rfl : k = 0 := by omega
            exact fun _ _ _ _ _ e => e
  | succ k' ih =>
    by_cases hk : k = k' + 1
    · subst hk; exact fun _ _ _ _ _ e => e
    · exact fun _ _ _ _ _ e => callk_succ k' _ _ _ _ _ (ih (by omega) _ _ _ _ _ e)

theorem lim_some {α : Type} {g : Nat → Option α} {a : α} (h : lim g = some a) : ∃ n, g n = some a := by
  unfold lim at h
  split at h
  · rename_i hh
    have h2 := Classical.choose_spec (Classical.choose_spec hh)
    exact ⟨Classical.choose hh, by rw [h2]; exact h⟩
  · cases h
theorem lim_of {α : Type} {g : Nat → Option α} (hm : ∀ n m a, n ≤ m → g n = some a → g m = some a) {n : Nat} {a : α} (h : g n = some a) : lim g = some a := by
  cases hl : lim g with
  | none =>
    unfold lim at hl
    rw [dif_pos ⟨n, a, h⟩] at hl; cases hl
  | some b =>
    obtain ⟨m, hb⟩ := lim_some hl
    have h1 := hm n (max n m) a (by omega) h
    have h2 := hm m (max n m) b (by omega) hb
    rw [h1] at h2; exact h2.symm

theorem callw_some {bs f a H r} (h : callw cx bs f a H = some r) : ∃ k, callk cx k bs f a H = some r := lim_some h
theorem callw_of {k bs f a H r} (h : callk cx k bs f a H = some r) : callw cx bs f a H = some r := lim_of (fun _ _ _ hn e => callk_le hn _ _ _ _ _ e) h
theorem loopw_some {f ρ H r} (h : loopw f ρ H = some r) : ∃ k, loopn k f ρ H = some r := lim_some h
theorem loopw_of {k f ρ H r} (h : loopn k f ρ H = some r) : loopw f ρ H = some r := lim_of (fun _ _ _ hn e => loopn_le hn f f (fun _ _ _ e => e) _ _ _ e) h

theorem loopw_go {f : Env → Heap → Option Res} {ρ ρ' : Env} {H H' : Heap} {r : Res} (h : f ρ H = some (.normal, ρ', H')) (h2 : loopw f ρ' H' = some r) : loopw f ρ H = some r := by
  obtain ⟨k, hk⟩ := loopw_some h2
  exact loopw_of (k := k + 1) (by simp only [loopn, h]; exact hk)
theorem loopw_end {f : Env → Heap → Option Res} {ρ : Env} {H : Heap} {ex : Ex} {s : Env × Heap} (h : f ρ H = some (ex, s)) (he : ex ≠ .normal) : loopw f ρ H = some (ex, s) := by
  refine loopw_of (k := 1) ?_
  obtain ⟨ρ', H'⟩ := s
  simp only [loopn, h]
  cases ex with
  | normal => exact absurd rfl he
  | _ => rfl

theorem callk_clew (k : Nat) : CLe (callk cx k) (callw cx) := fun _ _ _ _ _ h => callw_of h

theorem evOp_w {o : Oper} {ρ : Env} {H : Heap} {r : V × Heap} (e : evOp cx fx (callw cx) o ρ H = some r) : ∃ k, evOp cx fx (callk cx k) o ρ H = some r := by
  rcases evOp_call (cx := cx) (fx := fx) o with ⟨f, args, tys, ho⟩ | h2
  · unfold evOp at e
    simp only [ho] at e
    cases hc : evCallee ρ f with
    | none => simp [hc] at e
    | some g =>
      simp only [hc, Option.bind_some] at e
      obtain ⟨k, hk⟩ : ∃ k, callAt cx f o.pos (callk cx k) fx.bs g.1 ((args.toList.map (opnd ρ)) ++ g.2) H = some r := by
        unfold callAt at e ⊢
        split at e
        · rename_i ht
          simp only [if_pos ht]
          split at e
          · exact ⟨0, e⟩
          · exact callw_some e
        · rename_i ht
          simp only [if_neg ht]; exact callw_some e
      refine ⟨k, ?_⟩
      unfold evOp
      simp only [ho, hc, Option.bind_some]; exact hk
  · exact ⟨0, by rw [h2 (callk cx 0) (callw cx)]; exact e⟩

theorem evOper_w {ops : Array Oper} {o : Oper} {ρ : Env} {H : Heap} {r : Env × Heap} (e : evOper cx fx (callw cx) ops o ρ H = some r) : ∃ k, evOper cx fx (callk cx k) ops o ρ H = some r := by
  unfold evOper at e
  cases hw : wantedV ops o ρ with
  | none => simp [hw] at e
  | some b =>
    simp only [hw, Option.bind_some] at e
    cases b with
    | false => exact ⟨0, by unfold evOper; simp only [hw, Option.bind_some]; exact e⟩
    | true =>
      simp only [if_true] at e
      cases hv : evOp cx fx (callw cx) o ρ H with
      | none => simp [hv] at e
      | some v =>
        rw [hv] at e
        obtain ⟨k, hk⟩ := evOp_w hv
        exact ⟨k, by unfold evOper; simp only [hw, Option.bind_some, if_true]; rw [hk]; exact e⟩

theorem evOps_w {ops : Array Oper} : ∀ {l : List Oper} {ρ : Env} {H : Heap} {r : Env × Heap}, evOps cx fx (callw cx) ops l ρ H = some r → ∃ k, evOps cx fx (callk cx k) ops l ρ H = some r
  | [], _, _, _, e => ⟨0, e⟩
  | o :: l, ρ, H, r, e => by
    simp only [evOps] at e
    cases hv : evOper cx fx (callw cx) ops o ρ H with
    | none => simp [hv] at e
    | some s =>
      rw [hv] at e
      obtain ⟨k1, h1⟩ := evOper_w hv
      obtain ⟨k2, h2⟩ := evOps_w (l := l) e
      refine ⟨max k1 k2, ?_⟩
      simp only [evOps]
      rw [evOper_le (callk_le (by omega)) h1]
      exact evOps_le (callk_le (by omega)) h2

theorem evTrace_w {ops : Array Oper} : ∀ {l : List Nat} {ρ : Env} {H : Heap} {r : List (Env × Heap) × Env × Heap}, evTrace cx fx (callw cx) ops l ρ H = some r → ∃ k, evTrace cx fx (callk cx k) ops l ρ H = some r
  | [], _, _, _, e => ⟨0, e⟩
  | i :: l, ρ, H, r, e => by
    simp only [evTrace] at e
    cases ho : ops[i]? with
    | none => simp [ho] at e
    | some o =>
      simp only [ho, Option.bind_some] at e
      cases hv : evOper cx fx (callw cx) ops o ρ H with
      | none => simp [hv] at e
      | some s =>
        rw [hv] at e
        simp only [Option.bind_some] at e
        cases ht : evTrace cx fx (callw cx) ops l s.1 s.2 with
        | none => simp [ht] at e
        | some z =>
          rw [ht] at e
          obtain ⟨k1, h1⟩ := evOper_w hv
          obtain ⟨k2, h2⟩ := evTrace_w (l := l) ht
          refine ⟨max k1 k2, ?_⟩
          simp only [evTrace, ho, Option.bind_some]
          rw [evOper_le (callk_le (by omega)) h1]
          simp only [Option.bind_some]
          rw [evTrace_le (callk_le (by omega)) h2]
          exact e

theorem evDraw_w {ops : Array Oper} {ρ : Env} {H : Heap} {r : Env × Heap} (e : evDraw cx fx (callw cx) ops ρ H = some r) : ∃ k, evDraw cx fx (callk cx k) ops ρ H = some r := by
  unfold evDraw at e
  split at e
  case isFalse => cases e
  rename_i hok
  cases ht : evTrace cx fx (callw cx) ops (canon ops) ρ H with
  | none => simp [ht] at e
  | some z =>
    rw [ht] at e
    obtain ⟨k, hk⟩ := evTrace_w ht
    exact ⟨k, by unfold evDraw; rw [if_pos hok, hk]; exact e⟩

theorem evRounds_w {fA fB : Env → Heap → Option Res} (FA FB : Nat → Env → Heap → Option Res) (uA : ∀ {k k' : Nat}, k ≤ k' → ∀ ρ H r, FA k ρ H = some r → FA k' ρ H = some r) (uB : ∀ {k k' : Nat}, k ≤ k' → ∀ ρ H r, FB k ρ H = some r → FB k' ρ H = some r)
    (hA : ∀ ρ H r, fA ρ H = some r → ∃ k, FA k ρ H = some r) (hB : ∀ ρ H r, fB ρ H = some r → ∃ k, FB k ρ H = some r) {n : Nat} {ps : List Nat} {ρ : Env} :
    ∀ (l : List (List V)) (H : Heap) (r : Ex × Heap), evRounds fA fB n ps ρ l H = some r → ∃ k, evRounds (FA k) (FB k) n ps ρ l H = some r
  | [], _, _, e => ⟨0, e⟩
  | args :: l, H, r, e => by
    simp only [evRounds] at e
    split at e
    case isFalse => cases e
    rename_i hl
    cases hp : putAll n ρ (ps.zip args) with
    | none => simp [hp] at e
    | some ρ1 =>
      simp only [hp, Option.bind_some] at e
      cases hx : fA ρ1 H with
      | none => simp [hx] at e
      | some s =>
        obtain ⟨ex, ρ2, H2⟩ := s
        rw [hx] at e
        obtain ⟨k1, h1⟩ := hA _ _ _ hx
        cases ex with
        | normal =>
          simp only at e
          cases hy : fB ρ2 H2 with
          | none => simp [hy] at e
          | some s =>
            obtain ⟨ex, ρ3, H3⟩ := s
            rw [hy] at e
            obtain ⟨k2, h2⟩ := hB _ _ _ hy
            cases ex with
            | normal =>
              simp only at e
              obtain ⟨k3, h3⟩ := evRounds_w FA FB uA uB hA hB l _ _ e
              refine ⟨max k1 (max k2 k3), ?_⟩
              simp only [evRounds, if_pos hl, hp, Option.bind_some]
              rw [uA (by omega) _ _ _ h1]
              simp only
              rw [uB (by omega) _ _ _ h2]
              exact evRounds_le (fun ρ H r e => uA (by omega) _ _ _ e) (fun ρ H r e => uB (by omega) _ _ _ e) l _ _ h3
            | _ =>
              refine ⟨max k1 k2, ?_⟩
              simp only [evRounds, if_pos hl, hp, Option.bind_some]
              rw [uA (by omega) _ _ _ h1]
              simp only
              rw [uB (by omega) _ _ _ h2]
              exact e
        | _ => simp at e

theorem evCode_w : ∀ (c : Code) (ρ : Env) (H : Heap) (r : Res), evCode cx fx loopw (callw cx) c ρ H = some r → ∃ k, evCode cx fx (loopn k) (callk cx k) c ρ H = some r := by
  intro c
  have up : ∀ {c : Code} {ρ H r k k'}, k ≤ k' → evCode cx fx (loopn k) (callk cx k) c ρ H = some r → evCode cx fx (loopn k') (callk cx k') c ρ H = some r :=
    fun h e => evCode_le (loopn_le h) (callk_le h) _ _ _ _ e
  induction c with
  | region id ops draw =>
    intro ρ H r e
    simp only [evCode] at e
    cases draw with
    | false =>
      simp only [Bool.false_eq_true, if_false] at e
      cases ho : evOps cx fx (callw cx) ops ops.toList ρ H with
      | none => simp [ho] at e
      | some s =>
        rw [ho] at e
        obtain ⟨k, hk⟩ := evOps_w ho
        exact ⟨k, by simp only [evCode, Bool.false_eq_true, if_false]; rw [hk]; exact e⟩
    | true =>
      simp only [if_true] at e
      cases ho : evDraw cx fx (callw cx) ops ρ H with
      | none => simp [ho] at e
      | some s =>
        rw [ho] at e
        obtain ⟨k, hk⟩ := evDraw_w ho
        exact ⟨k, by simp only [evCode, if_true]; rw [hk]; exact e⟩
  | seq x y ihx ihy =>
    intro ρ H r e
    simp only [evCode] at e
    cases hx : evCode cx fx loopw (callw cx) x ρ H with
    | none => simp [hx] at e
    | some s =>
      obtain ⟨ex, ρ1, H1⟩ := s
      rw [hx] at e
      obtain ⟨k1, h1⟩ := ihx _ _ _ hx
      cases ex with
      | normal =>
        obtain ⟨k2, h2⟩ := ihy _ _ _ e
        refine ⟨max k1 k2, ?_⟩
        simp only [evCode]
        rw [up (by omega) h1]
        exact up (by omega) h2
      | _ => exact ⟨k1, by simp only [evCode]; rw [h1]; exact e⟩
  | cond o x y ihx ihy =>
    intro ρ H r e
    simp only [evCode] at e
    split at e
    · rename_i hb; obtain ⟨k, hk⟩ := ihx _ _ _ e; exact ⟨k, by simp only [evCode, hb]; exact hk⟩
    · rename_i hb; obtain ⟨k, hk⟩ := ihy _ _ _ e; exact ⟨k, by simp only [evCode, hb]; exact hk⟩
    · cases e
  | block id x ih =>
    intro ρ H r e
    simp only [evCode] at e
    cases hx : evCode cx fx loopw (callw cx) x ρ H with
    | none => simp [hx] at e
    | some s =>
      rw [hx] at e
      obtain ⟨k, hk⟩ := ih _ _ _ hx
      exact ⟨k, by simp only [evCode]; rw [hk]; exact e⟩
  | loop x ih =>
    intro ρ H r e
    simp only [evCode] at e
    obtain ⟨n, hn⟩ := loopw_some e
    have key : ∀ (n : Nat) (ρ : Env) (H : Heap), loopn n (evCode cx fx loopw (callw cx) x) ρ H = some r → ∃ k, loopn k (evCode cx fx (loopn k) (callk cx k) x) ρ H = some r := by
      intro n
      induction n with
      | zero => intro ρ H h; simp [loopn] at h
      | succ n ihn =>
        intro ρ H h
        simp only [loopn] at h
        cases hx : evCode cx fx loopw (callw cx) x ρ H with
        | none => simp [hx] at h
        | some s =>
          obtain ⟨ex, ρ1, H1⟩ := s
          rw [hx] at h
          obtain ⟨k1, h1⟩ := ih _ _ _ hx
          cases ex with
          | normal =>
            obtain ⟨k2, h2⟩ := ihn _ _ h
            refine ⟨max k1 k2 + 1, ?_⟩
            rw [loopn_succ, up (by omega) h1]
            exact loopn_le (by omega) _ _ (fun _ _ _ e => up (by omega) e) _ _ _ h2
          | _ =>
            refine ⟨k1 + 1, ?_⟩
            rw [loopn_succ, up (by omega) h1]
            exact h
    obtain ⟨k, hk⟩ := key n ρ H hn
    exact ⟨k, by simp only [evCode]; exact hk⟩
  | scope x ih =>
    intro ρ H r e
    simp only [evCode] at e
    obtain ⟨k, hk⟩ := ih _ _ _ e
    exact ⟨k, by simp only [evCode]; exact hk⟩
  | rangeFunc f ps x y ihx ihy =>
    intro ρ H r e
    simp only [evCode] at e
    split at e
    case h_2 => cases e
    rename_i gf caps hf
    cases hi : cx.iter gf caps with
    | none => simp [hi] at e
    | some l =>
      rw [hi] at e
      simp only [Option.bind_some] at e
      cases hr : evRounds (evCode cx fx loopw (callw cx) x) (evCode cx fx loopw (callw cx) y) fx.n ps.toList ρ l H with
      | none => simp [hr] at e
      | some z =>
        rw [hr] at e
        obtain ⟨k, hk⟩ := evRounds_w (fun k => evCode cx fx (loopn k) (callk cx k) x) (fun k => evCode cx fx (loopn k) (callk cx k) y) (fun h _ _ _ e => up h e) (fun h _ _ _ e => up h e) ihx ihy l _ _ hr
        exact ⟨k, by simp only [evCode, hf, hi, Option.bind_some]; rw [hk]; exact e⟩
  | _ => intro ρ H r e; exact ⟨0, by simpa [evCode] using e⟩

theorem callw_body {bs f a H r} (h : evBody cx loopw (callw cx) bs f a H = some r) : callw cx bs f a H = some r := by
  have key : ∃ k, evBody cx (loopn k) (callk cx k) bs f a H = some r := by
    unfold evBody at h
    cases hf : cx.P.funcs[f]? with
    | none => simp [hf] at h
    | some fn =>
      cases hb : fn.body with
      | none => simp [hf, hb] at h
      | some c =>
        simp only [hf, hb] at h
        split at h
        · rename_i hk
          exact ⟨0, by unfold evBody; simp only [hf, hb]; rw [if_pos hk]; exact h⟩
        · rename_i hk
          cases hc : evCode cx ⟨a.length + (fn.ntmps - a.length), H.length :: bs⟩ loopw (callw cx) c (fun i => (a.map V.norm).getD i .undef) H with
          | none => rw [hc] at h; simp at h
          | some s =>
            rw [hc] at h
            obtain ⟨k, hk2⟩ := evCode_w _ _ _ _ hc
            exact ⟨k, by unfold evBody; simp only [hf, hb]; rw [if_neg hk, hk2]; exact h⟩
  obtain ⟨k, hk⟩ := key
  exact callw_of (k := k + 1) hk

theorem callw_ok (hm : cx.P.follows .mixedOrders = true) (hI : IterOk cx) (hK : KnownOk cx) (hN : ∀ (f : Nat) (fn : Func), cx.P.funcs[f]? = some fn → fn.name ≠ "runtime.NumGoroutine") : CallOk cx (callw cx) := by
  refine ⟨hK.1, fun bs f a H v H' h => ?_⟩
  obtain ⟨k, hk⟩ := callw_some h
  exact (callk_ok (drawOk_all hm) hI hK hN k).2 bs f a H v H' hk
end
end Go.E
