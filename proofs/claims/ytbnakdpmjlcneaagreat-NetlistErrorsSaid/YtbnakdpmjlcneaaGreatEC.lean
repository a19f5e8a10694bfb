/- Soundness of E: any operation. Own work. -/
import Derived.Test.YtbnakdpmjlcneaaGreatEB
import Derived.OrdersIn
import Derived.LoopNIn
import Derived.Scope
import Derived.RangeFuncNested
set_option linter.all false
namespace Go.E

/-- Values in a row. -/
def ArgsR (g : G) (w : World) (l : List V) (l' : List Value) : Prop :=
  l'.length = l.length ∧ ∀ (j : Nat) (x : V) (x' : Value), l[j]? = some x → l'[j]? = some x' → VRel g w x x'

/-- What is asked of calls. -/
def CallOk (P : Program) (call : CallSem) : Prop :=
  ∀ bs f args H v H', call bs f args H = some (v, H') → (∃ fn, P.funcs[f]? = some fn ∧ fn.body.isSome = true ∧ fn.name ≠ "runtime.NumGoroutine") ∧
    ∀ g w args', Sim bs g H w → ArgsR g w args args' →
      Calls P f args'.toArray w fun e w' => ∃ v' g', e = .returned v' ∧ Out bs g w H g' w' H' ∧ VRel g' w' v v'

section
variable {cx : Cx} {g : G} {w : World} {bs : List Nat} {n : Nat} {H : Heap} {call : CallSem} {ρ : Env} {a : Act}

theorem argsR_map {ρ : Operand → V} {ρ' : Operand → Value} (h : ∀ x, VRel g w (ρ x) (ρ' x)) (l : List Operand) : ArgsR g w (l.map ρ) (l.map ρ') :=
  ⟨by simp, fun j x x' h1 h2 => by
    rw [List.getElem?_map] at h1 h2
    cases hj : l[j]? with
    | none => simp [hj] at h1
    | some o => simp [hj] at h1 h2; subst h1; subst h2; exact h o⟩

theorem orelv {ρ : Operand → V} {ρ' : Operand → Value} (h : ∀ x, VRel g w (ρ x) (ρ' x)) (o : Option Operand) : ORelV g w (o.map ρ) (o.map ρ') := by
  cases o with
  | none => trivial
  | some x => exact h x

theorem builtin_sound {b : Builtin} {c : Call} {v : V} {H' : Heap} (ty : TypeId) (consts : Array Bool) (h : evBuiltin cx b c ρ H = some (v, H')) (hS : Sim bs g H w) (hE : ERel g w ρ a.tmps n) :
    ∃ v' w' g', (builtin b c.argTypes ty consts (c.args.map a.eval)).run cx.P w = .ok (.value v') w' ∧ Out bs g w H g' w' H' ∧ VRel g' w' v v' := by
  have hargs : (c.args.map a.eval).toList = c.args.toList.map a.eval := by simp
  unfold evBuiltin at h
  split at h
  · rename_i t x hts hxs
    have e1 : c.argTypes = #[t] := by rw [← Array.toList_inj]; exact hts
    obtain ⟨o, ho, hox⟩ : ∃ o, c.args.toList = [o] ∧ opnd ρ o = x := by
      cases hl : c.args.toList with
      | nil => simp [hl] at hxs
      | cons o r => cases r with
        | nil => simp [hl] at hxs; exact ⟨o, rfl, hxs⟩
        | cons o2 r => simp [hl] at hxs
    have e2 : c.args.map a.eval = #[a.eval o] := by rw [← Array.toList_inj, hargs, ho]; rfl
    have hx := hE.opnd o
    rw [hox] at hx
    have fin : ∀ m, lenV x = some m → ((∃ e, cx.P.underlying t = some (.slice e)) ∨ cx.P.underlying t = some .string) →
        (match cx.P.underlying t with | some (.slice _) => (∀ s, x ≠ .str s) | _ => ∃ s, x = .str s) → (V.int .i64 m, H) = (v, H') →
        ∃ v' w' g', (builtin .len c.argTypes ty consts (c.args.map a.eval)).run cx.P w = .ok (.value v') w' ∧ Out bs g w H g' w' H' ∧ VRel g' w' v v' := by
      intro m hm h1 h2 h3
      cases h3
      have := len_sound (P := cx.P) (t := t) (ty := ty) hx hm h1 h2
      exact ⟨_, _, _, by simp [builtin, e1, e2, this], Out.refl hS, .int _ _⟩
    split at h
    · rename_i el hu
      simp [lenV] at h
      exact fin 0 rfl (.inl ⟨el, hu⟩) (by rw [hu]; intro s; simp) (by simpa using h)
    · rename_i el es hu
      simp [lenV] at h
      exact fin es.length rfl (.inl ⟨el, hu⟩) (by rw [hu]; intro s; simp) (by simpa using h)
    · rename_i el tk es hu
      simp [lenV] at h
      exact fin es.length rfl (.inl ⟨el, hu⟩) (by rw [hu]; intro s; simp) (by simpa using h)
    · rename_i el s2 id ver off len hu
      simp [lenV] at h
      exact fin len rfl (.inl ⟨el, hu⟩) (by rw [hu]; intro s; simp) (by simpa using h)
    · rename_i s hu
      simp [lenV] at h
      exact fin s.size rfl (.inr hu) (by rw [hu]; exact ⟨s, rfl⟩) (by simpa using h)
    · rename_i m e hu
      cases h
      exact ⟨.int .i64 m, w, g, by simp [builtin, e1, e2, Builtin.len_, run_underlying hu, goInt], Out.refl hS, .int _ _⟩
    · cases h
  · rename_i t u s x hts hxs
    split at h
    case h_2 => cases h
    rename_i e2 hu
    have e1 : c.argTypes = #[t, u] := by rw [← Array.toList_inj]; exact hts
    obtain ⟨o1, o2, ho, ho1, ho2⟩ : ∃ o1 o2, c.args.toList = [o1, o2] ∧ opnd ρ o1 = s ∧ opnd ρ o2 = x := by
      cases hl : c.args.toList with
      | nil => simp [hl] at hxs
      | cons o r => cases r with
        | nil => simp [hl] at hxs
        | cons o2 r => cases r with
          | nil => simp [hl] at hxs; exact ⟨o, o2, rfl, hxs.1, hxs.2⟩
          | cons _ _ => simp [hl] at hxs
    have e3 : c.args.map a.eval = #[a.eval o1, a.eval o2] := by rw [← Array.toList_inj, hargs, ho]; rfl
    have h1 := hE.opnd o1
    have h2 := hE.opnd o2
    rw [ho1] at h1; rw [ho2] at h2
    obtain ⟨v', w', g', r1, r2, r3⟩ := append_sound (ty := ty) hS h h1 h2 hu
    exact ⟨v', w', g', by simp [builtin, e1, e3, r1], r2, r3⟩
  · cases hm : minmax false (c.args.toList.map (opnd ρ)) with
    | none => simp [hm] at h
    | some x =>
      simp [hm] at h
      obtain ⟨rfl, rfl⟩ := h
      obtain ⟨h1, h2⟩ := argsR_map (fun x => hE.opnd x) c.args.toList
      obtain ⟨v', r1, r2⟩ := minmax_sound (P := cx.P) (g := g) (w := w) _ (c.args.toList.map a.eval) false x hm h1.symm h2
      refine ⟨v', w, g, ?_, Out.refl hS, r2⟩
      simp only [builtin, Builtin.min_, hargs]
      cases hl : c.args.toList.map a.eval with
      | nil => rw [hl] at r1; simp at r1
      | cons y r => rw [hl] at r1; simp at r1; simp [r1]
  · cases hm : minmax true (c.args.toList.map (opnd ρ)) with
    | none => simp [hm] at h
    | some x =>
      simp [hm] at h
      obtain ⟨rfl, rfl⟩ := h
      obtain ⟨h1, h2⟩ := argsR_map (fun x => hE.opnd x) c.args.toList
      obtain ⟨v', r1, r2⟩ := minmax_sound (P := cx.P) (g := g) (w := w) _ (c.args.toList.map a.eval) true x hm h1.symm h2
      refine ⟨v', w, g, ?_, Out.refl hS, r2⟩
      simp only [builtin, Builtin.max_, hargs]
      cases hl : c.args.toList.map a.eval with
      | nil => rw [hl] at r1; simp at r1
      | cons y r => rw [hl] at r1; simp at r1; simp [r1]
  · cases h

theorem evOp_wp {fx : Fx} (hb : fx.bs = bs) (hC : CallOk cx.P call) {o : Oper} {v : V} {H' : Heap} (h : evOp cx fx call o ρ H = some (v, H')) (hS : Sim bs g H w) (hE : ERel g w ρ a.tmps n)
    {next : Act → World → Prop} {Q : Exit → Act → World → Prop}
    (hn : ∀ v' w' g', Out bs g w H g' w' H' → VRel g' w' v v' → next (a.put o.dst v') w') : o.wp cx.P a w next Q := by
  have e := fun x => hE.opnd x
  have val : ∀ v' w' g', (execOp a.eval o).run cx.P w = .ok (.value v') w' → Out bs g w H g' w' H' → VRel g' w' v v' → o.wp cx.P a w next Q := fun v' w' g' h1 h2 h3 => by
    unfold Oper.wp; rw [h1]; exact hn v' w' g' h2 h3
  have skp : ∀ w' g', (execOp a.eval o).run cx.P w = .ok .skip w' → Out bs g w H g' w' H' → v = .undef → o.wp cx.P a w next Q := fun w' g' h1 h2 h3 => by
    unfold Oper.wp; rw [h1]; exact hn Go.undef w' g' h2 (h3 ▸ .undef _)
  have looks : ∀ (r : Option V) (s : Sem Value), (r.map (·, H)) = some (v, H') → (execOp a.eval o = (do pure (.value (← s)))) → (∀ y, r = some y → ∃ y', s.run cx.P w = .ok y' w ∧ VRel g w y y') → o.wp cx.P a w next Q := by
    intro r s h1 h2 h3
    cases r with
    | none => simp at h1
    | some y =>
      simp at h1
      obtain ⟨rfl, rfl⟩ := h1
      obtain ⟨y', r1, r2⟩ := h3 y rfl
      exact val y' w g (by rw [h2]; simp [r1]) (Out.refl hS) r2
  obtain ⟨dst, op, type, pos, after, guard⟩ := o
  unfold evOp at h
  cases op <;> simp only at h <;> (try (cases h; done))
  case move x => cases h; exact val _ _ _ (by simp [execOp]) (Out.refl hS) (e x)
  case assign x =>
    have hx := e x
    have plain : (opnd ρ x, H) = (v, H') → ({ dst, op := .assign x, type, pos, after, guard } : Oper).wp cx.P a w next Q := fun h => by
      cases h; exact val (a.eval x) w g (by simp [execOp]) (Out.refl hS) (e x)
    cases x with
    | const c =>
      cases hn2 : opnd ρ (.const c) with
      | nilS =>
        simp only [hn2] at h
        split at h
        · cases h
          rw [hn2] at hx
          obtain ⟨g', o1, r1⟩ := assign_nil (hS.more (.tok 0)) (hS.open _)
          have hcv : a.eval (.const c) = .slice none 0 0 := by
            generalize a.eval (.const c) = y at hx
            cases hx; rfl
          exact val (.slice none 0 0) w g' (by simp [execOp, hcv]) o1.out r1
        · exact plain (by rw [hn2]; exact Option.some.inj h)
      | _ => simp only [hn2] at h; exact plain (by rw [hn2]; simpa using h)
    | _ => exact plain (by simpa using h)
  case pick c x y =>
    have hc := e c
    split at h
    · rename_i hc2; cases h; rw [hc2] at hc
      cases hcv : a.eval c with
      | bool b => rw [hcv] at hc; cases hc; exact val _ _ _ (by simp [execOp, hcv, asBool]) (Out.refl hS) (e x)
      | _ => rw [hcv] at hc; cases hc
    · rename_i hc2; cases h; rw [hc2] at hc
      cases hcv : a.eval c with
      | bool b => rw [hcv] at hc; cases hc; exact val _ _ _ (by simp [execOp, hcv, asBool]) (Out.refl hS) (e y)
      | _ => rw [hcv] at hc; cases hc
    · cases h
  case alloc t =>
    cases hz : zeroT cx.P t with
    | none => simp [hz] at h
    | some z =>
      simp only [hz, Option.bind_some] at h
      split at h
      · rename_i hc
        cases h
        obtain ⟨zv, hzv, hzr⟩ := zero_of hz
        have hr : VRel g w z zv := by rw [hzv]; exact ofVal_rel zv
        refine val _ _ _ (by simp [execOp, run_alloc (hzr w)]) (lay_cells (hS.more _) (hS.open _) hr hc t).out (.ptr _ _ w.heap.size 0 z.cells.length (by simp [G.lay]))
      · cases h
  case box t x =>
    split at h
    · rename_i hc
      cases h
      refine val _ _ _ (by simp [execOp, run_box]) (lay_cells (hS.more _) (hS.open _) (e x) hc t).out (.ptr _ _ w.heap.size 0 (opnd ρ x).cells.length (by simp [G.lay]))
    · cases h
  case build t parts =>
    refine looks _ _ h (by simp only [execOp]; rfl) (fun y hy => ?_)
    exact build_sound hy (by simpa using partsR_map e parts.toList)
  case buildSlice t len parts =>
    cases he : elemT cx.P t with
    | none => simp [he] at h
    | some el =>
    cases hsz : sizeT cx.P el with
    | none => simp [he, hsz] at h
    | some sz =>
    simp only [he, hsz, Option.bind_some] at h
    split at h
    · rename_i hc
      obtain ⟨h0, hr, hm, hz⟩ := hc
      cases ht : takeElems sz (parts.toList.map fun q => opnd ρ q.2) with
      | none => simp [ht] at h
      | some es =>
        simp only [ht, Option.map_some, Option.some.injEq] at h
        by_cases hl0 : len = 0
        · simp only [hl0, if_true, Option.some.injEq, Prod.mk.injEq] at h
          obtain ⟨rfl, rfl⟩ := h
          obtain ⟨v', w', g', r1, r2, r3⟩ := buildSlice_sound (own := false) (hS.more (.tok 0)) (fun _ => by subst hl0; exact hS.open _) e he hsz h0 hr hm hz ht
          simp only [hl0, true_or, if_true] at r2 r3
          exact val _ _ _ (by simp only [execOp]; simp [r1]) r2.out r3
        · simp only [hl0, if_false] at h
          cases hw : cx.own t with
          | true =>
            simp only [hw, if_true, Prod.mk.injEq] at h
            obtain ⟨rfl, rfl⟩ := h
            obtain ⟨v', w', g', r1, r2, r3⟩ := buildSlice_sound (own := true) (hS.more (.tok len)) (fun _ => hS.open _) e he hsz h0 hr hm hz ht
            simp only [hl0, or_true, if_true, if_false] at r2 r3
            exact val _ _ _ (by simp only [execOp]; simp [r1]) r2.out r3
          | false =>
            simp only [hw, Bool.false_eq_true, if_false, Prod.mk.injEq] at h
            obtain ⟨rfl, rfl⟩ := h
            obtain ⟨v', w', g', r1, r2, r3⟩ := buildSlice_sound (own := false) hS (id := 0) (fun h => absurd h (by simp [hl0])) e he hsz h0 hr hm hz ht
            simp only [hl0, or_self, Bool.false_eq_true, if_false] at r2 r3
            exact val _ _ _ (by simp only [execOp]; simp [r1]) r2 r3
    · cases h
  case load t x =>
    refine looks _ _ h (by simp only [execOp]) (fun y hy => load_sound hS hy (e x))
  case store t x y =>
    cases hs : storeV cx.P fx.bs t (opnd ρ x) (opnd ρ y) H with
    | none => simp [hs] at h
    | some H1 =>
      simp [hs] at h
      obtain ⟨rfl, rfl⟩ := h
      rw [hb] at hs
      obtain ⟨w', r1, r2⟩ := store_sound hS hs (e x) (e y)
      exact skp w' g (by simp [execOp, r1]) r2 rfl
  case nilCheck x =>
    have hx := e x
    split at h
    · rename_i hx2; cases h; rw [hx2] at hx
      cases hcv : a.eval x with
      | pointer p => rw [hcv] at hx; have hx' := hx; cases hx; exact val _ _ _ (by simp [execOp, hcv]) (Out.refl hS) hx'
      | _ => rw [hcv] at hx; cases hx
    · rename_i hx2; cases h; rw [hx2] at hx
      cases hcv : a.eval x with
      | pointer p => rw [hcv] at hx; have hx' := hx; cases hx; exact val _ _ _ (by simp [execOp, hcv]) (Out.refl hS) hx'
      | _ => rw [hcv] at hx; cases hx
    · rename_i hx2; cases h; rw [hx2] at hx
      cases hcv : a.eval x with
      | pointer p => rw [hcv] at hx; have hx' := hx; cases hx; exact val _ _ _ (by simp [execOp, hcv]) (Out.refl hS) hx'
      | _ => rw [hcv] at hx; cases hx
    · rename_i hx2; cases h; rw [hx2] at hx
      cases hcv : a.eval x with
      | func p q r => rw [hcv] at hx; have hx' := hx; cases hx; exact val _ _ _ (by simp [execOp, hcv]) (Out.refl hS) hx'
      | _ => rw [hcv] at hx; cases hx
    · cases h
  case binOp op t x y ty =>
    refine looks _ _ h (by simp only [execOp]) (fun z hz => binOp_sound hz (e x) (e y) x y)
  case unOp op t x =>
    refine looks _ _ h (by simp only [execOp]) (fun z hz => unOp_sound hz (e x))
  case convert s d x =>
    refine looks _ _ h (by simp only [execOp]) (fun z hz => conv_sound hz (e x))
  case makeFunc fn first caps =>
    cases fn <;> simp only at h <;> (try (cases h; done))
    rename_i f
    split at h
    · rename_i h0
      cases h
      have hf : first = #[] := Array.eq_empty_of_size_eq_zero h0
      subst hf
      obtain ⟨h1, h2⟩ := argsR_map e caps.toList
      refine val (.func (.func f) #[] (caps.map a.eval)) w g (by simp [execOp, Instr.makeFunc]) (Out.refl hS) (.func _ _ _ (by simp) (fun k x x' hx hx' => h2 k x x' hx (by simpa using hx')))
    · cases h
  case makeMap t r =>
    cases r with
    | none =>
      simp at h
      obtain ⟨rfl, rfl⟩ := h
      obtain ⟨v', w', g', r1, r2, r3⟩ := makeMap_sound (P := cx.P) (t := t) (hS.more _) (hS.open _)
      exact val _ _ _ (by simp [execOp, r1]) r2.out r3
    | some x => simp at h
  case makeSlice t l c =>
    cases he : elemT cx.P t with
    | none => simp [he] at h
    | some el =>
    cases hsz : sizeT cx.P el with
    | none => simp [he, hsz] at h
    | some sz =>
    cases hby : bytesT cx.P el with
    | none => simp [he, hsz, hby] at h
    | some by_ =>
    cases hz : zeroT cx.P el with
    | none => simp [he, hsz, hby, hz] at h
    | some z =>
    simp only [he, hsz, hby, hz, Option.bind_some] at h
    have hl := e l
    have hc := e c
    split at h
    · rename_i k n k' m hl2 hc2
      rw [hl2] at hl; rw [hc2] at hc
      split at h
      · rename_i hcond
        obtain ⟨rfl, h0, h1, h2, h3, h4, h5, h6⟩ := hcond
        cases h
        obtain ⟨v', w', g', r1, r2, r3⟩ := makeSlice_sound (P := cx.P) (t := t) (k := k) (k' := k') (hS.more _) (hS.open _) he hsz hby hz h0 h1 h2 h3 h4 h5
        cases hlv : a.eval l with
        | int kk nn =>
          cases hcv : a.eval c with
          | int kk2 nn2 =>
            rw [hlv] at hl; rw [hcv] at hc; cases hl; cases hc
            exact val _ _ _ (by simp [execOp, hlv, hcv, r1]) r2.out r3
          | _ => rw [hcv] at hc; cases hc
        | _ => rw [hlv] at hl; cases hl
      · cases h
    · cases h
  case slice t x lo hi mx =>
    cases mx with
    | some m => simp [sliceV] at h
    | none =>
      refine looks _ _ h (by simp only [execOp]; rfl) (fun z hz => ?_)
      exact slice_sound (orelv e lo) (orelv e hi) hz (e x)
  case fieldAddr t x j =>
    refine looks _ _ h (by simp only [execOp]) (fun z hz => fieldAddr_sound hz (e x))
  case field t x j =>
    refine looks _ _ h (by simp only [execOp]) (fun z hz => field_sound hz (e x))
  case indexAddr t x i =>
    refine looks _ _ h (by simp only [execOp]) (fun z hz => indexAddr_sound hz (e x) (e i))
  case index t x i =>
    refine looks _ _ h (by simp only [execOp]) (fun z hz => index_sound hz (e x) (e i))
  case lookup t m k ok =>
    refine looks _ _ h (by simp only [execOp]) (fun z hz => lookup_sound hS hz (e m) (e k))
  case mapUpdate t m k x =>
    cases hs : mapUpdateV cx.P fx.bs t (opnd ρ m) (opnd ρ k) (opnd ρ x) H with
    | none => simp [hs] at h
    | some H1 =>
      simp [hs] at h
      obtain ⟨rfl, rfl⟩ := h
      rw [hb] at hs
      obtain ⟨w', r1, r2⟩ := mapUpdate_sound hS hs (e m) (e k) (e x)
      exact skp w' g (by simp [execOp, r1]) r2 rfl
  case extract x i =>
    split at h
    · rename_i vs hx
      refine looks _ _ h (by simp only [execOp]) (fun z hz => extract_sound hx hz (e x))
    · cases h
  case call c =>
    cases hcal : c.callee with
    | builtin b =>
      simp only [hcal] at h
      obtain ⟨v', w', g', r1, r2, r3⟩ := builtin_sound type (c.args.map fun | .const _ => true | _ => false) h hS hE
      refine val v' w' g' ?_ r2 r3
      simp [execOp, resolve, hcal, invoke]
      exact r1
    | value f =>
      simp only [hcal] at h
      unfold evCallee at h
      cases hf : opnd ρ f with
      | func gf caps =>
        simp only [hf, Option.bind_some] at h
        rw [hb] at h
        obtain ⟨⟨fn, hfn, hbody, hname⟩, hcall⟩ := hC _ _ _ _ _ _ h
        have hfr := e f
        rw [hf] at hfr
        cases hfv : a.eval f with
        | func fn' first captured =>
          rw [hfv] at hfr
          cases hfr with
          | func _ _ vs hs hr =>
            have hargs : ArgsR g w (c.args.toList.map (opnd ρ) ++ caps) ((c.args.map a.eval).toList ++ captured.toList) := by
              obtain ⟨h1, h2⟩ := argsR_map e c.args.toList
              refine ⟨by simp [hs], fun j x x' hx hx' => ?_⟩
              by_cases hj : j < c.args.toList.length
              · rw [List.getElem?_append_left (by simpa using hj)] at hx
                rw [List.getElem?_append_left (by simpa using hj)] at hx'
                exact h2 j x x' hx (by simpa using hx')
              · rw [List.getElem?_append_right (by simpa using hj)] at hx
                rw [List.getElem?_append_right (by simpa using hj)] at hx'
                simp only [List.length_map] at hx
                simp only [Array.toList_map, List.length_map] at hx'
                exact hr _ x x' hx (by simpa using hx')
            have hexec : (execOp a.eval ⟨dst, .call c, type, pos, after, guard⟩).run cx.P w = .ok (.enter gf (((c.args.map a.eval).toList ++ captured.toList).toArray)) w := by
              have hb2 : fn.body.isNone = false := by cases hq : fn.body <;> simp [hq] at hbody ⊢
              simp only [execOp, resolve, hcal, Deferred.ofValue, hfv, Sem.run_bind, Sem.run_pure, Result.andThen_ok, invoke, callFunc, run_program, hfn]
              simp [hname, hb2]
            unfold Oper.wp
            rw [hexec]
            refine (hcall g w _ hS hargs).mono ?_
            rintro en w' ⟨v', g', rfl, r2, r3⟩
            exact hn v' w' g' r2 r3
        | _ => rw [hfv] at hfr; cases hfr
      | _ => simp [hf] at h
    | invoke r m => simp [hcal] at h
end
end Go.E
/- E in a round of a range over a function: fences, blocks that are nobody's, marks. Own work. -/
namespace Go.E

/-- A fence that lets all in, for activations (none) or for a loop's rounds (its record). -/
abbrev FR (r : Option Nat) : Fence := { Fence.wide with round := r }

theorem callsIn_FR {r : Option Nat} {n : Nat} {P : Program} {f : FuncId} {args : Array Value} {w : World} {R : Ending → World → Prop} : CallsIn (FR r) n P f args w R ↔ Calls P f args w R :=
  (callsIn_wide (n := n) : CallsIn Fence.wide n P f args w R ↔ Calls P f args w R)

section
variable {r : Option Nat} {n : Nat} {P : Program} {a : Act} {w : World}

theorem wpIn_of_wp {o : Oper} {next : Act → World → Prop} {Q : Exit → Act → World → Prop} (hd : ∀ c, o.op ≠ .defer c) (h : o.wp P a w next Q) : o.wpIn (FR r) n P a w next Q := by
  refine ⟨fun _ _ => trivial, ?_⟩
  rw [Oper.semAt_eq _ _ _ hd]
  unfold Oper.wp at h
  generalize (execOp a.eval o).run P w = x at *
  have hn : (FR r).depth.isSome = true → 1 ≤ n := fun h => by cases h
  cases x with
  | ok y w' =>
    cases y <;> simp only [Oper.upon, Oper.uponIn] at h ⊢ <;> first
      | exact h
      | exact h.elim
      | exact ⟨hn, callsIn_FR.2 h⟩
      | exact ⟨hn, fun c cs _ => let ⟨v, w', q, s⟩ := h c cs; ⟨v, w', q, stepsIn_wide.2 s⟩⟩
  | halt y w' => cases y <;> simp only [Oper.upon, Oper.uponIn] at h ⊢ <;> first | exact h | exact h.elim

theorem stepR_scope {b : Frame} {k : List Item} {cs : List Frame} {c : Code} : step P (lone (b.atR a (.code (.scope c) :: k)) cs w) = .next (lone (b.atR a (.code c :: .inScope c :: k)) cs w) :=
  step_lone_go (by simp [stepG, stepG.exec, Frame.atR])
theorem stepR_inScope {b : Frame} {k : List Item} {cs : List Frame} {c : Code} : step P (lone (b.atR a (.inScope c :: k)) cs w) = .next (lone (b.atR a k) cs w) :=
  step_lone_go (by simp [stepG, stepG.exec, Frame.atR])

theorem wpIn_scope {F : Fence} {c : Code} {Q : Exit → Act → World → Prop} (h : c.wpIn F n P (Exit.noGoto Q) a w) : (Code.scope c).wpIn F n P Q a w := by
  intro b k cs hro hb hr
  have h0 : (lone (b.atR a (.code (.scope c) :: k)) cs w).fenced P F := fenced_calm hb hr rfl
  obtain ⟨e, a₁, w₁, hq, harr⟩ := h b (.inScope c :: k) cs hro hb hr
  cases e with
  | normal => exact ⟨.normal, a₁, w₁, hq, .head h0 stepR_scope (StepsIn.trans harr (.one (fenced_calm hb hr rfl) stepR_inScope))⟩
  | exit id =>
    have hx : exitTo id (.inScope c :: k) = exitTo id k := by simp [exitTo]
    exact ⟨_, a₁, w₁, hq, fun k' hk => .head h0 stepR_scope (harr.1 k' (by rw [hx]; exact hk)),
      fun hr' hk => let ⟨k₁, h1, h2⟩ := harr.2 hr' (by rw [hx]; exact hk); ⟨k₁, h1, .head h0 stepR_scope h2⟩⟩
  | goto l => exact hq.elim
  | ret => exact ⟨_, a₁, w₁, hq, .of_steps (.one h0 stepR_scope) harr⟩
  | panic ch => exact ⟨_, a₁, w₁, hq, .of_steps (.one h0 stepR_scope) harr⟩
  | outgrown => exact ⟨_, a₁, w₁, hq, .of_steps (.one h0 stepR_scope) harr⟩
end

/-! ### Blocks that are nobody's -/
theorem drawn_ext (g : G) (w : World) : Ext g w g { w with drawn := w.drawn + 1 } := ⟨Nat.le_refl _, fun _ _ h => ⟨h, rfl⟩, fun _ l h => ⟨l, h, LocLe.refl l⟩, fun _ _ _ => ⟨rfl, fun _ => rfl⟩, rfl, rfl, rfl⟩
theorem Sim.drawn {bs : List Nat} {g : G} {w : World} {H : Heap} (hS : Sim bs g H w) : Sim bs g H { w with drawn := w.drawn + 1 } where
  bl := hS.bl
  srt := hS.srt
  dom := hS.dom
  old := hS.old
  obj id ob l h1 h2 := (hS.obj id ob l h1 h2).keep (drawn_ext g w) ⟨fun _ _ h => h, fun _ _ _ => ⟨rfl, rfl⟩, fun _ _ _ _ h => h⟩
  und := hS.und

section
variable {bs : List Nat} {g g' : G} {w w' : World} {H H' : Heap} {L : Nat} {o : Obj}

theorem Bears.refl (g : G) (w : World) : Bears g w g w := ⟨fun _ _ h => ⟨h, rfl⟩, fun _ l h => ⟨l, h, LocLe.refl l⟩⟩
theorem Bears.trans {g1 g2 : G} {w1 w2 : World} (h : Bears g w g1 w1) (k : Bears g1 w1 g2 w2) : Bears g w g2 w2 where
  imm b o e := ⟨(k.imm b o (h.imm b o e).1).1, ((k.imm b o (h.imm b o e).1).2).trans (h.imm b o e).2⟩
  loc id l e := by
    obtain ⟨l1, e1, h1⟩ := h.loc id l e
    obtain ⟨l2, e2, h2⟩ := k.loc id l1 e1
    exact ⟨l2, e2, h1.trans h2⟩
theorem Ext.bears (x : Ext g w g' w') : Bears g w g' w' := ⟨x.imm, x.loc⟩

theorem put_cell (hO : ∀ k, g.O L k = .none) {b k : Nat} (h : g.O b k ≠ .none) : (w.putObj L o).cell? ⟨b, k, none⟩ = w.cell? ⟨b, k, none⟩ ∧ (w.putObj L o).frozen? ⟨b, k, none⟩ = w.frozen? ⟨b, k, none⟩ := by
  have hne : b ≠ L := fun e => h (by rw [e]; exact hO k)
  exact ⟨World.cell?_of_block (World.putObj_heap_other hne), World.frozen?_of_block (World.putObj_heap_other hne)⟩
theorem bears_put (hO : ∀ k, g.O L k = .none) : Bears g w g (w.putObj L o) :=
  ⟨fun b k h => ⟨h, (put_cell hO (by rw [h]; simp)).1⟩, fun _ l h => ⟨l, h, LocLe.refl l⟩⟩
theorem Sim.putFree (hS : Sim bs g H w) (hO : ∀ k, g.O L k = .none) : Sim bs g H (w.putObj L o) where
  bl := hS.bl
  srt := hS.srt
  dom := hS.dom
  old b k h := by rw [World.putObj_size]; exact hS.old b k h
  obj id ob l h1 h2 := (hS.obj id ob l h1 h2).keepB (bears_put hO) ⟨fun _ _ h => h, fun b k h => put_cell hO (by rw [h]; simp), fun b es c h hb => by
    rw [World.putObj_heap_other (fun e => by subst e; rw [hO] at h; cases h)]; exact hb⟩
  und := hS.und
theorem Ext.putFree (x : Ext g w g' w') (hL : w.heap.size ≤ L) (hO : ∀ k, g'.O L k = .none) : Ext g w g' (w'.putObj L o) where
  size := by rw [World.putObj_size]; exact x.size
  imm b k h := ⟨(x.imm b k h).1, ((put_cell hO (by rw [(x.imm b k h).1]; simp)).1).trans (x.imm b k h).2⟩
  loc := x.loc
  free b hb hf := ⟨(World.putObj_heap_other (by omega)).trans (x.free b hb hf).1, (x.free b hb hf).2⟩
  os := x.os
  tape := x.tape
  output := x.output
theorem Out.putFree (x : Out bs g w H g' w' H') (hL : w.heap.size ≤ L) (hO : ∀ k, g'.O L k = .none) : Out bs g w H g' (w'.putObj L o) H' :=
  ⟨x.sim.putFree hO, x.ext.putFree hL hO, x.len, x.dom⟩

theorem ext_alloc (hold : ∀ b k, g.O b k ≠ .none → b < w.heap.size) : Ext g w g (w.alloc o) where
  size := by simp
  imm b k h := ⟨h, World.cell?_of_block (Go.RowKit.Below.heap_alloc w o b (hold b k (by rw [h]; simp)))⟩
  loc _ l h := ⟨l, h, LocLe.refl l⟩
  free b hb _ := ⟨Go.RowKit.Below.heap_alloc w o b hb, fun _ => rfl⟩
  os := rfl
  tape := rfl
  output := rfl
theorem Sim.allocFree (hS : Sim bs g H w) : Sim bs g H (w.alloc o) where
  bl := hS.bl
  srt := hS.srt
  dom := hS.dom
  old b k h := by have := hS.old b k h; simp; omega
  obj id ob l h1 h2 := (hS.obj id ob l h1 h2).keep (ext_alloc hS.old) ⟨fun _ _ h => h, fun b k h => by
    have := Go.RowKit.Below.heap_alloc w o b (hS.old b k (by rw [h]; simp))
    exact ⟨World.cell?_of_block this, World.frozen?_of_block this⟩, fun b es c h hb => by
    rw [Go.RowKit.Below.heap_alloc w o b (hS.old b 0 (by rw [h]; simp))]; exact hb⟩
  und := hS.und

/-- A block that is nobody's lies as it lay. -/
theorem Ext.keepsFree (x : Ext g w g' w') {b : Nat} {o : Obj} (h : w.heap[b]? = some o) (hO : ∀ k, g.O b k = .none) : w'.heap[b]? = some o ∧ ∀ k, g'.O b k = .none := by
  obtain ⟨h1, h2⟩ := x.free b (Array.getElem?_eq_some_iff.1 h).1 (fun o id e => by rw [hO] at e; cases e)
  exact ⟨h1.trans h, fun k => (h2 k).trans (hO k)⟩

/-- In a round: its record lies there. -/
def ROk (r : Option Nat) (g : G) (w : World) : Prop := ∀ l, r = some l → ∃ rec, w.heap[l]? = some (.loop rec) ∧ ∀ k, g.O l k = .none
theorem ROk.mono {r : Option Nat} (x : Ext g w g' w') (h : ROk r g w) : ROk r g' w' := fun l hl => by
  obtain ⟨rec, h1, h2⟩ := h l hl
  exact ⟨rec, x.keepsFree h1 h2⟩

/-! ### The marks that ranges over functions leave among the deferred calls -/
def mkD (D : Nat) : Deferred := { target := .collected D, args := #[] }
def MarkAt (g : G) (w : World) (D : Nat) : Prop := w.heap[D]? = some (.deferred (some [])) ∧ ∀ k, g.O D k = .none
def Mk (n0 : Nat) (g : G) (w : World) (old new : List Deferred) : Prop :=
  ∃ ms : List Nat, new = ms.map mkD ++ old ∧ ms.Nodup ∧ ∀ D ∈ ms, n0 ≤ D ∧ MarkAt g w D
theorem Mk.refl {n0 : Nat} {g : G} {w : World} {old new : List Deferred} (h : new = old) : Mk n0 g w old new := ⟨[], by simp [h], by simp, by simp⟩
theorem MarkAt.mono {D : Nat} (x : Ext g w g' w') (h : MarkAt g w D) : MarkAt g' w' D := x.keepsFree h.1 h.2
theorem MarkAt.put {D : Nat} (h : MarkAt g w D) (hne : D ≠ L) : MarkAt g (w.putObj L o) D := ⟨(World.putObj_heap_other hne).trans h.1, h.2⟩
theorem Mk.trans {n0 : Nat} {g1 g2 : G} {w1 w2 : World} {d0 d1 d2 : List Deferred} (h1 : Mk n0 g1 w1 d0 d1) (x : Ext g1 w1 g2 w2) (hn : n0 ≤ w1.heap.size) (h2 : Mk w1.heap.size g2 w2 d1 d2) : Mk n0 g2 w2 d0 d2 := by
  obtain ⟨m1, rfl, n1, k1⟩ := h1
  obtain ⟨m2, rfl, n2, k2⟩ := h2
  refine ⟨m2 ++ m1, by simp, ?_, fun D hD => ?_⟩
  · refine List.nodup_append.2 ⟨n2, n1, fun a ha b hb e => ?_⟩
    subst e
    have := (k2 a ha).1
    have := (Array.getElem?_eq_some_iff.1 (k1 a hb).2.1).1
    omega
  · rcases List.mem_append.1 hD with h | h
    · exact ⟨Nat.le_trans hn (k2 D h).1, (k2 D h).2⟩
    · exact ⟨(k1 D h).1, (k1 D h).2.mono x⟩

/-- On the way out: the marks are collected, one after the other. -/
theorem leaves_marks {F : Fence} {n : Nat} {P : Program} {fn : Func} {tmps : Array Value} {R : Ending → World → Prop} {K : World → Prop} (hK : ∀ w, K w → LeavesIn F n P fn tmps R [] .returning w) :
    ∀ (ms : List Nat) (w : World), (∀ w D, D ∈ ms → K w → K (w.putObj D (.deferred none))) → ms.Nodup → (∀ D ∈ ms, w.heap[D]? = some (.deferred (some []))) → K w → LeavesInM F n P fn tmps R (ms.map mkD) .returning w
  | [], w, _, _, _, h => hK w h
  | D :: ms, w, hp, hn, hD, h => by
    refine ⟨by simp, .inl ⟨D, w.putObj D (.deferred none), rfl, run_takeDeferred (hD D (by simp)), ?_⟩⟩
    simp only [List.nodup_cons] at hn
    exact leaves_marks hK ms _ (fun w D' hD' => hp w D' (by simp [hD'])) hn.2 (fun D' hD' => by
      rw [World.putObj_heap_other (fun e => hn.1 (by rw [← e]; exact hD'))]; exact hD D' (by simp [hD'])) (hp w D (by simp) h)
end

/-- What is asked of functions that are ranged over. -/
def IterOk (cx : Cx) : Prop :=
  ∀ gf caps l, cx.iter gf caps = some l → (∃ fn, cx.P.funcs[gf]? = some fn ∧ fn.body.isSome = true ∧ fn.name ≠ "runtime.NumGoroutine") ∧
    ∀ (g : G) (w w1 : World) (caps' : List Value), ArgsR g w caps caps' → ∀ (L : Nat) (J : Nat → World → Prop) (Jx : World → Prop),
      (∀ k W, J k W → ∃ g', Bears g w g' W) → (∀ k W, J k W → J k { W with drawn := W.drawn + 1 }) → (∀ W, Jx W → Jx { W with drawn := W.drawn + 1 }) →
      (∀ k args W args', l[k]? = some args → J k W → (∀ g', Bears g w g' W → ArgsR g' W args args') →
        YieldAt Fence.wide 0 cx.P L args'.toArray W fun e W' => (e = .returned (.bool true) ∧ J (k + 1) W') ∨ (e = .returned (.bool false) ∧ Jx W')) →
      J 0 w1 → Calls cx.P gf (#[.func (.yield L) #[] #[]] ++ caps'.toArray) w1 fun e W' => (∃ v, e = .returned v) ∧ (J l.length W' ∨ Jx W')
end Go.E
/- Soundness of E: an operation in its place; a region in the text's order. Own work. -/
namespace Go.E
section
variable {cx : Cx} {g : G} {w : World} {bs : List Nat} {H : Heap} {call : CallSem} {ρ : Env} {a : Act} {r : Option Nat}

theorem evOp_noDefer {fx : Fx} {o : Oper} {z : V × Heap} (h : evOp cx fx call o ρ H = some z) (c : Call) : o.op ≠ .defer c := fun e => by
  unfold evOp at h; simp [e] at h

theorem wanted_eq {n : Nat} {ops : Array Oper} {o : Oper} {b : Bool} (h : wantedV ops o ρ = some b) (hE : ERel g w ρ a.tmps n) : Region.wanted o (yielded ops a.tmps) = b := by
  unfold wantedV at h
  unfold Region.wanted
  cases hg : o.guard with
  | none => simp [hg] at h; simp [h]
  | some p =>
    obtain ⟨j, want⟩ := p
    simp only [hg] at h
    simp only [yielded]
    cases hd : (ops[j]?).bind (·.dst) with
    | none => simp [hd] at h; simp [h]
    | some d =>
      simp only [hd] at h
      simp only [Option.bind_some]
      have hr := hE.rel d
      have hget : a.tmps.getD d Go.undef = (a.tmps[d]?).getD Go.undef := by simp [Array.getD_eq_getD_getElem?]
      split at h
      · rename_i bb hb
        cases h
        rw [hb] at hr
        generalize hx : a.tmps.getD d Go.undef = x at hr
        cases hr
        rw [hget] at hx
        cases ht : a.tmps[d]? with
        | none => rw [ht] at hx; cases hx
        | some y => rw [ht] at hx; simp at hx; subst hx; simp
      · rename_i hb
        cases h
        rw [hb] at hr
        generalize hx : a.tmps.getD d Go.undef = x at hr
        cases hr
        rw [hget] at hx
        cases ht : a.tmps[d]? with
        | none => simp
        | some y => rw [ht] at hx; simp at hx; subst hx; simp [Go.undef]
      · cases h

/-- What is left to do with a temporary. -/
theorem put_rel {fx : Fx} {o : Oper} {v : V} {v' : Value} {ρ' : Env} {H' H1 : Heap} (h : (match o.dst with | none => some (ρ, H1) | some d => if d < fx.n then some (ρ.put d v, H1) else none) = some (ρ', H')) (hE : ERel g w ρ a.tmps fx.n) (hv : VRel g w v v') :
    H' = H1 ∧ ERel g w ρ' (a.put o.dst v').tmps fx.n ∧ (a.put o.dst v').defers = a.defers := by
  cases hd : o.dst with
  | none => simp [hd] at h; obtain ⟨rfl, rfl⟩ := h; exact ⟨rfl, hE, rfl⟩
  | some d =>
    simp only [hd] at h
    split at h
    · rename_i hlt; cases h; exact ⟨rfl, hE.put hlt hv, rfl⟩
    · cases h

theorem evOper_wp {fx : Fx} (hb : fx.bs = bs) (hC : CallOk cx.P call) {ops : Array Oper} {i : Nat} {o : Oper} (hi : ops[i]? = some o) {ρ' : Env} {H' : Heap} (h : evOper cx fx call ops o ρ H = some (ρ', H'))
    (hS : Sim bs g H w) (hE : ERel g w ρ a.tmps fx.n) {K : Act → World → Prop} {Q : Exit → Act → World → Prop}
    (hn : ∀ a' w' g', Out bs g w H g' w' H' → ERel g' w' ρ' a'.tmps fx.n → a'.defers = a.defers → K a' w') : wpOpIn (FR r) 0 cx.P ops Q i K a w := by
  unfold evOper at h
  cases hw : wantedV ops o ρ with
  | none => simp [hw] at h
  | some b =>
    simp only [hw, Option.bind_some] at h
    unfold wpOpIn
    simp only [hi, wanted_eq hw hE]
    cases b with
    | true =>
      simp only [if_true] at h ⊢
      cases ho : evOp cx fx call o ρ H with
      | none => simp [ho] at h
      | some z =>
        obtain ⟨v, H1⟩ := z
        simp only [ho, Option.bind_some] at h
        refine wpIn_of_wp (evOp_noDefer ho) (evOp_wp hb hC ho hS hE (fun v' w' g' o1 r1 => ?_))
        obtain ⟨rfl, h2, h3⟩ := put_rel h (hE.mono o1.ext) r1
        exact hn _ _ g' o1 h2 h3
    | false =>
      simp only [Bool.false_eq_true, if_false, Option.bind_some] at h ⊢
      obtain ⟨rfl, h2, h3⟩ := put_rel h hE .skip
      exact ⟨fun _ _ => trivial, hn _ _ g (Out.refl hS) h2 h3⟩

theorem evOps_wp {fx : Fx} (hb : fx.bs = bs) (hC : CallOk cx.P call) {ops : Array Oper} {Q : Exit → Act → World → Prop} : ∀ (l : List Oper) (i : Nat), (∀ (j : Nat) (o : Oper), l[j]? = some o → ops[i + j]? = some o) →
    ∀ (g : G) (w : World) (H : Heap) (ρ ρ' : Env) (H' : Heap) (a : Act), evOps cx fx call ops l ρ H = some (ρ', H') → Sim bs g H w → ERel g w ρ a.tmps fx.n →
      (∀ a' w' g', Out bs g w H g' w' H' → ERel g' w' ρ' a'.tmps fx.n → a'.defers = a.defers → Q .normal a' w') → wpOpsIn (FR r) 0 cx.P ops Q (List.range' i l.length) a w
  | [], i, _, g, w, H, ρ, ρ', H', a, h, hS, hE, hn => by
    simp [evOps] at h; obtain ⟨rfl, rfl⟩ := h
    exact hn a w g (Out.refl hS) hE rfl
  | o :: rest, i, hl, g, w, H, ρ, ρ', H', a, h, hS, hE, hn => by
    simp only [evOps] at h
    cases ho : evOper cx fx call ops o ρ H with
    | none => simp [ho] at h
    | some s =>
      obtain ⟨ρ1, H1⟩ := s
      simp only [ho, Option.bind_some] at h
      rw [List.length_cons, List.range'_succ, wpOpsIn_cons]
      refine evOper_wp hb hC (by simpa using hl 0 o rfl) ho hS hE (fun a1 w1 g1 o1 e1 d1 => ?_)
      refine evOps_wp hb hC rest (i + 1) (fun j o' hj => by have := hl (j + 1) o' (by simpa using hj); rwa [show i + (j + 1) = i + 1 + j by omega] at this) g1 w1 H1 ρ1 ρ' H' a1 h o1.sim e1 (fun a' w' g' o2 e2 d2 => ?_)
      exact hn a' w' g' (o1.trans o2) e2 (d2.trans d1)

theorem region_text {fx : Fx} (hb : fx.bs = bs) (hC : CallOk cx.P call) {id : Nat} {ops : Array Oper} {Q : Exit → Act → World → Prop} {ρ' : Env} {H' : Heap} (h : evOps cx fx call ops ops.toList ρ H = some (ρ', H')) (hS : Sim bs g H w)
    (hE : ERel g w ρ a.tmps fx.n) (hn : ∀ a' w' g', Out bs g w H g' w' H' → ERel g' w' ρ' a'.tmps fx.n → a'.defers = a.defers → Q .normal a' w') : (Code.region id ops false).wpIn (FR r) 0 cx.P Q a w := by
  refine wpIn_region ?_
  have := evOps_wp (r := r) (Q := Q) hb hC ops.toList 0 (fun j o hj => by simpa using hj) g w H ρ ρ' H' a h hS hE hn
  rw [List.range_eq_range']
  simpa using this
end
end Go.E
/- Soundness of E: code. Own work. -/
namespace Go.E

def exOf : Ex → Exit
  | .normal => .normal
  | .exit id => .exit id
  | .ret => .ret

/-- A region that draws is sound. -/
def DrawOk (cx : Cx) : Prop :=
  ∀ (r : Option Nat) (fx : Fx) (call : CallSem), CallOk cx.P call → ∀ (id : Nat) (ops : Array Oper) (Q : Exit → Act → World → Prop) (g : G) (w : World) (H H' : Heap) (ρ ρ' : Env) (a : Act),
    evDraw cx fx call ops ρ H = some (ρ', H') → Sim fx.bs g H w → ERel g w ρ a.tmps fx.n →
    (∀ a' w' g', Out fx.bs g w H g' w' H' → ERel g' w' ρ' a'.tmps fx.n → a'.defers = a.defers → Q .normal a' w') → (Code.region id ops true).wpIn (FR r) 0 cx.P Q a w

/-! ### A range over a function -/
theorem ERel.bear {g g' : G} {w w' : World} {ρ : Env} {ts : Array Value} {n : Nat} (h : ERel g w ρ ts n) (x : Bears g w g' w') : ERel g' w' ρ ts n := ⟨h.size, fun i => (h.rel i).bear x⟩

theorem putAll_rel {g : G} {w : World} {n : Nat} : ∀ (ps : List Nat) (args : List V) (args' : List Value) (ρ ρ1 : Env) (ts : Array Value), putAll n ρ (ps.zip args) = some ρ1 → ERel g w ρ ts n → ArgsR g w args args' →
    ERel g w ρ1 ((ps.zip args').foldl (fun t (p : Nat × Value) => t.setIfInBounds p.1 p.2) ts) n
  | [], _, _, ρ, ρ1, ts, h, hE, _ => by simp [putAll] at h; subst h; exact hE
  | p :: ps, [], args', ρ, ρ1, ts, h, hE, hA => by
    have : args' = [] := List.eq_nil_of_length_eq_zero (by simpa using hA.1)
    subst this
    simp [putAll] at h; subst h; exact hE
  | p :: ps, x :: args, [], ρ, ρ1, ts, h, hE, hA => by have := hA.1; simp at this
  | p :: ps, x :: args, x' :: args', ρ, ρ1, ts, h, hE, hA => by
    simp only [List.zip_cons_cons, putAll] at h
    split at h
    · rename_i hp
      exact putAll_rel ps args args' _ ρ1 _ h (hE.put hp (hA.2 0 x x' rfl rfl)) ⟨by have := hA.1; simpa using this, fun j y y' hy hy' => hA.2 (j + 1) y y' (by simpa using hy) (by simpa using hy')⟩
    · cases h

def codeOf : Ex → Option Code
  | .normal => none
  | .exit id => some (.exit id)
  | .ret => some .ret

theorem enter_ok {P : Program} {bs : List Nat} {r : Option Nat} {g : G} {w : World} {H : Heap} (hS : Sim bs g H w) (hR : ROk r g w) (fn : FuncId) (tmps : Array Value) (ps : Array Tmp) (assign body : Code) :
    ∃ (L : Nat) (ms : List Nat) (D : Nat) (w1 : World), (Instr.enterLoop fn tmps ps assign body r).run P w = .ok (L, ms.map mkD) w1 ∧
      w1.heap[L]? = some (.loop { state := .ready, pending := none, fn, tmps, params := ps, assign, body, defers := D }) ∧ w.heap.size ≤ L ∧ (∀ j, g.O L j = .none) ∧ ms.Nodup ∧
      (∀ D ∈ ms, w.heap.size ≤ D ∧ D ≠ L ∧ MarkAt g w1 D) ∧ Sim bs g H w1 ∧ Ext g w g w1 := by
  have hnone : ∀ b, w.heap.size ≤ b → ∀ j, g.O b j = .none := fun b hb j => by
    cases h : g.O b j with
    | none => rfl
    | imm => have := hS.old b j (by rw [h]; simp); omega
    | res id => have := hS.old b j (by rw [h]; simp); omega
  cases r with
  | none =>
    refine ⟨w.heap.size + 1, [w.heap.size], w.heap.size, _, run_enterLoop_outer fn tmps ps assign body, ?_, by omega, hnone _ (by omega), by simp, fun D hD => ?_, hS.allocFree.allocFree, ?_⟩
    · have := World.alloc_heap_new (w.alloc (.deferred (some []))) (.loop { state := .ready, pending := none, fn, tmps, params := ps, assign, body, defers := w.heap.size })
      rwa [World.size_alloc] at this
    · simp only [List.mem_singleton] at hD
      subst hD
      exact ⟨Nat.le_refl _, by omega, (Go.RowKit.Below.heap_alloc _ _ _ (by simp)).trans (World.alloc_heap_new w _), hnone _ (Nat.le_refl _)⟩
    · exact (ext_alloc hS.old).trans (ext_alloc (fun b k h => by have := hS.old b k h; simp; omega))
  | some l =>
    obtain ⟨rec, h1, h2⟩ := hR l rfl
    exact ⟨w.heap.size, [], rec.defers, _, run_enterLoop_inner h1 fn tmps ps assign body, World.alloc_heap_new w _, Nat.le_refl _, hnone _ (Nat.le_refl _), by simp, by simp, hS.allocFree, ext_alloc hS.old⟩

/-- What is shown of a piece of code. -/
def SubOk (cx : Cx) (call : CallSem) (fx : Fx) (k : Nat) (c : Code) : Prop :=
  ∀ (r : Option Nat) (Q : Exit → Act → World → Prop) (g : G) (w : World) (H H' : Heap) (ρ ρ' : Env) (a : Act) (ex : Ex),
    evCode cx fx (loopn k) call c ρ H = some (ex, ρ', H') → Sim fx.bs g H w → ROk r g w → ERel g w ρ a.tmps fx.n →
    (∀ a' w' g', Out fx.bs g w H g' w' H' → ERel g' w' ρ' a'.tmps fx.n → Mk w.heap.size g' w' a.defers a'.defers → Q (exOf ex) a' w') → c.wpIn (FR r) 0 cx.P Q a w

theorem range_wp {cx : Cx} {call : CallSem} {fx : Fx} {k : Nat} (hI : IterOk cx) {f : Operand} {ps : Array Tmp} {assign body : Code} (ihA : SubOk cx call fx k assign) (ihB : SubOk cx call fx k body)
    {r : Option Nat} {Q : Exit → Act → World → Prop} {g : G} {w : World} {H H' : Heap} {ρ ρ' : Env} {a : Act} {ex : Ex}
    (h : (match opnd ρ f with
      | .func gf caps => (cx.iter gf caps).bind fun l => (evRounds (evCode cx fx (loopn k) call assign) (evCode cx fx (loopn k) call body) fx.n ps.toList ρ l H).map fun z => (z.1, ρ, z.2)
      | _ => none) = some (ex, ρ', H')) (hS : Sim fx.bs g H w) (hR : ROk r g w) (hE : ERel g w ρ a.tmps fx.n)
    (hn : ∀ a' w' g', Out fx.bs g w H g' w' H' → ERel g' w' ρ' a'.tmps fx.n → Mk w.heap.size g' w' a.defers a'.defers → Q (exOf ex) a' w') : (Code.rangeFunc f ps assign body).wpIn (FR r) 0 cx.P Q a w := by
  have hf := hE.opnd f
  split at h
  case h_2 => cases h
  rename_i gf caps hop
  rw [hop] at hf
  cases hit : cx.iter gf caps with
  | none => simp [hit] at h
  | some l =>
  rw [hit] at h
  simp only [Option.bind_some] at h
  generalize hfA : evCode cx fx (loopn k) call assign = fA at h
  generalize hfB : evCode cx fx (loopn k) call body = fB at h
  cases hr : evRounds fA fB fx.n ps.toList ρ l H with
  | none => simp [hr] at h
  | some z =>
  obtain ⟨ex0, H0⟩ := z
  rw [hr] at h
  simp only [Option.map_some, Option.some.injEq, Prod.mk.injEq] at h
  obtain ⟨rfl, rfl, rfl⟩ := h
  obtain ⟨⟨gfn, hgf, hgb, hgn⟩, hiter⟩ := hI gf caps l hit
  generalize hev : a.eval f = fv at hf
  cases hf
  rename_i vs hvs hvr
  refine wpIn_rangeFunc (fun fn _ => ?_)
  obtain ⟨L, ms, D, w1, e1, e2, e3, e4, e5, e6, e7, e8⟩ := enter_ok (P := cx.P) hS hR fn a.tmps ps assign body
  have hcall : ∀ args w, (callFunc gf args).run cx.P w = .ok (.enter gf args) w := fun args w => by
    have hb2 : gfn.body.isNone = false := by cases hq : gfn.body <;> simp [hq] at hgb ⊢
    simp only [callFunc, run_program, Sem.run_bind, Result.andThen_ok, hgf]
    simp [hgn, hb2]
  refine ⟨L, ms.map mkD, w1, { target := .fn (.func gf) vs, args := #[.func (.yield L) #[] #[]] }, w1, gf, #[.func (.yield L) #[] #[]] ++ vs, w1, e1, ?_, fun _ _ => trivial, ?_, (fun h => by cases h), ?_⟩
  · simp only [resolve, hev]; simp [go_sem]
  · simp [invoke, go_sem, hcall]
  refine callsIn_FR.2 ?_
  have hA : ArgsR g w caps vs.toList := ⟨by simpa using hvs, fun j x x' hx hx' => hvr j x x' hx (by simpa using hx')⟩
  let rec_ : LoopState → Option Code → Loop := fun st pe => { state := st, pending := pe, fn, tmps := a.tmps, params := ps, assign, body, defers := D }
  let J : Nat → World → Prop := fun j W => ∃ g' Hk, Out fx.bs g w H g' W Hk ∧ W.heap[L]? = some (.loop (rec_ .ready none)) ∧ (∀ i, g'.O L i = .none) ∧ (∀ D ∈ ms, MarkAt g' W D) ∧
    evRounds fA fB fx.n ps.toList ρ (l.drop j) Hk = some (ex0, H0)
  let Jx : World → Prop := fun W => ∃ g' c, Out fx.bs g w H g' W H0 ∧ W.heap[L]? = some (.loop (rec_ .done (some c))) ∧ (∀ i, g'.O L i = .none) ∧ (∀ D ∈ ms, MarkAt g' W D) ∧ codeOf ex0 = some c
  have hD1 : ∀ (g' : G) (W : World) (Hk : Heap), Out fx.bs g w H g' W Hk → Out fx.bs g w H g' { W with drawn := W.drawn + 1 } Hk := fun g' W Hk o => ⟨o.sim.drawn, o.ext.trans (drawn_ext g' W), o.len, o.dom⟩
  have hJ1 : ∀ j W, J j W → ∃ g', Bears g w g' W := fun j W ⟨g', Hk, o, _⟩ => ⟨g', o.ext.bears⟩
  have hJ2 : ∀ j W, J j W → J j { W with drawn := W.drawn + 1 } := fun j W ⟨g', Hk, o, k1, k2, k3, k4⟩ => ⟨g', Hk, hD1 g' W Hk o, k1, k2, k3, k4⟩
  have hJ3 : ∀ W, Jx W → Jx { W with drawn := W.drawn + 1 } := fun W ⟨g', c, o, k1, k2, k3, k4⟩ => ⟨g', c, hD1 g' W _ o, k1, k2, k3, k4⟩
  have hJ0 : J 0 w1 := ⟨g, H, ⟨e7, e8, Nat.le_refl _, fun id => ⟨.inl, fun h => h.resolve_right (by omega)⟩⟩, e2, e4, fun D hD => (e6 D hD).2.2, by simpa using hr⟩
  have hY : ∀ j args W args', l[j]? = some args → J j W → (∀ g', Bears g w g' W → ArgsR g' W args args') →
      YieldAt Fence.wide 0 cx.P L args'.toArray W fun e W' => (e = .returned (.bool true) ∧ J (j + 1) W') ∨ (e = .returned (.bool false) ∧ Jx W') := by
    rintro j args W args' hj ⟨g', Hk, o, k1, k2, k3, k4⟩ hargs
    have hargs := hargs g' o.ext.bears
    have hjl := (List.getElem?_eq_some_iff.1 hj)
    rw [List.drop_eq_getElem_cons hjl.1, hjl.2] at k4
    simp only [evRounds] at k4
    split at k4
    case isFalse => cases k4
    rename_i hlen
    cases hp : putAll fx.n ρ (ps.toList.zip args) with
    | none => simp [hp] at k4
    | some ρ1 =>
    simp only [hp, Option.bind_some] at k4
    have hsz : args'.toArray.size = ps.size := by have := hargs.1; simp only [List.size_toArray]; simpa [hlen] using this
    refine ⟨fn, _, assign, body, run_yield k1 hsz, ?_⟩
    have hE1 : ERel g' W ρ1 ((ps.zip args'.toArray).foldl (fun tmps (x : Nat × Value) => tmps.setIfInBounds x.1 x.2) a.tmps) fx.n := by
      have := putAll_rel ps.toList args args' ρ ρ1 a.tmps hp (hE.mono o.ext) hargs
      rw [← Array.foldl_toList]
      simpa using this
    have hRL : ROk (some L) g' W := fun l' hl' => by cases hl'; exact ⟨_, k1, k2⟩
    refine roundIn_of_wpIn (F := Fence.wide) trivial ?_
    cases hqA : fA ρ1 Hk with
    | none => simp [hqA] at k4
    | some zA =>
    obtain ⟨exA, ρ2, H2⟩ := zA
    rw [hqA] at k4
    cases exA with
    | exit id => simp at k4
    | ret => simp at k4
    | normal =>
    simp only at k4
    refine ihA (some L) _ g' W Hk H2 ρ1 ρ2 { tmps := _, defers := [] } .normal (by rw [hfA]; exact hqA) o.sim hRL hE1 (fun a2 W2 g2 o2 E2 _ => ?_)
    obtain ⟨q1, q2⟩ := o2.ext.keepsFree k1 k2
    refine ⟨_, run_beginRound q1 rfl, ?_⟩
    have hL2 : L < W2.heap.size := (Array.getElem?_eq_some_iff.1 q1).1
    have hb2 : (W2.putObj L (.loop { rec_ .ready none with state := .busy })).heap[L]? = some (.loop { rec_ .ready none with state := .busy }) := World.putObj_heap_same hL2
    cases hqB : fB ρ2 H2 with
    | none => simp [hqB] at k4
    | some zB =>
    obtain ⟨exB, ρ3, H3⟩ := zB
    rw [hqB] at k4
    refine ihB (some L) _ g2 _ H2 H3 ρ2 ρ3 a2 exB (by rw [hfB]; exact hqB) (o2.sim.putFree q2) (fun l' hl' => by cases hl'; exact ⟨_, hb2, q2⟩) (E2.bear (bears_put q2)) (fun a3 W3 g3 o3 _ _ => ?_)
    obtain ⟨p1, p2⟩ := o3.ext.keepsFree hb2 q2
    have hL3 : L < W3.heap.size := (Array.getElem?_eq_some_iff.1 p1).1
    have ow : Out fx.bs g w H g3 W3 H3 := by
      have oa : Out fx.bs g w H g2 (W2.putObj L (.loop { rec_ .ready none with state := .busy })) H2 := (o.trans o2).putFree e3 q2
      exact oa.trans o3
    have marks : ∀ ob, ∀ D ∈ ms, MarkAt g3 (W3.putObj L ob) D := fun ob D hD =>
      ((((k3 D hD).mono o2.ext).put (e6 D hD).2.1).mono o3.ext).put (e6 D hD).2.1
    have fin : ∀ jump, (Instr.endRound L jump).run cx.P W3 = .ok (.bool jump.isNone) (W3.putObj L (.loop (rec_ (if jump.isNone then .ready else .done) jump))) := fun jump => run_endRound jump p1
    cases exB with
    | normal =>
      simp only at k4
      exact ⟨_, _, fin none, .inl ⟨rfl, g3, H3, ow.putFree e3 p2, World.putObj_heap_same hL3, p2, marks _, k4⟩⟩
    | exit id =>
      simp only [Option.some.injEq, Prod.mk.injEq] at k4
      obtain ⟨rfl, rfl⟩ := k4
      exact ⟨_, _, fin (some (.exit id)), .inr ⟨rfl, g3, _, ow.putFree e3 p2, World.putObj_heap_same hL3, p2, marks _, rfl⟩⟩
    | ret =>
      simp only [Option.some.injEq, Prod.mk.injEq] at k4
      obtain ⟨rfl, rfl⟩ := k4
      exact ⟨_, _, fin (some .ret), .inr ⟨rfl, g3, _, ow.putFree e3 p2, World.putObj_heap_same hL3, p2, marks _, rfl⟩⟩
  have key := hiter g w w1 vs.toList hA L J Jx hJ1 hJ2 hJ3 hY hJ0
  have hvl : vs.toList.toArray = vs := by simp
  rw [hvl] at key
  refine key.mono ?_
  have mk : ∀ (g' : G) (W : World), (∀ D ∈ ms, MarkAt g' W D) → Mk w.heap.size g' W a.defers (ms.map mkD ++ a.defers) := fun g' W hM => ⟨ms, rfl, e5, fun D hD => ⟨(e6 D hD).1, hM D hD⟩⟩
  rintro e W2 ⟨⟨v, rfl⟩, ⟨g', Hk, o, k1, k2, k3, k4⟩ | ⟨g', c, o, k1, k2, k3, k4⟩⟩
  · simp only [List.drop_length, evRounds, Option.some.injEq, Prod.mk.injEq] at k4
    obtain ⟨rfl, rfl⟩ := k4
    refine ⟨none, _, run_endLoop k1 (by simp [rec_]), ?_⟩
    refine hn { a with defers := ms.map mkD ++ a.defers } _ g' (o.putFree e3 k2) (hE.bear (o.putFree e3 k2).ext.bears) (mk g' _ fun D hD => (k3 D hD).put (e6 D hD).2.1)
  · refine ⟨some c, _, run_endLoop k1 (by simp [rec_]), ?_⟩
    have := hn { a with defers := ms.map mkD ++ a.defers } (W2.putObj L (.loop { rec_ .done (some c) with state := .exhausted })) g' (o.putFree e3 k2) (hE.bear (o.putFree e3 k2).ext.bears) (mk g' _ fun D hD => (k3 D hD).put (e6 D hD).2.1)
    cases ex0 with
    | normal => simp [codeOf] at k4
    | exit id => simp [codeOf] at k4; subst k4; exact wpIn_exit this
    | ret => simp [codeOf] at k4; subst k4; exact wpIn_ret this

section
variable {cx : Cx} {call : CallSem} {fx : Fx}

theorem evCode_wp (hC : CallOk cx.P call) (hD : DrawOk cx) (hI : IterOk cx) (k : Nat) : ∀ (c : Code) (r : Option Nat) (Q : Exit → Act → World → Prop) (g : G) (w : World) (H H' : Heap) (ρ ρ' : Env) (a : Act) (ex : Ex),
    evCode cx fx (loopn k) call c ρ H = some (ex, ρ', H') → Sim fx.bs g H w → ROk r g w → ERel g w ρ a.tmps fx.n →
    (∀ a' w' g', Out fx.bs g w H g' w' H' → ERel g' w' ρ' a'.tmps fx.n → Mk w.heap.size g' w' a.defers a'.defers → Q (exOf ex) a' w') → c.wpIn (FR r) 0 cx.P Q a w := by
  intro c
  induction c with
  | skip =>
    intro r Q g w H H' ρ ρ' a ex h hS hR hE hn
    simp [evCode] at h; obtain ⟨rfl, rfl, rfl⟩ := h
    exact wpIn_skip (hn a w g (Out.refl hS) hE (Mk.refl rfl))
  | label l =>
    intro r Q g w H H' ρ ρ' a ex h hS hR hE hn
    simp [evCode] at h; obtain ⟨rfl, rfl, rfl⟩ := h
    exact wpIn_label (hn a w g (Out.refl hS) hE (Mk.refl rfl))
  | region id ops draw =>
    intro r Q g w H H' ρ ρ' a ex h hS hR hE hn
    simp only [evCode] at h
    cases draw with
    | false =>
      simp only [Bool.false_eq_true, if_false] at h
      cases ho : evOps cx fx call ops ops.toList ρ H with
      | none => simp [ho] at h
      | some s => simp [ho] at h; obtain ⟨rfl, rfl, rfl⟩ := h; exact region_text rfl hC ho hS hE (fun a' w' g' o e d => hn a' w' g' o e (Mk.refl d))
    | true =>
      simp only [if_true] at h
      cases ho : evDraw cx fx call ops ρ H with
      | none => simp [ho] at h
      | some s => simp [ho] at h; obtain ⟨rfl, rfl, rfl⟩ := h; exact hD r fx call hC id ops Q g w H _ ρ _ a ho hS hE (fun a' w' g' o e d => hn a' w' g' o e (Mk.refl d))
  | seq x y ihx ihy =>
    intro r Q g w H H' ρ ρ' a ex h hS hR hE hn
    simp only [evCode] at h
    refine wpIn_seq ?_
    cases hx : evCode cx fx (loopn k) call x ρ H with
    | none => simp [hx] at h
    | some r =>
      obtain ⟨e1, ρ1, H1⟩ := r
      rw [hx] at h
      cases e1 with
      | normal =>
        simp only at h
        exact ihx r _ g w H H1 ρ ρ1 a .normal hx hS hR hE (fun a1 w1 g1 o1 e1 d1 => ihy r _ g1 w1 H1 H' ρ1 ρ' a1 ex h o1.sim (hR.mono o1.ext) e1 (fun a2 w2 g2 o2 e2 d2 => hn a2 w2 g2 (o1.trans o2) e2 (d1.trans o2.ext o1.ext.size d2)))
      | exit id =>
        simp only [Option.some.injEq, Prod.mk.injEq] at h
        obtain ⟨rfl, rfl, rfl⟩ := h
        exact ihx r _ g w H H1 ρ ρ1 a _ hx hS hR hE (fun a1 w1 g1 o1 e1 d1 => hn a1 w1 g1 o1 e1 d1)
      | ret =>
        simp only [Option.some.injEq, Prod.mk.injEq] at h
        obtain ⟨rfl, rfl, rfl⟩ := h
        exact ihx r _ g w H H1 ρ ρ1 a _ hx hS hR hE (fun a1 w1 g1 o1 e1 d1 => hn a1 w1 g1 o1 e1 d1)
  | cond o x y ihx ihy =>
    intro r Q g w H H' ρ ρ' a ex h hS hR hE hn
    simp only [evCode] at h
    have ho := hE.opnd o
    split at h
    · rename_i hb; rw [hb] at ho
      have : a.eval o = .bool true := by generalize a.eval o = z at ho; cases ho; rfl
      exact wpIn_cond_true this (ihx r Q g w H H' ρ ρ' a ex h hS hR hE hn)
    · rename_i hb; rw [hb] at ho
      have : a.eval o = .bool false := by generalize a.eval o = z at ho; cases ho; rfl
      exact wpIn_cond_false this (ihy r Q g w H H' ρ ρ' a ex h hS hR hE hn)
    · cases h
  | block id x ih =>
    intro r Q g w H H' ρ ρ' a ex h hS hR hE hn
    simp only [evCode] at h
    refine wpIn_block ?_
    cases hx : evCode cx fx (loopn k) call x ρ H with
    | none => simp [hx] at h
    | some r =>
      obtain ⟨e1, ρ1, H1⟩ := r
      rw [hx] at h
      cases e1 with
      | normal =>
        simp only [Option.some.injEq, Prod.mk.injEq] at h
        obtain ⟨rfl, rfl, rfl⟩ := h
        exact ih r _ g w H H1 ρ ρ1 a _ hx hS hR hE (fun a1 w1 g1 o1 e1 d1 => hn a1 w1 g1 o1 e1 d1)
      | exit id' =>
        simp only [Option.some.injEq, Prod.mk.injEq] at h
        obtain ⟨rfl, rfl, rfl⟩ := h
        refine ih r _ g w H H1 ρ ρ1 a _ hx hS hR hE (fun a1 w1 g1 o1 e1 d1 => ?_)
        have := hn a1 w1 g1 o1 e1 d1
        by_cases hid : id' = id
        · simpa [exOf, Exit.inBlock, hid] using this
        · simpa [exOf, Exit.inBlock, hid] using this
      | ret =>
        simp only [Option.some.injEq, Prod.mk.injEq] at h
        obtain ⟨rfl, rfl, rfl⟩ := h
        exact ih r _ g w H H1 ρ ρ1 a _ hx hS hR hE (fun a1 w1 g1 o1 e1 d1 => hn a1 w1 g1 o1 e1 d1)
  | loop x ih =>
    intro r Q g w H H' ρ ρ' a ex h hS hR hE hn
    simp only [evCode] at h
    have key : ∀ (m : Nat) (g : G) (w : World) (H : Heap) (ρ : Env) (a : Act), loopn m (evCode cx fx (loopn k) call x) ρ H = some (ex, ρ', H') → Sim fx.bs g H w → ROk r g w → ERel g w ρ a.tmps fx.n →
        (∀ a' w' g', Out fx.bs g w H g' w' H' → ERel g' w' ρ' a'.tmps fx.n → Mk w.heap.size g' w' a.defers a'.defers → Q (exOf ex) a' w') → Code.roundsIn (FR r) 0 cx.P x Q m a w := by
      intro m
      induction m with
      | zero => intro g w H ρ a h; simp [loopn] at h
      | succ m ihm =>
        intro g w H ρ a h hS hR hE hn
        simp only [loopn] at h
        rw [roundsIn_succ]
        cases hx : evCode cx fx (loopn k) call x ρ H with
        | none => simp [hx] at h
        | some r =>
          obtain ⟨e1, ρ1, H1⟩ := r
          rw [hx] at h
          cases e1 with
          | normal =>
            simp only at h
            exact ih r _ g w H H1 ρ ρ1 a .normal hx hS hR hE (fun a1 w1 g1 o1 e1 d1 => ihm g1 w1 H1 ρ1 a1 h o1.sim (hR.mono o1.ext) e1 (fun a2 w2 g2 o2 e2 d2 => hn a2 w2 g2 (o1.trans o2) e2 (d1.trans o2.ext o1.ext.size d2)))
          | exit id =>
            simp only [Option.some.injEq, Prod.mk.injEq] at h
            obtain ⟨rfl, rfl, rfl⟩ := h
            exact ih r _ g w H H1 ρ ρ1 a _ hx hS hR hE (fun a1 w1 g1 o1 e1 d1 => hn a1 w1 g1 o1 e1 d1)
          | ret =>
            simp only [Option.some.injEq, Prod.mk.injEq] at h
            obtain ⟨rfl, rfl, rfl⟩ := h
            exact ih r _ g w H H1 ρ ρ1 a _ hx hS hR hE (fun a1 w1 g1 o1 e1 d1 => hn a1 w1 g1 o1 e1 d1)
    exact wpIn_loop_rounds k (key k g w H ρ a h hS hR hE hn)
  | exit id =>
    intro r Q g w H H' ρ ρ' a ex h hS hR hE hn
    simp [evCode] at h; obtain ⟨rfl, rfl, rfl⟩ := h
    exact wpIn_exit (hn a w g (Out.refl hS) hE (Mk.refl rfl))
  | ret =>
    intro r Q g w H H' ρ ρ' a ex h hS hR hE hn
    simp [evCode] at h; obtain ⟨rfl, rfl, rfl⟩ := h
    exact wpIn_ret (hn a w g (Out.refl hS) hE (Mk.refl rfl))
  | scope x ih =>
    intro r Q g w H H' ρ ρ' a ex h hS hR hE hn
    simp only [evCode] at h
    refine wpIn_scope (ih r _ g w H H' ρ ρ' a ex h hS hR hE (fun a1 w1 g1 o1 e1 d1 => ?_))
    have := hn a1 w1 g1 o1 e1 d1
    cases ex <;> exact this
  | rangeFunc f ps assign body ihA ihB =>
    intro r Q g w H H' ρ ρ' a ex h hS hR hE hn
    simp only [evCode] at h
    exact range_wp hI ihA ihB h hS hR hE hn
  | goto l => intro r Q g w H H' ρ ρ' a ex h; simp [evCode] at h
  | refuse why => intro r Q g w H H' ρ ρ' a ex h; simp [evCode] at h
end
end Go.E
/- Soundness of E: what a call hands back. Own work. -/
namespace Go.E
section
variable {P : Program} {g : G} {w : World} {bs : List Nat} {H : Heap}

mutual
theorem pure_under (n : Nat) : ∀ v : V, v.pure = true → v.under n = true
  | .int .., _ | .bool _, _ | .str _, _ | .nilS, _ | .nilP, _ | .nilF, _ | .nilM, _ | .nilI, _ => rfl
  | .list _, _ => rfl
  | .agg cs, h => pureL_under n cs h
  | .eptr cs _, h => pureL_under n cs h
  | .func _ caps, h => pureL_under n caps h
  | .tl .., h | .ref .., h | .ptr .., h | .aptr .., h | .map _, h | .tuple _, h | .undef, h | .skip, h => by simp [V.pure] at h
theorem pureL_under (n : Nat) : ∀ l : List V, V.pureL l = true → V.underL n l = true
  | [], _ => rfl
  | v :: r, h => by
    simp only [V.pureL, Bool.and_eq_true] at h
    simp only [V.underL, Bool.and_eq_true]
    exact ⟨pure_under n v h.1, pureL_under n r h.2⟩
end

theorem pureL_get {l : List V} {k : Nat} {v : V} (h : V.pureL l = true) (hk : l[k]? = some v) : v.pure = true := by
  induction l generalizing k with
  | nil => simp at hk
  | cons x r ih =>
    simp only [V.pureL, Bool.and_eq_true] at h
    cases k with
    | zero => simp at hk; subst hk; exact h.1
    | succ k => simp at hk; exact ih h.2 hk
theorem underL_get {n : Nat} {l : List V} {k : Nat} {v : V} (h : V.underL n l = true) (hk : l[k]? = some v) : v.under n = true :=
  underL_mem h (List.mem_of_getElem? hk)

/-- Names of things told of lie under n, when all that have a place do. -/
theorem VRel.under {n : Nat} (hn : ∀ id, g.φ id ≠ none → id < n) {v : V} {v' : Value} (h : VRel g w v v') : v.under n = true := by
  have lt : ∀ {id l}, g.φ id = some l → id < n := fun h => hn _ (by rw [h]; simp)
  have all : ∀ {cs : List V} {vs : Array Value}, vs.size = cs.length → (∀ (k : Nat) (v : V) (v' : Value), cs[k]? = some v → vs[k]? = some v' → v.under n = true) → V.underL n cs = true := fun hs ih => by
    refine underL_of (fun v hv => ?_)
    obtain ⟨k, hk⟩ := List.getElem?_of_mem hv
    obtain ⟨hlt, _⟩ := List.getElem?_eq_some_iff.1 hk
    exact ih k v _ hk (by rw [Array.getElem?_eq_getElem (by omega)])
  induction h with
  | tl t es v' base s cap n' h ht hn' hcur ih => simpa [V.under] using lt ht
  | ref _ _ _ _ _ _ _ _ _ _ _ _ _ h => simpa [V.under] using lt h
  | ptr _ _ _ _ _ h => simpa [V.under] using lt h
  | aptr _ _ _ _ _ _ _ _ _ _ _ h => simpa [V.under] using lt h
  | map _ _ h => simpa [V.under] using lt h
  | agg cs vs hs hr ih => exact all hs ih
  | func f cs vs hs hr ih => exact all hs ih
  | tuple cs vs hs hr ih => exact all hs ih
  | eptr cs off b o c hO hc hr ih =>
    refine underL_of (fun v hv => ?_)
    obtain ⟨k, hk⟩ := List.getElem?_of_mem hv
    exact ih k v hk
  | _ => rfl

theorem ORel.under {n id : Nat} (hn : ∀ id, g.φ id ≠ none → id < n) {ob : HObj} {l : Loc} (h : ORel g w id ob l) : objUnder n ob = true := by
  cases h with
  | cells cs b o h hc =>
    refine underL_of (fun v hv => ?_)
    obtain ⟨k, hk⟩ := List.getElem?_of_mem hv
    obtain ⟨v', _, r⟩ := hc k v hk
    exact r.under hn
  | arr es b o s ext ver hext hs h hc =>
    refine underL_of (fun e he => ?_)
    obtain ⟨j, hj⟩ := List.getElem?_of_mem he
    have : V.underL n e.cells = true := underL_of (fun v hv => by
      obtain ⟨k, hk⟩ := List.getElem?_of_mem hv
      obtain ⟨v', _, r⟩ := hc j e k v hj hk
      exact r.under hn)
    cases e <;> first | exact this | simpa [V.cells, V.underL] using this
  | tokNil => rfl
  | tok => rfl
  | map es b clock es' ho hb hs hr =>
    refine List.all_eq_true.2 (fun kv hkv => ?_)
    obtain ⟨k, hk⟩ := List.getElem?_of_mem hkv
    obtain ⟨hlt, _⟩ := List.getElem?_eq_some_iff.1 hk
    obtain ⟨r1, r2⟩ := hr k kv _ hk (by rw [Array.getElem?_eq_getElem (by omega)])
    simp [r1.under hn, r2.under hn]

/-- Things from n0 on lose their place; their cells are written no more. -/
def G.cut (g : G) (n0 : Nat) : G :=
  { O := fun b o => match g.O b o with | .res id => if id < n0 then .res id else .imm | x => x
    φ := fun id => if id < n0 then g.φ id else none }
theorem cut_imm {n0 b o : Nat} (h : g.O b o = .imm) : (g.cut n0).O b o = .imm := by simp [G.cut, h]
theorem cut_res {n0 b o id : Nat} (h : g.O b o = .res id) (hi : n0 ≤ id) : (g.cut n0).O b o = .imm := by simp [G.cut, h, show ¬ id < n0 by omega]
theorem cut_res_lt {n0 b o id : Nat} (h : g.O b o = .res id) (hi : id < n0) : (g.cut n0).O b o = .res id := by simp [G.cut, h, hi]
theorem cut_loc {n0 id : Nat} {l : Loc} (h : g.φ id = some l) (hi : id < n0) : (g.cut n0).φ id = some l := by simp [G.cut, h, hi]

theorem VRel.cut {n0 : Nat} {v : V} {v' : Value} (h : VRel g w v v') : v.under n0 = true → VRel (g.cut n0) w v v' := by
  induction h with
  | int => exact fun _ => .int _ _
  | bool => exact fun _ => .bool _
  | str => exact fun _ => .str _
  | nilS => exact fun _ => .nilS
  | nilP => exact fun _ => .nilP
  | nilF => exact fun _ => .nilF
  | nilM => exact fun _ => .nilM
  | nilI => exact fun _ => .nilI
  | undef v => exact fun _ => .undef v
  | skip => exact fun _ => .skip
  | listNil => exact fun _ => .listNil
  | listZ a => exact fun _ => .listZ a
  | list b o cap s es c hlen hpure hs hO hc hr ih =>
    refine fun _ => .list b o cap s es c hlen hpure hs (fun j i hj hi => cut_imm (hO j i hj hi)) hc (fun j e i v he hv => ih j e i v he hv ?_)
    have := pureL_get hpure he
    refine pure_under _ _ (?_ : v.pure = true)
    cases e <;> simp only [V.cells] at hv <;> (try (cases i <;> simp at hv; subst hv; exact this))
    exact pureL_get this hv
  | tl t es v' base s cap n h ht hn hcur ih => exact fun hu => .tl t es v' base s cap n (ih rfl) (cut_loc ht (by simpa [V.under] using hu)) hn hcur
  | ref s id ver off len cap b o s' ext ver' b' o' h hv hlen hcur => exact fun hu => .ref s id ver off len cap b o s' ext ver' b' o' (cut_loc h (by simpa [V.under] using hu)) hv hlen hcur
  | agg cs vs hs hr ih => exact fun hu => .agg cs vs hs (fun k v v' h1 h2 => ih k v v' h1 h2 (underL_get (by simpa [V.under] using hu) h1))
  | eptr cs off b o c hO hc hr ih => exact fun hu => .eptr cs off b o c (fun i hi => cut_imm (hO i hi)) hc (fun i v hv => ih i v hv (underL_get (by simpa [V.under] using hu) hv))
  | ptr id off b o n h => exact fun hu => .ptr id off b o n (cut_loc h (by simpa [V.under] using hu))
  | aptr id ver i off b o s ext ver' b' o' h hv hcur => exact fun hu => .aptr id ver i off b o s ext ver' b' o' (cut_loc h (by simpa [V.under] using hu)) hv hcur
  | func f cs vs hs hr ih => exact fun hu => .func f cs vs hs (fun k v v' h1 h2 => ih k v v' h1 h2 (underL_get (by simpa [V.under] using hu) h1))
  | map id b h => exact fun hu => .map id b (cut_loc h (by simpa [V.under] using hu))
  | tuple cs vs hs hr ih => exact fun hu => .tuple cs vs hs (fun k v v' h1 h2 => ih k v v' h1 h2 (underL_get (by simpa [V.under] using hu) h1))

theorem ORel.cut {n0 id : Nat} {ob : HObj} {l : Loc} (h : ORel g w id ob l) (hi : id < n0) (hu : objUnder n0 ob = true) : ORel (g.cut n0) w id ob l := by
  cases h with
  | cells cs b o h hc =>
    refine .cells cs b o (fun k hk => ⟨cut_res_lt (h k hk).1 hi, (h k hk).2⟩) (fun k v hv => ?_)
    obtain ⟨v', e, r⟩ := hc k v hv
    exact ⟨v', e, r.cut (underL_get hu hv)⟩
  | arr es b o s ext ver hext hs h hc =>
    refine .arr es b o s ext ver hext hs (fun k hk => ⟨cut_res_lt (h k hk).1 hi, (h k hk).2⟩) (fun j e i v he hv => ?_)
    obtain ⟨v', e1, r⟩ := hc j e i v he hv
    exact ⟨v', e1, r.cut (underL_get (under_cells (underL_get hu he)) hv)⟩
  | tokNil s => exact .tokNil s
  | tok n b o s cap hcap h0 h => exact .tok n b o s cap hcap h0 (fun k h1 h2 => ⟨cut_res_lt (h k h1 h2).1 hi, (h k h1 h2).2⟩)
  | map es b clock es' ho hb hs hr =>
    refine .map es b clock es' (cut_res_lt ho hi) hb hs (fun k kv e h1 h2 => ?_)
    have := List.all_eq_true.1 hu kv (List.mem_of_getElem? h1)
    simp only [Bool.and_eq_true] at this
    exact ⟨(hr k kv e h1 h2).1.cut this.1, (hr k kv e h1 h2).2.cut this.2⟩

theorem mapM_get {α β : Type} {f : α → Option β} : ∀ {l : List α} {r : List β}, l.mapM f = some r → r.length = l.length ∧ (∀ (k : Nat) (b : β), r[k]? = some b → ∃ a, l[k]? = some a ∧ f a = some b) ∧ ∀ (k : Nat) (a : α), l[k]? = some a → ∃ b, r[k]? = some b ∧ f a = some b
  | [], r, h => by simp at h; subst h; simp
  | a :: l, r, h => by
    simp only [List.mapM_cons] at h
    cases h1 : f a with
    | none => simp [h1] at h
    | some b =>
      cases h2 : l.mapM f with
      | none => simp [h1, h2] at h
      | some r2 =>
        simp [h1, h2] at h; subst h
        obtain ⟨i1, i2, i3⟩ := mapM_get h2
        refine ⟨by simp [i1], fun k b2 hk => ?_, fun k a2 hk => ?_⟩
        · cases k with
          | zero => simp at hk; subst hk; exact ⟨a, rfl, h1⟩
          | succ k => simp at hk; simpa using i2 k b2 hk
        · cases k with
          | zero => simp at hk; subst hk; exact ⟨b, rfl, h1⟩
          | succ k => simp at hk; simpa using i3 k a2 hk

/-- Cells of what is read off are read off. -/
theorem frz_cells {n0 : Nat} {H : Heap} {d : Nat} {v u : V} (h : frz d n0 H v = some u) :
    u.cells.length = v.cells.length ∧ ∀ (i : Nat) (x : V), v.cells[i]? = some x → ∃ d' y, d' ≤ d ∧ u.cells[i]? = some y ∧ frz d' n0 H x = some y := by
  have one : (∀ cs, v ≠ .agg cs) → (∀ cs, u ≠ .agg cs) → u.cells.length = v.cells.length ∧ ∀ (i : Nat) (x : V), v.cells[i]? = some x → ∃ d' y, d' ≤ d ∧ u.cells[i]? = some y ∧ frz d' n0 H x = some y := by
    intro h1 h2
    have e1 : v.cells = [v] := by cases v <;> first | rfl | exact absurd rfl (h1 _)
    have e2 : u.cells = [u] := by cases u <;> first | rfl | exact absurd rfl (h2 _)
    rw [e1, e2]
    refine ⟨rfl, fun i x hx => ?_⟩
    cases i with
    | zero => simp at hx; subst hx; exact ⟨d, u, Nat.le_refl _, rfl, h⟩
    | succ i => simp at hx
  have nb : ∀ (cs : List V) (x : Option (List V)), (x.bind fun l => if V.pureL l = true then some (V.list l) else none) ≠ some (.agg cs) := by
    intro cs x hx
    cases x <;> simp at hx
  cases d with
  | zero => simp [frz] at h
  | succ d =>
    by_cases hp : v.pure = true
    · have : u = v := by unfold frz at h; rw [if_pos hp] at h; exact (Option.some.inj h).symm
      subst this
      refine ⟨rfl, fun i x hx => ⟨d + 1, x, Nat.le_refl _, hx, ?_⟩⟩
      have hx2 : x.pure = true := by
        cases u <;> simp only [V.cells] at hx <;> (try (cases i <;> simp at hx; subst hx; exact hp))
        exact pureL_get (by simpa [V.pure] using hp) hx
      unfold frz; rw [if_pos hx2]
    · unfold frz at h
      rw [if_neg hp] at h
      cases v <;> simp only at h <;> (try (cases h; done))
      case agg cs =>
        cases hm : cs.mapM (frz d n0 H) with
        | none => simp [hm] at h
        | some l =>
          simp [hm] at h; subst h
          obtain ⟨i1, i2, i3⟩ := mapM_get hm
          refine ⟨i1, fun i x hx => ?_⟩
          obtain ⟨y, e1, e2⟩ := i3 i x hx
          exact ⟨d, y, by omega, e1, e2⟩
      all_goals
        refine one (fun cs => by simp) (fun cs hc => ?_)
        subst hc
        first
          | (simp at h; done)
          | (split at h <;> (try (simp at h; done)) <;> split at h <;> (try (simp at h; done)) <;> split at h <;> (try (simp at h; done)) <;> exact nb cs _ h)
          | (split at h <;> (try (simp at h; done)) <;> split at h <;> simp at h)
          | (split at h <;> simp at h)

theorem frz_sound {n0 : Nat} (hS : Sim bs g H w) : ∀ (d : Nat) (v u : V) (v' : Value), frz d n0 H v = some u → VRel g w v v' → VRel (g.cut n0) w u v'
  | 0, v, u, v', h, _ => by simp [frz] at h
  | d + 1, v, u, v', h, r => by
    have ih : ∀ d' ≤ d, ∀ (v u : V) (v' : Value), frz d' n0 H v = some u → VRel g w v v' → VRel (g.cut n0) w u v' := fun d' hd' => frz_sound hS d'
    unfold frz at h
    by_cases hp : v.pure = true
    · rw [if_pos hp] at h; cases h; exact r.cut (pure_under _ _ hp)
    · rw [if_neg hp] at h
      cases r with
      | tl t es v' base s cap n hl ht hn hcur => cases h; exact hl.cut rfl
      | ref s id ver off len cap b o s' ext ver' b' o' hφ hv hlen hcur =>
        simp only at h
        split at h
        · rename_i hlt; cases h
          exact (VRel.ref s id ver off len cap b o s' ext ver' b' o' hφ hv hlen hcur).cut (by simpa [V.under] using hlt)
        · rename_i hge
          split at h
          case h_2 => cases h
          rename_i es v0 hH
          split at h
          case isFalse => cases h
          rename_i hc
          obtain ⟨rfl, hle⟩ := hc
          cases hm : ((es.drop off).take len).mapM (frz d n0 H) with
          | none => simp [hm] at h
          | some l =>
            simp only [hm, Option.bind_some] at h
            split at h
            case isFalse => cases h
            rename_i hpl
            cases h
            obtain ⟨rfl, hext, hs, hown, hcell⟩ := obj_arr hS hH hφ
            obtain ⟨rfl, hcur⟩ := hcur rfl
            obtain ⟨i1, i2, i3⟩ := mapM_get hm
            have hll : l.length = len := by rw [i1]; simp; omega
            rw [← hll]
            have hget : ∀ (j : Nat) (e : V), l[j]? = some e → ∃ e0, es[off + j]? = some e0 ∧ frz d n0 H e0 = some e := fun j e he => by
              obtain ⟨a, h1, h2⟩ := i2 j e he
              obtain ⟨hj, _⟩ := List.getElem?_eq_some_iff.1 he
              rw [List.getElem?_take, if_pos (by omega), List.getElem?_drop] at h1
              exact ⟨a, h1, h2⟩
            by_cases hl0 : len = 0
            · refine .list _ _ _ s' _ (fun _ _ => Go.undef) (by omega) hpl (fun j e he => ?_) (fun j i hj => by omega) (fun j i hj => by omega) (fun j e i v he => ?_)
              · obtain ⟨hj, _⟩ := List.getElem?_eq_some_iff.1 he; omega
              · obtain ⟨hj, _⟩ := List.getElem?_eq_some_iff.1 he; omega
            · obtain ⟨rfl, rfl, hcap⟩ := hcur (by omega)
              have bnd : ∀ j i, j < len → i < s' → (off + j) * s' + i < ext := fun j i hj hi => by
                have : (off + j + 1) * s' ≤ (off + cap) * s' := Nat.mul_le_mul_right s' (by omega)
                rw [Nat.add_mul (off + j)] at this; omega
              have pos : ∀ j i, o + off * s' + j * s' + i = o + ((off + j) * s' + i) := fun j i => by rw [Nat.add_mul]; omega
              refine .list _ _ _ s' _ (fun j i => (w.cell? ⟨b', o + off * s' + j * s' + i, none⟩).getD Go.undef) (by omega) hpl (fun j e he => ?_) (fun j i hj hi => ?_) (fun j i hj hi => ?_) (fun j e i v he hv => ?_)
              · obtain ⟨e0, h1, h2⟩ := hget j e he
                rw [(frz_cells h2).1]; exact hs _ _ h1
              · rw [pos]; exact cut_res (hown _ (bnd j i (by omega) hi)).1 (by omega)
              · obtain ⟨x, hx⟩ := (hown _ (bnd j i (by omega) hi)).2.2
                rw [pos, hx]; rfl
              · obtain ⟨e0, h1, h2⟩ := hget j e he
                obtain ⟨f1, f2⟩ := frz_cells h2
                obtain ⟨hi, _⟩ := List.getElem?_eq_some_iff.1 hv
                obtain ⟨d', y, hd', h3, h4⟩ := f2 i (e0.cells[i]'(by omega)) (by simp)
                rw [hv] at h3; cases h3
                obtain ⟨x, hx, r⟩ := hcell (off + j) e0 i (e0.cells[i]'(by omega)) h1 (by simp)
                rw [pos, ← Nat.add_assoc, hx]
                exact ih d' hd' _ _ _ h4 r
      | agg cs vs hs hr =>
        simp only at h
        cases hm : cs.mapM (frz d n0 H) with
        | none => simp [hm] at h
        | some l =>
          simp [hm] at h; subst h
          obtain ⟨i1, i2, i3⟩ := mapM_get hm
          refine .agg _ _ (by omega) (fun k x x' hx hx' => ?_)
          obtain ⟨y, h1, h2⟩ := i2 k x hx
          exact ih d (Nat.le_refl _) _ _ _ h2 (hr k y x' h1 hx')
      | func f cs vs hs hr =>
        simp only at h
        cases hm : cs.mapM (frz d n0 H) with
        | none => simp [hm] at h
        | some l =>
          simp [hm] at h; subst h
          obtain ⟨i1, i2, i3⟩ := mapM_get hm
          refine .func _ _ _ (by omega) (fun k x x' hx hx' => ?_)
          obtain ⟨y, h1, h2⟩ := i2 k x hx
          exact ih d (Nat.le_refl _) _ _ _ h2 (hr k y x' h1 hx')
      | eptr cs off b o c hO hc hr =>
        simp only at h
        cases hm : cs.mapM (frz d n0 H) with
        | none => simp [hm] at h
        | some l =>
          simp [hm] at h; subst h
          obtain ⟨i1, i2, i3⟩ := mapM_get hm
          refine .eptr _ _ _ _ c (fun i hi => cut_imm (hO i (by omega))) (fun i hi => hc i (by omega)) (fun k x hx => ?_)
          obtain ⟨y, h1, h2⟩ := i2 k x hx
          exact ih d (Nat.le_refl _) _ _ _ h2 (hr k y h1)
      | ptr id off b o n hφ =>
        simp only at h
        split at h
        · rename_i hlt; cases h
          exact (VRel.ptr id off b o n hφ).cut (by simpa [V.under] using hlt)
        · split at h
          case h_2 => cases h
          rename_i cs hH
          cases hm : cs.mapM (frz d n0 H) with
          | none => simp [hm] at h
          | some l =>
            simp [hm] at h; subst h
            obtain ⟨rfl, hown, hcell⟩ := obj_cells hS hH hφ
            obtain ⟨i1, i2, i3⟩ := mapM_get hm
            refine .eptr _ _ _ _ (fun i => (w.cell? ⟨b, o + i, none⟩).getD Go.undef) (fun i hi => cut_res (hown i (by omega)).1 (by omega)) (fun i hi => ?_) (fun k x hx => ?_)
            · obtain ⟨x, hx, _⟩ := hcell i (cs[i]'(by omega)) (by simp)
              rw [hx]; rfl
            · obtain ⟨y, h1, h2⟩ := i2 k x hx
              obtain ⟨x', hx', r⟩ := hcell k y h1
              rw [hx']
              exact ih d (Nat.le_refl _) _ _ _ h2 r
      | aptr id ver i off b o s ext ver' b' o' hφ hv hcur =>
        simp only at h
        split at h
        · rename_i hlt; cases h
          exact (VRel.aptr id ver i off b o s ext ver' b' o' hφ hv hcur).cut (by simpa [V.under] using hlt)
        · cases h
      | map id b hφ =>
        simp only at h
        split at h
        · rename_i hlt; cases h
          exact (VRel.map id b hφ).cut (by simpa [V.under] using hlt)
        · cases h
      | undef => cases h
      | skip => cases h
      | tuple => cases h
      | _ => first | (simp at h; done) | exact absurd (by simp [V.pure]) hp
end
end Go.E
/- Soundness of E: calls. Own work. -/
namespace Go.E
section
variable {P : Program} {g : G} {w : World} {bs : List Nat} {H : Heap}

/-- Into a call that cuts back. -/
theorem Sim.enter (hS : Sim bs g H w) : Sim (H.length :: bs) g H w where
  bl := Nat.le_refl _
  srt b hb := by
    rcases List.mem_cons.1 hb with rfl | hb
    · exact Nat.le_refl _
    · exact Nat.le_trans (hS.srt b hb) hS.bl
  dom := hS.dom
  old := hS.old
  obj := hS.obj
  und id ob h1 h2 b hb := by
    rcases List.mem_cons.1 hb with rfl | hb
    · cases hl : g.φ id with
      | none => exact absurd hl h2
      | some l => exact .inr ((hS.obj id ob l h1 hl).under hS.dom)
    · exact hS.und id ob h1 h2 b hb

/-- Out of it. -/
theorem Out.leave {g1 : G} {w1 : World} {H1 : Heap} (hS : Sim bs g H w) (o : Out (H.length :: bs) g w H g1 w1 H1) : Out bs g w H (g1.cut H.length) w1 (H1.take H.length) where
  sim := {
    bl := by have := hS.bl; have := o.len; simp only [List.length_take]; omega
    srt := hS.srt
    dom := fun id hid => by
      simp only [G.cut] at hid
      split at hid
      · have := o.len; simp only [List.length_take]; omega
      · exact absurd rfl hid
    old := fun b k hk => by
      simp only [G.cut] at hk
      cases hO : g1.O b k with
      | none => simp [hO] at hk
      | imm => exact o.sim.old b k (by simp [hO])
      | res id => exact o.sim.old b k (by simp [hO])
    obj := fun id ob l h1 h2 => by
      simp only [G.cut] at h2
      split at h2
      · rename_i hlt
        rw [List.getElem?_take, if_pos hlt] at h1
        refine (o.sim.obj id ob l h1 h2).cut hlt ?_
        rcases o.sim.und id ob h1 (by rw [h2]; simp) H.length (by simp) with h3 | h3
        · omega
        · exact h3
      · cases h2
    und := fun id ob h1 h2 b hb => by
      simp only [G.cut] at h2
      split at h2
      · rename_i hlt
        rw [List.getElem?_take, if_pos hlt] at h1
        exact o.sim.und id ob h1 h2 b (by simp [hb])
      · exact absurd rfl h2 }
  ext := {
    size := o.ext.size
    imm := fun b k h => ⟨cut_imm (o.ext.imm b k h).1, (o.ext.imm b k h).2⟩
    loc := fun id l h => by
      obtain ⟨l', h1, h2⟩ := o.ext.loc id l h
      exact ⟨l', cut_loc h1 (hS.dom id (by rw [h]; simp)), h2⟩
    free := fun b hb hf => by
      obtain ⟨h1, h2⟩ := o.ext.free b hb hf
      refine ⟨h1, fun k => ?_⟩
      simp only [G.cut]
      rw [h2 k]
      cases hO : g.O b k with
      | none => rfl
      | imm => rfl
      | res id => exact absurd hO (hf k id)
    os := o.ext.os
    tape := o.ext.tape
    output := o.ext.output }
  len := by have := o.len; simp only [List.length_take]; omega
  dom id := by
    have h1 := o.dom id
    have h2 := o.len
    simp only [G.cut, List.length_take]
    by_cases hlt : id < H.length
    · rw [if_pos hlt, h1]
      constructor
      · rintro (h | h)
        · exact .inl h
        · omega
      · rintro (h | h)
        · exact .inl h
        · omega
    · rw [if_neg hlt]
      constructor
      · intro h; exact absurd rfl h
      · rintro (h | h)
        · exact absurd (hS.dom id h) hlt
        · omega

theorem load_run (hS : Sim bs g H w) {t : TypeId} {p v : V} {p' : Value} (hl : loadV P t p H = some v) (hp : VRel g w p p') :
    ∃ v', ((do loadVar t (← asAddr p')) : Sem Value).run P w = .ok v' w ∧ VRel g w v v' := by
  obtain ⟨v', h1, h2⟩ := load_sound hS hl hp
  refine ⟨v', ?_, h2⟩
  cases hp with
  | eptr => simpa [Instr.loadAt, Instr.sureAddr, asAddr] using h1
  | ptr => simpa [Instr.loadAt, Instr.sureAddr, asAddr] using h1
  | aptr => simpa [Instr.loadAt, Instr.sureAddr, asAddr] using h1
  | _ => simp [loadV] at hl

theorem results_list (hS : Sim bs g H w) {ρ : Env} {ts : Array Value} {n : Nat} (hE : ERel g w ρ ts n) : ∀ (l : List ResultVar) (vs : List V),
    (l.mapM fun (r : ResultVar) => match r with | .tmp t => some (ρ t) | .cell a t => loadV P t (ρ a) H) = some vs →
    ∃ vs', (l.mapM fun (r : ResultVar) => match r with | .tmp t => (pure (ts.getD t Go.undef) : Sem Value) | .cell a t => do loadVar t (← asAddr (ts.getD a Go.undef))).run P w = .ok vs' w ∧ ArgsR g w vs vs'
  | [], vs, h => by simp at h; subst h; exact ⟨[], by simp, by simp [ArgsR]⟩
  | r :: l, vs, h => by
    simp only [List.mapM_cons] at h
    have key : ∀ (x : Option V) (s : Sem Value), (∀ v, x = some v → ∃ v', s.run P w = .ok v' w ∧ VRel g w v v') →
        (x.bind fun y => (l.mapM fun (r : ResultVar) => match r with | .tmp t => some (ρ t) | .cell a t => loadV P t (ρ a) H).bind fun ys => some (y :: ys)) = some vs →
        ∃ vs', (do let y ← s; let ys ← (l.mapM fun (r : ResultVar) => match r with | .tmp t => (pure (ts.getD t Go.undef) : Sem Value) | .cell a t => do loadVar t (← asAddr (ts.getD a Go.undef))); pure (y :: ys) : Sem (List Value)).run P w = .ok vs' w ∧ ArgsR g w vs vs' := by
      intro x s hx h
      cases x with
      | none => simp at h
      | some v =>
        simp only [Option.bind_some] at h
        cases hm : (l.mapM fun (r : ResultVar) => match r with | .tmp t => some (ρ t) | .cell a t => loadV P t (ρ a) H) with
        | none => rw [hm] at h; simp at h
        | some vs1 =>
          rw [hm] at h; simp at h; subst h
          obtain ⟨v', r1, r2⟩ := hx v rfl
          obtain ⟨vs', q1, q2⟩ := results_list hS hE l vs1 hm
          refine ⟨v' :: vs', by simp only [Sem.run_bind, r1, Result.andThen_ok, q1, Sem.run_pure], by simp [q2.1], fun j x x' h1 h2 => ?_⟩
          cases j with
          | zero => simp at h1 h2; subst h1; subst h2; exact r2
          | succ j => simp at h1 h2; exact q2.2 j x x' h1 h2
    rw [List.mapM_cons]
    cases r with
    | tmp t => exact key (some (ρ t)) _ (fun v hv => by cases hv; exact ⟨_, by simp, hE.rel t⟩) h
    | cell a t => exact key (loadV P t (ρ a) H) _ (fun v hv => load_run hS hv (hE.rel a)) h

/-- Values in a row as they are handed back. -/
def packed (vs : List Value) : Value := if h : vs.toArray.size = 1 then vs.toArray[0] else .tuple vs.toArray

theorem pack_rel {vs : List V} {vs' : List Value} (h : ArgsR g w vs vs') : VRel g w (packV vs) (packed vs') := by
  obtain ⟨h1, h2⟩ := h
  unfold packed
  cases vs with
  | nil => exact .undef _
  | cons v r =>
    cases r with
    | nil =>
      have : vs'.toArray.size = 1 := by simpa using h1
      rw [dif_pos this]
      exact h2 0 v _ rfl (by simp)
    | cons v2 r =>
      have : ¬ vs'.toArray.size = 1 := by simp [h1]
      rw [dif_neg this]
      exact .tuple _ _ (by simp [h1]) (fun k x x' hx hx' => h2 k x x' hx (by simpa using hx'))

theorem results_run (hS : Sim bs g H w) {fn : Func} {ρ : Env} {ts : Array Value} {n : Nat} (hE : ERel g w ρ ts n) {vs : List V} (h : resultsV P fn ρ H = some vs) :
    ∃ vs', (results fn ts).run P w = .ok (packed vs') w ∧ ArgsR g w vs vs' := by
  obtain ⟨vs', h1, h2⟩ := results_list hS hE fn.results.toList vs h
  refine ⟨vs', ?_, h2⟩
  unfold results
  rw [Array.mapM_eq_mapM_toList]
  simp only [Sem.run_bind, map_eq_pure_bind, Sem.run_pure]
  erw [h1]
  rfl

theorem init_rel {args : List V} {args' : List Value} (h : ArgsR g w args args') (k : Nat) :
    ERel g w (fun i => args.getD i .undef) (args'.toArray ++ Array.replicate k Go.undef) (args.length + k) := by
  obtain ⟨h1, h2⟩ := h
  refine ⟨by simp [h1], fun i => ?_⟩
  by_cases hi : i < args.length
  · have e1 : args.getD i .undef = args[i] := by simp [List.getD, hi]
    simp only [e1]
    have e2 : (args'.toArray ++ Array.replicate k Go.undef).getD i Go.undef = args'[i]'(by omega) := by
      rw [Array.getD_eq_getD_getElem?, Array.getElem?_append_left (by simp; omega)]
      simp [show i < args'.length by omega]
    rw [e2]
    exact h2 i _ _ (by simp [hi]) (by simp)
  · have e1 : args.getD i .undef = .undef := by simp [List.getD, hi]
    simp only [e1]
    exact .undef _

theorem args_norm {args : List V} {args' : List Value} (h : ArgsR g w args args') : ArgsR g w (args.map V.norm) args' := by
  refine ⟨by simp [h.1], fun j x x' hx hx' => ?_⟩
  rw [List.getElem?_map] at hx
  cases hj : args[j]? with
  | none => simp [hj] at hx
  | some y => simp [hj] at hx; subst hx; exact norm_rel (h.2 j y x' hj hx')

theorem frz_list {n0 : Nat} (hS : Sim bs g H w) {d : Nat} {vs us : List V} {vs' : List Value} (h : vs.mapM (frz d n0 H) = some us) (hr : ArgsR g w vs vs') : ArgsR (g.cut n0) w us vs' := by
  obtain ⟨i1, i2, _⟩ := mapM_get h
  refine ⟨by rw [i1]; exact hr.1, fun j x x' hx hx' => ?_⟩
  obtain ⟨y, h1, h2⟩ := i2 j x hx
  exact frz_sound hS d y x x' h2 (hr.2 j y x' h1 hx')

/-- Out of a body: the marks, then the results. -/
theorem leave_ok {P : Program} {bs : List Nat} {g g1 : G} {w w1 : World} {H H1 : Heap} {fn : Func} {ρ : Env} {n : Nat} {a : Act} {R : Ending → World → Prop} (o1 : Out bs g w H g1 w1 H1) (e1 : ERel g1 w1 ρ a.tmps n) (d1 : Mk w.heap.size g1 w1 [] a.defers)
    (h : ∀ w2, Out bs g w H g1 w2 H1 → ERel g1 w2 ρ a.tmps n → ∃ v, (results fn a.tmps).run P w2 = .ok v w2 ∧ R (.returned v) w2) : LeavesInM (FR none) 0 P fn a.tmps R a.defers .returning w1 := by
  obtain ⟨ms, h1, h2, h3⟩ := d1
  rw [h1, List.append_nil]
  refine leaves_marks (K := fun w2 => Out bs g w H g1 w2 H1 ∧ ERel g1 w2 ρ a.tmps n) (fun w2 hk => h w2 hk.1 hk.2) ms w1 (fun w2 D hD hk => ?_) h2 (fun D hD => (h3 D hD).2.1) ⟨o1, e1⟩
  have hO := (h3 D hD).2.2
  exact ⟨hk.1.putFree (h3 D hD).1 hO, hk.2.bear (bears_put hO)⟩

/-- What is known of a function holds. -/
def KnownOk (cx : Cx) : Prop :=
  ∀ f fn args v, cx.P.funcs[f]? = some fn → cx.keep f = true → cx.known f args = some v → ∀ bs g w H args', Sim bs g H w → ArgsR g w args args' →
    Calls cx.P f args'.toArray w fun e w' => ∃ v' g', e = .returned v' ∧ Out bs g w H g' w' H ∧ VRel g' w' v v'

theorem body_ok {cx : Cx} (hD : DrawOk cx) (hI : IterOk cx) (hK : KnownOk cx) (hN : ∀ (f : Nat) (fn : Func), cx.P.funcs[f]? = some fn → fn.name ≠ "runtime.NumGoroutine") (k : Nat) {call : CallSem} (hC : CallOk cx.P call) :
    CallOk cx.P (evBody cx (loopn k) call) := by
  intro bs f args H v H' h
  unfold evBody at h
  cases hf : cx.P.funcs[f]? with
  | none => simp [hf] at h
  | some fn =>
    cases hb : fn.body with
    | none => simp [hf, hb] at h
    | some c =>
      simp only [hf, hb] at h
      refine ⟨⟨fn, rfl, by rw [hb]; rfl, hN f fn hf⟩, fun g w args' hS hA => ?_⟩
      by_cases hk : cx.keep f = true
      · rw [if_pos hk] at h
        cases hv : cx.known f (args.map V.norm) with
        | none => rw [hv] at h; cases h
        | some v1 =>
          rw [hv] at h
          simp only [Option.map_some, Option.some.injEq, Prod.mk.injEq] at h
          obtain ⟨rfl, rfl⟩ := h
          exact hK f fn _ _ hf hk hv _ _ _ _ _ hS (args_norm hA)
      · have hsz : args'.toArray.size = args.length := by simp [hA.1]
        refine callsIn_FR (r := none) (n := 0).1 (callsIn_of_wp_marks hf hb trivial ?_)
        rw [hsz]
        rw [if_neg hk] at h
        cases hc : evCode cx ⟨args.length + (fn.ntmps - args.length), H.length :: bs⟩ (loopn k) call c (fun i => (args.map V.norm).getD i .undef) H with
        | none => rw [hc] at h; simp at h
        | some r =>
          obtain ⟨ex, ρ', H1⟩ := r
          rw [hc] at h
          simp only [Option.bind_some] at h
          have hI' := init_rel (args_norm hA) (fn.ntmps - args.length)
          rw [List.length_map] at hI'
          refine evCode_wp hC hD hI k c none _ g w H H1 _ ρ' { tmps := args'.toArray ++ Array.replicate (fn.ntmps - args.length) Go.undef, defers := [] } ex hc hS.enter (fun _ h => by cases h) hI' (fun a1 w1 g1 o1 e1 d1 => ?_)
          have fin : ∀ vs us, resultsV cx.P fn ρ' H1 = some vs → vs.mapM (frz 6 H.length H1) = some us → (packV us, H1.take H.length) = (v, H') →
              LeavesInM (FR none) 0 cx.P fn a1.tmps (fun e w' => ∃ v' g', e = .returned v' ∧ Out bs g w H g' w' H' ∧ VRel g' w' v v') a1.defers .returning w1 := by
            intro vs us hvs hus he
            cases he
            refine leave_ok o1 e1 d1 (fun w2 o2 e2 => ?_)
            obtain ⟨vs', r1, r2⟩ := results_run o2.sim e2 hvs
            exact ⟨_, r1, _, _, rfl, o2.leave hS, pack_rel (frz_list o2.sim hus r2)⟩
          cases ex with
          | exit id => simp at h
          | normal =>
            simp only at h
            cases hv : resultsV cx.P fn ρ' H1 with
            | none => simp [hv] at h
            | some vs =>
              cases hu : vs.mapM (frz 6 H.length H1) with
              | none => simp [hv, hu] at h
              | some us => simp only [hv, hu, Option.bind_some, Option.map_some, Option.some.injEq] at h; exact fin vs us hv hu h
          | ret =>
            simp only at h
            cases hv : resultsV cx.P fn ρ' H1 with
            | none => simp [hv] at h
            | some vs =>
              cases hu : vs.mapM (frz 6 H.length H1) with
              | none => simp [hv, hu] at h
              | some us => simp only [hv, hu, Option.bind_some, Option.map_some, Option.some.injEq] at h; exact fin vs us hv hu h

theorem callk_ok {cx : Cx} (hD : DrawOk cx) (hI : IterOk cx) (hK : KnownOk cx) (hN : ∀ (f : Nat) (fn : Func), cx.P.funcs[f]? = some fn → fn.name ≠ "runtime.NumGoroutine") : ∀ k, CallOk cx.P (callk cx k)
  | 0 => fun _ _ _ _ _ _ h => by simp [callk] at h
  | k + 1 => body_ok hD hI hK hN k (callk_ok hD hI hK hN k)
end
end Go.E
