/- What the closure of 'slices.Backward' does in the model. Own work; its frame after the kit's worked iterators over a slice. -/
import Derived.Test.YtbnakdpmjlcneaaGreatP5
import Derived.Test.YtbnakdpmjlcneaaGreatP3
import Derived.RangeFuncNested
import Derived.RangeFuncCalls
import Derived.RangeFuncLeaves
import Derived.Shelf.Abstract
import Derived.WalkKit
import Derived.OwnWalkIn
import Derived.TacticsInMore
import Derived.LoopNIn
import Derived.LoopIn
import Derived.Lib.Walk
import Derived.Lib.AppendZeros
import Derived.Lib.SliceRun
import Derived.Shelf.Spec.SlicesGrow
import Derived.Test.YtbnakdpmjlcneaaGreatRows
import Derived.Test.YtbnakdpmjlcneaaGreatP15
import Derived.ProofKit
import Derived.OpenShut
import Derived.ShutString
import Derived.ChangeOld
import Derived.Below
import Derived.SizedLaws
set_option linter.all false
namespace Go.E
open Go.Proofs Go.RowKit Go.Shelf
set_option maxRecDepth 100000
attribute [local go_sem] Oper.semAt_some
set_option maxHeartbeats 2000000 in
theorem back_code (n Bs os b o cap : Nat) (c : Nat → Nat → Value) (hn : n ≤ 1000000) (L : Nat) (J : Nat → World → Prop) (Jx : World → Prop)
    (hs : ∀ k W, J k W → W.cell? ⟨Bs, os, none⟩ = some (.slice (some ⟨b, o, none⟩) n cap))
    (hc : ∀ k W, J k W → ∀ j, j < n → ∀ i, i < 4 → W.cell? ⟨b, o + j * 4 + i, none⟩ = some (c j i))
    (hY : ∀ k m W, m + k + 1 = n → J k W → YieldAt Fence.wide 0 Tryz.prog L #[.int .i64 (m : Int), .agg #[c m 0, c m 1, c m 2, c m 3]] W fun e W' =>
      (e = .returned (.bool true) ∧ J (k + 1) W') ∨ (e = .returned (.bool false) ∧ Jx W'))
    (W : World) (h0 : J 0 W) :
    CallsIn Fence.wide 1 Tryz.prog 208 #[.func (.yield L) #[] #[], .pointer (some ⟨Bs, os, none⟩)] W fun e W' => (∃ v, e = .returned v) ∧ (J n W' ∨ Jx W') := by
  refine callsIn_of_wp Tryz.func208 rfl trivial ?_ rfl
  simp only [Tryz.ntmps208, List.size_toArray, List.length_cons, List.length_nil, Nat.reduceAdd, Nat.reduceSub, Array.replicate_succ, Array.replicate_zero, List.push_toArray, List.append_toArray, List.nil_append, List.cons_append]
  have hs0 := hs 0 W h0
  gi_wp2
  gi_loopw [3] (fun i wr => ∃ k : Nat, J k wr ∧ ((∃ m : Nat, m + k + 1 = n ∧ i = .int .i64 (m : Int)) ∨ (k = n ∧ i = .int .i64 (-1)))) (fun i _ => (Go.RowKit.intOf i + 1).toNat)
  case atStart =>
    refine ⟨0, h0, ?_⟩
    by_cases h : n = 0
    · subst h; exact .inr ⟨rfl, rfl⟩
    · exact .inl ⟨n - 1, by omega, by congr 1; omega⟩
  case round =>
    obtain ⟨k, hJ, hi⟩ := hrel
    have hs1 := hs k _ hJ
    rcases hi with ⟨m, hm, rfl⟩ | ⟨rfl, rfl⟩
    · obtain ⟨fn, tmps, assign, body, hy, hR⟩ := hY k m wr hm hJ
      have c0 := hc k _ hJ m (by omega) 0 (by omega)
      have c1 := hc k _ hJ m (by omega) 1 (by omega)
      have c2 := hc k _ hJ m (by omega) 2 (by omega)
      have c3 := hc k _ hJ m (by omega) 3 (by omega)
      rw [Nat.add_zero] at c0
      have hmn : m < n := by omega
      gi_wp2
      refine hR.mono ?_
      rintro e W3 (⟨rfl, hJ3⟩ | ⟨rfl, hJx3⟩)
      · gi_wp2
        go_roundw
        case rel =>
          refine ⟨k + 1, hJ3, ?_⟩
          by_cases h : m = 0
          · subst h; exact .inr ⟨by omega, rfl⟩
          · exact .inl ⟨m - 1, by omega, by congr 1; omega⟩
        case measure => simp [Go.RowKit.intOf]
      · gi_wp2
        refine bodyPost_ret (results_none rfl _ _ _) rfl ?_
        exact ⟨⟨_, rfl⟩, .inr hJx3⟩
    · gi_wp2
      go_end0
      exact ⟨⟨_, rfl⟩, .inl hJ⟩
set_option maxHeartbeats 2000000 in
theorem back_code0 (Bs os cap : Nat) (a : Option Addr) (L : Nat) (J : Nat → World → Prop) (hs : ∀ k W, J k W → W.cell? ⟨Bs, os, none⟩ = some (.slice a 0 cap)) (W : World) (h0 : J 0 W) :
    CallsIn Fence.wide 1 Tryz.prog 208 #[.func (.yield L) #[] #[], .pointer (some ⟨Bs, os, none⟩)] W fun e W' => (∃ v, e = .returned v) ∧ J 0 W' := by
  refine callsIn_of_wp Tryz.func208 rfl trivial ?_ rfl
  simp only [Tryz.ntmps208, List.size_toArray, List.length_cons, List.length_nil, Nat.reduceAdd, Nat.reduceSub, Array.replicate_succ, Array.replicate_zero, List.push_toArray, List.append_toArray, List.nil_append, List.cons_append]
  have hs0 := hs 0 W h0
  gi_wp2
  gi_loopw [3] (fun i wr => J 0 wr ∧ i = .int .i64 (-1)) (fun _ _ => 0)
  case atStart => exact ⟨h0, rfl⟩
  case round =>
    obtain ⟨hJ, rfl⟩ := hrel
    gi_wp2
    go_end0
    exact ⟨⟨_, rfl⟩, hJ⟩
theorem iter_X : IterOk X := by
  intro gf caps l hit
  have hit' : iterB [(208, 4)] gf caps = some l := hit
  clear hit
  unfold iterB at hit'
  split at hit'
  case h_2 => cases hit'
  rename_i es
  split at hit'
  case h_2 => cases hit'
  rename_i sz hlk
  obtain ⟨rfl, rfl⟩ : gf = 208 ∧ sz = 4 := by
    simp only [List.lookup] at hlk
    split at hlk
    · rename_i h; exact ⟨of_decide_eq_true h, (Option.some.inj hlk).symm⟩
    · cases hlk
  split at hit'
  case isFalse => cases hit'
  rename_i hcond
  obtain ⟨hlen, hall⟩ := hcond
  cases hit'
  refine ⟨⟨Tryz.f208, Tryz.func208, rfl, by decide +kernel⟩, ?_⟩
  intro g w w1 caps' hA L J Jx hJ _ _ hY h0
  obtain ⟨p', rfl⟩ : ∃ x', caps' = [x'] := by
    have := hA.1
    cases caps' with
    | nil => simp at this
    | cons x r => cases r with
      | nil => exact ⟨x, rfl⟩
      | cons y r => simp at this
  have hp : VRel g w (.eptr [.list es] 0) p' := hA.2 0 _ _ rfl rfl
  have hel : ∀ (j : Nat) (e : V), es[j]? = some e → ∃ x0 x1 x2 x3, e = .agg [x0, x1, x2, x3] := fun j e he => by
    have := List.all_eq_true.1 hall e (List.mem_of_getElem? he)
    cases e with
    | agg cs =>
      simp [backOk] at this
      match cs, this with
      | [x0, x1, x2, x3], _ => exact ⟨x0, x1, x2, x3, rfl⟩
    | _ => simp [backOk] at this
  have hbl : (backL es).length = es.length := by simp [backL]
  rw [hbl]
  have imm : ∀ k W, J k W → ∀ B o, g.O B o = .imm → W.cell? ⟨B, o, none⟩ = w.cell? ⟨B, o, none⟩ := fun k W hk B o hB => by
    obtain ⟨g', hx⟩ := hJ k W hk
    exact (hx.imm B o hB).2
  cases hp with
  | eptr _ _ B O c hO hc hr =>
    have c0 := hc 0 (by simp)
    have o0 := hO 0 (by simp)
    have r0 := hr 0 (.list es) rfl
    rw [Nat.add_zero] at c0 o0
    have hB : ∀ k W, J k W → W.cell? ⟨B, O, none⟩ = some (c 0) := fun k W hk => (imm k W hk _ _ o0).trans c0
    refine (callsIn_wide (n := 1)).1 ?_
    show CallsIn Fence.wide 1 Tryz.prog 208 #[.func (.yield L) #[] #[], .pointer (some ⟨B, O + 0, none⟩)] w1 _
    rw [Nat.add_zero]
    generalize c 0 = sv at hB r0
    have nil : ∀ a, es = [] → sv = .slice a 0 0 → CallsIn Fence.wide 1 Tryz.prog 208 #[.func (.yield L) #[] #[], .pointer (some ⟨B, O, none⟩)] w1 fun e W' => (∃ v, e = .returned v) ∧ (J es.length W' ∨ Jx W') := fun a he hsv => by
      subst he; subst hsv
      exact (back_code0 B O 0 a L J hB w1 h0).mono fun e W' ⟨h1, h2⟩ => ⟨h1, .inl h2⟩
    cases r0 with
    | listNil => exact nil none rfl rfl
    | listZ a => exact nil (some a) rfl rfl
    | list b o cap s _ c' hcap hpure hs hO' hc' hr' =>
      have hs4 : 0 < es.length → s = 4 := fun h => by
        obtain ⟨x0, x1, x2, x3, he⟩ := hel 0 es[0] (by simp [h])
        have := hs 0 es[0] (by simp [h])
        rw [he] at this
        simpa [V.cells] using this.symm
      refine back_code es.length B O b o cap c' hlen L J Jx hB (fun k W hk j hj i hi => ?_) (fun k m W hm hk => ?_) w1 h0
      · have h4 := hs4 (by omega)
        subst h4
        rw [imm k W hk _ _ (hO' j i hj hi)]
        exact hc' j i hj hi
      · have h4 := hs4 (by omega)
        subst h4
        have hmn : m < es.length := by omega
        obtain ⟨x0, x1, x2, x3, he⟩ := hel m es[m] (by simp [hmn])
        refine hY k [.int .i64 (m : Int), es[m]] W [.int .i64 (m : Int), .agg #[c' m 0, c' m 1, c' m 2, c' m 3]] ?_ hk (fun g' hx => ⟨rfl, fun j x x' h1 h2 => ?_⟩)
        · simp only [backL, List.getElem?_map]
          rw [List.getElem?_reverse (by simp; omega)]
          simp only [List.length_range]
          rw [List.getElem?_range (by omega)]
          have : es.length - 1 - k = m := by omega
          simp [this, hmn]
        · match j with
          | 0 => cases h1; cases h2; exact .int _ _
          | 1 =>
            simp at h1 h2; subst h1; subst h2
            have hm' : es[m]? = some es[m] := by simp [hmn]
            have q := hr' m es[m]
            rw [he] at q hm' ⊢
            refine (VRel.agg _ _ rfl fun i v v' h3 h4 => ?_).bear hx
            match i with
            | 0 => simp at h3 h4; subst h3; subst h4; exact q 0 _ hm' rfl
            | 1 => simp at h3 h4; subst h3; subst h4; exact q 1 _ hm' rfl
            | 2 => simp at h3 h4; subst h3; subst h4; exact q 2 _ hm' rfl
            | 3 => simp at h3 h4; subst h3; subst h4; exact q 3 _ hm' rfl
            | i + 4 => simp at h3
          | j + 2 => simp at h1
end Go.E
/- What 'CopyInts' does in the model, where its answer is a new block. Own work. -/
namespace Go.E
open Go.Proofs Go.RowKit
set_option maxRecDepth 100000
set_option maxHeartbeats 2000000 in
theorem copy_code (a : Option Addr) (n cap : Nat) (w : World) (R : Value → World → Prop)
    (hrun : ∃ v' w', (Builtin.append_ #[34, 34] 34 #[.slice (some ⟨w.heap.size, 0, none⟩) 0 0, .slice a n cap]).run Tryz.prog (w.alloc (Obj.cells #[] 3)) = .ok v' w' ∧ R v' w') :
    Calls Tryz.prog 20 #[.slice a n cap] w fun e w' => ∃ v, e = .returned v ∧ R v w' := by
  obtain ⟨v', w', hrun, hR⟩ := hrun
  go_enter Tryz.func20, Tryz.ntmps20
  go_wp2_with (at_builtin; refine Lib.wpList_append_run _ rfl _ _ _ _ rfl _ _ rfl rfl _ _ hrun ?_)
  go_ret
  exact ⟨_, rfl, hR⟩
theorem takeInts : ∀ (a : List Int), takeElems 1 (a.map (.int .i64)) = some (a.map (.int .i64))
  | [] => rfl
  | x :: r => by
    have h := takeInts r
    unfold takeElems at h ⊢
    rw [List.map_cons, List.mapM_cons, h]
    rfl
theorem fresh_spec {copies : List Nat} {f : Nat} {args : List V} {s : Nat} {es : List V} (h : freshI copies f args = some (s, es)) :
    copies.contains f = true ∧ s = 1 ∧ args = [.list es] ∧ ∃ a : List Int, es = a.map (.int .i64) ∧ 0 < a.length ∧ a.length ≤ 1000000 := by
  unfold freshI at h
  split at h
  case h_2 => cases h
  rename_i l
  split at h
  case isFalse => cases h
  rename_i hf
  obtain ⟨a, h1, h2⟩ := Option.bind_eq_some_iff.1 h
  split at h2
  case isFalse => cases h2
  rename_i hl
  cases h2
  exact ⟨hf, rfl, rfl, a, intsOf_some h1, hl⟩
theorem fresh_X (hN : ∀ (f : Nat) (fn : Func), Tryz.prog.funcs[f]? = some fn → fn.name ≠ "runtime.NumGoroutine") : FreshOk X := by
  intro f args s es h bs H
  obtain ⟨hf, rfl, hargs, a, rfl, h0, h6⟩ := fresh_spec h
  obtain rfl : f = 20 := by
    rcases List.mem_cons.1 (List.contains_iff_mem.1 hf) with h | h
    · exact h
    · cases h
  refine ⟨⟨Tryz.f20, Tryz.func20, rfl, hN _ _ Tryz.func20⟩, fun g w args' hS hA => ?_⟩
  have hA2 := args_norm hA
  rw [hargs] at hA2
  obtain ⟨x', rfl⟩ : ∃ x', args' = [x'] := by
    have := hA2.1
    cases args' with
    | nil => simp at this
    | cons x r => cases r with
      | nil => exact ⟨x, rfl⟩
      | cons y r => simp at this
  have hx : VRel g w (.list (a.map (.int .i64))) x' := hA2.2 0 _ _ rfl rfl
  obtain ⟨ad, cp, rfl, _⟩ := list_cap hx
  have o1 := out_imm hS (Obj.cells #[] 3)
  obtain ⟨v', w', g', r1, r2, r3⟩ := fresh_grow (P := Tryz.prog) (ty := 34) (t := 34) (u := 34) (e := 3) (e2 := 3) (sz := 1) (by_ := 8) (z := .int .i64 0) (es := a.map (.int .i64)) (new := a.map (.int .i64)) o1.sim
    Tryz.underlying34 Tryz.underlying34 (by kernel_rfl) (by kernel_rfl) (by kernel_rfl) rfl rfl (by omega) rfl (.listZ _) (hx.mono o1.ext) (takeInts a) (by unfold roomB; simp; omega) (by simpa using h0)
  exact (copy_code ad _ cp w (fun v w' => ∃ g', Out bs _ _ H g' w' (H ++ [.arr (a.map (.int .i64)) 0]) ∧ VRel g' w' (.ref 1 H.length 0 0 (a.map (V.int .i64)).length) v) ⟨v', w', r1, g', r2, r3⟩).mono fun e w1 ⟨v, he, g2, h1, h2⟩ => ⟨v, g2, he, o1.trans h1, h2⟩
end Go.E
/- What 'slices.Clone' does in the model. Own work. -/
namespace Go.E
open Go.Proofs Go.RowKit
set_option maxRecDepth 100000
set_option maxHeartbeats 2000000
theorem clone_nil (w : World) : Calls Tryz.prog 101 #[.slice none 0 0] w fun e w' => e = .returned (.slice none 0 0) ∧ w' = w := by
  have q22 : ∀ (w : World) (a : Option Addr) (n c n' c' : Nat), (binOp .eql 22 (.slice a n c) (.slice none n' c')).run Tryz.prog w = .ok (.bool a.isNone) w := fun w a n c n' c' => Lib.run_eql_slice_nil w _ _ a n c n' c' Tryz.underlying22
  go_enter Tryz.func101, Tryz.ntmps101
  go_wp2
  go_ret
  exact ⟨rfl, rfl⟩
theorem clone_code (a : Addr) (n cap : Nat) (w : World) (R : Value → World → Prop)
    (hrun : ∃ v' w', (Builtin.append_ #[22, 22] 22 #[.slice (some ⟨w.heap.size, 0, none⟩) 0 0, .slice (some a) n cap]).run Tryz.prog (w.alloc (Obj.cells #[] 93)) = .ok v' w' ∧ R v' w') :
    Calls Tryz.prog 101 #[.slice (some a) n cap] w fun e w' => ∃ v, e = .returned v ∧ R v w' := by
  obtain ⟨v', w', hrun, hR⟩ := hrun
  have q22 : ∀ (w : World) (a : Option Addr) (n c n' c' : Nat), (binOp .eql 22 (.slice a n c) (.slice none n' c')).run Tryz.prog w = .ok (.bool a.isNone) w := fun w a n c n' c' => Lib.run_eql_slice_nil w _ _ a n c n' c' Tryz.underlying22
  go_enter Tryz.func101, Tryz.ntmps101
  go_wp2_with (at_builtin; refine Lib.wpList_append_run _ rfl _ _ _ _ rfl _ _ rfl rfl _ _ hrun ?_)
  go_ret
  exact ⟨_, rfl, hR⟩
theorem clone_empty {bs : List Nat} {g : G} {w : World} {H : Heap} (hS : Sim bs g H w) (a : Option Addr) (cap : Nat) (h : a = none → cap = 0) {x' : Value} (hx : VRel g w (.list []) x') (he : x' = .slice a 0 cap) :
    Calls Tryz.prog 101 #[x'] w fun e w' => ∃ v' g', e = .returned v' ∧ Out bs g w H g' w' H ∧ VRel g' w' (.list []) v' := by
  subst he
  cases a with
  | none =>
    obtain rfl := h rfl
    exact (clone_nil w).mono fun e w' ⟨h1, h2⟩ => ⟨_, g, h1, by rw [h2]; exact Out.refl hS, .listNil⟩
  | some a =>
    have o1 := out_imm hS (Obj.cells #[] 93)
    have hsz : sizeT Tryz.prog 93 = some 2 := by kernel_rfl
    have hx1 := hx.mono o1.ext
    obtain ⟨cells, g1, g2, _⟩ := list_row (P := Tryz.prog) (sz := 2) hx1 (fun j e h => by simp at h) _ rfl
    have hr := append_zero (P := Tryz.prog) (t := 22) (u := 22) (ty := 22) (a := some ⟨w.heap.size, 0, none⟩) (L := 0) (cap := 0) Tryz.underlying22 Tryz.underlying22 hsz (Nat.le_refl _) rfl g1 (by simpa using g2)
    exact (clone_code a 0 cap w (fun v w' => v = .slice (some ⟨w.heap.size, 0, none⟩) 0 0 ∧ w' = w.alloc (Obj.cells #[] 93)) ⟨_, _, hr, rfl, rfl⟩).mono fun e w' ⟨v, h1, h2, h3⟩ => by subst h2; subst h3; exact ⟨_, _, h1, o1, .listZ _⟩
theorem mapM_take {sz : Nat} : ∀ {es fs : List V}, takeElems sz es = some fs → fs.length = es.length ∧ V.pureL fs = true
  | [], fs, h => by simp [takeElems] at h; subst h; exact ⟨rfl, rfl⟩
  | e :: r, fs, h => by
    simp only [takeElems, List.mapM_cons, Option.bind_eq_bind, Option.pure_def] at h
    obtain ⟨x, h1, h2⟩ := Option.bind_eq_some_iff.1 h
    obtain ⟨y, h3, h4⟩ := Option.bind_eq_some_iff.1 h2
    cases h4
    obtain ⟨h5, h6⟩ := mapM_take (es := r) h3
    unfold takeElem at h1
    split at h1
    case isFalse => cases h1
    rename_i hc
    cases h1
    exact ⟨by simp [h5], by simp only [V.pureL, hc.2.1, h6, Bool.and_self]⟩
theorem clone_ok (hm : Tryz.prog.follows .mixedOrders = true) (hN : ∀ (f : Nat) (fn : Func), Tryz.prog.funcs[f]? = some fn → fn.name ≠ "runtime.NumGoroutine")
    (args : List V) (v : V) (hv : cloneV 2 args = some v) (bs : List Nat) (g : G) (w : World) (H : Heap) (args' : List Value) (hS : Sim bs g H w) (hA : ArgsR g w args args') :
    Calls Tryz.prog 101 args'.toArray w fun e w' => ∃ v' g', e = .returned v' ∧ Out bs g w H g' w' H ∧ VRel g' w' v v' := by
  unfold cloneV at hv
  split at hv
  case h_2 => cases hv
  rename_i es
  split at hv
  case isFalse => cases hv
  rename_i hl
  obtain ⟨fs, hf, rfl⟩ := Option.map_eq_some_iff.1 hv
  cases es with
  | cons y ys =>
    obtain ⟨k1, k2⟩ := mapM_take hf
    have hc := clone_port bs H (y :: ys) fs (by simp [binOpV, eqlOp, Tryz.underlying22]) hf (by rw [k1]; unfold roomB; omega) k2
    exact ((callw_ok (cx := X0) hm iter_0 known_0 hN).2 _ _ _ _ _ _ hc).2 g w args' hS hA
  | nil =>
    simp [takeElems] at hf
    subst hf
    obtain ⟨x', rfl⟩ : ∃ x', args' = [x'] := by
      have := hA.1
      cases args' with
      | nil => simp at this
      | cons x r => cases r with
        | nil => exact ⟨x, rfl⟩
        | cons y r => simp at this
    have hx : VRel g w (.list []) x' := hA.2 0 _ _ rfl rfl
    have hx2 := hx
    generalize he : ([] : List V) = es at hx2
    cases hx2 with
    | listNil => exact clone_empty hS none 0 (fun _ => rfl) hx rfl
    | listZ a => exact clone_empty hS (some a) 0 (fun h => by cases h) hx rfl
    | list b o cap s _ c hlen hpure hs hO hc hr => subst he; exact clone_empty hS (some _) cap (fun h => by cases h) hx rfl
end Go.E
/- What 'slices.Concat' does in the model. Own work. -/
namespace Go.E
open Go.Proofs Go.RowKit Go.Shelf
set_option maxRecDepth 100000
/-- How the shelf's numbers stand here. -/
def growRen : Ren := ⟨fun n => if n = 4 then 205 else n, fun n => if n = 22 then 34 else if n = 25 then 3 else n, fun n => n⟩
theorem grow_lays : Lays8.n4 Tryz.prog growRen where
  mixed := by kernel_rfl
  f4 := ⟨Tryz.f205.name, by kernel_rfl, Tryz.func205.trans (by kernel_rfl)⟩
  t0 := Tryz.underlying0
  a0 := Tryz.isAgg0
  z0 := Tryz.sizeOf0
  v0 := Tryz.zeroValue0
  t3 := Tryz.underlying3
  a3 := Tryz.isAgg3
  z3 := Tryz.sizeOf3
  v3 := Tryz.zeroValue3
  t4 := Tryz.underlying4
  a4 := Tryz.isAgg4
  z4 := Tryz.sizeOf4
  v4 := Tryz.zeroValue4
  t9 := Tryz.underlying9
  a9 := Tryz.isAgg9
  z9 := Tryz.sizeOf9
  v9 := Tryz.zeroValue9
  t20 := Tryz.underlying20
  a20 := Tryz.isAgg20
  z20 := Tryz.sizeOf20
  v20 := Tryz.zeroValue20
  t22 := Tryz.underlying34
  a22 := Tryz.isAgg34
  z22 := Tryz.sizeOf34
  v22 := Tryz.zeroValue34
theorem grow_none (w : World) : Calls Tryz.prog 205 #[.slice none 0 0, .int .i64 0] w fun e w' => e = .returned (.slice none 0 0) ∧ w' = w :=
  Any8.slices_Grow_room grow_lays none 0 0 0 w (by omega) (by omega) (by omega) (by omega)
theorem info3 : Tryz.prog.info? 3 = some Tryz.t3 := by kernel_rfl
theorem grow_some (g : G) (w : World) (n : Nat) (hn : 0 < n) (hn6 : n ≤ 1000000) : Calls Tryz.prog 205 #[.slice none 0 0, .int .i64 n] w fun e w' =>
    ∃ cap v, n ≤ cap ∧ e = .returned v ∧ CatIn g w 1 cap [] v w' := by
  have hb : Tryz.t3.bytes = 8 := by kernel_rfl
  have hs1 : Tryz.t3.size = 1 := by kernel_rfl
  refine (Any8.slices_Grow_grow grow_lays Tryz.t3 (.int .i64 0) info3 (by kernel_rfl) (by rw [hs1]; omega)
    none 0 0 n [] w (by omega) (by omega) (by rw [hb]; omega) (by omega) (by simp) (fun _ => rfl) (fun a h => by cases h)).mono ?_
  rintro e w' ⟨rfl, rfl⟩
  have hge := grownCap_ge w (0 + n) 0 (growRen.t 25)
  rw [Nat.zero_add] at hge ⊢
  refine ⟨_, _, hge, rfl, ?_⟩
  exact cat_start (z := (Value.int .i64 0).cells) rfl hge
set_option maxHeartbeats 2000000 in
theorem concat_code (n b o cap : Nat) (a : Nat → Option Addr) (lens cp tot : Nat → Nat) (w : World) (CI : Nat → Value → World → Prop) (hn : n ≤ 1000000)
    (h0 : tot 0 = 0) (h1 : ∀ k, tot (k + 1) = tot k + lens k) (h2 : ∀ k, k ≤ n → tot k ≤ 1000000) (hc : ∀ k, k < n → w.cell? ⟨b, o + k, none⟩ = some (.slice (a k) (lens k) (cp k)))
    (hgrow : Calls Tryz.prog 205 #[.slice none 0 0, .int .i64 (tot n : Int)] w fun e w' => ∃ v, e = .returned v ∧ CI 0 v w')
    (hcell : ∀ k v wr, CI k v wr → ∀ j, j < n → wr.cell? ⟨b, o + j, none⟩ = some (.slice (a j) (lens j) (cp j)))
    (hstep : ∀ k v wr, k < n → CI k v wr → ∃ v' w', (Builtin.append_ #[34, 34] 34 #[v, .slice (a k) (lens k) (cp k)]).run Tryz.prog wr = .ok v' w' ∧ CI (k + 1) v' w') :
    Calls Tryz.prog 149 #[.slice (some ⟨b, o, none⟩) n cap] w fun e w' => ∃ v, e = .returned v ∧ CI n v w' := by
  go_enter Tryz.func149, Tryz.ntmps149
  go_wp2
  go_loop [3, 11] (fun s i => ∃ k : Nat, k ≤ n ∧ i = .int .i64 k ∧ s = .int .i64 (tot k : Int)) (fun _ i => n - (Go.Proofs.intOf i).toNat)
  case atStart => exact ⟨0, Nat.zero_le _, rfl, by rw [h0]; rfl⟩
  case round =>
    obtain ⟨k, hk, rfl, rfl⟩ := hrel
    by_cases hlt : k < n
    · have hcl := hc k hlt
      have hk1 := h1 k
      have hk2 := h2 (k + 1) hlt
      go_wp2
      go_round
      case rel => exact ⟨k + 1, by omega, by simp, by rw [hk1]; simp⟩
      case measure => simp [Go.Proofs.intOf]; omega
    · obtain rfl : k = n := by omega
      go_wp2_with ((go_at_call 205; refine hgrow.mono ?_; rintro e w' ⟨v, rfl, hci⟩))
      clear hgrow h0 h1 h2
      go_loopw [6, 27] (fun v i wr => ∃ j : Nat, j ≤ k ∧ i = .int .i64 j ∧ CI j v wr) (fun _ i _ => k - (Go.Proofs.intOf i).toNat)
      case atStart => exact ⟨0, Nat.zero_le _, rfl, hci⟩
      case round =>
        obtain ⟨j, hj, rfl, hcj⟩ := hrel
        by_cases hlt2 : j < k
        · have hcl := hcell j _ _ hcj j hlt2
          obtain ⟨v', w', hrun, hcj'⟩ := hstep j _ _ hlt2 hcj
          go_wp2_with (at_builtin; refine Lib.wpList_append_run _ rfl _ _ _ _ rfl _ _ rfl rfl _ _ hrun ?_)
          go_roundw
          case rel => exact ⟨j + 1, by omega, by simp, hcj'⟩
          case measure => simp [Go.Proofs.intOf]; omega
        · obtain rfl : j = k := by omega
          go_wp2
          go_ret
          exact ⟨_, rfl, hcj⟩
set_option maxHeartbeats 2000000 in
theorem concat_code0 (a : Option Addr) (cap : Nat) (w : World) : Calls Tryz.prog 149 #[.slice a 0 cap] w fun e w' => e = .returned (.slice none 0 0) ∧ w' = w := by
  have hgrow := grow_none w
  go_enter Tryz.func149, Tryz.ntmps149
  go_wp2
  go_loop [3, 11] (fun s i => i = .int .i64 0 ∧ s = .int .i64 0) (fun _ _ => 0)
  case atStart => exact ⟨rfl, rfl⟩
  case round =>
    obtain ⟨rfl, rfl⟩ := hrel
    go_wp2_with ((go_at_call 205; refine hgrow.mono ?_; rintro e w' ⟨rfl, rfl⟩))
    go_loop [6, 27] (fun v i => i = .int .i64 0 ∧ v = .slice none 0 0) (fun _ _ => 0)
    case atStart => exact ⟨rfl, rfl⟩
    case round =>
      obtain ⟨rfl, rfl⟩ := hrel
      go_wp2
      go_ret
      exact ⟨rfl, rfl⟩
theorem concatL_spec : ∀ {ls : List V} {l : List V}, concatL ls = some l → ∃ ess : List (List V), ls = ess.map V.list ∧ l = ess.flatten
  | [], l, h => by simp [concatL] at h; subst h; exact ⟨[], rfl, rfl⟩
  | x :: r, l, h => by
    cases x with
    | list es =>
      simp only [concatL, Option.map_eq_some_iff] at h
      obtain ⟨y, h1, rfl⟩ := h
      obtain ⟨ess, rfl, rfl⟩ := concatL_spec h1
      exact ⟨es :: ess, rfl, rfl⟩
    | _ => simp [concatL] at h
def baseOf : Value → Option Addr
  | .slice a _ _ => a
  | _ => none
def capOf : Value → Nat
  | .slice _ _ c => c
  | _ => 0
theorem take_next (ess : List (List V)) (k : Nat) : (ess.take (k + 1)).flatten = (ess.take k).flatten ++ ess[k]?.getD [] := by
  rw [List.take_succ, List.flatten_append]
  cases ess[k]? <;> simp
theorem take_le (ess : List (List V)) (k : Nat) : (ess.take k).flatten.length ≤ ess.flatten.length := by
  have h : ess.flatten = (ess.take k).flatten ++ (ess.drop k).flatten := by rw [← List.flatten_append, List.take_append_drop]
  rw [h, List.length_append]; omega
theorem known_X (hm : Tryz.prog.follows .mixedOrders = true) (hN : ∀ (f : Nat) (fn : Func), Tryz.prog.funcs[f]? = some fn → fn.name ≠ "runtime.NumGoroutine") : KnownOk X := by
  refine ⟨fresh_X hN, act_X hm hN, fun f fn args v hf hk hv bs g w H args' hS hA => ?_⟩
  rcases keep_X f hk with rfl | rfl | rfl | rfl
  case inr.inr.inr =>
    have hv' : (none : Option V) = some v := hv
    cases hv'
  case inr.inl =>
    have hv' : cloneV 2 args = some v := hv
    exact clone_ok hm hN args v hv' bs g w H args' hS hA
  case inr.inr.inl =>
    have hv' : joinV args = some v := hv
    exact join_ok hm hN args v hv' bs g w H args' hS hA
  have hv' : concatV 1 args = some v := hv
  clear hv hk
  show Calls Tryz.prog 149 args'.toArray w _
  unfold concatV at hv'
  split at hv'
  case h_2 => cases hv'
  rename_i ls
  obtain ⟨l, hl, hv2⟩ := Option.bind_eq_some_iff.1 hv'
  split at hv2
  case isFalse => cases hv2
  rename_i hcond
  obtain ⟨h1, h2, h3, h4⟩ := hcond
  cases hv2
  obtain ⟨ess, rfl, rfl⟩ := concatL_spec hl
  obtain ⟨x', rfl⟩ : ∃ x', args' = [x'] := by
    have := hA.1
    cases args' with
    | nil => simp at this
    | cons x r => cases r with
      | nil => exact ⟨x, rfl⟩
      | cons y r => simp at this
  have hx : VRel g w (.list (ess.map V.list)) x' := hA.2 0 _ _ rfl rfl
  have hall : ∀ el ∈ ess.flatten, el.cells.length = 1 ∧ el.cells.all V.isCell = true := fun el hel => by
    have := List.all_eq_true.1 h4 el hel
    simpa using this
  have hsz : sizeT Tryz.prog 3 = some 1 := by kernel_rfl
  have key0 : ∀ a, ess = [] → Calls Tryz.prog 149 #[.slice a 0 0] w fun e w' => ∃ v' g', e = .returned v' ∧ Out bs g w H g' w' H ∧ VRel g' w' (.list ess.flatten) v' := fun a h => by
    subst h
    exact (concat_code0 a 0 w).mono fun e w' ⟨he, hw⟩ => ⟨_, g, he, by rw [hw]; exact Out.refl hS, .listNil⟩
  generalize hes : ess.map V.list = es at hx
  cases hx with
  | listNil => exact key0 none (List.map_eq_nil_iff.1 hes)
  | listZ a => exact key0 (some a) (List.map_eq_nil_iff.1 hes)
  | list b o cap s _ c hlen hpure hs hO hc hr =>
    subst hes
    simp only [List.length_map] at *
    have hs1 : 0 < ess.length → s = 1 := fun h => by
      have := hs 0 (.list ess[0]) (by simp [h])
      simpa [V.cells] using this.symm
    have hrel : ∀ (j : Nat) (e : List V), ess[j]? = some e → VRel g w (.list e) (c j 0) := fun j e he => hr j (.list e) 0 (.list e) (by simp [he]) (by simp [V.cells])
    have hlt : ∀ j, j < ess.length → b < w.heap.size := fun j hj => hS.old b _ (by rw [hO j 0 hj (by rw [hs1 (by omega)]; omega)]; simp)
    have hval : ∀ j, j < ess.length → c j 0 = .slice (baseOf (c j 0)) (ess[j]?.getD []).length (capOf (c j 0)) := fun j hj => by
      obtain ⟨a, cp, e1, _⟩ := list_cap (hrel j ess[j] (by simp [hj]))
      rw [e1]; simp [baseOf, capOf, hj]
    have hcell : ∀ j, j < ess.length → w.cell? ⟨b, o + j, none⟩ = some (.slice (baseOf (c j 0)) (ess[j]?.getD []).length (capOf (c j 0))) := fun j hj => by
      have := hc j 0 hj (by rw [hs1 (by omega)]; omega)
      rw [hs1 (by omega), Nat.mul_one, Nat.add_zero] at this
      rw [this, ← hval j hj]
    have hend : (ess.take ess.length).flatten = ess.flatten := by rw [List.take_length]
    refine (concat_code ess.length b o cap (fun j => baseOf (c j 0)) (fun j => (ess[j]?.getD []).length) (fun j => capOf (c j 0)) (fun j => (ess.take j).flatten.length) w
      (fun j v wr => (ess.flatten = [] ∧ v = .slice none 0 0 ∧ wr = w) ∨ ∃ cp, ess.flatten.length ≤ cp ∧ CatIn g w 1 cp (ess.take j).flatten v wr)
      h2 (by simp) (fun k => by rw [take_next, List.length_append]) (fun k _ => Nat.le_trans (take_le ess k) h1) hcell ?_ ?_ ?_).mono ?_
    · rw [hend]
      by_cases h0 : ess.flatten = []
      · rw [h0]
        exact (grow_none w).mono fun e w' ⟨he, hw⟩ => ⟨_, he, .inl ⟨rfl, rfl, hw⟩⟩
      · refine (grow_some g w ess.flatten.length (by have := List.length_pos_iff.2 h0; omega) h1).mono ?_
        rintro e w' ⟨cp, v, hcp, he, hI⟩
        exact ⟨v, he, .inr ⟨cp, hcp, by simpa using hI⟩⟩
    · rintro k v wr (⟨_, _, rfl⟩ | ⟨cp, hcp, hI⟩) j hj
      · exact hcell j hj
      · rw [hI.2.1.1.cell (p := ⟨b, o + j, none⟩) (hlt j hj)]
        exact hcell j hj
    · rintro k v wr hk hI
      have hek : ess[k]? = some ess[k] := by simp [hk]
      have hkv := hval k hk
      have hre := hrel k _ hek
      rw [hkv] at hre
      rcases hI with ⟨h0, rfl, rfl⟩ | ⟨cp, hcp, hI⟩
      · have hnil : ess[k]?.getD [] = [] := by
          have h5 := List.flatten_eq_nil_iff.1 h0 ess[k] (by simp)
          rw [hek]; exact h5
        have hre' : VRel g wr (.list []) (.slice (baseOf (c k 0)) (ess[k]?.getD []).length (capOf (c k 0))) := by
          rw [hek] at hnil
          simp only [Option.getD_some] at hnil
          rw [hnil] at hre
          exact hre
        obtain ⟨cells, g1, g2, _⟩ := list_row (P := Tryz.prog) (sz := 1) hre' (fun j e h => by simp at h) wr rfl
        have := append_zero (P := Tryz.prog) (ty := 34) (a := none) (L := 0) (cap := 0) Tryz.underlying34 Tryz.underlying34 hsz (Nat.le_refl _) (by rw [hnil]; rfl) g1 (by simpa using g2)
        exact ⟨_, _, this, .inl ⟨h0, rfl, rfl⟩⟩
      · have hcap : (ess.take k).flatten.length + (ess[k]).length ≤ cp := by
          have h6 := take_le ess (k + 1)
          rw [take_next, hek, List.length_append] at h6
          simp only [Option.getD_some] at h6
          omega
        have hmem : ∀ el ∈ ess[k], el ∈ ess.flatten := fun el hel => List.mem_flatten.2 ⟨_, by simp, hel⟩
        obtain ⟨v', w', g1, g2⟩ := cat_step (P := Tryz.prog) (ty := 34) (fun b o h => hS.old b o (by rw [h]; simp)) Tryz.underlying34 Tryz.underlying34 hsz hI hre (fun el hel => hall el (hmem el hel))
          (fun j el q y hj hy => by
            obtain ⟨hq, _⟩ := List.getElem?_eq_some_iff.1 hy
            have : el ∈ ess.flatten := by
              have h7 := List.mem_of_getElem? hj
              obtain ⟨e0, h8, h9⟩ := List.mem_flatten.1 h7
              exact List.mem_flatten.2 ⟨e0, List.mem_of_mem_take h8, h9⟩
            have := (hall el this).1
            omega) hcap
        refine ⟨v', w', g1, .inr ⟨cp, hcp, ?_⟩⟩
        rw [take_next, hek]
        exact g2
    · rintro e w' ⟨v, he, hI⟩
      rw [hend] at hI
      rcases hI with ⟨h0, rfl, rfl⟩ | ⟨cp, hcp, hI⟩
      · exact ⟨_, g, he, Out.refl hS, by rw [h0]; exact .listNil⟩
      · obtain ⟨g', o1, o2⟩ := cat_end hS hI hcp h3 (fun j el h => (hall el (List.mem_of_getElem? h)).1)
        exact ⟨v, g', he, o1, o2⟩
end Go.E
/- The law NetlistReached: it returns true, and its arguments read as before. Conditions: none. Own work, its frame after the kit's print of a row. -/
namespace Go.Proofs.YtbnakdpmjlcneaaGreat.netlistReached
open Go.ChangeShapes Go.WideShapes Go.ChangeAt Go.RowKit Go.E
set_option linter.unusedVariables false
theorem own : ownKnob Tryz.prog.godebug = none := by kernel_rfl
theorem laidOut : laidOutB Tryz.prog = true := by kernel_rfl
set_option maxRecDepth 100000 in
theorem lifted (os : Os) (started : os.Started) (H : Type) (enc : TypeId × Value → H) :
    ReturnsInHanded {} Tryz.checked os 7 .any (Rows.netlistReachedSpec.pre6 enc Tryz.prog Tryz.f7 Rows.netlistReachedRow.domain false) (Rows.netlistReachedSpec.post enc Tryz.prog Tryz.f7 false true false false) := by
  refine returnsInHanded_of_change_sized (C := Tryz.checked) own started (by kernel_rfl) Tryz.func7
    (ChangeSpec.witness6 (enc := enc) (C := Tryz.checked) false ⟨#[], #[.agg #[.string ByteArray.empty, .slice none 0 0, .slice none 0 0, .slice none 0 0, .slice none 0 0], .slice none 0 0], []⟩ 8 (by kernel_rfl) (by kernel_rfl) (by kernel_rfl) (by kernel_rfl)) ?_
  intro W base args ds gs before hval0 hW hcnd hsz0 _
  have hval : ∀ (j : Nat) t v, Tryz.f7.params[j]? = some t → args[j]? = some v → Value.okWide Tryz.prog W .any base t v := hval0
  have hW' := hW
  obtain ⟨p, q, hA0, hV, rfl, hfz, hnd⟩ := hW
  have hA : DataW.TrodAll enc Tryz.prog W 0 (fun _ => true) true Tryz.f7.params.toList args.toList ds p := hA0
  rw [Tryz.params7] at hA hval
  obtain ⟨v0, vs0, d0, ds0, p0, q0, hargs, rfl, rfl, h0, r0⟩ := trodAll_cons hA
  obtain ⟨v1, vs1, d1, ds1, p1, q1, rfl, rfl, rfl, h1, r1⟩ := trodAll_cons r0
  obtain ⟨rfl, rfl, rfl⟩ := trodAll_nil r1
  obtain rfl : args = #[v0, v1] := by cases args; simp_all
  obtain ⟨rfl, rfl⟩ := trodVars_none hV
  obtain ⟨a0, rfl, _⟩ := okWide_struct Tryz.underlying27 (hval 0 27 v0 rfl rfl)
  have lt0 : ∀ x ∈ p0, x.block < W.heap.size := by obtain ⟨m, hm⟩ := h0; exact DataW.trod_lt m _ _ _ hm
  have e0 := h0
  obtain ⟨fuel, e0⟩ := e0
  obtain ⟨xs, hx, hr0⟩ := read_cells fuel 5 27 _ _ e0 (by kernel_rfl)
  obtain ⟨n0, rfl⟩ := dec_netl 0 xs hx
  replace hr0 := rel_row hr0
  obtain ⟨b1, l1, c1, rfl⟩ := okWide_slice Tryz.underlying41 (hval 1 41 v1 rfl rfl)
  have lt1 : ∀ x ∈ p1, x.block < W.heap.size := by obtain ⟨m, hm⟩ := h1; exact DataW.trod_lt m _ _ _ hm
  have e1 := h1
  obtain ⟨fuel, e1⟩ := e1
  obtain ⟨xs, hx, hr1⟩ := read_cells fuel 3 41 _ _ e1 (by kernel_rfl)
  obtain ⟨n1, rfl⟩ := dec_lists 0 xs hx
  replace hr1 := rel_one hr1
  clear hA0 hval0 hsz0
  refine (law_any mixed_X iter_X (known_X mixed_X noNum) noNum W (la_reached n0 n1) (argsR_cons hr0 (argsR_cons hr1 argsR_nil))).mono fun e W' ⟨he, bel⟩ => ?_
  subst he
  exact ⟨_, rfl, _, _, _, [], _, [], hW', trodAll_mk1 (shut_bool Tryz.underlying4 _), (trodAll_cons_mk (Below.trod laidOut (by kernel_rfl) (of_decide_eq_true (by kernel_rfl)) h0 bel lt0) (trodAll_cons_mk (Below.trod laidOut (by kernel_rfl) (of_decide_eq_true (by kernel_rfl)) h1 bel lt1) trodAll_mk0)), rfl, bel.frame _, fun h => by cases h⟩
theorem over : Rows.netlistReachedRow.holds Tryz.pinned (OpenSpec.ofChange Rows.netlistReachedSpec) :=
  OpenClaim.holds_of_wide 7 Tryz.f7 rfl rfl rfl rfl rfl rfl rfl ⟨rfl, rfl, rfl, rfl, rfl⟩ rfl rfl rfl rfl rfl (by kernel_rfl) Tryz.func7 (by kernel_rfl)
    (of_decide_eq_true (by kernel_rfl)) (by unfold Func.isWrapper; first | (rw [if_pos (by decide +kernel)]; kernel_rfl) | (rw [if_neg (by decide +kernel)]; exact ⟨rfl, rfl⟩))
    (fun os started H enc _ => lifted os started H enc)
theorem proved : Rows.NetlistReachedSaid := over
end Go.Proofs.YtbnakdpmjlcneaaGreat.netlistReached
namespace Go.Proofs.YtbnakdpmjlcneaaGreat
theorem netlistReached_holds : Rows.NetlistReachedSaid := netlistReached.proved
end Go.Proofs.YtbnakdpmjlcneaaGreat
