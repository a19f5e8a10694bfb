/- From E to the model's calls, where the steps of a design are ranged over. Own work. -/
import Derived.Test.YtoljdokffnjapaaGreatP3
import Derived.Test.YtoljdokffnjapaaGreatP2
import Derived.WalkKit
import Derived.Lib.Walk
import Derived.Lib.AppendZeros
import Derived.Lib.SliceRun
import Derived.Shelf.Spec.SlicesGrow
import Derived.Test.YtoljdokffnjapaaGreatP5
set_option linter.all false
namespace Go.E
open Go.Proofs Go.RowKit
set_option maxRecDepth 100000
set_option maxHeartbeats 2000000
theorem Bn (w : World) : Calls Tryz.prog 155 #[.slice none 0 0] w fun e w' => e = .returned (.slice none 0 0) ∧ w' = w := by
 have q22 : ∀ (w : World) (a : Option Addr) (n c n' c' : Nat), (binOp .eql 122 (.slice a n c) (.slice none n' c')).run Tryz.prog w = .ok (.bool a.isNone) w := fun w a n c n' c' => Lib.run_eql_slice_nil w _ _ a n c n' c' Tryz.underlying122
 go_enter Tryz.func155, Tryz.ntmps155
 go_wp2
 go_ret
 exact ⟨rfl, rfl⟩
theorem tO (a : Addr) (n cap : Nat) (w : World) (R : Value → World → Prop)
  (hrun : ∃ v' w', (Builtin.append_ #[122, 122] 122 #[.slice (some ⟨w.heap.size, 0, none⟩) 0 0, .slice (some a) n cap]).run Tryz.prog (w.alloc (Obj.cells #[] 3)) = .ok v' w' ∧ R v' w') :
  Calls Tryz.prog 155 #[.slice (some a) n cap] w fun e w' => ∃ v, e = .returned v ∧ R v w' := by
 obtain ⟨v', w', hrun, hR⟩ := hrun
 have q22 : ∀ (w : World) (a : Option Addr) (n c n' c' : Nat), (binOp .eql 122 (.slice a n c) (.slice none n' c')).run Tryz.prog w = .ok (.bool a.isNone) w := fun w a n c n' c' => Lib.run_eql_slice_nil w _ _ a n c n' c' Tryz.underlying122
 go_enter Tryz.func155, Tryz.ntmps155
 go_wp2_with (at_builtin; refine Lib.wpList_append_run _ rfl _ _ _ _ rfl _ _ rfl rfl _ _ hrun ?_)
 go_ret
 exact ⟨_, rfl, hR⟩
theorem ol {bs : List Nat} {g : G} {w : World} {H : Heap} (hS : Sim bs g H w) (a : Option Addr) (cap : Nat) (h : a = none → cap = 0) {x' : Value} (hx : VRel g w (.list []) x') (he : x' = .slice a 0 cap) :
  Calls Tryz.prog 155 #[x'] w fun e w' => ∃ v' g', e = .returned v' ∧ Out bs g w H g' w' H ∧ VRel g' w' (.list []) v' := by
 subst he
 cases a with
 | none =>
  obtain rfl := h rfl
  exact (Bn w).mono fun e w' ⟨h1, h2⟩ => ⟨_, g, h1, by rw [h2]; exact Out.refl hS, .listNil⟩
 | some a =>
  have o1 := oq hS (Obj.cells #[] 3)
  have hsz : sizeT Tryz.prog 3 = some 1 := by kernel_rfl
  have hx1 := hx.mono o1.ext
  obtain ⟨cells, g1, g2, _⟩ := kI (P := Tryz.prog) (sz := 1) hx1 (fun j e h => by simp at h) _ rfl
  have hr := iw (P := Tryz.prog) (t := 122) (u := 122) (ty := 122) (a := some ⟨w.heap.size, 0, none⟩) (L := 0) (cap := 0) Tryz.underlying122 Tryz.underlying122 hsz (Nat.le_refl _) rfl g1 (by simpa using g2)
  exact (tO a 0 cap w (fun v w' => v = .slice (some ⟨w.heap.size, 0, none⟩) 0 0 ∧ w' = w.alloc (Obj.cells #[] 3)) ⟨_, _, hr, rfl, rfl⟩).mono fun e w' ⟨v, h1, h2, h3⟩ => by subst h2; subst h3; exact ⟨_, _, h1, o1, .listZ _⟩
theorem vh {sz : Nat} : ∀ {es fs : List V}, takeElems sz es = some fs → fs.length = es.length ∧ V.pureL fs = true
 | [], fs, h => by simp [takeElems] at h; subst h; exact ⟨rfl, rfl⟩
 | e :: r, fs, h => by
  simp only [takeElems, List.mapM_cons, Option.bind_eq_bind, Option.pure_def] at h
  obtain ⟨x, h1, h2⟩ := Option.bind_eq_some_iff.1 h
  obtain ⟨y, h3, h4⟩ := Option.bind_eq_some_iff.1 h2
  cases h4
  obtain ⟨h5, h6⟩ := vh (es := r) h3
  unfold takeElem at h1
  split at h1
  case isFalse => cases h1
  rename_i hc
  cases h1
  exact ⟨by simp [h5], by simp only [V.pureL, hc.2.1, h6, Bool.and_self]⟩
theorem CF (hm : Tryz.prog.follows .mixedOrders = true) (hN : ∀ (f : Nat) (fn : Func), Tryz.prog.funcs[f]? = some fn → fn.name ≠ "runtime.NumGoroutine")
  (args : List V) (v : V) (hv : cloneV 1 args = some v) (bs : List Nat) (g : G) (w : World) (H : Heap) (args' : List Value) (hS : Sim bs g H w) (hA : ArgsR g w args args') :
  Calls Tryz.prog 155 args'.toArray w fun e w' => ∃ v' g', e = .returned v' ∧ Out bs g w H g' w' H ∧ VRel g' w' v v' := by
 unfold cloneV at hv
 split at hv
 case h_2 => cases hv
 rename_i es
 split at hv
 case isFalse => cases hv
 rename_i hl
 obtain ⟨fs, hf, rfl⟩ := Option.map_eq_some_iff.1 hv
 cases es with
 | cons y ys =>
  obtain ⟨k1, k2⟩ := vh hf
  have hc := zl bs H (y :: ys) fs (by simp [binOpV, eqlOp, Tryz.underlying122]) hf (by rw [k1]; unfold roomB; omega) k2
  exact ((sr (cx := X0) hm wC tU hN).2 _ _ _ _ _ _ hc).2 g w args' hS hA
 | nil =>
  simp [takeElems] at hf
  subst hf
  obtain ⟨x', rfl⟩ : ∃ x', args' = [x'] := by
   have := hA.1
   cases args' with
   | nil => simp at this
   | cons x r => cases r with
    | nil => exact ⟨x, rfl⟩
    | cons y r => simp at this
  have hx : VRel g w (.list []) x' := hA.2 0 _ _ rfl rfl
  have hx2 := hx
  generalize he : ([] : List V) = es at hx2
  cases hx2 with
  | listNil => exact ol hS none 0 (fun _ => rfl) hx rfl
  | listZ a => exact ol hS (some a) 0 (fun h => by cases h) hx rfl
  | list b o cap s _ c hlen hpure hs hO hc hr => subst he; exact ol hS (some _) cap (fun h => by cases h) hx rfl
end Go.E
namespace Go.E
open Go.Proofs Go.RowKit
set_option maxRecDepth 100000
set_option maxHeartbeats 2000000 in
theorem Bo (a : Option Addr) (n cap : Nat) (w : World) (R : Value → World → Prop)
  (hrun : ∃ v' w', (Builtin.append_ #[30, 30] 30 #[.slice (some ⟨w.heap.size, 0, none⟩) 0 0, .slice a n cap]).run Tryz.prog (w.alloc (Obj.cells #[] 3)) = .ok v' w' ∧ R v' w') :
  Calls Tryz.prog 15 #[.slice a n cap] w fun e w' => ∃ v, e = .returned v ∧ R v w' := by
 obtain ⟨v', w', hrun, hR⟩ := hrun
 go_enter Tryz.func15, Tryz.ntmps15
 go_wp2_with (at_builtin; refine Lib.wpList_append_run _ rfl _ _ _ _ rfl _ _ rfl rfl _ _ hrun ?_)
 go_ret
 exact ⟨_, rfl, hR⟩
theorem takeInts : ∀ (a : List Int), takeElems 1 (a.map (.int .i64)) = some (a.map (.int .i64))
 | [] => rfl
 | x :: r => by
  have h := takeInts r
  unfold takeElems at h ⊢
  rw [List.map_cons, List.mapM_cons, h]
  rfl
theorem zU {copies : List Nat} {f : Nat} {args : List V} {s : Nat} {es : List V} (h : freshI copies f args = some (s, es)) :
  copies.contains f = true ∧ s = 1 ∧ args = [.list es] ∧ ∃ a : List Int, es = a.map (.int .i64) ∧ 0 < a.length ∧ a.length ≤ 1000000 := by
 unfold freshI at h
 split at h
 case h_2 => cases h
 rename_i l
 split at h
 case isFalse => cases h
 rename_i hf
 obtain ⟨a, h1, h2⟩ := Option.bind_eq_some_iff.1 h
 split at h2
 case isFalse => cases h2
 rename_i hl
 cases h2
 exact ⟨hf, rfl, rfl, a, jg h1, hl⟩
theorem vi {f : Nat} {fn : Func} (ST : TypeId) (hu : Tryz.prog.underlying ST = some (.slice 3)) (hf : Tryz.prog.funcs[f]? = some fn) (hb : fn.body.isSome = true) (hn : fn.name ≠ "runtime.NumGoroutine")
  (hcode : ∀ (a : Addr) (n cap : Nat) (w : World) (R : Value → World → Prop), (∃ v' w', (Builtin.append_ #[ST, ST] ST #[.slice (some ⟨w.heap.size, 0, none⟩) 0 0, .slice (some a) n cap]).run Tryz.prog (w.alloc (Obj.cells #[] 3)) = .ok v' w' ∧ R v' w') →
   Calls Tryz.prog f #[.slice (some a) n cap] w fun e w' => ∃ v, e = .returned v ∧ R v w')
  {a : List Int} (h0 : 0 < a.length) (h6 : a.length ≤ 1000000) {bs : List Nat} {H : Heap} {g : G} {w : World} {args : List V} {args' : List Value} (hargs : args.map V.norm = [.list (a.map (.int .i64))]) (hS : Sim bs g H w) (hA : ArgsR g w args args') :
  Calls Tryz.prog f args'.toArray w fun e w' => ∃ v' g', e = .returned v' ∧ Out bs g w H g' w' (H ++ [.arr (a.map (.int .i64)) 0]) ∧ VRel g' w' (.ref 1 H.length 0 0 (a.map (V.int .i64)).length) v' := by
 have hA2 := kX hA
 rw [hargs] at hA2
 obtain ⟨x', rfl⟩ : ∃ x', args' = [x'] := by
  have := hA2.1
  cases args' with
  | nil => simp at this
  | cons x r => cases r with
   | nil => exact ⟨x, rfl⟩
   | cons y r => simp at this
 have hx : VRel g w (.list (a.map (.int .i64))) x' := hA2.2 0 _ _ rfl rfl
 obtain ⟨ad, cp, rfl⟩ : ∃ (ad : Addr) (cp : Nat), x' = .slice (some ad) (a.map (V.int .i64)).length cp := by
  generalize he : a.map (V.int .i64) = es at hx
  cases hx with
  | listNil => simp at he; subst he; simp at h0
  | listZ a => simp at he; subst he; simp at h0
  | list b o cap s es c hlen hpure hs hO hc hr => exact ⟨_, _, rfl⟩
 have o1 := oq hS (Obj.cells #[] 3)
 obtain ⟨v', w', g', r1, r2, r3⟩ := zc (P := Tryz.prog) (ty := ST) (t := ST) (u := ST) (e := 3) (e2 := 3) (sz := 1) (by_ := 8) (z := .int .i64 0) (es := a.map (.int .i64)) (new := a.map (.int .i64)) o1.sim
  hu hu (by kernel_rfl) (by kernel_rfl) (by kernel_rfl) rfl rfl (by omega) rfl (.listZ _) (hx.mono o1.ext) (takeInts a) (by unfold roomB; simp; omega) (by simpa using h0)
 exact (hcode ad _ cp w (fun v w' => ∃ g', Out bs _ _ H g' w' (H ++ [.arr (a.map (.int .i64)) 0]) ∧ VRel g' w' (.ref 1 H.length 0 0 (a.map (V.int .i64)).length) v) ⟨v', w', r1, g', r2, r3⟩).mono fun e w1 ⟨v, he, g2, h1, h2⟩ => ⟨v, g2, he, o1.trans h1, h2⟩
theorem GJ (hN : ∀ (f : Nat) (fn : Func), Tryz.prog.funcs[f]? = some fn → fn.name ≠ "runtime.NumGoroutine") : FreshOk X := by
 intro f args s es h bs H
 obtain ⟨hf, rfl, hargs, a, rfl, h0, h6⟩ := zU h
 rcases List.mem_cons.1 (List.contains_iff_mem.1 hf) with rfl | hf
 ·exact ⟨⟨Tryz.f15, Tryz.func15, rfl, hN _ _ Tryz.func15⟩, fun g w args' hS hA =>
   vi 30 Tryz.underlying30 Tryz.func15 rfl (hN _ _ Tryz.func15) (fun a n cap w R hr => Bo (some a) n cap w R hr) h0 h6 hargs hS hA⟩
 ·obtain rfl : f = 155 := by
   rcases List.mem_cons.1 hf with h | h
   ·exact h
   ·cases h
  exact ⟨⟨Tryz.f155, Tryz.func155, rfl, hN _ _ Tryz.func155⟩, fun g w args' hS hA =>
   vi 122 Tryz.underlying122 Tryz.func155 rfl (hN _ _ Tryz.func155) (fun a n cap w R hr => tO a n cap w R hr) h0 h6 hargs hS hA⟩
end Go.E
namespace Go.E
theorem zV : ActOk X := vZ fun f a H => by
 show sortAct [] f a H = none
 unfold sortAct
 split <;> (try rfl)
 split <;> (try rfl)
open Go.Proofs Go.RowKit Go.Shelf
set_option maxRecDepth 100000
def growRen : Ren := ⟨fun n => if n = 4 then 187 else n, fun n => if n = 22 then 122 else if n = 25 then 3 else n, fun n => n⟩
theorem vj : Lays8.n4 Tryz.prog growRen where
 mixed := by kernel_rfl
 f4 := ⟨Tryz.f187.name, by kernel_rfl, Tryz.func187.trans (by kernel_rfl)⟩
 t0 := Tryz.underlying0
 a0 := Tryz.isAgg0
 z0 := Tryz.sizeOf0
 v0 := Tryz.zeroValue0
 t3 := Tryz.underlying3
 a3 := Tryz.isAgg3
 z3 := Tryz.sizeOf3
 v3 := Tryz.zeroValue3
 t4 := Tryz.underlying4
 a4 := Tryz.isAgg4
 z4 := Tryz.sizeOf4
 v4 := Tryz.zeroValue4
 t9 := Tryz.underlying9
 a9 := Tryz.isAgg9
 z9 := Tryz.sizeOf9
 v9 := Tryz.zeroValue9
 t20 := Tryz.underlying20
 a20 := Tryz.isAgg20
 z20 := Tryz.sizeOf20
 v20 := Tryz.zeroValue20
 t22 := Tryz.underlying122
 a22 := Tryz.isAgg122
 z22 := Tryz.sizeOf122
 v22 := Tryz.zeroValue122
theorem vk (w : World) : Calls Tryz.prog 187 #[.slice none 0 0, .int .i64 0] w fun e w' => e = .returned (.slice none 0 0) ∧ w' = w :=
 Any8.slices_Grow_room vj none 0 0 0 w (by omega) (by omega) (by omega) (by omega)
theorem Nu : Tryz.prog.info? 3 = some Tryz.t3 := by kernel_rfl
theorem Bp (g : G) (w : World) (n : Nat) (hn : 0 < n) (hn6 : n ≤ 1000000) : Calls Tryz.prog 187 #[.slice none 0 0, .int .i64 n] w fun e w' =>
  ∃ cap v, n ≤ cap ∧ e = .returned v ∧ CatIn g w 1 cap [] v w' := by
 have hb : Tryz.t3.bytes = 8 := by kernel_rfl
 have hs1 : Tryz.t3.size = 1 := by kernel_rfl
 refine (Any8.slices_Grow_grow vj Tryz.t3 (.int .i64 0) Nu (by kernel_rfl) (by rw [hs1]; omega)
  none 0 0 n [] w (by omega) (by omega) (by rw [hb]; omega) (by omega) (by simp) (fun _ => rfl) (fun a h => by cases h)).mono ?_
 rintro e w' ⟨rfl, rfl⟩
 have hge := grownCap_ge w (0 + n) 0 (growRen.t 25)
 rw [Nat.zero_add] at hge ⊢
 refine ⟨_, _, hge, rfl, ?_⟩
 exact AB (z := (Value.int .i64 0).cells) rfl hge
set_option maxHeartbeats 2000000 in
theorem xZ (n b o cap : Nat) (a : Nat → Option Addr) (lens cp tot : Nat → Nat) (w : World) (CI : Nat → Value → World → Prop) (hn : n ≤ 1000000)
  (h0 : tot 0 = 0) (h1 : ∀ k, tot (k + 1) = tot k + lens k) (h2 : ∀ k, k ≤ n → tot k ≤ 1000000) (hc : ∀ k, k < n → w.cell? ⟨b, o + k, none⟩ = some (.slice (a k) (lens k) (cp k)))
  (hgrow : Calls Tryz.prog 187 #[.slice none 0 0, .int .i64 (tot n : Int)] w fun e w' => ∃ v, e = .returned v ∧ CI 0 v w')
  (hcell : ∀ k v wr, CI k v wr → ∀ j, j < n → wr.cell? ⟨b, o + j, none⟩ = some (.slice (a j) (lens j) (cp j)))
  (hstep : ∀ k v wr, k < n → CI k v wr → ∃ v' w', (Builtin.append_ #[122, 122] 122 #[v, .slice (a k) (lens k) (cp k)]).run Tryz.prog wr = .ok v' w' ∧ CI (k + 1) v' w') :
  Calls Tryz.prog 154 #[.slice (some ⟨b, o, none⟩) n cap] w fun e w' => ∃ v, e = .returned v ∧ CI n v w' := by
 go_enter Tryz.func154, Tryz.ntmps154
 go_wp2
 go_loop [3, 11] (fun s i => ∃ k : Nat, k ≤ n ∧ i = .int .i64 k ∧ s = .int .i64 (tot k : Int)) (fun _ i => n - (Go.RowKit.intOf i).toNat)
 case atStart => exact ⟨0, Nat.zero_le _, rfl, by rw [h0]; rfl⟩
 case round =>
  obtain ⟨k, hk, rfl, rfl⟩ := hrel
  by_cases hlt : k < n
  ·have hcl := hc k hlt
   have hk1 := h1 k
   have hk2 := h2 (k + 1) hlt
   go_wp2
   go_round
   case rel => exact ⟨k + 1, by omega, by simp, by rw [hk1]; simp⟩
   case measure => simp [Go.RowKit.intOf]; omega
  ·obtain rfl : k = n := by omega
   go_wp2_with ((go_at_call 187; refine hgrow.mono ?_; rintro e w' ⟨v, rfl, hci⟩))
   clear hgrow h0 h1 h2
   go_loopw [6, 27] (fun v i wr => ∃ j : Nat, j ≤ k ∧ i = .int .i64 j ∧ CI j v wr) (fun _ i _ => k - (Go.RowKit.intOf i).toNat)
   case atStart => exact ⟨0, Nat.zero_le _, rfl, hci⟩
   case round =>
    obtain ⟨j, hj, rfl, hcj⟩ := hrel
    by_cases hlt2 : j < k
    ·have hcl := hcell j _ _ hcj j hlt2
     obtain ⟨v', w', hrun, hcj'⟩ := hstep j _ _ hlt2 hcj
     go_wp2_with (at_builtin; refine Lib.wpList_append_run _ rfl _ _ _ _ rfl _ _ rfl rfl _ _ hrun ?_)
     go_roundw
     case rel => exact ⟨j + 1, by omega, by simp, hcj'⟩
     case measure => simp [Go.RowKit.intOf]; omega
    ·obtain rfl : j = k := by omega
     go_wp2
     go_ret
     exact ⟨_, rfl, hcj⟩
set_option maxHeartbeats 2000000 in
theorem xj (a : Option Addr) (cap : Nat) (w : World) : Calls Tryz.prog 154 #[.slice a 0 cap] w fun e w' => e = .returned (.slice none 0 0) ∧ w' = w := by
 have hgrow := vk w
 go_enter Tryz.func154, Tryz.ntmps154
 go_wp2
 go_loop [3, 11] (fun s i => i = .int .i64 0 ∧ s = .int .i64 0) (fun _ _ => 0)
 case atStart => exact ⟨rfl, rfl⟩
 case round =>
  obtain ⟨rfl, rfl⟩ := hrel
  go_wp2_with ((go_at_call 187; refine hgrow.mono ?_; rintro e w' ⟨rfl, rfl⟩))
  go_loop [6, 27] (fun v i => i = .int .i64 0 ∧ v = .slice none 0 0) (fun _ _ => 0)
  case atStart => exact ⟨rfl, rfl⟩
  case round =>
   obtain ⟨rfl, rfl⟩ := hrel
   go_wp2
   go_ret
   exact ⟨rfl, rfl⟩
theorem rc : ∀ {ls : List V} {l : List V}, concatL ls = some l → ∃ ess : List (List V), ls = ess.map V.list ∧ l = ess.flatten
 | [], l, h => by simp [concatL] at h; subst h; exact ⟨[], rfl, rfl⟩
 | x :: r, l, h => by
  cases x with
  | list es =>
   simp only [concatL, Option.map_eq_some_iff] at h
   obtain ⟨y, h1, rfl⟩ := h
   obtain ⟨ess, rfl, rfl⟩ := rc h1
   exact ⟨es :: ess, rfl, rfl⟩
  | _ => simp [concatL] at h
def baseOf : Value → Option Addr
 | .slice a _ _ => a
 | _ => none
def capOf : Value → Nat
 | .slice _ _ c => c
 | _ => 0
theorem rd (ess : List (List V)) (k : Nat) : (ess.take (k + 1)).flatten = (ess.take k).flatten ++ ess[k]?.getD [] := by
 rw [List.take_succ, List.flatten_append]
 cases ess[k]? <;> simp
theorem yM (ess : List (List V)) (k : Nat) : (ess.take k).flatten.length ≤ ess.flatten.length := by
 have h : ess.flatten = (ess.take k).flatten ++ (ess.drop k).flatten := by rw [← List.flatten_append, List.take_append_drop]
 rw [h, List.length_append]; omega
theorem yN (hm : Tryz.prog.follows .mixedOrders = true) (hN : ∀ (f : Nat) (fn : Func), Tryz.prog.funcs[f]? = some fn → fn.name ≠ "runtime.NumGoroutine") : KnownOk X := by
 refine ⟨GJ hN, zV, fun f fn args v hf hk hv bs g w H args' hS hA => ?_⟩
 rcases Hu f hk with rfl | rfl | rfl | rfl
 case inr.inr.inr =>
  have hv' : (none : Option V) = some v := hv
  cases hv'
 case inr.inl =>
  have hv' : cloneV 1 args = some v := hv
  exact CF hm hN args v hv' bs g w H args' hS hA
 case inr.inr.inl =>
  have hv' : joinV args = some v := hv
  exact F4 hm hN args v hv' bs g w H args' hS hA
 have hv' : concatV 1 args = some v := hv
 clear hv hk
 show Calls Tryz.prog 154 args'.toArray w _
 unfold concatV at hv'
 split at hv'
 case h_2 => cases hv'
 rename_i ls
 obtain ⟨l, hl, hv2⟩ := Option.bind_eq_some_iff.1 hv'
 split at hv2
 case isFalse => cases hv2
 rename_i hcond
 obtain ⟨h1, h2, h3, h4⟩ := hcond
 cases hv2
 obtain ⟨ess, rfl, rfl⟩ := rc hl
 obtain ⟨x', rfl⟩ : ∃ x', args' = [x'] := by
  have := hA.1
  cases args' with
  | nil => simp at this
  | cons x r => cases r with
   | nil => exact ⟨x, rfl⟩
   | cons y r => simp at this
 have hx : VRel g w (.list (ess.map V.list)) x' := hA.2 0 _ _ rfl rfl
 have hall : ∀ el ∈ ess.flatten, el.cells.length = 1 ∧ el.cells.all V.isCell = true := fun el hel => by
  have := List.all_eq_true.1 h4 el hel
  simpa using this
 have hsz : sizeT Tryz.prog 3 = some 1 := by kernel_rfl
 have key0 : ∀ a, ess = [] → Calls Tryz.prog 154 #[.slice a 0 0] w fun e w' => ∃ v' g', e = .returned v' ∧ Out bs g w H g' w' H ∧ VRel g' w' (.list ess.flatten) v' := fun a h => by
  subst h
  exact (xj a 0 w).mono fun e w' ⟨he, hw⟩ => ⟨_, g, he, by rw [hw]; exact Out.refl hS, .listNil⟩
 generalize hes : ess.map V.list = es at hx
 cases hx with
 | listNil => exact key0 none (List.map_eq_nil_iff.1 hes)
 | listZ a => exact key0 (some a) (List.map_eq_nil_iff.1 hes)
 | list b o cap s _ c hlen hpure hs hO hc hr =>
  subst hes
  simp only [List.length_map] at *
  have hs1 : 0 < ess.length → s = 1 := fun h => by
   have := hs 0 (.list ess[0]) (by simp [h])
   simpa [V.cells] using this.symm
  have hrel : ∀ (j : Nat) (e : List V), ess[j]? = some e → VRel g w (.list e) (c j 0) := fun j e he => hr j (.list e) 0 (.list e) (by simp [he]) (by simp [V.cells])
  have hlt : ∀ j, j < ess.length → b < w.heap.size := fun j hj => hS.old b _ (by rw [hO j 0 hj (by rw [hs1 (by omega)]; omega)]; simp)
  have hval : ∀ j, j < ess.length → c j 0 = .slice (baseOf (c j 0)) (ess[j]?.getD []).length (capOf (c j 0)) := fun j hj => by
   obtain ⟨a, cp, e1, _⟩ := pb (hrel j ess[j] (by simp [hj]))
   rw [e1]; simp [baseOf, capOf, hj]
  have hcell : ∀ j, j < ess.length → w.cell? ⟨b, o + j, none⟩ = some (.slice (baseOf (c j 0)) (ess[j]?.getD []).length (capOf (c j 0))) := fun j hj => by
   have := hc j 0 hj (by rw [hs1 (by omega)]; omega)
   rw [hs1 (by omega), Nat.mul_one, Nat.add_zero] at this
   rw [this, ← hval j hj]
  have hend : (ess.take ess.length).flatten = ess.flatten := by rw [List.take_length]
  refine (xZ ess.length b o cap (fun j => baseOf (c j 0)) (fun j => (ess[j]?.getD []).length) (fun j => capOf (c j 0)) (fun j => (ess.take j).flatten.length) w
   (fun j v wr => (ess.flatten = [] ∧ v = .slice none 0 0 ∧ wr = w) ∨ ∃ cp, ess.flatten.length ≤ cp ∧ CatIn g w 1 cp (ess.take j).flatten v wr)
   h2 (by simp) (fun k => by rw [rd, List.length_append]) (fun k _ => Nat.le_trans (yM ess k) h1) hcell ?_ ?_ ?_).mono ?_
  ·rw [hend]
   by_cases h0 : ess.flatten = []
   ·rw [h0]
    exact (vk w).mono fun e w' ⟨he, hw⟩ => ⟨_, he, .inl ⟨rfl, rfl, hw⟩⟩
   ·refine (Bp g w ess.flatten.length (by have := List.length_pos_iff.2 h0; omega) h1).mono ?_
    rintro e w' ⟨cp, v, hcp, he, hI⟩
    exact ⟨v, he, .inr ⟨cp, hcp, by simpa using hI⟩⟩
  ·rintro k v wr (⟨_, _, rfl⟩ | ⟨cp, hcp, hI⟩) j hj
   ·exact hcell j hj
   ·rw [hI.2.1.1.cell (p := ⟨b, o + j, none⟩) (hlt j hj)]
    exact hcell j hj
  ·rintro k v wr hk hI
   have hek : ess[k]? = some ess[k] := by simp [hk]
   have hkv := hval k hk
   have hre := hrel k _ hek
   rw [hkv] at hre
   rcases hI with ⟨h0, rfl, rfl⟩ | ⟨cp, hcp, hI⟩
   ·have hnil : ess[k]?.getD [] = [] := by
     have h5 := List.flatten_eq_nil_iff.1 h0 ess[k] (by simp)
     rw [hek]; exact h5
    have hre' : VRel g wr (.list []) (.slice (baseOf (c k 0)) (ess[k]?.getD []).length (capOf (c k 0))) := by
     rw [hek] at hnil
     simp only [Option.getD_some] at hnil
     rw [hnil] at hre
     exact hre
    obtain ⟨cells, g1, g2, _⟩ := kI (P := Tryz.prog) (sz := 1) hre' (fun j e h => by simp at h) wr rfl
    have := iw (P := Tryz.prog) (ty := 122) (a := none) (L := 0) (cap := 0) Tryz.underlying122 Tryz.underlying122 hsz (Nat.le_refl _) (by rw [hnil]; rfl) g1 (by simpa using g2)
    exact ⟨_, _, this, .inl ⟨h0, rfl, rfl⟩⟩
   ·have hcap : (ess.take k).flatten.length + (ess[k]).length ≤ cp := by
     have h6 := yM ess (k + 1)
     rw [rd, hek, List.length_append] at h6
     simp only [Option.getD_some] at h6
     omega
    have hmem : ∀ el ∈ ess[k], el ∈ ess.flatten := fun el hel => List.mem_flatten.2 ⟨_, by simp, hel⟩
    obtain ⟨v', w', g1, g2⟩ := BT (P := Tryz.prog) (ty := 122) (fun b o h => hS.old b o (by rw [h]; simp)) Tryz.underlying122 Tryz.underlying122 hsz hI hre (fun el hel => hall el (hmem el hel))
     (fun j el q y hj hy => by
      obtain ⟨hq, _⟩ := List.getElem?_eq_some_iff.1 hy
      have : el ∈ ess.flatten := by
       have h7 := List.mem_of_getElem? hj
       obtain ⟨e0, h8, h9⟩ := List.mem_flatten.1 h7
       exact List.mem_flatten.2 ⟨e0, List.mem_of_mem_take h8, h9⟩
      have := (hall el this).1
      omega) hcap
    refine ⟨v', w', g1, .inr ⟨cp, hcp, ?_⟩⟩
    rw [rd, hek]
    exact g2
  ·rintro e w' ⟨v, he, hI⟩
   rw [hend] at hI
   rcases hI with ⟨h0, rfl, rfl⟩ | ⟨cp, hcp, hI⟩
   ·exact ⟨_, g, he, Out.refl hS, by rw [h0]; exact .listNil⟩
   ·obtain ⟨g', o1, o2⟩ := FN hS hI hcp h3 (fun j el h => (hall el (List.mem_of_getElem? h)).1)
    exact ⟨v, g', he, o1, o2⟩
end Go.E
namespace Go.E
open Go.Proofs Go.RowKit
set_option maxRecDepth 100000
theorem CG : CallOk X (callw X) := sr (cx := X) oB Hr (yN oB noNum) noNum
theorem CH : KnownOk X2 := yN oB noNum
theorem CJ (w : World) {f : Nat} {xs : List V} {vs : List Value} (hc : callw X2 [] f xs [] = some (.bool true, [])) (hr : ArgsR (G.all w) w xs vs) :
  Calls Tryz.prog f vs.toArray w fun e w' => e = .returned (.bool true) ∧ Below w.heap.size w w' := by
 obtain ⟨_, h⟩ := (sr (cx := X2) oB (Gs oB CG) CH noNum).2 _ _ _ _ _ _ hc
 refine (h (G.all w) w vs (F0 w) hr).mono ?_
 rintro e w' ⟨v', g', rfl, ho, hv⟩
 cases hv
 exact ⟨rfl, AI ho.ext⟩
end Go.E
