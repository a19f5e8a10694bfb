/- 'slices.SortFunc' of lists of whole numbers, by the shelf's contract. Own work. -/
import Derived.Test.YtbnakdpmjlcneaaGreatP3
import Derived.Shelf.SlSortCmp.Whole1
set_option linter.all false
namespace Go.E
open Go.Proofs Go.Shelf Go.RowKit Go.Lib Go.Sort
set_option maxRecDepth 100000
section
variable {P : Program} {g : G} {w : World} {bs : List Nat} {H : Heap}
/-- Nothing of what was is turned: what is new lies behind it. -/
theorem world_grow {g' : G} {w' : World} (h : Ext (G.all w) w g' w') : ∃ q os, w' = grow (w.drewN q) os := by
  have hf : ∀ b, b < w.heap.size → w'.heap[b]? = w.heap[b]? := fun b hb => (h.free b hb (fun o id => by simp [G.all, hb])).1
  have he : w'.heap = w.heap ++ w'.heap.extract w.heap.size w'.heap.size := by
    apply Array.ext_getElem?
    intro i
    by_cases hi : i < w.heap.size
    · rw [hf i hi, Array.getElem?_append_left hi]
    · rw [Array.getElem?_append_right (by omega), Array.getElem?_extract]
      have hs := h.size
      by_cases h2 : i < w'.heap.size
      · rw [if_pos (by omega)]; congr 1; omega
      · rw [if_neg (by omega), Array.getElem?_eq_none (by omega)]
  refine ⟨w'.drawn - w.drawn, w'.heap.extract w.heap.size w'.heap.size, ?_⟩
  have hd := h.drawn
  have e1 : w.drawn + (w'.drawn - w.drawn) = w'.drawn := by omega
  have e2 := h.os
  have e3 := h.tape
  have e4 := h.output
  cases w'
  simp only [grow, World.drewN] at *
  simp only [World.mk.injEq]
  exact ⟨he, e3, e1.symm, e2, e4⟩

def putList (c : Array Value) (o : Nat) : List Value → Array Value
  | [] => c
  | v :: r => putList (c.setIfInBounds o v) (o + 1) r
theorem putList_get : ∀ (l : List Value) (c : Array Value) (o k : Nat), (putList c o l)[k]? = (c[k]?).map fun y => if o ≤ k ∧ k < o + l.length then (l[k - o]?).getD y else y
  | [], c, o, k => by
    simp only [putList, List.length_nil]
    cases c[k]? with
    | none => rfl
    | some y => simp only [Option.map_some]; rw [if_neg (by omega)]
  | v :: r, c, o, k => by
    rw [putList, putList_get r, Array.getElem?_setIfInBounds]
    by_cases h : o = k
    · subst h
      by_cases hs : o < c.size
      · simp [hs]; intro h; omega
      · simp [hs]
    · rw [if_neg h]
      cases c[k]? with
      | none => rfl
      | some y =>
        simp only [Option.map_some, List.length_cons]
        by_cases h1 : o + 1 ≤ k ∧ k < o + 1 + r.length
        · rw [if_pos h1, if_pos (by omega), show k - o = (k - (o + 1)) + 1 by omega, List.getElem?_cons_succ]
        · rw [if_neg h1, if_neg (by omega)]
theorem setCells_put : ∀ (l : List Value) (w : World) (b o : Nat), w.setCells b o l = mapBlock w b fun c => putList c o l
  | [], w, b, o => by
    rw [World.setCells]
    exact (mapBlock_id w b _ fun c e fr h => rfl).symm
  | v :: r, w, b, o => by
    rw [World.setCells, setCells_put r, setCell_eq, mapBlock_mapBlock]
    rfl
theorem putRow_set {α : Type} [Inhabited α] (enc : α → Value) (w : World) (b o : Nat) (d : Array α) : putRow enc w b o d = w.setCells b o (d.toList.map enc) := by
  rw [setCells_put]
  unfold putRow
  refine mapBlock_congr w b _ _ fun c e fr h => ?_
  apply Array.ext_getElem?
  intro k
  rw [putList_get]
  simp only [putCells, Array.getElem?_mapIdx, List.length_map, Array.length_toList]
  cases c[k]? with
  | none => rfl
  | some y =>
    simp only [Option.map_some]
    by_cases h1 : o ≤ k ∧ k < o + d.size
    · have hk : k - o < d.size := by omega
      rw [if_pos h1, if_pos h1, getElem!_pos d (k - o) hk]
      simp [hk]
    · rw [if_neg h1, if_neg h1]

theorem out_allocs : ∀ (os : List Obj) {w : World}, Sim bs g H w → Out bs g w H g (grow w os.toArray) H
  | [], w, hS => by
    have e : grow w (List.toArray []) = w := by simp [grow]
    rw [e]; exact Out.refl hS
  | o :: r, w, hS => by
    have h1 : Out bs g w H g (w.alloc o) H := ⟨hS.allocFree, ext_alloc hS.old, Nat.le_refl _, fun id => ⟨.inl, fun h => h.resolve_right (by omega)⟩⟩
    have e2 : w.heap.push o ++ r.toArray = w.heap ++ (o :: r).toArray := by apply Array.ext'; simp
    have e : grow (w.alloc o) r.toArray = grow w (o :: r).toArray := by
      show ({ w with heap := w.heap.push o ++ r.toArray } : World) = { w with heap := w.heap ++ (o :: r).toArray }
      rw [e2]
    rw [← e]
    exact h1.trans (out_allocs r h1.sim)

theorem ints_bear {g' : G} {w' : World} {a : List Int} {v : Value} (h : VRel g w (encIs a) v) (hb : ∀ b o, g.O b o = .imm → g'.O b o = .imm ∧ w'.cell? ⟨b, o, none⟩ = w.cell? ⟨b, o, none⟩) : VRel g' w' (encIs a) v := by
  unfold encIs at h ⊢
  generalize he : a.map (V.int .i64) = es at h ⊢
  cases h with
  | listNil => exact .listNil
  | listZ a => exact .listZ a
  | list b o cap s es c hlen hpure hs hO hc hr =>
    refine .list b o cap s es c hlen hpure hs (fun j i hj hi => (hb _ _ (hO j i hj hi)).1) (fun j i hj hi => ((hb _ _ (hO j i hj hi)).2).trans (hc j i hj hi)) (fun j e i v hj hv => ?_)
    have h3 := hr j e i v hj hv
    rw [← he, List.getElem?_map] at hj
    cases hx : a[j]? with
    | none => simp [hx] at hj
    | some x =>
      simp [hx] at hj; subst hj
      cases i with
      | zero =>
        simp [V.cells] at hv; subst hv
        generalize c j 0 = y at h3 ⊢
        cases h3; exact .int _ _
      | succ i => simp [V.cells] at hv
/-- An element of the list: what lies there, and the numbers that it stands for. -/
abbrev El (g : G) (w : World) := { p : Value × List Int // VRel g w (encIs p.2) p.1 ∧ p.2.length ≤ 1000000 }
instance : Inhabited (El g w) := ⟨⟨(.slice none 0 0, []), .listNil, Nat.zero_le _⟩⟩
theorem swo_cmpL : SWO (ltOf fun (x y : El g w) => cmpL x.1.2 y.1.2) where
  irrefl x := by unfold ltOf; rw [decide_eq_false_iff_not, cmpL_lt, befL_irr]; simp
  trans x y z h1 h2 := by
    unfold ltOf at *
    rw [decide_eq_true_eq, cmpL_lt] at *
    exact befL_trans _ _ _ h1 h2
  ntrans x y z h1 h2 := by
    unfold ltOf at *
    rw [decide_eq_false_iff_not, cmpL_lt, Bool.not_eq_true] at *
    exact befL_ntrans _ _ _ h1 h2
theorem ints_some : ∀ {l : List V} {a : List Int}, intsOf l = some a → l = a.map (.int .i64)
  | [], a, h => by cases h; rfl
  | v :: r, a, h => by
    cases v with
    | int k n =>
      cases k with
      | i64 =>
        simp only [intsOf, Option.map_eq_some_iff] at h
        obtain ⟨b, h1, rfl⟩ := h
        rw [ints_some h1]; rfl
      | _ => simp [intsOf] at h
    | _ => simp [intsOf] at h
theorem listsOf_some : ∀ {l : List V} {ls : List (List Int)}, listsOf l = some ls → l = ls.map encIs
  | [], ls, h => by cases h; rfl
  | v :: r, ls, h => by
    cases v with
    | list es =>
      simp only [listsOf] at h
      obtain ⟨a, h1, h2⟩ := Option.bind_eq_some_iff.1 h
      obtain ⟨m, h3, rfl⟩ := Option.map_eq_some_iff.1 h2
      rw [listsOf_some h3, ints_some h1]; rfl
    | _ => simp [listsOf] at h
theorem take_lists (ls : List (List Int)) : takeElems 1 (ls.map encIs) = some (ls.map encIs) :=
  takeElems_map fun x => by
    have h : V.pureL (x.map (V.int .i64)) = true := pureL_map fun _ => rfl
    simp [takeElem, encIs, V.norm, norm1, V.cells, V.pure, V.isCell, h]

theorem sort_ok {ρ : Ren} (L : SlLaysF.n6 P ρ) (c : Nat) (eg : ∀ args w, (callFunc c args).run P w = .ok (.enter c args) w)
    (hc : ∀ (w : World) (a b : List Int) (v1 v2 : Value), a.length ≤ 1000000 → b.length ≤ 1000000 → VRel (G.all w) w (encIs a) v1 → VRel (G.all w) w (encIs b) v2 → Calls P c #[v1, v2] w fun e w' => e = .returned (.int .i64 (cmpL a b)) ∧ ∃ g', Ext (G.all w) w g' w')
    (args' : List Value) (hS : Sim bs g H w) {id ver len : Nat} {es : List V} {ls : List (List Int)} (hH : H[id]? = some (.arr es ver)) (hlen : len = es.length) (h0 : 0 < len) (h6 : len ≤ 1000000) (hls : listsOf es = some ls) (hl6 : ∀ x ∈ ls, x.length ≤ 1000000)
    (hA : ArgsR g w [.ref 1 id ver 0 len, .func c []] args') :
    Calls P (ρ.f 6) args'.toArray w fun e w' => ∃ v' g', e = .returned v' ∧ Out bs g w H g' w' (H.set id (.arr ((sortL ls).map encIs) ver)) ∧ VRel g' w' .undef v' := by
  obtain ⟨s', f', rfl⟩ : ∃ s' f', args' = [s', f'] := by
    have h := hA.1
    match args', h with
    | [x, y], _ => exact ⟨x, y, rfl⟩
  have hs : VRel g w (.ref 1 id ver 0 len) s' := hA.2 0 _ _ rfl rfl
  have hf : VRel g w (.func c []) f' := hA.2 1 _ _ rfl rfl
  cases hf with
  | func _ _ vs hvs _ =>
  obtain rfl : vs = #[] := Array.eq_empty_of_size_eq_zero hvs
  cases hs with
  | ref _ _ _ _ _ cap b o0 s1 ext ver' b' o hφ hv hle hcur =>
  obtain ⟨hver, hext, hes, hown, hcell⟩ := obj_arr hS hH hφ
  subst hver
  obtain ⟨rfl, hcap⟩ := hcur rfl
  obtain ⟨rfl, rfl, hcx⟩ := hcap (by omega)
  have hel0 := listsOf_some hls
  have hll : ls.length = len := by rw [hlen, hel0, List.length_map]
  have hel : ∀ (j : Nat) (hj : j < ls.length), ∃ v, w.cell? ⟨b', o + j, none⟩ = some v ∧ VRel g w (encIs ls[j]) v := fun j hj => by
    obtain ⟨v, h1, h2⟩ := hcell j (encIs ls[j]) 0 (encIs ls[j]) (by rw [hel0, List.getElem?_map]; simp [hj]) rfl
    rw [Nat.mul_one, Nat.add_zero] at h1
    exact ⟨v, h1, h2⟩
  let d : Array (El g w) := Array.ofFn (n := ls.length) fun j => ⟨(Classical.choose (hel j.1 j.2), ls[j.1]), (Classical.choose_spec (hel j.1 j.2)).2, hl6 _ (List.getElem_mem j.2)⟩
  have hds : d.size = ls.length := by simp [d]
  have hdg : ∀ (j : Nat) (hj : j < ls.length), d[j]! = ⟨(Classical.choose (hel j hj), ls[j]), (Classical.choose_spec (hel j hj)).2, hl6 _ (List.getElem_mem hj)⟩ := fun j hj => by
    rw [getElem!_pos d j (by omega)]; simp [d]
  have hfz : ∀ j, j < ls.length → w.frozen? ⟨b', o + j, none⟩ = false := fun j hj => (hown j (by rw [Nat.mul_one] at hext; omega)).2.1
  have hHd : Holds (fun x : El g w => x.1.1) w b' o d := fun j hj => by
    rw [hds] at hj
    refine ⟨?_, hfz j hj⟩
    rw [hdg j hj]
    exact (Classical.choose_spec (hel j hj)).1
  have hb : b' < w.heap.size := hS.old b' (o + 0) (by rw [(hown 0 (by rw [Nat.mul_one] at hext; omega)).1]; simp)
  have hcmp : CmpLays1 P c #[] (fun x : El g w => x.1.1) (fun x y => cmpL x.1.2 y.1.2) b' o d.size w := by
    intro m os dk hdk x y
    have hW : ∀ bb oo, g.O bb oo = .imm → (G.all (sortWorld (fun x : El g w => x.1.1) w b' o m dk os)).O bb oo = .imm ∧ (sortWorld (fun x : El g w => x.1.1) w b' o m dk os).cell? ⟨bb, oo, none⟩ = w.cell? ⟨bb, oo, none⟩ := fun bb oo hO => by
      have hbb : bb < w.heap.size := hS.old bb oo (by rw [hO]; simp)
      have hsz : (putRow (fun x : El g w => x.1.1) (Sort.ahead w m) b' o dk).heap.size = w.heap.size := by rw [Go.Proofs.size_putRow]; rfl
      refine ⟨?_, ?_⟩
      · have : bb < (sortWorld (fun x : El g w => x.1.1) w b' o m dk os).heap.size := by
          unfold sortWorld grow
          simp only [Array.size_append]; omega
        simp [G.all, this]
      · unfold sortWorld
        rw [cell?_grow _ _ _ (by rw [hsz]; exact hbb), cell?_putRow_other]
        · rfl
        · simp only
          by_cases e : bb = b'
          · subst e
            by_cases h1 : oo < o ∨ o + dk.size ≤ oo
            · exact .inr h1
            · have := (hown (oo - o) (by rw [Nat.mul_one] at hext; omega)).1
              rw [show o + (oo - o) = oo by omega, hO] at this
              cases this
          · exact .inl e
    refine (hc _ x.1.2 y.1.2 _ _ x.2.2 y.2.2 (ints_bear x.2.1 hW) (ints_bear y.2.1 hW)).mono ?_
    rintro e w' ⟨he, g', hx⟩
    exact ⟨he, world_grow hx⟩
  have hcon := Any.slices_SortFunc L (fun x : El g w => x.1.1) (fun x => rel_list_one x.2.1) (fun x y => cmpL x.1.2 y.1.2) swo_cmpL c #[] b' o cap d w eg hcmp hHd hb (by rw [hds]; omega)
  rw [hds, hll] at hcon
  show Calls P (ρ.f 6) #[Value.slice (some ⟨b', o, none⟩) len cap, .func (.func c) #[] #[]] w _
  refine hcon.mono ?_
  rintro e w' ⟨rfl, d', n, os, hp, hso, rfl⟩
  refine ⟨_, g, rfl, ?_, .undef _⟩
  obtain ⟨hps, _, hpp⟩ := hp
  have hd's : d'.size = len := by rw [hps, hds, hll]
  have e1 : d'.extract 0 len = d' := by rw [← hd's]; exact Array.extract_size
  have e2 : d.extract 0 len = d := by rw [← hll, ← hds]; exact Array.extract_size
  rw [e1, e2] at hpp
  have hdl : d.toList.map (fun x => x.1.2) = ls := by
    apply List.ext_getElem (by simp [hds])
    intro j h1 h2
    simp [d]
  have hsl : d'.toList.map (fun x => x.1.2) = sortL ls := by
    refine sortL_is (by rw [← hdl]; exact hpp.map _) ?_
    rw [List.pairwise_iff_getElem]
    intro i j hi hj hij
    simp only [List.length_map, Array.length_toList] at hi hj
    have := hso i j (Nat.zero_le _) hij (by omega)
    rw [getElem!_pos d' j hj, getElem!_pos d' i hi] at this
    unfold ltOf at this
    rw [decide_eq_false_iff_not, cmpL_lt, Bool.not_eq_true] at this
    simp [this]
  have o1 := sim_drew hS (w.drawn + n) (Nat.le_add_right _ _)
  have hnew : takeElems 1 ((sortL ls).map encIs) = some ((sortL ls).map encIs) := take_lists _
  have o2 := ref_put (old := []) o1.sim ver (Nat.le_refl _) (by decide) hH hφ (Nat.zero_le _) (by rfl) hnew (d'.toList.map fun x => x.1.1) (by rw [List.length_map, List.length_map, ← hsl, List.length_map, Nat.mul_one]) (by
      rw [List.length_map, sortL_len, Nat.zero_add, hll, hlen]; exact hext) (fun j e q y hj hy => by
      rw [← hsl, List.map_map, List.getElem?_map] at hj
      cases hx : d'.toList[j]? with
      | none => simp [hx] at hj
      | some x =>
        simp [hx] at hj; subst hj
        cases q with
        | succ q => simp [encIs, V.cells] at hy
        | zero =>
          simp [encIs, V.cells] at hy; subst hy
          refine ⟨x.1.1, by simp [hx], ?_⟩
          exact x.2.1.mono o1.ext)
  rw [List.nil_append, Nat.zero_mul, Nat.add_zero] at o2
  have hg : ({ g with φ := fun i => if i = id then some (.arr b' o 1 ext ver) else g.φ i } : G) = g := by
    cases g with
    | mk O φ =>
      simp only [G.mk.injEq, true_and]
      funext i
      by_cases e : i = id
      · subst e; simp; exact hφ.symm
      · simp [e]
  rw [hg] at o2
  have ew : sortWorld (fun x : El g w => x.1.1) w b' o n d' os = grow (World.setCells { w with drawn := w.drawn + n } b' o (d'.toList.map fun x => x.1.1)) os.toList.toArray := by
    unfold sortWorld
    rw [putRow_set]
    simp [Sort.ahead]
  rw [ew]
  exact (o1.trans o2).trans (out_allocs _ o2.sim)
end
end Go.E
