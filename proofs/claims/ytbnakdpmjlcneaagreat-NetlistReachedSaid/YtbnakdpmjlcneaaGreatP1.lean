/- Soundness of E, operation by operation (6): make, append. Own work. -/
import Derived.Test.YtbnakdpmjlcneaaGreatP0
import Derived.OrdersIn
import Derived.LoopNIn
import Derived.Scope
import Derived.RangeFuncNested
set_option linter.all false
namespace Go.E
section
variable {P : Program} {g : G} {w : World} {bs : List Nat} {H : Heap}

theorem wrap_small {n : Int} (h0 : 0 ≤ n) (h1 : n ≤ 9223372036854775807) : IntKind.i64.wrap n = n := by
  unfold IntKind.wrap
  simp [IntKind.bits, IntKind.signed]
  omega

theorem elem_under {t e : TypeId} (h : elemT P t = some e) : P.underlying t = some (.slice e) := by
  unfold elemT at h; split at h <;> simp at h; subst h; assumption

theorem info_of {t : TypeId} {s b : Nat} (hs : sizeT P t = some s) (hb : bytesT P t = some b) : ∃ i, P.info? t = some i ∧ i.bytes = b ∧ i.size = s := by
  unfold sizeT at hs; unfold bytesT at hb
  cases h : P.info? t with
  | none => simp [h] at hs
  | some i => exact ⟨i, rfl, by simpa [h] using hb, by simpa [h] using hs⟩

theorem makeSlice_sound (hS : Sim bs g H w) {id : Nat} {t el sz by_ : Nat} {z : V} {k k' : IntKind} {n : Int} (hO : Open bs g H id (.arr (List.replicate n.toNat z) 0)) (he : elemT P t = some el) (hsz : sizeT P el = some sz) (hby : bytesT P el = some by_)
    (hz : zeroT P el = some z) (h0 : 0 ≤ n) (hb : n.toNat * by_ ≤ roomB) (hn : n ≤ roomB) (hs0 : sz ≠ 0) (hzl : z.cells.length = sz) (hzc : z.cells.all V.isCell = true) :
    ∃ v' w' g', (Instr.makeSlice t (.int k n) (.int k' n)).run P w = .ok v' w' ∧ Lay bs g w H id g' w' ∧ VRel g' w' (.ref sz id 0 0 n.toNat) v' := by
  have hu := elem_under he
  obtain ⟨zv, hzv, hzr⟩ := zero_of hz
  unfold roomB at hb hn
  obtain ⟨i, hi, hib, his⟩ := info_of hsz hby
  have hw : IntKind.i64.wrap n = n := wrap_small h0 (by omega)
  obtain ⟨hr1, hr2⟩ := cells_rel (g := g) (w := w) (by rw [hzv]; exact ofVal_rel zv : VRel g w z zv) (not_undef hzc)
  obtain ⟨m, rfl⟩ : ∃ m : Nat, n = m := ⟨n.toNat, by omega⟩
  simp only [Int.toNat_natCast] at hb ⊢
  have hbig : ¬ ((by_ : Int) * m > 2 ^ 48) := by
    have : m * by_ = by_ * m := Nat.mul_comm _ _
    have h2 : ((by_ * m : Nat) : Int) = (by_ : Int) * m := by simp
    rw [← h2]; omega
  generalize hcs : ((Array.range (m * sz)).map fun i => (if m * sz = 0 then (#[] : Array Value) else zv.cells)[i % (if m * sz = 0 then (#[] : Array Value) else zv.cells).size]!) = cs
  have hcl : cs.size = m * sz := by rw [← hcs]; simp
  have hget : ∀ j q, j < m → q < sz → cs[j * sz + q]? = zv.cells[q]? := fun j q hj hq => by
    have hlt : j * sz + q < m * sz := by
      have : (j + 1) * sz ≤ m * sz := Nat.mul_le_mul_right sz hj
      rw [Nat.add_mul, Nat.one_mul] at this; omega
    have hne : m * sz ≠ 0 := by omega
    rw [← hcs]
    simp only [hne, if_false]
    have hzs : zv.cells.size = sz := by omega
    rw [Array.getElem?_map, Array.getElem?_range]
    simp only [hlt, if_true, Option.map_some, hzs]
    rw [Nat.mul_comm j sz, Nat.mul_add_mod, Nat.mod_eq_of_lt hq]
    simp [show q < zv.cells.size by omega]
  have hrun : (Instr.makeSlice t (.int k (m : Int)) (.int k' (m : Int))).run P w = .ok (.slice (some ⟨w.heap.size, 0, none⟩) m m) { w with heap := w.heap.push (.cells cs el) } := by
    have c1 : ¬ ((m : Int) < 0) := by omega
    have c2 : ¬ ((m : Int) > m) := by omega
    by_cases hzz : m * sz = 0
    · simp only [hzz, if_true] at hcs
      simp only [Instr.makeSlice, Sem.run_bind, run_underlying hu, Result.andThen_ok, asInt, asIntOf, Sem.run_pure, run_typeInfo hi, hw, hib, hbig, c1, c2, decide_false, Bool.or_false, Bool.false_eq_true, if_false, Sem.run_ite, run_askRoom, sizeOf, his, Int.toNat_natCast, hzz, if_true]
      rw [hcs]
      simp [newRow]
    · simp only [hzz, if_false] at hcs
      simp only [Instr.makeSlice, Sem.run_bind, run_underlying hu, Result.andThen_ok, asInt, asIntOf, Sem.run_pure, run_typeInfo hi, hw, hib, hbig, c1, c2, decide_false, Bool.or_false, Bool.false_eq_true, if_false, Sem.run_ite, run_askRoom, sizeOf, his, Int.toNat_natCast, hzz, hzr]
      rw [hcs]
      simp [newRow]
  refine ⟨_, _, g.lay w.heap.size (fun _ => .res id) id (some (.arr w.heap.size 0 sz (m * sz) 0)), hrun, ?_, ?_⟩
  · refine lay_at hS _ _ _ _ hO (.arr _ _ _ _ _ _ (by simp) (fun j e hj => ?_) (fun q hq => ⟨by simp [G.lay], frozen_push_new cs el _, ?_⟩) (fun j e q v hj hv => ?_))
    · obtain ⟨hlt, _⟩ := List.getElem?_eq_some_iff.1 hj
      simp at hlt
      simp [hlt] at hj
      rw [← hj]; exact hzl
    · rw [Nat.zero_add, cell_push_new]; exact ⟨cs[q]'(by omega), by simp [show q < cs.size by omega]⟩
    · obtain ⟨hlt, _⟩ := List.getElem?_eq_some_iff.1 hj
      simp at hlt
      simp [hlt] at hj
      rw [← hj] at hv
      obtain ⟨hq, _⟩ := List.getElem?_eq_some_iff.1 hv
      rw [Nat.zero_add, cell_push_new, hget j q hlt (by omega)]
      exact ⟨zv.cells[q]'(by omega), by simp [show q < zv.cells.size by omega], (hr2 q v _ hv (by simp [show q < zv.cells.size by omega])).mono (ext_lay hS _ _ hO.none _)⟩
  · exact .ref _ _ _ _ _ m w.heap.size 0 sz (m * sz) 0 _ _ (by simp [G.lay]) (Nat.le_refl _) (Nat.le_refl _) (fun _ => ⟨rfl, fun _ => ⟨rfl, by omega, by rw [Nat.zero_add]; exact Nat.le_refl _⟩⟩)

/-! ### append -/
theorem norm_cells (v : V) : v.norm.cells = v.cells.map norm1 := by
  cases v <;> simp [V.norm, norm1, V.cells]
theorem norm_cells_length (v : V) : v.norm.cells.length = v.cells.length := by rw [norm_cells]; simp

theorem at_lt {L j q sz : Nat} (hj : j < L) (hq : q < sz) : j * sz + q < L * sz := by
  have : (j + 1) * sz ≤ L * sz := Nat.mul_le_mul_right sz hj
  rw [Nat.add_mul, Nat.one_mul] at this; omega

/-- What is read to be appended. -/
theorem elems_run (hS : Sim bs g H w) {x : V} {x' : Value} {xs new : List V} {sz : Nat} (hx : VRel g w x x') (he : elemsV H x = some xs) (ht : takeElems sz xs = some new) :
    ∃ a cap cells, x' = .slice a xs.length cap ∧ (Builtin.firstCells sz xs.length x').run P w = .ok (List.toArray cells) w ∧ cells.length = xs.length * sz ∧
      ∀ (j : Nat) (e : V) (q : Nat) (y : V), new[j]? = some e → e.cells[q]? = some y → ∃ y', cells[j * sz + q]? = some y' ∧ VRel g w y y' := by
  obtain ⟨k1, k2, k3⟩ := takeElems_spec ht
  have get : ∀ (j : Nat) (e : V), new[j]? = some e → ∃ v, xs[j]? = some v ∧ e = v.norm ∧ e.cells.length = sz ∧ e.cells.all V.isCell = true := fun j e hj => by
    obtain ⟨v, h1, h2⟩ := k3 j e hj
    have := k2 e (List.mem_of_getElem? hj)
    exact ⟨v, h1, h2, this.1, this.2.2⟩
  have xsz : ∀ (j : Nat) (e : V), xs[j]? = some e → e.cells.length = sz := fun j e hj => by
    obtain ⟨hlt, _⟩ := List.getElem?_eq_some_iff.1 hj
    have h1 : new[j]? = some (new[j]'(by omega)) := by simp
    obtain ⟨v, h2, h3, h4, _⟩ := get j _ h1
    rw [hj] at h2; cases h2
    rw [h3, norm_cells_length] at h4; exact h4
  have row : ∀ (b o : Nat) (cell : Nat → Value), (∀ k, k < xs.length * sz → w.cell? ⟨b, o + k, none⟩ = some (cell k)) →
      (∀ (j : Nat) (e : V) (q : Nat) (y : V), xs[j]? = some e → e.cells[q]? = some y → VRel g w y (cell (j * sz + q))) →
      ∃ cells, (loadCells ⟨b, o, none⟩ (xs.length * sz)).run P w = .ok (List.toArray cells) w ∧ cells.length = xs.length * sz ∧
        ∀ (j : Nat) (e : V) (q : Nat) (y : V), new[j]? = some e → e.cells[q]? = some y → ∃ y', cells[j * sz + q]? = some y' ∧ VRel g w y y' := by
    intro b o cell hc hr
    have hl := run_loadCells (P := P) w ⟨b, o, none⟩ (xs.length * sz) cell (fun j hj => by rw [add_plain]; exact hc j hj)
    refine ⟨(List.range (xs.length * sz)).map cell, hl, by simp, fun j e q y hj hy => ?_⟩
    obtain ⟨v, h1, rfl, h3, h4⟩ := get j e hj
    obtain ⟨hlt, _⟩ := List.getElem?_eq_some_iff.1 h1
    obtain ⟨hq, _⟩ := List.getElem?_eq_some_iff.1 hy
    have hk := at_lt (sz := sz) hlt (show q < sz by omega)
    refine ⟨cell (j * sz + q), by simp [hk], ?_⟩
    rw [norm_cells, List.getElem?_map] at hy
    cases hv : v.cells[q]? with
    | none => simp [hv] at hy
    | some u => simp [hv] at hy; subst hy; exact norm1_rel (hr j v q u h1 hv)
  have lists : ∀ es, elemsV H x = some es → VRel g w (.list es) x' → ∃ a cap cells, x' = .slice a xs.length cap ∧ (Builtin.firstCells sz xs.length x').run P w = .ok (List.toArray cells) w ∧ cells.length = xs.length * sz ∧
      ∀ (j : Nat) (e : V) (q : Nat) (y : V), new[j]? = some e → e.cells[q]? = some y → ∃ y', cells[j * sz + q]? = some y' ∧ VRel g w y y' := by
    intro es he2 hx
    rw [he2] at he; cases he
    cases hx with
    | listNil =>
      refine ⟨none, 0, [], rfl, by simp [Builtin.firstCells], by simp, fun j e q y hj => ?_⟩
      simp at k1; rw [k1] at hj; simp at hj
    | listZ a =>
      refine ⟨some a, 0, [], rfl, by simp [Builtin.firstCells, loadCells, loadCellsFrom], by simp, fun j e q y hj => ?_⟩
      simp at k1; rw [k1] at hj; simp at hj
    | list b o cap s _ c hlen hpure hs hO hc hr =>
      by_cases h0 : xs.length = 0
      · have hxs : xs = [] := List.eq_nil_of_length_eq_zero h0
        subst hxs
        have hl := run_loadCells (P := P) w ⟨b, o, none⟩ 0 (fun _ => Go.undef) (fun j hj => by omega)
        refine ⟨some ⟨b, o, none⟩, cap, [], rfl, by simpa [Builtin.firstCells] using hl, by simp, fun j e q y hj => ?_⟩
        simp at k1; rw [k1] at hj; simp at hj
      · have hs0 : s = sz := by
          have e1 : xs[0]? = some (xs[0]'(by omega)) := by simp
          rw [← hs 0 _ e1, xsz 0 _ e1]
        subst hs0
        by_cases hsz : s = 0
        · subst hsz
          obtain ⟨cells, r1, r2, r3⟩ := row b o (fun _ => Go.undef) (fun k hk => by omega) (fun j e q y hj hy => by
            obtain ⟨hq, _⟩ := List.getElem?_eq_some_iff.1 hy
            have := xsz j e hj; omega)
          exact ⟨_, _, cells, rfl, by simpa [Builtin.firstCells] using r1, r2, r3⟩
        · obtain ⟨cells, r1, r2, r3⟩ := row b o (fun k => c (k / s) (k % s)) (fun k hk => by
            have h1 : k / s < xs.length := by rw [Nat.div_lt_iff_lt_mul (by omega)]; exact hk
            have h2 : k % s < s := Nat.mod_lt _ (by omega)
            have := hc (k / s) (k % s) h1 h2
            rwa [Nat.add_assoc, Nat.div_add_mod'] at this) (fun j e q y hj hy => by
            obtain ⟨hq, _⟩ := List.getElem?_eq_some_iff.1 hy
            have hq2 : q < s := by have := xsz j e hj; omega
            have e1 : (j * s + q) / s = j := by rw [Nat.mul_comm, Nat.mul_add_div (by omega), Nat.div_eq_of_lt hq2, Nat.add_zero]
            have e2 : (j * s + q) % s = q := by rw [Nat.mul_comm, Nat.mul_add_mod, Nat.mod_eq_of_lt hq2]
            rw [e1, e2]; exact hr j e q y hj hy)
          exact ⟨_, _, cells, rfl, by simpa [Builtin.firstCells] using r1, r2, r3⟩
  cases x with
  | nilS =>
    simp [elemsV] at he; subst he
    cases hx
    refine ⟨none, 0, [], rfl, by simp [Builtin.firstCells], by simp, fun j e q y hj => ?_⟩
    simp at k1; rw [k1] at hj; simp at hj
  | list es => exact lists es rfl hx
  | tl t es => exact lists es rfl (list_of_tl hx)
  | ref s id ver off len =>
    simp only [elemsV] at he
    cases hH : H[id]? with
    | none => simp [hH] at he
    | some ob =>
      cases ob with
      | arr es v0 =>
        simp only [hH] at he
        split at he
        · rename_i hc
          obtain ⟨rfl, hle⟩ := hc
          cases he
          cases hx with
          | ref _ _ _ _ _ cap b o s' ext ver' b' o' hφ hv hlen hcur =>
            obtain ⟨rfl, hext, hs, hown, hcell⟩ := obj_arr hS hH hφ
            obtain ⟨rfl, h6⟩ := hcur rfl
            have hL : ((es.drop off).take len).length = len := by simp; omega
            by_cases h0 : len = 0
            · subst h0
              have hl := run_loadCells (P := P) w ⟨b', o', none⟩ 0 (fun _ => Go.undef) (fun j hj => by omega)
              refine ⟨some ⟨b', o', none⟩, cap, [], by simp, by simpa [Builtin.firstCells] using hl, by simp, fun j e q y hj => ?_⟩
              simp at k1; rw [k1] at hj; simp at hj
            · obtain ⟨rfl, rfl, h7⟩ := h6 (by omega)
              have elem : ∀ (j : Nat) (e : V), ((es.drop off).take len)[j]? = some e → j < len ∧ es[off + j]? = some e := fun j e hj => by
                obtain ⟨hlt, _⟩ := List.getElem?_eq_some_iff.1 hj
                rw [hL] at hlt
                rw [List.getElem?_take_of_lt hlt, List.getElem?_drop] at hj
                exact ⟨hlt, hj⟩
              have hs0 : s' = sz := by
                have e1 := List.getElem?_eq_getElem (show 0 < ((es.drop off).take len).length by omega)
                rw [← hs _ _ (elem 0 _ e1).2, xsz 0 _ e1]
              subst hs0
              obtain ⟨cells, r1, r2, r3⟩ := row b' (o + off * s') (fun k => (w.cell? ⟨b', o + off * s' + k, none⟩).getD Go.undef) (fun k hk => by
                have hb : off * s' + k < ext := by
                  have : (off + len) * s' ≤ es.length * s' := Nat.mul_le_mul_right s' hle
                  rw [Nat.add_mul] at this
                  rw [hL] at hk; omega
                obtain ⟨_, _, y, hy⟩ := hown (off * s' + k) hb
                rw [← Nat.add_assoc] at hy
                simp [hy]) (fun j e q y hj hy => by
                obtain ⟨hlt, hj2⟩ := elem j e hj
                obtain ⟨y', e1, e2⟩ := hcell (off + j) e q y hj2 hy
                rw [Nat.add_mul, ← Nat.add_assoc] at e1
                rw [← Nat.add_assoc]
                simpa [e1] using e2)
              refine ⟨_, cap, cells, by rw [hL], ?_, r2, r3⟩
              simpa [Builtin.firstCells] using r1
        · cases he
      | _ => simp [hH] at he
  | _ => simp [elemsV] at he
end
end Go.E
/- Soundness of E, operation by operation (7): append. Own work. -/
namespace Go.E
section
variable {P : Program} {g : G} {w : World} {bs : List Nat} {H : Heap}

theorem growBy_le (n M : Nat) (hM : n + (n + 768) / 4 ≤ M) : ∀ (r c : Nat), c ≤ M → Builtin.growBy n r c ≤ M
  | 0, c, h => by simpa [Builtin.growBy] using h
  | r + 1, c, h => by
    simp only [Builtin.growBy]
    split
    · exact h
    · exact growBy_le n M hM r _ (by omega)
theorem nextslice_le {need cap : Nat} (h : cap < need) : Builtin.nextslicecap need cap ≤ 3 * need := by
  unfold Builtin.nextslicecap
  split
  · omega
  · split
    · omega
    · exact growBy_le need _ (by omega) _ _ (by omega)

/-- A list's cells, read one by one. -/
theorem list_rowB {es : List V} {x' : Value} {sz : Nat} (hx : VRel g w (.list es) x') (hsz : ∀ (j : Nat) (e : V), es[j]? = some e → e.cells.length = sz) (w1 : World)
    (hcell : ∀ b o, g.O b o = .imm → w1.cell? ⟨b, o, none⟩ = w.cell? ⟨b, o, none⟩) :
    ∃ cells, (Builtin.firstCells sz es.length x').run P w1 = .ok (List.toArray cells) w1 ∧ cells.length = es.length * sz ∧
      ∀ (j : Nat) (e : V) (q : Nat) (y : V), es[j]? = some e → e.cells[q]? = some y → ∃ y', cells[j * sz + q]? = some y' ∧ VRel g w y y' := by
  cases hx with
  | listNil => exact ⟨[], by simp [Builtin.firstCells], by simp, fun j e q y hj => by simp at hj⟩
  | listZ a => exact ⟨[], by simp [Builtin.firstCells, loadCells, loadCellsFrom], by simp, fun j e q y hj => by simp at hj⟩
  | list b o cap s _ c hlen hpure hs hO hc hr =>
    by_cases h0 : es.length = 0
    · have hxs : es = [] := List.eq_nil_of_length_eq_zero h0
      subst hxs
      have hl := run_loadCells (P := P) w1 ⟨b, o, none⟩ 0 (fun _ => Go.undef) (fun j hj => by omega)
      exact ⟨[], by simpa [Builtin.firstCells] using hl, by simp, fun j e q y hj => by simp at hj⟩
    · have hs0 : s = sz := by
        have e1 : es[0]? = some (es[0]'(by omega)) := by simp
        rw [← hs 0 _ e1, hsz 0 _ e1]
      subst hs0
      have hl := run_loadCells (P := P) w1 ⟨b, o, none⟩ (es.length * s) (fun k => c (k / s) (k % s)) (fun k hk => by
        have hsp : 0 < s := by rcases Nat.eq_zero_or_pos s with h | h; · rw [h] at hk; omega
                               · exact h
        have h1 : k / s < es.length := by rw [Nat.div_lt_iff_lt_mul hsp]; exact hk
        have h2 : k % s < s := Nat.mod_lt _ hsp
        have := hc (k / s) (k % s) h1 h2
        rw [← hcell _ _ (hO (k / s) (k % s) h1 h2)] at this
        rwa [Nat.add_assoc, Nat.div_add_mod', ← add_plain] at this)
      refine ⟨_, by simpa [Builtin.firstCells] using hl, by simp, fun j e q y hj hy => ?_⟩
      obtain ⟨hlt, _⟩ := List.getElem?_eq_some_iff.1 hj
      obtain ⟨hq, _⟩ := List.getElem?_eq_some_iff.1 hy
      have hq2 : q < s := by have := hsz j e hj; omega
      refine ⟨c j q, ?_, hr j e q y hj hy⟩
      have hk := at_lt (sz := s) hlt hq2
      have e1 : (j * s + q) / s = j := by rw [Nat.mul_comm, Nat.mul_add_div (by omega), Nat.div_eq_of_lt hq2, Nat.add_zero]
      have e2 : (j * s + q) % s = q := by rw [Nat.mul_comm, Nat.mul_add_mod, Nat.mod_eq_of_lt hq2]
      simp [hk, e1, e2]

theorem list_row {es : List V} {x' : Value} {sz : Nat} (hx : VRel g w (.list es) x') (hsz : ∀ (j : Nat) (e : V), es[j]? = some e → e.cells.length = sz) (w1 : World) (hw : w1.heap = w.heap) :
    ∃ cells, (Builtin.firstCells sz es.length x').run P w1 = .ok (List.toArray cells) w1 ∧ cells.length = es.length * sz ∧
      ∀ (j : Nat) (e : V) (q : Nat) (y : V), es[j]? = some e → e.cells[q]? = some y → ∃ y', cells[j * sz + q]? = some y' ∧ VRel g w y y' :=
  list_rowB hx hsz w1 fun _ _ _ => by unfold World.cell?; rw [hw]

theorem sim_drew (hS : Sim bs g H w) (d : Nat) (hd : w.drawn ≤ d) : Out bs g w H g { w with drawn := d } H := by
  have x : Ext g w g { w with drawn := d } := ⟨Nat.le_refl _, fun _ _ h => ⟨h, rfl⟩, fun _ l h => ⟨l, h, LocLe.refl l⟩, fun _ _ _ => ⟨rfl, fun _ => rfl⟩, rfl, rfl, rfl, hd⟩
  exact ⟨⟨hS.bl, hS.srt, hS.dom, hS.old, fun id ob l h1 h2 => (hS.obj id ob l h1 h2).keep x ⟨fun _ _ h => h, fun _ _ _ => ⟨rfl, rfl⟩, fun _ _ _ _ h => h⟩, hS.und⟩, x, Nat.le_refl _, fun id => ⟨.inl, fun h => h.resolve_right (by omega)⟩⟩

/-- Elements that lie one behind the other, as one list. -/
theorem list_mk {es : List V} {s : Nat} {b o cap : Nat} {g1 : G} {w1 : World} (cell : Nat → Value) (hcap : es.length ≤ cap) (hes : ∀ (j : Nat) (e : V), es[j]? = some e → e.cells.length = s)
    (hp : V.pureL es = true) (hw : ∀ k, k < es.length * s → g1.O b (o + k) = .imm ∧ w1.cell? ⟨b, o + k, none⟩ = some (cell k))
    (hr : ∀ (j : Nat) (e : V) (q : Nat) (y : V), es[j]? = some e → e.cells[q]? = some y → VRel g1 w1 y (cell (j * s + q))) :
    VRel g1 w1 (.list es) (.slice (some ⟨b, o, none⟩) es.length cap) :=
  .list b o cap s es (fun j i => cell (j * s + i)) hcap hp hes (fun j i hj hi => by rw [Nat.add_assoc]; exact (hw _ (at_lt hj hi)).1)
    (fun j i hj hi => by rw [Nat.add_assoc]; exact (hw _ (at_lt hj hi)).2) hr

theorem pureL_append : ∀ (a b : List V), V.pureL (a ++ b) = (V.pureL a && V.pureL b)
  | [], b => by simp [V.pureL]
  | v :: r, b => by simp [V.pureL, pureL_append r b, Bool.and_assoc]

theorem append_get (es new : List V) (j : Nat) (e : V) (h : (es ++ new)[j]? = some e) : (j < es.length ∧ es[j]? = some e) ∨ (es.length ≤ j ∧ j - es.length < new.length ∧ new[j - es.length]? = some e) := by
  by_cases hj : j < es.length
  · left; rw [List.getElem?_append_left hj] at h; exact ⟨hj, h⟩
  · right
    rw [List.getElem?_append_right (by omega)] at h
    obtain ⟨h1, _⟩ := List.getElem?_eq_some_iff.1 h
    exact ⟨by omega, h1, h⟩

/-- The run, where there is no room: a new row. -/
theorem append_grow (hS : Sim bs g H w) {t u e e2 ty sz by_ : Nat} {es xs new : List V} {x : V} {x' s' : Value} {a : Option Addr} {sCap : Nat} {z : V}
    (ht : P.underlying t = some (.slice e)) (hu : P.underlying u = some (.slice e2)) (hsz : sizeT P e = some sz) (hby : bytesT P e = some by_) (hz : zeroT P e = some z)
    (hzl : z.cells.length = sz) (hzc : z.cells.all V.isCell = true) (hb0 : by_ ≠ 0)
    (hs' : s' = .slice a es.length sCap) (hrow : ∃ co, (Builtin.firstCells sz es.length s').run P { w with drawn := w.drawn + 1 } = .ok (List.toArray co) { w with drawn := w.drawn + 1 } ∧ co.length = es.length * sz ∧ ∀ (j : Nat) (e : V) (q : Nat) (y : V), es[j]? = some e → e.cells[q]? = some y → ∃ y', co[j * sz + q]? = some y' ∧ VRel g w y y') (hx : VRel g w x x') (hxe : elemsV H x = some xs) (hnew : takeElems sz xs = some new)
    (hroom : (es.length + new.length) * by_ ≤ roomB) (hgrow : sCap < es.length + new.length) :
    ∃ newCap w1, es.length + new.length ≤ newCap ∧ w1.heap = w.heap ∧ Out bs g w H g w1 H ∧ ∃ cells : Array Value, cells.size = newCap * sz ∧
      (Builtin.append_ #[t, u] ty #[s', x']).run P w = .ok (.slice (some ⟨w.heap.size, 0, none⟩) (es.length + new.length) newCap) { w1 with heap := w1.heap.push (.cells cells e) } ∧
      ∀ (j : Nat) (e : V) (q : Nat) (y : V), (es ++ new)[j]? = some e → e.cells[q]? = some y → ∃ y', cells[j * sz + q]? = some y' ∧ VRel g w y y' := by
  subst hs'
  obtain ⟨i, hi, hib, his⟩ := info_of hsz hby
  obtain ⟨zv, hzv, hzr⟩ := zero_of hz
  obtain ⟨hr1, _⟩ := cells_rel (g := g) (w := w) (by rw [hzv]; exact ofVal_rel zv : VRel g w z zv) (not_undef hzc)
  unfold roomB at hroom
  have hnl : new.length = xs.length := (takeElems_spec hnew).1
  generalize hq : Question.appendCap (es.length + new.length) sCap e = Q
  have hcut : ∃ nc, Q.cut (w.tape w.drawn Q) = nc ∧ es.length + new.length ≤ nc := by
    rw [← hq]; exact ⟨_, rfl, Nat.le_add_right _ _⟩
  obtain ⟨nc, hnc, hle⟩ := hcut
  have o1 := sim_drew hS (w.drawn + 1) (Nat.le_succ _)
  obtain ⟨a2, cap2, cx, rfl, rx, cxl, crel⟩ := elems_run (P := P) o1.sim (hx.mono o1.ext) hxe hnew
  obtain ⟨co, ro, col, orel⟩ := hrow
  have hns : ¬ (Builtin.nextslicecap (es.length + xs.length) sCap * by_ > 2 ^ 48) := by
    have h1 := nextslice_le (need := es.length + xs.length) (cap := sCap) (by omega)
    have h2 : Builtin.nextslicecap (es.length + xs.length) sCap * by_ ≤ 3 * (es.length + xs.length) * by_ := Nat.mul_le_mul_right by_ h1
    rw [Nat.mul_assoc, ← hnl] at h2
    rw [← hnl]
    omega
  have hrest : (Builtin.zeroCells zv.cells (nc - (es.length + xs.length))).size = (nc - (es.length + xs.length)) * sz := by
    simp [Builtin.zeroCells]; rw [hr1, hzl]
  rw [hnl] at hq hle ⊢
  refine ⟨nc, { w with drawn := w.drawn + 1 }, by omega, rfl, o1, co.toArray ++ cx.toArray ++ Builtin.zeroCells zv.cells (nc - (es.length + xs.length)), ?_, ?_, ?_⟩
  · simp only [Array.size_append, List.size_toArray, hrest, col, cxl]
    rw [← Nat.add_mul, ← Nat.add_mul]
    congr 1; omega
  · have c1 : ¬ (es.length + xs.length ≤ sCap) := by omega
    have hforced : Q.forced = false := by rw [← hq]; rfl
    have hns' : ¬ (281474976710656 < Builtin.nextslicecap (es.length + xs.length) sCap * by_) := by
      have e1 : (2 : Nat) ^ 48 = 281474976710656 := by decide
      rw [e1] at hns; exact hns
    have ro' : (Builtin.firstCells sz es.length (Value.slice a es.length sCap)).run P w.drew = .ok co.toArray w.drew := ro
    have rx' : (Builtin.firstCells sz xs.length (Value.slice a2 xs.length cap2)).run P w.drew = .ok cx.toArray w.drew := rx
    simp [Builtin.append_, run_underlying ht, run_sizeT hsz, run_underlying hu, Builtin.lenOf, c1, run_typeInfo hi, hib, hb0, hns', hq, hforced, hnc, ro', rx', hzr, newRow]
    have hco : ∀ Z : Array Value, (co ++ cx).toArray ++ Z = co.toArray ++ (cx.toArray ++ Z) := fun Z => Array.ext' (by simp)
    rw [hco]
    rfl
  · intro j e' q y hj hy
    rcases append_get es new j e' hj with ⟨hlt, h1⟩ | ⟨hge, hlt, h1⟩
    · obtain ⟨y', e1, e2⟩ := orel j e' q y h1 hy
      obtain ⟨hk, _⟩ := List.getElem?_eq_some_iff.1 e1
      refine ⟨y', ?_, e2⟩
      rw [Array.append_assoc, Array.getElem?_append_left (by simpa using hk)]
      simpa using e1
    · obtain ⟨y', e1, e2⟩ := crel (j - es.length) e' q y h1 hy
      obtain ⟨hk, _⟩ := List.getElem?_eq_some_iff.1 e1
      have hjs : j * sz + q = es.length * sz + ((j - es.length) * sz + q) := by
        rw [← Nat.add_assoc, ← Nat.add_mul]; congr 2; omega
      refine ⟨y', ?_, by
        have hxx : Bears g { w with drawn := w.drawn + 1 } g w := ⟨fun _ _ h => ⟨h, rfl⟩, fun _ l h => ⟨l, h, LocLe.refl l⟩⟩
        exact e2.bear hxx⟩
      rw [hjs, Array.append_assoc, Array.getElem?_append_right (by simp; omega), Array.getElem?_append_left (by simp [col]; omega)]
      simp [col]
      simpa using e1
/-- A row whose head is never written again, and whose rest belongs to id. -/
def G.grow (g : G) (B h id : Nat) (l : Loc) : G := g.lay B (fun k => if k < h then .imm else .res id) id (some l)

theorem ext_grow (hS : Sim bs g H w) (o : Obj) (h id : Nat) (l : Loc) (hle : ∀ l', g.φ id = some l' → LocLe l' l) : Ext g w (g.grow w.heap.size h id l) { w with heap := w.heap.push o } where
  size := by simp
  imm b k hk := by
    have hb : b ≠ w.heap.size := by have := hS.old b k (by rw [hk]; simp); omega
    exact ⟨by simp [G.grow, G.lay, hb, hk], cell_push_lt o k hb⟩
  loc i l' hl := by
    by_cases e : i = id
    · subst e; exact ⟨l, by simp [G.grow, G.lay], hle l' hl⟩
    · exact ⟨l', by simp [G.grow, G.lay, e, hl], LocLe.refl _⟩
  free b hb _ := ⟨heap_push_lt o (by omega), fun k => by simp [G.grow, G.lay, show b ≠ w.heap.size by omega]⟩
  os := rfl
  tape := rfl
  output := rfl
  drawn := Nat.le_refl _

/-- Behind a growth: a token, new or known, has a new row. -/
theorem out_grow (hS : Sim bs g H w) (o : Obj) (tk n s cap : Nat) (hl : H[tk]? = none → tk = H.length) (hdom : g.φ tk = none → tk = H.length) (hle : ∀ l', g.φ tk = some l' → LocLe l' (.tok (some (w.heap.size, 0)) s cap n)) (H' : Heap)
    (hH : (tk = H.length ∧ H' = H ++ [.tok n]) ∨ (tk < H.length ∧ g.φ tk ≠ none ∧ H' = H.set tk (.tok n))) (hn : n ≤ cap) (hn0 : n = 0 → cap = 0)
    (hc : ∀ k, k < cap * s → ∃ v, ({ w with heap := w.heap.push o } : World).cell? ⟨w.heap.size, k, none⟩ = some v) (hf : ∀ k, ({ w with heap := w.heap.push o } : World).frozen? ⟨w.heap.size, k, none⟩ = false) :
    Out bs g w H (g.grow w.heap.size (n * s) tk (.tok (some (w.heap.size, 0)) s cap n)) { w with heap := w.heap.push o } H' := by
  have x := ext_grow hS o (n * s) tk _ hle
  have keep : ∀ id, id ≠ tk → Keep id g w (g.grow w.heap.size (n * s) tk (.tok (some (w.heap.size, 0)) s cap n)) { w with heap := w.heap.push o } := fun id _ => by
    refine ⟨fun b k h => ?_, fun b k h => ?_, fun b es c h hh => ?_⟩
    · have hb : b ≠ w.heap.size := by have := hS.old b k (by rw [h]; simp); omega
      simp [G.grow, G.lay, hb, h]
    · have hb : b ≠ w.heap.size := by have := hS.old b k (by rw [h]; simp); omega
      exact ⟨cell_push_lt o k hb, frozen_push_lt o k hb⟩
    · have hb : b ≠ w.heap.size := by have := hS.old b 0 (by rw [h]; simp); omega
      rw [heap_push_lt o hb]; exact hh
  have hlen : H.length ≤ H'.length := by rcases hH with ⟨_, rfl⟩ | ⟨_, _, rfl⟩ <;> simp
  have htk : tk < H'.length := by rcases hH with ⟨rfl, rfl⟩ | ⟨h, _, rfl⟩ <;> simp; exact h
  have hget : ∀ id, id ≠ tk → H'[id]? = H[id]? ∨ H.length < id := fun id hne => by
    rcases hH with ⟨rfl, rfl⟩ | ⟨h, _, rfl⟩
    · by_cases hlt : id < H.length
      · exact .inl (List.getElem?_append_left hlt)
      · exact .inr (by omega)
    · exact .inl (List.getElem?_set_ne (Ne.symm hne))
  have htok : H'[tk]? = some (.tok n) := by
    rcases hH with ⟨rfl, rfl⟩ | ⟨h, _, rfl⟩
    · simp
    · simp [h]
  have hbig : ∀ id, H.length < id → H'[id]? = none := fun id hlt => by
    rcases hH with ⟨rfl, rfl⟩ | ⟨h, _, rfl⟩ <;> (apply List.getElem?_eq_none; simp; omega)
  refine ⟨⟨by have := hS.bl; omega, hS.srt, fun id hid => ?_, fun b k hk => ?_, fun id ob l h1 h2 => ?_, fun id ob h2 hm2 => ?_⟩, x, hlen, fun id => ?_⟩
  · by_cases e : id = tk
    · rw [e]; exact htk
    · have : g.φ id ≠ none := by simpa [G.grow, G.lay, e] using hid
      have := hS.dom id this; omega
  · simp [G.grow, G.lay] at hk ⊢
    by_cases e : b = w.heap.size
    · omega
    · simp [e] at hk; have := hS.old b k hk; omega
  · by_cases e : id = tk
    · subst e
      rw [htok] at h1; cases h1
      simp [G.grow, G.lay] at h2; subst h2
      refine .tok _ _ 0 _ _ hn hn0 (fun k h3 h4 => ⟨?_, hf _, ?_⟩)
      · simp [G.grow, G.lay, show ¬ (k < n * s) by omega]
      · rw [Nat.zero_add]; exact hc k h4
    · rcases hget id e with h3 | h3
      · rw [h3] at h1
        have h2' : g.φ id = some l := by simpa [G.grow, G.lay, e] using h2
        exact (hS.obj id ob l h1 h2').keep x (keep id e)
      · rw [hbig id h3] at h1; cases h1
  · by_cases e : id = tk
    · subst e; rw [htok] at h2; cases h2; exact fun b _ => .inr rfl
    · rcases hget id e with h3 | h3
      · rw [h3] at h2; exact hS.und id ob h2 (by simpa [G.grow, G.lay, e] using hm2)
      · rw [hbig id h3] at h2; cases h2
  · by_cases e : id = tk
    · subst e
      have h1 : (g.grow w.heap.size (n * s) id (.tok (some (w.heap.size, 0)) s cap n)).φ id ≠ none := by simp [G.grow, G.lay]
      refine ⟨fun _ => ?_, fun _ => h1⟩
      rcases hH with ⟨rfl, rfl⟩ | ⟨h, h2, rfl⟩
      · right; simp
      · exact .inl h2
    · have h1 : (g.grow w.heap.size (n * s) tk (.tok (some (w.heap.size, 0)) s cap n)).φ id = g.φ id := by simp [G.grow, G.lay, e]
      rw [h1]
      refine ⟨.inl, fun h => ?_⟩
      rcases h with h | h
      · exact h
      · exfalso
        rcases hH with ⟨rfl, rfl⟩ | ⟨h2, _, rfl⟩
        · simp at h; omega
        · simp at h; omega

/-- Behind a growth: a thing, new or known, has a new row. -/
theorem out_growO (hS : Sim bs g H w) (o : Obj) (h0 tk : Nat) (ob0 : HObj) (l0 : Loc) (hdom : g.φ tk = none → tk = H.length) (hle : ∀ l', g.φ tk = some l' → LocLe l' l0) (H' : Heap)
    (hH : (tk = H.length ∧ H' = H ++ [ob0]) ∨ (tk < H.length ∧ g.φ tk ≠ none ∧ H' = H.set tk ob0)) (hor : ORel (g.grow w.heap.size h0 tk l0) { w with heap := w.heap.push o } tk ob0 l0) (hun : okObj bs tk ob0) :
    Out bs g w H (g.grow w.heap.size h0 tk l0) { w with heap := w.heap.push o } H' := by
  have x := ext_grow hS o h0 tk _ hle
  have keep : ∀ id, id ≠ tk → Keep id g w (g.grow w.heap.size h0 tk l0) { w with heap := w.heap.push o } := fun id _ => by
    refine ⟨fun b k h => ?_, fun b k h => ?_, fun b es c h hh => ?_⟩
    · have hb : b ≠ w.heap.size := by have := hS.old b k (by rw [h]; simp); omega
      simp [G.grow, G.lay, hb, h]
    · have hb : b ≠ w.heap.size := by have := hS.old b k (by rw [h]; simp); omega
      exact ⟨cell_push_lt o k hb, frozen_push_lt o k hb⟩
    · have hb : b ≠ w.heap.size := by have := hS.old b 0 (by rw [h]; simp); omega
      rw [heap_push_lt o hb]; exact hh
  have hlen : H.length ≤ H'.length := by rcases hH with ⟨_, rfl⟩ | ⟨_, _, rfl⟩ <;> simp
  have htk : tk < H'.length := by rcases hH with ⟨rfl, rfl⟩ | ⟨h, _, rfl⟩ <;> simp; exact h
  have hget : ∀ id, id ≠ tk → H'[id]? = H[id]? ∨ H.length < id := fun id hne => by
    rcases hH with ⟨rfl, rfl⟩ | ⟨h, _, rfl⟩
    · by_cases hlt : id < H.length
      · exact .inl (List.getElem?_append_left hlt)
      · exact .inr (by omega)
    · exact .inl (List.getElem?_set_ne (Ne.symm hne))
  have htok : H'[tk]? = some ob0 := by
    rcases hH with ⟨rfl, rfl⟩ | ⟨h, _, rfl⟩
    · simp
    · simp [h]
  have hbig : ∀ id, H.length < id → H'[id]? = none := fun id hlt => by
    rcases hH with ⟨rfl, rfl⟩ | ⟨h, _, rfl⟩ <;> (apply List.getElem?_eq_none; simp; omega)
  refine ⟨⟨by have := hS.bl; omega, hS.srt, fun id hid => ?_, fun b k hk => ?_, fun id ob l h1 h2 => ?_, fun id ob h2 hm2 => ?_⟩, x, hlen, fun id => ?_⟩
  · by_cases e : id = tk
    · rw [e]; exact htk
    · have : g.φ id ≠ none := by simpa [G.grow, G.lay, e] using hid
      have := hS.dom id this; omega
  · simp [G.grow, G.lay] at hk ⊢
    by_cases e : b = w.heap.size
    · omega
    · simp [e] at hk; have := hS.old b k hk; omega
  · by_cases e : id = tk
    · subst e
      rw [htok] at h1; cases h1
      simp [G.grow, G.lay] at h2; subst h2
      exact hor
    · rcases hget id e with h3 | h3
      · rw [h3] at h1
        have h2' : g.φ id = some l := by simpa [G.grow, G.lay, e] using h2
        exact (hS.obj id ob l h1 h2').keep x (keep id e)
      · rw [hbig id h3] at h1; cases h1
  · by_cases e : id = tk
    · subst e; rw [htok] at h2; cases h2; exact hun
    · rcases hget id e with h3 | h3
      · rw [h3] at h2; exact hS.und id ob h2 (by simpa [G.grow, G.lay, e] using hm2)
      · rw [hbig id h3] at h2; cases h2
  · by_cases e : id = tk
    · subst e
      have h1 : (g.grow w.heap.size h0 id l0).φ id ≠ none := by simp [G.grow, G.lay]
      refine ⟨fun _ => ?_, fun _ => h1⟩
      rcases hH with ⟨rfl, rfl⟩ | ⟨h, h2, rfl⟩
      · right; simp
      · exact .inl h2
    · have h1 : (g.grow w.heap.size h0 tk l0).φ id = g.φ id := by simp [G.grow, G.lay, e]
      rw [h1]
      refine ⟨.inl, fun h => ?_⟩
      rcases h with h | h
      · exact h
      · exfalso
        rcases hH with ⟨rfl, rfl⟩ | ⟨h2, _, rfl⟩
        · simp at h; omega
        · simp at h; omega

end
end Go.E
/- Soundness of E, operation by operation (8): append, whole. Own work. -/
namespace Go.E
section
variable {P : Program} {g : G} {w : World} {bs : List Nat} {H : Heap}

theorem list_cap {es : List V} {s' : Value} (h : VRel g w (.list es) s') : ∃ a cap, s' = .slice a es.length cap ∧ es.length ≤ cap := by
  cases h with
  | listNil => exact ⟨none, 0, rfl, Nat.le_refl _⟩
  | listZ a => exact ⟨_, 0, rfl, Nat.le_refl _⟩
  | list b o cap s es c hlen hpure hs hO hc hr => exact ⟨_, cap, rfl, hlen⟩

theorem append_zero {t u e e2 ty sz L cap : Nat} {a : Option Addr} {x' : Value} {cells : List Value} {a2 : Option Addr} {cap2 : Nat}
    (ht : P.underlying t = some (.slice e)) (hu : P.underlying u = some (.slice e2)) (hsz : sizeT P e = some sz) (hle : L ≤ cap)
    (hx : x' = .slice a2 0 cap2) (hr : (Builtin.firstCells sz 0 x').run P w = .ok cells.toArray w) (hl : cells.length = 0) :
    (Builtin.append_ #[t, u] ty #[.slice a L cap, x']).run P w = .ok (.slice a L cap) w := by
  subst hx
  have hc : cells = [] := List.eq_nil_of_length_eq_zero hl
  subst hc
  cases a <;> simp [Builtin.append_, run_underlying ht, run_sizeT hsz, run_underlying hu, Builtin.lenOf, hle, hr, storeCells]

theorem append_in {t u e e2 ty sz L n cap b o : Nat} {x' : Value} {cells : List Value} {a2 : Option Addr} {cap2 : Nat}
    (ht : P.underlying t = some (.slice e)) (hu : P.underlying u = some (.slice e2)) (hsz : sizeT P e = some sz) (hle : L + n ≤ cap)
    (hx : x' = .slice a2 n cap2) (hr : (Builtin.firstCells sz n x').run P w = .ok cells.toArray w)
    (hc : ∀ j, j < cells.length → (w.cell? ⟨b, o + L * sz + j, none⟩).isSome = true) (hf : ∀ j, j < cells.length → w.frozen? ⟨b, o + L * sz + j, none⟩ = false) (h1 : ∀ v ∈ cells, v.oneCell' = true) :
    (Builtin.append_ #[t, u] ty #[.slice (some ⟨b, o, none⟩) L cap, x']).run P w = .ok (.slice (some ⟨b, o, none⟩) (L + n) cap) (w.setCells b (o + L * sz) cells) := by
  subst hx
  have hst := run_storeCells_cells (P := P) b (o + L * sz) cells 0 w (by simpa using hc) (by simpa using hf) h1
  simp [Builtin.append_, run_underlying ht, run_sizeT hsz, run_underlying hu, Builtin.lenOf, hle, hr, add_plain, hst]

theorem append_rel_pure {sz : Nat} {es new xs : List V} (hnew : takeElems sz xs = some new) (hes : V.pureL es = true) : V.pureL (es ++ new) = true := by
  rw [pureL_append, hes, pureL_mem (fun e he => ((takeElems_spec hnew).2.1 e he).2.1)]; rfl

/-- Behind a growth: the new row as a list. -/
theorem grown_list {g1 : G} {w2 : World} {es new xs : List V} {sz nc : Nat} {cells : Array Value} {B tk : Nat} {l : Loc} {w1 : World} (e : TypeId) (hw2 : w2 = { w1 with heap := w1.heap.push (.cells cells e) }) (hB : B = w1.heap.size)
    (hg : g1 = g.grow B ((es.length + new.length) * sz) tk l) (hx : Ext g w g1 w2) (hes : ∀ (j : Nat) (e : V), es[j]? = some e → e.cells.length = sz) (hp : V.pureL es = true) (hnew : takeElems sz xs = some new)
    (hnc : es.length + new.length ≤ nc) (hsize : cells.size = nc * sz)
    (hr : ∀ (j : Nat) (e : V) (q : Nat) (y : V), (es ++ new)[j]? = some e → e.cells[q]? = some y → ∃ y', cells[j * sz + q]? = some y' ∧ VRel g w y y') :
    VRel g1 w2 (.list (es ++ new)) (.slice (some ⟨B, 0, none⟩) (es.length + new.length) nc) := by
  have hl : (es ++ new).length = es.length + new.length := by simp
  rw [← hl]
  refine list_mk (s := sz) (fun k => cells[k]?.getD Go.undef) (by omega) (fun j e' hj => ?_) (append_rel_pure hnew hp) (fun k hk => ⟨?_, ?_⟩) (fun j e' q y hj hy => ?_)
  · rcases append_get es new j e' hj with ⟨_, h1⟩ | ⟨_, _, h1⟩
    · exact hes j e' h1
    · exact ((takeElems_spec hnew).2.1 e' (List.mem_of_getElem? h1)).1
  · rw [hl] at hk; subst hg; simp [G.grow, G.lay, hk]
  · rw [hl] at hk
    have hk2 : k < cells.size := by
      have : (es.length + new.length) * sz ≤ nc * sz := Nat.mul_le_mul_right sz hnc
      omega
    subst hw2; subst hB
    rw [Nat.zero_add, cell_push_new]; simp [hk2]
  · obtain ⟨y', e1, e2⟩ := hr j e' q y hj hy
    rw [e1]; exact e2.mono hx

theorem tok_obj {id n n' : Nat} {tb : Option (Nat × Nat)} {s cap : Nat} (h : ORel g w id (.tok n) (.tok tb s cap n')) :
    n = n' ∧ (tb = none → n = 0 ∧ cap = 0) ∧ ∀ b o, tb = some (b, o) → n ≤ cap ∧ (n = 0 → cap = 0) ∧
      ∀ k, n * s ≤ k → k < cap * s → g.O b (o + k) = .res id ∧ w.frozen? ⟨b, o + k, none⟩ = false ∧ ∃ v', w.cell? ⟨b, o + k, none⟩ = some v' := by
  cases h with
  | tokNil _ => exact ⟨rfl, fun _ => ⟨rfl, rfl⟩, fun b o h => (by cases h)⟩
  | tok _ b o _ _ hcap h0 h => exact ⟨rfl, fun h => (by cases h), fun b' o' e => (by cases e; exact ⟨hcap, h0, h⟩)⟩

theorem pureU (n : Nat) {v : V} (h : v.pure = true) : v.under n = true := by
  have key : ∀ v : V, v.pure = true → v.under n = true := by
    intro v
    induction v using V.rec (motive_2 := fun l => V.pureL l = true → V.underL n l = true) with
    | nil => rfl
    | cons v r h1 h2 =>
      rename_i h
      simp only [V.pureL, Bool.and_eq_true] at h
      simp only [V.underL, h1 h.1, h2 h.2, Bool.and_self]
    | agg cs ih => intro h; exact ih (by simpa [V.pure] using h)
    | eptr cs off ih => intro h; exact ih (by simpa [V.pure] using h)
    | func f cs ih => intro h; exact ih (by simpa [V.pure] using h)
    | _ => intro h; first | rfl | (simp [V.pure] at h)
  exact key v h
theorem arr_new {id : Nat} {old new : List V} {ver : Nat} (bs : List Nat) (h : ∀ e ∈ old ++ new, e.pure = true) : okObj bs id (.arr (old ++ new) ver) :=
  fun b _ => .inr (underL_of fun e he => pureU b (h e he))
/-- A list of one's own, cut to some length, with a row behind it. -/
theorem ref_put (hS : Sim bs g H w) {id b o sz ext ver len : Nat} (ver2 : Nat) (hv2 : ver ≤ ver2) {es old xs new : List V} (hc0 : sz ≠ 0) (hH : H[id]? = some (.arr es ver)) (hφ : g.φ id = some (.arr b o sz ext ver)) (hlen : len ≤ es.length)
    (hold : takeElems sz (es.take len) = some old) (hnew : takeElems sz xs = some new) (cx : List Value) (hcx : cx.length = new.length * sz) (hbnd : (len + new.length) * sz ≤ ext)
    (hcr : ∀ (j : Nat) (e : V) (q : Nat) (y : V), new[j]? = some e → e.cells[q]? = some y → ∃ y', cx[j * sz + q]? = some y' ∧ VRel g w y y') :
    Out bs g w H { g with φ := fun i => if i = id then some (.arr b o sz ext ver2) else g.φ i } (w.setCells b (o + len * sz) cx) (H.set id (.arr (old ++ new) ver2)) := by
  obtain ⟨_, hext, hes, hown, hcell⟩ := obj_arr hS hH hφ
  obtain ⟨hid, _⟩ := List.getElem?_eq_some_iff.1 hH
  obtain ⟨k1, k2, k3⟩ := takeElems_spec hold
  obtain ⟨n1, n2, n3⟩ := takeElems_spec hnew
  have hol : old.length = len := by rw [k1, List.length_take]; omega
  have hsum : len * sz + cx.length = (len + new.length) * sz := by rw [hcx, Nat.add_mul]
  have own' : ∀ j, j < cx.length → g.O b (o + len * sz + j) = .res id := fun j hj => by
    have := (hown (len * sz + j) (by omega)).1
    rwa [← Nat.add_assoc] at this
  have cell'' : ∀ j, j < cx.length → (w.cell? ⟨b, o + len * sz + j, none⟩).isSome = true := fun j hj => by
    obtain ⟨_, _, v, hv⟩ := hown (len * sz + j) (by omega)
    rw [← Nat.add_assoc] at hv
    rw [hv]; rfl
  have x0 := write_ext (w := w) own'
  have xx : Ext g w { g with φ := fun i => if i = id then some (.arr b o sz ext ver2) else g.φ i } (w.setCells b (o + len * sz) cx) := by
    refine ⟨x0.size, x0.imm, fun i l hl => ?_, x0.free, x0.os, x0.tape, x0.output, x0.drawn⟩
    by_cases e1 : i = id
    · subst e1; rw [hφ] at hl; cases hl
      refine ⟨.arr b o sz ext ver2, by simp, ?_⟩
      exact (show _ ∧ _ from ⟨hv2, fun _ => ⟨rfl, rfl, rfl, rfl⟩⟩)
    · exact ⟨l, by simp [e1, hl], LocLe.refl _⟩
  have keep : ∀ i, i ≠ id → Keep i g w { g with φ := fun i => if i = id then some (.arr b o sz ext ver2) else g.φ i } (w.setCells b (o + len * sz) cx) := fun i hi => by
    have k0 := write_keep (w := w) own' hi cell''
    exact ⟨k0.own, k0.cell, k0.map⟩
  refine ⟨⟨by simpa using hS.bl, hS.srt, fun i hi => ?_, fun b' k hk => ?_, fun i ob l h1 h2 => ?_, fun i ob h2 hm2 => ?_⟩, xx, by simp, fun i => ?_⟩
  · by_cases e1 : i = id
    · simp; omega
    · simp [e1] at hi; simpa using hS.dom i hi
  · rw [(setCells_heap _ _ _ _).1]; exact hS.old b' k hk
  · by_cases e1 : i = id
    · subst e1
      simp [hid] at h1; subst h1
      simp at h2; subst h2
      refine .arr _ _ _ _ _ _ (by rw [List.length_append, hol]; exact hbnd) (fun j e' hj => ?_) (fun k hk => ?_) (fun j e' q y hj hy => ?_)
      · rcases append_get old new j e' hj with ⟨_, h1⟩ | ⟨_, _, h1⟩
        · exact (k2 e' (List.mem_of_getElem? h1)).1
        · exact (n2 e' (List.mem_of_getElem? h1)).1
      · obtain ⟨q1, q2, v, q3⟩ := hown k hk
        refine ⟨q1, by rw [World.frozen?_setCells]; exact q2, ?_⟩
        by_cases hin : len * sz ≤ k ∧ k < len * sz + cx.length
        · have := World.cell?_setCells_in b cx (o + len * sz) w cell'' (k - len * sz) (by omega)
          rw [show o + len * sz + (k - len * sz) = o + k by omega] at this
          exact ⟨_, this⟩
        · rw [World.cell?_setCells_out _ _ _ _ _ (fun _ _ => by simp only; omega)]
          exact ⟨v, q3⟩
      · obtain ⟨hq, _⟩ := List.getElem?_eq_some_iff.1 hy
        rcases append_get old new j e' hj with ⟨hlt, h1⟩ | ⟨hge, hlt, h1⟩
        · obtain ⟨v, h3, h4⟩ := k3 j e' h1
          have h5 := k2 e' (List.mem_of_getElem? h1)
          have hq2 : q < sz := by omega
          have hjl : j < len := by omega
          have h6 : es[j]? = some v := by rw [List.getElem?_take, if_pos hjl] at h3; exact h3
          subst h4
          rw [norm_cells, List.getElem?_map] at hy
          cases hv : v.cells[q]? with
          | none => simp [hv] at hy
          | some u =>
            simp [hv] at hy; subst hy
            obtain ⟨y', e1, e2⟩ := hcell j v q u h6 hv
            refine ⟨y', ?_, (norm1_rel e2).mono xx⟩
            have hk := at_lt (sz := sz) hjl hq2
            rw [World.cell?_setCells_out _ _ _ _ _ (fun _ _ => by simp only; omega)]
            exact e1
        · obtain ⟨y', e1, e2⟩ := hcr (j - old.length) e' q y h1 hy
          obtain ⟨hk, _⟩ := List.getElem?_eq_some_iff.1 e1
          have hjs : j * sz + q = len * sz + ((j - old.length) * sz + q) := by
            rw [← Nat.add_assoc, ← Nat.add_mul]; congr 2; omega
          have := World.cell?_setCells_in b cx (o + len * sz) w cell'' ((j - old.length) * sz + q) hk
          refine ⟨y', ?_, e2.mono xx⟩
          rw [Nat.add_assoc, hjs, ← Nat.add_assoc, this, ← e1]; simp [hk]
    · rw [List.getElem?_set_ne (Ne.symm e1)] at h1
      have h2' : g.φ i = some l := by simpa [e1] using h2
      exact (hS.obj i ob l h1 h2').keep xx (keep i e1)
  · by_cases e1 : i = id
    · subst e1; simp [hid] at h2; subst h2
      refine arr_new bs fun e he => ?_
      rcases List.mem_append.1 he with h1 | h1
      · exact (k2 e h1).2.1
      · exact (n2 e h1).2.1
    · rw [List.getElem?_set_ne (Ne.symm e1)] at h2; exact hS.und i ob h2 (by simpa [e1] using hm2)
  · by_cases e1 : i = id
    · subst e1; simp [hφ]
    · simp [e1]; omega

/-- Behind a growth: a list of one's own, new or known. -/
theorem ref_grow (hS : Sim bs g H w) {id sz ver nc len : Nat} {xs0 old xs new : List V} {cells : Array Value} (e : TypeId) (hdom : g.φ id = none → id = H.length) (hle : ∀ l', g.φ id = some l' → LocLe l' (.arr w.heap.size 0 sz (nc * sz) ver)) (H' : Heap)
    (hH : (id = H.length ∧ H' = H ++ [.arr (old ++ new) ver]) ∨ (id < H.length ∧ g.φ id ≠ none ∧ H' = H.set id (.arr (old ++ new) ver)))
    (hold : takeElems sz xs0 = some old) (hnew : takeElems sz xs = some new) (hlen : old.length = len) (hnc : len + new.length ≤ nc) (hcs : cells.size = nc * sz)
    (hrel : ∀ (j : Nat) (e : V) (q : Nat) (y : V), (old ++ new)[j]? = some e → e.cells[q]? = some y → ∃ y', cells[j * sz + q]? = some y' ∧ VRel g w y y') :
    ∃ g', Out bs g w H g' { w with heap := w.heap.push (.cells cells e) } H' ∧ VRel g' { w with heap := w.heap.push (.cells cells e) } (.ref sz id ver 0 (len + new.length)) (.slice (some ⟨w.heap.size, 0, none⟩) (len + new.length) nc) := by
  obtain ⟨k1, k2, k3⟩ := takeElems_spec hold
  obtain ⟨n1, n2, n3⟩ := takeElems_spec hnew
  have x := ext_grow hS (.cells cells e) 0 id _ hle
  have hp : ∀ e ∈ old ++ new, e.pure = true := fun e he => by
    rcases List.mem_append.1 he with h1 | h1
    · exact (k2 e h1).2.1
    · exact (n2 e h1).2.1
  refine ⟨_, out_growO hS (.cells cells e) 0 id (.arr (old ++ new) ver) (.arr w.heap.size 0 sz (nc * sz) ver) hdom hle H' hH ?_ (arr_new bs hp), ?_⟩
  · refine .arr _ _ _ _ _ _ (by rw [List.length_append, hlen]; exact Nat.mul_le_mul_right sz hnc) (fun j e' hj => ?_) (fun k hk => ⟨?_, ?_, ?_⟩) (fun j e' q y hj hy => ?_)
    · rcases append_get old new j e' hj with ⟨_, h1⟩ | ⟨_, _, h1⟩
      · exact (k2 e' (List.mem_of_getElem? h1)).1
      · exact (n2 e' (List.mem_of_getElem? h1)).1
    · simp [G.grow, G.lay]
    · rw [Nat.zero_add]; exact frozen_push_new cells e k
    · rw [Nat.zero_add, cell_push_new]; exact ⟨cells[k]'(by omega), by simp [show k < cells.size by omega]⟩
    · obtain ⟨y', e1, e2⟩ := hrel j e' q y hj hy
      refine ⟨y', ?_, e2.mono x⟩
      rw [Nat.zero_add, cell_push_new]; exact e1
  · exact .ref sz id ver 0 (len + new.length) nc w.heap.size 0 sz (nc * sz) ver w.heap.size 0 (by simp [G.grow, G.lay]) (Nat.le_refl _) hnc (fun _ => ⟨rfl, fun _ => ⟨rfl, by omega, by rw [Nat.zero_add]; exact Nat.le_refl _⟩⟩)

theorem append_sound (hS : Sim bs g H w) {m : Bool} {t u e2 ty : Nat} {s x v : V} {s' x' : Value} {H' : Heap} (ha : appendV P m t s x H = some (v, H')) (hs : VRel g w s s') (hx : VRel g w x x')
    (hu : P.underlying u = some (.slice e2)) :
    ∃ v' w' g', (Builtin.append_ #[t, u] ty #[s', x']).run P w = .ok v' w' ∧ Out bs g w H g' w' H' ∧ VRel g' w' v v' := by
  unfold appendV at ha
  cases he : elemT P t with
  | none => simp [he] at ha
  | some e =>
  cases hsz : sizeT P e with
  | none => simp [he, hsz] at ha
  | some sz =>
  cases hby : bytesT P e with
  | none => simp [he, hsz, hby] at ha
  | some by_ =>
  cases hz : zeroT P e with
  | none => simp [he, hsz, hby, hz] at ha
  | some z =>
  simp only [he, hsz, hby, hz, Option.bind_some] at ha
  split at ha
  · cases ha
  rename_i hc
  have hc0 : sz ≠ 0 := fun h => hc (.inl h)
  have hb0 : by_ ≠ 0 := fun h => hc (.inr (.inl h))
  have hzl : z.cells.length = sz := Decidable.byContradiction fun h => hc (.inr (.inr (.inl h)))
  have hzc : z.cells.all V.isCell = true := by
    cases h : z.cells.all V.isCell with
    | true => rfl
    | false => exact absurd (.inr (.inr (.inr h))) hc
  cases hxe : elemsV H x with
  | none => simp [hxe] at ha
  | some xs =>
  cases hnew : takeElems sz xs with
  | none => simp [hxe, hnew] at ha
  | some new =>
  simp only [hxe, hnew, Option.bind_some] at ha
  have ht := elem_under he
  obtain ⟨a2, cap2, cx, hx', rx, cxl, crel⟩ := elems_run (P := P) hS hx hxe hnew
  have hnl : new.length = xs.length := (takeElems_spec hnew).1
  have hroomB : roomB = 70368744177664 := rfl
  cases s with
  | nilS =>
    simp only at ha
    cases hs
    split at ha
    · rename_i h0
      cases ha
      have hx0 : xs.length = 0 := by omega
      rw [hx0] at hx' rx cxl
      exact ⟨_, _, _, append_zero ht hu hsz (Nat.le_refl _) hx' rx (by omega), Out.refl hS, .nilS⟩
    · rename_i h0
      split at ha
      · rename_i hroom
        obtain ⟨nc, w1, hnc, hheap, o1, cells, hcs, hrun, hrel⟩ := append_grow (ty := ty) hS (es := []) ht hu hsz hby hz hzl hzc hb0 rfl (list_row (P := P) (.listNil : VRel g w (.list []) _) (fun j e h => by simp at h) _ rfl) hx hxe hnew (by simpa using hroom) (by simp; omega)
        simp only [List.length_nil, Nat.zero_add, List.nil_append] at hnc hrun hrel
        rw [← hheap] at hrun
        split at ha
        · cases ha
          obtain ⟨g', o2, r2⟩ := ref_grow o1.sim (sz := sz) (ver := 0) (nc := nc) (len := 0) (xs0 := []) (old := []) e (id := H.length) (fun _ => rfl) (fun l' hl' => by
            have := o1.sim.dom H.length (by rw [hl']; simp); omega) (H ++ [.arr new 0]) (.inl ⟨rfl, rfl⟩) rfl hnew rfl (by omega) hcs (fun j e' q y hj hy => by
              obtain ⟨y', e1, e2⟩ := hrel j e' q y hj hy
              exact ⟨y', e1, e2.mono o1.ext⟩)
          refine ⟨_, _, _, hrun, o1.trans o2, ?_⟩
          simpa using r2
        cases ha
        have hcell : ∀ k, k < nc * sz → ∃ v, ({ w1 with heap := w1.heap.push (.cells cells e) } : World).cell? ⟨w1.heap.size, k, none⟩ = some v := fun k hk => by
          rw [cell_push_new]; exact ⟨cells[k]'(by omega), by simp [show k < cells.size by omega]⟩
        have o2 := out_grow o1.sim (.cells cells e) H.length new.length sz nc (fun _ => rfl) (fun _ => rfl) (fun l' hl' => by
          have := o1.sim.dom H.length (by rw [hl']; simp); omega) (H ++ [.tok new.length]) (.inl ⟨rfl, rfl⟩) (by omega) (by omega) hcell (fun k => frozen_push_new cells e k)
        have o := o1.trans o2
        refine ⟨_, _, _, hrun, o, ?_⟩
        refine .tl _ _ _ (some (w1.heap.size, 0)) sz nc new.length ?_ (by simp [G.grow, G.lay]) (Nat.le_refl _) (fun _ => ⟨fun e' he' => ((takeElems_spec hnew).2.1 e' he').1, rfl⟩)
        have := grown_list (es := []) (new := new) (xs := xs) (sz := sz) (nc := nc) e rfl rfl (by simp only [List.length_nil, Nat.zero_add]; rfl) o.ext (fun j e h => by simp at h) rfl hnew (by simpa using hnc) hcs (by simpa using hrel)
        simpa using this
      · cases ha
  | list es =>
    simp only at ha
    split at ha
    · rename_i h0
      cases ha
      obtain ⟨a, cap, rfl, hle⟩ := list_cap hs
      have hx0 : xs.length = 0 := by omega
      rw [hx0] at hx' rx cxl
      exact ⟨_, _, _, append_zero ht hu hsz hle hx' rx (by omega), Out.refl hS, hs⟩
    · cases ha
  | tl tk es =>
    simp only at ha
    cases hH : H[tk]? with
    | none => simp [hH] at ha
    | some ob =>
    cases ob with
    | tok n =>
      simp only [hH] at ha
      split at ha
      case isFalse => cases ha
      rename_i hcond
      obtain ⟨rfl, hroom, hall⟩ := hcond
      split at ha
      · rename_i hm
        obtain ⟨_, hz0, hn0⟩ := hm
        have he0 : es = [] := List.eq_nil_of_length_eq_zero hz0
        subst he0
        cases ha
        cases hs with
        | tl _ _ _ tbase ts tcap tn h hφ hn hcur =>
          have hob := hS.obj tk _ _ hH hφ
          obtain ⟨htn, hnone, hsome⟩ := tok_obj hob
          have htv := (hcur htn).2
          have hcap0 : tcap = 0 := by
            rcases htb : tbase with _ | ⟨b, o⟩
            · exact (hnone htb).2
            · exact (hsome b o htb).2.1 (by simp)
          subst hcap0
          have htn0 : tn = 0 := by rw [← htn]; rfl
          subst htn0
          have hsl : ∃ a, s' = .slice a 0 0 := by
            rw [htv]; unfold tokVal; split
            · exact ⟨_, rfl⟩
            · exact ⟨_, rfl⟩
          obtain ⟨a, rfl⟩ := hsl
          obtain ⟨nc, w1, hnc, hheap, o1, cells, hcs, hrun, hrel⟩ := append_grow (ty := ty) hS (es := []) ht hu hsz hby hz hzl hzc hb0 rfl (list_row (P := P) h (fun j e h => by simp at h) _ rfl) hx hxe hnew hroom (by simp; omega)
          simp only [List.length_nil, Nat.zero_add, List.nil_append] at hnc hrun hrel
          rw [← hheap] at hrun
          obtain ⟨g', o2, r2⟩ := ref_grow o1.sim (sz := sz) (ver := 0) (nc := nc) (len := 0) (xs0 := []) (old := []) e (id := H.length) (fun _ => rfl) (fun l' hl' => by
            have := o1.sim.dom H.length (by rw [hl']; simp); omega) (H ++ [.arr new 0]) (.inl ⟨rfl, rfl⟩) rfl hnew rfl (by omega) hcs (fun j e' q y hj hy => by
              obtain ⟨y', e1, e2⟩ := hrel j e' q y hj hy
              exact ⟨y', e1, e2.mono o1.ext⟩)
          refine ⟨_, _, _, hrun, o1.trans o2, ?_⟩
          simpa using r2
      cases ha
      obtain ⟨htk, _⟩ := List.getElem?_eq_some_iff.1 hH
      have hes : ∀ (j : Nat) (e : V), es[j]? = some e → e.cells.length = sz := fun j e' hj => by
        have := List.all_eq_true.1 hall e' (List.mem_of_getElem? hj)
        simpa using this
      have hsl := list_of_tl hs
      obtain ⟨a, cap, hs', hle⟩ := list_cap hsl
      have hp : V.pureL es = true := by
        cases hsl with
        | listNil => rfl
        | listZ => rfl
        | list b o cap s es c hlen hpure hs hO hc hr => exact hpure
      by_cases h0 : new.length = 0
      · -- nothing is appended
        have hx0 : xs.length = 0 := by omega
        have hn0 : new = [] := List.eq_nil_of_length_eq_zero h0
        subst hn0
        rw [hx0] at hx' rx cxl
        subst hs'
        refine ⟨_, _, _, append_zero ht hu hsz hle hx' rx (by omega), ?_, by simpa using hs⟩
        have : H.set tk (.tok (es.length + ([] : List V).length)) = H := by
          apply List.ext_getElem?
          intro i
          by_cases e1 : i = tk
          · subst e1; simp [htk]; rw [List.getElem?_eq_some_iff] at hH; exact hH.2.symm
          · rw [List.getElem?_set_ne (Ne.symm e1)]
        rw [this]
        exact Out.refl hS
      · cases hs with
        | tl _ _ _ tbase ts tcap tn h hφ hn hcur =>
          have hob := hS.obj tk _ _ hH hφ
          obtain ⟨htn, hnone, hsome⟩ := tok_obj hob
          subst htn
          obtain ⟨hts, htv⟩ := hcur rfl
          by_cases hroomy : es.length + new.length ≤ cap
          · -- there is room
            rcases htb : tbase with _ | ⟨b, o⟩
            · obtain ⟨h1, h2⟩ := hnone htb
              rw [htb] at htv
              simp [tokVal] at htv
              rw [htv] at hs'
              simp at hs'
              omega
            · obtain ⟨hcap, hz0, hspare⟩ := hsome b o htb
              subst htb
              simp only [tokVal] at htv
              rw [htv] at hs'
              cases hs'
              have hn1 : es.length ≠ 0 := fun h1 => by have := hz0 h1; omega
              have hss : ts = sz := by
                have e1 : es[0]? = some (es[0]'(by omega)) := by simp
                rw [← hts _ (List.mem_of_getElem? e1), hes 0 _ e1]
              subst hss
              subst htv
              have cb : ∀ j, j < cx.length → j + es.length * ts < cap * ts := fun j hj => by
                have : (es.length + xs.length) * ts ≤ cap * ts := Nat.mul_le_mul_right ts (by omega)
                rw [Nat.add_mul] at this; omega
              have spare : ∀ j, j < cx.length → g.O b (o + es.length * ts + j) = .res tk ∧ w.frozen? ⟨b, o + es.length * ts + j, none⟩ = false ∧ ∃ v', w.cell? ⟨b, o + es.length * ts + j, none⟩ = some v' := fun j hj => by
                have := hspare (es.length * ts + j) (by omega) (by have := cb j hj; omega)
                rwa [← Nat.add_assoc] at this
              have cellv : ∀ (k : Nat), k < xs.length * ts → ∃ y, (es ++ new)[es.length + k / ts]? = some y ∧ ∃ u, y.cells[k % ts]? = some u ∧ ∃ u', cx[k]? = some u' ∧ VRel g w u u' ∧ u.isCell = true := fun k hk => by
                have hd : k / ts < new.length := by rw [hnl, Nat.div_lt_iff_lt_mul (by omega)]; exact hk
                have hm : k % ts < ts := Nat.mod_lt _ (by omega)
                have e1 : new[k / ts]? = some new[k / ts] := by simp [hd]
                have h2 := (takeElems_spec hnew).2.1 _ (List.mem_of_getElem? e1)
                have h21 := h2.1
                have e3 : (new[k / ts]).cells[k % ts]? = some ((new[k / ts]).cells[k % ts]'(by omega)) := by simp
                obtain ⟨u', e4, e5⟩ := crel _ _ _ _ e1 e3
                rw [Nat.div_add_mod'] at e4
                refine ⟨_, ?_, _, e3, u', e4, e5, List.all_eq_true.1 h2.2.2 _ (List.mem_of_getElem? e3)⟩
                rw [List.getElem?_append_right (Nat.le_add_right _ _), Nat.add_sub_cancel_left]; exact e1
              have hone : ∀ v ∈ cx, v.oneCell' = true := fun v hv => by
                obtain ⟨k, hk⟩ := List.getElem?_of_mem hv
                obtain ⟨hlt, _⟩ := List.getElem?_eq_some_iff.1 hk
                obtain ⟨_, _, u, _, u', e4, e5, e6⟩ := cellv k (by omega)
                rw [hk] at e4; cases e4
                exact (isCell_one e5 e6).1
              have hrun := append_in (P := P) (ty := ty) (L := es.length) (n := xs.length) (cap := cap) (b := b) (o := o) ht hu hsz (by omega) hx' rx (fun j hj => by obtain ⟨_, _, v, hv⟩ := spare j hj; rw [hv]; rfl) (fun j hj => (spare j hj).2.1) hone
              -- the ghost
              let g' : G := { O := fun b' k => if b' = b ∧ o + es.length * ts ≤ k ∧ k < o + (es.length + new.length) * ts then .imm else g.O b' k, φ := fun i => if i = tk then some (.tok (some (b, o)) ts cap (es.length + new.length)) else g.φ i }
              have hcxl : es.length * ts + cx.length = (es.length + new.length) * ts := by rw [cxl, Nat.add_mul, hnl]
              have own' : ∀ j, j < cx.length → g.O b (o + es.length * ts + j) = .res tk := fun j hj => (spare j hj).1
              have x0 := write_ext (w := w) own'
              have hO : ∀ b' k, g.O b' k ≠ .res tk → g'.O b' k = g.O b' k := fun b' k hk => by
                simp only [g']
                split
                · rename_i h3
                  obtain ⟨rfl, h4, h5⟩ := h3
                  have := own' (k - (o + es.length * ts)) (by omega)
                  rw [show o + es.length * ts + (k - (o + es.length * ts)) = k by omega] at this
                  exact absurd this hk
                · rfl
              have xx : Ext g w g' (w.setCells b (o + es.length * ts) cx) := by
                refine ⟨x0.size, fun b' k hk => ⟨by rw [hO b' k (by rw [hk]; simp)]; exact hk, (x0.imm b' k hk).2⟩, fun i l hl => ?_, fun b' hb hf => ⟨(x0.free b' hb hf).1, fun k => hO b' k (hf k tk)⟩, x0.os, x0.tape, x0.output, x0.drawn⟩
                by_cases e1 : i = tk
                · subst e1; rw [hφ] at hl; cases hl
                  refine ⟨.tok (some (b, o)) ts cap (es.length + new.length), by simp [g'], ?_⟩
                  exact (show _ ∧ _ from ⟨by omega, fun h => absurd h (by omega)⟩)
                · exact ⟨l, by simp [g', e1, hl], LocLe.refl _⟩
              have cell'' : ∀ j, j < cx.length → (w.cell? ⟨b, o + es.length * ts + j, none⟩).isSome = true := fun j hj => by obtain ⟨_, _, v, hv⟩ := spare j hj; rw [hv]; rfl
              have keep : ∀ i, i ≠ tk → Keep i g w g' (w.setCells b (o + es.length * ts) cx) := fun i hi => by
                have k0 := write_keep (w := w) own' hi cell''
                exact ⟨fun b' k hk => by rw [hO b' k (by rw [hk]; simp; exact hi)]; exact hk, k0.cell, k0.map⟩
              refine ⟨_, _, g', hrun, ⟨⟨by simpa using hS.bl, hS.srt, fun i hi => ?_, fun b' k hk => ?_, fun i ob l h1 h2 => ?_, fun i ob h2 hm2 => ?_⟩, xx, by simp, fun i => ?_⟩, ?_⟩
              · by_cases e1 : i = tk
                · simp; omega
                · simp [g', e1] at hi; simpa using hS.dom i hi
              · rw [(setCells_heap _ _ _ _).1]
                by_cases h3 : b' = b ∧ o + es.length * ts ≤ k ∧ k < o + (es.length + new.length) * ts
                · obtain ⟨rfl, h4, h5⟩ := h3
                  have := own' (k - (o + es.length * ts)) (by omega)
                  exact hS.old b' _ (by rw [this]; simp)
                · simp [g', h3] at hk; exact hS.old b' k hk
              · by_cases e1 : i = tk
                · subst e1
                  simp [htk] at h1; subst h1
                  simp [g'] at h2; subst h2
                  refine .tok _ _ _ _ _ (by omega) (by omega) (fun k h3 h4 => ?_)
                  obtain ⟨k1, k2, v, k3⟩ := hspare k (by
                    have : es.length * ts ≤ (es.length + new.length) * ts := Nat.mul_le_mul_right ts (by omega)
                    omega) h4
                  refine ⟨by simp only [g']; rw [if_neg (fun h5 => by have := h5.2; omega)]; exact k1, by rw [World.frozen?_setCells]; exact k2, v, ?_⟩
                  rw [World.cell?_setCells_out _ _ _ _ _ (fun _ _ => by simp only; omega)]
                  exact k3
                · rw [List.getElem?_set_ne (Ne.symm e1)] at h1
                  have h2' : g.φ i = some l := by simpa [g', e1] using h2
                  exact (hS.obj i ob l h1 h2').keep xx (keep i e1)
              · by_cases e1 : i = tk
                · subst e1; simp [htk] at h2; subst h2; exact fun b _ => .inr rfl
                · rw [List.getElem?_set_ne (Ne.symm e1)] at h2; exact hS.und i ob h2 (by simpa [g', e1] using hm2)
              · by_cases e1 : i = tk
                · subst e1; simp [g', hφ]
                · simp [g', e1]; omega
              · have hlist : VRel g' (w.setCells b (o + es.length * ts) cx) (.list (es ++ new)) (.slice (some ⟨b, o, none⟩) (es ++ new).length cap) := by
                  cases hsl with
                  | listZ => exact absurd rfl hn1
                  | list _ _ _ s2 _ c hlen hpure hs2 hO2 hc2 hr2 =>
                    have hs2' : s2 = ts := by
                      have e1 : es[0]? = some (es[0]'(by omega)) := by simp
                      rw [← hs2 0 _ e1, hes 0 _ e1]
                    subst hs2'
                    refine list_mk (s := s2) (fun k => if k < es.length * s2 then c (k / s2) (k % s2) else cx[k - es.length * s2]?.getD Go.undef) (by simp; omega) (fun j e' hj => ?_) (append_rel_pure hnew hp) (fun k hk => ⟨?_, ?_⟩) (fun j e' q y hj hy => ?_)
                    · rcases append_get es new j e' hj with ⟨_, h1⟩ | ⟨_, _, h1⟩
                      · exact hes j e' h1
                      · exact ((takeElems_spec hnew).2.1 e' (List.mem_of_getElem? h1)).1
                    · rw [List.length_append] at hk
                      by_cases hk1 : k < es.length * s2
                      · have h1 : k / s2 < es.length := by rw [Nat.div_lt_iff_lt_mul (by omega)]; exact hk1
                        have h2 : k % s2 < s2 := Nat.mod_lt _ (by omega)
                        have := hO2 (k / s2) (k % s2) h1 h2
                        rw [Nat.add_assoc, Nat.div_add_mod'] at this
                        rw [hO b (o + k) (by rw [this]; simp)]; exact this
                      · simp only [g']
                        rw [if_pos ⟨trivial, by omega, by omega⟩]
                    · rw [List.length_append] at hk
                      by_cases hk1 : k < es.length * s2
                      · rw [if_pos hk1]
                        have h1 : k / s2 < es.length := by rw [Nat.div_lt_iff_lt_mul (by omega)]; exact hk1
                        have h2 : k % s2 < s2 := Nat.mod_lt _ (by omega)
                        have := hc2 (k / s2) (k % s2) h1 h2
                        rw [Nat.add_assoc, Nat.div_add_mod'] at this
                        rw [World.cell?_setCells_out _ _ _ _ _ (fun _ _ => by simp only; omega)]
                        exact this
                      · rw [if_neg hk1]
                        have hlt : k - es.length * s2 < cx.length := by omega
                        have := World.cell?_setCells_in b cx (o + es.length * s2) w cell'' (k - es.length * s2) hlt
                        rw [show o + es.length * s2 + (k - es.length * s2) = o + k by omega] at this
                        rw [this]; simp [hlt]
                    · obtain ⟨hq, _⟩ := List.getElem?_eq_some_iff.1 hy
                      rcases append_get es new j e' hj with ⟨hlt, h1⟩ | ⟨hge, hlt, h1⟩
                      · have hq2 : q < s2 := by have := hes j e' h1; omega
                        have hk := at_lt (sz := s2) hlt hq2
                        have e1 : (j * s2 + q) / s2 = j := by rw [Nat.mul_comm, Nat.mul_add_div (by omega), Nat.div_eq_of_lt hq2, Nat.add_zero]
                        have e2 : (j * s2 + q) % s2 = q := by rw [Nat.mul_comm, Nat.mul_add_mod, Nat.mod_eq_of_lt hq2]
                        rw [if_pos hk, e1, e2]
                        exact (hr2 j e' q y h1 hy).mono xx
                      · obtain ⟨y', e1, e2⟩ := crel (j - es.length) e' q y h1 hy
                        have hjs : j * s2 + q = es.length * s2 + ((j - es.length) * s2 + q) := by
                          rw [← Nat.add_assoc, ← Nat.add_mul]; congr 2; omega
                        rw [if_neg (by omega), hjs, Nat.add_sub_cancel_left, e1]
                        exact e2.mono xx
                have hnl2 : (es ++ new).length = es.length + xs.length := by simp [hnl]
                refine .tl _ _ _ (some (b, o)) ts cap (es.length + new.length) (by rw [hnl2] at hlist; exact hlist) (by simp [g']) (by simp) (fun _ => ⟨fun e' he' => ?_, by simp [tokVal, hnl]⟩)
                rcases List.mem_append.1 he' with h1 | h1
                · exact hts e' h1
                · exact ((takeElems_spec hnew).2.1 e' h1).1
          · -- there is none
            obtain ⟨nc, w1, hnc, hheap, o1, cells, hcs, hrun, hrel⟩ := append_grow (ty := ty) hS ht hu hsz hby hz hzl hzc hb0 hs' (list_row (P := P) hsl hes _ rfl) hx hxe hnew hroom (by omega)
            rw [← hheap] at hrun
            have hcell : ∀ k, k < nc * sz → ∃ v, ({ w1 with heap := w1.heap.push (.cells cells e) } : World).cell? ⟨w1.heap.size, k, none⟩ = some v := fun k hk => by
              rw [cell_push_new]; exact ⟨cells[k]'(by omega), by simp [show k < cells.size by omega]⟩
            have o2 := out_grow o1.sim (.cells cells e) tk (es.length + new.length) sz nc (fun h => by rw [hH] at h; cases h) (fun h => by rw [hφ] at h; cases h) (fun l' hl' => by
              rw [hφ] at hl'; cases hl'; exact (show _ ∧ _ from ⟨by omega, fun h => absurd h (by omega)⟩)) (H.set tk (.tok (es.length + new.length))) (.inr ⟨htk, by rw [hφ]; simp, rfl⟩) hnc (by omega) hcell (fun k => frozen_push_new cells e k)
            have o := o1.trans o2
            refine ⟨_, _, _, hrun, o, ?_⟩
            refine .tl _ _ _ (some (w1.heap.size, 0)) sz nc (es.length + new.length) ?_ (by simp [G.grow, G.lay]) (by simp) (fun _ => ⟨fun e' he' => ?_, by simp [tokVal]⟩)
            · exact grown_list (xs := xs) e rfl rfl rfl o.ext hes hp hnew hnc hcs hrel
            · rcases List.mem_append.1 he' with h1 | h1
              · obtain ⟨j, hj⟩ := List.getElem?_of_mem h1; exact hes j e' hj
              · exact ((takeElems_spec hnew).2.1 e' h1).1
    | _ => simp [hH] at ha
  | ref s0 id ver off len =>
    simp only at ha
    cases hH : H[id]? with
    | none => simp [hH] at ha
    | some ob =>
    cases ob with
    | arr es v0 =>
      simp only [hH] at ha
      split at ha
      case isFalse => cases ha
      rename_i hcond
      obtain ⟨rfl, rfl, rfl, hlen, hroom⟩ := hcond
      cases hold : takeElems s0 (es.take len) with
      | none => simp [hold] at ha
      | some old =>
      simp only [hold, Option.map_some, Option.some.injEq, Prod.mk.injEq] at ha
      obtain ⟨rfl, rfl⟩ := ha
      have hol : old.length = len := by rw [(takeElems_spec hold).1, List.length_take]; omega
      have hsE : elemsV H (.ref s0 id v0 0 len) = some (es.take len) := by
        simp only [elemsV, hH, Nat.zero_add, List.drop_zero]
        rw [if_pos (by simpa using hlen)]
      obtain ⟨hid, _⟩ := List.getElem?_eq_some_iff.1 hH
      have hs2 := hs
      cases hs with
      | ref _ _ _ _ _ cap b o s' ext ver' b' o' hφ hv hle hcur =>
        obtain ⟨hver, hext, hes, hown, hcell⟩ := obj_arr hS hH hφ
        subst hver
        obtain ⟨rfl, hcap⟩ := hcur rfl
        by_cases hroomy : len + new.length ≤ cap
        · by_cases h0 : new.length = 0
          · have hx0 : xs.length = 0 := by omega
            have hn0 : new = [] := List.eq_nil_of_length_eq_zero h0
            subst hn0
            rw [hx0] at hx' rx cxl
            have hb0' : (len + ([] : List V).length) * s' ≤ ext := by
              have h1 : len * s' ≤ es.length * s' := Nat.mul_le_mul_right s' hlen
              simpa using Nat.le_trans h1 hext
            have o1 := ref_put hS (v0 + 1) (Nat.le_succ _) hc0 hH hφ hlen hold hnew [] (by simp) hb0' (fun j e q y hj => by simp at hj)
            refine ⟨_, _, _, append_zero ht hu hsz hle hx' rx (by omega), o1, ?_⟩
            refine .ref _ _ _ _ _ cap b o s' ext (v0 + 1) b' o' (by simp) (Nat.le_refl _) (by simpa using hle) (fun _ => ⟨rfl, fun hc => hcap hc⟩)
          · obtain ⟨rfl, rfl, hcx⟩ := hcap (by omega)
            have hbnd : (len + new.length) * s' ≤ ext := by
              have : (len + new.length) * s' ≤ (0 + cap) * s' := Nat.mul_le_mul_right s' (by omega)
              omega
            have hcxl : cx.length = new.length * s' := by rw [cxl, hnl]
            have hsum : len * s' + cx.length = (len + new.length) * s' := by rw [hcxl, Nat.add_mul]
            have spare : ∀ j, j < cx.length → w.frozen? ⟨b', o + len * s' + j, none⟩ = false ∧ ∃ v', w.cell? ⟨b', o + len * s' + j, none⟩ = some v' := fun j hj => by
              have := (hown (len * s' + j) (by omega)).2
              rwa [← Nat.add_assoc] at this
            have hone : ∀ v ∈ cx, v.oneCell' = true := fun v hv => by
              obtain ⟨k, hk⟩ := List.getElem?_of_mem hv
              obtain ⟨hlt, _⟩ := List.getElem?_eq_some_iff.1 hk
              have hd : k / s' < new.length := by rw [Nat.div_lt_iff_lt_mul (by omega)]; omega
              have hm : k % s' < s' := Nat.mod_lt _ (by omega)
              have e1 : new[k / s']? = some new[k / s'] := by simp [hd]
              have h2 := (takeElems_spec hnew).2.1 _ (List.mem_of_getElem? e1)
              have h21 := h2.1
              have e3 : (new[k / s']).cells[k % s']? = some ((new[k / s']).cells[k % s']'(by omega)) := by simp
              obtain ⟨u', e4, e5⟩ := crel _ _ _ _ e1 e3
              rw [Nat.div_add_mod'] at e4
              rw [hk] at e4; cases e4
              exact (isCell_one e5 (List.all_eq_true.1 h2.2.2 _ (List.mem_of_getElem? e3))).1
            have hrun := append_in (P := P) (ty := ty) (L := len) (n := xs.length) (cap := cap) (b := b') (o := o) ht hu hsz (by omega) hx' rx (fun j hj => by obtain ⟨_, v, hv⟩ := spare j hj; rw [hv]; rfl) (fun j hj => (spare j hj).1) hone
            have o1 := ref_put hS (v0 + 1) (Nat.le_succ _) hc0 hH hφ hlen hold hnew cx hcxl hbnd crel
            refine ⟨_, _, _, by simpa using hrun, o1, ?_⟩
            rw [← hnl]
            exact .ref _ _ _ _ _ cap b' o s' ext (v0 + 1) b' o (by simp) (Nat.le_refl _) hroomy (fun _ => ⟨rfl, fun _ => ⟨rfl, by omega, hcx⟩⟩)
        · have o1 := sim_drew hS (w.drawn + 1) (Nat.le_succ _)
          obtain ⟨a3, cap3, co, hs', ro, col, orel⟩ := elems_run (P := P) o1.sim (hs2.mono o1.ext) hsE hold
          have hxx : Bears g { w with drawn := w.drawn + 1 } g w := ⟨fun _ _ h => ⟨h, rfl⟩, fun _ l h => ⟨l, h, LocLe.refl l⟩⟩
          have htl : (es.take len).length = old.length := by rw [(takeElems_spec hold).1]
          rw [htl] at ro col
          obtain ⟨nc, w1, hnc, hheap, o1, cells, hcs, hrun, hrel⟩ := append_grow (ty := ty) hS (es := old) ht hu hsz hby hz hzl hzc hb0 (by rw [hol]) ⟨co, ro, col, fun j e' q y hj hy => by
            obtain ⟨y', e1, e2⟩ := orel j e' q y hj hy
            exact ⟨y', e1, e2.bear hxx⟩⟩ hx hxe hnew (by rw [hol]; exact hroom) (by rw [hol]; omega)
          rw [← hheap] at hrun
          obtain ⟨g', o2, r2⟩ := ref_grow o1.sim (sz := s') (ver := v0 + 1) (nc := nc) (len := len) e (id := id) (fun h => by rw [hφ] at h; cases h) (fun l' hl' => by
            rw [hφ] at hl'; cases hl'; exact (show _ ∧ _ from ⟨by omega, fun h => absurd h (by omega)⟩)) (H.set id (.arr (old ++ new) (v0 + 1))) (.inr ⟨hid, by rw [hφ]; simp, rfl⟩) hold hnew hol (by rw [← hol]; exact hnc) hcs (fun j e' q y hj hy => by
              obtain ⟨y', e1, e2⟩ := hrel j e' q y hj hy
              exact ⟨y', e1, e2.mono o1.ext⟩)
          rw [hol] at hrun
          exact ⟨_, _, _, hrun, o1.trans o2, r2⟩
    | _ => simp [hH] at ha
  | _ => simp at ha
end
end Go.E
/- Soundness of E, operation by operation (9): maps, min, max, '=='. Own work. -/
namespace Go.E
section
variable {P : Program} {g : G} {w : World} {bs : List Nat} {H : Heap}

theorem findNow_at (d : TypeDesc) (k : Value) : ∀ (l : List MapEntry) (i n : Nat) (e : MapEntry), (∀ (j : Nat) (e : MapEntry), j < i → l[j]? = some e → Instr.sameNow d k e.key = some false) →
    l[i]? = some e → Instr.sameNow d k e.key = some true → Instr.findNow d k l n = some (some (n + i, e.val))
  | [], i, n, e, _, h, _ => by simp at h
  | x :: r, 0, n, e, _, h, ht => by simp at h; subst h; simp [Instr.findNow, ht]
  | x :: r, i + 1, n, e, hb, h, ht => by
    have h0 := hb 0 x (by omega) (by simp)
    simp only [Instr.findNow, h0]
    rw [findNow_at d k r i (n + 1) e (fun j e hj he => hb (j + 1) e (by omega) (by simpa using he)) (by simpa using h) ht]
    congr 3; omega
theorem findNow_no (d : TypeDesc) (k : Value) : ∀ (l : List MapEntry) (n : Nat), (∀ (j : Nat) (e : MapEntry), l[j]? = some e → Instr.sameNow d k e.key = some false) → Instr.findNow d k l n = some none
  | [], n, _ => rfl
  | x :: r, n, hb => by
    have h0 := hb 0 x (by simp)
    simp only [Instr.findNow, h0]
    exact findNow_no d k r (n + 1) (fun j e he => hb (j + 1) e (by simpa using he))

theorem findV_spec (k : V) : ∀ (es : List (V × V)) (r : Option V), findV k es = some r →
    (∃ i kv, es[i]? = some kv ∧ keyEq k kv.1 = some true ∧ r = some kv.2 ∧ (∀ (j : Nat) (x : V × V), j < i → es[j]? = some x → keyEq k x.1 = some false) ∧ ∀ v, putV k v es = es.set i (k, v)) ∨
    (r = none ∧ (∀ (j : Nat) (x : V × V), es[j]? = some x → keyEq k x.1 = some false) ∧ ∀ v, putV k v es = es ++ [(k, v)])
  | [], r, h => by
    simp [findV] at h; subst h
    exact .inr ⟨rfl, fun j x hx => by simp at hx, fun v => rfl⟩
  | (k', v') :: es, r, h => by
    simp only [findV] at h
    cases hk : keyEq k k' with
    | none => simp [hk] at h
    | some b =>
      cases b with
      | true =>
        simp [hk] at h; subst h
        exact .inl ⟨0, (k', v'), rfl, hk, rfl, fun j x hj => by omega, fun v => by simp [putV, hk]⟩
      | false =>
        simp only [hk] at h
        rcases findV_spec k es r h with ⟨i, kv, h1, h2, h3, h4, h5⟩ | ⟨h1, h2, h3⟩
        · refine .inl ⟨i + 1, kv, by simpa using h1, h2, h3, fun j x hj hx => ?_, fun v => by simp [putV, hk, h5 v]⟩
          cases j with
          | zero => simp at hx; subst hx; exact hk
          | succ j => exact h4 j x (by omega) (by simpa using hx)
        · refine .inr ⟨h1, fun j x hx => ?_, fun v => by simp [putV, hk, h3 v]⟩
          cases j with
          | zero => simp at hx; subst hx; exact hk
          | succ j => exact h2 j x (by simpa using hx)

theorem key_same {kt : TypeId} {k k2 : V} {k' k2' : Value} {b : Bool} {d : TypeDesc} (hs : simpleKeyT P kt k = true) (hd : P.underlying kt = some d) (he : keyEq k k2 = some b) (hk : VRel g w k k') (hk2 : VRel g w k2 k2') :
    Instr.sameNow d k' k2' = some b := by
  cases k <;> cases k2 <;> simp only [keyEq] at he <;> (try (cases he; done))
  · cases hk; cases hk2
    unfold simpleKeyT at hs
    rw [hd] at hs
    split at he
    · rename_i hkk; cases he; subst hkk
      cases d <;> simp_all [Instr.sameNow]
    · cases he
  · cases hk; cases hk2
    unfold simpleKeyT at hs
    rw [hd] at hs
    cases he
    cases d <;> simp_all [Instr.sameNow, ba_beq]
  · cases hk; cases hk2
    unfold simpleKeyT at hs
    rw [hd] at hs
    cases he
    cases d <;> simp_all [Instr.sameNow, ba_beq]

theorem checkKey_succ {kt : TypeId} {k : V} {k' : Value} {em : Bool} (n : Nat) (hs : simpleKeyT P kt k = true) (hk : VRel g w k k') (w : World) : (Instr.checkKey em (n + 1) kt k').run P w = .ok () w := by
  unfold simpleKeyT at hs
  cases hu : P.underlying kt with
  | none => simp [hu] at hs
  | some d =>
    rw [hu] at hs
    cases d <;> cases k <;> simp at hs <;> cases hk <;> simp [Instr.checkKey, run_underlying hu]
theorem checkKey_run {kt : TypeId} {k : V} {k' : Value} {em : Bool} (hs : simpleKeyT P kt k = true) (hk : VRel g w k k') (w : World) : (Instr.checkKey em 10000 kt k').run P w = .ok () w :=
  checkKey_succ 9999 hs hk w

/-- What the machine finds. -/
theorem find_run {kt : TypeId} {k : V} {k' : Value} {es : List (V × V)} {es' : Array MapEntry} {r : Option V} (hs : simpleKeyT P kt k = true) (hk : VRel g w k k') (hf : findV k es = some r) (hsz : es'.size = es.length)
    (hr : ∀ (k : Nat) (kv : V × V) (e : MapEntry), es[k]? = some kv → es'[k]? = some e → VRel g w kv.1 e.key ∧ VRel g w kv.2 e.val) :
    (∃ i kv e, es[i]? = some kv ∧ es'[i]? = some e ∧ keyEq k kv.1 = some true ∧ r = some kv.2 ∧ (∀ v, putV k v es = es.set i (k, v)) ∧ ∀ w1, (Instr.findKey kt k' es'.toList).run P w1 = .ok (some (i, e.val)) w1) ∨
    (r = none ∧ (∀ v, putV k v es = es ++ [(k, v)]) ∧ ∀ w1, (Instr.findKey kt k' es'.toList).run P w1 = .ok none w1) := by
  obtain ⟨d, hd⟩ : ∃ d, P.underlying kt = some d := by
    unfold simpleKeyT at hs
    cases hu : P.underlying kt with
    | none => simp [hu] at hs
    | some d => exact ⟨d, rfl⟩
  have at_ : ∀ (j : Nat) (e : MapEntry), es'.toList[j]? = some e → ∃ kv, es[j]? = some kv ∧ VRel g w kv.1 e.key := fun j e hj => by
    obtain ⟨hlt, _⟩ := List.getElem?_eq_some_iff.1 hj
    have hlt2 : j < es.length := by simp at hlt; omega
    have h1 : es[j]? = some es[j] := by simp [hlt2]
    exact ⟨_, h1, (hr j _ e h1 (by simpa using hj)).1⟩
  rcases findV_spec k es r hf with ⟨i, kv, h1, h2, h3, h4, h5⟩ | ⟨h1, h2, h3⟩
  · obtain ⟨hlt, _⟩ := List.getElem?_eq_some_iff.1 h1
    have hlt' : i < es'.size := by omega
    have e1 : es'[i]? = some es'[i] := by simp [hlt']
    have hn := findNow_at d k' es'.toList i 0 es'[i] (fun j e hj he => by
      obtain ⟨x, hx, hxr⟩ := at_ j e he
      exact key_same hs hd (h4 j x hj hx) hk hxr) (by simpa using e1) (key_same hs hd h2 hk (hr i kv _ h1 e1).1)
    refine .inl ⟨i, kv, es'[i], h1, e1, h2, h3, h5, fun w1 => ?_⟩
    simp [Instr.findKey, run_underlying hd, hn]
  · have hn := findNow_no d k' es'.toList 0 (fun j e he => by
      obtain ⟨x, hx, hxr⟩ := at_ j e he
      exact key_same hs hd (h2 j x hx) hk hxr)
    exact .inr ⟨h1, h3, fun w1 => by simp [Instr.findKey, run_underlying hd, hn]⟩

theorem obj_map (hS : Sim bs g H w) {id b : Nat} {es : List (V × V)} (hH : H[id]? = some (.map es)) (hφ : g.φ id = some (.map b)) :
    ∃ es' clock, g.O b 0 = .res id ∧ w.heap[b]? = some (.map es' clock) ∧ es'.size = es.length ∧
      ∀ (k : Nat) (kv : V × V) (e : MapEntry), es[k]? = some kv → es'[k]? = some e → VRel g w kv.1 e.key ∧ VRel g w kv.2 e.val := by
  have h := hS.obj id _ _ hH hφ
  cases h with
  | map _ _ clock es' ho hb hs hr => exact ⟨es', clock, ho, hb, hs, hr⟩

theorem run_getObj_map {b : Nat} {es : Array MapEntry} {c : Nat} (h : w.heap[b]? = some (.map es c)) : (getObj b).run P w = .ok (.map es c) w := by
  simp [getObj, Sem.run, h]
theorem run_setObj_map {b : Nat} {es : Array MapEntry} {c : Nat} {o : Obj} (h : w.heap[b]? = some (.map es c)) : (setObj b o).run P w = .ok () { w with heap := w.heap.setIfInBounds b o } := by
  simp [setObj, Sem.run, h]

theorem tuple2 {a b : V} {a' b' : Value} (h : VRel g w a a') (k : VRel g w b b') : VRel g w (.tuple [a, b]) (.tuple #[a', b']) :=
  .tuple _ _ rfl (fun j v v' h1 h2 => by
    match j with
    | 0 => simp at h1 h2; subst h1; subst h2; exact h
    | 1 => simp at h1 h2; subst h1; subst h2; exact k
    | j + 2 => simp at h1)

theorem lookup_sound (hS : Sim bs g H w) {t : TypeId} {m k v : V} {m' k' : Value} {ok : Bool} (h : lookupV P t m k ok H = some v) (hm : VRel g w m m') (hk : VRel g w k k') :
    ∃ v', (Instr.lookup t m' k' ok).run P w = .ok v' w ∧ VRel g w v v' := by
  unfold lookupV at h
  split at h
  case h_2 => cases h
  rename_i kt et hu
  split at h
  case isFalse => cases h
  rename_i hs
  cases hz : zeroT P et with
  | none => simp [hz] at h
  | some z =>
  obtain ⟨zv, rfl, hzr⟩ := zero_of hz
  have zrel : VRel g w (ofVal zv) zv := ofVal_rel zv
  cases m with
  | nilM =>
    cases hm
    simp [hz] at h
    subst h
    have hck := checkKey_run (P := P) (em := true) hs hk w
    obtain ⟨d, hd⟩ : ∃ d, P.underlying kt = some d := by
      unfold simpleKeyT at hs
      cases hu : P.underlying kt with
      | none => simp [hu] at hs
      | some d => exact ⟨d, rfl⟩
    have hf : ∀ w1, (Instr.findKey kt k' []).run P w1 = .ok none w1 := fun w1 => by simp [Instr.findKey, run_underlying hd, Instr.findNow]
    cases ok
    · exact ⟨zv, by simp [Instr.lookup, run_underlying hu, hck, hf, hzr], zrel⟩
    · exact ⟨.tuple #[zv, .bool false], by simp [Instr.lookup, run_underlying hu, hck, hf, hzr], tuple2 zrel (.bool _)⟩
  | map id =>
    cases hm with
    | map _ b hφ =>
    cases hH : H[id]? with
    | none => simp [hH] at h
    | some ob =>
    cases ob with
    | map es =>
      simp only [hH] at h
      cases hf : findV k es with
      | none => simp [hf] at h
      | some r =>
        simp [hf, hz] at h
        obtain ⟨es', clock, ho, hb, hsz, hr⟩ := obj_map hS hH hφ
        have hck := checkKey_run (P := P) (em := es'.isEmpty) hs hk w
        have hg := run_getObj_map (P := P) hb
        rcases find_run (P := P) hs hk hf hsz hr with ⟨i, kv, e, h1, h2, h3, rfl, h5, h6⟩ | ⟨rfl, h2, h3⟩
        · simp at h
          have hv := (hr i kv e h1 h2).2
          cases ok
          · simp at h; subst h
            exact ⟨e.val, by simp [Instr.lookup, run_underlying hu, hg, hck, h6], hv⟩
          · simp at h; subst h
            exact ⟨.tuple #[e.val, .bool true], by simp [Instr.lookup, run_underlying hu, hg, hck, h6], tuple2 hv (.bool _)⟩
        · simp at h
          cases ok
          · simp at h; subst h
            exact ⟨zv, by simp [Instr.lookup, run_underlying hu, hg, hck, h3, hzr], zrel⟩
          · simp at h; subst h
            exact ⟨.tuple #[zv, .bool false], by simp [Instr.lookup, run_underlying hu, hg, hck, h3, hzr], tuple2 zrel (.bool _)⟩
    | _ => simp [hH] at h
  | _ => simp at h

theorem makeMap_sound (hS : Sim bs g H w) {id : Nat} (hO : Open bs g H id (.map [])) {t : TypeId} : ∃ v' w' g', (Instr.makeMap t none).run P w = .ok v' w' ∧ Lay bs g w H id g' w' ∧ VRel g' w' (.map id) v' := by
  refine ⟨.map (some w.heap.size), { w with heap := w.heap.push (.map #[] 0) }, g.lay w.heap.size (fun _ => .res id) id (some (.map w.heap.size)), rfl, ?_, .map _ _ (by simp [G.lay])⟩
  exact lay_at hS _ _ _ _ hO (.map [] _ 0 #[] (by simp [G.lay]) (by simp) rfl (fun k kv e h => by simp at h))

theorem same_bits {k k2 : V} {k' k2' : Value} (h : keyEq k k2 = some true) (hk : VRel g w k k') (hk2 : VRel g w k2 k2') : Instr.sameBits 10000 k2' k' = true := by
  cases k <;> cases k2 <;> simp only [keyEq] at h <;> (try (cases h; done)) <;> cases hk <;> cases hk2
  · split at h
    · rename_i hkk; subst hkk; simp at h; subst h; simp [Instr.sameBits]
    · cases h
  · simp at h; subst h; simp [Instr.sameBits]
  · simp only [Option.some.injEq, decide_eq_true_eq] at h
    subst h
    simp [Instr.sameBits, ba_beq]

theorem mapUpdate_sound (hS : Sim bs g H w) {t : TypeId} {m k v : V} {m' k' v' : Value} {H' : Heap} (h : mapUpdateV P bs t m k v H = some H') (hm : VRel g w m m') (hk : VRel g w k k') (hv : VRel g w v v') :
    ∃ w', (Instr.mapUpdate t m' k' v').run P w = .ok () w' ∧ Out bs g w H g w' H' := by
  unfold mapUpdateV at h
  split at h
  case h_2 => cases h
  rename_i kt et hu
  split at h
  case isFalse => cases h
  rename_i hs
  cases m with
  | map id =>
    cases hm with
    | map _ b hφ =>
    cases hH : H[id]? with
    | none => simp [hH] at h
    | some ob =>
    cases ob with
    | map es =>
      simp only [hH] at h
      cases hf : findV k es with
      | none => simp [hf] at h
      | some r =>
        simp only [hf, Option.bind_some] at h
        split at h
        case isFalse => cases h
        rename_i hund
        cases h
        obtain ⟨es', clock, ho, hb, hsz, hr⟩ := obj_map hS hH hφ
        obtain ⟨hid, _⟩ := List.getElem?_eq_some_iff.1 hH
        obtain ⟨hbl, _⟩ := Array.getElem?_eq_some_iff.1 hb
        have hck := checkKey_run (P := P) (em := false) hs hk w
        have hg := run_getObj_map (P := P) hb
        -- one frame for both ways
        have fin : ∀ (es2 : Array MapEntry) (c2 : Nat) (new : List (V × V)), es2.size = new.length → putV k v es = new →
            (∀ (q : Nat) (kv : V × V) (e : MapEntry), new[q]? = some kv → es2[q]? = some e → VRel g w kv.1 e.key ∧ VRel g w kv.2 e.val) →
            (∀ kv ∈ new, kv ∈ es ∨ kv = (k, v)) →
            Out bs g w H g { w with heap := w.heap.setIfInBounds b (.map es2 c2) } (H.set id (.map (putV k v es))) := by
          intro es2 c2 new hl hput hrel hmem
          have hcell : ∀ (b' q : Nat), ({ w with heap := w.heap.setIfInBounds b (.map es2 c2) } : World).cell? ⟨b', q, none⟩ = w.cell? ⟨b', q, none⟩ := fun b' q => by
            unfold World.cell?
            by_cases e1 : b' = b
            · have e2 : (w.heap.setIfInBounds b (.map es2 c2))[b]? = some (.map es2 c2) := by simp [hbl]
              subst e1; simp only [e2, hb]
            · simp [Array.getElem?_setIfInBounds_ne (Ne.symm e1)]
          have hfro : ∀ (b' q : Nat), ({ w with heap := w.heap.setIfInBounds b (.map es2 c2) } : World).frozen? ⟨b', q, none⟩ = w.frozen? ⟨b', q, none⟩ := fun b' q => by
            unfold World.frozen?
            by_cases e1 : b' = b
            · have e2 : (w.heap.setIfInBounds b (.map es2 c2))[b]? = some (.map es2 c2) := by simp [hbl]
              subst e1; simp only [e2, hb]
            · simp [Array.getElem?_setIfInBounds_ne (Ne.symm e1)]
          have x : Ext g w g { w with heap := w.heap.setIfInBounds b (.map es2 c2) } :=
            ⟨by simp, fun b' q hq => ⟨hq, hcell b' q⟩, fun _ l h => ⟨l, h, LocLe.refl l⟩, fun b' hb' hfr => ⟨by
              have : b ≠ b' := fun e1 => by subst e1; exact hfr 0 id ho
              simp [Array.getElem?_setIfInBounds_ne this], fun _ => rfl⟩, rfl, rfl, rfl, Nat.le_refl _⟩
          refine ⟨⟨by simpa using hS.bl, hS.srt, fun i hi => by simpa using hS.dom i hi, fun b' q hq => by simpa using hS.old b' q hq, fun i ob l h1 h2 => ?_, fun i ob h2 hm2 => ?_⟩, x, by simp, fun i => by simp; omega⟩
          · by_cases e1 : i = id
            · subst e1
              simp [hid] at h1; subst h1
              rw [hφ] at h2; cases h2
              rw [hput]
              exact .map _ _ c2 es2 ho (by simp [hbl]) hl (fun q kv e h3 h4 => ⟨(hrel q kv e h3 h4).1.mono x, (hrel q kv e h3 h4).2.mono x⟩)
            · rw [List.getElem?_set_ne (Ne.symm e1)] at h1
              refine (hS.obj i ob l h1 h2).keep x ⟨fun _ _ h => h, fun b' q _ => ⟨hcell b' q, hfro b' q⟩, fun b' es3 c3 h3 h4 => ?_⟩
              have : b ≠ b' := fun e2 => by subst e2; rw [ho] at h3; cases h3; exact e1 rfl
              simp [Array.getElem?_setIfInBounds_ne this, h4]
          · by_cases e1 : i = id
            · subst e1
              simp [hid] at h2; subst h2
              intro b2 hb2
              rcases okStore_at hS.srt hund b2 hb2 with h4 | h4
              · exact .inl h4
              · rcases hS.und i _ hH hm2 b2 hb2 with h3 | h3
                · exact .inl h3
                · have h5 : k.under b2 = true := by
                    cases k <;> first | rfl | simp [simpleKeyT] at hs
                  refine .inr ?_
                  simp only [objUnder] at h3 ⊢
                  rw [hput]
                  refine List.all_eq_true.2 (fun kv hkv => ?_)
                  rcases hmem kv hkv with h6 | rfl
                  · exact List.all_eq_true.1 h3 kv h6
                  · simp [h4, h5]
            · rw [List.getElem?_set_ne (Ne.symm e1)] at h2
              exact hS.und i ob h2 hm2
        rcases find_run (P := P) hs hk hf hsz hr with ⟨i, kv, e, h1, h2, h3, rfl, h5, h6⟩ | ⟨rfl, h2, h3⟩
        · obtain ⟨hi, _⟩ := List.getElem?_eq_some_iff.1 h1
          have hsb := same_bits h3 hk (hr i kv e h1 h2).1
          refine ⟨_, ?_, fin (es'.modify i fun x => { x with key := k', val := v' }) clock (es.set i (k, v)) (by simp [hsz]) (h5 v) (fun q kv2 e2 hq he2 => ?_) (fun kv2 h => ?_)⟩
          · simp [Instr.mapUpdate, run_underlying hu, hg, hck, h6, Instr.keyThatStays, h2, hsb, run_setObj_map (P := P) hb]
          · by_cases e1 : q = i
            · subst e1
              simp [hi] at hq; subst hq
              have h2' : es'[q]? = some e := h2
              rw [Array.getElem?_modify] at he2
              simp [h2'] at he2
              subst he2
              exact ⟨hk, hv⟩
            · rw [List.getElem?_set_ne (Ne.symm e1)] at hq
              rw [Array.getElem?_modify, if_neg (Ne.symm e1)] at he2
              exact hr q kv2 e2 hq he2
          · rcases List.mem_or_eq_of_mem_set h with h | h
            · exact .inl h
            · exact .inr h
        · refine ⟨_, ?_, fin (es'.push { key := k', val := v', born := clock }) (clock + 1) (es ++ [(k, v)]) (by simp [hsz]) (h2 v) (fun q kv2 e2 hq he2 => ?_) (fun kv2 h => ?_)⟩
          · simp [Instr.mapUpdate, run_underlying hu, hg, hck, h3, run_setObj_map (P := P) hb]
          · by_cases e1 : q < es.length
            · rw [List.getElem?_append_left e1] at hq
              rw [Array.getElem?_push, if_neg (by omega)] at he2
              exact hr q kv2 e2 hq he2
            · rw [List.getElem?_append_right (by omega)] at hq
              obtain ⟨h4, h7⟩ := List.getElem?_eq_some_iff.1 hq
              have hq0 : q = es.length := by simp at h4; omega
              subst hq0
              simp at h7; subst h7
              rw [Array.getElem?_push, if_pos (by omega)] at he2
              cases he2
              exact ⟨hk, hv⟩
          · rcases List.mem_append.1 h with h | h
            · exact .inl h
            · exact .inr (by simpa using h)
    | _ => simp [hH] at h
  | _ => simp at h
end
end Go.E
/- Soundness of E, operation by operation (10): '==', operators whole, min, max. Own work. -/
namespace Go.E
section
variable {P : Program} {g : G} {w : World} {bs : List Nat} {H : Heap}

def eqBody (P : Program) (d : Nat) (xs ys : List V) (f : Field) (r : Option Bool) : Option Bool :=
  if f.name = "_" then none else
  (partV P f.type xs f.offset).bind fun a => (partV P f.type ys f.offset).bind fun b => (eqT P d f.type a b).bind fun e => if e then r else some false

theorem eqT_sound : ∀ (d D : Nat) (t : TypeId) (x y : V) (x' y' : Value) (b : Bool), eqT P d t x y = some b → d ≤ D → VRel g w x x' → VRel g w y y' →
    (Op.equalIn D t x' y').run P w = .ok b w
  | 0, _, _, _, _, _, _, _, h, _, _, _ => by simp [eqT] at h
  | d + 1, D, t, x, y, x', y', b, h, hD, hx, hy => by
    obtain ⟨D, rfl⟩ : ∃ m, D = m + 1 := ⟨D - 1, by omega⟩
    unfold eqT at h
    split at h
    · rename_i a c hu; cases h; cases hx; cases hy; simp [Op.equalIn, run_underlying hu]
    · rename_i q k a k' c hu
      cases hx; cases hy
      split at h
      · rename_i hk; cases h; simp [Op.equalIn, run_underlying hu, hk]
      · cases h
    · rename_i a c hu; cases h; cases hx; cases hy
      simp [Op.equalIn, run_underlying hu, ba_beq]
    · rename_i fs xs ys hu
      cases hx with
      | agg _ vx hsx hrx =>
      cases hy with
      | agg _ vy hsy hry =>
      split at h
      · cases h
      · rename_i hst
        have key : ∀ (l : List Field) (b : Bool), l.foldr (fun f r => eqBody P d xs ys f r) (some true) = some b →
            (forIn l ((none, ()) : Option Bool × PUnit) fun f _ =>
              (if f.name ≠ "_" then do
                let p ← part f.type vx f.offset
                let q ← part f.type vy f.offset
                let e ← Op.equalIn D f.type p q
                if (!e) = true then pure (ForInStep.done (some false, ()))
                else pure (ForInStep.yield (none, ()))
              else pure (ForInStep.yield (none, ())) : Sem (ForInStep (Option Bool × PUnit)))).run P w = .ok (if b then (none, ()) else (some false, ())) w := by
          intro l
          induction l with
          | nil => intro b hb; simp at hb; subst hb; simp
          | cons f l ih =>
            intro b hb
            simp only [List.foldr_cons] at hb
            unfold eqBody at hb
            split at hb
            · cases hb
            · rename_i hn
              cases h1 : partV P f.type xs f.offset with
              | none => simp [h1] at hb
              | some p =>
              cases h2 : partV P f.type ys f.offset with
              | none => simp [h1, h2] at hb
              | some q =>
              cases h3 : eqT P d f.type p q with
              | none => simp [h1, h2, h3] at hb
              | some e =>
                simp only [h1, h2, h3, Option.bind_some] at hb
                obtain ⟨p', r1, r2⟩ := part_agg (w := w) h1 hsx hrx
                obtain ⟨q', r3, r4⟩ := part_agg (w := w) h2 hsy hry
                have r5 := eqT_sound d D f.type p q p' q' e h3 (by omega) r2 r4
                cases e with
                | true =>
                  simp only [if_true] at hb
                  have := ih b hb
                  simp [List.forIn_cons, hn, r1, r3, r5]
                  simpa using this
                | false =>
                  simp at hb; subst hb
                  simp [List.forIn_cons, hn, r1, r3, r5]
        have hb : fs.toList.foldr (fun f r => eqBody P d xs ys f r) (some true) = some b := h
        have := key fs.toList b hb
        simp only [Op.equalIn, Sem.run_bind, run_underlying hu, Result.andThen_ok, run_program, hst, ← Array.forIn_toList]
        simp only [Bool.false_eq_true, if_false]
        rw [Sem.run_bind, this]
        cases b <;> simp
    · cases h

theorem list_notnil {e : V} {es : List V} {v' : Value} (h : VRel g w (.list (e :: es)) v') : ∃ a n c, v' = .slice (some a) n c := by
  cases h with
  | list b o cap s _ c hlen hpure hs hO hc hr => exact ⟨_, _, _, rfl⟩

theorem eqIn_bool {t : TypeId} {a c : Bool} (n : Nat) (hu : P.underlying t = some .bool) : (Op.equalIn (n + 1) t (.bool a) (.bool c)).run P w = .ok (a == c) w := by
  simp [Op.equalIn, run_underlying hu]
theorem eqIn_nil {t e : TypeId} {b : Option Addr} {m c : Nat} (n : Nat) (hu : P.underlying t = some (.slice e)) : (Op.equalIn (n + 1) t (.slice none 0 0) (.slice b m c)).run P w = .ok b.isNone w := by
  simp [Op.equalIn, run_underlying hu]
theorem eqIn_nil2 {t e : TypeId} {a : Addr} {m c : Nat} (n : Nat) (hu : P.underlying t = some (.slice e)) : (Op.equalIn (n + 1) t (.slice (some a) m c) (.slice none 0 0)).run P w = .ok false w := by
  simp [Op.equalIn, run_underlying hu]

/-- What an equality of values that are no numbers and no strings comes to. -/
structure EqRuns (P : Program) (w : World) (t : TypeId) (x' y' : Value) (b : Bool) : Prop where
  eq : (Op.equal t x' y').run P w = .ok b w
  guard : ∀ op ox oy, (eqGuard op t ox oy x' y').run P w = .ok () w
  e1 : binOp .eql t x' y' = (do pure (.bool (← Op.equal t x' y')))
  e2 : binOp .neq t x' y' = (do pure (.bool (!(← Op.equal t x' y'))))

theorem eql_sound {t : TypeId} {x y : V} {x' y' : Value} {b : Bool} (h : eqlOp P t x y = some b) (hx : VRel g w x x') (hy : VRel g w y y') : EqRuns P w t x' y' b := by
  have sl : ∀ (e : V) (es : List V) (s : Value), VRel g w (.list (e :: es)) s → ∀ d, P.underlying t = some (.slice d) → EqRuns P w t (.slice none 0 0) s false ∧ EqRuns P w t s (.slice none 0 0) false := by
    intro e es s hs d hu
    obtain ⟨a, n, c, rfl⟩ := list_notnil hs
    exact ⟨⟨by exact eqIn_nil 9999 hu, fun op ox oy => by unfold eqGuard; split <;> simp, rfl, rfl⟩, ⟨by exact eqIn_nil2 9999 hu, fun op ox oy => by unfold eqGuard; split <;> simp, rfl, rfl⟩⟩
  unfold eqlOp at h
  split at h
  · rename_i a c
    cases hx; cases hy
    split at h
    · rename_i hu; cases h
      exact ⟨by exact eqIn_bool 9999 hu, fun op ox oy => by unfold eqGuard; split <;> simp, rfl, rfl⟩
    · cases h
  · cases hx; cases hy
    split at h
    · rename_i e hu; cases h
      exact ⟨by exact eqIn_nil 9999 hu, fun op ox oy => by unfold eqGuard; split <;> simp, rfl, rfl⟩
    · cases h
  · cases hx
    split at h
    · rename_i e hu; cases h; exact (sl _ _ _ hy e hu).1
    · cases h
  · cases hx
    split at h
    · rename_i e hu; cases h; exact (sl _ _ _ (list_of_tl hy) e hu).1
    · cases h
  · cases hy
    split at h
    · rename_i e hu; cases h; exact (sl _ _ _ hx e hu).2
    · cases h
  · cases hy
    split at h
    · rename_i e hu; cases h; exact (sl _ _ _ (list_of_tl hx) e hu).2
    · cases h
  · split at h
    · cases h
    · rename_i hg
      have h1 := eqT_sound 100 Op.maxDepth t _ _ x' y' b h (by decide) hx hy
      cases hx; cases hy
      refine ⟨h1, fun op ox oy => ?_, rfl, rfl⟩
      unfold eqGuard
      split <;> first | (simp; done) | (simp; exact fun h => absurd h hg)
  · cases h

theorem binOp_sound {op : BinOp} {t : TypeId} {x y v : V} {x' y' : Value} (h : binOpV P op t x y = some v) (hx : VRel g w x x') (hy : VRel g w y y') (ox oy : Operand) :
    ∃ v', (do eqGuard op t ox oy x' y'; binOp op t x' y' : Sem Value).run P w = .ok v' w ∧ VRel g w v v' := by
  unfold binOpV at h
  split at h
  · rename_i k a k' b
    cases hx; cases hy
    obtain ⟨v', h1, h2⟩ := shiftOp_sound (P := P) (g := g) (w := w) (k' := k') h
    exact ⟨v', by simp [eqGuard, binOp, h1], h2⟩
  · rename_i k a k' b
    cases hx; cases hy
    obtain ⟨v', h1, h2⟩ := shiftOp_sound (P := P) (g := g) (w := w) (k' := k') h
    exact ⟨v', by simp [eqGuard, binOp, h1], h2⟩
  · rename_i k a k' b _ _
    cases hx; cases hy
    split at h
    · rename_i hk
      subst hk
      obtain ⟨v', h1, h2⟩ := intOp_sound (P := P) (g := g) (w := w) h t
      refine ⟨v', ?_, h2⟩
      have : (eqGuard op t ox oy (.int k a) (.int k b)).run P w = .ok () w := by unfold eqGuard; split <;> simp
      simp [this, h1]
    · cases h
  · rename_i a b
    cases hx; cases hy
    obtain ⟨v', h1, h2⟩ := strOp_sound (P := P) (g := g) (w := w) h
    refine ⟨v', ?_, h2⟩
    have h3 : (eqGuard op t ox oy (.string a) (.string b)).run P w = .ok () w := by unfold eqGuard; split <;> simp
    have h4 : binOp op t (.string a) (.string b) = Op.stringOp op a b := by cases op <;> rfl
    simp [h3, h4, h1]
  · cases he : eqlOp P t x y with
    | none => simp [he] at h
    | some b =>
      simp [he] at h; subst h
      have r := eql_sound he hx hy
      exact ⟨.bool b, by simp [r.guard, r.e1, r.eq], .bool _⟩
  · cases he : eqlOp P t x y with
    | none => simp [he] at h
    | some b =>
      simp [he] at h; subst h
      have r := eql_sound he hx hy
      exact ⟨.bool !b, by simp [r.guard, r.e2, r.eq], .bool _⟩
  · cases h

/-! ### min, max -/
theorem minmax_sound : ∀ (l : List V) (l' : List Value) (isMax : Bool) (v : V), minmax isMax l = some v → l.length = l'.length → (∀ (j : Nat) (x : V) (x' : Value), l[j]? = some x → l'[j]? = some x' → VRel g w x x') →
    ∃ v', (match l' with | [] => (stuck "" : Sem Value) | x :: r => r.foldlM (if isMax then Builtin.max2 else Builtin.min2) x).run P w = .ok v' w ∧ VRel g w v v'
  | [], _, _, _, h, _, _ => by simp [minmax] at h
  | [x], l', isMax, v, h, hl, hr => by
    match l', hl with
    | [x'], _ =>
      have h0 := hr 0 x x' rfl rfl
      unfold minmax at h
      split at h
      · cases h; exact ⟨x', by simp, h0⟩
      · cases h
  | x :: y :: r, l', isMax, v, h, hl, hr => by
    match l', hl with
    | x' :: y' :: r', hl =>
      have h0 := hr 0 x x' rfl rfl
      have h1 := hr 1 y y' rfl rfl
      have hxy : (∃ k a, x = .int k a) ∧ ∃ k b, y = .int k b := by
        unfold minmax at h
        cases x <;> cases y <;> first | (simp at h; done) | exact ⟨⟨_, _, rfl⟩, _, _, rfl⟩
      obtain ⟨⟨k, a, rfl⟩, k', b, rfl⟩ := hxy
      rw [minmax] at h
      cases h0; cases h1
      have ih := minmax_sound (.int k (if isMax then (if a < b then b else a) else (if b < a then b else a)) :: r) (.int k (if isMax then (if a < b then b else a) else (if b < a then b else a)) :: r') isMax v h (by simp at hl ⊢; omega) (fun j u u' hu hu' => by
        cases j with
        | zero => simp at hu hu'; subst hu; subst hu'; exact .int _ _
        | succ j => exact hr (j + 2) u u' (by simpa using hu) (by simpa using hu'))
      obtain ⟨v', e1, e2⟩ := ih
      refine ⟨v', ?_, e2⟩
      simp only [List.foldlM_cons]
      cases isMax
      · simpa [Builtin.min2] using e1
      · simpa [Builtin.max2] using e1
termination_by l => l.length
end
end Go.E
/- Soundness of E: any operation. Own work. -/
namespace Go.E

/-- Values in a row. -/
def ArgsR (g : G) (w : World) (l : List V) (l' : List Value) : Prop :=
  l'.length = l.length ∧ ∀ (j : Nat) (x : V) (x' : Value), l[j]? = some x → l'[j]? = some x' → VRel g w x x'

/-- What is asked of calls. -/
def CallIs (P : Program) (bs : List Nat) (f : Nat) (args : List V) (H : Heap) (v : V) (H' : Heap) : Prop :=
  (∃ fn, P.funcs[f]? = some fn ∧ fn.body.isSome = true ∧ fn.name ≠ "runtime.NumGoroutine") ∧
    ∀ g w args', Sim bs g H w → ArgsR g w args args' →
      Calls P f args'.toArray w fun e w' => ∃ v' g', e = .returned v' ∧ Out bs g w H g' w' H' ∧ VRel g' w' v v'
/-- What is told of new blocks holds. -/
def FreshOk (cx : Cx) : Prop :=
  ∀ f args s es, cx.fresh f (args.map V.norm) = some (s, es) → ∀ bs H, CallIs cx.P bs f args H (.ref s H.length 0 0 es.length) (H ++ [.arr es 0])
def CallOk (cx : Cx) (call : CallSem) : Prop :=
  FreshOk cx ∧ ∀ bs f args H v H', call bs f args H = some (v, H') → CallIs cx.P bs f args H v H'
theorem callAt_ok {cx : Cx} {call : CallSem} (hC : CallOk cx call) {fo : Operand} {pos : String} {bs f args H v H'} (h : callAt cx fo pos call bs f args H = some (v, H')) : CallIs cx.P bs f args H v H' := by
  unfold callAt at h
  split at h
  · split at h
    · rename_i s es hf
      cases h
      exact hC.1 f args s es hf bs H
    · exact hC.2 _ _ _ _ _ _ h
  · exact hC.2 _ _ _ _ _ _ h

section
variable {cx : Cx} {g : G} {w : World} {bs : List Nat} {n : Nat} {H : Heap} {call : CallSem} {ρ : Env} {a : Act}

theorem argsR_map {ρ : Operand → V} {ρ' : Operand → Value} (h : ∀ x, VRel g w (ρ x) (ρ' x)) (l : List Operand) : ArgsR g w (l.map ρ) (l.map ρ') :=
  ⟨by simp, fun j x x' h1 h2 => by
    rw [List.getElem?_map] at h1 h2
    cases hj : l[j]? with
    | none => simp [hj] at h1
    | some o => simp [hj] at h1 h2; subst h1; subst h2; exact h o⟩

theorem orelv {ρ : Operand → V} {ρ' : Operand → Value} (h : ∀ x, VRel g w (ρ x) (ρ' x)) (o : Option Operand) : ORelV g w (o.map ρ) (o.map ρ') := by
  cases o with
  | none => trivial
  | some x => exact h x

theorem builtin_sound {b : Builtin} {c : Call} {v : V} {H' : Heap} {pos : String} (ty : TypeId) (consts : Array Bool) (h : evBuiltin cx b c pos ρ H = some (v, H')) (hS : Sim bs g H w) (hE : ERel g w ρ a.tmps n) :
    ∃ v' w' g', (builtin b c.argTypes ty consts (c.args.map a.eval)).run cx.P w = .ok (.value v') w' ∧ Out bs g w H g' w' H' ∧ VRel g' w' v v' := by
  have hargs : (c.args.map a.eval).toList = c.args.toList.map a.eval := by simp
  unfold evBuiltin at h
  split at h
  · rename_i t x hts hxs
    have e1 : c.argTypes = #[t] := by rw [← Array.toList_inj]; exact hts
    obtain ⟨o, ho, hox⟩ : ∃ o, c.args.toList = [o] ∧ opnd ρ o = x := by
      cases hl : c.args.toList with
      | nil => simp [hl] at hxs
      | cons o r => cases r with
        | nil => simp [hl] at hxs; exact ⟨o, rfl, hxs⟩
        | cons o2 r => simp [hl] at hxs
    have e2 : c.args.map a.eval = #[a.eval o] := by rw [← Array.toList_inj, hargs, ho]; rfl
    have hx := hE.opnd o
    rw [hox] at hx
    have fin : ∀ m, lenV x = some m → ((∃ e, cx.P.underlying t = some (.slice e)) ∨ cx.P.underlying t = some .string) →
        (match cx.P.underlying t with | some (.slice _) => (∀ s, x ≠ .str s) | _ => ∃ s, x = .str s) → (V.int .i64 m, H) = (v, H') →
        ∃ v' w' g', (builtin .len c.argTypes ty consts (c.args.map a.eval)).run cx.P w = .ok (.value v') w' ∧ Out bs g w H g' w' H' ∧ VRel g' w' v v' := by
      intro m hm h1 h2 h3
      cases h3
      have := len_sound (P := cx.P) (t := t) (ty := ty) hx hm h1 h2
      exact ⟨_, _, _, by simp [builtin, e1, e2, this], Out.refl hS, .int _ _⟩
    split at h
    · rename_i el hu
      simp [lenV] at h
      exact fin 0 rfl (.inl ⟨el, hu⟩) (by rw [hu]; intro s; simp) (by simpa using h)
    · rename_i el es hu
      simp [lenV] at h
      exact fin es.length rfl (.inl ⟨el, hu⟩) (by rw [hu]; intro s; simp) (by simpa using h)
    · rename_i el tk es hu
      simp [lenV] at h
      exact fin es.length rfl (.inl ⟨el, hu⟩) (by rw [hu]; intro s; simp) (by simpa using h)
    · rename_i el s2 id ver off len hu
      simp [lenV] at h
      exact fin len rfl (.inl ⟨el, hu⟩) (by rw [hu]; intro s; simp) (by simpa using h)
    · rename_i s hu
      simp [lenV] at h
      exact fin s.size rfl (.inr hu) (by rw [hu]; exact ⟨s, rfl⟩) (by simpa using h)
    · rename_i m e hu
      cases h
      exact ⟨.int .i64 m, w, g, by simp [builtin, e1, e2, Builtin.len_, run_underlying hu, goInt], Out.refl hS, .int _ _⟩
    · cases h
  · rename_i t u s x hts hxs
    split at h
    case h_2 => cases h
    rename_i e2 hu
    have e1 : c.argTypes = #[t, u] := by rw [← Array.toList_inj]; exact hts
    obtain ⟨o1, o2, ho, ho1, ho2⟩ : ∃ o1 o2, c.args.toList = [o1, o2] ∧ opnd ρ o1 = s ∧ opnd ρ o2 = x := by
      cases hl : c.args.toList with
      | nil => simp [hl] at hxs
      | cons o r => cases r with
        | nil => simp [hl] at hxs
        | cons o2 r => cases r with
          | nil => simp [hl] at hxs; exact ⟨o, o2, rfl, hxs.1, hxs.2⟩
          | cons _ _ => simp [hl] at hxs
    have e3 : c.args.map a.eval = #[a.eval o1, a.eval o2] := by rw [← Array.toList_inj, hargs, ho]; rfl
    have h1 := hE.opnd o1
    have h2 := hE.opnd o2
    rw [ho1] at h1; rw [ho2] at h2
    obtain ⟨v', w', g', r1, r2, r3⟩ := append_sound (ty := ty) hS h h1 h2 hu
    exact ⟨v', w', g', by simp [builtin, e1, e3, r1], r2, r3⟩
  · cases hm : minmax false (c.args.toList.map (opnd ρ)) with
    | none => simp [hm] at h
    | some x =>
      simp [hm] at h
      obtain ⟨rfl, rfl⟩ := h
      obtain ⟨h1, h2⟩ := argsR_map (fun x => hE.opnd x) c.args.toList
      obtain ⟨v', r1, r2⟩ := minmax_sound (P := cx.P) (g := g) (w := w) _ (c.args.toList.map a.eval) false x hm h1.symm h2
      refine ⟨v', w, g, ?_, Out.refl hS, r2⟩
      simp only [builtin, Builtin.min_, hargs]
      cases hl : c.args.toList.map a.eval with
      | nil => rw [hl] at r1; simp at r1
      | cons y r => rw [hl] at r1; simp at r1; simp [r1]
  · cases hm : minmax true (c.args.toList.map (opnd ρ)) with
    | none => simp [hm] at h
    | some x =>
      simp [hm] at h
      obtain ⟨rfl, rfl⟩ := h
      obtain ⟨h1, h2⟩ := argsR_map (fun x => hE.opnd x) c.args.toList
      obtain ⟨v', r1, r2⟩ := minmax_sound (P := cx.P) (g := g) (w := w) _ (c.args.toList.map a.eval) true x hm h1.symm h2
      refine ⟨v', w, g, ?_, Out.refl hS, r2⟩
      simp only [builtin, Builtin.max_, hargs]
      cases hl : c.args.toList.map a.eval with
      | nil => rw [hl] at r1; simp at r1
      | cons y r => rw [hl] at r1; simp at r1; simp [r1]
  · cases h

theorem evOp_wp {fx : Fx} (hb : fx.bs = bs) (hC : CallOk cx call) {o : Oper} {v : V} {H' : Heap} (h : evOp cx fx call o ρ H = some (v, H')) (hS : Sim bs g H w) (hE : ERel g w ρ a.tmps n)
    {next : Act → World → Prop} {Q : Exit → Act → World → Prop}
    (hn : ∀ v' w' g', Out bs g w H g' w' H' → VRel g' w' v v' → next (a.put o.dst v') w') : o.wp cx.P a w next Q := by
  have e := fun x => hE.opnd x
  have val : ∀ v' w' g', (execOp a.eval o).run cx.P w = .ok (.value v') w' → Out bs g w H g' w' H' → VRel g' w' v v' → o.wp cx.P a w next Q := fun v' w' g' h1 h2 h3 => by
    unfold Oper.wp; rw [h1]; exact hn v' w' g' h2 h3
  have skp : ∀ w' g', (execOp a.eval o).run cx.P w = .ok .skip w' → Out bs g w H g' w' H' → v = .undef → o.wp cx.P a w next Q := fun w' g' h1 h2 h3 => by
    unfold Oper.wp; rw [h1]; exact hn Go.undef w' g' h2 (h3 ▸ .undef _)
  have looks : ∀ (r : Option V) (s : Sem Value), (r.map (·, H)) = some (v, H') → (execOp a.eval o = (do pure (.value (← s)))) → (∀ y, r = some y → ∃ y', s.run cx.P w = .ok y' w ∧ VRel g w y y') → o.wp cx.P a w next Q := by
    intro r s h1 h2 h3
    cases r with
    | none => simp at h1
    | some y =>
      simp at h1
      obtain ⟨rfl, rfl⟩ := h1
      obtain ⟨y', r1, r2⟩ := h3 y rfl
      exact val y' w g (by rw [h2]; simp [r1]) (Out.refl hS) r2
  obtain ⟨dst, op, type, pos, after, guard⟩ := o
  unfold evOp at h
  cases op <;> simp only at h <;> (try (cases h; done))
  case move x => cases h; exact val _ _ _ (by simp [execOp]) (Out.refl hS) (e x)
  case assign x =>
    have hx := e x
    have plain : (opnd ρ x, H) = (v, H') → ({ dst, op := .assign x, type, pos, after, guard } : Oper).wp cx.P a w next Q := fun h => by
      cases h; exact val (a.eval x) w g (by simp [execOp]) (Out.refl hS) (e x)
    cases x with
    | const c =>
      cases hn2 : opnd ρ (.const c) with
      | nilS =>
        simp only [hn2] at h
        split at h
        · cases h
          rw [hn2] at hx
          obtain ⟨g', o1, r1⟩ := assign_nil (hS.more (.tok 0)) (hS.open _)
          have hcv : a.eval (.const c) = .slice none 0 0 := by
            generalize a.eval (.const c) = y at hx
            cases hx; rfl
          exact val (.slice none 0 0) w g' (by simp [execOp, hcv]) o1.out r1
        · exact plain (by rw [hn2]; exact Option.some.inj h)
      | _ => simp only [hn2] at h; exact plain (by rw [hn2]; simpa using h)
    | _ => exact plain (by simpa using h)
  case pick c x y =>
    have hc := e c
    split at h
    · rename_i hc2; cases h; rw [hc2] at hc
      cases hcv : a.eval c with
      | bool b => rw [hcv] at hc; cases hc; exact val _ _ _ (by simp [execOp, hcv, asBool]) (Out.refl hS) (e x)
      | _ => rw [hcv] at hc; cases hc
    · rename_i hc2; cases h; rw [hc2] at hc
      cases hcv : a.eval c with
      | bool b => rw [hcv] at hc; cases hc; exact val _ _ _ (by simp [execOp, hcv, asBool]) (Out.refl hS) (e y)
      | _ => rw [hcv] at hc; cases hc
    · cases h
  case alloc t =>
    cases hz : zeroT cx.P t with
    | none => simp [hz] at h
    | some z =>
      simp only [hz, Option.bind_some] at h
      split at h
      · rename_i hc
        cases h
        obtain ⟨zv, hzv, hzr⟩ := zero_of hz
        have hr : VRel g w z zv := by rw [hzv]; exact ofVal_rel zv
        refine val _ _ _ (by simp [execOp, run_alloc (hzr w)]) (lay_cells (hS.more _) (hS.open _) hr hc t).out (.ptr _ _ w.heap.size 0 z.cells.length (by simp [G.lay]))
      · cases h
  case box t x =>
    split at h
    · rename_i hc
      cases h
      refine val _ _ _ (by simp [execOp, run_box]) (lay_cells (hS.more _) (hS.open _) (e x) hc t).out (.ptr _ _ w.heap.size 0 (opnd ρ x).cells.length (by simp [G.lay]))
    · cases h
  case build t parts =>
    refine looks _ _ h (by simp only [execOp]; rfl) (fun y hy => ?_)
    exact build_sound hy (by simpa using partsR_map e parts.toList)
  case buildSlice t len parts =>
    cases he : elemT cx.P t with
    | none => simp [he] at h
    | some el =>
    cases hsz : sizeT cx.P el with
    | none => simp [he, hsz] at h
    | some sz =>
    simp only [he, hsz, Option.bind_some] at h
    split at h
    · rename_i hc
      obtain ⟨h0, hr, hm, hz⟩ := hc
      cases ht : takeElems sz (parts.toList.map fun q => opnd ρ q.2) with
      | none => simp [ht] at h
      | some es =>
        simp only [ht, Option.map_some, Option.some.injEq] at h
        by_cases hl0 : len = 0
        · simp only [hl0, if_true, Option.some.injEq, Prod.mk.injEq] at h
          obtain ⟨rfl, rfl⟩ := h
          obtain ⟨v', w', g', r1, r2, r3⟩ := buildSlice_sound (own := false) (hS.more (.tok 0)) (fun _ => by subst hl0; exact hS.open _) e he hsz h0 hr hm hz ht
          simp only [hl0, true_or, if_true] at r2 r3
          exact val _ _ _ (by simp only [execOp]; simp [r1]) r2.out r3
        · simp only [hl0, if_false] at h
          cases hvc : cx.vec t pos with
          | true =>
            simp only [hvc, if_true, Prod.mk.injEq] at h
            obtain ⟨rfl, rfl⟩ := h
            obtain ⟨v', w', g', r1, r2, r3⟩ := buildSlice_vec (hS.more (.arr es 0)) e he hsz h0 hr hm hz ht (hS.open _)
            exact val _ _ _ (by simp only [execOp]; simp [r1]) r2.out r3
          | false =>
          simp only [hvc, Bool.false_eq_true, if_false] at h
          cases hw : cx.own t with
          | true =>
            simp only [hw, if_true, Prod.mk.injEq] at h
            obtain ⟨rfl, rfl⟩ := h
            obtain ⟨v', w', g', r1, r2, r3⟩ := buildSlice_sound (own := true) (hS.more (.tok len)) (fun _ => hS.open _) e he hsz h0 hr hm hz ht
            simp only [hl0, or_true, if_true, if_false] at r2 r3
            exact val _ _ _ (by simp only [execOp]; simp [r1]) r2.out r3
          | false =>
            simp only [hw, Bool.false_eq_true, if_false, Prod.mk.injEq] at h
            obtain ⟨rfl, rfl⟩ := h
            obtain ⟨v', w', g', r1, r2, r3⟩ := buildSlice_sound (own := false) hS (id := 0) (fun h => absurd h (by simp [hl0])) e he hsz h0 hr hm hz ht
            simp only [hl0, or_self, Bool.false_eq_true, if_false] at r2 r3
            exact val _ _ _ (by simp only [execOp]; simp [r1]) r2 r3
    · cases h
  case load t x =>
    refine looks _ _ h (by simp only [execOp]) (fun y hy => load_sound hS hy (e x))
  case store t x y =>
    cases hs : storeV cx.P fx.bs t (opnd ρ x) (opnd ρ y) H with
    | none => simp [hs] at h
    | some H1 =>
      simp [hs] at h
      obtain ⟨rfl, rfl⟩ := h
      rw [hb] at hs
      obtain ⟨w', r1, r2⟩ := store_sound hS hs (e x) (e y)
      exact skp w' g (by simp [execOp, r1]) r2 rfl
  case nilCheck x =>
    have hx := e x
    split at h
    · rename_i hx2; cases h; rw [hx2] at hx
      cases hcv : a.eval x with
      | pointer p => rw [hcv] at hx; have hx' := hx; cases hx; exact val _ _ _ (by simp [execOp, hcv]) (Out.refl hS) hx'
      | _ => rw [hcv] at hx; cases hx
    · rename_i hx2; cases h; rw [hx2] at hx
      cases hcv : a.eval x with
      | pointer p => rw [hcv] at hx; have hx' := hx; cases hx; exact val _ _ _ (by simp [execOp, hcv]) (Out.refl hS) hx'
      | _ => rw [hcv] at hx; cases hx
    · rename_i hx2; cases h; rw [hx2] at hx
      cases hcv : a.eval x with
      | pointer p => rw [hcv] at hx; have hx' := hx; cases hx; exact val _ _ _ (by simp [execOp, hcv]) (Out.refl hS) hx'
      | _ => rw [hcv] at hx; cases hx
    · rename_i hx2; cases h; rw [hx2] at hx
      cases hcv : a.eval x with
      | func p q r => rw [hcv] at hx; have hx' := hx; cases hx; exact val _ _ _ (by simp [execOp, hcv]) (Out.refl hS) hx'
      | _ => rw [hcv] at hx; cases hx
    · cases h
  case binOp op t x y ty =>
    refine looks _ _ h (by simp only [execOp]) (fun z hz => binOp_sound hz (e x) (e y) x y)
  case unOp op t x =>
    refine looks _ _ h (by simp only [execOp]) (fun z hz => unOp_sound hz (e x))
  case convert s d x =>
    refine looks _ _ h (by simp only [execOp]) (fun z hz => conv_sound hz (e x))
  case makeFunc fn first caps =>
    cases fn <;> simp only at h <;> (try (cases h; done))
    rename_i f
    split at h
    · rename_i h0
      cases h
      have hf : first = #[] := Array.eq_empty_of_size_eq_zero h0
      subst hf
      obtain ⟨h1, h2⟩ := argsR_map e caps.toList
      refine val (.func (.func f) #[] (caps.map a.eval)) w g (by simp [execOp, Instr.makeFunc]) (Out.refl hS) (.func _ _ _ (by simp) (fun k x x' hx hx' => h2 k x x' hx (by simpa using hx')))
    · cases h
  case makeMap t r =>
    cases r with
    | none =>
      simp at h
      obtain ⟨rfl, rfl⟩ := h
      obtain ⟨v', w', g', r1, r2, r3⟩ := makeMap_sound (P := cx.P) (t := t) (hS.more _) (hS.open _)
      exact val _ _ _ (by simp [execOp, r1]) r2.out r3
    | some x => simp at h
  case makeSlice t l c =>
    cases he : elemT cx.P t with
    | none => simp [he] at h
    | some el =>
    cases hsz : sizeT cx.P el with
    | none => simp [he, hsz] at h
    | some sz =>
    cases hby : bytesT cx.P el with
    | none => simp [he, hsz, hby] at h
    | some by_ =>
    cases hz : zeroT cx.P el with
    | none => simp [he, hsz, hby, hz] at h
    | some z =>
    simp only [he, hsz, hby, hz, Option.bind_some] at h
    have hl := e l
    have hc := e c
    split at h
    · rename_i k n k' m hl2 hc2
      rw [hl2] at hl; rw [hc2] at hc
      split at h
      · rename_i hcond
        obtain ⟨rfl, h0, h1, h2, h3, h4, h5, h6⟩ := hcond
        cases h
        obtain ⟨v', w', g', r1, r2, r3⟩ := makeSlice_sound (P := cx.P) (t := t) (k := k) (k' := k') (hS.more _) (hS.open _) he hsz hby hz h0 h1 h2 h3 h4 h5
        cases hlv : a.eval l with
        | int kk nn =>
          cases hcv : a.eval c with
          | int kk2 nn2 =>
            rw [hlv] at hl; rw [hcv] at hc; cases hl; cases hc
            exact val _ _ _ (by simp [execOp, hlv, hcv, r1]) r2.out r3
          | _ => rw [hcv] at hc; cases hc
        | _ => rw [hlv] at hl; cases hl
      · cases h
    · cases h
  case slice t x lo hi mx =>
    cases mx with
    | some m => simp [sliceV] at h
    | none =>
      refine looks _ _ h (by simp only [execOp]; rfl) (fun z hz => ?_)
      exact slice_sound (orelv e lo) (orelv e hi) hz (e x)
  case fieldAddr t x j =>
    refine looks _ _ h (by simp only [execOp]) (fun z hz => fieldAddr_sound hz (e x))
  case field t x j =>
    refine looks _ _ h (by simp only [execOp]) (fun z hz => field_sound hz (e x))
  case indexAddr t x i =>
    refine looks _ _ h (by simp only [execOp]) (fun z hz => indexAddr_sound hz (e x) (e i))
  case index t x i =>
    refine looks _ _ h (by simp only [execOp]) (fun z hz => index_sound hz (e x) (e i))
  case lookup t m k ok =>
    refine looks _ _ h (by simp only [execOp]) (fun z hz => lookup_sound hS hz (e m) (e k))
  case mapUpdate t m k x =>
    cases hs : mapUpdateV cx.P fx.bs t (opnd ρ m) (opnd ρ k) (opnd ρ x) H with
    | none => simp [hs] at h
    | some H1 =>
      simp [hs] at h
      obtain ⟨rfl, rfl⟩ := h
      rw [hb] at hs
      obtain ⟨w', r1, r2⟩ := mapUpdate_sound hS hs (e m) (e k) (e x)
      exact skp w' g (by simp [execOp, r1]) r2 rfl
  case extract x i =>
    split at h
    · rename_i vs hx
      refine looks _ _ h (by simp only [execOp]) (fun z hz => extract_sound hx hz (e x))
    · cases h
  case call c =>
    cases hcal : c.callee with
    | builtin b =>
      simp only [hcal] at h
      obtain ⟨v', w', g', r1, r2, r3⟩ := builtin_sound type (c.args.map fun | .const _ => true | _ => false) h hS hE
      refine val v' w' g' ?_ r2 r3
      simp [execOp, resolve, hcal, invoke]
      exact r1
    | value f =>
      simp only [hcal] at h
      unfold evCallee at h
      cases hf : opnd ρ f with
      | func gf caps =>
        simp only [hf, Option.bind_some] at h
        rw [hb] at h
        obtain ⟨⟨fn, hfn, hbody, hname⟩, hcall⟩ := callAt_ok hC h
        have hfr := e f
        rw [hf] at hfr
        cases hfv : a.eval f with
        | func fn' first captured =>
          rw [hfv] at hfr
          cases hfr with
          | func _ _ vs hs hr =>
            have hargs : ArgsR g w (c.args.toList.map (opnd ρ) ++ caps) ((c.args.map a.eval).toList ++ captured.toList) := by
              obtain ⟨h1, h2⟩ := argsR_map e c.args.toList
              refine ⟨by simp [hs], fun j x x' hx hx' => ?_⟩
              by_cases hj : j < c.args.toList.length
              · rw [List.getElem?_append_left (by simpa using hj)] at hx
                rw [List.getElem?_append_left (by simpa using hj)] at hx'
                exact h2 j x x' hx (by simpa using hx')
              · rw [List.getElem?_append_right (by simpa using hj)] at hx
                rw [List.getElem?_append_right (by simpa using hj)] at hx'
                simp only [List.length_map] at hx
                simp only [Array.toList_map, List.length_map] at hx'
                exact hr _ x x' hx (by simpa using hx')
            have hexec : (execOp a.eval ⟨dst, .call c, type, pos, after, guard⟩).run cx.P w = .ok (.enter gf (((c.args.map a.eval).toList ++ captured.toList).toArray)) w := by
              have hb2 : fn.body.isNone = false := by cases hq : fn.body <;> simp [hq] at hbody ⊢
              simp only [execOp, resolve, hcal, Deferred.ofValue, hfv, Sem.run_bind, Sem.run_pure, Result.andThen_ok, invoke, callFunc, run_program, hfn]
              simp [hname, hb2]
            unfold Oper.wp
            rw [hexec]
            refine (hcall g w _ hS hargs).mono ?_
            rintro en w' ⟨v', g', rfl, r2, r3⟩
            exact hn v' w' g' r2 r3
        | _ => rw [hfv] at hfr; cases hfr
      | _ => simp [hf] at h
    | invoke r m => simp [hcal] at h
end
end Go.E
/- E in a round of a range over a function: fences, blocks that are nobody's, marks. Own work. -/
namespace Go.E

/-- A fence that lets all in, for activations (none) or for a loop's rounds (its record). -/
abbrev FR (r : Option Nat) : Fence := { Fence.wide with round := r }

theorem callsIn_FR {r : Option Nat} {n : Nat} {P : Program} {f : FuncId} {args : Array Value} {w : World} {R : Ending → World → Prop} : CallsIn (FR r) n P f args w R ↔ Calls P f args w R :=
  (callsIn_wide (n := n) : CallsIn Fence.wide n P f args w R ↔ Calls P f args w R)

section
variable {r : Option Nat} {n : Nat} {P : Program} {a : Act} {w : World}

theorem wpIn_of_wp {o : Oper} {next : Act → World → Prop} {Q : Exit → Act → World → Prop} (hd : ∀ c, o.op ≠ .defer c) (h : o.wp P a w next Q) : o.wpIn (FR r) n P a w next Q := by
  refine ⟨fun _ _ => trivial, ?_⟩
  rw [Oper.semAt_eq _ _ _ hd]
  unfold Oper.wp at h
  generalize (execOp a.eval o).run P w = x at *
  have hn : (FR r).depth.isSome = true → 1 ≤ n := fun h => by cases h
  cases x with
  | ok y w' =>
    cases y <;> simp only [Oper.upon, Oper.uponIn] at h ⊢ <;> first
      | exact h
      | exact h.elim
      | exact ⟨hn, callsIn_FR.2 h⟩
      | exact ⟨hn, fun c cs _ => let ⟨v, w', q, s⟩ := h c cs; ⟨v, w', q, stepsIn_wide.2 s⟩⟩
  | halt y w' => cases y <;> simp only [Oper.upon, Oper.uponIn] at h ⊢ <;> first | exact h | exact h.elim

theorem stepR_scope {b : Frame} {k : List Item} {cs : List Frame} {c : Code} : step P (lone (b.atR a (.code (.scope c) :: k)) cs w) = .next (lone (b.atR a (.code c :: .inScope c :: k)) cs w) :=
  step_lone_go (by simp [stepG, stepG.exec, Frame.atR])
theorem stepR_inScope {b : Frame} {k : List Item} {cs : List Frame} {c : Code} : step P (lone (b.atR a (.inScope c :: k)) cs w) = .next (lone (b.atR a k) cs w) :=
  step_lone_go (by simp [stepG, stepG.exec, Frame.atR])

theorem wpIn_scope {F : Fence} {c : Code} {Q : Exit → Act → World → Prop} (h : c.wpIn F n P (Exit.noGoto Q) a w) : (Code.scope c).wpIn F n P Q a w := by
  intro b k cs hro hb hr
  have h0 : (lone (b.atR a (.code (.scope c) :: k)) cs w).fenced P F := fenced_calm hb hr rfl
  obtain ⟨e, a₁, w₁, hq, harr⟩ := h b (.inScope c :: k) cs hro hb hr
  cases e with
  | normal => exact ⟨.normal, a₁, w₁, hq, .head h0 stepR_scope (StepsIn.trans harr (.one (fenced_calm hb hr rfl) stepR_inScope))⟩
  | exit id =>
    have hx : exitTo id (.inScope c :: k) = exitTo id k := by simp [exitTo]
    exact ⟨_, a₁, w₁, hq, fun k' hk => .head h0 stepR_scope (harr.1 k' (by rw [hx]; exact hk)),
      fun hr' hk => let ⟨k₁, h1, h2⟩ := harr.2 hr' (by rw [hx]; exact hk); ⟨k₁, h1, .head h0 stepR_scope h2⟩⟩
  | goto l => exact hq.elim
  | ret => exact ⟨_, a₁, w₁, hq, .of_steps (.one h0 stepR_scope) harr⟩
  | panic ch => exact ⟨_, a₁, w₁, hq, .of_steps (.one h0 stepR_scope) harr⟩
  | outgrown => exact ⟨_, a₁, w₁, hq, .of_steps (.one h0 stepR_scope) harr⟩
end

/-! ### Blocks that are nobody's -/
theorem drawn_ext (g : G) (w : World) : Ext g w g { w with drawn := w.drawn + 1 } := ⟨Nat.le_refl _, fun _ _ h => ⟨h, rfl⟩, fun _ l h => ⟨l, h, LocLe.refl l⟩, fun _ _ _ => ⟨rfl, fun _ => rfl⟩, rfl, rfl, rfl, Nat.le_succ _⟩
theorem Sim.drawn {bs : List Nat} {g : G} {w : World} {H : Heap} (hS : Sim bs g H w) : Sim bs g H { w with drawn := w.drawn + 1 } where
  bl := hS.bl
  srt := hS.srt
  dom := hS.dom
  old := hS.old
  obj id ob l h1 h2 := (hS.obj id ob l h1 h2).keep (drawn_ext g w) ⟨fun _ _ h => h, fun _ _ _ => ⟨rfl, rfl⟩, fun _ _ _ _ h => h⟩
  und := hS.und

section
variable {bs : List Nat} {g g' : G} {w w' : World} {H H' : Heap} {L : Nat} {o : Obj}

theorem Bears.refl (g : G) (w : World) : Bears g w g w := ⟨fun _ _ h => ⟨h, rfl⟩, fun _ l h => ⟨l, h, LocLe.refl l⟩⟩
theorem Bears.trans {g1 g2 : G} {w1 w2 : World} (h : Bears g w g1 w1) (k : Bears g1 w1 g2 w2) : Bears g w g2 w2 where
  imm b o e := ⟨(k.imm b o (h.imm b o e).1).1, ((k.imm b o (h.imm b o e).1).2).trans (h.imm b o e).2⟩
  loc id l e := by
    obtain ⟨l1, e1, h1⟩ := h.loc id l e
    obtain ⟨l2, e2, h2⟩ := k.loc id l1 e1
    exact ⟨l2, e2, h1.trans h2⟩
theorem Ext.bears (x : Ext g w g' w') : Bears g w g' w' := ⟨x.imm, x.loc⟩

theorem put_cell (hO : ∀ k, g.O L k = .none) {b k : Nat} (h : g.O b k ≠ .none) : (w.putObj L o).cell? ⟨b, k, none⟩ = w.cell? ⟨b, k, none⟩ ∧ (w.putObj L o).frozen? ⟨b, k, none⟩ = w.frozen? ⟨b, k, none⟩ := by
  have hne : b ≠ L := fun e => h (by rw [e]; exact hO k)
  exact ⟨World.cell?_of_block (World.putObj_heap_other hne), World.frozen?_of_block (World.putObj_heap_other hne)⟩
theorem bears_put (hO : ∀ k, g.O L k = .none) : Bears g w g (w.putObj L o) :=
  ⟨fun b k h => ⟨h, (put_cell hO (by rw [h]; simp)).1⟩, fun _ l h => ⟨l, h, LocLe.refl l⟩⟩
theorem Sim.putFree (hS : Sim bs g H w) (hO : ∀ k, g.O L k = .none) : Sim bs g H (w.putObj L o) where
  bl := hS.bl
  srt := hS.srt
  dom := hS.dom
  old b k h := by rw [World.putObj_size]; exact hS.old b k h
  obj id ob l h1 h2 := (hS.obj id ob l h1 h2).keepB (bears_put hO) ⟨fun _ _ h => h, fun b k h => put_cell hO (by rw [h]; simp), fun b es c h hb => by
    rw [World.putObj_heap_other (fun e => by subst e; rw [hO] at h; cases h)]; exact hb⟩
  und := hS.und
theorem Ext.putFree (x : Ext g w g' w') (hL : w.heap.size ≤ L) (hO : ∀ k, g'.O L k = .none) : Ext g w g' (w'.putObj L o) where
  size := by rw [World.putObj_size]; exact x.size
  imm b k h := ⟨(x.imm b k h).1, ((put_cell hO (by rw [(x.imm b k h).1]; simp)).1).trans (x.imm b k h).2⟩
  loc := x.loc
  free b hb hf := ⟨(World.putObj_heap_other (by omega)).trans (x.free b hb hf).1, (x.free b hb hf).2⟩
  os := x.os
  tape := x.tape
  output := x.output
  drawn := x.drawn
theorem Out.putFree (x : Out bs g w H g' w' H') (hL : w.heap.size ≤ L) (hO : ∀ k, g'.O L k = .none) : Out bs g w H g' (w'.putObj L o) H' :=
  ⟨x.sim.putFree hO, x.ext.putFree hL hO, x.len, x.dom⟩

theorem ext_alloc (hold : ∀ b k, g.O b k ≠ .none → b < w.heap.size) : Ext g w g (w.alloc o) where
  size := by simp
  imm b k h := ⟨h, World.cell?_of_block (Go.RowKit.Below.heap_alloc w o b (hold b k (by rw [h]; simp)))⟩
  loc _ l h := ⟨l, h, LocLe.refl l⟩
  free b hb _ := ⟨Go.RowKit.Below.heap_alloc w o b hb, fun _ => rfl⟩
  os := rfl
  tape := rfl
  output := rfl
  drawn := Nat.le_refl _
theorem Sim.allocFree (hS : Sim bs g H w) : Sim bs g H (w.alloc o) where
  bl := hS.bl
  srt := hS.srt
  dom := hS.dom
  old b k h := by have := hS.old b k h; simp; omega
  obj id ob l h1 h2 := (hS.obj id ob l h1 h2).keep (ext_alloc hS.old) ⟨fun _ _ h => h, fun b k h => by
    have := Go.RowKit.Below.heap_alloc w o b (hS.old b k (by rw [h]; simp))
    exact ⟨World.cell?_of_block this, World.frozen?_of_block this⟩, fun b es c h hb => by
    rw [Go.RowKit.Below.heap_alloc w o b (hS.old b 0 (by rw [h]; simp))]; exact hb⟩
  und := hS.und

/-- A block that is nobody's lies as it lay. -/
theorem Ext.keepsFree (x : Ext g w g' w') {b : Nat} {o : Obj} (h : w.heap[b]? = some o) (hO : ∀ k, g.O b k = .none) : w'.heap[b]? = some o ∧ ∀ k, g'.O b k = .none := by
  obtain ⟨h1, h2⟩ := x.free b (Array.getElem?_eq_some_iff.1 h).1 (fun o id e => by rw [hO] at e; cases e)
  exact ⟨h1.trans h, fun k => (h2 k).trans (hO k)⟩

/-- In a round: its record lies there. -/
def ROk (r : Option Nat) (g : G) (w : World) : Prop := ∀ l, r = some l → ∃ rec, w.heap[l]? = some (.loop rec) ∧ ∀ k, g.O l k = .none
theorem ROk.mono {r : Option Nat} (x : Ext g w g' w') (h : ROk r g w) : ROk r g' w' := fun l hl => by
  obtain ⟨rec, h1, h2⟩ := h l hl
  exact ⟨rec, x.keepsFree h1 h2⟩

/-! ### The marks that ranges over functions leave among the deferred calls -/
def mkD (D : Nat) : Deferred := { target := .collected D, args := #[] }
def MarkAt (g : G) (w : World) (D : Nat) : Prop := w.heap[D]? = some (.deferred (some [])) ∧ ∀ k, g.O D k = .none
def Mk (n0 : Nat) (g : G) (w : World) (old new : List Deferred) : Prop :=
  ∃ ms : List Nat, new = ms.map mkD ++ old ∧ ms.Nodup ∧ ∀ D ∈ ms, n0 ≤ D ∧ MarkAt g w D
theorem Mk.refl {n0 : Nat} {g : G} {w : World} {old new : List Deferred} (h : new = old) : Mk n0 g w old new := ⟨[], by simp [h], by simp, by simp⟩
theorem MarkAt.mono {D : Nat} (x : Ext g w g' w') (h : MarkAt g w D) : MarkAt g' w' D := x.keepsFree h.1 h.2
theorem MarkAt.put {D : Nat} (h : MarkAt g w D) (hne : D ≠ L) : MarkAt g (w.putObj L o) D := ⟨(World.putObj_heap_other hne).trans h.1, h.2⟩
theorem Mk.trans {n0 : Nat} {g1 g2 : G} {w1 w2 : World} {d0 d1 d2 : List Deferred} (h1 : Mk n0 g1 w1 d0 d1) (x : Ext g1 w1 g2 w2) (hn : n0 ≤ w1.heap.size) (h2 : Mk w1.heap.size g2 w2 d1 d2) : Mk n0 g2 w2 d0 d2 := by
  obtain ⟨m1, rfl, n1, k1⟩ := h1
  obtain ⟨m2, rfl, n2, k2⟩ := h2
  refine ⟨m2 ++ m1, by simp, ?_, fun D hD => ?_⟩
  · refine List.nodup_append.2 ⟨n2, n1, fun a ha b hb e => ?_⟩
    subst e
    have := (k2 a ha).1
    have := (Array.getElem?_eq_some_iff.1 (k1 a hb).2.1).1
    omega
  · rcases List.mem_append.1 hD with h | h
    · exact ⟨Nat.le_trans hn (k2 D h).1, (k2 D h).2⟩
    · exact ⟨(k1 D h).1, (k1 D h).2.mono x⟩

/-- On the way out: the marks are collected, one after the other. -/
theorem leaves_marks {F : Fence} {n : Nat} {P : Program} {fn : Func} {tmps : Array Value} {R : Ending → World → Prop} {K : World → Prop} (hK : ∀ w, K w → LeavesIn F n P fn tmps R [] .returning w) :
    ∀ (ms : List Nat) (w : World), (∀ w D, D ∈ ms → K w → K (w.putObj D (.deferred none))) → ms.Nodup → (∀ D ∈ ms, w.heap[D]? = some (.deferred (some []))) → K w → LeavesInM F n P fn tmps R (ms.map mkD) .returning w
  | [], w, _, _, _, h => hK w h
  | D :: ms, w, hp, hn, hD, h => by
    refine ⟨by simp, .inl ⟨D, w.putObj D (.deferred none), rfl, run_takeDeferred (hD D (by simp)), ?_⟩⟩
    simp only [List.nodup_cons] at hn
    exact leaves_marks hK ms _ (fun w D' hD' => hp w D' (by simp [hD'])) hn.2 (fun D' hD' => by
      rw [World.putObj_heap_other (fun e => hn.1 (by rw [← e]; exact hD'))]; exact hD D' (by simp [hD'])) (hp w D (by simp) h)
end

/-- What is asked of functions that are ranged over. -/
def IterOk (cx : Cx) : Prop :=
  ∀ gf caps l, cx.iter gf caps = some l → (∃ fn, cx.P.funcs[gf]? = some fn ∧ fn.body.isSome = true ∧ fn.name ≠ "runtime.NumGoroutine") ∧
    ∀ (g : G) (w w1 : World) (caps' : List Value), ArgsR g w caps caps' → ∀ (L : Nat) (J : Nat → World → Prop) (Jx : World → Prop),
      (∀ k W, J k W → ∃ g', Bears g w g' W) → (∀ k W, J k W → J k { W with drawn := W.drawn + 1 }) → (∀ W, Jx W → Jx { W with drawn := W.drawn + 1 }) →
      (∀ k args W args', l[k]? = some args → J k W → (∀ g', Bears g w g' W → ArgsR g' W args args') →
        YieldAt Fence.wide 0 cx.P L args'.toArray W fun e W' => (e = .returned (.bool true) ∧ J (k + 1) W') ∨ (e = .returned (.bool false) ∧ Jx W')) →
      J 0 w1 → Calls cx.P gf (#[.func (.yield L) #[] #[]] ++ caps'.toArray) w1 fun e W' => (∃ v, e = .returned v) ∧ (J l.length W' ∨ Jx W')
end Go.E
/- Soundness of E: an operation in its place; a region in the text's order. Own work. -/
namespace Go.E
section
variable {cx : Cx} {g : G} {w : World} {bs : List Nat} {H : Heap} {call : CallSem} {ρ : Env} {a : Act} {r : Option Nat}

theorem evOp_noDefer {fx : Fx} {o : Oper} {z : V × Heap} (h : evOp cx fx call o ρ H = some z) (c : Call) : o.op ≠ .defer c := fun e => by
  unfold evOp at h; simp [e] at h

theorem wanted_eq {n : Nat} {ops : Array Oper} {o : Oper} {b : Bool} (h : wantedV ops o ρ = some b) (hE : ERel g w ρ a.tmps n) : Region.wanted o (yielded ops a.tmps) = b := by
  unfold wantedV at h
  unfold Region.wanted
  cases hg : o.guard with
  | none => simp [hg] at h; simp [h]
  | some p =>
    obtain ⟨j, want⟩ := p
    simp only [hg] at h
    simp only [yielded]
    cases hd : (ops[j]?).bind (·.dst) with
    | none => simp [hd] at h; simp [h]
    | some d =>
      simp only [hd] at h
      simp only [Option.bind_some]
      have hr := hE.rel d
      have hget : a.tmps.getD d Go.undef = (a.tmps[d]?).getD Go.undef := by simp [Array.getD_eq_getD_getElem?]
      split at h
      · rename_i bb hb
        cases h
        rw [hb] at hr
        generalize hx : a.tmps.getD d Go.undef = x at hr
        cases hr
        rw [hget] at hx
        cases ht : a.tmps[d]? with
        | none => rw [ht] at hx; cases hx
        | some y => rw [ht] at hx; simp at hx; subst hx; simp
      · rename_i hb
        cases h
        rw [hb] at hr
        generalize hx : a.tmps.getD d Go.undef = x at hr
        cases hr
        rw [hget] at hx
        cases ht : a.tmps[d]? with
        | none => simp
        | some y => rw [ht] at hx; simp at hx; subst hx; simp [Go.undef]
      · cases h

/-- What is left to do with a temporary. -/
theorem put_rel {fx : Fx} {o : Oper} {v : V} {v' : Value} {ρ' : Env} {H' H1 : Heap} (h : (match o.dst with | none => some (ρ, H1) | some d => if d < fx.n then some (ρ.put d v, H1) else none) = some (ρ', H')) (hE : ERel g w ρ a.tmps fx.n) (hv : VRel g w v v') :
    H' = H1 ∧ ERel g w ρ' (a.put o.dst v').tmps fx.n ∧ (a.put o.dst v').defers = a.defers := by
  cases hd : o.dst with
  | none => simp [hd] at h; obtain ⟨rfl, rfl⟩ := h; exact ⟨rfl, hE, rfl⟩
  | some d =>
    simp only [hd] at h
    split at h
    · rename_i hlt; cases h; exact ⟨rfl, hE.put hlt hv, rfl⟩
    · cases h

theorem evOper_wp {fx : Fx} (hb : fx.bs = bs) (hC : CallOk cx call) {ops : Array Oper} {i : Nat} {o : Oper} (hi : ops[i]? = some o) {ρ' : Env} {H' : Heap} (h : evOper cx fx call ops o ρ H = some (ρ', H'))
    (hS : Sim bs g H w) (hE : ERel g w ρ a.tmps fx.n) {K : Act → World → Prop} {Q : Exit → Act → World → Prop}
    (hn : ∀ a' w' g', Out bs g w H g' w' H' → ERel g' w' ρ' a'.tmps fx.n → a'.defers = a.defers → K a' w') : wpOpIn (FR r) 0 cx.P ops Q i K a w := by
  unfold evOper at h
  cases hw : wantedV ops o ρ with
  | none => simp [hw] at h
  | some b =>
    simp only [hw, Option.bind_some] at h
    unfold wpOpIn
    simp only [hi, wanted_eq hw hE]
    cases b with
    | true =>
      simp only [if_true] at h ⊢
      cases ho : evOp cx fx call o ρ H with
      | none => simp [ho] at h
      | some z =>
        obtain ⟨v, H1⟩ := z
        simp only [ho, Option.bind_some] at h
        refine wpIn_of_wp (evOp_noDefer ho) (evOp_wp hb hC ho hS hE (fun v' w' g' o1 r1 => ?_))
        obtain ⟨rfl, h2, h3⟩ := put_rel h (hE.mono o1.ext) r1
        exact hn _ _ g' o1 h2 h3
    | false =>
      simp only [Bool.false_eq_true, if_false, Option.bind_some] at h ⊢
      obtain ⟨rfl, h2, h3⟩ := put_rel h hE .skip
      exact ⟨fun _ _ => trivial, hn _ _ g (Out.refl hS) h2 h3⟩

theorem evOps_wp {fx : Fx} (hb : fx.bs = bs) (hC : CallOk cx call) {ops : Array Oper} {Q : Exit → Act → World → Prop} : ∀ (l : List Oper) (i : Nat), (∀ (j : Nat) (o : Oper), l[j]? = some o → ops[i + j]? = some o) →
    ∀ (g : G) (w : World) (H : Heap) (ρ ρ' : Env) (H' : Heap) (a : Act), evOps cx fx call ops l ρ H = some (ρ', H') → Sim bs g H w → ERel g w ρ a.tmps fx.n →
      (∀ a' w' g', Out bs g w H g' w' H' → ERel g' w' ρ' a'.tmps fx.n → a'.defers = a.defers → Q .normal a' w') → wpOpsIn (FR r) 0 cx.P ops Q (List.range' i l.length) a w
  | [], i, _, g, w, H, ρ, ρ', H', a, h, hS, hE, hn => by
    simp [evOps] at h; obtain ⟨rfl, rfl⟩ := h
    exact hn a w g (Out.refl hS) hE rfl
  | o :: rest, i, hl, g, w, H, ρ, ρ', H', a, h, hS, hE, hn => by
    simp only [evOps] at h
    cases ho : evOper cx fx call ops o ρ H with
    | none => simp [ho] at h
    | some s =>
      obtain ⟨ρ1, H1⟩ := s
      simp only [ho, Option.bind_some] at h
      rw [List.length_cons, List.range'_succ, wpOpsIn_cons]
      refine evOper_wp hb hC (by simpa using hl 0 o rfl) ho hS hE (fun a1 w1 g1 o1 e1 d1 => ?_)
      refine evOps_wp hb hC rest (i + 1) (fun j o' hj => by have := hl (j + 1) o' (by simpa using hj); rwa [show i + (j + 1) = i + 1 + j by omega] at this) g1 w1 H1 ρ1 ρ' H' a1 h o1.sim e1 (fun a' w' g' o2 e2 d2 => ?_)
      exact hn a' w' g' (o1.trans o2) e2 (d2.trans d1)

theorem region_text {fx : Fx} (hb : fx.bs = bs) (hC : CallOk cx call) {id : Nat} {ops : Array Oper} {Q : Exit → Act → World → Prop} {ρ' : Env} {H' : Heap} (h : evOps cx fx call ops ops.toList ρ H = some (ρ', H')) (hS : Sim bs g H w)
    (hE : ERel g w ρ a.tmps fx.n) (hn : ∀ a' w' g', Out bs g w H g' w' H' → ERel g' w' ρ' a'.tmps fx.n → a'.defers = a.defers → Q .normal a' w') : (Code.region id ops false).wpIn (FR r) 0 cx.P Q a w := by
  refine wpIn_region ?_
  have := evOps_wp (r := r) (Q := Q) hb hC ops.toList 0 (fun j o hj => by simpa using hj) g w H ρ ρ' H' a h hS hE hn
  rw [List.range_eq_range']
  simpa using this
end
end Go.E
