/- Soundness of E, operation by operation (5): stores, makes. Own work. -/
import Derived.Test.YtbnakdpmjlcneaaGreatEA
set_option linter.all false
namespace Go.E
section
variable {P : Program} {g : G} {w : World} {bs : List Nat} {H : Heap}

theorem setCells_heap (b : Nat) : ∀ (vs : List Value) (o : Nat) (w : World), (w.setCells b o vs).heap.size = w.heap.size ∧ (∀ b', b' ≠ b → (w.setCells b o vs).heap[b']? = w.heap[b']?) ∧
    (w.setCells b o vs).os = w.os ∧ (w.setCells b o vs).tape = w.tape ∧ (w.setCells b o vs).output = w.output
  | [], _, _ => ⟨rfl, fun _ _ => rfl, rfl, rfl, rfl⟩
  | v :: r, o, w => by
    obtain ⟨h1, h2, h3, h4, h5⟩ := setCells_heap b r (o + 1) (w.setCell ⟨b, o, none⟩ v)
    refine ⟨by rw [World.setCells, h1]; simp [World.setCell], fun b' hb => ?_, h3, h4, h5⟩
    rw [World.setCells, h2 b' hb]
    simp [World.setCell, Array.getElem?_modify, Ne.symm hb]

theorem write_ext {id b o : Nat} {vs : List Value} (hown : ∀ j, j < vs.length → g.O b (o + j) = .res id) : Ext g w g (w.setCells b o vs) := by
  obtain ⟨h1, h2, h3, h4, h5⟩ := setCells_heap b vs o w
  refine ⟨by rw [h1]; exact Nat.le_refl _, fun b' k hk => ⟨hk, ?_⟩, fun _ l h => ⟨l, h, LocLe.refl l⟩, fun b' hb hf => ⟨?_, fun _ => rfl⟩, h3, h4, h5⟩
  · refine World.cell?_setCells_out b vs o w _ (fun e _ => ?_)
    simp at e; subst e
    by_cases hc : k < o ∨ o + vs.length ≤ k
    · exact hc
    · have := hown (k - o) (by omega)
      rw [show o + (k - o) = k by omega, hk] at this
      cases this
  · cases vs with
    | nil => rfl
    | cons v r =>
      refine h2 b' (fun e => ?_)
      subst e
      exact hf (o + 0) id (hown 0 (by simp))

theorem write_keep {id id' b o : Nat} {vs : List Value} (hown : ∀ j, j < vs.length → g.O b (o + j) = .res id) (hne : id' ≠ id)
    (hcell : ∀ j, j < vs.length → (w.cell? ⟨b, o + j, none⟩).isSome = true) : Keep id' g w g (w.setCells b o vs) := by
  refine ⟨fun _ _ h => h, fun b' k hk => ⟨?_, World.frozen?_setCells b vs o w _⟩, fun b' es c h hb => ?_⟩
  · refine World.cell?_setCells_out b vs o w _ (fun e _ => ?_)
    simp at e; subst e
    by_cases hc : k < o ∨ o + vs.length ≤ k
    · exact hc
    · have := hown (k - o) (by omega)
      rw [show o + (k - o) = k by omega, hk] at this
      cases this; exact absurd rfl hne
  · cases vs with
    | nil => exact hb
    | cons v r =>
      rw [(setCells_heap b (v :: r) o w).2.1 b' (fun e => ?_)]
      · exact hb
      · subst e
        have := hcell 0 (by simp)
        simp [World.cell?, hb] at this

theorem underL_append (n : Nat) : ∀ (a b : List V), V.underL n (a ++ b) = (V.underL n a && V.underL n b)
  | [], b => by simp [V.underL]
  | v :: r, b => by simp [V.underL, underL_append n r b, Bool.and_assoc]
theorem underL_take (n : Nat) : ∀ (a : List V) (k : Nat), V.underL n a = true → V.underL n (a.take k) = true
  | _, 0, _ => by simp [V.underL]
  | [], _ + 1, h => by simpa using h
  | v :: r, k + 1, h => by simp [V.underL] at h ⊢; exact ⟨h.1, underL_take n r k h.2⟩
theorem underL_drop (n : Nat) : ∀ (a : List V) (k : Nat), V.underL n a = true → V.underL n (a.drop k) = true
  | _, 0, h => by simpa using h
  | [], _ + 1, h => by simpa using h
  | v :: r, k + 1, h => by simp [V.underL] at h ⊢; exact underL_drop n r k h.2
theorem under_cells {n : Nat} {v : V} (h : v.under n = true) : V.underL n v.cells = true := by
  cases v <;> first | (simpa [V.cells, V.under] using h) | (simp only [V.cells, V.underL, Bool.and_true]; exact h)
theorem underL_write {n : Nat} {cs new : List V} {off : Nat} (h : V.underL n cs = true) (hn : V.underL n new = true) : V.underL n (writeCells cs off new) = true := by
  unfold writeCells
  simp only [underL_append, Bool.and_eq_true]
  exact ⟨⟨underL_take n _ _ h, hn⟩, underL_drop n _ _ h⟩
theorem underL_mem {n : Nat} : ∀ {l : List V} {v : V}, V.underL n l = true → v ∈ l → v.under n = true
  | x :: r, v, h, hm => by
    simp [V.underL] at h
    rcases List.mem_cons.1 hm with rfl | hm
    · exact h.1
    · exact underL_mem h.2 hm
theorem underL_of {n : Nat} : ∀ {l : List V}, (∀ v ∈ l, v.under n = true) → V.underL n l = true
  | [], _ => rfl
  | v :: r, h => by simp [V.underL, h v (by simp), underL_of (l := r) (fun e he => h e (by simp [he]))]

theorem okStore_at {bs : List Nat} {id : Nat} {v : V} (hs : ∀ b ∈ bs, b ≤ bs.headD 0) (h : okStore bs id v = true) (b : Nat) (hb : b ∈ bs) : b ≤ id ∨ v.under b = true := by
  unfold okStore at h
  simp only [Bool.or_eq_true, decide_eq_true_eq, List.all_eq_true] at h
  rcases h with h | h
  · exact .inl (Nat.le_trans (hs b hb) h)
  · exact h b hb

theorem likeV_cells {e : V} {off : Nat} {new : List V} (hoff : off + new.length ≤ e.cells.length) (hc : new.all V.isCell = true) :
    (likeV e (writeCells e.cells off new)).cells = writeCells e.cells off new := by
  by_cases hag : ∃ cs, e = .agg cs
  · obtain ⟨cs, rfl⟩ := hag; rfl
  · have he : e.cells = [e] := by cases e <;> first | rfl | exact absurd ⟨_, rfl⟩ hag
    have hl : ∀ l, likeV e l = l.headD .undef := by cases e <;> first | (intro l; rfl) | exact absurd ⟨_, rfl⟩ hag
    rw [hl, he]
    rw [he] at hoff
    cases new with
    | nil =>
      have : writeCells [e] off [] = [e] := by unfold writeCells; simp
      rw [this]; simpa using he
    | cons x r =>
      simp at hoff
      have h0 : off = 0 ∧ r = [] := by
        constructor
        · omega
        · exact List.eq_nil_of_length_eq_zero (by omega)
      obtain ⟨rfl, rfl⟩ := h0
      simp [writeCells]
      simp at hc
      cases x <;> first | rfl | simp [V.isCell] at hc
theorem under_like {n : Nat} {e : V} {cs : List V} (h : V.underL n cs = true) : (likeV e cs).under n = true := by
  cases e <;> first | (simpa [likeV, V.under] using h) | (cases cs <;> simp_all [likeV, V.underL, V.under])

theorem run_storeVar {t : TypeId} {b o : Nat} {v : V} {v' : Value} (hv : VRel g w v v') (hs : sizeT P t = some v.cells.length) (hc : v.cells.all V.isCell = true)
    (hcell : ∀ j, j < v.cells.length → (w.cell? ⟨b, o + j, none⟩).isSome = true) (hf : ∀ j, j < v.cells.length → w.frozen? ⟨b, o + j, none⟩ = false) :
    (Instr.storeAt t (.pointer (some ⟨b, o, none⟩)) v').run P w = .ok () (w.setCells b o v'.cells.toList) := by
  obtain ⟨h1, h2⟩ := cells_rel hv (not_undef hc)
  have hl : v'.cells.toList.length = v.cells.length := by simpa using h1
  have hst := run_storeCells_cells (P := P) b o v'.cells.toList 0 w (fun j hj => by simpa using hcell j (by omega)) (fun j hj => by simpa using hf j (by omega)) (fun x hx => by
    obtain ⟨k, hk⟩ := List.getElem?_of_mem hx
    obtain ⟨hlt, _⟩ := List.getElem?_eq_some_iff.1 hk
    have hk2 : v.cells[k]? = some (v.cells[k]'(by omega)) := by simp
    have := h2 k _ x hk2 (by simpa using hk)
    exact (isCell_one this (List.all_eq_true.1 hc _ (List.mem_of_getElem? hk2))).1)
  simp [Instr.storeAt, Instr.sureAddr, storeVar, run_sizeT hs, h1, hst]

theorem store_sound (hS : Sim bs g H w) {t : TypeId} {p v : V} {p' v' : Value} {H' : Heap} (h : storeV P bs t p v H = some H') (hp : VRel g w p p') (hv : VRel g w v v') :
    ∃ w', (Instr.storeAt t p' v').run P w = .ok () w' ∧ Out bs g w H g w' H' := by
  unfold storeV at h
  split at h
  case isFalse => cases h
  rename_i hc
  obtain ⟨hsz, hall⟩ := hc
  obtain ⟨hs1, hr1⟩ := cells_rel hv (not_undef hall)
  have hl : v'.cells.toList.length = v.cells.length := by simpa using hs1
  split at h
  · rename_i id off
    split at h
    case h_2 => cases h
    rename_i cs hH
    split at h
    case isFalse => cases h
    rename_i hc
    obtain ⟨hoff, hund⟩ := hc
    cases h
    cases hp with
    | ptr _ _ b o n hφ =>
      obtain ⟨rfl, hown, hcell⟩ := obj_cells hS hH hφ
      have own' : ∀ j, j < v'.cells.toList.length → g.O b (o + off + j) = .res id := fun j hj => by
        have := (hown (off + j) (by omega)).1
        rwa [← Nat.add_assoc] at this
      have cell' : ∀ j, j < v.cells.length → (w.cell? ⟨b, o + off + j, none⟩).isSome = true := fun j hj => by
        obtain ⟨x, hx, _⟩ := hcell (off + j) cs[off + j] (by simp [show off + j < cs.length by omega])
        rw [Nat.add_assoc, hx]; rfl
      have x := write_ext (w := w) own'
      have hlen : (writeCells cs off v.cells).length = cs.length := writeCells_length hoff
      refine ⟨_, run_storeVar hv hsz hall cell' (fun j hj => by have := (hown (off + j) (by omega)).2; rwa [← Nat.add_assoc] at this), ?_, x, by simp, fun id => by simp; omega⟩
      refine ⟨by simpa using hS.bl, hS.srt, fun i hi => by simpa using hS.dom i hi, fun b' k hk => by rw [(setCells_heap _ _ _ _).1]; exact hS.old b' k hk, fun i ob l h1 h2 => ?_, fun i ob h2 hm2 => ?_⟩
      · by_cases e : i = id
        · subst e
          obtain ⟨hlt, _⟩ := List.getElem?_eq_some_iff.1 hH
          simp [hlt] at h1; subst h1
          rw [hφ] at h2; cases h2
          rw [← hlen]
          refine .cells _ _ _ (fun k hk => ⟨(hown k (by omega)).1, by rw [World.frozen?_setCells]; exact (hown k (by omega)).2⟩) (fun k y hy => ?_)
          rw [writeCells_get hoff] at hy
          by_cases hk : off ≤ k ∧ k < off + v.cells.length
          · rw [if_pos hk] at hy
            have hin := World.cell?_setCells_in b v'.cells.toList (o + off) w (fun j hj => cell' j (by omega)) (k - off) (by omega)
            rw [show o + off + (k - off) = o + k by omega] at hin
            exact ⟨_, hin, (hr1 (k - off) y _ hy (by simp [show k - off < v'.cells.size by omega])).mono x⟩
          · rw [if_neg hk] at hy
            obtain ⟨y', e1, e2⟩ := hcell k y hy
            refine ⟨y', ?_, e2.mono x⟩
            rw [World.cell?_setCells_out _ _ _ _ _ (fun _ _ => by simp only; omega)]
            exact e1
        · rw [List.getElem?_set_ne (Ne.symm e)] at h1
          exact (hS.obj i ob l h1 h2).keep x (write_keep own' e (fun j hj => cell' j (by omega)))
      · by_cases e : i = id
        · subst e
          obtain ⟨hlt, _⟩ := List.getElem?_eq_some_iff.1 hH
          simp [hlt] at h2; subst h2
          intro b hb
          rcases okStore_at hS.srt hund b hb with h5 | hv2
          · exact .inl h5
          · rcases hS.und i _ hH hm2 b hb with h5 | hu
            · exact .inl h5
            · exact .inr (underL_write hu (under_cells hv2))
        · rw [List.getElem?_set_ne (Ne.symm e)] at h2
          exact hS.und i ob h2 hm2
  · rename_i id ver i off
    split at h
    case h_2 => cases h
    rename_i es v0 hH
    split at h
    case isFalse => cases h
    rename_i hc
    obtain ⟨rfl, hund⟩ := hc
    cases he : es[i]? with
    | none => simp [he] at h
    | some e =>
      simp only [he, Option.bind_some] at h
      split at h
      case isFalse => cases h
      rename_i hoff
      cases h
      cases hp with
      | aptr _ _ _ _ b o s ext ver' b' o' hφ hver hcur =>
        obtain ⟨rfl, hext, hs, hown, hcell⟩ := obj_arr hS hH hφ
        obtain ⟨rfl, rfl⟩ := hcur rfl
        have hes : e.cells.length = s := hs i e he
        obtain ⟨hi, _⟩ := List.getElem?_eq_some_iff.1 he
        have hbnd : ∀ k, k < s → i * s + k < ext := fun k hk => by
          have : (i + 1) * s ≤ es.length * s := Nat.mul_le_mul_right s hi
          rw [Nat.add_mul, Nat.one_mul] at this; omega
        have own' : ∀ j, j < v'.cells.toList.length → g.O b' (o + i * s + off + j) = .res id := fun j hj => by
          have := (hown (i * s + (off + j)) (hbnd _ (by omega))).1
          rwa [← Nat.add_assoc, ← Nat.add_assoc] at this
        have cell' : ∀ j, j < v.cells.length → (w.cell? ⟨b', o + i * s + off + j, none⟩).isSome = true := fun j hj => by
          obtain ⟨_, _, x, hx⟩ := hown (i * s + (off + j)) (hbnd _ (by omega))
          rw [← Nat.add_assoc, ← Nat.add_assoc] at hx
          rw [hx]; rfl
        have x := write_ext (w := w) own'
        have hlk := likeV_cells hoff hall
        refine ⟨_, run_storeVar hv hsz hall cell' (fun j hj => by have := (hown (i * s + (off + j)) (hbnd _ (by omega))).2.1; rwa [← Nat.add_assoc, ← Nat.add_assoc] at this), ?_, x, by simp, fun id => by simp; omega⟩
        refine ⟨by simpa using hS.bl, hS.srt, fun i hi => by simpa using hS.dom i hi, fun b' k hk => by rw [(setCells_heap _ _ _ _).1]; exact hS.old b' k hk, fun i1 ob l h1 h2 => ?_, fun i1 ob h2 hm2 => ?_⟩
        · by_cases ee : i1 = id
          · subst ee
            obtain ⟨hlt, _⟩ := List.getElem?_eq_some_iff.1 hH
            simp [hlt] at h1; subst h1
            rw [hφ] at h2; cases h2
            refine .arr _ _ _ _ _ _ (by simpa using hext) (fun j e2 hj => ?_) (fun k hk => ?_) (fun j e2 q y hj hy => ?_)
            · by_cases ej : j = i
              · subst ej; simp [hi] at hj; subst hj; rw [hlk, writeCells_length hoff, hes]
              · rw [List.getElem?_set_ne (Ne.symm ej)] at hj; exact hs j e2 hj
            · obtain ⟨k1, k2, y, k3⟩ := hown k hk
              refine ⟨k1, by rw [World.frozen?_setCells]; exact k2, ?_⟩
              by_cases hin : i * s + off ≤ k ∧ k < i * s + off + v'.cells.toList.length
              · have := World.cell?_setCells_in b' v'.cells.toList (o + i * s + off) w (fun j hj => cell' j (by omega)) (k - (i * s + off)) (by omega)
                rw [show o + i * s + off + (k - (i * s + off)) = o + k by omega] at this
                exact ⟨_, this⟩
              · rw [World.cell?_setCells_out _ _ _ _ _ (fun _ _ => by simp only; omega)]
                exact ⟨y, k3⟩
            · by_cases ej : j = i
              · subst ej
                simp [hi] at hj; subst hj
                rw [hlk, writeCells_get hoff] at hy
                by_cases hq : off ≤ q ∧ q < off + v.cells.length
                · rw [if_pos hq] at hy
                  have hin := World.cell?_setCells_in b' v'.cells.toList (o + j * s + off) w (fun j hj => cell' j (by omega)) (q - off) (by omega)
                  rw [show o + j * s + off + (q - off) = o + j * s + q by omega] at hin
                  exact ⟨_, hin, (hr1 (q - off) y _ hy (by simp [show q - off < v'.cells.size by omega])).mono x⟩
                · rw [if_neg hq] at hy
                  obtain ⟨y', e1, e2⟩ := hcell j e q y he hy
                  refine ⟨y', ?_, e2.mono x⟩
                  rw [World.cell?_setCells_out _ _ _ _ _ (fun _ _ => by simp only; omega)]
                  exact e1
              · rw [List.getElem?_set_ne (Ne.symm ej)] at hj
                obtain ⟨y', e1, e3⟩ := hcell j e2 q y hj hy
                refine ⟨y', ?_, e3.mono x⟩
                obtain ⟨hq, _⟩ := List.getElem?_eq_some_iff.1 hy
                have hq2 : q < s := by rw [hs j e2 hj] at hq; exact hq
                rw [World.cell?_setCells_out _ _ _ _ _ (fun _ _ => by
                  simp only
                  rcases Nat.lt_or_gt_of_ne ej with hlt2 | hgt
                  · have : (j + 1) * s ≤ i * s := Nat.mul_le_mul_right s hlt2
                    rw [Nat.add_mul, Nat.one_mul] at this; omega
                  · have : (i + 1) * s ≤ j * s := Nat.mul_le_mul_right s hgt
                    rw [Nat.add_mul, Nat.one_mul] at this; omega)]
                exact e1
          · rw [List.getElem?_set_ne (Ne.symm ee)] at h1
            exact (hS.obj i1 ob l h1 h2).keep x (write_keep own' ee (fun j hj => cell' j (by omega)))
        · by_cases ee : i1 = id
          · subst ee
            obtain ⟨hlt, _⟩ := List.getElem?_eq_some_iff.1 hH
            simp [hlt] at h2; subst h2
            intro b hb
            rcases okStore_at hS.srt hund b hb with h5 | hv2
            · exact .inl h5
            · rcases hS.und i1 _ hH hm2 b hb with h5 | hu
              · exact .inl h5
              · refine .inr (underL_of (fun y hy => ?_))
                rcases List.mem_or_eq_of_mem_set hy with hy | rfl
                · exact underL_mem hu hy
                · exact under_like (underL_write (under_cells (underL_mem hu (List.mem_of_getElem? he))) (under_cells hv2))
          · rw [List.getElem?_set_ne (Ne.symm ee)] at h2
            exact hS.und i1 ob h2 hm2
  · cases h
end
end Go.E
/- Soundness of E, operation by operation (6): make, append. Own work. -/
namespace Go.E
section
variable {P : Program} {g : G} {w : World} {bs : List Nat} {H : Heap}

theorem wrap_small {n : Int} (h0 : 0 ≤ n) (h1 : n ≤ 9223372036854775807) : IntKind.i64.wrap n = n := by
  unfold IntKind.wrap
  simp [IntKind.bits, IntKind.signed]
  omega

theorem elem_under {t e : TypeId} (h : elemT P t = some e) : P.underlying t = some (.slice e) := by
  unfold elemT at h; split at h <;> simp at h; subst h; assumption

theorem info_of {t : TypeId} {s b : Nat} (hs : sizeT P t = some s) (hb : bytesT P t = some b) : ∃ i, P.info? t = some i ∧ i.bytes = b ∧ i.size = s := by
  unfold sizeT at hs; unfold bytesT at hb
  cases h : P.info? t with
  | none => simp [h] at hs
  | some i => exact ⟨i, rfl, by simpa [h] using hb, by simpa [h] using hs⟩

theorem makeSlice_sound (hS : Sim bs g H w) {id : Nat} {t el sz by_ : Nat} {z : V} {k k' : IntKind} {n : Int} (hO : Open bs g H id (.arr (List.replicate n.toNat z) 0)) (he : elemT P t = some el) (hsz : sizeT P el = some sz) (hby : bytesT P el = some by_)
    (hz : zeroT P el = some z) (h0 : 0 ≤ n) (hb : n.toNat * by_ ≤ roomB) (hn : n ≤ roomB) (hs0 : sz ≠ 0) (hzl : z.cells.length = sz) (hzc : z.cells.all V.isCell = true) :
    ∃ v' w' g', (Instr.makeSlice t (.int k n) (.int k' n)).run P w = .ok v' w' ∧ Lay bs g w H id g' w' ∧ VRel g' w' (.ref sz id 0 0 n.toNat) v' := by
  have hu := elem_under he
  obtain ⟨zv, hzv, hzr⟩ := zero_of hz
  unfold roomB at hb hn
  obtain ⟨i, hi, hib, his⟩ := info_of hsz hby
  have hw : IntKind.i64.wrap n = n := wrap_small h0 (by omega)
  obtain ⟨hr1, hr2⟩ := cells_rel (g := g) (w := w) (by rw [hzv]; exact ofVal_rel zv : VRel g w z zv) (not_undef hzc)
  obtain ⟨m, rfl⟩ : ∃ m : Nat, n = m := ⟨n.toNat, by omega⟩
  simp only [Int.toNat_natCast] at hb ⊢
  have hbig : ¬ ((by_ : Int) * m > 2 ^ 48) := by
    have : m * by_ = by_ * m := Nat.mul_comm _ _
    have h2 : ((by_ * m : Nat) : Int) = (by_ : Int) * m := by simp
    rw [← h2]; omega
  generalize hcs : ((Array.range (m * sz)).map fun i => (if m * sz = 0 then (#[] : Array Value) else zv.cells)[i % (if m * sz = 0 then (#[] : Array Value) else zv.cells).size]!) = cs
  have hcl : cs.size = m * sz := by rw [← hcs]; simp
  have hget : ∀ j q, j < m → q < sz → cs[j * sz + q]? = zv.cells[q]? := fun j q hj hq => by
    have hlt : j * sz + q < m * sz := by
      have : (j + 1) * sz ≤ m * sz := Nat.mul_le_mul_right sz hj
      rw [Nat.add_mul, Nat.one_mul] at this; omega
    have hne : m * sz ≠ 0 := by omega
    rw [← hcs]
    simp only [hne, if_false]
    have hzs : zv.cells.size = sz := by omega
    rw [Array.getElem?_map, Array.getElem?_range]
    simp only [hlt, if_true, Option.map_some, hzs]
    rw [Nat.mul_comm j sz, Nat.mul_add_mod, Nat.mod_eq_of_lt hq]
    simp [show q < zv.cells.size by omega]
  have hrun : (Instr.makeSlice t (.int k (m : Int)) (.int k' (m : Int))).run P w = .ok (.slice (some ⟨w.heap.size, 0, none⟩) m m) { w with heap := w.heap.push (.cells cs el) } := by
    have c1 : ¬ ((m : Int) < 0) := by omega
    have c2 : ¬ ((m : Int) > m) := by omega
    by_cases hzz : m * sz = 0
    · simp only [hzz, if_true] at hcs
      simp only [Instr.makeSlice, Sem.run_bind, run_underlying hu, Result.andThen_ok, asInt, asIntOf, Sem.run_pure, run_typeInfo hi, hw, hib, hbig, c1, c2, decide_false, Bool.or_false, Bool.false_eq_true, if_false, Sem.run_ite, run_askRoom, sizeOf, his, Int.toNat_natCast, hzz, if_true]
      rw [hcs]
      simp [newRow]
    · simp only [hzz, if_false] at hcs
      simp only [Instr.makeSlice, Sem.run_bind, run_underlying hu, Result.andThen_ok, asInt, asIntOf, Sem.run_pure, run_typeInfo hi, hw, hib, hbig, c1, c2, decide_false, Bool.or_false, Bool.false_eq_true, if_false, Sem.run_ite, run_askRoom, sizeOf, his, Int.toNat_natCast, hzz, hzr]
      rw [hcs]
      simp [newRow]
  refine ⟨_, _, g.lay w.heap.size (fun _ => .res id) id (some (.arr w.heap.size 0 sz (m * sz) 0)), hrun, ?_, ?_⟩
  · refine lay_at hS _ _ _ _ hO (.arr _ _ _ _ _ _ (by simp) (fun j e hj => ?_) (fun q hq => ⟨by simp [G.lay], frozen_push_new cs el _, ?_⟩) (fun j e q v hj hv => ?_))
    · obtain ⟨hlt, _⟩ := List.getElem?_eq_some_iff.1 hj
      simp at hlt
      simp [hlt] at hj
      rw [← hj]; exact hzl
    · rw [Nat.zero_add, cell_push_new]; exact ⟨cs[q]'(by omega), by simp [show q < cs.size by omega]⟩
    · obtain ⟨hlt, _⟩ := List.getElem?_eq_some_iff.1 hj
      simp at hlt
      simp [hlt] at hj
      rw [← hj] at hv
      obtain ⟨hq, _⟩ := List.getElem?_eq_some_iff.1 hv
      rw [Nat.zero_add, cell_push_new, hget j q hlt (by omega)]
      exact ⟨zv.cells[q]'(by omega), by simp [show q < zv.cells.size by omega], (hr2 q v _ hv (by simp [show q < zv.cells.size by omega])).mono (ext_lay hS _ _ hO.none _)⟩
  · exact .ref _ _ _ _ _ m w.heap.size 0 sz (m * sz) 0 _ _ (by simp [G.lay]) (Nat.le_refl _) (Nat.le_refl _) (fun _ => ⟨rfl, fun _ => ⟨rfl, by omega, by rw [Nat.zero_add]; exact Nat.le_refl _⟩⟩)

/-! ### append -/
theorem norm_cells (v : V) : v.norm.cells = v.cells.map norm1 := by
  cases v <;> simp [V.norm, norm1, V.cells]
theorem norm_cells_length (v : V) : v.norm.cells.length = v.cells.length := by rw [norm_cells]; simp

theorem at_lt {L j q sz : Nat} (hj : j < L) (hq : q < sz) : j * sz + q < L * sz := by
  have : (j + 1) * sz ≤ L * sz := Nat.mul_le_mul_right sz hj
  rw [Nat.add_mul, Nat.one_mul] at this; omega

/-- What is read to be appended. -/
theorem elems_run (hS : Sim bs g H w) {x : V} {x' : Value} {xs new : List V} {sz : Nat} (hx : VRel g w x x') (he : elemsV H x = some xs) (ht : takeElems sz xs = some new) :
    ∃ a cap cells, x' = .slice a xs.length cap ∧ (Builtin.firstCells sz xs.length x').run P w = .ok (List.toArray cells) w ∧ cells.length = xs.length * sz ∧
      ∀ (j : Nat) (e : V) (q : Nat) (y : V), new[j]? = some e → e.cells[q]? = some y → ∃ y', cells[j * sz + q]? = some y' ∧ VRel g w y y' := by
  obtain ⟨k1, k2, k3⟩ := takeElems_spec ht
  have get : ∀ (j : Nat) (e : V), new[j]? = some e → ∃ v, xs[j]? = some v ∧ e = v.norm ∧ e.cells.length = sz ∧ e.cells.all V.isCell = true := fun j e hj => by
    obtain ⟨v, h1, h2⟩ := k3 j e hj
    have := k2 e (List.mem_of_getElem? hj)
    exact ⟨v, h1, h2, this.1, this.2.2⟩
  have xsz : ∀ (j : Nat) (e : V), xs[j]? = some e → e.cells.length = sz := fun j e hj => by
    obtain ⟨hlt, _⟩ := List.getElem?_eq_some_iff.1 hj
    have h1 : new[j]? = some (new[j]'(by omega)) := by simp
    obtain ⟨v, h2, h3, h4, _⟩ := get j _ h1
    rw [hj] at h2; cases h2
    rw [h3, norm_cells_length] at h4; exact h4
  have row : ∀ (b o : Nat) (cell : Nat → Value), (∀ k, k < xs.length * sz → w.cell? ⟨b, o + k, none⟩ = some (cell k)) →
      (∀ (j : Nat) (e : V) (q : Nat) (y : V), xs[j]? = some e → e.cells[q]? = some y → VRel g w y (cell (j * sz + q))) →
      ∃ cells, (loadCells ⟨b, o, none⟩ (xs.length * sz)).run P w = .ok (List.toArray cells) w ∧ cells.length = xs.length * sz ∧
        ∀ (j : Nat) (e : V) (q : Nat) (y : V), new[j]? = some e → e.cells[q]? = some y → ∃ y', cells[j * sz + q]? = some y' ∧ VRel g w y y' := by
    intro b o cell hc hr
    have hl := run_loadCells (P := P) w ⟨b, o, none⟩ (xs.length * sz) cell (fun j hj => by rw [add_plain]; exact hc j hj)
    refine ⟨(List.range (xs.length * sz)).map cell, hl, by simp, fun j e q y hj hy => ?_⟩
    obtain ⟨v, h1, rfl, h3, h4⟩ := get j e hj
    obtain ⟨hlt, _⟩ := List.getElem?_eq_some_iff.1 h1
    obtain ⟨hq, _⟩ := List.getElem?_eq_some_iff.1 hy
    have hk := at_lt (sz := sz) hlt (show q < sz by omega)
    refine ⟨cell (j * sz + q), by simp [hk], ?_⟩
    rw [norm_cells, List.getElem?_map] at hy
    cases hv : v.cells[q]? with
    | none => simp [hv] at hy
    | some u => simp [hv] at hy; subst hy; exact norm1_rel (hr j v q u h1 hv)
  have lists : ∀ es, elemsV H x = some es → VRel g w (.list es) x' → ∃ a cap cells, x' = .slice a xs.length cap ∧ (Builtin.firstCells sz xs.length x').run P w = .ok (List.toArray cells) w ∧ cells.length = xs.length * sz ∧
      ∀ (j : Nat) (e : V) (q : Nat) (y : V), new[j]? = some e → e.cells[q]? = some y → ∃ y', cells[j * sz + q]? = some y' ∧ VRel g w y y' := by
    intro es he2 hx
    rw [he2] at he; cases he
    cases hx with
    | listNil =>
      refine ⟨none, 0, [], rfl, by simp [Builtin.firstCells], by simp, fun j e q y hj => ?_⟩
      simp at k1; rw [k1] at hj; simp at hj
    | listZ a =>
      refine ⟨some a, 0, [], rfl, by simp [Builtin.firstCells, loadCells, loadCellsFrom], by simp, fun j e q y hj => ?_⟩
      simp at k1; rw [k1] at hj; simp at hj
    | list b o cap s _ c hlen hpure hs hO hc hr =>
      by_cases h0 : xs.length = 0
      · have hxs : xs = [] := List.eq_nil_of_length_eq_zero h0
        subst hxs
        have hl := run_loadCells (P := P) w ⟨b, o, none⟩ 0 (fun _ => Go.undef) (fun j hj => by omega)
        refine ⟨some ⟨b, o, none⟩, cap, [], rfl, by simpa [Builtin.firstCells] using hl, by simp, fun j e q y hj => ?_⟩
        simp at k1; rw [k1] at hj; simp at hj
      · have hs0 : s = sz := by
          have e1 : xs[0]? = some (xs[0]'(by omega)) := by simp
          rw [← hs 0 _ e1, xsz 0 _ e1]
        subst hs0
        by_cases hsz : s = 0
        · subst hsz
          obtain ⟨cells, r1, r2, r3⟩ := row b o (fun _ => Go.undef) (fun k hk => by omega) (fun j e q y hj hy => by
            obtain ⟨hq, _⟩ := List.getElem?_eq_some_iff.1 hy
            have := xsz j e hj; omega)
          exact ⟨_, _, cells, rfl, by simpa [Builtin.firstCells] using r1, r2, r3⟩
        · obtain ⟨cells, r1, r2, r3⟩ := row b o (fun k => c (k / s) (k % s)) (fun k hk => by
            have h1 : k / s < xs.length := by rw [Nat.div_lt_iff_lt_mul (by omega)]; exact hk
            have h2 : k % s < s := Nat.mod_lt _ (by omega)
            have := hc (k / s) (k % s) h1 h2
            rwa [Nat.add_assoc, Nat.div_add_mod'] at this) (fun j e q y hj hy => by
            obtain ⟨hq, _⟩ := List.getElem?_eq_some_iff.1 hy
            have hq2 : q < s := by have := xsz j e hj; omega
            have e1 : (j * s + q) / s = j := by rw [Nat.mul_comm, Nat.mul_add_div (by omega), Nat.div_eq_of_lt hq2, Nat.add_zero]
            have e2 : (j * s + q) % s = q := by rw [Nat.mul_comm, Nat.mul_add_mod, Nat.mod_eq_of_lt hq2]
            rw [e1, e2]; exact hr j e q y hj hy)
          exact ⟨_, _, cells, rfl, by simpa [Builtin.firstCells] using r1, r2, r3⟩
  cases x with
  | nilS =>
    simp [elemsV] at he; subst he
    cases hx
    refine ⟨none, 0, [], rfl, by simp [Builtin.firstCells], by simp, fun j e q y hj => ?_⟩
    simp at k1; rw [k1] at hj; simp at hj
  | list es => exact lists es rfl hx
  | tl t es => exact lists es rfl (list_of_tl hx)
  | ref s id ver off len =>
    simp only [elemsV] at he
    cases hH : H[id]? with
    | none => simp [hH] at he
    | some ob =>
      cases ob with
      | arr es v0 =>
        simp only [hH] at he
        split at he
        · rename_i hc
          obtain ⟨rfl, hle⟩ := hc
          cases he
          cases hx with
          | ref _ _ _ _ _ cap b o s' ext ver' b' o' hφ hv hlen hcur =>
            obtain ⟨rfl, hext, hs, hown, hcell⟩ := obj_arr hS hH hφ
            obtain ⟨rfl, h6⟩ := hcur rfl
            have hL : ((es.drop off).take len).length = len := by simp; omega
            by_cases h0 : len = 0
            · subst h0
              have hl := run_loadCells (P := P) w ⟨b', o', none⟩ 0 (fun _ => Go.undef) (fun j hj => by omega)
              refine ⟨some ⟨b', o', none⟩, cap, [], by simp, by simpa [Builtin.firstCells] using hl, by simp, fun j e q y hj => ?_⟩
              simp at k1; rw [k1] at hj; simp at hj
            · obtain ⟨rfl, rfl, h7⟩ := h6 (by omega)
              have elem : ∀ (j : Nat) (e : V), ((es.drop off).take len)[j]? = some e → j < len ∧ es[off + j]? = some e := fun j e hj => by
                obtain ⟨hlt, _⟩ := List.getElem?_eq_some_iff.1 hj
                rw [hL] at hlt
                rw [List.getElem?_take_of_lt hlt, List.getElem?_drop] at hj
                exact ⟨hlt, hj⟩
              have hs0 : s' = sz := by
                have e1 := List.getElem?_eq_getElem (show 0 < ((es.drop off).take len).length by omega)
                rw [← hs _ _ (elem 0 _ e1).2, xsz 0 _ e1]
              subst hs0
              obtain ⟨cells, r1, r2, r3⟩ := row b' (o + off * s') (fun k => (w.cell? ⟨b', o + off * s' + k, none⟩).getD Go.undef) (fun k hk => by
                have hb : off * s' + k < ext := by
                  have : (off + len) * s' ≤ es.length * s' := Nat.mul_le_mul_right s' hle
                  rw [Nat.add_mul] at this
                  rw [hL] at hk; omega
                obtain ⟨_, _, y, hy⟩ := hown (off * s' + k) hb
                rw [← Nat.add_assoc] at hy
                simp [hy]) (fun j e q y hj hy => by
                obtain ⟨hlt, hj2⟩ := elem j e hj
                obtain ⟨y', e1, e2⟩ := hcell (off + j) e q y hj2 hy
                rw [Nat.add_mul, ← Nat.add_assoc] at e1
                rw [← Nat.add_assoc]
                simpa [e1] using e2)
              refine ⟨_, cap, cells, by rw [hL], ?_, r2, r3⟩
              simpa [Builtin.firstCells] using r1
        · cases he
      | _ => simp [hH] at he
  | _ => simp [elemsV] at he
end
end Go.E
/- Soundness of E, operation by operation (7): append. Own work. -/
namespace Go.E
section
variable {P : Program} {g : G} {w : World} {bs : List Nat} {H : Heap}

theorem growBy_le (n M : Nat) (hM : n + (n + 768) / 4 ≤ M) : ∀ (r c : Nat), c ≤ M → Builtin.growBy n r c ≤ M
  | 0, c, h => by simpa [Builtin.growBy] using h
  | r + 1, c, h => by
    simp only [Builtin.growBy]
    split
    · exact h
    · exact growBy_le n M hM r _ (by omega)
theorem nextslice_le {need cap : Nat} (h : cap < need) : Builtin.nextslicecap need cap ≤ 3 * need := by
  unfold Builtin.nextslicecap
  split
  · omega
  · split
    · omega
    · exact growBy_le need _ (by omega) _ _ (by omega)

/-- A list's cells, read one by one. -/
theorem list_rowB {es : List V} {x' : Value} {sz : Nat} (hx : VRel g w (.list es) x') (hsz : ∀ (j : Nat) (e : V), es[j]? = some e → e.cells.length = sz) (w1 : World)
    (hcell : ∀ b o, g.O b o = .imm → w1.cell? ⟨b, o, none⟩ = w.cell? ⟨b, o, none⟩) :
    ∃ cells, (Builtin.firstCells sz es.length x').run P w1 = .ok (List.toArray cells) w1 ∧ cells.length = es.length * sz ∧
      ∀ (j : Nat) (e : V) (q : Nat) (y : V), es[j]? = some e → e.cells[q]? = some y → ∃ y', cells[j * sz + q]? = some y' ∧ VRel g w y y' := by
  cases hx with
  | listNil => exact ⟨[], by simp [Builtin.firstCells], by simp, fun j e q y hj => by simp at hj⟩
  | listZ a => exact ⟨[], by simp [Builtin.firstCells, loadCells, loadCellsFrom], by simp, fun j e q y hj => by simp at hj⟩
  | list b o cap s _ c hlen hpure hs hO hc hr =>
    by_cases h0 : es.length = 0
    · have hxs : es = [] := List.eq_nil_of_length_eq_zero h0
      subst hxs
      have hl := run_loadCells (P := P) w1 ⟨b, o, none⟩ 0 (fun _ => Go.undef) (fun j hj => by omega)
      exact ⟨[], by simpa [Builtin.firstCells] using hl, by simp, fun j e q y hj => by simp at hj⟩
    · have hs0 : s = sz := by
        have e1 : es[0]? = some (es[0]'(by omega)) := by simp
        rw [← hs 0 _ e1, hsz 0 _ e1]
      subst hs0
      have hl := run_loadCells (P := P) w1 ⟨b, o, none⟩ (es.length * s) (fun k => c (k / s) (k % s)) (fun k hk => by
        have hsp : 0 < s := by rcases Nat.eq_zero_or_pos s with h | h; · rw [h] at hk; omega
                               · exact h
        have h1 : k / s < es.length := by rw [Nat.div_lt_iff_lt_mul hsp]; exact hk
        have h2 : k % s < s := Nat.mod_lt _ hsp
        have := hc (k / s) (k % s) h1 h2
        rw [← hcell _ _ (hO (k / s) (k % s) h1 h2)] at this
        rwa [Nat.add_assoc, Nat.div_add_mod', ← add_plain] at this)
      refine ⟨_, by simpa [Builtin.firstCells] using hl, by simp, fun j e q y hj hy => ?_⟩
      obtain ⟨hlt, _⟩ := List.getElem?_eq_some_iff.1 hj
      obtain ⟨hq, _⟩ := List.getElem?_eq_some_iff.1 hy
      have hq2 : q < s := by have := hsz j e hj; omega
      refine ⟨c j q, ?_, hr j e q y hj hy⟩
      have hk := at_lt (sz := s) hlt hq2
      have e1 : (j * s + q) / s = j := by rw [Nat.mul_comm, Nat.mul_add_div (by omega), Nat.div_eq_of_lt hq2, Nat.add_zero]
      have e2 : (j * s + q) % s = q := by rw [Nat.mul_comm, Nat.mul_add_mod, Nat.mod_eq_of_lt hq2]
      simp [hk, e1, e2]

theorem list_row {es : List V} {x' : Value} {sz : Nat} (hx : VRel g w (.list es) x') (hsz : ∀ (j : Nat) (e : V), es[j]? = some e → e.cells.length = sz) (w1 : World) (hw : w1.heap = w.heap) :
    ∃ cells, (Builtin.firstCells sz es.length x').run P w1 = .ok (List.toArray cells) w1 ∧ cells.length = es.length * sz ∧
      ∀ (j : Nat) (e : V) (q : Nat) (y : V), es[j]? = some e → e.cells[q]? = some y → ∃ y', cells[j * sz + q]? = some y' ∧ VRel g w y y' :=
  list_rowB hx hsz w1 fun _ _ _ => by unfold World.cell?; rw [hw]

theorem sim_drew (hS : Sim bs g H w) (d : Nat) : Out bs g w H g { w with drawn := d } H := by
  have x : Ext g w g { w with drawn := d } := ⟨Nat.le_refl _, fun _ _ h => ⟨h, rfl⟩, fun _ l h => ⟨l, h, LocLe.refl l⟩, fun _ _ _ => ⟨rfl, fun _ => rfl⟩, rfl, rfl, rfl⟩
  exact ⟨⟨hS.bl, hS.srt, hS.dom, hS.old, fun id ob l h1 h2 => (hS.obj id ob l h1 h2).keep x ⟨fun _ _ h => h, fun _ _ _ => ⟨rfl, rfl⟩, fun _ _ _ _ h => h⟩, hS.und⟩, x, Nat.le_refl _, fun id => ⟨.inl, fun h => h.resolve_right (by omega)⟩⟩

/-- Elements that lie one behind the other, as one list. -/
theorem list_mk {es : List V} {s : Nat} {b o cap : Nat} {g1 : G} {w1 : World} (cell : Nat → Value) (hcap : es.length ≤ cap) (hes : ∀ (j : Nat) (e : V), es[j]? = some e → e.cells.length = s)
    (hp : V.pureL es = true) (hw : ∀ k, k < es.length * s → g1.O b (o + k) = .imm ∧ w1.cell? ⟨b, o + k, none⟩ = some (cell k))
    (hr : ∀ (j : Nat) (e : V) (q : Nat) (y : V), es[j]? = some e → e.cells[q]? = some y → VRel g1 w1 y (cell (j * s + q))) :
    VRel g1 w1 (.list es) (.slice (some ⟨b, o, none⟩) es.length cap) :=
  .list b o cap s es (fun j i => cell (j * s + i)) hcap hp hes (fun j i hj hi => by rw [Nat.add_assoc]; exact (hw _ (at_lt hj hi)).1)
    (fun j i hj hi => by rw [Nat.add_assoc]; exact (hw _ (at_lt hj hi)).2) hr

theorem pureL_append : ∀ (a b : List V), V.pureL (a ++ b) = (V.pureL a && V.pureL b)
  | [], b => by simp [V.pureL]
  | v :: r, b => by simp [V.pureL, pureL_append r b, Bool.and_assoc]

theorem append_get (es new : List V) (j : Nat) (e : V) (h : (es ++ new)[j]? = some e) : (j < es.length ∧ es[j]? = some e) ∨ (es.length ≤ j ∧ j - es.length < new.length ∧ new[j - es.length]? = some e) := by
  by_cases hj : j < es.length
  · left; rw [List.getElem?_append_left hj] at h; exact ⟨hj, h⟩
  · right
    rw [List.getElem?_append_right (by omega)] at h
    obtain ⟨h1, _⟩ := List.getElem?_eq_some_iff.1 h
    exact ⟨by omega, h1, h⟩

/-- The run, where there is no room: a new row. -/
theorem append_grow (hS : Sim bs g H w) {t u e e2 ty sz by_ : Nat} {es xs new : List V} {x : V} {x' s' : Value} {a : Option Addr} {sCap : Nat} {z : V}
    (ht : P.underlying t = some (.slice e)) (hu : P.underlying u = some (.slice e2)) (hsz : sizeT P e = some sz) (hby : bytesT P e = some by_) (hz : zeroT P e = some z)
    (hzl : z.cells.length = sz) (hzc : z.cells.all V.isCell = true) (hb0 : by_ ≠ 0)
    (hs' : s' = .slice a es.length sCap) (hs : VRel g w (.list es) s') (hes : ∀ (j : Nat) (e : V), es[j]? = some e → e.cells.length = sz) (hx : VRel g w x x') (hxe : elemsV H x = some xs) (hnew : takeElems sz xs = some new)
    (hroom : (es.length + new.length) * by_ ≤ roomB) (hgrow : sCap < es.length + new.length) :
    ∃ newCap w1, es.length + new.length ≤ newCap ∧ w1.heap = w.heap ∧ Out bs g w H g w1 H ∧ ∃ cells : Array Value, cells.size = newCap * sz ∧
      (Builtin.append_ #[t, u] ty #[s', x']).run P w = .ok (.slice (some ⟨w.heap.size, 0, none⟩) (es.length + new.length) newCap) { w1 with heap := w1.heap.push (.cells cells e) } ∧
      ∀ (j : Nat) (e : V) (q : Nat) (y : V), (es ++ new)[j]? = some e → e.cells[q]? = some y → ∃ y', cells[j * sz + q]? = some y' ∧ VRel g w y y' := by
  subst hs'
  obtain ⟨i, hi, hib, his⟩ := info_of hsz hby
  obtain ⟨zv, hzv, hzr⟩ := zero_of hz
  obtain ⟨hr1, _⟩ := cells_rel (g := g) (w := w) (by rw [hzv]; exact ofVal_rel zv : VRel g w z zv) (not_undef hzc)
  unfold roomB at hroom
  have hnl : new.length = xs.length := (takeElems_spec hnew).1
  generalize hq : Question.appendCap (es.length + new.length) sCap e = Q
  have hcut : ∃ nc, Q.cut (w.tape w.drawn Q) = nc ∧ es.length + new.length ≤ nc := by
    rw [← hq]; exact ⟨_, rfl, Nat.le_add_right _ _⟩
  obtain ⟨nc, hnc, hle⟩ := hcut
  have o1 := sim_drew hS (w.drawn + 1)
  obtain ⟨a2, cap2, cx, rfl, rx, cxl, crel⟩ := elems_run (P := P) o1.sim (hx.mono o1.ext) hxe hnew
  obtain ⟨co, ro, col, orel⟩ := list_row (P := P) hs hes { w with drawn := w.drawn + 1 } rfl
  have hns : ¬ (Builtin.nextslicecap (es.length + xs.length) sCap * by_ > 2 ^ 48) := by
    have h1 := nextslice_le (need := es.length + xs.length) (cap := sCap) (by omega)
    have h2 : Builtin.nextslicecap (es.length + xs.length) sCap * by_ ≤ 3 * (es.length + xs.length) * by_ := Nat.mul_le_mul_right by_ h1
    rw [Nat.mul_assoc, ← hnl] at h2
    rw [← hnl]
    omega
  have hrest : (Builtin.zeroCells zv.cells (nc - (es.length + xs.length))).size = (nc - (es.length + xs.length)) * sz := by
    simp [Builtin.zeroCells]; rw [hr1, hzl]
  rw [hnl] at hq hle ⊢
  refine ⟨nc, { w with drawn := w.drawn + 1 }, by omega, rfl, o1, co.toArray ++ cx.toArray ++ Builtin.zeroCells zv.cells (nc - (es.length + xs.length)), ?_, ?_, ?_⟩
  · simp only [Array.size_append, List.size_toArray, hrest, col, cxl]
    rw [← Nat.add_mul, ← Nat.add_mul]
    congr 1; omega
  · have c1 : ¬ (es.length + xs.length ≤ sCap) := by omega
    have hforced : Q.forced = false := by rw [← hq]; rfl
    have hns' : ¬ (281474976710656 < Builtin.nextslicecap (es.length + xs.length) sCap * by_) := by
      have e1 : (2 : Nat) ^ 48 = 281474976710656 := by decide
      rw [e1] at hns; exact hns
    have ro' : (Builtin.firstCells sz es.length (Value.slice a es.length sCap)).run P w.drew = .ok co.toArray w.drew := ro
    have rx' : (Builtin.firstCells sz xs.length (Value.slice a2 xs.length cap2)).run P w.drew = .ok cx.toArray w.drew := rx
    simp [Builtin.append_, run_underlying ht, run_sizeT hsz, run_underlying hu, Builtin.lenOf, c1, run_typeInfo hi, hib, hb0, hns', hq, hforced, hnc, ro', rx', hzr, newRow]
    have hco : ∀ Z : Array Value, (co ++ cx).toArray ++ Z = co.toArray ++ (cx.toArray ++ Z) := fun Z => Array.ext' (by simp)
    rw [hco]
    rfl
  · intro j e' q y hj hy
    rcases append_get es new j e' hj with ⟨hlt, h1⟩ | ⟨hge, hlt, h1⟩
    · obtain ⟨y', e1, e2⟩ := orel j e' q y h1 hy
      obtain ⟨hk, _⟩ := List.getElem?_eq_some_iff.1 e1
      refine ⟨y', ?_, e2⟩
      rw [Array.append_assoc, Array.getElem?_append_left (by simpa using hk)]
      simpa using e1
    · obtain ⟨y', e1, e2⟩ := crel (j - es.length) e' q y h1 hy
      obtain ⟨hk, _⟩ := List.getElem?_eq_some_iff.1 e1
      have hjs : j * sz + q = es.length * sz + ((j - es.length) * sz + q) := by
        rw [← Nat.add_assoc, ← Nat.add_mul]; congr 2; omega
      refine ⟨y', ?_, by
        have hxx : Ext g { w with drawn := w.drawn + 1 } g w := ⟨Nat.le_refl _, fun _ _ h => ⟨h, rfl⟩, fun _ l h => ⟨l, h, LocLe.refl l⟩, fun _ _ _ => ⟨rfl, fun _ => rfl⟩, rfl, rfl, rfl⟩
        exact e2.mono hxx⟩
      rw [hjs, Array.append_assoc, Array.getElem?_append_right (by simp; omega), Array.getElem?_append_left (by simp [col]; omega)]
      simp [col]
      simpa using e1
/-- A row whose head is never written again, and whose rest belongs to id. -/
def G.grow (g : G) (B h id : Nat) (l : Loc) : G := g.lay B (fun k => if k < h then .imm else .res id) id (some l)

theorem ext_grow (hS : Sim bs g H w) (o : Obj) (h id : Nat) (l : Loc) (hle : ∀ l', g.φ id = some l' → LocLe l' l) : Ext g w (g.grow w.heap.size h id l) { w with heap := w.heap.push o } where
  size := by simp
  imm b k hk := by
    have hb : b ≠ w.heap.size := by have := hS.old b k (by rw [hk]; simp); omega
    exact ⟨by simp [G.grow, G.lay, hb, hk], cell_push_lt o k hb⟩
  loc i l' hl := by
    by_cases e : i = id
    · subst e; exact ⟨l, by simp [G.grow, G.lay], hle l' hl⟩
    · exact ⟨l', by simp [G.grow, G.lay, e, hl], LocLe.refl _⟩
  free b hb _ := ⟨heap_push_lt o (by omega), fun k => by simp [G.grow, G.lay, show b ≠ w.heap.size by omega]⟩
  os := rfl
  tape := rfl
  output := rfl

/-- Behind a growth: a token, new or known, has a new row. -/
theorem out_grow (hS : Sim bs g H w) (o : Obj) (tk n s cap : Nat) (hl : H[tk]? = none → tk = H.length) (hdom : g.φ tk = none → tk = H.length) (hle : ∀ l', g.φ tk = some l' → LocLe l' (.tok (some (w.heap.size, 0)) s cap n)) (H' : Heap)
    (hH : (tk = H.length ∧ H' = H ++ [.tok n]) ∨ (tk < H.length ∧ g.φ tk ≠ none ∧ H' = H.set tk (.tok n))) (hn : n ≤ cap) (hn0 : n = 0 → cap = 0)
    (hc : ∀ k, k < cap * s → ∃ v, ({ w with heap := w.heap.push o } : World).cell? ⟨w.heap.size, k, none⟩ = some v) (hf : ∀ k, ({ w with heap := w.heap.push o } : World).frozen? ⟨w.heap.size, k, none⟩ = false) :
    Out bs g w H (g.grow w.heap.size (n * s) tk (.tok (some (w.heap.size, 0)) s cap n)) { w with heap := w.heap.push o } H' := by
  have x := ext_grow hS o (n * s) tk _ hle
  have keep : ∀ id, id ≠ tk → Keep id g w (g.grow w.heap.size (n * s) tk (.tok (some (w.heap.size, 0)) s cap n)) { w with heap := w.heap.push o } := fun id _ => by
    refine ⟨fun b k h => ?_, fun b k h => ?_, fun b es c h hh => ?_⟩
    · have hb : b ≠ w.heap.size := by have := hS.old b k (by rw [h]; simp); omega
      simp [G.grow, G.lay, hb, h]
    · have hb : b ≠ w.heap.size := by have := hS.old b k (by rw [h]; simp); omega
      exact ⟨cell_push_lt o k hb, frozen_push_lt o k hb⟩
    · have hb : b ≠ w.heap.size := by have := hS.old b 0 (by rw [h]; simp); omega
      rw [heap_push_lt o hb]; exact hh
  have hlen : H.length ≤ H'.length := by rcases hH with ⟨_, rfl⟩ | ⟨_, _, rfl⟩ <;> simp
  have htk : tk < H'.length := by rcases hH with ⟨rfl, rfl⟩ | ⟨h, _, rfl⟩ <;> simp; exact h
  have hget : ∀ id, id ≠ tk → H'[id]? = H[id]? ∨ H.length < id := fun id hne => by
    rcases hH with ⟨rfl, rfl⟩ | ⟨h, _, rfl⟩
    · by_cases hlt : id < H.length
      · exact .inl (List.getElem?_append_left hlt)
      · exact .inr (by omega)
    · exact .inl (List.getElem?_set_ne (Ne.symm hne))
  have htok : H'[tk]? = some (.tok n) := by
    rcases hH with ⟨rfl, rfl⟩ | ⟨h, _, rfl⟩
    · simp
    · simp [h]
  have hbig : ∀ id, H.length < id → H'[id]? = none := fun id hlt => by
    rcases hH with ⟨rfl, rfl⟩ | ⟨h, _, rfl⟩ <;> (apply List.getElem?_eq_none; simp; omega)
  refine ⟨⟨by have := hS.bl; omega, hS.srt, fun id hid => ?_, fun b k hk => ?_, fun id ob l h1 h2 => ?_, fun id ob h2 hm2 => ?_⟩, x, hlen, fun id => ?_⟩
  · by_cases e : id = tk
    · rw [e]; exact htk
    · have : g.φ id ≠ none := by simpa [G.grow, G.lay, e] using hid
      have := hS.dom id this; omega
  · simp [G.grow, G.lay] at hk ⊢
    by_cases e : b = w.heap.size
    · omega
    · simp [e] at hk; have := hS.old b k hk; omega
  · by_cases e : id = tk
    · subst e
      rw [htok] at h1; cases h1
      simp [G.grow, G.lay] at h2; subst h2
      refine .tok _ _ 0 _ _ hn hn0 (fun k h3 h4 => ⟨?_, hf _, ?_⟩)
      · simp [G.grow, G.lay, show ¬ (k < n * s) by omega]
      · rw [Nat.zero_add]; exact hc k h4
    · rcases hget id e with h3 | h3
      · rw [h3] at h1
        have h2' : g.φ id = some l := by simpa [G.grow, G.lay, e] using h2
        exact (hS.obj id ob l h1 h2').keep x (keep id e)
      · rw [hbig id h3] at h1; cases h1
  · by_cases e : id = tk
    · subst e; rw [htok] at h2; cases h2; exact fun b _ => .inr rfl
    · rcases hget id e with h3 | h3
      · rw [h3] at h2; exact hS.und id ob h2 (by simpa [G.grow, G.lay, e] using hm2)
      · rw [hbig id h3] at h2; cases h2
  · by_cases e : id = tk
    · subst e
      have h1 : (g.grow w.heap.size (n * s) id (.tok (some (w.heap.size, 0)) s cap n)).φ id ≠ none := by simp [G.grow, G.lay]
      refine ⟨fun _ => ?_, fun _ => h1⟩
      rcases hH with ⟨rfl, rfl⟩ | ⟨h, h2, rfl⟩
      · right; simp
      · exact .inl h2
    · have h1 : (g.grow w.heap.size (n * s) tk (.tok (some (w.heap.size, 0)) s cap n)).φ id = g.φ id := by simp [G.grow, G.lay, e]
      rw [h1]
      refine ⟨.inl, fun h => ?_⟩
      rcases h with h | h
      · exact h
      · exfalso
        rcases hH with ⟨rfl, rfl⟩ | ⟨h2, _, rfl⟩
        · simp at h; omega
        · simp at h; omega

end
end Go.E
/- Soundness of E, operation by operation (8): append, whole. Own work. -/
namespace Go.E
section
variable {P : Program} {g : G} {w : World} {bs : List Nat} {H : Heap}

theorem list_cap {es : List V} {s' : Value} (h : VRel g w (.list es) s') : ∃ a cap, s' = .slice a es.length cap ∧ es.length ≤ cap := by
  cases h with
  | listNil => exact ⟨none, 0, rfl, Nat.le_refl _⟩
  | listZ a => exact ⟨_, 0, rfl, Nat.le_refl _⟩
  | list b o cap s es c hlen hpure hs hO hc hr => exact ⟨_, cap, rfl, hlen⟩

theorem append_zero {t u e e2 ty sz L cap : Nat} {a : Option Addr} {x' : Value} {cells : List Value} {a2 : Option Addr} {cap2 : Nat}
    (ht : P.underlying t = some (.slice e)) (hu : P.underlying u = some (.slice e2)) (hsz : sizeT P e = some sz) (hle : L ≤ cap)
    (hx : x' = .slice a2 0 cap2) (hr : (Builtin.firstCells sz 0 x').run P w = .ok cells.toArray w) (hl : cells.length = 0) :
    (Builtin.append_ #[t, u] ty #[.slice a L cap, x']).run P w = .ok (.slice a L cap) w := by
  subst hx
  have hc : cells = [] := List.eq_nil_of_length_eq_zero hl
  subst hc
  cases a <;> simp [Builtin.append_, run_underlying ht, run_sizeT hsz, run_underlying hu, Builtin.lenOf, hle, hr, storeCells]

theorem append_in {t u e e2 ty sz L n cap b o : Nat} {x' : Value} {cells : List Value} {a2 : Option Addr} {cap2 : Nat}
    (ht : P.underlying t = some (.slice e)) (hu : P.underlying u = some (.slice e2)) (hsz : sizeT P e = some sz) (hle : L + n ≤ cap)
    (hx : x' = .slice a2 n cap2) (hr : (Builtin.firstCells sz n x').run P w = .ok cells.toArray w)
    (hc : ∀ j, j < cells.length → (w.cell? ⟨b, o + L * sz + j, none⟩).isSome = true) (hf : ∀ j, j < cells.length → w.frozen? ⟨b, o + L * sz + j, none⟩ = false) (h1 : ∀ v ∈ cells, v.oneCell' = true) :
    (Builtin.append_ #[t, u] ty #[.slice (some ⟨b, o, none⟩) L cap, x']).run P w = .ok (.slice (some ⟨b, o, none⟩) (L + n) cap) (w.setCells b (o + L * sz) cells) := by
  subst hx
  have hst := run_storeCells_cells (P := P) b (o + L * sz) cells 0 w (by simpa using hc) (by simpa using hf) h1
  simp [Builtin.append_, run_underlying ht, run_sizeT hsz, run_underlying hu, Builtin.lenOf, hle, hr, add_plain, hst]

theorem append_rel_pure {sz : Nat} {es new xs : List V} (hnew : takeElems sz xs = some new) (hes : V.pureL es = true) : V.pureL (es ++ new) = true := by
  rw [pureL_append, hes, pureL_mem (fun e he => ((takeElems_spec hnew).2.1 e he).2.1)]; rfl

/-- Behind a growth: the new row as a list. -/
theorem grown_list {g1 : G} {w2 : World} {es new xs : List V} {sz nc : Nat} {cells : Array Value} {B tk : Nat} {l : Loc} {w1 : World} (e : TypeId) (hw2 : w2 = { w1 with heap := w1.heap.push (.cells cells e) }) (hB : B = w1.heap.size)
    (hg : g1 = g.grow B ((es.length + new.length) * sz) tk l) (hx : Ext g w g1 w2) (hes : ∀ (j : Nat) (e : V), es[j]? = some e → e.cells.length = sz) (hp : V.pureL es = true) (hnew : takeElems sz xs = some new)
    (hnc : es.length + new.length ≤ nc) (hsize : cells.size = nc * sz)
    (hr : ∀ (j : Nat) (e : V) (q : Nat) (y : V), (es ++ new)[j]? = some e → e.cells[q]? = some y → ∃ y', cells[j * sz + q]? = some y' ∧ VRel g w y y') :
    VRel g1 w2 (.list (es ++ new)) (.slice (some ⟨B, 0, none⟩) (es.length + new.length) nc) := by
  have hl : (es ++ new).length = es.length + new.length := by simp
  rw [← hl]
  refine list_mk (s := sz) (fun k => cells[k]?.getD Go.undef) (by omega) (fun j e' hj => ?_) (append_rel_pure hnew hp) (fun k hk => ⟨?_, ?_⟩) (fun j e' q y hj hy => ?_)
  · rcases append_get es new j e' hj with ⟨_, h1⟩ | ⟨_, _, h1⟩
    · exact hes j e' h1
    · exact ((takeElems_spec hnew).2.1 e' (List.mem_of_getElem? h1)).1
  · rw [hl] at hk; subst hg; simp [G.grow, G.lay, hk]
  · rw [hl] at hk
    have hk2 : k < cells.size := by
      have : (es.length + new.length) * sz ≤ nc * sz := Nat.mul_le_mul_right sz hnc
      omega
    subst hw2; subst hB
    rw [Nat.zero_add, cell_push_new]; simp [hk2]
  · obtain ⟨y', e1, e2⟩ := hr j e' q y hj hy
    rw [e1]; exact e2.mono hx

theorem tok_obj {id n n' : Nat} {tb : Option (Nat × Nat)} {s cap : Nat} (h : ORel g w id (.tok n) (.tok tb s cap n')) :
    n = n' ∧ (tb = none → n = 0 ∧ cap = 0) ∧ ∀ b o, tb = some (b, o) → n ≤ cap ∧ (n = 0 → cap = 0) ∧
      ∀ k, n * s ≤ k → k < cap * s → g.O b (o + k) = .res id ∧ w.frozen? ⟨b, o + k, none⟩ = false ∧ ∃ v', w.cell? ⟨b, o + k, none⟩ = some v' := by
  cases h with
  | tokNil _ => exact ⟨rfl, fun _ => ⟨rfl, rfl⟩, fun b o h => (by cases h)⟩
  | tok _ b o _ _ hcap h0 h => exact ⟨rfl, fun h => (by cases h), fun b' o' e => (by cases e; exact ⟨hcap, h0, h⟩)⟩

theorem append_sound (hS : Sim bs g H w) {t u e2 ty : Nat} {s x v : V} {s' x' : Value} {H' : Heap} (ha : appendV P t s x H = some (v, H')) (hs : VRel g w s s') (hx : VRel g w x x')
    (hu : P.underlying u = some (.slice e2)) :
    ∃ v' w' g', (Builtin.append_ #[t, u] ty #[s', x']).run P w = .ok v' w' ∧ Out bs g w H g' w' H' ∧ VRel g' w' v v' := by
  unfold appendV at ha
  cases he : elemT P t with
  | none => simp [he] at ha
  | some e =>
  cases hsz : sizeT P e with
  | none => simp [he, hsz] at ha
  | some sz =>
  cases hby : bytesT P e with
  | none => simp [he, hsz, hby] at ha
  | some by_ =>
  cases hz : zeroT P e with
  | none => simp [he, hsz, hby, hz] at ha
  | some z =>
  simp only [he, hsz, hby, hz, Option.bind_some] at ha
  split at ha
  · cases ha
  rename_i hc
  have hc0 : sz ≠ 0 := fun h => hc (.inl h)
  have hb0 : by_ ≠ 0 := fun h => hc (.inr (.inl h))
  have hzl : z.cells.length = sz := Decidable.byContradiction fun h => hc (.inr (.inr (.inl h)))
  have hzc : z.cells.all V.isCell = true := by
    cases h : z.cells.all V.isCell with
    | true => rfl
    | false => exact absurd (.inr (.inr (.inr h))) hc
  cases hxe : elemsV H x with
  | none => simp [hxe] at ha
  | some xs =>
  cases hnew : takeElems sz xs with
  | none => simp [hxe, hnew] at ha
  | some new =>
  simp only [hxe, hnew, Option.bind_some] at ha
  have ht := elem_under he
  obtain ⟨a2, cap2, cx, hx', rx, cxl, crel⟩ := elems_run (P := P) hS hx hxe hnew
  have hnl : new.length = xs.length := (takeElems_spec hnew).1
  have hroomB : roomB = 70368744177664 := rfl
  cases s with
  | nilS =>
    simp only at ha
    cases hs
    split at ha
    · rename_i h0
      cases ha
      have hx0 : xs.length = 0 := by omega
      rw [hx0] at hx' rx cxl
      exact ⟨_, _, _, append_zero ht hu hsz (Nat.le_refl _) hx' rx (by omega), Out.refl hS, .nilS⟩
    · rename_i h0
      split at ha
      · rename_i hroom
        cases ha
        obtain ⟨nc, w1, hnc, hheap, o1, cells, hcs, hrun, hrel⟩ := append_grow (ty := ty) hS (es := []) ht hu hsz hby hz hzl hzc hb0 rfl .listNil (fun j e h => by simp at h) hx hxe hnew (by simpa using hroom) (by simp; omega)
        simp only [List.length_nil, Nat.zero_add, List.nil_append] at hnc hrun hrel
        rw [← hheap] at hrun
        have hcell : ∀ k, k < nc * sz → ∃ v, ({ w1 with heap := w1.heap.push (.cells cells e) } : World).cell? ⟨w1.heap.size, k, none⟩ = some v := fun k hk => by
          rw [cell_push_new]; exact ⟨cells[k]'(by omega), by simp [show k < cells.size by omega]⟩
        have o2 := out_grow o1.sim (.cells cells e) H.length new.length sz nc (fun _ => rfl) (fun _ => rfl) (fun l' hl' => by
          have := o1.sim.dom H.length (by rw [hl']; simp); omega) (H ++ [.tok new.length]) (.inl ⟨rfl, rfl⟩) (by omega) (by omega) hcell (fun k => frozen_push_new cells e k)
        have o := o1.trans o2
        refine ⟨_, _, _, hrun, o, ?_⟩
        refine .tl _ _ _ (some (w1.heap.size, 0)) sz nc new.length ?_ (by simp [G.grow, G.lay]) (Nat.le_refl _) (fun _ => ⟨fun e' he' => ((takeElems_spec hnew).2.1 e' he').1, rfl⟩)
        have := grown_list (es := []) (new := new) (xs := xs) (sz := sz) (nc := nc) e rfl rfl (by simp only [List.length_nil, Nat.zero_add]; rfl) o.ext (fun j e h => by simp at h) rfl hnew (by simpa using hnc) hcs (by simpa using hrel)
        simpa using this
      · cases ha
  | list es =>
    simp only at ha
    split at ha
    · rename_i h0
      cases ha
      obtain ⟨a, cap, rfl, hle⟩ := list_cap hs
      have hx0 : xs.length = 0 := by omega
      rw [hx0] at hx' rx cxl
      exact ⟨_, _, _, append_zero ht hu hsz hle hx' rx (by omega), Out.refl hS, hs⟩
    · cases ha
  | tl tk es =>
    simp only at ha
    cases hH : H[tk]? with
    | none => simp [hH] at ha
    | some ob =>
    cases ob with
    | tok n =>
      simp only [hH] at ha
      split at ha
      case isFalse => cases ha
      rename_i hcond
      obtain ⟨rfl, hroom, hall⟩ := hcond
      cases ha
      obtain ⟨htk, _⟩ := List.getElem?_eq_some_iff.1 hH
      have hes : ∀ (j : Nat) (e : V), es[j]? = some e → e.cells.length = sz := fun j e' hj => by
        have := List.all_eq_true.1 hall e' (List.mem_of_getElem? hj)
        simpa using this
      have hsl := list_of_tl hs
      obtain ⟨a, cap, hs', hle⟩ := list_cap hsl
      have hp : V.pureL es = true := by
        cases hsl with
        | listNil => rfl
        | listZ => rfl
        | list b o cap s es c hlen hpure hs hO hc hr => exact hpure
      by_cases h0 : new.length = 0
      · -- nothing is appended
        have hx0 : xs.length = 0 := by omega
        have hn0 : new = [] := List.eq_nil_of_length_eq_zero h0
        subst hn0
        rw [hx0] at hx' rx cxl
        subst hs'
        refine ⟨_, _, _, append_zero ht hu hsz hle hx' rx (by omega), ?_, by simpa using hs⟩
        have : H.set tk (.tok (es.length + ([] : List V).length)) = H := by
          apply List.ext_getElem?
          intro i
          by_cases e1 : i = tk
          · subst e1; simp [htk]; rw [List.getElem?_eq_some_iff] at hH; exact hH.2.symm
          · rw [List.getElem?_set_ne (Ne.symm e1)]
        rw [this]
        exact Out.refl hS
      · cases hs with
        | tl _ _ _ tbase ts tcap tn h hφ hn hcur =>
          have hob := hS.obj tk _ _ hH hφ
          obtain ⟨htn, hnone, hsome⟩ := tok_obj hob
          subst htn
          obtain ⟨hts, htv⟩ := hcur rfl
          by_cases hroomy : es.length + new.length ≤ cap
          · -- there is room
            rcases htb : tbase with _ | ⟨b, o⟩
            · obtain ⟨h1, h2⟩ := hnone htb
              rw [htb] at htv
              simp [tokVal] at htv
              rw [htv] at hs'
              simp at hs'
              omega
            · obtain ⟨hcap, hz0, hspare⟩ := hsome b o htb
              subst htb
              simp only [tokVal] at htv
              rw [htv] at hs'
              cases hs'
              have hn1 : es.length ≠ 0 := fun h1 => by have := hz0 h1; omega
              have hss : ts = sz := by
                have e1 : es[0]? = some (es[0]'(by omega)) := by simp
                rw [← hts _ (List.mem_of_getElem? e1), hes 0 _ e1]
              subst hss
              subst htv
              have cb : ∀ j, j < cx.length → j + es.length * ts < cap * ts := fun j hj => by
                have : (es.length + xs.length) * ts ≤ cap * ts := Nat.mul_le_mul_right ts (by omega)
                rw [Nat.add_mul] at this; omega
              have spare : ∀ j, j < cx.length → g.O b (o + es.length * ts + j) = .res tk ∧ w.frozen? ⟨b, o + es.length * ts + j, none⟩ = false ∧ ∃ v', w.cell? ⟨b, o + es.length * ts + j, none⟩ = some v' := fun j hj => by
                have := hspare (es.length * ts + j) (by omega) (by have := cb j hj; omega)
                rwa [← Nat.add_assoc] at this
              have cellv : ∀ (k : Nat), k < xs.length * ts → ∃ y, (es ++ new)[es.length + k / ts]? = some y ∧ ∃ u, y.cells[k % ts]? = some u ∧ ∃ u', cx[k]? = some u' ∧ VRel g w u u' ∧ u.isCell = true := fun k hk => by
                have hd : k / ts < new.length := by rw [hnl, Nat.div_lt_iff_lt_mul (by omega)]; exact hk
                have hm : k % ts < ts := Nat.mod_lt _ (by omega)
                have e1 : new[k / ts]? = some new[k / ts] := by simp [hd]
                have h2 := (takeElems_spec hnew).2.1 _ (List.mem_of_getElem? e1)
                have h21 := h2.1
                have e3 : (new[k / ts]).cells[k % ts]? = some ((new[k / ts]).cells[k % ts]'(by omega)) := by simp
                obtain ⟨u', e4, e5⟩ := crel _ _ _ _ e1 e3
                rw [Nat.div_add_mod'] at e4
                refine ⟨_, ?_, _, e3, u', e4, e5, List.all_eq_true.1 h2.2.2 _ (List.mem_of_getElem? e3)⟩
                rw [List.getElem?_append_right (Nat.le_add_right _ _), Nat.add_sub_cancel_left]; exact e1
              have hone : ∀ v ∈ cx, v.oneCell' = true := fun v hv => by
                obtain ⟨k, hk⟩ := List.getElem?_of_mem hv
                obtain ⟨hlt, _⟩ := List.getElem?_eq_some_iff.1 hk
                obtain ⟨_, _, u, _, u', e4, e5, e6⟩ := cellv k (by omega)
                rw [hk] at e4; cases e4
                exact (isCell_one e5 e6).1
              have hrun := append_in (P := P) (ty := ty) (L := es.length) (n := xs.length) (cap := cap) (b := b) (o := o) ht hu hsz (by omega) hx' rx (fun j hj => by obtain ⟨_, _, v, hv⟩ := spare j hj; rw [hv]; rfl) (fun j hj => (spare j hj).2.1) hone
              -- the ghost
              let g' : G := { O := fun b' k => if b' = b ∧ o + es.length * ts ≤ k ∧ k < o + (es.length + new.length) * ts then .imm else g.O b' k, φ := fun i => if i = tk then some (.tok (some (b, o)) ts cap (es.length + new.length)) else g.φ i }
              have hcxl : es.length * ts + cx.length = (es.length + new.length) * ts := by rw [cxl, Nat.add_mul, hnl]
              have own' : ∀ j, j < cx.length → g.O b (o + es.length * ts + j) = .res tk := fun j hj => (spare j hj).1
              have x0 := write_ext (w := w) own'
              have hO : ∀ b' k, g.O b' k ≠ .res tk → g'.O b' k = g.O b' k := fun b' k hk => by
                simp only [g']
                split
                · rename_i h3
                  obtain ⟨rfl, h4, h5⟩ := h3
                  have := own' (k - (o + es.length * ts)) (by omega)
                  rw [show o + es.length * ts + (k - (o + es.length * ts)) = k by omega] at this
                  exact absurd this hk
                · rfl
              have xx : Ext g w g' (w.setCells b (o + es.length * ts) cx) := by
                refine ⟨x0.size, fun b' k hk => ⟨by rw [hO b' k (by rw [hk]; simp)]; exact hk, (x0.imm b' k hk).2⟩, fun i l hl => ?_, fun b' hb hf => ⟨(x0.free b' hb hf).1, fun k => hO b' k (hf k tk)⟩, x0.os, x0.tape, x0.output⟩
                by_cases e1 : i = tk
                · subst e1; rw [hφ] at hl; cases hl
                  refine ⟨.tok (some (b, o)) ts cap (es.length + new.length), by simp [g'], ?_⟩
                  exact (show _ ∧ _ from ⟨by omega, fun h => absurd h (by omega)⟩)
                · exact ⟨l, by simp [g', e1, hl], LocLe.refl _⟩
              have cell'' : ∀ j, j < cx.length → (w.cell? ⟨b, o + es.length * ts + j, none⟩).isSome = true := fun j hj => by obtain ⟨_, _, v, hv⟩ := spare j hj; rw [hv]; rfl
              have keep : ∀ i, i ≠ tk → Keep i g w g' (w.setCells b (o + es.length * ts) cx) := fun i hi => by
                have k0 := write_keep (w := w) own' hi cell''
                exact ⟨fun b' k hk => by rw [hO b' k (by rw [hk]; simp; exact hi)]; exact hk, k0.cell, k0.map⟩
              refine ⟨_, _, g', hrun, ⟨⟨by simpa using hS.bl, hS.srt, fun i hi => ?_, fun b' k hk => ?_, fun i ob l h1 h2 => ?_, fun i ob h2 hm2 => ?_⟩, xx, by simp, fun i => ?_⟩, ?_⟩
              · by_cases e1 : i = tk
                · simp; omega
                · simp [g', e1] at hi; simpa using hS.dom i hi
              · rw [(setCells_heap _ _ _ _).1]
                by_cases h3 : b' = b ∧ o + es.length * ts ≤ k ∧ k < o + (es.length + new.length) * ts
                · obtain ⟨rfl, h4, h5⟩ := h3
                  have := own' (k - (o + es.length * ts)) (by omega)
                  exact hS.old b' _ (by rw [this]; simp)
                · simp [g', h3] at hk; exact hS.old b' k hk
              · by_cases e1 : i = tk
                · subst e1
                  simp [htk] at h1; subst h1
                  simp [g'] at h2; subst h2
                  refine .tok _ _ _ _ _ (by omega) (by omega) (fun k h3 h4 => ?_)
                  obtain ⟨k1, k2, v, k3⟩ := hspare k (by
                    have : es.length * ts ≤ (es.length + new.length) * ts := Nat.mul_le_mul_right ts (by omega)
                    omega) h4
                  refine ⟨by simp only [g']; rw [if_neg (fun h5 => by have := h5.2; omega)]; exact k1, by rw [World.frozen?_setCells]; exact k2, v, ?_⟩
                  rw [World.cell?_setCells_out _ _ _ _ _ (fun _ _ => by simp only; omega)]
                  exact k3
                · rw [List.getElem?_set_ne (Ne.symm e1)] at h1
                  have h2' : g.φ i = some l := by simpa [g', e1] using h2
                  exact (hS.obj i ob l h1 h2').keep xx (keep i e1)
              · by_cases e1 : i = tk
                · subst e1; simp [htk] at h2; subst h2; exact fun b _ => .inr rfl
                · rw [List.getElem?_set_ne (Ne.symm e1)] at h2; exact hS.und i ob h2 (by simpa [g', e1] using hm2)
              · by_cases e1 : i = tk
                · subst e1; simp [g', hφ]
                · simp [g', e1]; omega
              · have hlist : VRel g' (w.setCells b (o + es.length * ts) cx) (.list (es ++ new)) (.slice (some ⟨b, o, none⟩) (es ++ new).length cap) := by
                  cases hsl with
                  | listZ => exact absurd rfl hn1
                  | list _ _ _ s2 _ c hlen hpure hs2 hO2 hc2 hr2 =>
                    have hs2' : s2 = ts := by
                      have e1 : es[0]? = some (es[0]'(by omega)) := by simp
                      rw [← hs2 0 _ e1, hes 0 _ e1]
                    subst hs2'
                    refine list_mk (s := s2) (fun k => if k < es.length * s2 then c (k / s2) (k % s2) else cx[k - es.length * s2]?.getD Go.undef) (by simp; omega) (fun j e' hj => ?_) (append_rel_pure hnew hp) (fun k hk => ⟨?_, ?_⟩) (fun j e' q y hj hy => ?_)
                    · rcases append_get es new j e' hj with ⟨_, h1⟩ | ⟨_, _, h1⟩
                      · exact hes j e' h1
                      · exact ((takeElems_spec hnew).2.1 e' (List.mem_of_getElem? h1)).1
                    · rw [List.length_append] at hk
                      by_cases hk1 : k < es.length * s2
                      · have h1 : k / s2 < es.length := by rw [Nat.div_lt_iff_lt_mul (by omega)]; exact hk1
                        have h2 : k % s2 < s2 := Nat.mod_lt _ (by omega)
                        have := hO2 (k / s2) (k % s2) h1 h2
                        rw [Nat.add_assoc, Nat.div_add_mod'] at this
                        rw [hO b (o + k) (by rw [this]; simp)]; exact this
                      · simp only [g']
                        rw [if_pos ⟨trivial, by omega, by omega⟩]
                    · rw [List.length_append] at hk
                      by_cases hk1 : k < es.length * s2
                      · rw [if_pos hk1]
                        have h1 : k / s2 < es.length := by rw [Nat.div_lt_iff_lt_mul (by omega)]; exact hk1
                        have h2 : k % s2 < s2 := Nat.mod_lt _ (by omega)
                        have := hc2 (k / s2) (k % s2) h1 h2
                        rw [Nat.add_assoc, Nat.div_add_mod'] at this
                        rw [World.cell?_setCells_out _ _ _ _ _ (fun _ _ => by simp only; omega)]
                        exact this
                      · rw [if_neg hk1]
                        have hlt : k - es.length * s2 < cx.length := by omega
                        have := World.cell?_setCells_in b cx (o + es.length * s2) w cell'' (k - es.length * s2) hlt
                        rw [show o + es.length * s2 + (k - es.length * s2) = o + k by omega] at this
                        rw [this]; simp [hlt]
                    · obtain ⟨hq, _⟩ := List.getElem?_eq_some_iff.1 hy
                      rcases append_get es new j e' hj with ⟨hlt, h1⟩ | ⟨hge, hlt, h1⟩
                      · have hq2 : q < s2 := by have := hes j e' h1; omega
                        have hk := at_lt (sz := s2) hlt hq2
                        have e1 : (j * s2 + q) / s2 = j := by rw [Nat.mul_comm, Nat.mul_add_div (by omega), Nat.div_eq_of_lt hq2, Nat.add_zero]
                        have e2 : (j * s2 + q) % s2 = q := by rw [Nat.mul_comm, Nat.mul_add_mod, Nat.mod_eq_of_lt hq2]
                        rw [if_pos hk, e1, e2]
                        exact (hr2 j e' q y h1 hy).mono xx
                      · obtain ⟨y', e1, e2⟩ := crel (j - es.length) e' q y h1 hy
                        have hjs : j * s2 + q = es.length * s2 + ((j - es.length) * s2 + q) := by
                          rw [← Nat.add_assoc, ← Nat.add_mul]; congr 2; omega
                        rw [if_neg (by omega), hjs, Nat.add_sub_cancel_left, e1]
                        exact e2.mono xx
                have hnl2 : (es ++ new).length = es.length + xs.length := by simp [hnl]
                refine .tl _ _ _ (some (b, o)) ts cap (es.length + new.length) (by rw [hnl2] at hlist; exact hlist) (by simp [g']) (by simp) (fun _ => ⟨fun e' he' => ?_, by simp [tokVal, hnl]⟩)
                rcases List.mem_append.1 he' with h1 | h1
                · exact hts e' h1
                · exact ((takeElems_spec hnew).2.1 e' h1).1
          · -- there is none
            obtain ⟨nc, w1, hnc, hheap, o1, cells, hcs, hrun, hrel⟩ := append_grow (ty := ty) hS ht hu hsz hby hz hzl hzc hb0 hs' hsl hes hx hxe hnew hroom (by omega)
            rw [← hheap] at hrun
            have hcell : ∀ k, k < nc * sz → ∃ v, ({ w1 with heap := w1.heap.push (.cells cells e) } : World).cell? ⟨w1.heap.size, k, none⟩ = some v := fun k hk => by
              rw [cell_push_new]; exact ⟨cells[k]'(by omega), by simp [show k < cells.size by omega]⟩
            have o2 := out_grow o1.sim (.cells cells e) tk (es.length + new.length) sz nc (fun h => by rw [hH] at h; cases h) (fun h => by rw [hφ] at h; cases h) (fun l' hl' => by
              rw [hφ] at hl'; cases hl'; exact (show _ ∧ _ from ⟨by omega, fun h => absurd h (by omega)⟩)) (H.set tk (.tok (es.length + new.length))) (.inr ⟨htk, by rw [hφ]; simp, rfl⟩) hnc (by omega) hcell (fun k => frozen_push_new cells e k)
            have o := o1.trans o2
            refine ⟨_, _, _, hrun, o, ?_⟩
            refine .tl _ _ _ (some (w1.heap.size, 0)) sz nc (es.length + new.length) ?_ (by simp [G.grow, G.lay]) (by simp) (fun _ => ⟨fun e' he' => ?_, by simp [tokVal]⟩)
            · exact grown_list (xs := xs) e rfl rfl rfl o.ext hes hp hnew hnc hcs hrel
            · rcases List.mem_append.1 he' with h1 | h1
              · obtain ⟨j, hj⟩ := List.getElem?_of_mem h1; exact hes j e' hj
              · exact ((takeElems_spec hnew).2.1 e' h1).1
    | _ => simp [hH] at ha
  | _ => simp at ha
end
end Go.E
/- Soundness of E, operation by operation (9): maps, min, max, '=='. Own work. -/
namespace Go.E
section
variable {P : Program} {g : G} {w : World} {bs : List Nat} {H : Heap}

theorem findNow_at (d : TypeDesc) (k : Value) : ∀ (l : List MapEntry) (i n : Nat) (e : MapEntry), (∀ (j : Nat) (e : MapEntry), j < i → l[j]? = some e → Instr.sameNow d k e.key = some false) →
    l[i]? = some e → Instr.sameNow d k e.key = some true → Instr.findNow d k l n = some (some (n + i, e.val))
  | [], i, n, e, _, h, _ => by simp at h
  | x :: r, 0, n, e, _, h, ht => by simp at h; subst h; simp [Instr.findNow, ht]
  | x :: r, i + 1, n, e, hb, h, ht => by
    have h0 := hb 0 x (by omega) (by simp)
    simp only [Instr.findNow, h0]
    rw [findNow_at d k r i (n + 1) e (fun j e hj he => hb (j + 1) e (by omega) (by simpa using he)) (by simpa using h) ht]
    congr 3; omega
theorem findNow_no (d : TypeDesc) (k : Value) : ∀ (l : List MapEntry) (n : Nat), (∀ (j : Nat) (e : MapEntry), l[j]? = some e → Instr.sameNow d k e.key = some false) → Instr.findNow d k l n = some none
  | [], n, _ => rfl
  | x :: r, n, hb => by
    have h0 := hb 0 x (by simp)
    simp only [Instr.findNow, h0]
    exact findNow_no d k r (n + 1) (fun j e he => hb (j + 1) e (by simpa using he))

theorem findV_spec (k : V) : ∀ (es : List (V × V)) (r : Option V), findV k es = some r →
    (∃ i kv, es[i]? = some kv ∧ keyEq k kv.1 = some true ∧ r = some kv.2 ∧ (∀ (j : Nat) (x : V × V), j < i → es[j]? = some x → keyEq k x.1 = some false) ∧ ∀ v, putV k v es = es.set i (k, v)) ∨
    (r = none ∧ (∀ (j : Nat) (x : V × V), es[j]? = some x → keyEq k x.1 = some false) ∧ ∀ v, putV k v es = es ++ [(k, v)])
  | [], r, h => by
    simp [findV] at h; subst h
    exact .inr ⟨rfl, fun j x hx => by simp at hx, fun v => rfl⟩
  | (k', v') :: es, r, h => by
    simp only [findV] at h
    cases hk : keyEq k k' with
    | none => simp [hk] at h
    | some b =>
      cases b with
      | true =>
        simp [hk] at h; subst h
        exact .inl ⟨0, (k', v'), rfl, hk, rfl, fun j x hj => by omega, fun v => by simp [putV, hk]⟩
      | false =>
        simp only [hk] at h
        rcases findV_spec k es r h with ⟨i, kv, h1, h2, h3, h4, h5⟩ | ⟨h1, h2, h3⟩
        · refine .inl ⟨i + 1, kv, by simpa using h1, h2, h3, fun j x hj hx => ?_, fun v => by simp [putV, hk, h5 v]⟩
          cases j with
          | zero => simp at hx; subst hx; exact hk
          | succ j => exact h4 j x (by omega) (by simpa using hx)
        · refine .inr ⟨h1, fun j x hx => ?_, fun v => by simp [putV, hk, h3 v]⟩
          cases j with
          | zero => simp at hx; subst hx; exact hk
          | succ j => exact h2 j x (by simpa using hx)

theorem key_same {kt : TypeId} {k k2 : V} {k' k2' : Value} {b : Bool} {d : TypeDesc} (hs : simpleKeyT P kt k = true) (hd : P.underlying kt = some d) (he : keyEq k k2 = some b) (hk : VRel g w k k') (hk2 : VRel g w k2 k2') :
    Instr.sameNow d k' k2' = some b := by
  cases k <;> cases k2 <;> simp only [keyEq] at he <;> (try (cases he; done))
  · cases hk; cases hk2
    unfold simpleKeyT at hs
    rw [hd] at hs
    split at he
    · rename_i hkk; cases he; subst hkk
      cases d <;> simp_all [Instr.sameNow]
    · cases he
  · cases hk; cases hk2
    unfold simpleKeyT at hs
    rw [hd] at hs
    cases he
    cases d <;> simp_all [Instr.sameNow, ba_beq]
  · cases hk; cases hk2
    unfold simpleKeyT at hs
    rw [hd] at hs
    cases he
    cases d <;> simp_all [Instr.sameNow, ba_beq]

theorem checkKey_succ {kt : TypeId} {k : V} {k' : Value} {em : Bool} (n : Nat) (hs : simpleKeyT P kt k = true) (hk : VRel g w k k') (w : World) : (Instr.checkKey em (n + 1) kt k').run P w = .ok () w := by
  unfold simpleKeyT at hs
  cases hu : P.underlying kt with
  | none => simp [hu] at hs
  | some d =>
    rw [hu] at hs
    cases d <;> cases k <;> simp at hs <;> cases hk <;> simp [Instr.checkKey, run_underlying hu]
theorem checkKey_run {kt : TypeId} {k : V} {k' : Value} {em : Bool} (hs : simpleKeyT P kt k = true) (hk : VRel g w k k') (w : World) : (Instr.checkKey em 10000 kt k').run P w = .ok () w :=
  checkKey_succ 9999 hs hk w

/-- What the machine finds. -/
theorem find_run {kt : TypeId} {k : V} {k' : Value} {es : List (V × V)} {es' : Array MapEntry} {r : Option V} (hs : simpleKeyT P kt k = true) (hk : VRel g w k k') (hf : findV k es = some r) (hsz : es'.size = es.length)
    (hr : ∀ (k : Nat) (kv : V × V) (e : MapEntry), es[k]? = some kv → es'[k]? = some e → VRel g w kv.1 e.key ∧ VRel g w kv.2 e.val) :
    (∃ i kv e, es[i]? = some kv ∧ es'[i]? = some e ∧ keyEq k kv.1 = some true ∧ r = some kv.2 ∧ (∀ v, putV k v es = es.set i (k, v)) ∧ ∀ w1, (Instr.findKey kt k' es'.toList).run P w1 = .ok (some (i, e.val)) w1) ∨
    (r = none ∧ (∀ v, putV k v es = es ++ [(k, v)]) ∧ ∀ w1, (Instr.findKey kt k' es'.toList).run P w1 = .ok none w1) := by
  obtain ⟨d, hd⟩ : ∃ d, P.underlying kt = some d := by
    unfold simpleKeyT at hs
    cases hu : P.underlying kt with
    | none => simp [hu] at hs
    | some d => exact ⟨d, rfl⟩
  have at_ : ∀ (j : Nat) (e : MapEntry), es'.toList[j]? = some e → ∃ kv, es[j]? = some kv ∧ VRel g w kv.1 e.key := fun j e hj => by
    obtain ⟨hlt, _⟩ := List.getElem?_eq_some_iff.1 hj
    have hlt2 : j < es.length := by simp at hlt; omega
    have h1 : es[j]? = some es[j] := by simp [hlt2]
    exact ⟨_, h1, (hr j _ e h1 (by simpa using hj)).1⟩
  rcases findV_spec k es r hf with ⟨i, kv, h1, h2, h3, h4, h5⟩ | ⟨h1, h2, h3⟩
  · obtain ⟨hlt, _⟩ := List.getElem?_eq_some_iff.1 h1
    have hlt' : i < es'.size := by omega
    have e1 : es'[i]? = some es'[i] := by simp [hlt']
    have hn := findNow_at d k' es'.toList i 0 es'[i] (fun j e hj he => by
      obtain ⟨x, hx, hxr⟩ := at_ j e he
      exact key_same hs hd (h4 j x hj hx) hk hxr) (by simpa using e1) (key_same hs hd h2 hk (hr i kv _ h1 e1).1)
    refine .inl ⟨i, kv, es'[i], h1, e1, h2, h3, h5, fun w1 => ?_⟩
    simp [Instr.findKey, run_underlying hd, hn]
  · have hn := findNow_no d k' es'.toList 0 (fun j e he => by
      obtain ⟨x, hx, hxr⟩ := at_ j e he
      exact key_same hs hd (h2 j x hx) hk hxr)
    exact .inr ⟨h1, h3, fun w1 => by simp [Instr.findKey, run_underlying hd, hn]⟩

theorem obj_map (hS : Sim bs g H w) {id b : Nat} {es : List (V × V)} (hH : H[id]? = some (.map es)) (hφ : g.φ id = some (.map b)) :
    ∃ es' clock, g.O b 0 = .res id ∧ w.heap[b]? = some (.map es' clock) ∧ es'.size = es.length ∧
      ∀ (k : Nat) (kv : V × V) (e : MapEntry), es[k]? = some kv → es'[k]? = some e → VRel g w kv.1 e.key ∧ VRel g w kv.2 e.val := by
  have h := hS.obj id _ _ hH hφ
  cases h with
  | map _ _ clock es' ho hb hs hr => exact ⟨es', clock, ho, hb, hs, hr⟩

theorem run_getObj_map {b : Nat} {es : Array MapEntry} {c : Nat} (h : w.heap[b]? = some (.map es c)) : (getObj b).run P w = .ok (.map es c) w := by
  simp [getObj, Sem.run, h]
theorem run_setObj_map {b : Nat} {es : Array MapEntry} {c : Nat} {o : Obj} (h : w.heap[b]? = some (.map es c)) : (setObj b o).run P w = .ok () { w with heap := w.heap.setIfInBounds b o } := by
  simp [setObj, Sem.run, h]

theorem tuple2 {a b : V} {a' b' : Value} (h : VRel g w a a') (k : VRel g w b b') : VRel g w (.tuple [a, b]) (.tuple #[a', b']) :=
  .tuple _ _ rfl (fun j v v' h1 h2 => by
    match j with
    | 0 => simp at h1 h2; subst h1; subst h2; exact h
    | 1 => simp at h1 h2; subst h1; subst h2; exact k
    | j + 2 => simp at h1)

theorem lookup_sound (hS : Sim bs g H w) {t : TypeId} {m k v : V} {m' k' : Value} {ok : Bool} (h : lookupV P t m k ok H = some v) (hm : VRel g w m m') (hk : VRel g w k k') :
    ∃ v', (Instr.lookup t m' k' ok).run P w = .ok v' w ∧ VRel g w v v' := by
  unfold lookupV at h
  split at h
  case h_2 => cases h
  rename_i kt et hu
  split at h
  case isFalse => cases h
  rename_i hs
  cases hz : zeroT P et with
  | none => simp [hz] at h
  | some z =>
  obtain ⟨zv, rfl, hzr⟩ := zero_of hz
  have zrel : VRel g w (ofVal zv) zv := ofVal_rel zv
  cases m with
  | nilM =>
    cases hm
    simp [hz] at h
    subst h
    have hck := checkKey_run (P := P) (em := true) hs hk w
    obtain ⟨d, hd⟩ : ∃ d, P.underlying kt = some d := by
      unfold simpleKeyT at hs
      cases hu : P.underlying kt with
      | none => simp [hu] at hs
      | some d => exact ⟨d, rfl⟩
    have hf : ∀ w1, (Instr.findKey kt k' []).run P w1 = .ok none w1 := fun w1 => by simp [Instr.findKey, run_underlying hd, Instr.findNow]
    cases ok
    · exact ⟨zv, by simp [Instr.lookup, run_underlying hu, hck, hf, hzr], zrel⟩
    · exact ⟨.tuple #[zv, .bool false], by simp [Instr.lookup, run_underlying hu, hck, hf, hzr], tuple2 zrel (.bool _)⟩
  | map id =>
    cases hm with
    | map _ b hφ =>
    cases hH : H[id]? with
    | none => simp [hH] at h
    | some ob =>
    cases ob with
    | map es =>
      simp only [hH] at h
      cases hf : findV k es with
      | none => simp [hf] at h
      | some r =>
        simp [hf, hz] at h
        obtain ⟨es', clock, ho, hb, hsz, hr⟩ := obj_map hS hH hφ
        have hck := checkKey_run (P := P) (em := es'.isEmpty) hs hk w
        have hg := run_getObj_map (P := P) hb
        rcases find_run (P := P) hs hk hf hsz hr with ⟨i, kv, e, h1, h2, h3, rfl, h5, h6⟩ | ⟨rfl, h2, h3⟩
        · simp at h
          have hv := (hr i kv e h1 h2).2
          cases ok
          · simp at h; subst h
            exact ⟨e.val, by simp [Instr.lookup, run_underlying hu, hg, hck, h6], hv⟩
          · simp at h; subst h
            exact ⟨.tuple #[e.val, .bool true], by simp [Instr.lookup, run_underlying hu, hg, hck, h6], tuple2 hv (.bool _)⟩
        · simp at h
          cases ok
          · simp at h; subst h
            exact ⟨zv, by simp [Instr.lookup, run_underlying hu, hg, hck, h3, hzr], zrel⟩
          · simp at h; subst h
            exact ⟨.tuple #[zv, .bool false], by simp [Instr.lookup, run_underlying hu, hg, hck, h3, hzr], tuple2 zrel (.bool _)⟩
    | _ => simp [hH] at h
  | _ => simp at h

theorem makeMap_sound (hS : Sim bs g H w) {id : Nat} (hO : Open bs g H id (.map [])) {t : TypeId} : ∃ v' w' g', (Instr.makeMap t none).run P w = .ok v' w' ∧ Lay bs g w H id g' w' ∧ VRel g' w' (.map id) v' := by
  refine ⟨.map (some w.heap.size), { w with heap := w.heap.push (.map #[] 0) }, g.lay w.heap.size (fun _ => .res id) id (some (.map w.heap.size)), rfl, ?_, .map _ _ (by simp [G.lay])⟩
  exact lay_at hS _ _ _ _ hO (.map [] _ 0 #[] (by simp [G.lay]) (by simp) rfl (fun k kv e h => by simp at h))

theorem same_bits {k k2 : V} {k' k2' : Value} (h : keyEq k k2 = some true) (hk : VRel g w k k') (hk2 : VRel g w k2 k2') : Instr.sameBits 10000 k2' k' = true := by
  cases k <;> cases k2 <;> simp only [keyEq] at h <;> (try (cases h; done)) <;> cases hk <;> cases hk2
  · split at h
    · rename_i hkk; subst hkk; simp at h; subst h; simp [Instr.sameBits]
    · cases h
  · simp at h; subst h; simp [Instr.sameBits]
  · simp only [Option.some.injEq, decide_eq_true_eq] at h
    subst h
    simp [Instr.sameBits, ba_beq]

theorem mapUpdate_sound (hS : Sim bs g H w) {t : TypeId} {m k v : V} {m' k' v' : Value} {H' : Heap} (h : mapUpdateV P bs t m k v H = some H') (hm : VRel g w m m') (hk : VRel g w k k') (hv : VRel g w v v') :
    ∃ w', (Instr.mapUpdate t m' k' v').run P w = .ok () w' ∧ Out bs g w H g w' H' := by
  unfold mapUpdateV at h
  split at h
  case h_2 => cases h
  rename_i kt et hu
  split at h
  case isFalse => cases h
  rename_i hs
  cases m with
  | map id =>
    cases hm with
    | map _ b hφ =>
    cases hH : H[id]? with
    | none => simp [hH] at h
    | some ob =>
    cases ob with
    | map es =>
      simp only [hH] at h
      cases hf : findV k es with
      | none => simp [hf] at h
      | some r =>
        simp only [hf, Option.bind_some] at h
        split at h
        case isFalse => cases h
        rename_i hund
        cases h
        obtain ⟨es', clock, ho, hb, hsz, hr⟩ := obj_map hS hH hφ
        obtain ⟨hid, _⟩ := List.getElem?_eq_some_iff.1 hH
        obtain ⟨hbl, _⟩ := Array.getElem?_eq_some_iff.1 hb
        have hck := checkKey_run (P := P) (em := false) hs hk w
        have hg := run_getObj_map (P := P) hb
        -- one frame for both ways
        have fin : ∀ (es2 : Array MapEntry) (c2 : Nat) (new : List (V × V)), es2.size = new.length → putV k v es = new →
            (∀ (q : Nat) (kv : V × V) (e : MapEntry), new[q]? = some kv → es2[q]? = some e → VRel g w kv.1 e.key ∧ VRel g w kv.2 e.val) →
            (∀ kv ∈ new, kv ∈ es ∨ kv = (k, v)) →
            Out bs g w H g { w with heap := w.heap.setIfInBounds b (.map es2 c2) } (H.set id (.map (putV k v es))) := by
          intro es2 c2 new hl hput hrel hmem
          have hcell : ∀ (b' q : Nat), ({ w with heap := w.heap.setIfInBounds b (.map es2 c2) } : World).cell? ⟨b', q, none⟩ = w.cell? ⟨b', q, none⟩ := fun b' q => by
            unfold World.cell?
            by_cases e1 : b' = b
            · have e2 : (w.heap.setIfInBounds b (.map es2 c2))[b]? = some (.map es2 c2) := by simp [hbl]
              subst e1; simp only [e2, hb]
            · simp [Array.getElem?_setIfInBounds_ne (Ne.symm e1)]
          have hfro : ∀ (b' q : Nat), ({ w with heap := w.heap.setIfInBounds b (.map es2 c2) } : World).frozen? ⟨b', q, none⟩ = w.frozen? ⟨b', q, none⟩ := fun b' q => by
            unfold World.frozen?
            by_cases e1 : b' = b
            · have e2 : (w.heap.setIfInBounds b (.map es2 c2))[b]? = some (.map es2 c2) := by simp [hbl]
              subst e1; simp only [e2, hb]
            · simp [Array.getElem?_setIfInBounds_ne (Ne.symm e1)]
          have x : Ext g w g { w with heap := w.heap.setIfInBounds b (.map es2 c2) } :=
            ⟨by simp, fun b' q hq => ⟨hq, hcell b' q⟩, fun _ l h => ⟨l, h, LocLe.refl l⟩, fun b' hb' hfr => ⟨by
              have : b ≠ b' := fun e1 => by subst e1; exact hfr 0 id ho
              simp [Array.getElem?_setIfInBounds_ne this], fun _ => rfl⟩, rfl, rfl, rfl⟩
          refine ⟨⟨by simpa using hS.bl, hS.srt, fun i hi => by simpa using hS.dom i hi, fun b' q hq => by simpa using hS.old b' q hq, fun i ob l h1 h2 => ?_, fun i ob h2 hm2 => ?_⟩, x, by simp, fun i => by simp; omega⟩
          · by_cases e1 : i = id
            · subst e1
              simp [hid] at h1; subst h1
              rw [hφ] at h2; cases h2
              rw [hput]
              exact .map _ _ c2 es2 ho (by simp [hbl]) hl (fun q kv e h3 h4 => ⟨(hrel q kv e h3 h4).1.mono x, (hrel q kv e h3 h4).2.mono x⟩)
            · rw [List.getElem?_set_ne (Ne.symm e1)] at h1
              refine (hS.obj i ob l h1 h2).keep x ⟨fun _ _ h => h, fun b' q _ => ⟨hcell b' q, hfro b' q⟩, fun b' es3 c3 h3 h4 => ?_⟩
              have : b ≠ b' := fun e2 => by subst e2; rw [ho] at h3; cases h3; exact e1 rfl
              simp [Array.getElem?_setIfInBounds_ne this, h4]
          · by_cases e1 : i = id
            · subst e1
              simp [hid] at h2; subst h2
              intro b2 hb2
              rcases okStore_at hS.srt hund b2 hb2 with h4 | h4
              · exact .inl h4
              · rcases hS.und i _ hH hm2 b2 hb2 with h3 | h3
                · exact .inl h3
                · have h5 : k.under b2 = true := by
                    cases k <;> first | rfl | simp [simpleKeyT] at hs
                  refine .inr ?_
                  simp only [objUnder] at h3 ⊢
                  rw [hput]
                  refine List.all_eq_true.2 (fun kv hkv => ?_)
                  rcases hmem kv hkv with h6 | rfl
                  · exact List.all_eq_true.1 h3 kv h6
                  · simp [h4, h5]
            · rw [List.getElem?_set_ne (Ne.symm e1)] at h2
              exact hS.und i ob h2 hm2
        rcases find_run (P := P) hs hk hf hsz hr with ⟨i, kv, e, h1, h2, h3, rfl, h5, h6⟩ | ⟨rfl, h2, h3⟩
        · obtain ⟨hi, _⟩ := List.getElem?_eq_some_iff.1 h1
          have hsb := same_bits h3 hk (hr i kv e h1 h2).1
          refine ⟨_, ?_, fin (es'.modify i fun x => { x with key := k', val := v' }) clock (es.set i (k, v)) (by simp [hsz]) (h5 v) (fun q kv2 e2 hq he2 => ?_) (fun kv2 h => ?_)⟩
          · simp [Instr.mapUpdate, run_underlying hu, hg, hck, h6, Instr.keyThatStays, h2, hsb, run_setObj_map (P := P) hb]
          · by_cases e1 : q = i
            · subst e1
              simp [hi] at hq; subst hq
              have h2' : es'[q]? = some e := h2
              rw [Array.getElem?_modify] at he2
              simp [h2'] at he2
              subst he2
              exact ⟨hk, hv⟩
            · rw [List.getElem?_set_ne (Ne.symm e1)] at hq
              rw [Array.getElem?_modify, if_neg (Ne.symm e1)] at he2
              exact hr q kv2 e2 hq he2
          · rcases List.mem_or_eq_of_mem_set h with h | h
            · exact .inl h
            · exact .inr h
        · refine ⟨_, ?_, fin (es'.push { key := k', val := v', born := clock }) (clock + 1) (es ++ [(k, v)]) (by simp [hsz]) (h2 v) (fun q kv2 e2 hq he2 => ?_) (fun kv2 h => ?_)⟩
          · simp [Instr.mapUpdate, run_underlying hu, hg, hck, h3, run_setObj_map (P := P) hb]
          · by_cases e1 : q < es.length
            · rw [List.getElem?_append_left e1] at hq
              rw [Array.getElem?_push, if_neg (by omega)] at he2
              exact hr q kv2 e2 hq he2
            · rw [List.getElem?_append_right (by omega)] at hq
              obtain ⟨h4, h7⟩ := List.getElem?_eq_some_iff.1 hq
              have hq0 : q = es.length := by simp at h4; omega
              subst hq0
              simp at h7; subst h7
              rw [Array.getElem?_push, if_pos (by omega)] at he2
              cases he2
              exact ⟨hk, hv⟩
          · rcases List.mem_append.1 h with h | h
            · exact .inl h
            · exact .inr (by simpa using h)
    | _ => simp [hH] at h
  | _ => simp at h
end
end Go.E
/- Soundness of E, operation by operation (10): '==', operators whole, min, max. Own work. -/
namespace Go.E
section
variable {P : Program} {g : G} {w : World} {bs : List Nat} {H : Heap}

def eqBody (P : Program) (d : Nat) (xs ys : List V) (f : Field) (r : Option Bool) : Option Bool :=
  if f.name = "_" then none else
  (partV P f.type xs f.offset).bind fun a => (partV P f.type ys f.offset).bind fun b => (eqT P d f.type a b).bind fun e => if e then r else some false

theorem eqT_sound : ∀ (d D : Nat) (t : TypeId) (x y : V) (x' y' : Value) (b : Bool), eqT P d t x y = some b → d ≤ D → VRel g w x x' → VRel g w y y' →
    (Op.equalIn D t x' y').run P w = .ok b w
  | 0, _, _, _, _, _, _, _, h, _, _, _ => by simp [eqT] at h
  | d + 1, D, t, x, y, x', y', b, h, hD, hx, hy => by
    obtain ⟨D, rfl⟩ : ∃ m, D = m + 1 := ⟨D - 1, by omega⟩
    unfold eqT at h
    split at h
    · rename_i a c hu; cases h; cases hx; cases hy; simp [Op.equalIn, run_underlying hu]
    · rename_i q k a k' c hu
      cases hx; cases hy
      split at h
      · rename_i hk; cases h; simp [Op.equalIn, run_underlying hu, hk]
      · cases h
    · rename_i a c hu; cases h; cases hx; cases hy
      simp [Op.equalIn, run_underlying hu, ba_beq]
    · rename_i fs xs ys hu
      cases hx with
      | agg _ vx hsx hrx =>
      cases hy with
      | agg _ vy hsy hry =>
      split at h
      · cases h
      · rename_i hst
        have key : ∀ (l : List Field) (b : Bool), l.foldr (fun f r => eqBody P d xs ys f r) (some true) = some b →
            (forIn l ((none, ()) : Option Bool × PUnit) fun f _ =>
              (if f.name ≠ "_" then do
                let p ← part f.type vx f.offset
                let q ← part f.type vy f.offset
                let e ← Op.equalIn D f.type p q
                if (!e) = true then pure (ForInStep.done (some false, ()))
                else pure (ForInStep.yield (none, ()))
              else pure (ForInStep.yield (none, ())) : Sem (ForInStep (Option Bool × PUnit)))).run P w = .ok (if b then (none, ()) else (some false, ())) w := by
          intro l
          induction l with
          | nil => intro b hb; simp at hb; subst hb; simp
          | cons f l ih =>
            intro b hb
            simp only [List.foldr_cons] at hb
            unfold eqBody at hb
            split at hb
            · cases hb
            · rename_i hn
              cases h1 : partV P f.type xs f.offset with
              | none => simp [h1] at hb
              | some p =>
              cases h2 : partV P f.type ys f.offset with
              | none => simp [h1, h2] at hb
              | some q =>
              cases h3 : eqT P d f.type p q with
              | none => simp [h1, h2, h3] at hb
              | some e =>
                simp only [h1, h2, h3, Option.bind_some] at hb
                obtain ⟨p', r1, r2⟩ := part_agg (w := w) h1 hsx hrx
                obtain ⟨q', r3, r4⟩ := part_agg (w := w) h2 hsy hry
                have r5 := eqT_sound d D f.type p q p' q' e h3 (by omega) r2 r4
                cases e with
                | true =>
                  simp only [if_true] at hb
                  have := ih b hb
                  simp [List.forIn_cons, hn, r1, r3, r5]
                  simpa using this
                | false =>
                  simp at hb; subst hb
                  simp [List.forIn_cons, hn, r1, r3, r5]
        have hb : fs.toList.foldr (fun f r => eqBody P d xs ys f r) (some true) = some b := h
        have := key fs.toList b hb
        simp only [Op.equalIn, Sem.run_bind, run_underlying hu, Result.andThen_ok, run_program, hst, ← Array.forIn_toList]
        simp only [Bool.false_eq_true, if_false]
        rw [Sem.run_bind, this]
        cases b <;> simp
    · cases h

theorem list_notnil {e : V} {es : List V} {v' : Value} (h : VRel g w (.list (e :: es)) v') : ∃ a n c, v' = .slice (some a) n c := by
  cases h with
  | list b o cap s _ c hlen hpure hs hO hc hr => exact ⟨_, _, _, rfl⟩

theorem eqIn_bool {t : TypeId} {a c : Bool} (n : Nat) (hu : P.underlying t = some .bool) : (Op.equalIn (n + 1) t (.bool a) (.bool c)).run P w = .ok (a == c) w := by
  simp [Op.equalIn, run_underlying hu]
theorem eqIn_nil {t e : TypeId} {b : Option Addr} {m c : Nat} (n : Nat) (hu : P.underlying t = some (.slice e)) : (Op.equalIn (n + 1) t (.slice none 0 0) (.slice b m c)).run P w = .ok b.isNone w := by
  simp [Op.equalIn, run_underlying hu]
theorem eqIn_nil2 {t e : TypeId} {a : Addr} {m c : Nat} (n : Nat) (hu : P.underlying t = some (.slice e)) : (Op.equalIn (n + 1) t (.slice (some a) m c) (.slice none 0 0)).run P w = .ok false w := by
  simp [Op.equalIn, run_underlying hu]

/-- What an equality of values that are no numbers and no strings comes to. -/
structure EqRuns (P : Program) (w : World) (t : TypeId) (x' y' : Value) (b : Bool) : Prop where
  eq : (Op.equal t x' y').run P w = .ok b w
  guard : ∀ op ox oy, (eqGuard op t ox oy x' y').run P w = .ok () w
  e1 : binOp .eql t x' y' = (do pure (.bool (← Op.equal t x' y')))
  e2 : binOp .neq t x' y' = (do pure (.bool (!(← Op.equal t x' y'))))

theorem eql_sound {t : TypeId} {x y : V} {x' y' : Value} {b : Bool} (h : eqlOp P t x y = some b) (hx : VRel g w x x') (hy : VRel g w y y') : EqRuns P w t x' y' b := by
  have sl : ∀ (e : V) (es : List V) (s : Value), VRel g w (.list (e :: es)) s → ∀ d, P.underlying t = some (.slice d) → EqRuns P w t (.slice none 0 0) s false ∧ EqRuns P w t s (.slice none 0 0) false := by
    intro e es s hs d hu
    obtain ⟨a, n, c, rfl⟩ := list_notnil hs
    exact ⟨⟨by exact eqIn_nil 9999 hu, fun op ox oy => by unfold eqGuard; split <;> simp, rfl, rfl⟩, ⟨by exact eqIn_nil2 9999 hu, fun op ox oy => by unfold eqGuard; split <;> simp, rfl, rfl⟩⟩
  unfold eqlOp at h
  split at h
  · rename_i a c
    cases hx; cases hy
    split at h
    · rename_i hu; cases h
      exact ⟨by exact eqIn_bool 9999 hu, fun op ox oy => by unfold eqGuard; split <;> simp, rfl, rfl⟩
    · cases h
  · cases hx; cases hy
    split at h
    · rename_i e hu; cases h
      exact ⟨by exact eqIn_nil 9999 hu, fun op ox oy => by unfold eqGuard; split <;> simp, rfl, rfl⟩
    · cases h
  · cases hx
    split at h
    · rename_i e hu; cases h; exact (sl _ _ _ hy e hu).1
    · cases h
  · cases hx
    split at h
    · rename_i e hu; cases h; exact (sl _ _ _ (list_of_tl hy) e hu).1
    · cases h
  · cases hy
    split at h
    · rename_i e hu; cases h; exact (sl _ _ _ hx e hu).2
    · cases h
  · cases hy
    split at h
    · rename_i e hu; cases h; exact (sl _ _ _ (list_of_tl hx) e hu).2
    · cases h
  · split at h
    · cases h
    · rename_i hg
      have h1 := eqT_sound 100 Op.maxDepth t _ _ x' y' b h (by decide) hx hy
      cases hx; cases hy
      refine ⟨h1, fun op ox oy => ?_, rfl, rfl⟩
      unfold eqGuard
      split <;> first | (simp; done) | (simp; exact fun h => absurd h hg)
  · cases h

theorem binOp_sound {op : BinOp} {t : TypeId} {x y v : V} {x' y' : Value} (h : binOpV P op t x y = some v) (hx : VRel g w x x') (hy : VRel g w y y') (ox oy : Operand) :
    ∃ v', (do eqGuard op t ox oy x' y'; binOp op t x' y' : Sem Value).run P w = .ok v' w ∧ VRel g w v v' := by
  unfold binOpV at h
  split at h
  · rename_i k a k' b
    cases hx; cases hy
    obtain ⟨v', h1, h2⟩ := shiftOp_sound (P := P) (g := g) (w := w) (k' := k') h
    exact ⟨v', by simp [eqGuard, binOp, h1], h2⟩
  · rename_i k a k' b
    cases hx; cases hy
    obtain ⟨v', h1, h2⟩ := shiftOp_sound (P := P) (g := g) (w := w) (k' := k') h
    exact ⟨v', by simp [eqGuard, binOp, h1], h2⟩
  · rename_i k a k' b _ _
    cases hx; cases hy
    split at h
    · rename_i hk
      subst hk
      obtain ⟨v', h1, h2⟩ := intOp_sound (P := P) (g := g) (w := w) h t
      refine ⟨v', ?_, h2⟩
      have : (eqGuard op t ox oy (.int k a) (.int k b)).run P w = .ok () w := by unfold eqGuard; split <;> simp
      simp [this, h1]
    · cases h
  · rename_i a b
    cases hx; cases hy
    obtain ⟨v', h1, h2⟩ := strOp_sound (P := P) (g := g) (w := w) h
    refine ⟨v', ?_, h2⟩
    have h3 : (eqGuard op t ox oy (.string a) (.string b)).run P w = .ok () w := by unfold eqGuard; split <;> simp
    have h4 : binOp op t (.string a) (.string b) = Op.stringOp op a b := by cases op <;> rfl
    simp [h3, h4, h1]
  · cases he : eqlOp P t x y with
    | none => simp [he] at h
    | some b =>
      simp [he] at h; subst h
      have r := eql_sound he hx hy
      exact ⟨.bool b, by simp [r.guard, r.e1, r.eq], .bool _⟩
  · cases he : eqlOp P t x y with
    | none => simp [he] at h
    | some b =>
      simp [he] at h; subst h
      have r := eql_sound he hx hy
      exact ⟨.bool !b, by simp [r.guard, r.e2, r.eq], .bool _⟩
  · cases h

/-! ### min, max -/
theorem minmax_sound : ∀ (l : List V) (l' : List Value) (isMax : Bool) (v : V), minmax isMax l = some v → l.length = l'.length → (∀ (j : Nat) (x : V) (x' : Value), l[j]? = some x → l'[j]? = some x' → VRel g w x x') →
    ∃ v', (match l' with | [] => (stuck "" : Sem Value) | x :: r => r.foldlM (if isMax then Builtin.max2 else Builtin.min2) x).run P w = .ok v' w ∧ VRel g w v v'
  | [], _, _, _, h, _, _ => by simp [minmax] at h
  | [x], l', isMax, v, h, hl, hr => by
    match l', hl with
    | [x'], _ =>
      have h0 := hr 0 x x' rfl rfl
      unfold minmax at h
      split at h
      · cases h; exact ⟨x', by simp, h0⟩
      · cases h
  | x :: y :: r, l', isMax, v, h, hl, hr => by
    match l', hl with
    | x' :: y' :: r', hl =>
      have h0 := hr 0 x x' rfl rfl
      have h1 := hr 1 y y' rfl rfl
      have hxy : (∃ k a, x = .int k a) ∧ ∃ k b, y = .int k b := by
        unfold minmax at h
        cases x <;> cases y <;> first | (simp at h; done) | exact ⟨⟨_, _, rfl⟩, _, _, rfl⟩
      obtain ⟨⟨k, a, rfl⟩, k', b, rfl⟩ := hxy
      rw [minmax] at h
      cases h0; cases h1
      have ih := minmax_sound (.int k (if isMax then (if a < b then b else a) else (if b < a then b else a)) :: r) (.int k (if isMax then (if a < b then b else a) else (if b < a then b else a)) :: r') isMax v h (by simp at hl ⊢; omega) (fun j u u' hu hu' => by
        cases j with
        | zero => simp at hu hu'; subst hu; subst hu'; exact .int _ _
        | succ j => exact hr (j + 2) u u' (by simpa using hu) (by simpa using hu'))
      obtain ⟨v', e1, e2⟩ := ih
      refine ⟨v', ?_, e2⟩
      simp only [List.foldlM_cons]
      cases isMax
      · simpa [Builtin.min2] using e1
      · simpa [Builtin.max2] using e1
termination_by l => l.length
end
end Go.E
