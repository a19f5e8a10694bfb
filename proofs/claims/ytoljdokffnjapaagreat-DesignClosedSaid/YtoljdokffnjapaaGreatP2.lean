/- Functions that are ranged over and do work of their own: what stands behind a round. Own work. -/
import Derived.Test.YtoljdokffnjapaaGreatP1
import Derived.OpenShut
import Derived.Below
import Derived.KernelRfl
import Derived.LoopNIn
set_option linter.all false
namespace Go.E
def G.all (w : World) : G := { O := fun b _ => if b < w.heap.size then .imm else .none, φ := fun _ => none }
def FieldsT (R : TypeId → List V → Prop) : List Field → List V → Prop
 | [], xs => xs = []
 | f :: r, xs => ∃ a b, xs = a ++ b ∧ R f.type a ∧ FieldsT R r b
def isRow : Option TypeDesc → Bool
 | some (.struct _) | some (.array _ _) => true
 | _ => false
def CellsT (P : Program) : Nat → TypeId → List V → Prop
 | 0, _, _ => False
 | n + 1, t, xs =>
  match P.underlying t with
  | some .bool => ∃ b, xs = [.bool b]
  | some (.int k) => ∃ i, xs = [.int k i] ∧ (Lit.int k i).wf = true
  | some .string => ∃ s : ByteArray, xs = [.str s] ∧ s.size ≤ maxLen
  | some (.slice e) => ∃ es, xs = [.list es] ∧ es.length ≤ maxLen ∧ ∀ el ∈ es, CellsT P n e el.cells ∧ (if isRow (P.underlying e) then el = .agg el.cells else el.cells = [el])
  | some (.struct fs) => FieldsT (CellsT P n) fs.toList xs
  | some (.array m e) => ∃ parts : List (List V), parts.length = m ∧ xs = parts.flatten ∧ ∀ p ∈ parts, CellsT P n e p
  | _ => False
def tiles (P : Program) : List Field → Nat → Nat → Bool
 | [], o, m => o == m
 | f :: r, o, m => f.offset == o && tiles P r (o + P.cellsOf f.type) m
def plainT (P : Program) : Nat → TypeId → Bool
 | 0, _ => false
 | n + 1, t =>
  match P.underlying t with
  | some .bool | some (.int _) | some .string => P.cellsOf t == 1
  | some (.slice e) => P.cellsOf t == 1 && decide (0 < P.cellsOf e) && plainT P n e
  | some (.struct fs) => tiles P fs.toList 0 (P.cellsOf t) && fs.toList.all fun f => plainT P n f.type
  | some (.array m e) => P.cellsOf t == m * P.cellsOf e && plainT P n e
  | _ => false
theorem uI {a b : List V} (ha : V.pureL a = true) (hb : V.pureL b = true) : V.pureL (a ++ b) = true := by rw [mJ, ha, hb]; rfl
theorem kU (P : Program) : ∀ (n : Nat) (t : TypeId) (xs : List V), CellsT P n t xs → V.pureL xs = true
 | 0, _, _, h => h.elim
 | n + 1, t, xs, h => by
  unfold CellsT at h
  split at h
  ·obtain ⟨b, rfl⟩ := h; rfl
  ·obtain ⟨i, rfl, _⟩ := h; rfl
  ·obtain ⟨s, rfl, _⟩ := h; rfl
  ·obtain ⟨es, rfl, _, h2⟩ := h
   have : V.pureL es = true := kW (fun el hel => by
    obtain ⟨h3, h4⟩ := h2 el hel
    have h5 := kU P n _ _ h3
    split at h4
    ·rw [h4]; simpa [V.pure] using h5
    ·rw [h4] at h5; simpa [V.pureL] using h5)
   simp [V.pureL, V.pure, this]
  ·rename_i fs _
   generalize fs.toList = l at h
   induction l generalizing xs with
   | nil => obtain rfl := h; rfl
   | cons f r ih =>
    obtain ⟨a, b, rfl, h1, h2⟩ := h
    exact uI (kU P n _ _ h1) (ih _ h2)
  ·rename_i m e _
   obtain ⟨parts, _, rfl, h2⟩ := h
   have key : ∀ parts : List (List V), (∀ p ∈ parts, CellsT P n e p) → V.pureL parts.flatten = true := by
    intro parts
    induction parts with
    | nil => intro _; rfl
    | cons p r ih =>
     intro h2
     simp only [List.flatten_cons]
     exact uI (kU P n _ _ (h2 p (by simp))) (ih (fun q hq => h2 q (by simp [hq])))
   exact key parts h2
  ·exact h.elim
theorem mh (P : Program) : ∀ (n : Nat) (t : TypeId) (xs : List V), plainT P n t = true → CellsT P n t xs → xs.length = P.cellsOf t
 | 0, _, _, _, h => h.elim
 | n + 1, t, xs, hp, h => by
  unfold CellsT at h
  unfold plainT at hp
  split at h <;> rename_i hu <;> simp only [hu] at hp
  ·obtain ⟨b, rfl⟩ := h; simp at hp; simp [hp]
  ·obtain ⟨i, rfl, _⟩ := h; simp at hp; simp [hp]
  ·obtain ⟨s, rfl, _⟩ := h; simp at hp; simp [hp]
  ·obtain ⟨es, rfl, _⟩ := h; simp at hp; simp [hp]
  ·rename_i fs
   simp only [Bool.and_eq_true] at hp
   obtain ⟨hp1, hp2⟩ := hp
   generalize P.cellsOf t = m at hp1
   have key : ∀ (l : List Field) (o : Nat) (xs : List V), tiles P l o m = true → (l.all fun f => plainT P n f.type) = true → FieldsT (CellsT P n) l xs → o + xs.length = m := by
    intro l
    induction l with
    | nil => intro o xs h1 _ h3; obtain rfl := h3; simpa [tiles] using h1
    | cons f r ih =>
     intro o xs h1 h2 h3
     obtain ⟨a, b, rfl, h4, h5⟩ := h3
     simp only [tiles, Bool.and_eq_true, beq_iff_eq] at h1
     simp only [List.all_cons, Bool.and_eq_true] at h2
     have := ih _ b h1.2 h2.2 h5
     have := mh P n _ _ h2.1 h4
     simp; omega
   have := key fs.toList 0 xs hp1 hp2 h
   omega
  ·rename_i m e
   obtain ⟨parts, rfl, rfl, h2⟩ := h
   simp only [Bool.and_eq_true, beq_iff_eq] at hp
   rw [hp.1]
   have key : ∀ parts : List (List V), (∀ p ∈ parts, CellsT P n e p) → parts.flatten.length = parts.length * P.cellsOf e := by
    intro parts
    induction parts with
    | nil => intro _; simp
    | cons p r ih =>
     intro h2
     have h3 := ih (fun q hq => h2 q (by simp [hq]))
     have h4 := mh P n _ _ hp.2 (h2 p (by simp))
     simp only [List.flatten_cons, List.length_append, List.length_cons, h3, h4]
     rw [Nat.add_mul]; omega
   exact key parts h2
  ·exact h.elim
theorem rL {α : Type} (R : Nat → α → Prop) : ∀ (n : Nat), (∀ i, i < n → ∃ x, R i x) → ∃ l : List α, l.length = n ∧ ∀ i x, l[i]? = some x → R i x
 | 0, _ => ⟨[], rfl, by simp⟩
 | n + 1, h => by
  obtain ⟨l, h1, h2⟩ := rL R n (fun i hi => h i (by omega))
  obtain ⟨x, hx⟩ := h n (by omega)
  refine ⟨l ++ [x], by simp [h1], fun i y hy => ?_⟩
  by_cases hi : i < n
  ·rw [List.getElem?_append_left (by omega)] at hy; exact h2 i y hy
  ·rw [List.getElem?_append_right (by omega)] at hy
   obtain ⟨h3, _⟩ := List.getElem?_eq_some_iff.1 hy
   have : i = n := by simp at h3; omega
   subst this
   simp [h1] at hy; subst hy; exact hx
theorem uJ {w : World} {base n : Nat} {a : Addr} {cs : List Value} (h : w.cells? base a n = some cs) : cs.length = n ∧ ∀ i, i < n → w.cell? (a.add i) = cs[i]? := by
 unfold World.cells? at h
 split at h
 ·obtain ⟨h1, h2, h3⟩ := ia h
  refine ⟨by simpa using h1, fun i hi => ?_⟩
  obtain ⟨b, hb1, hb2⟩ := h3 i i (by simp [hi])
  rw [hb1, hb2]
 ·cases h
theorem Bz {w : World} {b o : Nat} {v : Value} (h : w.cell? ⟨b, o, none⟩ = some v) : (G.all w).O b o = .imm := by
 have : b < w.heap.size := by
  unfold World.cell? at h
  cases hb : w.heap[b]? with
  | none => simp [hb] at h
  | some x => exact (Array.getElem?_eq_some_iff.1 hb).1
 simp [G.all, this]
def RowV (w : World) (xs : List V) (cs : List Value) : Prop := xs.length = cs.length ∧ ∀ (k : Nat) (x : V) (c : Value), xs[k]? = some x → cs[k]? = some c → VRel (G.all w) w x c
theorem RowV.app {w : World} {xs ys : List V} {cs ds : List Value} (h : RowV w xs cs) (k : RowV w ys ds) : RowV w (xs ++ ys) (cs ++ ds) := by
 refine ⟨by simp [h.1, k.1], fun i x c hx hc => ?_⟩
 by_cases hi : i < xs.length
 ·rw [List.getElem?_append_left hi] at hx
  rw [List.getElem?_append_left (by rw [← h.1]; exact hi)] at hc
  exact h.2 i x c hx hc
 ·rw [List.getElem?_append_right (by omega)] at hx
  rw [List.getElem?_append_right (by rw [← h.1]; omega), ← h.1] at hc
  exact k.2 _ x c hx hc
section
variable {H : Type} {enc : TypeId × Value → H} {P : Program} {w : World}
theorem mB {x : V} {c : Value} (h : VRel (G.all w) w x c) : RowV w [x] [c] := ⟨rfl, fun k y d hy hd => by
 cases k with
 | zero => simp at hy hd; subst hy; subst hd; exact h
 | succ k => simp at hy⟩
theorem mi : ∀ (fuel n : Nat) (t : TypeId) (cs : List Value) (x : DataW H × List MemPlace), DataW.trod enc P w 0 (fun _ => true) true fuel t cs = some x → plainT P n t = true →
  ∃ xs, CellsT P n t xs ∧ RowV w xs cs
 | 0, _, _, _, _, h, _ => by simp [DataW.trod] at h
 | _ + 1, 0, _, _, _, _, hp => by simp [plainT] at hp
 | fuel + 1, n + 1, t, cs, x, h, hp => by
  have ih := mi fuel n
  unfold plainT at hp
  unfold CellsT
  split at hp <;> rename_i hu
  ·have key : ∃ b, cs = [.bool b] := by
    unfold DataW.trod at h
    rw [hu] at h
    clear ih hp
    split at h <;> simp_all
   obtain ⟨b, rfl⟩ := key
   exact ⟨[.bool b], ⟨_, rfl⟩, mB (.bool _)⟩
  ·rename_i k
   have key : ∃ i, cs = [.int k i] ∧ (Lit.int k i).wf = true := by
    unfold DataW.trod at h
    rw [hu] at h
    clear ih hp
    split at h <;> simp_all
   obtain ⟨i, rfl, hi⟩ := key
   exact ⟨[.int k i], ⟨_, rfl, hi⟩, mB (.int _ _)⟩
  ·have key : ∃ b : ByteArray, cs = [.string b] ∧ b.size ≤ maxLen := by
    unfold DataW.trod at h
    rw [hu] at h
    clear ih hp
    split at h <;> simp_all
   obtain ⟨b, rfl, hb⟩ := key
   exact ⟨[.str b], ⟨_, rfl, hb⟩, mB (.str _)⟩
  ·rename_i e
   simp only [Bool.and_eq_true, decide_eq_true_eq, beq_iff_eq] at hp
   obtain ⟨⟨hp1, hp2⟩, hp3⟩ := hp
   rcases DataW.trod_slice hu h with ⟨rfl, _⟩ | ⟨a, len, cap, elems, rest, n', hn', rfl, _, _, hlen, hcap, hel, hget, hsp, _⟩
   ·exact ⟨[.list []], ⟨[], rfl, by simp, by simp⟩, mB .listNil⟩
   ·have : n' = fuel := by omega
    subst this
    by_cases hc0 : cap = 0
    ·subst hc0
     obtain rfl : len = 0 := by omega
     exact ⟨[.list []], ⟨[], rfl, by simp, by simp⟩, mB (.listZ a)⟩
    ·
     have some_at : ∀ i, i < cap → ∃ ds y, w.cells? 0 (a.add (i * P.cellsOf e)) (P.cellsOf e) = some ds ∧ DataW.trod enc P w 0 (fun _ => true) true n' e ds = some y := by
      intro i hi
      by_cases hlt : i < len
      ·have h1 := hget i hlt
       have h2 : elems[i]? = some elems[i] := by simp [show i < elems.length by omega]
       rw [h2, Option.bind_eq_some_iff] at h1
       obtain ⟨ds, h3, h4⟩ := h1
       exact ⟨ds, _, h3, h4⟩
      ·obtain ⟨h0, h1⟩ := hsp rfl
       have h1 := h1 (i - len) (by omega)
       have h2 : rest[i - len]? = some rest[i - len] := by simp [show i - len < rest.length by omega]
       rw [h2, Option.bind_eq_some_iff, show len + (i - len) = i by omega] at h1
       obtain ⟨ds, h3, h4⟩ := h1
       exact ⟨ds, _, h3, h4⟩
     have hspot : a.spot = none := by
      obtain ⟨ds, y, h1, _⟩ := some_at 0 (by omega)
      obtain ⟨h2, h3⟩ := uJ h1
      have h4 := h3 0 hp2
      have e1 : (a.add (0 * P.cellsOf e)).add 0 = a := by simp [Addr.add]
      rw [e1] at h4
      have h5 : ds[0]? = some (ds[0]'(by omega)) := by simp
      rw [h5] at h4
      unfold World.cell? at h4
      split at h4
      ·split at h4
       ·cases h4
       ·rename_i hs; cases hq : a.spot with
        | none => rfl
        | some _ => simp [hq] at hs
      ·cases h4
     obtain ⟨b, o, sp⟩ := a
     simp only at hspot
     subst hspot
     have hadd : ∀ j i, ((⟨b, o, none⟩ : Addr).add (j * P.cellsOf e)).add i = ⟨b, o + j * P.cellsOf e + i, none⟩ := fun j i => by
      simp only [Addr.add]
      split <;> split <;> simp_all
     obtain ⟨l, hl1, hl2⟩ := rL (fun i (q : List V × List Value) => w.cells? 0 ((⟨b, o, none⟩ : Addr).add (i * P.cellsOf e)) (P.cellsOf e) = some q.2 ∧ CellsT P n e q.1 ∧ RowV w q.1 q.2) len (fun i hi => by
      obtain ⟨ds, y, h1, h2⟩ := some_at i (by omega)
      obtain ⟨xs, h3, h4⟩ := ih e ds y h2 hp3
      exact ⟨(xs, ds), h1, h3, h4⟩)
     let mk : List V → V := fun xs => if isRow (P.underlying e) then .agg xs else xs.headD .undef
     have mkc : ∀ xs, CellsT P n e xs → (mk xs).cells = xs ∧ (if isRow (P.underlying e) then mk xs = .agg (mk xs).cells else (mk xs).cells = [mk xs]) := by
      intro xs hx
      simp only [mk]
      split
      ·exact ⟨rfl, rfl⟩
      ·rename_i hr
       cases n with
       | zero => exact hx.elim
       | succ n =>
        unfold CellsT at hx
        split at hx
        ·obtain ⟨b, rfl⟩ := hx; exact ⟨rfl, rfl⟩
        ·obtain ⟨b, rfl, _⟩ := hx; exact ⟨rfl, rfl⟩
        ·obtain ⟨b, rfl, _⟩ := hx; exact ⟨rfl, rfl⟩
        ·obtain ⟨b, rfl, _⟩ := hx; exact ⟨rfl, rfl⟩
        ·rename_i hu2; simp [hu2, isRow] at hr
        ·rename_i hu2; simp [hu2, isRow] at hr
        ·exact hx.elim
     have hes : ∀ (j : Nat) (el : V), (l.map fun q => mk q.1)[j]? = some el → ∃ q, l[j]? = some q ∧ el = mk q.1 ∧ el.cells = q.1 := fun j el hj => by
      rw [List.getElem?_map] at hj
      cases hq : l[j]? with
      | none => simp [hq] at hj
      | some q => simp [hq] at hj; exact ⟨q, rfl, hj.symm, by rw [← hj]; exact (mkc q.1 (hl2 j q hq).2.1).1⟩
     refine ⟨[.list (l.map fun q => mk q.1)], ⟨_, rfl, by simp [hl1]; omega, fun el hel => ?_⟩, mB ?_⟩
     ·obtain ⟨j, hj⟩ := List.getElem?_of_mem hel
      obtain ⟨q, h1, h2, h3⟩ := hes j el hj
      have := (hl2 j q h1).2.1
      rw [h3]
      refine ⟨this, ?_⟩
      have := (mkc q.1 this).2
      rw [← h2, h3] at this
      exact this
     ·have hlen2 : (l.map fun q => mk q.1).length = len := by simp [hl1]
      rw [← hlen2]
      have cellat : ∀ j i, j < len → i < P.cellsOf e → ∃ q c, l[j]? = some q ∧ q.2[i]? = some c ∧ w.cell? ⟨b, o + j * P.cellsOf e + i, none⟩ = some c := fun j i hj hi => by
       have h1 : l[j]? = some l[j] := by simp [show j < l.length by omega]
       obtain ⟨h2, h3⟩ := uJ (hl2 j _ h1).1
       have h4 := h3 i hi
       rw [hadd] at h4
       have h5 : l[j].2[i]? = some (l[j].2[i]'(by omega)) := by simp
       exact ⟨_, _, h1, h5, h4.trans h5⟩
      refine .list b o cap (P.cellsOf e) _ (fun j i => (w.cell? ⟨b, o + j * P.cellsOf e + i, none⟩).getD Go.undef) (by omega) (kW fun el hel => ?_) (fun j el hj => ?_) (fun j i hj hi => ?_) (fun j i hj hi => ?_) (fun j el i v hj hv => ?_)
      ·obtain ⟨j, hj⟩ := List.getElem?_of_mem hel
       obtain ⟨q, h1, h2, h3⟩ := hes j el hj
       have h4 := kU P n e _ (hl2 j q h1).2.1
       have h5 := (mkc q.1 (hl2 j q h1).2.1).2
       rw [← h2] at h5
       rw [← h3] at h4
       split at h5
       ·rw [h5]; simpa [V.pure] using h4
       ·rw [h5] at h4; simpa [V.pureL] using h4
      ·obtain ⟨q, h1, h2, h3⟩ := hes j el hj
       rw [h3]; exact mh P n e _ hp3 (hl2 j q h1).2.1
      ·obtain ⟨q, c, _, _, h3⟩ := cellat j i (by omega) hi
       exact Bz h3
      ·obtain ⟨q, c, _, _, h3⟩ := cellat j i (by omega) hi
       rw [h3]; rfl
      ·obtain ⟨q, h1, h2, h3⟩ := hes j el hj
       rw [h3] at hv
       obtain ⟨_, h4, h5⟩ := hl2 j q h1
       have hq1 : q.1.length = P.cellsOf e := mh P n e _ hp3 h4
       obtain ⟨hi, _⟩ := List.getElem?_eq_some_iff.1 hv
       obtain ⟨q', c, h6, h7, h8⟩ := cellat j i (by rw [← hl1]; exact (List.getElem?_eq_some_iff.1 h1).1) (by omega)
       rw [h1] at h6; cases h6
       rw [h8]
       exact h5.2 i v c hv h7
  ·rename_i fs
   simp only [Bool.and_eq_true] at hp
   obtain ⟨hp1, hp2⟩ := hp
   obtain ⟨xs, m, hm, _, hcl, hxl, hget⟩ := DataW.trod_struct hu h
   have : m = fuel := by omega
   subst this
   have key : ∀ (l : List Field) (o : Nat), (∀ (i : Nat) (f : Field), l[i]? = some f → ∃ y, DataW.trod enc P w 0 (fun _ => true) true m f.type ((cs.drop f.offset).take (P.cellsOf f.type)) = some y) →
     tiles P l o (P.cellsOf t) = true → (l.all fun f => plainT P n f.type) = true → ∃ zs, FieldsT (CellsT P n) l zs ∧ RowV w zs (cs.drop o) := by
    intro l
    induction l with
    | nil =>
     intro o _ h2 _
     simp [tiles] at h2
     refine ⟨[], rfl, by simp; omega, by simp⟩
    | cons f r ihl =>
     intro o h1 h2 h3
     simp only [tiles, Bool.and_eq_true, beq_iff_eq] at h2
     simp only [List.all_cons, Bool.and_eq_true] at h3
     obtain ⟨y, hy⟩ := h1 0 f rfl
     obtain ⟨a, h4, h5⟩ := ih f.type _ y hy h3.1
     obtain ⟨b, h6, h7⟩ := ihl (o + P.cellsOf f.type) (fun i f' hf' => h1 (i + 1) f' (by simpa using hf')) h2.2 h3.2
     refine ⟨a ++ b, ⟨a, b, rfl, h4, h6⟩, ?_⟩
     have e1 : cs.drop o = (cs.drop f.offset).take (P.cellsOf f.type) ++ cs.drop (o + P.cellsOf f.type) := by
      rw [h2.1, ← List.drop_drop, List.take_append_drop]
     rw [e1]
     exact h5.app h7
   obtain ⟨zs, h1, h2⟩ := key fs.toList 0 (fun i f hf => by
    have h3 := hget i f (by simpa using hf)
    have h4 : i < xs.length := by rw [hxl]; exact (Array.getElem?_eq_some_iff.1 (by simpa using hf : fs[i]? = some f)).1
    rw [h3]; exact ⟨xs[i], by simp [h4]⟩) hp1 hp2
   exact ⟨zs, h1, by simpa using h2⟩
  ·rename_i m e
   simp only [Bool.and_eq_true, beq_iff_eq] at hp
   obtain ⟨xs, m', hm', _, hcl, hxl, hget⟩ := DataW.trod_array hu h
   have : m' = fuel := by omega
   subst this
   have key : ∀ (k : Nat), k ≤ m → ∃ parts : List (List V), parts.length = k ∧ (∀ p ∈ parts, CellsT P n e p) ∧ RowV w parts.flatten (cs.take (k * P.cellsOf e)) := by
    intro k
    induction k with
    | zero => intro _; exact ⟨[], rfl, by simp, by simp, by simp⟩
    | succ k ihk =>
     intro hk
     obtain ⟨parts, h1, h2, h3⟩ := ihk (by omega)
     have h4 := hget k (by omega)
     have h5 : xs[k]? = some xs[k] := by simp [show k < xs.length by omega]
     rw [h5] at h4
     obtain ⟨a, h6, h7⟩ := ih e _ _ h4 hp.2
     refine ⟨parts ++ [a], by simp [h1], fun p hp2 => ?_, ?_⟩
     ·rcases List.mem_append.1 hp2 with h | h
      ·exact h2 p h
      ·simp at h; subst h; exact h6
     ·have e1 : cs.take ((k + 1) * P.cellsOf e) = cs.take (k * P.cellsOf e) ++ (cs.drop (k * P.cellsOf e)).take (P.cellsOf e) := by
       rw [Nat.add_mul, Nat.one_mul, List.take_add]
      rw [e1]
      simp only [List.flatten_append, List.flatten_cons, List.flatten_nil, List.append_nil]
      exact h3.app h7
   obtain ⟨parts, h1, h2, h3⟩ := key m (Nat.le_refl _)
   refine ⟨parts.flatten, ⟨parts, h1, rfl, h2⟩, ?_⟩
   rw [List.take_of_length_le (by omega)] at h3
   exact h3
  ·cases hp
end
end Go.E
namespace Go.E
section
variable {cx : Cx} {fx : Fx}
def Ev (cx : Cx) (fx : Fx) (c : Code) (ρ : Env) (H : Heap) (Q : Ex → Env → Heap → Prop) : Prop :=
 ∃ ex ρ' H', evCode cx fx loopw (callw cx) c ρ H = some (ex, ρ', H') ∧ Q ex ρ' H'
def Lp (cx : Cx) (fx : Fx) (c : Code) (ρ : Env) (H : Heap) (Q : Ex → Env → Heap → Prop) : Prop :=
 ∃ ex ρ' H', loopw (evCode cx fx loopw (callw cx) c) ρ H = some (ex, ρ', H') ∧ Q ex ρ' H'
def EvO (cx : Cx) (fx : Fx) (ops : Array Oper) (l : List Oper) (ρ : Env) (H : Heap) (K : Env → Heap → Prop) : Prop :=
 ∃ ρ' H', evOps cx fx (callw cx) ops l ρ H = some (ρ', H') ∧ K ρ' H'
def thenQ (cx : Cx) (fx : Fx) (c : Code) (Q : Ex → Env → Heap → Prop) : Ex → Env → Heap → Prop
 | .normal, ρ, H => Ev cx fx c ρ H Q
 | ex, ρ, H => Q ex ρ H
def blockQ (id : Nat) (Q : Ex → Env → Heap → Prop) : Ex → Env → Heap → Prop
 | .exit id', ρ, H => Q (if id' = id then .normal else .exit id') ρ H
 | ex, ρ, H => Q ex ρ H
def loopQ (cx : Cx) (fx : Fx) (c : Code) (Q : Ex → Env → Heap → Prop) : Ex → Env → Heap → Prop
 | .normal, ρ, H => Lp cx fx c ρ H Q
 | ex, ρ, H => Q ex ρ H
theorem Ev.mono {c : Code} {ρ : Env} {H : Heap} {Q Q' : Ex → Env → Heap → Prop} (h : Ev cx fx c ρ H Q) (hq : ∀ ex ρ' H', Q ex ρ' H' → Q' ex ρ' H') : Ev cx fx c ρ H Q' := by
 obtain ⟨ex, ρ', H', h1, h2⟩ := h; exact ⟨ex, ρ', H', h1, hq _ _ _ h2⟩
theorem Lp.mono {c : Code} {ρ : Env} {H : Heap} {Q Q' : Ex → Env → Heap → Prop} (h : Lp cx fx c ρ H Q) (hq : ∀ ex ρ' H', Q ex ρ' H' → Q' ex ρ' H') : Lp cx fx c ρ H Q' := by
 obtain ⟨ex, ρ', H', h1, h2⟩ := h; exact ⟨ex, ρ', H', h1, hq _ _ _ h2⟩
section
variable {ρ : Env} {H : Heap} {Q : Ex → Env → Heap → Prop}
theorem EN (h : Q .normal ρ H) : Ev cx fx .skip ρ H Q := ⟨_, _, _, rfl, h⟩
theorem BA {l : Nat} (h : Q .normal ρ H) : Ev cx fx (.label l) ρ H Q := ⟨_, _, _, rfl, h⟩
theorem EO {id : Nat} (h : Q (.exit id) ρ H) : Ev cx fx (.exit id) ρ H Q := ⟨_, _, _, rfl, h⟩
theorem GN (h : Q .ret ρ H) : Ev cx fx .ret ρ H Q := ⟨_, _, _, rfl, h⟩
theorem BB {c : Code} (h : Ev cx fx c ρ H Q) : Ev cx fx (.scope c) ρ H Q := h
theorem GO {a b : Code} (h : Ev cx fx a ρ H (thenQ cx fx b Q)) : Ev cx fx (.seq a b) ρ H Q := by
 obtain ⟨ex, ρ', H', h1, h2⟩ := h
 cases ex with
 | normal =>
  obtain ⟨ex2, ρ2, H2, h3, h4⟩ := h2
  exact ⟨ex2, ρ2, H2, by simp only [evCode, h1, h3], h4⟩
 | _ => exact ⟨_, ρ', H', by simp only [evCode, h1], h2⟩
theorem Al {id : Nat} {ops : Array Oper} (h : EvO cx fx ops ops.toList ρ H (Q .normal)) : Ev cx fx (.region id ops false) ρ H Q := by
 obtain ⟨ρ', H', h1, h2⟩ := h
 exact ⟨_, ρ', H', by simp only [evCode, h1, Bool.false_eq_true, if_false, Option.map_some], h2⟩
theorem BC {id : Nat} {c : Code} (h : Ev cx fx c ρ H (blockQ id Q)) : Ev cx fx (.block id c) ρ H Q := by
 obtain ⟨ex, ρ', H', h1, h2⟩ := h
 cases ex with
 | exit id' => exact ⟨_, ρ', H', by simp only [evCode, h1], h2⟩
 | _ => exact ⟨_, ρ', H', by simp only [evCode, h1], h2⟩
theorem tS {o : Operand} {x y : Code} (b : Bool) (hb : opnd ρ o = .bool b) (ht : b = true → Ev cx fx x ρ H Q) (hf : b = false → Ev cx fx y ρ H Q) : Ev cx fx (.cond o x y) ρ H Q := by
 cases b with
 | true => obtain ⟨ex, ρ', H', h1, h2⟩ := ht rfl; exact ⟨ex, ρ', H', by simp only [evCode, hb, h1], h2⟩
 | false => obtain ⟨ex, ρ', H', h1, h2⟩ := hf rfl; exact ⟨ex, ρ', H', by simp only [evCode, hb, h1], h2⟩
theorem EP {c : Code} (h : Lp cx fx c ρ H Q) : Ev cx fx (.loop c) ρ H Q := h
theorem dg {c : Code} (h : Ev cx fx c ρ H (loopQ cx fx c Q)) : Lp cx fx c ρ H Q := by
 obtain ⟨ex, ρ', H', h1, h2⟩ := h
 cases ex with
 | normal =>
  obtain ⟨ex2, ρ2, H2, h3, h4⟩ := h2
  exact ⟨ex2, ρ2, H2, Bx h1 h3, h4⟩
 | _ => exact ⟨_, ρ', H', Ak h1 (by simp), h2⟩
theorem EQ {ops : Array Oper} {K : Env → Heap → Prop} : EvO cx fx ops [] ρ H K ↔ K ρ H := by
 constructor
 ·rintro ⟨ρ', H', h1, h2⟩; simp [evOps] at h1; obtain ⟨rfl, rfl⟩ := h1; exact h2
 ·exact fun h => ⟨ρ, H, rfl, h⟩
def putK (n : Nat) (dst : Option Nat) (v : V) (ρ : Env) (K : Env → Prop) : Prop :=
 match dst with
 | none => K ρ
 | some d => d < n ∧ K (ρ.put d v)
def gotK (r : Option (V × Heap)) (K : V → Heap → Prop) : Prop :=
 match r with
 | some (v, H) => K v H
 | none => False
def wantK (b : Option Bool) (A B : Prop) : Prop :=
 match b with
 | some true => A
 | some false => B
 | none => False
theorem Am {v : V} {H : Heap} {K : V → Heap → Prop} : gotK (some (v, H)) K ↔ K v H := Iff.rfl
theorem pg {ops : Array Oper} {o : Oper} {r : List Oper} {K : Env → Heap → Prop} :
  EvO cx fx ops (o :: r) ρ H K ↔ wantK (wantedV ops o ρ) (gotK (evOp cx fx (callw cx) o ρ H) fun v H' => putK fx.n o.dst v ρ fun ρ' => EvO cx fx ops r ρ' H' K)
   (putK fx.n o.dst .skip ρ fun ρ' => EvO cx fx ops r ρ' H K) := by
 unfold EvO
 simp only [evOps, evOper]
 cases hw : wantedV ops o ρ with
 | none => simp [wantK]
 | some b =>
  cases b with
  | true =>
   simp only [Option.bind_some, if_true, wantK]
   cases ho : evOp cx fx (callw cx) o ρ H with
   | none => simp [gotK]
   | some r =>
    obtain ⟨v, H1⟩ := r
    simp only [Option.bind_some, gotK, putK]
    cases o.dst with
    | none => simp
    | some d =>
     simp only
     by_cases hd : d < fx.n
     ·simp [hd]
     ·simp [hd]
  | false =>
   simp only [Option.bind_some, Bool.false_eq_true, if_false, wantK, putK]
   cases o.dst with
   | none => simp
   | some d =>
    simp only
    by_cases hd : d < fx.n
    ·simp [hd]
    ·simp [hd]
end
theorem ER {f : Nat} {fn : Func} {c : Code} (hk : cx.keep f = false) (hf : cx.P.funcs[f]? = some fn) (hb : fn.body = some c) {bs : List Nat} {args : List V} {H : Heap} {v : V} {H' : Heap}
  (h : Ev cx ⟨args.length + (fn.ntmps - args.length), H.length :: bs⟩ c (fun i => (args.map V.norm).getD i .undef) H
   fun ex ρ H1 => (match ex with | .exit _ => False | _ => True) ∧ ∃ vs ws, resultsV cx.P fn ρ H1 = some vs ∧ vs.mapM (frz 6 H.length H1) = some ws ∧ packV ws = v ∧ H1.take H.length = H') :
  callw cx bs f args H = some (v, H') := by
 obtain ⟨ex, ρ, H1, h1, h2, vs, ws, h3, h4, h5, h6⟩ := h
 refine th ?_
 unfold evBody
 simp only [hf, hb, hk, Bool.false_eq_true, if_false, h1, Option.bind_some]
 cases ex with
 | exit _ => exact h2.elim
 | normal => simp only [h3, Option.bind_some, h4, Option.map_some, h5, h6]
 | ret => simp only [h3, Option.bind_some, h4, Option.map_some, h5, h6]
attribute [irreducible] Ev EvO Lp thenQ blockQ loopQ
end
end Go.E
namespace Go.E
section
variable {cx : Cx} {fx : Fx} {call : CallSem} {ρ : Env} {H : Heap} {dst : Option Nat} {ty : TypeId} {pos : String} {aft : Array Edge} {gd : Option (Nat × Bool)}
theorem ES (ρ : Env) (d i : Nat) (v : V) : (ρ.put d v) i = if i = d then v else ρ i := rfl
theorem ET {x : Operand} : evOp cx fx call ⟨dst, .move x, ty, pos, aft, gd⟩ ρ H = some (opnd ρ x, H) := rfl
theorem yW {t : Nat} : evOp cx fx call ⟨dst, .assign (.tmp t), ty, pos, aft, gd⟩ ρ H = some (ρ t, H) := rfl
theorem yX {k : IntKind} {n : Int} : evOp cx fx call ⟨dst, .assign (.const (.int k n)), ty, pos, aft, gd⟩ ρ H = some (.int k n, H) := by simp [evOp, opnd, ofVal, jd]
theorem xw {b : Bool} : evOp cx fx call ⟨dst, .assign (.const (.bool b)), ty, pos, aft, gd⟩ ρ H = some (.bool b, H) := by simp [evOp, opnd, ofVal, jd]
theorem xy : evOp cx fx call ⟨dst, .assign (.const .nilFunc), ty, pos, aft, gd⟩ ρ H = some (.nilF, H) := by simp [evOp, opnd, ofVal, jd]
theorem xz {f : Nat} : evOp cx fx call ⟨dst, .assign (.func f), ty, pos, aft, gd⟩ ρ H = some (.func f [], H) := rfl
theorem xA : evOp cx fx call ⟨dst, .assign (.const (.slice none 0 0)), ty, pos, aft, gd⟩ ρ H =
  (match cx.P.underlying ty with | some (.slice _) => some (.tl H.length [], H ++ [.tok 0]) | _ => some (.nilS, H)) := by
 cases hu : cx.P.underlying ty with
 | none => simp [evOp, hu, opnd, ofVal, jd]
 | some d => cases d <;> simp [evOp, hu, opnd, ofVal, jd]
theorem EU {c a b : Operand} : evOp cx fx call ⟨dst, .pick c a b, ty, pos, aft, gd⟩ ρ H =
  (match opnd ρ c with | .bool true => some (opnd ρ a, H) | .bool false => some (opnd ρ b, H) | _ => none) := rfl
theorem EV {t : TypeId} {a : Operand} : evOp cx fx call ⟨dst, .load t a, ty, pos, aft, gd⟩ ρ H = (loadV cx.P t (opnd ρ a) H).map (·, H) := rfl
theorem BD {t : TypeId} {a x : Operand} : evOp cx fx call ⟨dst, .store t a x, ty, pos, aft, gd⟩ ρ H = (storeV cx.P fx.bs t (opnd ρ a) (opnd ρ x) H).map (V.undef, ·) := rfl
theorem BE {t : TypeId} : evOp cx fx call ⟨dst, .alloc t, ty, pos, aft, gd⟩ ρ H = (zeroT cx.P t).bind fun z => if z.cells.all V.isCell then some (.ptr H.length 0, H ++ [.cells z.cells]) else none := rfl
theorem GP {t : TypeId} {x : Operand} : evOp cx fx call ⟨dst, .box t x, ty, pos, aft, gd⟩ ρ H = if (opnd ρ x).cells.all V.isCell then some (.ptr H.length 0, H ++ [.cells (opnd ρ x).cells]) else none := rfl
theorem BF {t : TypeId} {parts : Array (Nat × Operand)} : evOp cx fx call ⟨dst, .build t parts, ty, pos, aft, gd⟩ ρ H = (buildV cx.P t (parts.toList.map fun q => (q.1, opnd ρ q.2))).map (·, H) := rfl
theorem vr {t : TypeId} {len : Nat} {parts : Array (Nat × Operand)} : evOp cx fx call ⟨dst, .buildSlice t len parts, ty, pos, aft, gd⟩ ρ H =
  (elemT cx.P t).bind fun el => (sizeT cx.P el).bind fun sz =>
   if sz ≠ 0 ∧ parts.toList.map (·.1) = List.range len ∧ len * sz ≤ 16777216 ∧ (zeroT cx.P el).isSome = true then
    (takeElems sz (parts.toList.map fun q => opnd ρ q.2)).map fun es =>
     if len = 0 then (.tl H.length [], H ++ [.tok 0]) else if cx.vec t pos = true then (.ref sz H.length 0 0 len, H ++ [.arr es 0]) else if cx.own t = true then (.tl H.length es, H ++ [.tok len]) else (.list es, H)
   else none := rfl
theorem xB {f : Nat} {caps : Array Operand} : evOp cx fx call ⟨dst, .makeFunc (.func f) #[] caps, ty, pos, aft, gd⟩ ρ H = some (.func f (caps.toList.map (opnd ρ)), H) := rfl
theorem xC {x : Operand} : evOp cx fx call ⟨dst, .nilCheck x, ty, pos, aft, gd⟩ ρ H =
  (match opnd ρ x with
  | .ptr id off => some (.ptr id off, H)
  | .eptr cs off => some (.eptr cs off, H)
  | .aptr id ver i off => some (.aptr id ver i off, H)
  | .func f caps => some (.func f caps, H)
  | _ => none) := rfl
theorem yY {x : Operand} {i : Nat} : evOp cx fx call ⟨dst, .extract x i, ty, pos, aft, gd⟩ ρ H = (match opnd ρ x with | .tuple vs => (vs[i]?).map (·, H) | _ => none) := rfl
theorem wg {t : TypeId} {l c : Operand} : evOp cx fx call ⟨dst, .makeSlice t l c, ty, pos, aft, gd⟩ ρ H =
  (elemT cx.P t).bind fun el => (sizeT cx.P el).bind fun sz => (bytesT cx.P el).bind fun by_ => (zeroT cx.P el).bind fun z =>
   match opnd ρ l, opnd ρ c with
   | .int _ n, .int _ m =>
    if n = m ∧ 0 ≤ n ∧ n.toNat * by_ ≤ roomB ∧ n ≤ roomB ∧ sz ≠ 0 ∧ z.cells.length = sz ∧ z.cells.all V.isCell = true ∧ z.pure = true then
     some (.ref sz H.length 0 0 n.toNat, H ++ [.arr (List.replicate n.toNat z) 0]) else none
   | _, _ => none := rfl
theorem GQ {c : Callee} {xs : Array Operand} {ts : Array TypeId} : evBuiltin cx .min ⟨c, xs, ts⟩ pos ρ H = (minmax false (xs.toList.map (opnd ρ))).map (·, H) := by unfold evBuiltin; rfl
theorem GR {c : Callee} {xs : Array Operand} {ts : Array TypeId} : evBuiltin cx .max ⟨c, xs, ts⟩ pos ρ H = (minmax true (xs.toList.map (opnd ρ))).map (·, H) := by unfold evBuiltin; rfl
theorem EW {m : Bool} {k k' : IntKind} {x y : Int} : minmax m [.int k x, .int k' y] = some (.int k (if m then (if x < y then y else x) else (if y < x then y else x))) := by simp [minmax]
theorem BG {op : BinOp} {t : TypeId} {x y : Operand} {u : TypeId} : evOp cx fx call ⟨dst, .binOp op t x y u, ty, pos, aft, gd⟩ ρ H = (binOpV cx.P op t (opnd ρ x) (opnd ρ y)).map (·, H) := rfl
theorem EX {op : UnOp} {t : TypeId} {x : Operand} : evOp cx fx call ⟨dst, .unOp op t x, ty, pos, aft, gd⟩ ρ H = (unOpV op (opnd ρ x)).map (·, H) := rfl
theorem EY {s d : TypeId} {x : Operand} : evOp cx fx call ⟨dst, .convert s d x, ty, pos, aft, gd⟩ ρ H = (convV cx.P s d (opnd ρ x)).map (·, H) := rfl
theorem BH {t : TypeId} {x : Operand} {lo hi mx : Option Operand} : evOp cx fx call ⟨dst, .slice t x lo hi mx, ty, pos, aft, gd⟩ ρ H = (sliceV cx.P t (opnd ρ x) (lo.map (opnd ρ)) (hi.map (opnd ρ)) (mx.map (opnd ρ))).map (·, H) := rfl
theorem wh {t : TypeId} {x : Operand} {j : Nat} : evOp cx fx call ⟨dst, .fieldAddr t x j, ty, pos, aft, gd⟩ ρ H = (fieldAddrV cx.P t (opnd ρ x) j).map (·, H) := rfl
theorem BI {t : TypeId} {x : Operand} {j : Nat} : evOp cx fx call ⟨dst, .field t x j, ty, pos, aft, gd⟩ ρ H = (fieldV cx.P t (opnd ρ x) j).map (·, H) := rfl
theorem wi {t : TypeId} {x i : Operand} : evOp cx fx call ⟨dst, .indexAddr t x i, ty, pos, aft, gd⟩ ρ H = (indexAddrV cx.P t (opnd ρ x) (opnd ρ i)).map (·, H) := rfl
theorem BJ {t : TypeId} {x i : Operand} : evOp cx fx call ⟨dst, .index t x i, ty, pos, aft, gd⟩ ρ H = (indexV cx.P t (opnd ρ x) (opnd ρ i)).map (·, H) := rfl
theorem An {t : TypeId} {m k : Operand} {ok : Bool} : evOp cx fx call ⟨dst, .lookup t m k ok, ty, pos, aft, gd⟩ ρ H = (lookupV cx.P t (opnd ρ m) (opnd ρ k) ok H).map (·, H) := rfl
theorem wj {t : TypeId} {m k v : Operand} : evOp cx fx call ⟨dst, .mapUpdate t m k v, ty, pos, aft, gd⟩ ρ H = (mapUpdateV cx.P fx.bs t (opnd ρ m) (opnd ρ k) (opnd ρ v) H).map (V.undef, ·) := rfl
theorem yZ {t : TypeId} : evOp cx fx call ⟨dst, .makeMap t none, ty, pos, aft, gd⟩ ρ H = some (.map H.length, H ++ [.map []]) := rfl
theorem EZ {f : Operand} {args : Array Operand} {tys : Array TypeId} : evOp cx fx call ⟨dst, .call ⟨.value f, args, tys⟩, ty, pos, aft, gd⟩ ρ H =
  (evCallee ρ f).bind fun g => callAt cx f pos call fx.bs g.1 (args.toList.map (opnd ρ) ++ g.2) H := rfl
theorem GS {o : Operand} {f : Nat} {bs : List Nat} {a : List V} (h : cx.thaw o pos = false) : callAt cx o pos call bs f a H = call bs f a H := by simp [callAt, h]
theorem Ih {o : Operand} {f : Nat} {bs : List Nat} {a : List V} (h : cx.thaw o pos = true) : callAt cx o pos call bs f a H =
  (match cx.fresh f (a.map V.norm) with | some q => some (.ref q.1 H.length 0 0 q.2.length, H ++ [.arr q.2 0]) | none => call bs f a H) := by
 unfold callAt
 rw [if_pos h]
 cases cx.fresh f (a.map V.norm) <;> rfl
theorem xD {f : Nat} : evCallee ρ (.func f) = some (f, []) := rfl
theorem xE {t : Nat} : evCallee ρ (.tmp t) = (match ρ t with | .func g caps => some (g, caps) | _ => none) := rfl
theorem za {b : Builtin} {args : Array Operand} {tys : Array TypeId} : evOp cx fx call ⟨dst, .call ⟨.builtin b, args, tys⟩, ty, pos, aft, gd⟩ ρ H = evBuiltin cx b ⟨.builtin b, args, tys⟩ pos ρ H := rfl
theorem GT {c : Callee} {x : Operand} {t : TypeId} : evBuiltin cx .len ⟨c, #[x], #[t]⟩ pos ρ H =
  (match cx.P.underlying t, opnd ρ x with
  | some (.slice _), .nilS | some (.slice _), .list _ | some (.slice _), .tl _ _ | some (.slice _), .ref .. | some .string, .str _ => (lenV (opnd ρ x)).map fun n => (.int .i64 n, H)
  | some (.array n _), _ => some (.int .i64 n, H)
  | _, _ => none) := rfl
theorem Ao {c : Callee} {s x : Operand} {t u : TypeId} : evBuiltin cx .append ⟨c, #[s, x], #[t, u]⟩ pos ρ H =
  (match cx.P.underlying u with | some (.slice _) => appendV cx.P (cx.vec t pos) t (opnd ρ s) (opnd ρ x) H | _ => none) := rfl
theorem GU {t : Nat} : opnd ρ (.tmp t) = ρ t := rfl
theorem GV {k : IntKind} {n : Int} : opnd ρ (.const (.int k n)) = .int k n := rfl
theorem E0 {b : Bool} : opnd ρ (.const (.bool b)) = .bool b := rfl
theorem GW {s : ByteArray} : opnd ρ (.const (.string s)) = .str s := rfl
theorem E1 : opnd ρ (.const (.slice none 0 0)) = .nilS := rfl
theorem E3 : opnd ρ (.const .nilFunc) = .nilF := rfl
theorem E4 : opnd ρ (.const (.pointer none)) = .nilP := rfl
theorem GX {cs : Array Value} : opnd ρ (.const (.agg cs)) = .agg (cs.toList.map jd) := rfl
theorem E5 {f : Nat} : opnd ρ (.func f) = .func f [] := rfl
theorem oz {ops : Array Oper} {op : Op} : wantedV ops ⟨dst, op, ty, pos, aft, none⟩ ρ = some true := rfl
theorem E6 {ops : Array Oper} {op : Op} {j : Nat} {w : Bool} : wantedV ops ⟨dst, op, ty, pos, aft, some (j, w)⟩ ρ =
  (match (ops[j]?).bind (·.dst) with
  | none => some false
  | some d => match ρ d with | .bool b => some (b == w) | .skip => some false | _ => none) := rfl
theorem zb {A B : Prop} : wantK (some true) A B ↔ A := Iff.rfl
theorem xF {A B : Prop} : wantK (some false) A B ↔ B := Iff.rfl
theorem Ap {n : Nat} {v : V} {K : Env → Prop} : putK n none v ρ K ↔ K ρ := Iff.rfl
theorem Aq {n d : Nat} {v : V} {K : Env → Prop} : putK n (some d) v ρ K ↔ d < n ∧ K (ρ.put d v) := Iff.rfl
theorem qz {c : Code} {Q : Ex → Env → Heap → Prop} : thenQ cx fx c Q .normal ρ H ↔ Ev cx fx c ρ H Q := by unfold thenQ; rfl
theorem ti {c : Code} {Q : Ex → Env → Heap → Prop} {id : Nat} : thenQ cx fx c Q (.exit id) ρ H ↔ Q (.exit id) ρ H := by unfold thenQ; rfl
theorem uK {c : Code} {Q : Ex → Env → Heap → Prop} : thenQ cx fx c Q .ret ρ H ↔ Q .ret ρ H := by unfold thenQ; rfl
theorem pV {id : Nat} {Q : Ex → Env → Heap → Prop} : blockQ id Q .normal ρ H ↔ Q .normal ρ H := by unfold blockQ; rfl
theorem nT {id id' : Nat} {Q : Ex → Env → Heap → Prop} : blockQ id Q (.exit id') ρ H ↔ Q (if id' = id then .normal else .exit id') ρ H := by unfold blockQ; rfl
theorem tj {id : Nat} {Q : Ex → Env → Heap → Prop} : blockQ id Q .ret ρ H ↔ Q .ret ρ H := by unfold blockQ; rfl
theorem jX {c : Code} {Q : Ex → Env → Heap → Prop} : loopQ cx fx c Q .normal ρ H ↔ Lp cx fx c ρ H Q := by unfold loopQ; rfl
theorem jY {c : Code} {Q : Ex → Env → Heap → Prop} {id : Nat} : loopQ cx fx c Q (.exit id) ρ H ↔ Q (.exit id) ρ H := by unfold loopQ; rfl
theorem lb {c : Code} {Q : Ex → Env → Heap → Prop} : loopQ cx fx c Q .ret ρ H ↔ Q .ret ρ H := by unfold loopQ; rfl
def gotV (r : Option V) (H : Heap) (K : V → Heap → Prop) : Prop := match r with | some v => K v H | none => False
def gotH (r : Option Heap) (K : V → Heap → Prop) : Prop := match r with | some H => K .undef H | none => False
theorem Ar {v : V} {K : V → Heap → Prop} : gotV (some v) H K ↔ K v H := Iff.rfl
theorem As {K : V → Heap → Prop} : gotH (some H) K ↔ K .undef H := Iff.rfl
theorem E7 {P : Program} {t : TypeId} {k : IntKind} {a b : Int} : binOpV P .add t (.int k a) (.int k b) = some (.int k (k.wrap (a + b))) := by simp [binOpV, intOp]
theorem E8 {P : Program} {t : TypeId} {k : IntKind} {a b : Int} : binOpV P .sub t (.int k a) (.int k b) = some (.int k (k.wrap (a - b))) := by simp [binOpV, intOp]
theorem E9 {P : Program} {t : TypeId} {k : IntKind} {a b : Int} : binOpV P .mul t (.int k a) (.int k b) = some (.int k (k.wrap (a * b))) := by simp [binOpV, intOp]
theorem Fa {P : Program} {t : TypeId} {k : IntKind} {a b : Int} : binOpV P .lss t (.int k a) (.int k b) = some (.bool (decide (a < b))) := by simp [binOpV, intOp]
theorem Fb {P : Program} {t : TypeId} {k : IntKind} {a b : Int} : binOpV P .leq t (.int k a) (.int k b) = some (.bool (decide (a ≤ b))) := by simp [binOpV, intOp]
theorem Fc {P : Program} {t : TypeId} {k : IntKind} {a b : Int} : binOpV P .gtr t (.int k a) (.int k b) = some (.bool (decide (b < a))) := by simp [binOpV, intOp]
theorem Fd {P : Program} {t : TypeId} {k : IntKind} {a b : Int} : binOpV P .geq t (.int k a) (.int k b) = some (.bool (decide (b ≤ a))) := by simp [binOpV, intOp]
theorem Fe {P : Program} {t : TypeId} {k : IntKind} {a b : Int} : binOpV P .eql t (.int k a) (.int k b) = some (.bool (decide (a = b))) := by simp [binOpV, intOp]; by_cases h : a = b <;> simp [h]
theorem Ff {P : Program} {t : TypeId} {k : IntKind} {a b : Int} : binOpV P .neq t (.int k a) (.int k b) = some (.bool (decide (a ≠ b))) := by simp [binOpV, intOp]; by_cases h : a = b <;> simp [h]
theorem Fg {P : Program} {t : TypeId} {k : IntKind} {a b : Int} : binOpV P .and t (.int k a) (.int k b) = some (.int k (bitsI .and k a b)) := by simp [binOpV, intOp]
theorem GY {P : Program} {t : TypeId} {k : IntKind} {a b : Int} : binOpV P .or t (.int k a) (.int k b) = some (.int k (bitsI .or k a b)) := by simp [binOpV, intOp]
theorem Fh {P : Program} {t : TypeId} {k : IntKind} {a b : Int} : binOpV P .xor t (.int k a) (.int k b) = some (.int k (bitsI .xor k a b)) := by simp [binOpV, intOp]
theorem Fj {P : Program} {t : TypeId} {k : IntKind} {a b : Int} (h : b ≠ 0) : binOpV P .quo t (.int k a) (.int k b) = some (.int k (k.wrap (a.tdiv b))) := by simp [binOpV, intOp, h]
theorem Fk {P : Program} {t : TypeId} {k : IntKind} {a b : Int} (h : b ≠ 0) : binOpV P .rem t (.int k a) (.int k b) = some (.int k (a.tmod b)) := by simp [binOpV, intOp, h]
theorem BK {P : Program} {t : TypeId} {a b : ByteArray} : binOpV P .eql t (.str a) (.str b) = some (.bool (decide (a = b))) := by simp [binOpV, strOp]
theorem GZ {b : Bool} : unOpV .not (.bool b) = some (.bool !b) := rfl
theorem G0 {k : IntKind} {n : Int} : unOpV .neg (.int k n) = some (.int k (k.wrap (0 - n))) := rfl
end
section
variable {cx : Cx} {fx : Fx} {ρ : Env} {H : Heap} {dst : Option Nat} {ty : TypeId} {pos : String} {aft : Array Edge} {gd : Option (Nat × Bool)} {ops : Array Oper} {r : List Oper} {op : Op} {K : Env → Heap → Prop}
theorem Fl (h : K ρ H) : EvO cx fx ops [] ρ H K := EQ.2 h
theorem At {d : Nat} {v : V} {H1 : Heap} (hw : wantedV ops ⟨some d, op, ty, pos, aft, gd⟩ ρ = some true) (ho : evOp cx fx (callw cx) ⟨some d, op, ty, pos, aft, gd⟩ ρ H = some (v, H1)) (hd : d < fx.n)
  (h : EvO cx fx ops r (ρ.put d v) H1 K) : EvO cx fx ops (⟨some d, op, ty, pos, aft, gd⟩ :: r) ρ H K := by
 rw [pg, hw, ho]; exact ⟨hd, h⟩
theorem ym {v : V} {H1 : Heap} (hw : wantedV ops ⟨none, op, ty, pos, aft, gd⟩ ρ = some true) (ho : evOp cx fx (callw cx) ⟨none, op, ty, pos, aft, gd⟩ ρ H = some (v, H1))
  (h : EvO cx fx ops r ρ H1 K) : EvO cx fx ops (⟨none, op, ty, pos, aft, gd⟩ :: r) ρ H K := by
 rw [pg, hw, ho]; exact h
theorem Fm {d : Nat} (hw : wantedV ops ⟨some d, op, ty, pos, aft, gd⟩ ρ = some false) (hd : d < fx.n) (h : EvO cx fx ops r (ρ.put d .skip) H K) : EvO cx fx ops (⟨some d, op, ty, pos, aft, gd⟩ :: r) ρ H K := by
 rw [pg, hw]; exact ⟨hd, h⟩
theorem BL (hw : wantedV ops ⟨none, op, ty, pos, aft, gd⟩ ρ = some false) (h : EvO cx fx ops r ρ H K) : EvO cx fx ops (⟨none, op, ty, pos, aft, gd⟩ :: r) ρ H K := by
 rw [pg, hw]; exact h
theorem Au {o : Oper} (b : Bool) (A B : Prop) (_ : wantedV ops o ρ = some b) (h1 : b = true → EvO cx fx ops (o :: r) ρ H K) (h2 : b = false → EvO cx fx ops (o :: r) ρ H K) : EvO cx fx ops (o :: r) ρ H K := by
 cases b; exact h2 rfl; exact h1 rfl
end
def fr (l : List V) : Env := fun i => l.getD i .undef
theorem Fn (v : V) (l : List V) : fr (v :: l) 0 = v := rfl
theorem Fo (v : V) (l : List V) (i : Nat) : fr (v :: l) (i + 1) = fr l i := by simp [fr]
theorem call_of' {cx : Cx} {f N : Nat} {fn : Func} {c : Code} {bs : List Nat} {args : List V} {H : Heap} {v : V} {H' : Heap} (hk : cx.keep f = false) (hf : cx.P.funcs[f]? = some fn) (hb : fn.body = some c)
  (hN : args.length + (fn.ntmps - args.length) = N) {rs : List ResultVar} (hr : fn.results.toList = rs)
  (h : Ev cx ⟨N, H.length :: bs⟩ c (fr (args.map V.norm)) H
   fun ex ρ H1 => (match ex with | .exit _ => False | _ => True) ∧ ∃ vs ws, (rs.mapM fun (r : ResultVar) => match r with | .tmp t => some (ρ t) | .cell a t => loadV cx.P t (ρ a) H1) = some vs ∧ vs.mapM (frz 6 H.length H1) = some ws ∧ packV ws = v ∧ H1.take H.length = H') :
  callw cx bs f args H = some (v, H') := by
 subst hN; subst hr
 exact ER hk hf hb h
theorem bi {n : Int} (h1 : -9223372036854775808 ≤ n) (h2 : n ≤ 9223372036854775807) : IntKind.i64.wrap n = n := by
 unfold IntKind.wrap
 simp [IntKind.bits, IntKind.signed]
 omega
attribute [push_cast] vr xB xC yY wg GQ GR EW Am ES ET yW yX xw xy xz xA EV BD BE GP BF BG EX EY BH wh BI wi BJ An wj yZ EZ GS Ih xD xE za GT Ao GU GV E0 GW E1 E3 E4 GX E5 oz E6 zb xF Ap Aq qz ti uK pV nT tj jX jY lb Ar As Fn Fo E7 E8 E9 Fa Fb Fc Fd Fe Ff Fg GY Fh Fj Fk BK GZ G0
end Go.E
namespace Go.E
def resV (P : Program) (ρ : Env) (H : Heap) : ResultVar → Option V
 | .tmp t => some (ρ t)
 | .cell a t => loadV P t (ρ a) H
section
variable {cx : Cx} {ρ : Env} {H1 H' : Heap} {n0 : Nat} {ex : Ex}
def Leaf (cx : Cx) (rs : List ResultVar) (n0 : Nat) (v : V) (H' : Heap) (ex : Ex) (ρ : Env) (H1 : Heap) : Prop :=
 (match ex with | .exit _ => False | _ => True) ∧ ∃ vs ws, (rs.mapM (resV cx.P ρ H1)) = some vs ∧ vs.mapM (frz 6 n0 H1) = some ws ∧ packV ws = v ∧ H1.take n0 = H'
theorem Fp {cx : Cx} {f N : Nat} {fn : Func} {c : Code} {bs : List Nat} {args args' : List V} {H : Heap} {v : V} {H' : Heap} (hk : cx.keep f = false) (hf : cx.P.funcs[f]? = some fn) (hb : fn.body = some c)
  (hN : args.length + (fn.ntmps - args.length) = N) {rs : List ResultVar} (hr : fn.results.toList = rs) (ha : args.map V.norm = args')
  (h : Ev cx ⟨N, H.length :: bs⟩ c (fr args') H (Leaf cx rs H.length v H')) : callw cx bs f args H = some (v, H') := by
 subst ha
 refine call_of' hk hf hb hN hr (h.mono fun ex ρ' H1 hl => ?_)
 obtain ⟨h1, vs, ws, h2, h3⟩ := hl
 refine ⟨h1, vs, ws, ?_, h3⟩
 rw [← h2]
 congr 1
theorem CK {v : V} (he : ∀ id, ex ≠ .exit id) (hv : v = .undef) (hh : H1.take n0 = H') : Leaf cx [] n0 v H' ex ρ H1 := by
 refine ⟨?_, [], [], rfl, rfl, hv.symm, hh⟩
 cases ex with
 | exit id => exact absurd rfl (he id)
 | _ => trivial
theorem rf {r : ResultVar} {u v : V} (he : ∀ id, ex ≠ .exit id) (h1 : resV cx.P ρ H1 r = some u) (h2 : frz 6 n0 H1 u = some v) (hh : H1.take n0 = H') : Leaf cx [r] n0 v H' ex ρ H1 := by
 refine ⟨?_, [u], [v], by simp [h1], by simp [h2], rfl, hh⟩
 cases ex with
 | exit id => exact absurd rfl (he id)
 | _ => trivial
theorem Ii {r1 r2 : ResultVar} {u1 u2 v1 v2 : V} (he : ∀ id, ex ≠ .exit id) (h1 : resV cx.P ρ H1 r1 = some u1) (h2 : resV cx.P ρ H1 r2 = some u2) (h3 : frz 6 n0 H1 u1 = some v1) (h4 : frz 6 n0 H1 u2 = some v2) (hh : H1.take n0 = H') :
  Leaf cx [r1, r2] n0 (.tuple [v1, v2]) H' ex ρ H1 := by
 refine ⟨?_, [u1, u2], [v1, v2], by simp [h1, h2], by simp [h3, h4], rfl, hh⟩
 cases ex with
 | exit id => exact absurd rfl (he id)
 | _ => trivial
theorem bL {d : Nat} {H : Heap} {v : V} (h : v.pure = true) : frz (d + 1) n0 H v = some v := by unfold frz; rw [if_pos h]
theorem G1 {d t : Nat} {H : Heap} {es : List V} : frz (d + 1) n0 H (.tl t es) = some (.list es) := by simp [frz, V.pure]
theorem BM {P : Program} {t : Nat} : resV P ρ H1 (.tmp t) = some (ρ t) := rfl
theorem Av {P : Program} {a : Nat} {t : TypeId} : resV P ρ H1 (.cell a t) = loadV P t (ρ a) H1 := rfl
end
theorem uL (H : Heap) (x : HObj) (l : List HObj) : (H ++ x :: l)[H.length]? = some x := by simp
theorem wk (H : Heap) (l : List HObj) (k : Nat) : (H ++ l)[H.length + k]? = l[k]? := by
 rw [List.getElem?_append_right (by omega)]; congr 1; omega
theorem an (H : Heap) (x y : HObj) (l : List HObj) : (H ++ x :: l).set H.length y = H ++ y :: l := by simp
theorem ax (H : Heap) (l : List HObj) (k : Nat) (y : HObj) : (H ++ l).set (H.length + k) y = H ++ l.set k y := by
 rw [List.set_append_right _ _ (by omega)]; congr 2; omega
theorem uM (H : Heap) (l : List HObj) : (H ++ l).take H.length = H := by simp
def loops : Code → List Code
 | .seq a b => loops a ++ loops b
 | .cond _ a b => loops a ++ loops b
 | .block _ c | .scope c => loops c
 | .loop c => c :: loops c
 | _ => []
def loopAt (fn : Func) (k : Nat) : Code := ((fn.body.map loops).getD []).getD k .skip
theorem af {cx : Cx} {fx : Fx} {c c' : Code} (h : c = c') {ρ : Env} {H : Heap} {Q : Ex → Env → Heap → Prop} (k : Lp cx fx c ρ H Q) : Lp cx fx c' ρ H Q := h ▸ k
attribute [irreducible] Leaf
attribute [push_cast] EU G1 BM Av uL wk an ax uM beq_true beq_false
end Go.E
namespace Go.E
structure Kp (p : Prop) : Prop where
 out : p
theorem add1 (i n : Nat) (h : i < n) (hn : n ≤ 1000000) : IntKind.i64.wrap ((i : Int) + 1) = ((i + 1 : Nat) : Int) := by rw [bi] <;> omega
theorem vt {bs : List Nat} {id : Nat} {v : V} (h : ∀ n, v.under n = true) : okStore bs id v = true := by
 unfold okStore
 simp only [h, Bool.or_true, List.all_eq_true, Bool.or_eq_true]
 exact .inr fun _ _ => trivial
theorem wl (H : Heap) (i : Nat) (x : HObj) : (H.set i x).take H.length = H.set i x := List.take_of_length_le (by simp)
theorem G2 {k : IntKind} {n : Int} : (V.int k n).pure = true := Eq.trans rfl rfl
theorem Fq {b : Bool} : (V.bool b).pure = true := Eq.trans rfl rfl
theorem G3 {s : ByteArray} : (V.str s).pure = true := Eq.trans rfl rfl
theorem Fr : V.nilS.pure = true := Eq.trans rfl rfl
theorem Fs {es : List V} : (V.list es).pure = V.pureL es := Eq.trans rfl rfl
theorem G4 {cs : List V} : (V.agg cs).pure = V.pureL cs := Eq.trans rfl rfl
theorem Ft {cs : List V} {off : Nat} : (V.eptr cs off).pure = V.pureL cs := Eq.trans rfl rfl
theorem Fu {f : Nat} {cs : List V} : (V.func f cs).pure = V.pureL cs := Eq.trans rfl rfl
theorem G5 : V.pureL [] = true := Eq.trans rfl rfl
theorem Fv {v : V} {l : List V} : V.pureL (v :: l) = (v.pure && V.pureL l) := Eq.trans rfl rfl
theorem G6 {k : IntKind} {n : Int} : (V.int k n).cells = [.int k n] := Eq.trans rfl rfl
theorem Fw {b : Bool} : (V.bool b).cells = [.bool b] := Eq.trans rfl rfl
theorem G7 {s : ByteArray} : (V.str s).cells = [.str s] := Eq.trans rfl rfl
theorem Fy : V.nilS.cells = [.nilS] := Eq.trans rfl rfl
theorem Fz : V.nilF.cells = [.nilF] := Eq.trans rfl rfl
theorem FC : V.nilM.cells = [.nilM] := Eq.trans rfl rfl
theorem FD {es : List V} : (V.list es).cells = [.list es] := Eq.trans rfl rfl
theorem G8 {cs : List V} : (V.agg cs).cells = cs := Eq.trans rfl rfl
theorem FE {f : Nat} {cs : List V} : (V.func f cs).cells = [.func f cs] := Eq.trans rfl rfl
theorem Ij {t : Nat} {es : List V} : (V.tl t es).cells = [.tl t es] := Eq.trans rfl rfl
theorem G9 {s id ver off len : Nat} : (V.ref s id ver off len).cells = [.ref s id ver off len] := Eq.trans rfl rfl
theorem Ha {id : Nat} : (V.map id).cells = [.map id] := Eq.trans rfl rfl
attribute [push_cast] G6 Fw G7 Fy Fz FC FD G8 FE Ij G9 Ha not_true_eq_false not_false_eq_true or_false false_or or_self
attribute [push_cast] G2 Fq G3 Fr Fs G4 Ft Fu G5 Fv
attribute [push_cast] wl lookupV mapUpdateV simpleKeyT
attribute [push_cast] Option.map_some Option.map_none Option.bind_some Option.bind_none List.map_cons List.map_nil List.append_nil List.cons_append List.nil_append List.range_succ List.range_zero ne_eq not_false_eq_true and_self true_and and_true if_true if_false takeElems takeElem List.mapM_cons List.mapM_nil V.isCell List.all_cons List.all_nil Option.isSome_some Bool.not_true Bool.not_false Bool.true_and Bool.false_and Bool.and_true Bool.and_false Bool.true_or Bool.false_or Bool.or_true Bool.or_false Option.bind_eq_bind Option.pure_def List.getElem?_cons_zero List.getElem?_cons_succ List.getElem?_nil indexAddrV idxV Int.natCast_nonneg Int.toNat_natCast List.getElem?_map List.length_singleton List.length_cons List.length_nil loadV partV lenV List.length_map fieldAddrV fieldsT fieldV Nat.zero_add List.drop_succ_cons List.drop_zero List.take_succ_cons List.take_zero V.norm ju List.toList_toArray
end Go.E
namespace Go.E
section
variable {cx : Cx} {fx : Fx} {ops : Array Oper} {ρ : Env} {H : Heap}
def EvT (cx : Cx) (fx : Fx) (ops : Array Oper) (l : List Nat) (ρ : Env) (H : Heap) (K : List (Env × Heap) → Env → Heap → Prop) : Prop :=
 ∃ st ρ' H', evTrace cx fx (callw cx) ops l ρ H = some (st, ρ', H') ∧ K st ρ' H'
variable {r : List Nat} {K : List (Env × Heap) → Env → Heap → Prop} {dst : Option Nat} {ty : TypeId} {pos : String} {aft : Array Edge} {gd : Option (Nat × Bool)} {op : Op} {i : Nat}
theorem FF (h : K [] ρ H) : EvT cx fx ops [] ρ H K := ⟨_, _, _, rfl, h⟩
theorem tm {o : Oper} {ρ1 : Env} {H1 : Heap} (hi : ops[i]? = some o) (ho : evOper cx fx (callw cx) ops o ρ H = some (ρ1, H1)) (h : EvT cx fx ops r ρ1 H1 fun st => K ((ρ, H) :: st)) : EvT cx fx ops (i :: r) ρ H K := by
 obtain ⟨st, ρ', H', h1, h2⟩ := h
 exact ⟨(ρ, H) :: st, ρ', H', by simp only [evTrace, hi, Option.bind_some, ho, h1, Option.map_some], h2⟩
theorem Aw {d : Nat} {v : V} {H1 : Heap} (hi : ops[i]? = some ⟨some d, op, ty, pos, aft, gd⟩) (hw : wantedV ops ⟨some d, op, ty, pos, aft, gd⟩ ρ = some true) (ho : evOp cx fx (callw cx) ⟨some d, op, ty, pos, aft, gd⟩ ρ H = some (v, H1)) (hd : d < fx.n)
  (h : EvT cx fx ops r (ρ.put d v) H1 fun st => K ((ρ, H) :: st)) : EvT cx fx ops (i :: r) ρ H K :=
 tm hi (by simp only [evOper, hw, Option.bind_some, if_true, ho, hd]) h
theorem yn {v : V} {H1 : Heap} (hi : ops[i]? = some ⟨none, op, ty, pos, aft, gd⟩) (hw : wantedV ops ⟨none, op, ty, pos, aft, gd⟩ ρ = some true) (ho : evOp cx fx (callw cx) ⟨none, op, ty, pos, aft, gd⟩ ρ H = some (v, H1))
  (h : EvT cx fx ops r ρ H1 fun st => K ((ρ, H) :: st)) : EvT cx fx ops (i :: r) ρ H K :=
 tm hi (by simp only [evOper, hw, Option.bind_some, if_true, ho]) h
theorem FG {d : Nat} (hi : ops[i]? = some ⟨some d, op, ty, pos, aft, gd⟩) (hw : wantedV ops ⟨some d, op, ty, pos, aft, gd⟩ ρ = some false) (hd : d < fx.n) (h : EvT cx fx ops r (ρ.put d .skip) H fun st => K ((ρ, H) :: st)) : EvT cx fx ops (i :: r) ρ H K :=
 tm hi (by simp only [evOper, hw, Option.bind_some, Bool.false_eq_true, if_false, hd, if_true]) h
theorem BN (hi : ops[i]? = some ⟨none, op, ty, pos, aft, gd⟩) (hw : wantedV ops ⟨none, op, ty, pos, aft, gd⟩ ρ = some false) (h : EvT cx fx ops r ρ H fun st => K ((ρ, H) :: st)) : EvT cx fx ops (i :: r) ρ H K :=
 tm hi (by simp only [evOper, hw, Option.bind_some, Bool.false_eq_true, if_false]) h
theorem Ax {o : Oper} (b : Bool) (_ : ops[i]? = some o) (_ : wantedV ops o ρ = some b) (h1 : b = true → EvT cx fx ops (i :: r) ρ H K) (h2 : b = false → EvT cx fx ops (i :: r) ρ H K) : EvT cx fx ops (i :: r) ρ H K := by
 cases b; exact h2 rfl; exact h1 rfl
theorem wm {id : Nat} {ord : List Nat} {ps : List (Nat × Nat)} {Q : Ex → Env → Heap → Prop} (hc : canon ops = ord) (hd : drawOk ops ord = true) (hp : chkPairs cx.P ops (anc ops) ord = ps)
  (h : EvT cx fx ops ord ρ H fun st ρ' H' => chkAll cx.P ops ord st H' ps ∧ Q .normal ρ' H') : Ev cx fx (.region id ops true) ρ H Q := by
 obtain ⟨st, ρ', H', h1, h2, h3⟩ := h
 unfold Ev
 refine ⟨_, ρ', H', ?_, h3⟩
 subst hc; subst hp
 simp only [evCode, if_true, evDraw, if_pos hd, h1, Option.bind_some, if_pos h2, Option.map_some]
theorem BO {id : Nat} {ord : List Nat} {Q : Ex → Env → Heap → Prop} (hc : canon ops = ord) (hd : drawOk ops ord = true) (hp : chkPairs cx.P ops (anc ops) ord = [])
  (h : EvT cx fx ops ord ρ H fun _ ρ' H' => Q .normal ρ' H') : Ev cx fx (.region id ops true) ρ H Q := by
 refine wm hc hd hp ?_
 obtain ⟨st, ρ', H', h1, h2⟩ := h
 exact ⟨st, ρ', H', h1, trivial, h2⟩
def ChkK (P : Program) (ops : Array Oper) (ord : List Nat) (ps : List (Nat × Nat)) (Q : Env → Heap → Prop) (st : List (Env × Heap)) (ρ : Env) (H : Heap) : Prop := chkAll P ops ord st H ps ∧ Q ρ H
theorem mj {P : Program} {ord : List Nat} {ps : List (Nat × Nat)} {Q : Env → Heap → Prop} {st : List (Env × Heap)} (h1 : chkAll P ops ord st H ps) (h2 : Q ρ H) : ChkK P ops ord ps Q st ρ H := ⟨h1, h2⟩
theorem BP {id : Nat} {ord : List Nat} {ps : List (Nat × Nat)} {Q : Ex → Env → Heap → Prop} (hc : canon ops = ord) (hd : drawOk ops ord = true) (hp : chkPairs cx.P ops (anc ops) ord = ps)
  (h : EvT cx fx ops ord ρ H (ChkK cx.P ops ord ps (Q .normal))) : Ev cx fx (.region id ops true) ρ H Q := wm hc hd hp h
theorem rg {P : Program} {ord : List Nat} {st : List (Env × Heap)} {last : Heap} : chkAll P ops ord st last [] := trivial
theorem su {P : Program} {ord : List Nat} {st : List (Env × Heap)} {last : Heap} {p q : Nat} {l : List (Nat × Nat)} {o : Oper} {s t : Env × Heap} (ho : ops[ord.getD p 0]? = some o) (hs : st[p]? = some s) (ht : st[q]? = some t)
  (h : obsEq P o s.1 s.2 t.2 ((st[q + 1]?).map (·.2) |>.getD last)) (hr : chkAll P ops ord st last l) : chkAll P ops ord st last ((p, q) :: l) :=
 ⟨fun o' s' t' h1 h2 h3 => by rw [ho] at h1; rw [hs] at h2; rw [ht] at h3; cases h1; cases h2; cases h3; exact h, hr⟩
attribute [irreducible] EvT ChkK
end
end Go.E
namespace Go.E
def wr : Code → Nat → Bool
 | .region _ ops _, j => ops.toList.any fun o => o.dst == some j
 | .seq a b, j => wr a j || wr b j
 | .cond _ a b, j => wr a j || wr b j
 | .block _ c, j | .scope c, j | .loop c, j => wr c j
 | _, _ => false
section
variable {cx : Cx} {fx : Fx} {call : CallSem}
theorem qA {ops : Array Oper} {o : Oper} {ρ ρ' : Env} {H H' : Heap} (h : evOper cx fx call ops o ρ H = some (ρ', H')) {j : Nat} (hj : o.dst ≠ some j) : ρ' j = ρ j := by
 unfold evOper at h
 cases hw : wantedV ops o ρ with
 | none => simp [hw] at h
 | some b =>
  simp only [hw, Option.bind_some] at h
  cases hv : (if b = true then evOp cx fx call o ρ H else some (.skip, H)) with
  | none => simp [hv] at h
  | some r =>
   simp only [hv, Option.bind_some] at h
   cases hd : o.dst with
   | none => simp [hd] at h; rw [h.1]
   | some d =>
    simp only [hd] at h
    split at h
    ·simp at h
     have hne : j ≠ d := fun e => hj (by rw [hd, e])
     rw [← h.1]; simp [Env.put, hne]
    ·cases h
theorem rM {ops : Array Oper} {j : Nat} : ∀ {l : List Oper} {ρ ρ' : Env} {H H' : Heap}, evOps cx fx call ops l ρ H = some (ρ', H') → (∀ o ∈ l, o.dst ≠ some j) → ρ' j = ρ j
 | [], _, _, _, _, h, _ => by simp [evOps] at h; rw [h.1]
 | o :: l, ρ, ρ', H, H', h, hj => by
  simp only [evOps] at h
  cases hv : evOper cx fx call ops o ρ H with
  | none => simp [hv] at h
  | some s =>
   obtain ⟨ρ1, H1⟩ := s
   rw [hv] at h
   simp only [Option.bind_some] at h
   rw [rM h fun o ho => hj o (by simp [ho]), qA hv (hj o (by simp))]
theorem pW {ops : Array Oper} {j : Nat} (hj : ∀ o ∈ ops.toList, o.dst ≠ some j) : ∀ {l : List Nat} {ρ ρ' : Env} {H H' : Heap} {st}, evTrace cx fx call ops l ρ H = some (st, ρ', H') → ρ' j = ρ j
 | [], _, _, _, _, _, h => by simp [evTrace] at h; rw [h.2.1]
 | i :: l, ρ, ρ', H, H', st, h => by
  simp only [evTrace] at h
  cases ho : ops[i]? with
  | none => simp [ho] at h
  | some o =>
   simp only [ho, Option.bind_some] at h
   cases hv : evOper cx fx call ops o ρ H with
   | none => simp [hv] at h
   | some s =>
    obtain ⟨ρ1, H1⟩ := s
    rw [hv] at h
    simp only [Option.bind_some] at h
    cases ht : evTrace cx fx call ops l ρ1 H1 with
    | none => simp [ht] at h
    | some z =>
     obtain ⟨st', ρ2, H2⟩ := z
     rw [ht] at h
     simp at h
     have hm : o ∈ ops.toList := by
      have := Array.mem_of_getElem? ho
      exact Array.mem_toList_iff.2 this
     rw [← h.2.1, pW hj ht, qA hv (hj o hm)]
theorem wn {ops : Array Oper} {j : Nat} (hj : ∀ o ∈ ops.toList, o.dst ≠ some j) {ρ ρ' : Env} {H H' : Heap} (h : evDraw cx fx call ops ρ H = some (ρ', H')) : ρ' j = ρ j := by
 unfold evDraw at h
 split at h
 case isFalse => cases h
 cases ht : evTrace cx fx call ops (canon ops) ρ H with
 | none => simp [ht] at h
 | some z =>
  obtain ⟨st, ρ1, H1⟩ := z
  rw [ht] at h
  simp only [Option.bind_some] at h
  split at h
  ·simp at h; rw [← h.1]; exact pW hj ht
  ·cases h
theorem FH {l : List Oper} {j : Nat} (h : (l.any fun o => o.dst == some j) = false) : ∀ o ∈ l, o.dst ≠ some j := by
 intro o ho e
 rw [List.any_eq_false] at h
 exact h o ho (by simp [e])
theorem wo {j : Nat} : ∀ {c : Code} {ρ ρ' : Env} {H H' : Heap} {ex : Ex}, evCode cx fx loopw call c ρ H = some (ex, ρ', H') → wr c j = false → ρ' j = ρ j := by
 intro c
 induction c with
 | region id ops draw =>
  intro ρ ρ' H H' ex h hw
  simp only [wr] at hw
  have hj := FH hw
  simp only [evCode] at h
  cases draw with
  | false =>
   simp only [Bool.false_eq_true, if_false] at h
   cases ho : evOps cx fx call ops ops.toList ρ H with
   | none => simp [ho] at h
   | some s => obtain ⟨ρ1, H1⟩ := s; rw [ho] at h; simp at h; rw [← h.2.1]; exact rM ho hj
  | true =>
   simp only [if_true] at h
   cases ho : evDraw cx fx call ops ρ H with
   | none => simp [ho] at h
   | some s => obtain ⟨ρ1, H1⟩ := s; rw [ho] at h; simp at h; rw [← h.2.1]; exact wn hj ho
 | seq x y ihx ihy =>
  intro ρ ρ' H H' ex h hw
  simp only [wr, Bool.or_eq_false_iff] at hw
  simp only [evCode] at h
  cases hx : evCode cx fx loopw call x ρ H with
  | none => simp [hx] at h
  | some s =>
   obtain ⟨ex1, ρ1, H1⟩ := s
   rw [hx] at h
   cases ex1 with
   | normal => rw [ihy h hw.2, ihx hx hw.1]
   | exit _ => simp at h; rw [← h.2.1, ihx hx hw.1]
   | ret => simp at h; rw [← h.2.1, ihx hx hw.1]
 | cond o x y ihx ihy =>
  intro ρ ρ' H H' ex h hw
  simp only [wr, Bool.or_eq_false_iff] at hw
  simp only [evCode] at h
  split at h
  ·exact ihx h hw.1
  ·exact ihy h hw.2
  ·cases h
 | block id x ih =>
  intro ρ ρ' H H' ex h hw
  simp only [wr] at hw
  simp only [evCode] at h
  cases hx : evCode cx fx loopw call x ρ H with
  | none => simp [hx] at h
  | some s =>
   obtain ⟨ex1, ρ1, H1⟩ := s
   rw [hx] at h
   cases ex1 with
   | normal => simp at h; rw [← h.2.1, ih hx hw]
   | exit _ => simp at h; rw [← h.2.1, ih hx hw]
   | ret => simp at h; rw [← h.2.1, ih hx hw]
 | loop x ih =>
  intro ρ ρ' H H' ex h hw
  simp only [wr] at hw
  simp only [evCode] at h
  obtain ⟨n, hn⟩ := pf h
  clear h
  induction n generalizing ρ H with
  | zero => simp [loopn] at hn
  | succ n ihn =>
   simp only [loopn] at hn
   cases hx : evCode cx fx loopw call x ρ H with
   | none => simp [hx] at hn
   | some s =>
    obtain ⟨ex1, ρ1, H1⟩ := s
    rw [hx] at hn
    cases ex1 with
    | normal => rw [ihn hn, ih hx hw]
    | exit _ => simp at hn; rw [← hn.2.1, ih hx hw]
    | ret => simp at hn; rw [← hn.2.1, ih hx hw]
 | scope x ih => intro ρ ρ' H H' ex h hw; simp only [wr] at hw; simp only [evCode] at h; exact ih h hw
 | skip => intro ρ ρ' H H' ex h _; simp [evCode] at h; rw [h.2.1]
 | label _ => intro ρ ρ' H H' ex h _; simp [evCode] at h; rw [h.2.1]
 | exit _ => intro ρ ρ' H H' ex h _; simp [evCode] at h; rw [h.2.1]
 | ret => intro ρ ρ' H H' ex h _; simp [evCode] at h; rw [h.2.1]
 | rangeFunc f ps x y _ _ =>
  intro ρ ρ' H H' ex h _
  simp only [evCode] at h
  split at h
  ·rename_i gf caps _
   cases hi : cx.iter gf caps with
   | none => simp [hi] at h
   | some l =>
    rw [hi] at h
    simp only [Option.bind_some] at h
    cases hr : evRounds (evCode cx fx loopw call x) (evCode cx fx loopw call y) fx.n ps.toList ρ l H with
    | none => simp [hr] at h
    | some z => rw [hr] at h; simp at h; rw [h.2.1]
  ·cases h
 | _ => intro ρ ρ' H H' ex h _; simp [evCode] at h
end
section
variable {cx : Cx} {fx : Fx} {c : Code} {ρ : Env} {H : Heap} {Q : Ex → Env → Heap → Prop}
theorem BQ (h : Lp cx fx c ρ H Q) : Lp cx fx c ρ H fun ex ρ' H' => Q ex ρ' H' ∧ ∀ j, wr c j = false → ρ' j = ρ j := by
 unfold Lp at h ⊢
 obtain ⟨ex, ρ', H', h1, h2⟩ := h
 exact ⟨ex, ρ', H', h1, h2, fun j hj => wo (c := .loop c) (by simpa only [evCode] using h1) (by simpa only [wr] using hj)⟩
end
end Go.E
namespace Go.E
section
variable {cx : Cx} {fx : Fx} {c : Code} {Q : Ex → Env → Heap → Prop}
def roundQ (I : Env → Heap → Prop) (Q : Ex → Env → Heap → Prop) : Ex → Env → Heap → Prop
 | .normal, ρ, H => I ρ H
 | ex, ρ, H => Q ex ρ H
theorem pX {I : Env → Heap → Prop} {ρ : Env} {H : Heap} : roundQ I Q .normal ρ H ↔ I ρ H := Iff.rfl
theorem rN {I : Env → Heap → Prop} {ρ : Env} {H : Heap} {id : Nat} : roundQ I Q (.exit id) ρ H ↔ Q (.exit id) ρ H := Iff.rfl
theorem tp {I : Env → Heap → Prop} {ρ : Env} {H : Heap} : roundQ I Q .ret ρ H ↔ Q .ret ρ H := Iff.rfl
theorem dO {n : Nat} {Inv : Nat → Env → Heap → Prop} (hstep : ∀ i ρ H, i < n → Inv i ρ H → Ev cx fx c ρ H (roundQ (Inv (i + 1)) Q))
  (hend : ∀ ρ H, Inv n ρ H → Ev cx fx c ρ H (roundQ (fun _ _ => False) Q)) : ∀ i ρ H, i ≤ n → Inv i ρ H → Lp cx fx c ρ H Q := by
 intro i ρ H hi
 obtain ⟨k, hk⟩ : ∃ k, k = n - i := ⟨_, rfl⟩
 induction k generalizing i ρ H with
 | zero =>
  intro h
  obtain rfl : i = n := by omega
  refine dg ((hend ρ H h).mono fun ex ρ' H' hq => ?_)
  cases ex with
  | normal => exact hq.elim
  | exit id => exact jY.2 hq
  | ret => exact lb.2 hq
 | succ k ih =>
  intro h
  refine dg ((hstep i ρ H (by omega) h).mono fun ex ρ' H' hq => ?_)
  cases ex with
  | normal => exact jX.2 (ih (i + 1) ρ' H' (by omega) (by omega) hq)
  | exit id => exact jY.2 hq
  | ret => exact lb.2 hq
theorem ab {Q' : Ex → Env → Heap → Prop} {ρ : Env} {H : Heap} (h : Lp cx fx c ρ H Q) (hq : ∀ ex ρ' H', Q ex ρ' H' → (∀ j, wr c j = false → ρ' j = ρ j) → Q' ex ρ' H') : Lp cx fx c ρ H Q' :=
 (BQ h).mono fun ex ρ' H' h => hq ex ρ' H' h.1 h.2
end
attribute [irreducible] roundQ
def backL (es : List V) : List (List V) := (List.range es.length).reverse.map fun i : Nat => [.int .i64 (i : Int), es.getD i .undef]
def backOk (sz : Nat) : V → Bool
 | .agg cs => sz != 0 && cs.length == sz
 | e => sz == 0 && e.isCell
def iterB (back : List (Nat × Nat)) (gf : Nat) (caps : List V) : Option (List (List V)) :=
 match caps with
 | [.eptr [.list es] 0] =>
  match back.lookup gf with
  | some sz => if es.length ≤ 1000000 ∧ es.all (backOk sz) = true then some (backL es) else none
  | none => none
 | _ => none
theorem gq {α : Type} {l : List α} {i : Nat} {x : α} (h : l[i]? = some x) : l.drop i = x :: l.drop (i + 1) := by
 obtain ⟨h1, h2⟩ := List.getElem?_eq_some_iff.1 h
 rw [List.drop_eq_getElem_cons h1, h2]
def concatL : List V → Option (List V)
 | [] => some []
 | .list es :: r => (concatL r).map (es ++ ·)
 | _ => none
def concatV (sz : Nat) : List V → Option V
 | [.list ls] => (concatL ls).bind fun l => if l.length ≤ 1000000 ∧ ls.length ≤ 1000000 ∧ V.pureL l = true ∧ (l.all fun e => e.cells.length == sz && e.cells.all V.isCell) = true then some (.list l) else none
 | _ => none
def cloneV (sz : Nat) : List V → Option V
 | [.list es] => if es.length ≤ 1000000 then (takeElems sz es).map .list else none
 | _ => none
def intsOf : List V → Option (List Int)
 | [] => some []
 | .int .i64 n :: r => (intsOf r).map (n :: ·)
 | _ => none
def joinV : List V → Option V
 | [.list a, .list b] => (intsOf a).bind fun x => (intsOf b).bind fun y => if x.length + y.length ≤ 1000000 then some (.list ((x ++ y).map (.int .i64))) else none
 | _ => none
def freshI (copies : List Nat) (f : Nat) : List V → Option (Nat × List V)
 | [.list es] => if copies.contains f then (intsOf es).bind fun a => if 0 < a.length ∧ a.length ≤ 1000000 then some (1, es) else none else none
 | _ => none
def knownB (concats clones : List (Nat × Nat)) (joins : List Nat) (f : Nat) : Bool := (concats.lookup f).isSome || ((clones.lookup f).isSome || joins.contains f)
def knownL (concats clones : List (Nat × Nat)) (joins : List Nat) (f : Nat) (a : List V) : Option V :=
 match concats.lookup f with
 | some sz => concatV sz a
 | none => match clones.lookup f with
  | some sz => cloneV sz a
  | none => if joins.contains f then joinV a else none
end Go.E
namespace Go.E
theorem wq {bs : List Nat} {id : Nat} {v : V} (h : v.pure = true) : okStore bs id v = true := vt fun n => md n v h
theorem rO {bs : List Nat} {id : Nat} {v : V} (h : bs.headD 0 ≤ id) : okStore bs id v = true := by unfold okStore; rw [decide_eq_true h, Bool.true_or]
theorem wt {bs : List Nat} {n : Nat} {v : V} : okStore (n :: bs) n v = true := rO (Nat.le_refl _)
theorem wu {bs : List Nat} {n k : Nat} {v : V} : okStore (n :: bs) (n + k) v = true := rO (Nat.le_add_right _ _)
theorem qB {α : Type} {f : α → V} {l : List α} (h : ∀ x, (f x).pure = true) : V.pureL (l.map f) = true := by
 induction l with
 | nil => rfl
 | cons x l ih => simp only [List.map_cons, V.pureL, h, ih, Bool.and_self]
theorem eW {α : Type} {s : Nat} {f : α → V} {l : List α} (h : ∀ x, takeElem s (f x) = some (f x)) : takeElems s (l.map f) = some (l.map f) := by
 unfold takeElems
 induction l with
 | nil => rfl
 | cons x l ih => simp [List.mapM_cons, h, ih]
theorem lD {α : Type} {s : Nat} {f : α → V} {l : List α} (h : ∀ x, (f x).cells.length = s) : (l.map f).all (fun e => e.cells.length == s) = true := by
 rw [List.all_eq_true]
 intro y hy
 obtain ⟨x, _, rfl⟩ := List.mem_map.1 hy
 simp [h x]
theorem ph {d n0 : Nat} {H : Heap} : ∀ {l : List V}, V.pureL l = true → l.mapM (frz (d + 1) n0 H) = some l
 | [], _ => rfl
 | v :: l, h => by
  simp only [V.pureL, Bool.and_eq_true] at h
  simp only [List.mapM_cons, bL h.1, ph h.2, Option.bind_eq_bind, Option.bind_some, Option.pure_def]
theorem FI {d n0 : Nat} {H : Heap} {cs : List V} : frz (d + 2) n0 H (.agg cs) = (cs.mapM (frz (d + 1) n0 H)).map .agg := by
 by_cases h : V.pureL cs = true
 ·rw [bL (v := .agg cs) h, ph h, Option.map_some]
 ·rw [frz, if_neg (show ¬ (V.agg cs).pure = true from h)]
theorem BR {d n0 f : Nat} {H : Heap} {cs : List V} : frz (d + 2) n0 H (.func f cs) = (cs.mapM (frz (d + 1) n0 H)).map (.func f) := by
 by_cases h : V.pureL cs = true
 ·rw [bL (v := .func f cs) h, ph h, Option.map_some]
 ·rw [frz, if_neg (show ¬ (V.func f cs).pure = true from h)]
theorem FJ {d n0 id off : Nat} {H : Heap} (h : n0 ≤ id) : frz (d + 1) n0 H (.ptr id off) = (match H[id]? with | some (.cells cs) => (cs.mapM (frz d n0 H)).map (V.eptr · off) | _ => none) := by
 rw [frz, if_neg (by simp [V.pure]), if_neg (by omega)]
 cases H[id]? with
 | none => rfl
 | some ob => cases ob <;> rfl
theorem FK {d n0 s id ver off len : Nat} {H : Heap} (h : n0 ≤ id) : frz (d + 1) n0 H (.ref s id ver off len) = (match H[id]? with
  | some (.arr es v0) => if ver = v0 ∧ off + len ≤ es.length then (((es.drop off).take len).mapM (frz d n0 H)).bind fun l => if V.pureL l then some (.list l) else none else none
  | _ => none) := by
 rw [frz, if_neg (by simp [V.pure]), if_neg (by omega)]
 cases H[id]? with
 | none => rfl
 | some ob => cases ob <;> rfl
attribute [push_cast] bL ph FI BR FJ FK Nat.le_refl Nat.le_add_right List.drop_zero List.take_length
attribute [push_cast] wt wu wq qB eW lD storeV writeCells Option.some.injEq List.headD_cons List.set_cons_zero List.set_cons_succ List.length_append List.append_assoc
end Go.E
namespace Go.E
theorem jZ {cx : Cx} {bs : List Nat} {f : Nat} {args args' : List V} {H : Heap} (hk : cx.keep f = false) (ha : args.map V.norm = args'.map V.norm) : callw cx bs f args H = callw cx bs f args' H := by
 have hl : args.length = args'.length := by have := congrArg List.length ha; simpa using this
 have key : ∀ k, callk cx k bs f args H = callk cx k bs f args' H := by
  intro k
  cases k with
  | zero => rfl
  | succ k =>
   simp only [callk, evBody, hk, Bool.false_eq_true, if_false, hl, ha]
 unfold callw
 simp only [key]
section
variable {cx : Cx} {bs : List Nat} {f : Nat} {a b c d e : V} {H : Heap}
theorem FL {t : Nat} {es : List V} (hk : cx.keep f = false) : callw cx bs f [a, .tl t es, c] H = callw cx bs f [a, .list es, c] H := jZ hk rfl
theorem FM {t : Nat} {es : List V} (hk : cx.keep f = false) : callw cx bs f [a, b, c, .tl t es] H = callw cx bs f [a, b, c, .list es] H := jZ hk rfl
end
theorem BS {h : Decidable True} : @decide True h = true := by simp
theorem Ay {h : Decidable False} : @decide False h = false := by simp
attribute [push_cast] BS Ay not_true_eq_false not_false_eq_true
attribute [push_cast] FL FM
section
variable {H l : Heap} {m k : Nat} {x y z : HObj}
theorem yo : (H.set m x ++ y :: l)[H.length]? = some y := by rw [← List.length_set (as := H) (i := m) (a := x)]; exact uL _ _ _
theorem Az : (H.set m x ++ l)[H.length + k]? = l[k]? := by rw [← List.length_set (as := H) (i := m) (a := x)]; exact wk _ _ _
theorem aJ : (H.set m x ++ y :: l).set H.length z = H.set m x ++ z :: l := by rw [← List.length_set (as := H) (i := m) (a := x)]; exact an _ _ _ _
theorem aX : (H.set m x ++ l).set (H.length + k) y = H.set m x ++ l.set k y := by rw [← List.length_set (as := H) (i := m) (a := x)]; exact ax _ _ _ _
theorem yp : (H.set m x ++ l).take H.length = H.set m x := by rw [← List.length_set (as := H) (i := m) (a := x)]; exact uM _ _
end
attribute [push_cast] yo Az aJ aX yp List.length_set List.set_set
attribute [push_cast] Option.getD_some Nat.mul_one Nat.zero_mul
end Go.E
namespace Go.E
class Stp (p : Prop) (q : outParam Prop) : Prop where
 mp : q → p
theorem zz {p q : Prop} [s : Stp p q] (h : q) : p := s.mp h
class Dq (p : Prop) (q : outParam Prop) : Prop where
 mp : p → q
theorem dq {p q : Prop} [s : Dq p q] (h : p) : q := s.mp h
instance {a b : Int} {d : Decidable (a ≤ b)} : Dq (@decide (a ≤ b) d = true) (a ≤ b) := ⟨of_decide_eq_true⟩
instance {a b : Int} {d : Decidable (a < b)} : Dq (@decide (a < b) d = true) (a < b) := ⟨of_decide_eq_true⟩
instance {a b : Int} {d : Decidable (a ≤ b)} : Dq (@decide (a ≤ b) d = false) (b < a) := ⟨fun h => Int.not_le.1 (of_decide_eq_false h)⟩
instance {a b : Int} {d : Decidable (a < b)} : Dq (@decide (a < b) d = false) (b ≤ a) := ⟨fun h => Int.not_lt.1 (of_decide_eq_false h)⟩
theorem zt {p : Prop} [Decidable p] (h : decide p = true) : p := of_decide_eq_true h
theorem zn {b : Bool} : ((!b) = true) = (b = false) := Bool.not_eq_true' b
theorem zm {b : Bool} : ((!b) = false) = (b = true) := Bool.not_eq_false' b
theorem zd {p : Prop} {_ : Decidable p} : (decide p = true) = p := decide_eq_true_eq
theorem ze {p : Prop} {_ : Decidable p} : (decide p = false) = ¬ p := propext decide_eq_false_iff_not
section
variable {cx : Cx} {fx : Fx} {ρ : Env} {H : Heap} {Q : Ex → Env → Heap → Prop}
instance {a b : Code} : Stp (Ev cx fx (.seq a b) ρ H Q) (Ev cx fx a ρ H (thenQ cx fx b Q)) := ⟨GO⟩
instance {id : Nat} {ops : Array Oper} : Stp (Ev cx fx (.region id ops false) ρ H Q) (EvO cx fx ops ops.toList ρ H (Q .normal)) := ⟨Al⟩
instance {c : Code} : Stp (thenQ cx fx c Q .normal ρ H) (Ev cx fx c ρ H Q) := ⟨qz.2⟩
instance {c : Code} : Stp (thenQ cx fx c Q .ret ρ H) (Q .ret ρ H) := ⟨uK.2⟩
instance {c : Code} {id : Nat} : Stp (thenQ cx fx c Q (.exit id) ρ H) (Q (.exit id) ρ H) := ⟨ti.2⟩
instance : Stp (Ev cx fx .ret ρ H Q) (Q .ret ρ H) := ⟨GN⟩
instance : Stp (Ev cx fx .skip ρ H Q) (Q .normal ρ H) := ⟨EN⟩
instance {id : Nat} : Stp (Ev cx fx (.exit id) ρ H Q) (Q (.exit id) ρ H) := ⟨EO⟩
instance {c : Code} : Stp (Ev cx fx (.scope c) ρ H Q) (Ev cx fx c ρ H Q) := ⟨BB⟩
instance {l : Nat} : Stp (Ev cx fx (.label l) ρ H Q) (Q .normal ρ H) := ⟨BA⟩
instance {id : Nat} {c : Code} : Stp (Ev cx fx (.block id c) ρ H Q) (Ev cx fx c ρ H (blockQ id Q)) := ⟨BC⟩
instance {c : Code} : Stp (Ev cx fx (.loop c) ρ H Q) (Lp cx fx c ρ H Q) := ⟨EP⟩
instance {id : Nat} : Stp (blockQ id Q .normal ρ H) (Q .normal ρ H) := ⟨pV.2⟩
instance {id : Nat} : Stp (blockQ id Q .ret ρ H) (Q .ret ρ H) := ⟨tj.2⟩
instance {id : Nat} : Stp (blockQ id Q (.exit id) ρ H) (Q .normal ρ H) := ⟨fun h => nT.2 (by rw [if_pos rfl]; exact h)⟩
theorem z17 {id id' : Nat} (e : ¬ id' = id) (h : Q (.exit id') ρ H) : blockQ id Q (.exit id') ρ H := nT.2 (by rw [if_neg e]; exact h)
instance {c : Code} : Stp (loopQ cx fx c Q .normal ρ H) (Lp cx fx c ρ H Q) := ⟨jX.2⟩
instance {c : Code} : Stp (loopQ cx fx c Q .ret ρ H) (Q .ret ρ H) := ⟨lb.2⟩
instance {c : Code} {id : Nat} : Stp (loopQ cx fx c Q (.exit id) ρ H) (Q (.exit id) ρ H) := ⟨jY.2⟩
instance {I : Env → Heap → Prop} : Stp (roundQ I Q .normal ρ H) (I ρ H) := ⟨pX.2⟩
instance {I : Env → Heap → Prop} : Stp (roundQ I Q .ret ρ H) (Q .ret ρ H) := ⟨tp.2⟩
instance {I : Env → Heap → Prop} {id : Nat} : Stp (roundQ I Q (.exit id) ρ H) (Q (.exit id) ρ H) := ⟨rN.2⟩
theorem z24 {o : Operand} {x y : Code} {b : Bool} (hb : opnd ρ o = .bool b) (ht : b = true → Ev cx fx x ρ H Q) (hf : b = false → Ev cx fx y ρ H Q) : Ev cx fx (.cond o x y) ρ H Q := tS b hb ht hf
end
section
variable {cx : Cx} {fx : Fx} {ρ : Env} {H : Heap} {K : Env → Heap → Prop} {ops : Array Oper} {r : List Oper} {op : Op} {ty : TypeId} {pos : String} {aft : Array Edge} {gd : Option (Nat × Bool)}
instance : Stp (EvO cx fx ops [] ρ H K) (K ρ H) := ⟨Fl⟩
theorem z30 {d : Nat} {v : V} {H1 : Heap} (ho : evOp cx fx (callw cx) ⟨some d, op, ty, pos, aft, none⟩ ρ H = some (v, H1)) (hd : d < fx.n) (h : EvO cx fx ops r (ρ.put d v) H1 K) : EvO cx fx ops (⟨some d, op, ty, pos, aft, none⟩ :: r) ρ H K := At oz ho hd h
theorem z31 {v : V} {H1 : Heap} (ho : evOp cx fx (callw cx) ⟨none, op, ty, pos, aft, none⟩ ρ H = some (v, H1)) (h : EvO cx fx ops r ρ H1 K) : EvO cx fx ops (⟨none, op, ty, pos, aft, none⟩ :: r) ρ H K := ym oz ho h
theorem z32 {d : Nat} {v : V} {H1 : Heap} (hw : wantedV ops ⟨some d, op, ty, pos, aft, gd⟩ ρ = some true) (ho : evOp cx fx (callw cx) ⟨some d, op, ty, pos, aft, gd⟩ ρ H = some (v, H1)) (hd : d < fx.n) (h : EvO cx fx ops r (ρ.put d v) H1 K) :
  EvO cx fx ops (⟨some d, op, ty, pos, aft, gd⟩ :: r) ρ H K := At hw ho hd h
theorem z33 {v : V} {H1 : Heap} (hw : wantedV ops ⟨none, op, ty, pos, aft, gd⟩ ρ = some true) (ho : evOp cx fx (callw cx) ⟨none, op, ty, pos, aft, gd⟩ ρ H = some (v, H1)) (h : EvO cx fx ops r ρ H1 K) :
  EvO cx fx ops (⟨none, op, ty, pos, aft, gd⟩ :: r) ρ H K := ym hw ho h
theorem z34 {d : Nat} (hw : wantedV ops ⟨some d, op, ty, pos, aft, gd⟩ ρ = some false) (hd : d < fx.n) (h : EvO cx fx ops r (ρ.put d .skip) H K) : EvO cx fx ops (⟨some d, op, ty, pos, aft, gd⟩ :: r) ρ H K := Fm hw hd h
theorem z35 (hw : wantedV ops ⟨none, op, ty, pos, aft, gd⟩ ρ = some false) (h : EvO cx fx ops r ρ H K) : EvO cx fx ops (⟨none, op, ty, pos, aft, gd⟩ :: r) ρ H K := BL hw h
theorem z36 {o : Oper} {b : Bool} (hw : wantedV ops o ρ = some b) (h1 : b = true → EvO cx fx ops (o :: r) ρ H K) (h2 : b = false → EvO cx fx ops (o :: r) ρ H K) : EvO cx fx ops (o :: r) ρ H K := Au b True True hw h1 h2
end
section
variable {cx : Cx} {n0 : Nat} {H' : Heap} {ρ : Env} {H1 : Heap}
theorem z40 {r : ResultVar} {u v : V} (h1 : resV cx.P ρ H1 r = some u) (h2 : frz 6 n0 H1 u = some v) (hh : H1.take n0 = H') : Leaf cx [r] n0 v H' .ret ρ H1 := rf (by simp) h1 h2 hh
theorem z41 {r : ResultVar} {u v : V} (h1 : resV cx.P ρ H1 r = some u) (h2 : frz 6 n0 H1 u = some v) (hh : H1.take n0 = H') : Leaf cx [r] n0 v H' .normal ρ H1 := rf (by simp) h1 h2 hh
theorem z42 {r1 r2 : ResultVar} {u1 u2 v1 v2 : V} (h1 : resV cx.P ρ H1 r1 = some u1) (h2 : resV cx.P ρ H1 r2 = some u2) (h3 : frz 6 n0 H1 u1 = some v1) (h4 : frz 6 n0 H1 u2 = some v2) (hh : H1.take n0 = H') :
  Leaf cx [r1, r2] n0 (.tuple [v1, v2]) H' .ret ρ H1 := Ii (by simp) h1 h2 h3 h4 hh
end
section
variable {cx : Cx} {fx : Fx} {ops : Array Oper} {ρ : Env} {H : Heap} {r : List Nat} {K : List (Env × Heap) → Env → Heap → Prop} {ty : TypeId} {pos : String} {aft : Array Edge} {gd : Option (Nat × Bool)} {op : Op} {i : Nat}
theorem z50 {id : Nat} {ord : List Nat} {Q : Ex → Env → Heap → Prop} (hc : canon ops = ord) (hd : drawOk ops ord = true) (hp : chkPairs cx.P ops (anc ops) ord = []) (h : EvT cx fx ops ord ρ H fun _ ρ' H' => Q .normal ρ' H') : Ev cx fx (.region id ops true) ρ H Q := BO hc hd hp h
theorem z51 {id : Nat} {ord : List Nat} {ps : List (Nat × Nat)} {Q : Ex → Env → Heap → Prop} (hc : canon ops = ord) (hd : drawOk ops ord = true) (hp : chkPairs cx.P ops (anc ops) ord = ps) (h : EvT cx fx ops ord ρ H (ChkK cx.P ops ord ps (Q .normal))) :
  Ev cx fx (.region id ops true) ρ H Q := BP hc hd hp h
theorem z52 (h : K [] ρ H) : EvT cx fx ops [] ρ H K := FF h
theorem z54 {d : Nat} {v : V} {H1 : Heap} (hi : ops[i]? = some ⟨some d, op, ty, pos, aft, none⟩) (ho : evOp cx fx (callw cx) ⟨some d, op, ty, pos, aft, none⟩ ρ H = some (v, H1)) (hd : d < fx.n) (h : EvT cx fx ops r (ρ.put d v) H1 fun st => K ((ρ, H) :: st)) :
  EvT cx fx ops (i :: r) ρ H K := Aw hi oz ho hd h
theorem z55 {v : V} {H1 : Heap} (hi : ops[i]? = some ⟨none, op, ty, pos, aft, none⟩) (ho : evOp cx fx (callw cx) ⟨none, op, ty, pos, aft, none⟩ ρ H = some (v, H1)) (h : EvT cx fx ops r ρ H1 fun st => K ((ρ, H) :: st)) : EvT cx fx ops (i :: r) ρ H K := yn hi oz ho h
theorem z56 {d : Nat} {v : V} {H1 : Heap} (hi : ops[i]? = some ⟨some d, op, ty, pos, aft, gd⟩) (hw : wantedV ops ⟨some d, op, ty, pos, aft, gd⟩ ρ = some true) (ho : evOp cx fx (callw cx) ⟨some d, op, ty, pos, aft, gd⟩ ρ H = some (v, H1)) (hd : d < fx.n)
  (h : EvT cx fx ops r (ρ.put d v) H1 fun st => K ((ρ, H) :: st)) : EvT cx fx ops (i :: r) ρ H K := Aw hi hw ho hd h
theorem z57 {v : V} {H1 : Heap} (hi : ops[i]? = some ⟨none, op, ty, pos, aft, gd⟩) (hw : wantedV ops ⟨none, op, ty, pos, aft, gd⟩ ρ = some true) (ho : evOp cx fx (callw cx) ⟨none, op, ty, pos, aft, gd⟩ ρ H = some (v, H1)) (h : EvT cx fx ops r ρ H1 fun st => K ((ρ, H) :: st)) :
  EvT cx fx ops (i :: r) ρ H K := yn hi hw ho h
theorem z58 {d : Nat} (hi : ops[i]? = some ⟨some d, op, ty, pos, aft, gd⟩) (hw : wantedV ops ⟨some d, op, ty, pos, aft, gd⟩ ρ = some false) (hd : d < fx.n) (h : EvT cx fx ops r (ρ.put d .skip) H fun st => K ((ρ, H) :: st)) : EvT cx fx ops (i :: r) ρ H K := FG hi hw hd h
theorem z59 (hi : ops[i]? = some ⟨none, op, ty, pos, aft, gd⟩) (hw : wantedV ops ⟨none, op, ty, pos, aft, gd⟩ ρ = some false) (h : EvT cx fx ops r ρ H fun st => K ((ρ, H) :: st)) : EvT cx fx ops (i :: r) ρ H K := BN hi hw h
theorem z60 {o : Oper} {b : Bool} (hi : ops[i]? = some o) (hw : wantedV ops o ρ = some b) (h1 : b = true → EvT cx fx ops (i :: r) ρ H K) (h2 : b = false → EvT cx fx ops (i :: r) ρ H K) : EvT cx fx ops (i :: r) ρ H K := Ax b hi hw h1 h2
end
section
variable {P : Program} {ops : Array Oper} {ord : List Nat} {st : List (Env × Heap)} {last : Heap} {p q : Nat} {l : List (Nat × Nat)} {s t : Env × Heap} {dst : Option Nat} {ty : TypeId} {pos : String} {aft : Array Edge} {gd : Option (Nat × Bool)}
theorem zc1 {u : TypeId} {a : Operand} (ho : ops[ord.getD p 0]? = some ⟨dst, .load u a, ty, pos, aft, gd⟩) (hs : st[p]? = some s) (ht : st[q]? = some t)
  (h : loadV P u (opnd s.1 a) ((st[q + 1]?).map (·.2) |>.getD last) = loadV P u (opnd s.1 a) t.2) (hr : chkAll P ops ord st last l) : chkAll P ops ord st last ((p, q) :: l) := su ho hs ht h hr
theorem zc2 {u : TypeId} {m k : Operand} {ok : Bool} (ho : ops[ord.getD p 0]? = some ⟨dst, .lookup u m k ok, ty, pos, aft, gd⟩) (hs : st[p]? = some s) (ht : st[q]? = some t)
  (h : lookupV P u (opnd s.1 m) (opnd s.1 k) ok ((st[q + 1]?).map (·.2) |>.getD last) = lookupV P u (opnd s.1 m) (opnd s.1 k) ok t.2) (hr : chkAll P ops ord st last l) : chkAll P ops ord st last ((p, q) :: l) := su ho hs ht h hr
theorem zc3 {o : Oper} (ho : ops[ord.getD p 0]? = some o) (he : ∀ ρ Hp H H', obsEq P o ρ Hp H H' = (H'[Hp.length]? = H[Hp.length]?)) (hs : st[p]? = some s) (ht : st[q]? = some t)
  (h : ((st[q + 1]?).map (·.2) |>.getD last)[s.2.length]? = t.2[s.2.length]?) (hr : chkAll P ops ord st last l) : chkAll P ops ord st last ((p, q) :: l) := su ho hs ht (by rw [he]; exact h) hr
end
end Go.E
namespace Go.E
mutual
def V.same : V → V → Bool
 | .int k a, .int k' b => decide (k = k') && decide (a = b)
 | .bool a, .bool b => decide (a = b)
 | .str a, .str b => decide (a = b)
 | .nilS, .nilS | .nilP, .nilP | .nilF, .nilF | .nilM, .nilM | .nilI, .nilI | .undef, .undef | .skip, .skip => true
 | .list a, .list b => V.sameL a b
 | .tl t a, .tl u b => decide (t = u) && V.sameL a b
 | .ref a b c d e, .ref a' b' c' d' e' => decide (a = a') && decide (b = b') && decide (c = c') && decide (d = d') && decide (e = e')
 | .agg a, .agg b => V.sameL a b
 | .tuple a, .tuple b => V.sameL a b
 | .eptr a n, .eptr b m => V.sameL a b && decide (n = m)
 | .ptr a b, .ptr a' b' => decide (a = a') && decide (b = b')
 | .aptr a b c d, .aptr a' b' c' d' => decide (a = a') && decide (b = b') && decide (c = c') && decide (d = d')
 | .func f a, .func g b => decide (f = g) && V.sameL a b
 | .map a, .map b => decide (a = b)
 | _, _ => false
def V.sameL : List V → List V → Bool
 | [], [] => true
 | a :: as, b :: bs => V.same a b && V.sameL as bs
 | _, _ => false
end
mutual
theorem V.same_eq : ∀ {a b : V}, V.same a b = true → a = b
 | .int .., b, h | .bool _, b, h | .str _, b, h | .ref .., b, h | .ptr .., b, h | .aptr .., b, h | .map _, b, h
 | .nilS, b, h | .nilP, b, h | .nilF, b, h | .nilM, b, h | .nilI, b, h | .undef, b, h | .skip, b, h => by
  cases b <;> simp_all [V.same]
 | .list a, b, h => by
  cases b <;> simp only [V.same, Bool.false_eq_true] at h
  rw [V.sameL_eq h]
 | .tl t a, b, h => by
  cases b <;> simp only [V.same, Bool.false_eq_true, Bool.and_eq_true, decide_eq_true_eq] at h
  rw [h.1, V.sameL_eq h.2]
 | .agg a, b, h => by
  cases b <;> simp only [V.same, Bool.false_eq_true] at h
  rw [V.sameL_eq h]
 | .tuple a, b, h => by
  cases b <;> simp only [V.same, Bool.false_eq_true] at h
  rw [V.sameL_eq h]
 | .eptr a n, b, h => by
  cases b <;> simp only [V.same, Bool.false_eq_true, Bool.and_eq_true, decide_eq_true_eq] at h
  rw [V.sameL_eq h.1, h.2]
 | .func f a, b, h => by
  cases b <;> simp only [V.same, Bool.false_eq_true, Bool.and_eq_true, decide_eq_true_eq] at h
  rw [h.1, V.sameL_eq h.2]
theorem V.sameL_eq : ∀ {a b : List V}, V.sameL a b = true → a = b
 | [], b, h => by cases b <;> simp_all [V.sameL]
 | a :: as, b, h => by
  cases b with
  | nil => simp [V.sameL] at h
  | cons b bs =>
   simp only [V.sameL, Bool.and_eq_true] at h
   rw [V.same_eq h.1, V.sameL_eq h.2]
end
def sameP : List (V × V) → List (V × V) → Bool
 | [], [] => true
 | a :: as, b :: bs => V.same a.1 b.1 && V.same a.2 b.2 && sameP as bs
 | _, _ => false
def HObj.same : HObj → HObj → Bool
 | .cells a, .cells b => V.sameL a b
 | .arr a n, .arr b m => V.sameL a b && decide (n = m)
 | .tok n, .tok m => decide (n = m)
 | .map a, .map b => sameP a b
 | _, _ => false
def sameO {α : Type} (f : α → α → Bool) : Option α → Option α → Bool
 | none, none => true
 | some a, some b => f a b
 | _, _ => false
def obsB (P : Program) (o : Oper) (ρ : Env) (Hp H H' : Heap) : Bool :=
 match o.op with
 | .load t a => sameO V.same (loadV P t (opnd ρ a) H') (loadV P t (opnd ρ a) H)
 | .lookup t m k ok => sameO V.same (lookupV P t (opnd ρ m) (opnd ρ k) ok H') (lookupV P t (opnd ρ m) (opnd ρ k) ok H)
 | _ => sameO HObj.same H'[Hp.length]? H[Hp.length]?
def chkB (P : Program) (ops : Array Oper) (ord : List Nat) (st : List (Env × Heap)) (last : Heap) : List (Nat × Nat) → Bool
 | [] => true
 | (p, q) :: r =>
  (match ops[ord.getD p 0]?, st[p]?, st[q]? with
  | some o, some s, some t => obsB P o s.1 s.2 t.2 ((st[q + 1]?).map (·.2) |>.getD last)
  | _, _, _ => true) && chkB P ops ord st last r
def drawC (cx : Cx) (fx : Fx) (call : CallSem) (ops : Array Oper) (ρ : Env) (H : Heap) : Option (Env × Heap) :=
 if drawOk ops (canon ops) = true then
  (evTrace cx fx call ops (canon ops) ρ H).bind fun z =>
   if chkB cx.P ops (canon ops) z.1 z.2.2 (chkPairs cx.P ops (anc ops) (canon ops)) = true then some z.2 else none
 else none
def codeC (cx : Cx) (fx : Fx) (lp : LoopSem) (call : CallSem) : Code → Env → Heap → Option Res
 | .skip, ρ, H | .label _, ρ, H => some (.normal, ρ, H)
 | .region _ ops draw, ρ, H =>
  (if draw then drawC cx fx call ops ρ H else evOps cx fx call ops ops.toList ρ H).map fun s => (.normal, s.1, s.2)
 | .seq a b, ρ, H =>
  match codeC cx fx lp call a ρ H with
  | some (.normal, ρ', H') => codeC cx fx lp call b ρ' H'
  | r => r
 | .cond c a b, ρ, H =>
  match opnd ρ c with
  | .bool true => codeC cx fx lp call a ρ H
  | .bool false => codeC cx fx lp call b ρ H
  | _ => none
 | .block id c, ρ, H =>
  match codeC cx fx lp call c ρ H with
  | some (.exit id', ρ', H') => some (if id' = id then .normal else .exit id', ρ', H')
  | r => r
 | .loop c, ρ, H => lp (codeC cx fx lp call c) ρ H
 | .exit id, ρ, H => some (.exit id, ρ, H)
 | .ret, ρ, H => some (.ret, ρ, H)
 | .scope c, ρ, H => codeC cx fx lp call c ρ H
 | .rangeFunc f ps assign body, ρ, H =>
  match opnd ρ f with
  | .func gf caps => (cx.iter gf caps).bind fun l => (evRounds (codeC cx fx lp call assign) (codeC cx fx lp call body) fx.n ps.toList ρ l H).map fun r => (r.1, ρ, r.2)
  | _ => none
 | _, _, _ => none
def bodyC (cx : Cx) (lp : LoopSem) (call : CallSem) (bs : List Nat) (f : Nat) (args : List V) (H : Heap) : Option (V × Heap) :=
 match cx.P.funcs[f]? with
 | none => none
 | some fn =>
  match fn.body with
  | none => none
  | some c =>
   if cx.keep f then (match cx.known f (args.map V.norm) with | some v => some (v, H) | none => cx.act f (args.map V.norm) H) else
    (codeC cx ⟨args.length + (fn.ntmps - args.length), H.length :: bs⟩ lp call c (fun i => (args.map V.norm).getD i .undef) H).bind fun r =>
     match r.1 with
     | .exit _ => none
     | _ => (resultsV cx.P fn r.2.1 r.2.2).bind fun vs => (vs.mapM (frz 6 H.length r.2.2)).map fun ws => (packV ws, r.2.2.take H.length)
def callC (cx : Cx) : Nat → CallSem
 | 0 => fun _ _ _ _ => none
 | k + 1 => fun bs f args H => bodyC cx (loopn k) (callC cx k) bs f args H
end Go.E
namespace Go.E
open Go.RowKit
section
variable {P : Program} {g : G} {w : World} {bs : List Nat} {H : Heap}
theorem Out.world {g' : G} {u w' : World} {H' : Heap} (o : Out bs g w H g' u H') (hh : w'.heap = u.heap) (ho : w'.os = u.os) (ht : w'.tape = u.tape) (hp : w'.output = u.output) (hd : u.drawn ≤ w'.drawn) : Out bs g w H g' w' H' := by
 have e : ({ u with drawn := w'.drawn } : World) = w' := by cases w'; cases u; simp_all
 have := o.trans (sc o.sim w'.drawn hd)
 rwa [e] at this
theorem AA (hS : Sim bs g H w) {w' : World} (hB : Below w.heap.size w w') (hd : w.drawn ≤ w'.drawn) (hs : w'.heap.size = w.heap.size + 1) :
  Out bs g w H (g.lay w.heap.size (fun _ => .imm) H.length (g.φ H.length)) w' H := by
 have hlt : w.heap.size < w'.heap.size := by omega
 have e : w'.heap = w.heap.push w'.heap[w.heap.size] := by
  apply Array.ext_getElem?
  intro i
  by_cases hi : i < w.heap.size
  ·rw [hB.block i hi, Array.getElem?_push_lt hi]; simp [hi]
  ·by_cases hi2 : i = w.heap.size
   ·subst hi2; simp [hlt]
   ·rw [Array.getElem?_eq_none (by omega), Array.getElem?_eq_none (by simp; omega)]
 exact (oq hS _).world e hB.os hB.tape hB.output hd
def CatIn (g : G) (w : World) (sz cap : Nat) (es : List V) (v : Value) (wr : World) : Prop :=
 v = .slice (some ⟨w.heap.size, 0, none⟩) es.length cap ∧ (Below w.heap.size w wr ∧ w.drawn ≤ wr.drawn) ∧ wr.heap.size = w.heap.size + 1 ∧
 (∀ k, k < cap * sz → (wr.cell? ⟨w.heap.size, k, none⟩).isSome = true ∧ wr.frozen? ⟨w.heap.size, k, none⟩ = false) ∧
 ∀ (j : Nat) (e : V) (q : Nat) (y : V), es[j]? = some e → e.cells[q]? = some y → ∃ y', wr.cell? ⟨w.heap.size, j * sz + q, none⟩ = some y' ∧ VRel g w y y'
theorem AB {sz cap : Nat} {z : Array Value} {n : Nat} {t : TypeId} (hz : z.size = sz) (hn : n ≤ cap) :
  CatIn g w sz cap [] (.slice (some ⟨w.heap.size, 0, none⟩) 0 cap) (w.drew.alloc (.cells (([] : List Value).toArray ++ Builtin.zeroCells z n ++ Builtin.zeroCells z (cap - n)) t)) := by
 have hsz : (([] : List Value).toArray ++ Builtin.zeroCells z n ++ Builtin.zeroCells z (cap - n)).size = cap * sz := by
  simp [size_zeroCells, hz]; rw [← Nat.add_mul]; congr 1; omega
 refine ⟨rfl, ⟨⟨rfl, rfl, rfl, by simp, fun k hk => ?_⟩, Nat.le_succ _⟩, by simp, fun k hk => ⟨?_, ?_⟩, by simp⟩
 ·exact fZ (w := w.drew) _ (by simp; omega)
 ·have := aV (w := w.drew) (([] : List Value).toArray ++ Builtin.zeroCells z n ++ Builtin.zeroCells z (cap - n)) t (0, 0) k
  have e : (w.drew.alloc (.cells (([] : List Value).toArray ++ Builtin.zeroCells z n ++ Builtin.zeroCells z (cap - n)) t)).cell? ⟨w.heap.size, k, none⟩ = _ := this
  rw [e]
  rw [Array.getElem?_eq_getElem (by omega)]; rfl
 ·exact eE (w := w.drew) _ t k
theorem BT (hold : ∀ b o, g.O b o = .imm → b < w.heap.size) {t u e e2 ty sz cap : Nat} {es new : List V} {v x' : Value} {wr : World} (ht : P.underlying t = some (.slice e)) (hu : P.underlying u = some (.slice e2)) (hsz : sizeT P e = some sz)
    (hI : CatIn g w sz cap es v wr) (hx : VRel g w (.list new) x') (hn : ∀ el ∈ new, el.cells.length = sz ∧ el.cells.all V.isCell = true) (hes : ∀ (j : Nat) (el : V) (q : Nat) (y : V), es[j]? = some el → el.cells[q]? = some y → q < sz)
    (hcap : es.length + new.length ≤ cap) : ∃ v' w', (Builtin.append_ #[t, u] ty #[v, x']).run P wr = .ok v' w' ∧ CatIn g w sz cap (es ++ new) v' w' := by
  obtain ⟨rfl, ⟨hB, hD⟩, hs, hc, hr⟩ := hI
  obtain ⟨cells, h1, h2, h3⟩ := uu (P := P) hx (fun j el h => (hn el (List.mem_of_getElem? h)).1) wr (fun b o ho => hB.cell (hold b o ho))
  obtain ⟨a2, cap2, hx', hle⟩ := pb hx
  have hbd : es.length * sz + cells.length ≤ cap * sz := by rw [h2, ← Nat.add_mul]; exact Nat.mul_le_mul_right sz hcap
  have hone : ∀ v ∈ cells, v.oneCell' = true := fun v hv => by
    obtain ⟨k, hk⟩ := List.getElem?_of_mem hv
    obtain ⟨hlt, _⟩ := List.getElem?_eq_some_iff.1 hk
    have hsp : 0 < sz := by rcases Nat.eq_zero_or_pos sz with h | h
                            · rw [h] at h2; omega
                            · exact h
    have hd : k / sz < new.length := by rw [Nat.div_lt_iff_lt_mul hsp]; omega
    have hm : k % sz < sz := Nat.mod_lt _ hsp
    have e1 : new[k / sz]? = some new[k / sz] := by simp [hd]
    obtain ⟨g1, g2⟩ := hn _ (List.mem_of_getElem? e1)
    have e3 : (new[k / sz]).cells[k % sz]? = some ((new[k / sz]).cells[k % sz]'(by omega)) := by simp
    obtain ⟨u', e4, e5⟩ := h3 _ _ _ _ e1 e3
    rw [Nat.div_add_mod', hk] at e4
    cases e4
    exact (lY e5 (List.all_eq_true.1 g2 _ (List.mem_of_getElem? e3))).1
  have hsome : ∀ j, j < cells.length → (wr.cell? ⟨w.heap.size, 0 + es.length * sz + j, none⟩).isSome = true := fun j hj => by rw [Nat.zero_add]; exact (hc _ (by omega)).1
  have run := qw (P := P) (w := wr) (ty := ty) (b := w.heap.size) (o := 0) ht hu hsz hcap hx' h1 hsome (fun j hj => by rw [Nat.zero_add]; exact (hc _ (by omega)).2) hone
  obtain ⟨s1, s2, s3, s4, s5, s6⟩ := eV w.heap.size cells (0 + es.length * sz) wr
  refine ⟨_, _, run, by simp, ⟨⟨s3.trans hB.os, s4.trans hB.tape, s5.trans hB.output, by rw [s1]; exact hB.size, fun k hk => (s2 k (by omega)).trans (hB.block k hk)⟩, by rw [s6]; exact hD⟩, by rw [s1, hs], fun k hk => ⟨?_, ?_⟩, fun j el q y hj hy => ?_⟩
  · by_cases hin : es.length * sz ≤ k ∧ k < es.length * sz + cells.length
    · have := World.cell?_setCells_in w.heap.size cells (0 + es.length * sz) wr hsome (k - es.length * sz) (by omega)
      rw [show 0 + es.length * sz + (k - es.length * sz) = k by omega] at this
      rw [this]; rfl
    · rw [World.cell?_setCells_out _ _ _ _ _ (fun _ _ => by simp only; omega)]
      exact (hc k hk).1
  · rw [World.frozen?_setCells]; exact (hc k hk).2
  · rcases gp es new j el hj with ⟨hlt, hj1⟩ | ⟨hge, hlt, hj1⟩
    · obtain ⟨y', e1, e2⟩ := hr j el q y hj1 hy
      have hk := pa (sz := sz) hlt (hes j el q y hj1 hy)
      refine ⟨y', ?_, e2⟩
      rw [World.cell?_setCells_out _ _ _ _ _ (fun _ _ => by simp only; omega)]
      exact e1
    · obtain ⟨y', e1, e2⟩ := h3 _ _ _ _ hj1 hy
      have hjs : j * sz + q = es.length * sz + ((j - es.length) * sz + q) := by
        rw [← Nat.add_assoc, ← Nat.add_mul]; congr 2; omega
      obtain ⟨hlt2, e3⟩ := List.getElem?_eq_some_iff.1 e1
      have := World.cell?_setCells_in w.heap.size cells (0 + es.length * sz) wr hsome _ hlt2
      refine ⟨y', ?_, e2⟩
      rw [hjs]
      rw [Nat.zero_add] at this
      rw [Nat.zero_add, this, e3]
theorem FN (hS : Sim bs g H w) {sz cap : Nat} {es : List V} {v : Value} {wr : World} (hI : CatIn g w sz cap es v wr) (hcap : es.length ≤ cap) (hp : V.pureL es = true) (hes : ∀ (j : Nat) (e : V), es[j]? = some e → e.cells.length = sz) :
  ∃ g', Out bs g w H g' wr H ∧ VRel g' wr (.list es) v := by
 obtain ⟨rfl, ⟨hB, hD⟩, hs, hc, hr⟩ := hI
 have o := AA hS hB hD hs
 refine ⟨_, o, tQ (s := sz) (fun k => (wr.cell? ⟨w.heap.size, k, none⟩).getD Go.undef) hcap hes hp (fun k hk => ⟨by simp [G.lay], ?_⟩) (fun j e q y hj hy => ?_)⟩
 ·have h1 := (hc k (Nat.lt_of_lt_of_le hk (Nat.mul_le_mul_right sz hcap))).1
  rw [Nat.zero_add]
  cases h : wr.cell? ⟨w.heap.size, k, none⟩ with
  | none => rw [h] at h1; cases h1
  | some x => rfl
 ·obtain ⟨y', e1, e2⟩ := hr j e q y hj hy
  rw [e1]
  exact e2.mono o.ext
theorem zc (hS : Sim bs g H w) {t u e e2 ty sz by_ sCap : Nat} {es new : List V} {x' s' : Value} {a : Option Addr} {z : V}
  (ht : P.underlying t = some (.slice e)) (hu : P.underlying u = some (.slice e2)) (hsz : sizeT P e = some sz) (hby : bytesT P e = some by_) (hz : zeroT P e = some z)
  (hzl : z.cells.length = sz) (hzc : z.cells.all V.isCell = true) (hb0 : by_ ≠ 0) (hs' : s' = .slice a 0 sCap) (hs : VRel g w (.list []) s') (hx : VRel g w (.list es) x') (hnew : takeElems sz es = some new)
  (hroom : new.length * by_ ≤ roomB) (hgrow : sCap < new.length) :
  ∃ v' w' g', (Builtin.append_ #[t, u] ty #[s', x']).run P w = .ok v' w' ∧ Out bs g w H g' w' (H ++ [.arr new 0]) ∧ VRel g' w' (.ref sz H.length 0 0 new.length) v' := by
 obtain ⟨nc, w1, hle, hh, o1, cells, hcs, hrun, hrel⟩ := je (ty := ty) (es := []) (xs := es) hS ht hu hsz hby hz hzl hzc hb0 hs' (kI (P := P) hs (by simp) _ rfl) hx rfl hnew (by simpa using hroom) (by simpa using hgrow)
 simp only [List.length_nil, Nat.zero_add, List.nil_append] at hle hrun hrel
 have hB : w.heap.size = w1.heap.size := by rw [hh]
 rw [hB] at hrun
 obtain ⟨_, h2, _⟩ := al hnew
 have L := mI (o1.sim.more (.arr new 0)) (.cells cells e) (fun _ => .res H.length) (.arr new 0) (.arr w1.heap.size 0 sz (nc * sz) 0) (o1.sim.open _)
  (.arr _ _ _ _ _ _ (Nat.mul_le_mul_right sz hle) (fun j e' hj => (h2 e' (List.mem_of_getElem? hj)).1) (fun q hq => ⟨by simp [G.lay], eE cells e _, by
   rw [Nat.zero_add, aV]; exact ⟨cells[q]'(by omega), by simp [show q < cells.size by omega]⟩⟩) (fun j e' q v hj hv => by
   obtain ⟨y', e1, e2⟩ := hrel j e' q v hj hv
   rw [Nat.zero_add, aV]
   exact ⟨y', e1, (e2.mono o1.ext).mono (mw o1.sim _ _ (o1.sim.open (.arr new 0)).none _)⟩))
 exact ⟨_, _, _, hrun, o1.trans L.out, .ref _ _ _ _ _ nc w1.heap.size 0 sz (nc * sz) 0 _ _ (by simp [G.lay]) (Nat.le_refl _) hle (fun _ => ⟨rfl, fun _ => ⟨rfl, by omega, by rw [Nat.zero_add]; exact Nat.le_refl _⟩⟩)⟩
end
end Go.E
namespace Go.E
theorem Sim.wider {bs : List Nat} {n : Nat} {g : G} {H : Heap} {w : World} (hb : bs.headD 0 ≤ H.length) (hs : ∀ b ∈ bs, b ≤ bs.headD 0) (h : Sim (n :: bs) g H w) : Sim bs g H w :=
 ⟨hb, hs, h.dom, h.old, h.obj, fun id ob h1 h2 b hm => h.und id ob h1 h2 b (List.mem_cons_of_mem _ hm)⟩
theorem Hb {cx : Cx} (hm : cx.P.follows .mixedOrders = true) (hI : IterOk cx) (hK : KnownOk cx) (hN : ∀ (f : Nat) (fn : Func), cx.P.funcs[f]? = some fn → fn.name ≠ "runtime.NumGoroutine")
  {f : Nat} {fn : Func} {c : Code} (hf : cx.P.funcs[f]? = some fn) (hb : fn.body = some c) {bs : List Nat} {args : List V} {H H1 : Heap} {ρ' : Env} {vs : List V}
  (hc : evCode cx ⟨args.length + (fn.ntmps - args.length), H.length :: bs⟩ loopw (callw cx) c (fun i => (args.map V.norm).getD i .undef) H = some (.ret, ρ', H1)) (hv : resultsV cx.P fn ρ' H1 = some vs)
  (g : G) (w : World) (args' : List Value) (hS : Sim bs g H w) (hA : ArgsR g w args args') :
  Calls cx.P f args'.toArray w fun e w' => ∃ v' g', e = .returned v' ∧ Out bs g w H g' w' H1 ∧ VRel g' w' (packV vs) v' := by
 obtain ⟨k, hc⟩ := we _ _ _ _ hc
 have hD : DrawOk cx := mf hm
 have hsz : args'.toArray.size = args.length := by simp [hA.1]
 refine jU (r := none) (n := 0).1 (callsIn_of_wp_marks hf hb trivial ?_)
 rw [hsz]
 have hI' := sh (kX hA) (fn.ntmps - args.length)
 rw [List.length_map] at hI'
 refine ux (si hD hI hK hN k) hD hI k c none _ g w H H1 _ ρ' { tmps := args'.toArray ++ Array.replicate (fn.ntmps - args.length) Go.undef, defers := [] } .ret hc hS.enter (fun _ h => by cases h) hI' (fun a1 w1 g1 o1 e1 d1 => ?_)
 refine vY o1 e1 d1 (fun w2 o2 e2 => ?_)
 obtain ⟨vs', r1, r2⟩ := rJ o2.sim e2 hv
 exact ⟨_, r1, _, _, rfl, ⟨o2.sim.wider (Nat.le_trans hS.bl o2.len) hS.srt, o2.ext, o2.len, o2.dom⟩, vX r2⟩
end Go.E
namespace Go.E
inductive On : Prop | mk
structure Tw (a b : Prop) : Prop where
 l : a
 r : b
structure Hd (q : Prop) : Prop where
 out : q
inductive Fi : Prop → Prop
 | a : Fi On
 | b {x r : Prop} : Fi r → Fi (Tw x r)
theorem zs5 {q : Prop} (h : Hd q) : q := h.out
theorem zs0 : On := .mk
theorem zs2 {a b : Prop} (l : a) (r : b) : Tw a b := ⟨l, r⟩
theorem zs3 {a b : Prop} (h : Tw a b) : a := h.l
theorem zs4 {a b : Prop} (h : Tw a b) : b := h.r
structure Sd (p q : Prop) : Prop where
 l : p
 r : Fi q
theorem zs {p q : Prop} (k : q) (h : Hd q → Sd p q := by
 intro hZ
 apply Sd.mk
 ·repeat1' first
   | apply z52
   | (apply mj; (repeat ((first | (apply zc1; rfl) | (apply zc2; rfl) | (apply zc3; rfl; exact fun _ _ _ _ => rfl)); rfl; rfl; (first | rfl | (simp only [seval, push_cast, *] <;> fail)))); exact rg)
   | ((first | (apply z54; rfl) | (apply z55; rfl) | ((first | (apply z56; rfl) | (apply z57; rfl)); (simp only [seval, push_cast, *] <;> fail))); (simp only [seval, push_cast, *]; with_reducible rfl); try exact zt rfl)
   | ((first | (apply z58; rfl) | (apply z59; rfl)); (simp only [seval, push_cast, *] <;> fail); try exact zt rfl)
   | apply zz
   | (apply z17; decide)
   | ((first | apply z30 | apply z31 | ((first | apply z32 | apply z33); (simp only [seval, push_cast, *] <;> fail))); (simp only [seval, push_cast, *]; with_reducible rfl); try exact zt rfl)
   | ((first | apply z34 | apply z35); (simp only [seval, push_cast, *] <;> fail); try exact zt rfl)
   | ((first | (apply z24; (simp only [seval, push_cast, *]; with_reducible rfl)) | (apply z36; (simp only [seval, push_cast, *]; (fail_if_success (show _ = some true)); (fail_if_success (show _ = some false)); with_reducible rfl)) | (apply z60; rfl; (simp only [seval, push_cast, *]; (fail_if_success (show _ = some true)); (fail_if_success (show _ = some false)); with_reducible rfl))); all_goals (intro hX; (try simp only [zn, zm] at hX); (try exact absurd hX Bool.noConfusion); (try have hY := dq hX); try (exfalso; simp only [zd, ze] at hX; first | omega | (have := hk.out; omega))))
   | ((first | apply z40 | apply z41 | (apply z42; (simp only [seval, push_cast, *]; with_reducible rfl))); (simp only [seval, push_cast, *]; with_reducible rfl); all_goals (first | (simp only [seval, push_cast, *] <;> fail) | (simp only [seval, push_cast] <;> fail) | (rw [bL rfl] <;> (simp [*] <;> fail))))
  all_goals ((repeat clear hY); repeat revert hX)
  all_goals (apply zs3; repeat with_reducible (first | (apply zs5; assumption) | apply zs4))
 ·repeat' first | exact Fi.a | apply Fi.b) : p := (h ⟨k⟩).l
end Go.E
namespace Go.E
section
variable {cx : Cx} {fx : Fx} {Q : Ex → Env → Heap → Prop} {ρ0 : Env} {I : Heap → Prop}
def roundB (ρ0 : Env) (I : Heap → Prop) (Q : Ex → Env → Heap → Prop) : Ex → Env → Heap → Prop
 | .normal, _, H => I H
 | ex, _, H => Q ex ρ0 H
def roundA (cx : Cx) (fx : Fx) (B : Code) (ρ0 : Env) (I : Heap → Prop) (Q : Ex → Env → Heap → Prop) : Ex → Env → Heap → Prop
 | .normal, ρ, H => Ev cx fx B ρ H (roundB ρ0 I Q)
 | _, _, _ => False
instance {ρ : Env} {H : Heap} {B : Code} : Stp (roundA cx fx B ρ0 I Q .normal ρ H) (Ev cx fx B ρ H (roundB ρ0 I Q)) := ⟨id⟩
instance {ρ : Env} {H : Heap} : Stp (roundB ρ0 I Q .normal ρ H) (I H) := ⟨id⟩
instance {ρ : Env} {H : Heap} : Stp (roundB ρ0 I Q .ret ρ H) (Q .ret ρ0 H) := ⟨id⟩
instance {ρ : Env} {H : Heap} {k : Nat} : Stp (roundB ρ0 I Q (.exit k) ρ H) (Q (.exit k) ρ0 H) := ⟨id⟩
end
attribute [irreducible] roundA roundB
end Go.E
namespace Go.E
def ranges : Code → List (Code × Code)
 | .seq a b => ranges a ++ ranges b
 | .cond _ a b => ranges a ++ ranges b
 | .block _ c | .scope c | .loop c => ranges c
 | .rangeFunc _ _ a b => [(a, b)]
 | _ => []
def rangeAt (fn : Func) (k : Nat) : Code × Code := ((fn.body.map ranges).getD []).getD k (.skip, .skip)
def loopIn (fn : Func) (r k : Nat) : Code := (loops (rangeAt fn r).2).getD k .skip
end Go.E
namespace Go.E
def cmpI (x y : Int) : Int := if x < y then -1 else if x > y then 1 else 0
def cmpL : List Int → List Int → Int
 | [], [] => 0
 | [], _ :: _ => -1
 | _ :: _, [] => 1
 | x :: r, y :: s => if cmpI x y ≠ 0 then cmpI x y else cmpL r s
def befL : List Int → List Int → Bool
 | [], [] => false
 | [], _ :: _ => true
 | _ :: _, [] => false
 | x :: r, y :: s => if x = y then befL r s else decide (x < y)
theorem rh {x y : Int} : cmpI x y = 0 ↔ x = y := by unfold cmpI; split <;> (try split) <;> omega
theorem FO {x y : Int} : cmpI x y < 0 ↔ x < y := by unfold cmpI; split <;> (try split) <;> omega
theorem oA : ∀ a b : List Int, cmpL a b < 0 ↔ befL a b = true
 | [], [] => by simp [cmpL, befL]
 | [], _ :: _ => by simp [cmpL, befL]
 | _ :: _, [] => by simp [cmpL, befL]
 | x :: r, y :: s => by
  have ih := oA r s
  simp only [cmpL, befL]
  by_cases h : x = y
  ·rw [if_neg (by rw [ne_eq, rh]; simpa using h), if_pos h, ih]
  ·rw [if_pos (by rw [ne_eq, rh]; exact h), if_neg h, FO, decide_eq_true_eq]
theorem yq : ∀ a b : List Int, cmpL a b = 0 ↔ a = b
 | [], [] => by simp [cmpL]
 | [], _ :: _ => by simp [cmpL]
 | _ :: _, [] => by simp [cmpL]
 | x :: r, y :: s => by
  have ih := yq r s
  simp only [cmpL, List.cons.injEq]
  by_cases h : x = y
  ·rw [if_neg (by rw [ne_eq, rh]; simpa using h), ih]; simp [h]
  ·have := (not_congr (@rh x y)).2 h
   rw [if_pos this]; simp [this, h]
theorem sv : ∀ a : List Int, befL a a = false
 | [] => rfl
 | x :: r => by simp [befL, sv r]
theorem iP : ∀ a b c : List Int, befL a b = true → befL b c = true → befL a c = true
 | [], [], _, h, _ => by simp [befL] at h
 | [], _ :: _, [], _, h => by simp [befL] at h
 | [], _ :: _, _ :: _, _, _ => rfl
 | _ :: _, [], _, h, _ => by simp [befL] at h
 | _ :: _, _ :: _, [], _, h => by simp [befL] at h
 | x :: r, y :: s, z :: t, h, g => by
  simp only [befL] at h g ⊢
  split at h <;> split at g <;> split <;> simp_all
  ·exact iP _ _ _ h g
  all_goals omega
theorem pi : ∀ a b : List Int, befL a b = false → befL b a = false → a = b
 | [], [], _, _ => rfl
 | [], _ :: _, h, _ => by simp [befL] at h
 | _ :: _, [], _, h => by simp [befL] at h
 | x :: r, y :: s, h, g => by
  simp only [befL] at h g
  by_cases e : x = y
  ·rw [if_pos e] at h; rw [if_pos e.symm] at g; rw [e, pi r s h g]
  ·rw [if_neg e] at h; rw [if_neg (Ne.symm e)] at g
   simp at h g; omega
theorem xG (a b c : List Int) (h : befL a b = false) (g : befL b c = false) : befL a c = false := by
 cases hc : befL a c with
 | false => rfl
 | true =>
  cases hb : befL b a with
  | true => rw [iP b a c hb hc] at g; cases g
  | false => rw [pi a b h hb, g] at hc; cases hc
theorem AC {a b : List Int} (h : befL a b = true) : befL b a = false := by
 cases g : befL b a with
 | false => rfl
 | true => rw [← sv a, iP a b a h g]
def sortL (l : List (List Int)) : List (List Int) := l.mergeSort fun x y => !befL y x
theorem tq (l : List (List Int)) : (sortL l).Perm l := List.mergeSort_perm _ _
theorem Nv (l : List (List Int)) : (sortL l).length = l.length := (tq l).length_eq
theorem wv (l : List (List Int)) : (sortL l).Pairwise fun a b => (!befL b a) = true :=
 List.pairwise_mergeSort (fun a b c h g => by rw [Bool.not_eq_true'] at *; exact xG c b a g h) (fun a b => by
  cases h : befL b a with
  | false => rfl
  | true => rw [AC h]; rfl) l
theorem Nw {l m : List (List Int)} (hp : m.Perm l) (hs : m.Pairwise fun a b => (!befL b a) = true) : m = sortL l :=
 List.Perm.eq_of_pairwise (le := fun a b => (!befL b a) = true) (fun a b _ _ h g => pi a b (by simpa using g) (by simpa using h)) hs (wv l) (hp.trans (tq l).symm)
def listsOf : List V → Option (List (List Int))
 | [] => some []
 | .list es :: r => (intsOf es).bind fun a => (listsOf r).map (a :: ·)
 | _ => none
def encIs (l : List Int) : V := .list (l.map (.int .i64))
def sortAct (sorts : List (Nat × Nat)) (f : Nat) (args : List V) (H : Heap) : Option (V × Heap) :=
 match args with
 | [.ref s id ver 0 len, .func c []] =>
  match H[id]? with
  | some (.arr es v0) => if sorts.lookup f = some c ∧ s = 1 ∧ v0 = ver ∧ len = es.length ∧ 0 < len ∧ len ≤ 1000000 then
    (listsOf es).bind fun ls => if ls.all (fun x => decide (x.length ≤ 1000000)) = true then some (.undef, H.set id (.arr ((sortL ls).map encIs) ver)) else none else none
  | _ => none
 | _ => none
end Go.E
namespace Go.E
section
variable {α β : Type}
theorem iteE {c : Bool} {a b : Option α} {r : α} (h : Kp ((if c = true then a else b) = some r)) : (c = true ∧ Kp (a = some r)) ∨ (c = false ∧ Kp (b = some r)) := by
 have h := h.out
 cases c
 ·exact .inr ⟨rfl, ⟨by simpa using h⟩⟩
 ·exact .inl ⟨rfl, ⟨by simpa using h⟩⟩
theorem bindE {o : Option α} {f : α → Option β} {r : β} (h : Kp (o.bind f = some r)) : ∃ x, o = some x ∧ Kp (f x = some r) := by
 have h := h.out
 cases o with
 | none => cases h
 | some x => exact ⟨x, rfl, ⟨h⟩⟩
theorem grdE {p : Prop} [Decidable p] {a : Option α} {r : α} (h : Kp ((if p then a else none) = some r)) : p ∧ Kp (a = some r) := by
 have h := h.out
 by_cases hp : p
 ·rw [if_pos hp] at h; exact ⟨hp, ⟨h⟩⟩
 ·rw [if_neg hp] at h; cases h
theorem ed {a b : Bool} (h : (a && b) = true) : a = true ∧ b = true := by simpa using h
theorem someE {a r : α} (h : Kp (some a = some r)) : a = r := Option.some.inj h.out
def idxI (l : List α) (i : Int) : Option α := if 0 ≤ i then l[i.toNat]? else none
theorem idxE {l : List α} {i : Int} {x : α} (h : idxI l i = some x) : 0 ≤ i ∧ l[i.toNat]? = some x := by
 unfold idxI at h
 by_cases hp : 0 ≤ i
 ·rw [if_pos hp] at h; exact ⟨hp, h⟩
 ·rw [if_neg hp] at h; cases h
theorem gb {l : List α} {i : Nat} : idxI l (i : Int) = l[i]? := by simp [idxI]
def inI (x : Int) : Prop := -9223372036854775808 ≤ x ∧ x ≤ 9223372036854775807
instance {x : Int} : Decidable (inI x) := by unfold inI; infer_instance
theorem ac {x : Int} (h : inI x) : IntKind.i64.wrap x = x := by unfold inI at h; rw [bi] <;> omega
end
theorem aa {α : Type} {l : List α} {i : Nat} {x : α} (h : l[i]? = some x) : i < l.length := (List.getElem?_eq_some_iff.1 h).1
theorem ka {n k : Nat} (h : n ≤ 1000000) (hk : k ≤ 1000) : n * k ≤ roomB := by
 have := Nat.mul_le_mul h hk; unfold roomB; omega
theorem Hc {n : Nat} (h : n ≤ 1000000) : (n : Int) ≤ (roomB : Nat) := by unfold roomB; omega
theorem sl {p : Prop} (h : p := by (simp only [seval, push_cast, List.map_append, List.map_set, List.map_replicate, List.length_append, List.length_set, *] <;> rfl)) : p := h
theorem hq {a b : Heap} (h : a = b := by with_reducible_and_instances first | rfl | (simp only [List.length_append, List.length_singleton, List.length_cons, List.length_nil, List.map_append, List.map_cons, List.map_nil, List.map_set, List.map_replicate, Nat.zero_add]; rfl) | (simp only [seval, push_cast, List.map_set, List.map_replicate, List.length_append, List.length_set, *] <;> rfl)) : a = b := h
theorem hn {n m k : Nat} (hl : Kp (n = m)) (h : k = n := by first | rfl | simp only [List.length_set]) : Kp (k = m) := ⟨h.trans hl.out⟩
theorem ic {α : Type} (f : α → V) {l : List α} {n : Nat} (h : l.length = n) : List.take n (List.map f l) = List.map f l := List.take_of_length_le (by rw [List.length_map, h]; exact Nat.le_refl _)
theorem kb {α : Type} {l : List α} {n : Nat} (h : l.length = n) : n ≤ l.length := Nat.le_of_eq h.symm
def AnyL (v : V) (es : List V) : Prop := v = .list es ∨ ∃ t, v = .tl t es
theorem ai {α : Type} {l : List α} {i : Nat} (h : l.drop i = []) : decide ((i : Int) < (l.length : Int)) = false := by
 have : l.length ≤ i := by simpa using h
 exact decide_eq_false (by omega)
theorem gm {α : Type} {l r : List α} {x : α} {i : Nat} (h : l.drop i = x :: r) : i < l.length := by
 rcases Nat.lt_or_ge i l.length with h1 | h1
 ·exact h1
 ·rw [List.drop_of_length_le h1] at h; cases h
theorem aq {α : Type} {l r : List α} {x : α} {i : Nat} (h : l.drop i = x :: r) : decide ((i : Int) < (l.length : Int)) = true := decide_eq_true (by have := gm h; omega)
theorem ak {α : Type} {l r : List α} {x : α} {i : Nat} (h : l.drop i = x :: r) : l[i]? = some x := by
 have := congrArg (·[0]?) h
 simpa using this
theorem ah {α : Type} {l r : List α} {x : α} {i : Nat} (h : l.drop i = x :: r) : l.drop (i + 1) = r := by
 rw [← List.drop_drop, h]; rfl
theorem av {α : Type} {l r : List α} {x : α} {i : Nat} (h : l.drop i = x :: r) (hl : l.length ≤ 1000000) : inI ((i : Int) + 1) := by
 have := gm h
 unfold inI; omega
inductive Oc (α β : Type) where
 | a (x : α)
 | b (x : β)
theorem ae {cx : Cx} {fx : Fx} {c : Code} {σ τ : Type} {S : Nat → σ → Option τ} {rep : σ → Env → Heap → Prop} {Q : τ → Ex → Env → Heap → Prop} (h0 : ∀ s, S 0 s = none)
  (h : ∀ k s r ρ H, rep s ρ H → Kp (S (k + 1) s = some r) → Ev cx fx c ρ H (roundQ (fun ρ' H' => ∃ t, rep t ρ' H' ∧ S k t = some r) (Q r))) : ∀ k s r ρ H, rep s ρ H → S k s = some r → Lp cx fx c ρ H (Q r) := by
 intro k
 induction k with
 | zero => intro s r ρ H _ hs; rw [h0] at hs; cases hs
 | succ k ih =>
  intro s r ρ H hi hs
  refine dg ((h k s r ρ H hi ⟨hs⟩).mono fun ex ρ' H' hq => ?_)
  cases ex with
  | normal =>
   obtain ⟨t, h1, h2⟩ := pX.1 hq
   exact jX.2 (ih t r ρ' H' h1 h2)
  | exit id => exact jY.2 (rN.1 hq)
  | ret => exact lb.2 (tp.1 hq)
end Go.E
namespace Go.E
theorem get_app' {α : Type} {H : List α} {i : Nat} {x : α} (h : H[i]? = some x) (l : List α) : (H ++ l)[i]? = some x := by
 rw [List.getElem?_append_left (List.getElem?_eq_some_iff.1 h).1]; exact h
section
variable {H l : Heap} {m n c k : Nat} {o x y z w : HObj}
theorem ef (h : m < H.length) (x : HObj) : (H.set m x)[m]? = some x := by rw [List.getElem?_set_self h]
theorem gr (h : m < H.length) (x : HObj) (l : Heap) : (H.set m x ++ l)[m]? = some x := get_app' (ef h x) l
theorem gc (h : m < H.length) (x y : HObj) (l : Heap) : (H.set m x ++ l).set m y = H.set m y ++ l := by
 rw [List.set_append_left _ _ (by rw [List.length_set]; exact h), List.set_set]
theorem cN (h : H[c]? = some o) (hn : c ≠ m) (x : HObj) : (H.set m x)[c]? = some o := by rw [List.getElem?_set_ne (Ne.symm hn)]; exact h
theorem fg (h : H[c]? = some o) (hn : c ≠ m) (x : HObj) (l : Heap) : (H.set m x ++ l)[c]? = some o := get_app' (cN h hn x) l
theorem mO (h : m < H.length) (hn : m ≠ n) (x y : HObj) : ((H.set m x).set n y)[m]? = some x := by rw [List.getElem?_set_ne (Ne.symm hn)]; exact ef h x
theorem ri (h : m < H.length) (hn : m ≠ n) (x y : HObj) (l : Heap) : ((H.set m x).set n y ++ l)[m]? = some x := get_app' (mO h hn x y) l
theorem mP (h : n < H.length) (x y : HObj) : ((H.set m x).set n y)[n]? = some y := ef (by rw [List.length_set]; exact h) y
theorem rj (h : n < H.length) (x y : HObj) (l : Heap) : ((H.set m x).set n y ++ l)[n]? = some y := get_app' (mP h x y) l
theorem mQ (hn : m ≠ n) (x y z : HObj) : ((H.set m x).set n y).set m z = (H.set m z).set n y := by rw [List.set_comm _ _ hn.symm, List.set_set]
theorem rk (h : m < H.length) (hn : m ≠ n) (x y z : HObj) (l : Heap) : ((H.set m x).set n y ++ l).set m z = (H.set m z).set n y ++ l := by
 rw [List.set_append_left _ _ (by simpa using h), mQ hn]
theorem rl (h : n < H.length) (x y z : HObj) (l : Heap) : ((H.set m x).set n y ++ l).set n z = (H.set m x).set n z ++ l := gc (by rw [List.length_set]; exact h) y z l
theorem jf (h : H[c]? = some o) (h1 : c ≠ m) (h2 : c ≠ n) (x y : HObj) : ((H.set m x).set n y)[c]? = some o := cN (cN h h1 x) h2 y
theorem ml (h : H[c]? = some o) (h1 : c ≠ m) (h2 : c ≠ n) (x y : HObj) (l : Heap) : ((H.set m x).set n y ++ l)[c]? = some o := get_app' (jf h h1 h2 x y) l
theorem BU : ((H.set m x).set n w ++ y :: l)[H.length]? = some y := by
 have := @yo (H.set m x) l n w y; rwa [List.length_set] at this
theorem FP : ((H.set m x).set n w ++ l)[H.length + k]? = l[k]? := by
 have := @Az (H.set m x) l n k w; rwa [List.length_set] at this
theorem az : ((H.set m x).set n w ++ y :: l).set H.length z = (H.set m x).set n w ++ z :: l := by
 have := @aJ (H.set m x) l n w y z; rwa [List.length_set] at this
theorem aM : ((H.set m x).set n w ++ l).set (H.length + k) y = (H.set m x).set n w ++ l.set k y := by
 have := @aX (H.set m x) l n k w y; rwa [List.length_set] at this
theorem BV : ((H.set m x).set n w ++ l).take H.length = (H.set m x).set n w := by
 have := @yp (H.set m x) l n w; rwa [List.length_set] at this
theorem AD : ((H.set m x).set n w).take H.length = (H.set m x).set n w := by
 have := wl (H.set m x) n w; rwa [List.length_set] at this
end
theorem BW {x : Int} (h0 : 0 ≤ x) (h : inI x) : IntKind.u64.wrap x = x := by
 have h1 : x ≤ 9223372036854775807 := h.2
 obtain ⟨n, rfl⟩ : ∃ n : Nat, x = n := ⟨x.toNat, by omega⟩
 simp [IntKind.wrap, IntKind.bits, IntKind.signed]
 omega
theorem He {n m : Nat} {x : Int} (h : n / 2 = m) (hx : x = (n : Int)) : x.fdiv (2 ^ min 1 IntKind.u64.bits) = (m : Int) := by
 have h3 : (2 : Int) ^ min 1 IntKind.u64.bits = 2 := by decide
 rw [h3, hx, Int.fdiv_eq_ediv_of_nonneg _ (by omega)]; omega
theorem cutV {P : Program} {t e : TypeId} {s : Nat} {α : Type} (f : α → V) (hu : P.underlying t = some (.slice e)) (hs : sizeT P e = some s) (hc : ∀ x, (f x).cells.length = s) (l : List α) (lo hi : Option V) (a b : Nat)
  (h1 : boundV lo 0 = some a) (h2 : boundV hi l.length = some b) (h3 : a ≤ b) (h4 : b ≤ l.length) : sliceV P t (.list (l.map f)) lo hi none = some (.list (((l.take b).drop a).map f)) := by
 have hall : ((l.map f).all fun c => c.cells.length == s) = true := lD hc
 simp only [sliceV, hu, hs, Option.isSome_none, Bool.false_eq_true, if_false, Option.bind_some, List.length_map, h1, h2, hall]
 rw [if_pos ⟨h3, h4, trivial⟩, List.map_drop, List.map_take]
theorem boundI {x : Int} {d : Nat} (h : 0 ≤ x) : boundV (some (.int .i64 x)) d = some x.toNat := by simp [boundV, idxV, h]
theorem boundN {k d : Nat} : boundV (some (.int .i64 (k : Int))) d = some k := by simp [boundV, idxV]
attribute [push_cast] BU FP az aM BV AD
end Go.E
namespace Go.E
theorem AE {cx : Cx} {fx : Fx} {c c' : Code} (h : c = c') {ρ : Env} {H : Heap} {Q : Ex → Env → Heap → Prop} (k : Ev cx fx c ρ H Q) : Ev cx fx c' ρ H Q := h ▸ k
theorem yr {cx : Cx} {fx : Fx} {c : Code} {ρ : Env} {H : Heap} {Q Q' : Ex → Env → Heap → Prop} (h : Ev cx fx c ρ H Q) (hq : ∀ ex ρ' H', Q ex ρ' H' → Q' ex ρ' H') : Ev cx fx c ρ H Q' := h.mono hq
theorem ww {cx : Cx} {fx : Fx} {ρ : Env} {σ τ α : Type} {f : Operand} {ps : Array Nat} {A B : Code} {gf : Nat} {caps : List V} {g : α → List V} {L0 : List α} {S : List α → σ → Option τ} {rep : σ → Heap → Prop} {Q : τ → Ex → Env → Heap → Prop} {put : α → Env}
  (hf : opnd ρ f = .func gf caps) (hi : cx.iter gf caps = some (L0.map g)) (hl : ∀ x, (g x).length = ps.toList.length) (hp : ∀ x, putAll fx.n ρ (ps.toList.zip (g x)) = some (put x))
  (h0 : ∀ s r H, rep s H → Kp (S [] s = some r) → Q r .normal ρ H)
  (h1 : ∀ x L s r H, rep s H → Kp (S (x :: L) s = some r) → Ev cx fx A (put x) H (roundA cx fx B ρ (fun H' => ∃ t, rep t H' ∧ S L t = some r) (Q r))) :
  ∀ s r H, rep s H → S L0 s = some r → Ev cx fx (.rangeFunc f ps A B) ρ H (Q r) := by
 have key : ∀ (L : List α) s r H, rep s H → S L s = some r → ∃ ex H', evRounds (evCode cx fx loopw (callw cx) A) (evCode cx fx loopw (callw cx) B) fx.n ps.toList ρ (L.map g) H = some (ex, H') ∧ Q r ex ρ H' := by
  intro L
  induction L with
  | nil => intro s r H hr hs; exact ⟨.normal, H, rfl, h0 s r H hr ⟨hs⟩⟩
  | cons x L ih =>
   intro s r H hr hs
   have hx := h1 x L s r H hr ⟨hs⟩
   unfold Ev at hx
   obtain ⟨ex, ρ2, H2, e1, e2⟩ := hx
   cases ex with
   | exit _ => unfold roundA at e2; exact e2.elim
   | ret => unfold roundA at e2; exact e2.elim
   | normal =>
    have e2' : Ev cx fx B ρ2 H2 (roundB ρ (fun H' => ∃ t, rep t H' ∧ S L t = some r) (Q r)) := by unfold roundA at e2; exact e2
    unfold Ev at e2'
    obtain ⟨ex3, ρ3, H3, e3, e4⟩ := e2'
    cases ex3 with
    | normal =>
     unfold roundB at e4
     obtain ⟨t, q1, q2⟩ := e4
     obtain ⟨ex4, H4, e5, e6⟩ := ih t r H3 q1 q2
     exact ⟨ex4, H4, by simp only [List.map_cons, evRounds, hl, if_true, hp, Option.bind_some, e1, e3, e5], e6⟩
    | exit j => unfold roundB at e4; exact ⟨.exit j, H3, by simp only [List.map_cons, evRounds, hl, if_true, hp, Option.bind_some, e1, e3], e4⟩
    | ret => unfold roundB at e4; exact ⟨.ret, H3, by simp only [List.map_cons, evRounds, hl, if_true, hp, Option.bind_some, e1, e3], e4⟩
 intro s r H hr hs
 obtain ⟨ex, H', e1, e2⟩ := key L0 s r H hr hs
 unfold Ev
 exact ⟨ex, ρ, H', by simp only [evCode, hf, hi, Option.bind_some, e1, Option.map_some], e2⟩
def backP {α : Type} (l : List α) : List (Nat × α) := (l.zipIdx.map fun p => (p.2, p.1)).reverse
end Go.E
namespace Go.E
section
variable {cx : Cx} {fx : Fx} {ρ : Env} {H : Heap} {Q : Ex → Env → Heap → Prop}
theorem zct {o : Operand} {x y : Code} (hb : opnd ρ o = .bool true) (h : Ev cx fx x ρ H Q) : Ev cx fx (.cond o x y) ρ H Q := tS true hb (fun _ => h) (fun e => by cases e)
theorem zcf {o : Operand} {x y : Code} (hb : opnd ρ o = .bool false) (h : Ev cx fx y ρ H Q) : Ev cx fx (.cond o x y) ρ H Q := tS false hb (fun e => by cases e) (fun _ => h)
end
end Go.E
namespace Go.E
theorem zu {p q : Prop} (k : q) (h : Hd (Tw q On) → Sd p (Tw q On) := by
 intro hZ
 apply Sd.mk
 ·repeat1' first
   | apply z52
   | (apply mj; (repeat ((first | (apply zc1; rfl) | (apply zc2; rfl) | (apply zc3; rfl; exact fun _ _ _ _ => rfl)); rfl; rfl; (first | rfl | (simp only [seval, push_cast, *] <;> fail)))); exact rg)
   | ((first | (apply z54; rfl) | (apply z55; rfl) | ((first | (apply z56; rfl) | (apply z57; rfl)); (simp only [seval, push_cast, *] <;> fail))); (simp only [seval, push_cast, *]; with_reducible rfl); try exact zt rfl)
   | ((first | (apply z58; rfl) | (apply z59; rfl)); (simp only [seval, push_cast, *] <;> fail); try exact zt rfl)
   | apply zz
   | (apply z17; decide)
   | ((first | apply z30 | apply z31 | ((first | apply z32 | apply z33); (simp only [seval, push_cast, *] <;> fail))); (simp only [seval, push_cast, *]; with_reducible rfl); try exact zt rfl)
   | ((first | apply z34 | apply z35); (simp only [seval, push_cast, *] <;> fail); try exact zt rfl)
   | (first | (apply zct; (simp only [seval, push_cast, Bool.not_true, Bool.not_false, Bool.and_self, Bool.and_true, Bool.true_and, Bool.and_false, Bool.false_and, Bool.or_true, Bool.true_or, Bool.or_false, Bool.false_or, *] <;> fail)) | (apply zcf; (simp only [seval, push_cast, Bool.not_true, Bool.not_false, Bool.and_self, Bool.and_true, Bool.true_and, Bool.and_false, Bool.false_and, Bool.or_true, Bool.true_or, Bool.or_false, Bool.false_or, *] <;> fail)))
   | ((first | apply z40 | apply z41 | (apply z42; (simp only [seval, push_cast, *]; with_reducible rfl))); (simp only [seval, push_cast, *]; with_reducible rfl); all_goals (first | (simp only [seval, push_cast, *] <;> fail) | (simp only [seval, push_cast] <;> fail) | (rw [bL rfl] <;> (simp [*] <;> fail))))
  all_goals (apply zs3; repeat with_reducible (first | (apply zs5; assumption) | apply zs4))
 ·repeat' first | exact Fi.a | apply Fi.b) : p := (h ⟨⟨k, .mk⟩⟩).l
theorem zv {p : Prop} (h : Hd On → Sd p On := by
 intro hZ
 apply Sd.mk
 ·repeat1' first
   | apply z52
   | (apply mj; (repeat ((first | (apply zc1; rfl) | (apply zc2; rfl) | (apply zc3; rfl; exact fun _ _ _ _ => rfl)); rfl; rfl; (first | rfl | (simp only [seval, push_cast, *] <;> fail)))); exact rg)
   | ((first | (apply z54; rfl) | (apply z55; rfl) | ((first | (apply z56; rfl) | (apply z57; rfl)); (simp only [seval, push_cast, *] <;> fail))); (simp only [seval, push_cast, *]; with_reducible rfl); try exact zt rfl)
   | ((first | (apply z58; rfl) | (apply z59; rfl)); (simp only [seval, push_cast, *] <;> fail); try exact zt rfl)
   | apply zz
   | (apply z17; decide)
   | ((first | apply z30 | apply z31 | ((first | apply z32 | apply z33); (simp only [seval, push_cast, *] <;> fail))); (simp only [seval, push_cast, *]; with_reducible rfl); try exact zt rfl)
   | ((first | apply z34 | apply z35); (simp only [seval, push_cast, *] <;> fail); try exact zt rfl)
   | (first | (apply zct; (simp only [seval, push_cast, Bool.not_true, Bool.not_false, Bool.and_self, Bool.and_true, Bool.true_and, Bool.and_false, Bool.false_and, Bool.or_true, Bool.true_or, Bool.or_false, Bool.false_or, *] <;> fail)) | (apply zcf; (simp only [seval, push_cast, Bool.not_true, Bool.not_false, Bool.and_self, Bool.and_true, Bool.true_and, Bool.and_false, Bool.false_and, Bool.or_true, Bool.true_or, Bool.or_false, Bool.false_or, *] <;> fail)))
   | ((first | apply z40 | apply z41 | (apply z42; (simp only [seval, push_cast, *]; with_reducible rfl))); (simp only [seval, push_cast, *]; with_reducible rfl); all_goals (first | (simp only [seval, push_cast, *] <;> fail) | (simp only [seval, push_cast] <;> fail) | (rw [bL rfl] <;> (simp [*] <;> fail))))
  all_goals (apply zs3; repeat with_reducible (first | (apply zs5; assumption) | apply zs4))
 ·repeat' first | exact Fi.a | apply Fi.b) : p := (h ⟨.mk⟩).l
theorem zw {p q : Prop} (k : q) (h : Hd (Tw q On) → Sd p (Tw q On) := by
 intro hZ
 apply Sd.mk
 ·repeat1' first
   | apply z52
   | (apply mj; (repeat ((first | (apply zc1; rfl) | (apply zc2; rfl) | (apply zc3; rfl; exact fun _ _ _ _ => rfl)); rfl; rfl; (first | rfl | (simp only [seval, push_cast, *] <;> fail)))); exact rg)
   | ((first | (apply z54; rfl) | (apply z55; rfl) | ((first | (apply z56; rfl) | (apply z57; rfl)); (simp only [seval, push_cast, *] <;> fail))); (simp only [seval, push_cast, *]; with_reducible rfl); try exact zt rfl)
   | ((first | (apply z58; rfl) | (apply z59; rfl)); (simp only [seval, push_cast, *] <;> fail); try exact zt rfl)
   | apply zz
   | (apply z17; decide)
   | ((first | apply z30 | apply z31 | ((first | apply z32 | apply z33); (simp only [seval, push_cast, *] <;> fail))); (simp only [seval, push_cast, *]; with_reducible rfl); try exact zt rfl)
   | ((first | apply z34 | apply z35); (simp only [seval, push_cast, *] <;> fail); try exact zt rfl)
   | (first | (apply zct; (simp only [seval, push_cast, Bool.not_true, Bool.not_false, Bool.and_self, Bool.and_true, Bool.true_and, Bool.and_false, Bool.false_and, Bool.or_true, Bool.true_or, Bool.or_false, Bool.false_or, *] <;> fail)) | (apply zcf; (simp only [seval, push_cast, Bool.not_true, Bool.not_false, Bool.and_self, Bool.and_true, Bool.true_and, Bool.and_false, Bool.false_and, Bool.or_true, Bool.true_or, Bool.or_false, Bool.false_or, *] <;> fail)))
  all_goals (apply zs3; repeat with_reducible (first | (apply zs5; assumption) | apply zs4))
 ·repeat' first | exact Fi.a | apply Fi.b) : p := (h ⟨⟨k, .mk⟩⟩).l
theorem gt {p : Prop} (h : p := by first | assumption | (simp only [push_cast, *] <;> done) | simp [*]) : p := h
theorem ln {p : Prop} (h : p := by (try simp only [List.length_append, List.length_set, List.length_cons, List.length_nil]); omega) : p := h
theorem om {p : Prop} (h : p := by omega) : p := h
end Go.E
namespace Go.E
section
variable {cx : Cx} {it : Nat → List V → Option (List (List V))} {fx : Fx}
theorem BX (call : CallSem) (ops : Array Oper) (l : List Oper) (ρ : Env) (H : Heap) : evOps { cx with iter := it } fx call ops l ρ H = evOps cx fx call ops l ρ H := by
 have key : ∀ (o : Oper) ρ H, evOp { cx with iter := it } fx call o ρ H = evOp cx fx call o ρ H := fun o ρ H => by unfold evOp; rfl
 have key2 : ∀ (o : Oper) ρ H, evOper { cx with iter := it } fx call ops o ρ H = evOper cx fx call ops o ρ H := fun o ρ H => by unfold evOper; simp only [key]
 induction l generalizing ρ H with
 | nil => rfl
 | cons o r ih => unfold evOps; rw [key2]; simp only [ih]
theorem zf (call : CallSem) (ops : Array Oper) (l : List Nat) (ρ : Env) (H : Heap) : evTrace { cx with iter := it } fx call ops l ρ H = evTrace cx fx call ops l ρ H := by
 have key : ∀ (o : Oper) ρ H, evOp { cx with iter := it } fx call o ρ H = evOp cx fx call o ρ H := fun o ρ H => by unfold evOp; rfl
 have key2 : ∀ (o : Oper) ρ H, evOper { cx with iter := it } fx call ops o ρ H = evOper cx fx call ops o ρ H := fun o ρ H => by unfold evOper; simp only [key]
 induction l generalizing ρ H with
 | nil => rfl
 | cons o r ih => unfold evTrace; simp only [key2, ih]
theorem AF (call : CallSem) (ops : Array Oper) (ρ : Env) (H : Heap) : evDraw { cx with iter := it } fx call ops ρ H = evDraw cx fx call ops ρ H := by
 unfold evDraw; simp only [zf]
theorem AG (hi : ∀ gf caps l, cx.iter gf caps = some l → it gf caps = some l) {lp : LoopSem} (hl : LLe lp lp) (call : CallSem) :
  ∀ (c : Code) (ρ : Env) (H : Heap) (r : Res), evCode cx fx lp call c ρ H = some r → evCode { cx with iter := it } fx lp call c ρ H = some r := by
 intro c
 induction c with
 | region id ops draw => intro ρ H r h; simp only [evCode, AF, BX] at h ⊢; exact h
 | seq a b iha ihb =>
  intro ρ H r h
  simp only [evCode] at h ⊢
  cases ha : evCode cx fx lp call a ρ H with
  | none => rw [ha] at h; simp at h
  | some s =>
   obtain ⟨ex, ρ', H'⟩ := s
   rw [ha] at h
   rw [iha _ _ _ ha]
   cases ex with
   | normal => exact ihb _ _ _ h
   | exit id => exact h
   | ret => exact h
 | cond o a b iha ihb =>
  intro ρ H r h
  simp only [evCode] at h ⊢
  split at h
  ·exact iha _ _ _ h
  ·exact ihb _ _ _ h
  ·cases h
 | block id c ih =>
  intro ρ H r h
  simp only [evCode] at h ⊢
  cases ha : evCode cx fx lp call c ρ H with
  | none => rw [ha] at h; simp at h
  | some s =>
   obtain ⟨ex, ρ', H'⟩ := s
   rw [ha] at h
   rw [ih _ _ _ ha]
   exact h
 | loop c ih => intro ρ H r h; simp only [evCode] at h ⊢; exact hl _ _ (fun ρ H r h => ih ρ H r h) _ _ _ h
 | scope c ih => intro ρ H r h; simp only [evCode] at h ⊢; exact ih _ _ _ h
 | rangeFunc f ps A B ihA ihB =>
  intro ρ H r h
  simp only [evCode] at h ⊢
  split at h
  case h_2 => cases h
  rename_i gf caps hf
  cases hx : cx.iter gf caps with
  | none => rw [hx] at h; cases h
  | some l =>
   rw [hx] at h
   simp only [hi _ _ _ hx, Option.bind_some] at h ⊢
   cases hr : evRounds (evCode cx fx lp call A) (evCode cx fx lp call B) fx.n ps.toList ρ l H with
   | none => rw [hr] at h; cases h
   | some s => rw [hr] at h; rw [kT (fun ρ H r h => ihA ρ H r h) (fun ρ H r h => ihB ρ H r h) _ _ _ hr]; exact h
 | skip => intro ρ H r h; simpa [evCode] using h
 | label l => intro ρ H r h; simpa [evCode] using h
 | exit id => intro ρ H r h; simpa [evCode] using h
 | ret => intro ρ H r h; simpa [evCode] using h
 | goto l => intro ρ H r h; simp [evCode] at h
 | refuse w => intro ρ H r h; simp [evCode] at h
theorem AH (hi : ∀ gf caps l, cx.iter gf caps = some l → it gf caps = some l) {lp : LoopSem} (hl : LLe lp lp) (call : CallSem) : CLe (evBody cx lp call) (evBody { cx with iter := it } lp call) := by
 intro bs f a H r h
 unfold evBody at h ⊢
 cases hf : cx.P.funcs[f]? with
 | none => simp [hf] at h
 | some fn =>
  cases hb : fn.body with
  | none => simp [hf, hb] at h
  | some c =>
   simp only [hf, hb] at h ⊢
   by_cases hk : cx.keep f = true
   ·simp only [hk, if_true] at h ⊢; exact h
   ·simp only [hk, if_false] at h ⊢
    cases hc : evCode cx ⟨a.length + (fn.ntmps - a.length), H.length :: bs⟩ lp call c (fun i => (a.map V.norm).getD i .undef) H with
    | none => rw [hc] at h; simp at h
    | some s =>
     rw [hc] at h
     rw [AG hi hl call _ _ _ _ hc]
     exact h
theorem wx (hi : ∀ gf caps l, cx.iter gf caps = some l → it gf caps = some l) : ∀ k, CLe (callk cx k) (callk { cx with iter := it } k)
 | 0 => fun _ _ _ _ _ h => by simp [callk] at h
 | k + 1 => fun bs f a H r h => by
  have ll : LLe (loopn k) (loopn k) := kK (Nat.le_refl k)
  exact uG ll (wx hi k) _ _ _ _ _ (AH hi ll (callk cx k) _ _ _ _ _ h)
theorem BY (hi : ∀ gf caps l, cx.iter gf caps = some l → it gf caps = some l) {bs : List Nat} {f : Nat} {a : List V} {H : Heap} {r : V × Heap} (h : callw cx bs f a H = some r) : callw { cx with iter := it } bs f a H = some r := by
 obtain ⟨k, hk⟩ := mg h
 exact wb (wx hi k _ _ _ _ _ hk)
end
end Go.E
namespace Go.E
section
variable {cx : Cx} {call : CallSem} {fx : Fx} {ops : Array Oper} {ord : List Nat} {S : Nat → Env × Heap}
def partOk (ops : Array Oper) (ord : List Nat) : Bool :=
 nodupB ord && topoOk ops [] ord && effOk ops (anc ops) ord && tmpOk ops (anc ops) && (List.range ops.size).all fun i => ord.contains i || ord.all fun j => ((anc ops).getD i []).contains j
theorem some_ready' (t : Tr cx call fx ops ord S) {listed : Array Bool} (hs : listed.size = ops.size) {p : Nat} : ∀ {i : Nat}, ord[p]? = some i → ¬ Lof listed i → Region.ready .any ops listed ≠ [] := by
 induction p using Nat.strongRecOn with
 | ind p ih =>
  intro i hp hn
  obtain ⟨o, ho⟩ := t.op hp
  by_cases hall : ∀ e ∈ edgesOf o, Lof listed e
  ·exact List.ne_nil_of_mem ((kZ hs).2 ⟨o, ho, hn, hall⟩)
  ·simp only [Classical.not_forall] at hall
   obtain ⟨e, he, hne⟩ := hall
   obtain ⟨q, hq, hqe⟩ := kJ.1 (t.edges hp ho e he)
   exact ih q hq hqe hne
theorem BZ {r : Option Nat} (t : Tr cx call fx ops ord S) (hC : CallOk cx call) {g0 : G} {w0 : World} {ds : List Deferred} (hb : ∀ id, g0.φ id ≠ none → id < (S 0).2.length) (hb0 : fx.bs.headD 0 ≤ (S 0).2.length)
  (hpart : ∀ i, i < ops.size → i ∈ ord ∨ ∀ j ∈ ord, j ∈ (anc ops).getD i []) {Q : Exit → Act → World → Prop} (m : Nat)
  (hQ : ∀ a w g T listed, listed.size = ops.size → (∀ i, Lof listed i ↔ i ∈ ord) → DInv fx ops ord S g0 w0 ds (· ∈ ord) T a w g → wpAnyIn (FR r) 0 cx.P .any ops Q m listed a w) :
  ∀ (n : Nat) (listed : Array Bool), listed.size = ops.size → (∀ i, Lof listed i → i ∈ ord) → (ord.filter fun i => !listed.getD i false).length = n → ∀ a w g T, DInv fx ops ord S g0 w0 ds (Lof listed) T a w g → wpAnyIn (FR r) 0 cx.P .any ops Q (n + m) listed a w := by
 intro n
 induction n with
 | zero =>
  intro listed hs hl hc a w g T D
  have hall : ∀ i, i ∈ ord → Lof listed i := fun i hi => by
   have h0 : (ord.filter fun i => !listed.getD i false) = [] := List.eq_nil_of_length_eq_zero hc
   rw [List.filter_eq_nil_iff] at h0
   have := h0 i hi
   simpa [Lof] using this
  rw [Nat.zero_add]
  exact hQ a w g T listed hs (fun i => ⟨hl i, hall i⟩) (D.congr fun i => ⟨hl i, hall i⟩)
 | succ n ih =>
  intro listed hs hl hc a w g T D
  have hex : ∃ j ∈ ord, ¬ Lof listed j := by
   refine Classical.byContradiction fun hno => ?_
   have : (ord.filter fun i => !listed.getD i false) = [] := by
    rw [List.filter_eq_nil_iff]
    intro i hi
    have : Lof listed i := Classical.byContradiction fun h => hno ⟨i, hi, h⟩
    unfold Lof at this; simp [this]
   rw [this] at hc; simp at hc
  rw [show n + 1 + m = (n + m) + 1 by omega]
  refine ⟨fun hr => ?_, fun i hi => ?_⟩
  ·obtain ⟨j, hj, hn⟩ := hex
   obtain ⟨p, hp⟩ := List.getElem?_of_mem hj
   exact absurd hr (some_ready' t hs hp hn)
  ·obtain ⟨o, ho, h1, h2⟩ := (kZ hs).1 hi
   have hlt : i < ops.size := (Array.getElem?_eq_some_iff.1 ho).1
   have hio : i ∈ ord := by
    rcases hpart i hlt with h | h
    ·exact h
    ·obtain ⟨j, hj, hn⟩ := hex
     exact absurd (mz ho D.closed h2 (h j hj)) hn
   obtain ⟨p, hp⟩ := List.getElem?_of_mem hio
   refine D.step t hC hb hb0 hp ho h1 h2 (fun a' w' g' T' D' => ?_)
   refine ih (listed.setIfInBounds i true) (by simpa using hs) (fun j hj => ?_) ?_ a' w' g' T' (D'.congr fun j => (mA (by omega) j).symm)
   ·rcases (mA (by omega) j).1 hj with h | rfl
    ·exact hl j h
    ·exact hio
   ·have hsub : (ord.filter fun j => !(listed.setIfInBounds i true).getD j false) = ((ord.filter fun j => !listed.getD j false).filter fun j => decide (j ≠ i)) := by
     rw [List.filter_filter]
     refine List.filter_congr (fun j hj => ?_)
     have := mA (listed := listed) (i := i) (by omega) j
     unfold Lof at this
     by_cases e : j = i
     ·subst e; simp at this ⊢; exact this
     ·simp [e] at this ⊢; rw [this]
    rw [hsub]
    have hnd : (ord.filter fun j => !listed.getD j false).Nodup := by
     refine List.Pairwise.filter _ (List.pairwise_iff_getElem.2 fun x y hx hy hxy e => ?_)
     have h1 : ord[x]? = some ord[x] := by simp [hx]
     have h2 : ord[y]? = some ord[x] := by rw [e]; simp [hy]
     have := dm t.nd h1 h2
     omega
    have hmem : i ∈ ord.filter fun j => !listed.getD j false := by
     refine List.mem_filter.2 ⟨hio, ?_⟩
     unfold Lof at h1; simpa using h1
    have hf : ((ord.filter fun j => !listed.getD j false).filter fun j => decide (j ≠ i)) = (ord.filter fun j => !listed.getD j false).erase i := by
     rw [hnd.erase_eq_filter]
     refine List.filter_congr fun j _ => ?_
     by_cases e : j = i <;> simp [e]
    rw [hf, List.length_erase_of_mem hmem]
    omega
end
end Go.E
namespace Go.E
structure ISt (n : Nat) (J : Nat → G → World → Prop) (ρ : Env) (k : Nat) (g : G) (W : World) (a : Act) : Prop where
 j : J k g W
 env : ERel g W ρ a.tmps n
 df : a.defers = []
def IQ (n : Nat) (J : Nat → G → World → Prop) (Jx : World → Prop) (Q : Ex → Env → Nat → Prop) (e : Exit) (a : Act) (W : World) : Prop :=
 (∃ ex ρ k g, e = exOf ex ∧ Q ex ρ k ∧ ISt n J ρ k g W a) ∨ (e = .ret ∧ Jx W ∧ a.defers = [])
def IW (P : Program) (n : Nat) (J : Nat → G → World → Prop) (Jx : World → Prop) (c : Code) (ρ : Env) (k : Nat) (Q : Ex → Env → Nat → Prop) : Prop :=
 ∀ g W a, ISt n J ρ k g W a → c.wpIn (FR none) 0 P (IQ n J Jx Q) a W
def JOk (J : Nat → G → World → Prop) : Prop := ∀ k g W, J k g W → ∃ bs Hk, Sim bs g Hk W ∧ ∀ g' W', Out bs g W Hk g' W' Hk → J k g' W'
section
variable {P : Program} {n : Nat} {J : Nat → G → World → Prop} {Jx : World → Prop} {ρ : Env} {k : Nat} {Q Q' : Ex → Env → Nat → Prop} {c x y : Code}
theorem IQ.mono {e : Exit} {a : Act} {W : World} (h : IQ n J Jx Q e a W) (hq : ∀ ex ρ k, Q ex ρ k → Q' ex ρ k) : IQ n J Jx Q' e a W := by
 rcases h with ⟨ex, ρ, k, g, h1, h2, h3⟩ | h
 ·exact .inl ⟨ex, ρ, k, g, h1, hq _ _ _ h2, h3⟩
 ·exact .inr h
theorem rm (h : Q .normal ρ k) : IW P n J Jx .skip ρ k Q := fun g _ _ st => wpIn_skip (.inl ⟨.normal, ρ, k, g, rfl, h, st⟩)
theorem yt {id : Nat} (h : Q (.exit id) ρ k) : IW P n J Jx (.exit id) ρ k Q := fun g _ _ st => wpIn_exit (.inl ⟨.exit id, ρ, k, g, rfl, h, st⟩)
def thenI (P : Program) (n : Nat) (J : Nat → G → World → Prop) (Jx : World → Prop) (c : Code) (Q : Ex → Env → Nat → Prop) : Ex → Env → Nat → Prop
 | .normal, ρ, k => IW P n J Jx c ρ k Q
 | ex, ρ, k => Q ex ρ k
theorem fK (h : IW P n J Jx x ρ k (thenI P n J Jx y Q)) : IW P n J Jx (.seq x y) ρ k Q := fun g W a st => by
 refine wpIn_seq (wpIn_mono (h g W a st) fun e a' W' hq => ?_)
 rcases hq with ⟨ex, ρ', k', g', rfl, h2, h3⟩ | ⟨rfl, h2⟩
 ·cases ex with
  | normal => exact h2 g' W' a' h3
  | exit id => exact .inl ⟨.exit id, ρ', k', g', rfl, h2, h3⟩
  | ret => exact .inl ⟨.ret, ρ', k', g', rfl, h2, h3⟩
 ·exact .inr ⟨rfl, h2⟩
theorem mC {o : Operand} {b : Bool} (hb : opnd ρ o = .bool b) (h : IW P n J Jx (if b = true then x else y) ρ k Q) : IW P n J Jx (.cond o x y) ρ k Q := fun g W a st => by
 have ho := st.env.opnd o
 rw [hb] at ho
 have : a.eval o = .bool b := by generalize a.eval o = z at ho; cases ho; rfl
 cases b with
 | true => exact wpIn_cond_true this (h g W a st)
 | false => exact wpIn_cond_false this (h g W a st)
def blockI (id : Nat) (Q : Ex → Env → Nat → Prop) : Ex → Env → Nat → Prop
 | .exit id', ρ, k => if id' = id then Q .normal ρ k else Q (.exit id') ρ k
 | ex, ρ, k => Q ex ρ k
theorem pj {id : Nat} (h : IW P n J Jx c ρ k (blockI id Q)) : IW P n J Jx (.block id c) ρ k Q := fun g W a st => by
 refine wpIn_block (wpIn_mono (h g W a st) fun e a' W' hq => ?_)
 rcases hq with ⟨ex, ρ', k', g', rfl, h2, h3⟩ | ⟨rfl, h2⟩
 ·cases ex with
  | normal => exact .inl ⟨.normal, ρ', k', g', rfl, h2, h3⟩
  | exit id' =>
   unfold blockI at h2
   by_cases e : id' = id
   ·simp only [if_pos e] at h2
    show (if id' = id then IQ n J Jx Q .normal a' W' else IQ n J Jx Q (.exit id') a' W')
    rw [if_pos e]; exact .inl ⟨.normal, ρ', k', g', rfl, h2, h3⟩
   ·simp only [if_neg e] at h2
    show (if id' = id then IQ n J Jx Q .normal a' W' else IQ n J Jx Q (.exit id') a' W')
    rw [if_neg e]; exact .inl ⟨.exit id', ρ', k', g', rfl, h2, h3⟩
  | ret => exact .inl ⟨.ret, ρ', k', g', rfl, h2, h3⟩
 ·exact .inr ⟨rfl, h2⟩
def loopI (I : Nat → Env → Nat → Prop) (m : Nat) (Q : Ex → Env → Nat → Prop) : Ex → Env → Nat → Prop
 | .normal, ρ, k => I m ρ k
 | ex, ρ, k => Q ex ρ k
theorem yu (I : Nat → Env → Nat → Prop) (h : ∀ m ρ k, I m ρ k → ∃ m', (m = m' + 1 ∨ m = 0) ∧ IW P n J Jx c ρ k (fun ex ρ k => match ex with | .normal => m ≠ 0 ∧ I m' ρ k | ex => Q ex ρ k)) :
  ∀ m ρ k, I m ρ k → IW P n J Jx (.loop c) ρ k Q := by
 have key : ∀ m ρ k, I m ρ k → ∀ g W a, ISt n J ρ k g W a → Code.roundsIn (FR none) 0 P c (IQ n J Jx Q) (m + 1) a W := by
  intro m
  induction m with
  | zero =>
   intro ρ k hi g W a st
   rw [roundsIn_succ]
   obtain ⟨m', hm, hw⟩ := h 0 ρ k hi
   refine wpIn_mono (hw g W a st) fun e a' W' hq => ?_
   rcases hq with ⟨ex, ρ', k', g', rfl, h2, h3⟩ | ⟨rfl, h2⟩
   ·cases ex with
    | normal => exact absurd rfl h2.1
    | exit id => exact .inl ⟨.exit id, ρ', k', g', rfl, h2, h3⟩
    | ret => exact .inl ⟨.ret, ρ', k', g', rfl, h2, h3⟩
   ·exact .inr ⟨rfl, h2⟩
  | succ m ih =>
   intro ρ k hi g W a st
   rw [roundsIn_succ]
   obtain ⟨m', hm, hw⟩ := h (m + 1) ρ k hi
   obtain rfl : m' = m := by omega
   refine wpIn_mono (hw g W a st) fun e a' W' hq => ?_
   rcases hq with ⟨ex, ρ', k', g', rfl, h2, h3⟩ | ⟨rfl, h2⟩
   ·cases ex with
    | normal => exact ih ρ' k' h2.2 g' W' a' h3
    | exit id => exact .inl ⟨.exit id, ρ', k', g', rfl, h2, h3⟩
    | ret => exact .inl ⟨.ret, ρ', k', g', rfl, h2, h3⟩
   ·exact .inr ⟨rfl, h2⟩
 exact fun m ρ k hi g W a st => wpIn_loop_rounds (m + 1) (key m ρ k hi g W a st)
end
section
variable {cx : Cx} {n : Nat} {J : Nat → G → World → Prop} {Jx : World → Prop} {ρ : Env} {k : Nat} {Q : Ex → Env → Nat → Prop}
theorem eg (hm : cx.P.follows .mixedOrders = true) (hC : CallOk cx (callw cx)) (hJ : JOk J) {id : Nat} {ops : Array Oper} {dr : Bool}
  (h : ∀ bs H, Ev cx ⟨n, bs⟩ (.region id ops dr) ρ H fun ex ρ' H' => H' = H ∧ ex = .normal ∧ Q .normal ρ' k) : IW cx.P n J Jx (.region id ops dr) ρ k Q := fun g W a st => by
 obtain ⟨bs, Hk, hS, hc⟩ := hJ k g W st.j
 have hev := h bs Hk
 unfold Ev at hev
 obtain ⟨ex, ρ', H', he, rfl, rfl, hq⟩ := hev
 simp only [evCode] at he
 cases dr with
 | false =>
  simp only [Bool.false_eq_true, if_false] at he
  cases ho : evOps cx ⟨n, bs⟩ (callw cx) ops ops.toList ρ H' with
  | none => simp [ho] at he
  | some s => simp [ho] at he; obtain ⟨rfl, rfl⟩ := he; exact rI rfl hC ho hS st.env (fun a' w' g' o e d => .inl ⟨.normal, s.1, k, g', rfl, hq, hc g' w' o, e, d.trans st.df⟩)
 | true =>
  simp only [if_true] at he
  cases ho : evDraw cx ⟨n, bs⟩ (callw cx) ops ρ H' with
  | none => simp [ho] at he
  | some s => simp [ho] at he; obtain ⟨rfl, rfl⟩ := he; exact mf hm none ⟨n, bs⟩ (callw cx) hC id ops _ g W _ _ ρ _ a ho hS st.env (fun a' w' g' o e d => .inl ⟨.normal, s.1, k, g', rfl, hq, hc g' w' o, e, d.trans st.df⟩)
end
end Go.E
namespace Go.E
def mask (n : Nat) (l : List Nat) : Array Bool := ((List.range n).map fun i => l.contains i).toArray
theorem uN (n : Nat) (l : List Nat) : (mask n l).size = n := by simp [mask]
theorem yv {n : Nat} {l : List Nat} {listed : Array Bool} (hs : listed.size = n) (h : ∀ i, Lof listed i ↔ i ∈ l) : listed = mask n l := by
 refine Array.ext (by simp [mask, hs]) fun i h1 h2 => ?_
 have := h i
 unfold Lof at this
 rw [Array.getD_eq_getD_getElem?] at this
 simp only [h1, Array.getElem?_eq_getElem, Option.getD_some] at this
 simp only [mask, List.getElem_toArray, List.getElem_map, List.getElem_range]
 rw [Bool.eq_iff_iff, this]
 simp
theorem vu {P : Program} {a : Act} {W : World} {o : Oper} {cl : Call} {x : Operand} {L : Nat} (hop : o.op = .call cl) (hcal : cl.callee = .value x) (hv : a.eval x = .func (.yield L) #[] #[]) :
  (execOp a.eval o).run P W = (Instr.yield L (cl.args.map a.eval)).run P W := by
 have hr : resolve a.eval cl o.type = pure { target := .fn (.yield L) #[], args := cl.args.map a.eval } := by
  unfold resolve; simp only [hcal, hv, Deferred.ofValue, Array.empty_append]
 unfold execOp
 simp only [hop, hr, Sem.run_bind, Sem.run_pure, Result.andThen_ok]
 rfl
theorem B0 {P : Program} {a : Act} {W : World} {o : Oper} {cl : Call} {x : Operand} {L : Nat} {K : Act → World → Prop} {Q : Exit → Act → World → Prop} {R : Ending → World → Prop} (hop : o.op = .call cl) (hcal : cl.callee = .value x)
  (hv : a.eval x = .func (.yield L) #[] #[]) (hy : YieldAt Fence.wide 0 P L (cl.args.map a.eval) W R) (hK : ∀ e W', R e W' → ∃ v, e = .returned v ∧ K (a.put o.dst v) W') : o.wpIn (FR none) 0 P a W K Q := by
 obtain ⟨fn, tmps, assign, body, h1, h2⟩ := hy
 refine ⟨fun _ _ => trivial, ?_⟩
 rw [Oper.semAt_eq _ _ _ (fun c h => by rw [hop] at h; cases h), vu hop hcal hv, h1]
 refine ⟨(fun h => by cases h), ?_⟩
 refine h2.mono ?_
 intro e W' hr
 obtain ⟨v, rfl, hk⟩ := hK e W' hr
 exact hk
section
variable {cx : Cx} {n : Nat} {J : Nat → G → World → Prop} {Jx : World → Prop} {ρ : Env} {k : Nat} {Q : Ex → Env → Nat → Prop}
def YOk (P : Program) (L : Nat) (l : List (List V)) (J : Nat → G → World → Prop) (Jx : World → Prop) : Prop :=
 ∀ k args g W args', l[k]? = some args → J k g W → ArgsR g W args args' →
  YieldAt Fence.wide 0 P L args'.toArray W fun e W' => (e = .returned (.bool true) ∧ ∃ g', J (k + 1) g' W' ∧ ExtL L g W g' W') ∨ (e = .returned (.bool false) ∧ Jx W')
theorem wy {g : G} {w : World} {ρ : Env} {a : Act} {n : Nat} (h : ERel g w ρ a.tmps n) {d : Option Nat} {v : V} {v' : Value} (hd : ∀ i, d = some i → i < n) (hv : VRel g w v v') : ERel g w (putO ρ d v) (a.put d v').tmps n := by
 cases d with
 | none => exact h
 | some d =>
  have hlt := hd d rfl
  refine ⟨by simp [Act.put, h.size], fun i => ?_⟩
  have hs := h.size
  by_cases e : i = d
  ·subst e
   simp [putO, Env.put, Act.put, Array.getD, hs, hlt]
   exact hv
  ·have := h.rel i
   simp only [putO, Env.put, Act.put, if_neg e]
   simpa [Array.getD_eq_getD_getElem?, Array.getElem?_setIfInBounds_ne (Ne.symm e)] using this
theorem wz (hm : cx.P.follows .mixedOrders = true) (hC : CallOk cx (callw cx)) (hJ : JOk J) {L : Nat} {l : List (List V)} (hY : YOk cx.P L l J Jx) {id : Nat} {ops : Array Oper} {ord : List Nat} {ps : List (Nat × Nat)} {y m : Nat} {o : Oper} {cl : Call} {x : Operand} {QQ : Exit → Act → World → Prop}
  (hok : partOk ops ord = true) (hlen : ord.length + (m + 1) = ops.size) (hy : ops[y]? = some o) (hyo : y ∉ ord) (hop : o.op = .call cl) (hcal : cl.callee = .value x) (hdst : ∀ i, o.dst = some i → i < n)
  (hrd : Region.ready .any ops (mask ops.size ord) = [y]) (hps : chkPairs cx.P ops (anc ops) ord = ps)
  (h : ∀ bs H, EvT cx ⟨n, bs⟩ ops ord ρ H (ChkK cx.P ops ord ps fun ρ' H' => H' = H ∧ wantedV ops o ρ' = some true ∧ opnd ρ' x = .yld L ∧ l[k]? = some (cl.args.toList.map (opnd ρ')) ∧
   (∀ g W a, ISt n J (putO ρ' o.dst (.bool true)) (k + 1) g W a → wpAnyIn (FR none) 0 cx.P .any ops QQ m (mask ops.size (ord ++ [y])) a W) ∧
   (∀ W a, (∀ i b, o.dst ≠ some i → ρ' i = .bool b → a.tmps.getD i Go.undef = .bool b) → (∀ i, o.dst = some i → a.tmps.getD i Go.undef = .bool false) → a.tmps.size = n → a.defers = [] → Jx W →
    wpAnyIn (FR none) 0 cx.P .any ops QQ m (mask ops.size (ord ++ [y])) a W))) :
  ∀ {g : G} {W : World} {a : Act}, ISt n J ρ k g W a → (Code.region id ops true).wpIn (FR none) 0 cx.P QQ a W := fun {g W a} st => by
 obtain ⟨bs, Hk, hS, hc⟩ := hJ k g W st.j
 have hev := h bs Hk
 unfold EvT ChkK at hev
 obtain ⟨stt, ρ', H', ht, hchk, rfl, hw, hx, hl, hT, hF⟩ := hev
 subst hps
 simp only [partOk, Bool.and_eq_true] at hok
 obtain ⟨⟨⟨⟨k1, k5⟩, k6⟩, k7⟩, kp⟩ := hok
 obtain ⟨s1, s2, s3⟩ := pc ht
 have hpart : ∀ i, i < ops.size → i ∈ ord ∨ ∀ j ∈ ord, j ∈ (anc ops).getD i [] := fun i hi => by
  have := List.all_eq_true.1 kp i (List.mem_range.2 hi)
  simp only [Bool.or_eq_true] at this
  rcases this with h | h
  ·exact .inl (by simpa using h)
  ·exact .inr fun j hj => by have := List.all_eq_true.1 h j hj; simpa using this
 let S : Nat → Env × Heap := fun p => ((stt ++ [(ρ', H')])[p]?).getD (ρ', H')
 have hS0 : S 0 = (ρ, H') := by simp only [S]; rw [s2]; rfl
 have hSm : S ord.length = (ρ', H') := by simp only [S]; rw [← s1]; simp
 have hSst : ∀ p s, stt[p]? = some s → S p = s := fun p s hp => by
  have := (List.getElem?_eq_some_iff.1 hp).1
  simp only [S]; rw [List.getElem?_append_left this, hp]; rfl
 have t : Tr cx (callw cx) ⟨n, bs⟩ ops ord S := by
  refine ⟨k1, k5, k6, k7, fun p i hp => ?_, fun p q i j o u hlt hp hq ho hu hr he hni => ?_⟩
  ·obtain ⟨o, s, t, h1, h2, h3, h4⟩ := s3 p i hp
   refine ⟨o, h1, ?_⟩
   have e1 : S p = s := by simp only [S]; rw [h2]; rfl
   have e2 : S (p + 1) = t := by simp only [S]; rw [h3]; rfl
   rw [e1, e2]; exact h4
  ·have hp2 := (List.getElem?_eq_some_iff.1 hp).1
   have hq2 := (List.getElem?_eq_some_iff.1 hq).1
   have hsp : stt[p]? = some stt[p] := by simp [s1, hp2]
   have hsq : stt[q]? = some stt[q] := by simp [s1, hq2]
   have := sm hchk (uD hlt hp hq ho hu hr he hni) (o := o) (by simp [List.getD, hp, ho]) hsp hsq
   rw [← hSst p _ hsp, ← hSst q _ hsq] at this
   have e3 : ((stt[q + 1]?).map (·.2)).getD H' = (S (q + 1)).2 := by
    by_cases hlt2 : q + 1 < stt.length
    ·have h1 : stt[q + 1]? = some stt[q + 1] := by simp [hlt2]
     rw [h1, hSst _ _ h1]; rfl
    ·have h1 : stt[q + 1]? = none := by rw [List.getElem?_eq_none_iff]; omega
     have h2 : q + 1 = ord.length := by omega
     rw [h1, h2, hSm]; rfl
   rw [e3] at this
   exact this
 have hbase : ∀ id, g.φ id ≠ none → id < (S 0).2.length := fun id hid => by rw [hS0]; exact hS.dom id hid
 have hb0 : (⟨n, bs⟩ : Fx).bs.headD 0 ≤ (S 0).2.length := by rw [hS0]; exact hS.bl
 refine wpIn_region_any hm ?_
 obtain ⟨T, q1, q2, q3, q4, q5, q6⟩ := t.next hC (g := g) (w := { W with drawn := W.drawn + 1 }) ord.length 0 (by omega) (by rw [hS0]; exact hS.drawn)
 have hnl : ∀ i, ¬ Lof (Array.replicate ops.size false) i := fun i h => by
  unfold Lof at h
  rw [Array.getD_eq_getD_getElem?, Array.getElem?_replicate] at h
  split at h <;> simp at h
 have hcount : (ord.filter fun i => !(Array.replicate ops.size false).getD i false).length = ord.length := by
  rw [List.filter_eq_self.2]
  intro i _
  have := hnl i
  unfold Lof at this
  simpa using this
 suffices hN : ∀ N, N = ord.length + (m + 1) → wpAnyIn (FR none) 0 cx.P .any ops QQ N (Array.replicate ops.size false) a { W with drawn := W.drawn + 1 } from hN _ hlen.symm
 rintro _ rfl
 refine BZ t hC (g0 := g) (w0 := W) (ds := a.defers) hbase hb0 hpart (Q := QQ) (r := none) (m + 1) (fun a' w' g' T' listed hsz hli D => ?_) ord.length (Array.replicate ops.size false) (by simp) (fun i h => absurd h (hnl i)) hcount
  a _ g T ⟨fun i o _ h => absurd h (hnl i), q2, fun p i o h1 h2 h3 h4 => ?_, fun p i _ _ => hnl i, q4, q5, jF g W, fun id => ?_, fun p h => q6 p (by omega) h, fun d q hq h1 h2 => ?_, st.env.size, rfl⟩
 ·
  have hT' : T' = ord.length := by
   by_cases h : T' < ord.length
   ·obtain ⟨i, o, h1, h2, h3⟩ := D.at_ h
    exact absurd (List.mem_of_getElem? h1) (D.after T' i (Nat.le_refl _) h1)
   ·have := D.Tle; omega
  subst hT'
  have hlenmono : ∀ p, p ≤ ord.length → H'.length ≤ (S p).2.length := fun p hp => by
   have := D.len (p := 0) p (by omega)
   rw [hS0, Nat.zero_add] at this; exact this
  have hsim := D.sim
  rw [hSm] at hsim
  have hout : Out bs g W H' g' w' H' := ⟨hsim, D.ext, Nat.le_refl _, fun id => by
   rw [D.dom]
   constructor
   ·rintro (h | ⟨p, i, h1, h2, h3, h4⟩)
    ·exact .inl h
    ·have hp2 := (List.getElem?_eq_some_iff.1 h1).1
     have e1 := hlenmono p (by omega)
     have e2 := D.len (p := p + 1) (ord.length - (p + 1)) (by omega)
     rw [show p + 1 + (ord.length - (p + 1)) = ord.length by omega, hSm] at e2
     simp only at e2; omega
   ·rintro (h | ⟨h1, h2⟩)
    ·exact .inl h
    ·omega⟩
  have henv : ERel g' w' ρ' a'.tmps n := ⟨D.size, fun d => by
   have := D.env d ord.length (Nat.le_refl _) (fun p i o _ h2 _ _ => List.mem_of_getElem? h2) (fun p i o h1 h2 => by have := (List.getElem?_eq_some_iff.1 h2).1; omega)
   rwa [hSm] at this⟩
  have hj' := hc g' w' hout
  obtain rfl := yv hsz hli
  refine ⟨(fun h => by rw [hrd] at h; cases h), fun i hi => ?_⟩
  rw [hrd] at hi
  obtain rfl := List.mem_singleton.1 hi
  have hsz2 : i < ops.size := (Array.getElem?_eq_some_iff.1 hy).1
  have hmk : (mask ops.size ord).setIfInBounds i true = mask ops.size (ord ++ [i]) := yv (by simp [uN]) fun j => by
   rw [mA (by rw [uN]; exact hsz2), hli]; simp
  rw [hmk]
  unfold wpOpIn
  simp only [hy, iH hw henv, if_true]
  have hev2 : a'.eval x = .func (.yield L) #[] #[] := by
   have := henv.opnd x
   rw [hx] at this
   generalize a'.eval x = z at this
   cases this; rfl
  have hargs : ArgsR g' w' (cl.args.toList.map (opnd ρ')) (cl.args.map a'.eval).toList := by
   refine ⟨by simp, fun j u u' h1 h2 => ?_⟩
   simp only [List.getElem?_map, Array.toList_map, Option.map_eq_some_iff] at h1 h2
   obtain ⟨p1, h3, rfl⟩ := h1
   obtain ⟨p2, h4, rfl⟩ := h2
   rw [h3] at h4; cases h4
   exact henv.opnd _
  refine B0 hop hcal hev2 (by have := hY k _ g' w' _ hl hj' hargs; rwa [Array.toArray_toList] at this) ?_
  rintro e W' (⟨rfl, g2, j2, x2⟩ | ⟨rfl, jx⟩)
  ·exact ⟨_, rfl, hT g2 W' _ ⟨j2, wy ⟨henv.size, fun i => (henv.rel i).bear x2.bears⟩ hdst (.bool true), by rw [ib]; exact D.defers.trans st.df⟩⟩
  ·refine ⟨_, rfl, hF W' _ (fun i b hi hb => ?_) (fun i hi => ?_) (by rw [mN]; exact henv.size) (by rw [ib]; exact D.defers.trans st.df) jx⟩
   ·have hv := henv.rel i
    rw [hb] at hv
    have hv2 : a'.tmps.getD i Go.undef = .bool b := by generalize a'.tmps.getD i Go.undef = z at hv; cases hv; rfl
    cases hd : o.dst with
    | none => simpa [Act.put, hd] using hv2
    | some d =>
     have hne : d ≠ i := fun e => hi (by rw [hd, e])
     simpa [Act.put, hd, Array.getD_eq_getD_getElem?, Array.getElem?_setIfInBounds_ne hne] using hv2
   ·have := hdst i hi
    have hs := henv.size
    simp [Act.put, hi, Array.getD, hs, this]
 ·have := q3 p i o (by omega) h1 h2 h3; rw [h4] at this; cases this
 ·exact ⟨.inl, fun h => h.resolve_right (fun ⟨p, i, _, h2, _⟩ => hnl i h2)⟩
 ·have hf := t.frame (d := d) (q1 := 0) q (by omega) (fun p i o _ h3 h4 h5 h6 => hnl i (h1 p i o (by omega) h4 h5 h6))
  rw [Nat.zero_add] at hf
  rw [hf, hS0]
  exact (st.env.rel d).mono (jF g W)
end
end Go.E
namespace Go.E
theorem FQ {cx : Cx} {gf : Nat} {fn : Func} {c : Code} (hf : cx.P.funcs[gf]? = some fn) (hb : fn.body = some c) (hr : ∀ tmps w, ∃ v, (results fn tmps).run cx.P w = .ok v w) {caps : List V} {l : List (List V)}
  (h : ∀ (L : Nat) (J : Nat → G → World → Prop) (Jx : World → Prop), JOk J → YOk cx.P L l J Jx → IW cx.P (caps.length + 1 + (fn.ntmps - (caps.length + 1))) J Jx c (fun i => (V.yld L :: caps).getD i .undef) 0 (fun ex _ k => (ex = .normal ∨ ex = .ret) ∧ k = l.length)) :
  ∀ (g : G) (w w1 : World) (caps' : List Value), ArgsR g w caps caps' → ∀ (L : Nat) (J : Nat → G → World → Prop) (Jx : World → Prop), L < w1.heap.size →
   (∀ k g' W, J k g' W → Bears g w g' W ∧ ∃ bs Hk, Sim bs g' Hk W ∧ ∀ g'' W', Out bs g' W Hk g'' W' Hk → J k g'' W') → (∀ W, Jx W → Jx { W with drawn := W.drawn + 1 }) →
   (∀ k args g' W args', l[k]? = some args → J k g' W → ArgsR g' W args args' →
    YieldAt Fence.wide 0 cx.P L args'.toArray W fun e W' => (e = .returned (.bool true) ∧ ∃ g'', J (k + 1) g'' W' ∧ ExtL L g' W g'' W') ∨ (e = .returned (.bool false) ∧ Jx W')) →
   J 0 g w1 → Calls cx.P gf (#[.func (.yield L) #[] #[]] ++ caps'.toArray) w1 fun e W' => (∃ v, e = .returned v) ∧ ((∃ g', J l.length g' W') ∨ Jx W') := by
 intro g w w1 caps' hA L J Jx _ hJ _ hY h0
 have hbe := (hJ 0 g w1 h0).1
 have hA1 : ArgsR g w1 (V.yld L :: caps) (Value.func (.yield L) #[] #[] :: caps') := by
  refine ⟨by simp [hA.1], fun j x x' h1 h2 => ?_⟩
  cases j with
  | zero => simp at h1 h2; subst h1; subst h2; exact .yld L
  | succ j => simp at h1 h2; exact (hA.2 j x x' h1 h2).bear hbe
 have he : #[Value.func (.yield L) #[] #[]] ++ caps'.toArray = (Value.func (.yield L) #[] #[] :: caps').toArray := by simp
 rw [he]
 have hsz : (Value.func (.yield L) #[] #[] :: caps').toArray.size = caps.length + 1 := by simp [hA.1]
 refine jU (r := none) (n := 0).1 (callsIn_of_wp_marks hf hb trivial ?_)
 rw [hsz]
 have hI := sh hA1 (fn.ntmps - (caps.length + 1))
 refine wpIn_mono (h L J Jx (fun k g W hj => (hJ k g W hj).2) hY g w1 _ ⟨h0, hI, rfl⟩) fun e a W hq => ?_
 have fin : ((∃ g', J l.length g' W) ∨ Jx W) → a.defers = [] → LeavesInM (FR none) 0 cx.P fn a.tmps (fun e W' => (∃ v, e = .returned v) ∧ ((∃ g', J l.length g' W') ∨ Jx W')) a.defers .returning W := fun hp hd => by
  rw [hd]
  obtain ⟨v, hv⟩ := hr a.tmps W
  exact mM (K := fun w2 => w2 = W) (fun w2 e => by subst e; exact ⟨v, hv, ⟨v, rfl⟩, hp⟩) [] W (fun _ D h => by simp at h) (by simp) (fun D h => by simp at h) rfl
 rcases hq with ⟨ex, ρ, k, g', rfl, ⟨hx, rfl⟩, st⟩ | ⟨rfl, hx, hd⟩
 ·rcases hx with rfl | rfl
  ·exact fin (.inl ⟨g', st.j⟩) st.df
  ·exact fin (.inl ⟨g', st.j⟩) st.df
 ·exact fin (.inr hx) hd
end Go.E
namespace Go.E
section
variable {cx : Cx} {n : Nat} {J : Nat → G → World → Prop} {Jx : World → Prop} {ρ : Env} {k : Nat}
theorem ERel.seen {g : G} {w : World} {a : Act} (h : ERel g w ρ a.tmps n) (ops : Array Oper) (o : Oper) : ERel g w (seen ops o ρ) a.tmps n :=
 ⟨h.size, fun i => by unfold Go.E.seen; split; exact h.rel i; exact .undef _⟩
theorem yw (hC : CallOk cx (callw cx)) (hJ : JOk J) {ops : Array Oper} {l : List Nat} {i m : Nat} {o : Oper} {v : V} {QQ : Exit → Act → World → Prop} (hrd : Region.ready .any ops (mask ops.size l) = [i])
  (hset : (mask ops.size l).setIfInBounds i true = mask ops.size (l ++ [i])) (ho : ops[i]? = some o) (hw : wantedV ops o ρ = some true)
  (hd : ∀ j, o.dst = some j → j < n) (hev : ∀ bs H, evOp cx ⟨n, bs⟩ (callw cx) o ρ H = some (v, H)) {g : G} {W : World} {a : Act} (st : ISt n J ρ k g W a)
  (hn : ∀ g W a, ISt n J (putO ρ o.dst v) k g W a → wpAnyIn (FR none) 0 cx.P .any ops QQ m (mask ops.size (l ++ [i])) a W) : wpAnyIn (FR none) 0 cx.P .any ops QQ (m + 1) (mask ops.size l) a W := by
 refine ⟨(fun h => by rw [hrd] at h; cases h), fun j hj => ?_⟩
 rw [hrd] at hj
 obtain rfl := List.mem_singleton.1 hj
 obtain ⟨bs, Hk, hS, hc⟩ := hJ k g W st.j
 rw [hset]
 refine Ag (fx := ⟨n, bs⟩) hC ho hw (by simpa using hev bs Hk) hS (st.env.seen ops o) (fun v' w' g' o1 h1 => ?_)
 exact hn g' w' _ ⟨hc g' w' o1, wy (st.env.mono o1.ext) hd h1, by rw [ib]; exact st.df⟩
theorem yx {P : Program} {ops : Array Oper} {l : List Nat} {QQ : Exit → Act → World → Prop} (hrd : Region.ready .any ops (mask ops.size l) = []) {a : Act} {W : World} (h : QQ .normal a W) : wpAnyIn (FR none) 0 P .any ops QQ 0 (mask ops.size l) a W := ⟨hrd, h⟩
structure SSt (n : Nat) (Jx : World → Prop) (b : Nat → Option Bool) (W : World) (a : Act) : Prop where
 j : Jx W
 env : ∀ i x, b i = some x → a.tmps.getD i Go.undef = .bool x
 size : a.tmps.size = n
 df : a.defers = []
def bEnv (b : Nat → Option Bool) : Env := fun i => match b i with | some x => .bool x | none => .undef
theorem SSt.rel {b : Nat → Option Bool} {W : World} {a : Act} (st : SSt n Jx b W a) : ERel ⟨fun _ _ => .none, fun _ => none⟩ W (bEnv b) a.tmps n := by
 refine ⟨st.size, fun i => ?_⟩
 unfold bEnv
 cases h : b i with
 | none => exact .undef _
 | some x => rw [st.env i x h]; exact .bool x
theorem wA {P : Program} {ops : Array Oper} {l : List Nat} {i m : Nat} {o : Oper} {y : Bool} {b : Nat → Option Bool} {QQ : Exit → Act → World → Prop} (hrd : Region.ready .any ops (mask ops.size l) = [i])
  (hset : (mask ops.size l).setIfInBounds i true = mask ops.size (l ++ [i])) (ho : ops[i]? = some o) (hw : wantedV ops o (bEnv b) = some true) {W : World} {a : Act} (st : SSt n Jx b W a) (hnd : ∀ c, o.op ≠ .defer c)
  (hex : (∀ i x, b i = some x → a.eval (.tmp i) = .bool x) → (execOp a.eval o).run P W = .ok (.value (.bool y)) W) (d : Nat) (hdst : o.dst = some d) (hd : d < n)
  (hn : ∀ W a, SSt n Jx (fun j => if j = d then some y else b j) W a → wpAnyIn (FR none) 0 P .any ops QQ m (mask ops.size (l ++ [i])) a W) : wpAnyIn (FR none) 0 P .any ops QQ (m + 1) (mask ops.size l) a W := by
 refine ⟨(fun h => by rw [hrd] at h; cases h), fun j hj => ?_⟩
 rw [hrd] at hj
 obtain rfl := List.mem_singleton.1 hj
 rw [hset]
 unfold wpOpIn
 simp only [ho, iH hw st.rel, if_true]
 refine ⟨fun _ _ => trivial, ?_⟩
 rw [Oper.semAt_eq _ _ _ hnd, hex (fun i x h => by have := st.env i x h; simpa [Act.eval] using this)]
 refine hn W _ ⟨st.j, fun i x h => ?_, by rw [mN]; exact st.size, by rw [ib]; exact st.df⟩
 have hs := st.size
 by_cases e : i = d
 ·subst e
  rw [if_pos rfl] at h; cases h
  simp [Act.put, hdst, Array.getD, hs, hd]
 ·rw [if_neg e] at h
  have := st.env i x h
  simpa [Act.put, hdst, Array.getD_eq_getD_getElem?, Array.getElem?_setIfInBounds_ne (Ne.symm e)] using this
end
end Go.E
