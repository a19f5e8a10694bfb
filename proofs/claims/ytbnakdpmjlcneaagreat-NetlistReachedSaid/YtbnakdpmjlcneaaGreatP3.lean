/- The arguments of a law, as E reads them. Own work. -/
import Derived.Test.YtbnakdpmjlcneaaGreatP2
import Derived.OpenShut
import Derived.Below
import Derived.KernelRfl
set_option linter.all false
namespace Go.E

/-- What is there when a law is called is never written. -/
def G.all (w : World) : G := { O := fun b _ => if b < w.heap.size then .imm else .none, φ := fun _ => none }

def FieldsT (R : TypeId → List V → Prop) : List Field → List V → Prop
  | [], xs => xs = []
  | f :: r, xs => ∃ a b, xs = a ++ b ∧ R f.type a ∧ FieldsT R r b

def isRow : Option TypeDesc → Bool
  | some (.struct _) | some (.array _ _) => true
  | _ => false

/-- A row of cells of a plain type. -/
def CellsT (P : Program) : Nat → TypeId → List V → Prop
  | 0, _, _ => False
  | n + 1, t, xs =>
    match P.underlying t with
    | some .bool => ∃ b, xs = [.bool b]
    | some (.int k) => ∃ i, xs = [.int k i] ∧ (Lit.int k i).wf = true
    | some .string => ∃ s : ByteArray, xs = [.str s] ∧ s.size ≤ maxLen
    | some (.slice e) => ∃ es, xs = [.list es] ∧ es.length ≤ maxLen ∧ ∀ el ∈ es, CellsT P n e el.cells ∧ (if isRow (P.underlying e) then el = .agg el.cells else el.cells = [el])
    | some (.struct fs) => FieldsT (CellsT P n) fs.toList xs
    | some (.array m e) => ∃ parts : List (List V), parts.length = m ∧ xs = parts.flatten ∧ ∀ p ∈ parts, CellsT P n e p
    | _ => False

def tiles (P : Program) : List Field → Nat → Nat → Bool
  | [], o, m => o == m
  | f :: r, o, m => f.offset == o && tiles P r (o + P.cellsOf f.type) m

def plainT (P : Program) : Nat → TypeId → Bool
  | 0, _ => false
  | n + 1, t =>
    match P.underlying t with
    | some .bool | some (.int _) | some .string => P.cellsOf t == 1
    | some (.slice e) => P.cellsOf t == 1 && decide (0 < P.cellsOf e) && plainT P n e
    | some (.struct fs) => tiles P fs.toList 0 (P.cellsOf t) && fs.toList.all fun f => plainT P n f.type
    | some (.array m e) => P.cellsOf t == m * P.cellsOf e && plainT P n e
    | _ => false

theorem pureL_app {a b : List V} (ha : V.pureL a = true) (hb : V.pureL b = true) : V.pureL (a ++ b) = true := by rw [pureL_append, ha, hb]; rfl

theorem cellsT_pure (P : Program) : ∀ (n : Nat) (t : TypeId) (xs : List V), CellsT P n t xs → V.pureL xs = true
  | 0, _, _, h => h.elim
  | n + 1, t, xs, h => by
    unfold CellsT at h
    split at h
    · obtain ⟨b, rfl⟩ := h; rfl
    · obtain ⟨i, rfl, _⟩ := h; rfl
    · obtain ⟨s, rfl, _⟩ := h; rfl
    · obtain ⟨es, rfl, _, h2⟩ := h
      have : V.pureL es = true := pureL_mem (fun el hel => by
        obtain ⟨h3, h4⟩ := h2 el hel
        have h5 := cellsT_pure P n _ _ h3
        split at h4
        · rw [h4]; simpa [V.pure] using h5
        · rw [h4] at h5; simpa [V.pureL] using h5)
      simp [V.pureL, V.pure, this]
    · rename_i fs _
      generalize fs.toList = l at h
      induction l generalizing xs with
      | nil => obtain rfl := h; rfl
      | cons f r ih =>
        obtain ⟨a, b, rfl, h1, h2⟩ := h
        exact pureL_app (cellsT_pure P n _ _ h1) (ih _ h2)
    · rename_i m e _
      obtain ⟨parts, _, rfl, h2⟩ := h
      have key : ∀ parts : List (List V), (∀ p ∈ parts, CellsT P n e p) → V.pureL parts.flatten = true := by
        intro parts
        induction parts with
        | nil => intro _; rfl
        | cons p r ih =>
          intro h2
          simp only [List.flatten_cons]
          exact pureL_app (cellsT_pure P n _ _ (h2 p (by simp))) (ih (fun q hq => h2 q (by simp [hq])))
      exact key parts h2
    · exact h.elim

theorem tiles_le {P : Program} : ∀ {l : List Field} {o m : Nat}, tiles P l o m = true → o ≤ m
  | [], o, m, h => by simp [tiles] at h; omega
  | f :: r, o, m, h => by simp [tiles] at h; have := tiles_le h.2; omega

theorem cellsT_len (P : Program) : ∀ (n : Nat) (t : TypeId) (xs : List V), plainT P n t = true → CellsT P n t xs → xs.length = P.cellsOf t
  | 0, _, _, _, h => h.elim
  | n + 1, t, xs, hp, h => by
    unfold CellsT at h
    unfold plainT at hp
    split at h <;> rename_i hu <;> simp only [hu] at hp
    · obtain ⟨b, rfl⟩ := h; simp at hp; simp [hp]
    · obtain ⟨i, rfl, _⟩ := h; simp at hp; simp [hp]
    · obtain ⟨s, rfl, _⟩ := h; simp at hp; simp [hp]
    · obtain ⟨es, rfl, _⟩ := h; simp at hp; simp [hp]
    · rename_i fs
      simp only [Bool.and_eq_true] at hp
      obtain ⟨hp1, hp2⟩ := hp
      generalize P.cellsOf t = m at hp1
      have key : ∀ (l : List Field) (o : Nat) (xs : List V), tiles P l o m = true → (l.all fun f => plainT P n f.type) = true → FieldsT (CellsT P n) l xs → o + xs.length = m := by
        intro l
        induction l with
        | nil => intro o xs h1 _ h3; obtain rfl := h3; simpa [tiles] using h1
        | cons f r ih =>
          intro o xs h1 h2 h3
          obtain ⟨a, b, rfl, h4, h5⟩ := h3
          simp only [tiles, Bool.and_eq_true, beq_iff_eq] at h1
          simp only [List.all_cons, Bool.and_eq_true] at h2
          have := ih _ b h1.2 h2.2 h5
          have := cellsT_len P n _ _ h2.1 h4
          simp; omega
      have := key fs.toList 0 xs hp1 hp2 h
      omega
    · rename_i m e
      obtain ⟨parts, rfl, rfl, h2⟩ := h
      simp only [Bool.and_eq_true, beq_iff_eq] at hp
      rw [hp.1]
      have key : ∀ parts : List (List V), (∀ p ∈ parts, CellsT P n e p) → parts.flatten.length = parts.length * P.cellsOf e := by
        intro parts
        induction parts with
        | nil => intro _; simp
        | cons p r ih =>
          intro h2
          have h3 := ih (fun q hq => h2 q (by simp [hq]))
          have h4 := cellsT_len P n _ _ hp.2 (h2 p (by simp))
          simp only [List.flatten_cons, List.length_append, List.length_cons, h3, h4]
          rw [Nat.add_mul]; omega
      exact key parts h2
    · exact h.elim

theorem choose_list {α : Type} (R : Nat → α → Prop) : ∀ (n : Nat), (∀ i, i < n → ∃ x, R i x) → ∃ l : List α, l.length = n ∧ ∀ i x, l[i]? = some x → R i x
  | 0, _ => ⟨[], rfl, by simp⟩
  | n + 1, h => by
    obtain ⟨l, h1, h2⟩ := choose_list R n (fun i hi => h i (by omega))
    obtain ⟨x, hx⟩ := h n (by omega)
    refine ⟨l ++ [x], by simp [h1], fun i y hy => ?_⟩
    by_cases hi : i < n
    · rw [List.getElem?_append_left (by omega)] at hy; exact h2 i y hy
    · rw [List.getElem?_append_right (by omega)] at hy
      obtain ⟨h3, _⟩ := List.getElem?_eq_some_iff.1 hy
      have : i = n := by simp at h3; omega
      subst this
      simp [h1] at hy; subst hy; exact hx

theorem cells_get {w : World} {base n : Nat} {a : Addr} {cs : List Value} (h : w.cells? base a n = some cs) : cs.length = n ∧ ∀ i, i < n → w.cell? (a.add i) = cs[i]? := by
  unfold World.cells? at h
  split at h
  · obtain ⟨h1, h2, h3⟩ := mapM_get h
    refine ⟨by simpa using h1, fun i hi => ?_⟩
    obtain ⟨b, hb1, hb2⟩ := h3 i i (by simp [hi])
    rw [hb1, hb2]
  · cases h

theorem cell_old {w : World} {b o : Nat} {v : Value} (h : w.cell? ⟨b, o, none⟩ = some v) : (G.all w).O b o = .imm := by
  have : b < w.heap.size := by
    unfold World.cell? at h
    cases hb : w.heap[b]? with
    | none => simp [hb] at h
    | some x => exact (Array.getElem?_eq_some_iff.1 hb).1
  simp [G.all, this]

def RowV (w : World) (xs : List V) (cs : List Value) : Prop := xs.length = cs.length ∧ ∀ (k : Nat) (x : V) (c : Value), xs[k]? = some x → cs[k]? = some c → VRel (G.all w) w x c

theorem RowV.app {w : World} {xs ys : List V} {cs ds : List Value} (h : RowV w xs cs) (k : RowV w ys ds) : RowV w (xs ++ ys) (cs ++ ds) := by
  refine ⟨by simp [h.1, k.1], fun i x c hx hc => ?_⟩
  by_cases hi : i < xs.length
  · rw [List.getElem?_append_left hi] at hx
    rw [List.getElem?_append_left (by rw [← h.1]; exact hi)] at hc
    exact h.2 i x c hx hc
  · rw [List.getElem?_append_right (by omega)] at hx
    rw [List.getElem?_append_right (by rw [← h.1]; omega), ← h.1] at hc
    exact k.2 _ x c hx hc

section
variable {H : Type} {enc : TypeId × Value → H} {P : Program} {w : World}

theorem one_row {x : V} {c : Value} (h : VRel (G.all w) w x c) : RowV w [x] [c] := ⟨rfl, fun k y d hy hd => by
  cases k with
  | zero => simp at hy hd; subst hy; subst hd; exact h
  | succ k => simp at hy⟩

theorem read_cells : ∀ (fuel n : Nat) (t : TypeId) (cs : List Value) (x : DataW H × List MemPlace), DataW.trod enc P w 0 (fun _ => true) true fuel t cs = some x → plainT P n t = true →
    ∃ xs, CellsT P n t xs ∧ RowV w xs cs
  | 0, _, _, _, _, h, _ => by simp [DataW.trod] at h
  | _ + 1, 0, _, _, _, _, hp => by simp [plainT] at hp
  | fuel + 1, n + 1, t, cs, x, h, hp => by
    have ih := read_cells fuel n
    unfold plainT at hp
    unfold CellsT
    split at hp <;> rename_i hu
    · have key : ∃ b, cs = [.bool b] := by
        unfold DataW.trod at h
        rw [hu] at h
        clear ih hp
        split at h <;> simp_all
      obtain ⟨b, rfl⟩ := key
      exact ⟨[.bool b], ⟨_, rfl⟩, one_row (.bool _)⟩
    · rename_i k
      have key : ∃ i, cs = [.int k i] ∧ (Lit.int k i).wf = true := by
        unfold DataW.trod at h
        rw [hu] at h
        clear ih hp
        split at h <;> simp_all
      obtain ⟨i, rfl, hi⟩ := key
      exact ⟨[.int k i], ⟨_, rfl, hi⟩, one_row (.int _ _)⟩
    · have key : ∃ b : ByteArray, cs = [.string b] ∧ b.size ≤ maxLen := by
        unfold DataW.trod at h
        rw [hu] at h
        clear ih hp
        split at h <;> simp_all
      obtain ⟨b, rfl, hb⟩ := key
      exact ⟨[.str b], ⟨_, rfl, hb⟩, one_row (.str _)⟩
    · rename_i e
      simp only [Bool.and_eq_true, decide_eq_true_eq, beq_iff_eq] at hp
      obtain ⟨⟨hp1, hp2⟩, hp3⟩ := hp
      rcases DataW.trod_slice hu h with ⟨rfl, _⟩ | ⟨a, len, cap, elems, rest, n', hn', rfl, _, _, hlen, hcap, hel, hget, hsp, _⟩
      · exact ⟨[.list []], ⟨[], rfl, by simp, by simp⟩, one_row .listNil⟩
      · have : n' = fuel := by omega
        subst this
        by_cases hc0 : cap = 0
        · subst hc0
          obtain rfl : len = 0 := by omega
          exact ⟨[.list []], ⟨[], rfl, by simp, by simp⟩, one_row (.listZ a)⟩
        · -- its address is plain
          have some_at : ∀ i, i < cap → ∃ ds y, w.cells? 0 (a.add (i * P.cellsOf e)) (P.cellsOf e) = some ds ∧ DataW.trod enc P w 0 (fun _ => true) true n' e ds = some y := by
            intro i hi
            by_cases hlt : i < len
            · have h1 := hget i hlt
              have h2 : elems[i]? = some elems[i] := by simp [show i < elems.length by omega]
              rw [h2, Option.bind_eq_some_iff] at h1
              obtain ⟨ds, h3, h4⟩ := h1
              exact ⟨ds, _, h3, h4⟩
            · obtain ⟨h0, h1⟩ := hsp rfl
              have h1 := h1 (i - len) (by omega)
              have h2 : rest[i - len]? = some rest[i - len] := by simp [show i - len < rest.length by omega]
              rw [h2, Option.bind_eq_some_iff, show len + (i - len) = i by omega] at h1
              obtain ⟨ds, h3, h4⟩ := h1
              exact ⟨ds, _, h3, h4⟩
          have hspot : a.spot = none := by
            obtain ⟨ds, y, h1, _⟩ := some_at 0 (by omega)
            obtain ⟨h2, h3⟩ := cells_get h1
            have h4 := h3 0 hp2
            have e1 : (a.add (0 * P.cellsOf e)).add 0 = a := by simp [Addr.add]
            rw [e1] at h4
            have h5 : ds[0]? = some (ds[0]'(by omega)) := by simp
            rw [h5] at h4
            unfold World.cell? at h4
            split at h4
            · split at h4
              · cases h4
              · rename_i hs; cases hq : a.spot with
                | none => rfl
                | some _ => simp [hq] at hs
            · cases h4
          obtain ⟨b, o, sp⟩ := a
          simp only at hspot
          subst hspot
          have hadd : ∀ j i, ((⟨b, o, none⟩ : Addr).add (j * P.cellsOf e)).add i = ⟨b, o + j * P.cellsOf e + i, none⟩ := fun j i => by
            simp only [Addr.add]
            split <;> split <;> simp_all
          obtain ⟨l, hl1, hl2⟩ := choose_list (fun i (q : List V × List Value) => w.cells? 0 ((⟨b, o, none⟩ : Addr).add (i * P.cellsOf e)) (P.cellsOf e) = some q.2 ∧ CellsT P n e q.1 ∧ RowV w q.1 q.2) len (fun i hi => by
            obtain ⟨ds, y, h1, h2⟩ := some_at i (by omega)
            obtain ⟨xs, h3, h4⟩ := ih e ds y h2 hp3
            exact ⟨(xs, ds), h1, h3, h4⟩)
          let mk : List V → V := fun xs => if isRow (P.underlying e) then .agg xs else xs.headD .undef
          have mkc : ∀ xs, CellsT P n e xs → (mk xs).cells = xs ∧ (if isRow (P.underlying e) then mk xs = .agg (mk xs).cells else (mk xs).cells = [mk xs]) := by
            intro xs hx
            simp only [mk]
            split
            · exact ⟨rfl, rfl⟩
            · rename_i hr
              cases n with
              | zero => exact hx.elim
              | succ n =>
                unfold CellsT at hx
                split at hx
                · obtain ⟨b, rfl⟩ := hx; exact ⟨rfl, rfl⟩
                · obtain ⟨b, rfl, _⟩ := hx; exact ⟨rfl, rfl⟩
                · obtain ⟨b, rfl, _⟩ := hx; exact ⟨rfl, rfl⟩
                · obtain ⟨b, rfl, _⟩ := hx; exact ⟨rfl, rfl⟩
                · rename_i hu2; simp [hu2, isRow] at hr
                · rename_i hu2; simp [hu2, isRow] at hr
                · exact hx.elim
          have hes : ∀ (j : Nat) (el : V), (l.map fun q => mk q.1)[j]? = some el → ∃ q, l[j]? = some q ∧ el = mk q.1 ∧ el.cells = q.1 := fun j el hj => by
            rw [List.getElem?_map] at hj
            cases hq : l[j]? with
            | none => simp [hq] at hj
            | some q => simp [hq] at hj; exact ⟨q, rfl, hj.symm, by rw [← hj]; exact (mkc q.1 (hl2 j q hq).2.1).1⟩
          refine ⟨[.list (l.map fun q => mk q.1)], ⟨_, rfl, by simp [hl1]; omega, fun el hel => ?_⟩, one_row ?_⟩
          · obtain ⟨j, hj⟩ := List.getElem?_of_mem hel
            obtain ⟨q, h1, h2, h3⟩ := hes j el hj
            have := (hl2 j q h1).2.1
            rw [h3]
            refine ⟨this, ?_⟩
            have := (mkc q.1 this).2
            rw [← h2, h3] at this
            exact this
          · have hlen2 : (l.map fun q => mk q.1).length = len := by simp [hl1]
            rw [← hlen2]
            have cellat : ∀ j i, j < len → i < P.cellsOf e → ∃ q c, l[j]? = some q ∧ q.2[i]? = some c ∧ w.cell? ⟨b, o + j * P.cellsOf e + i, none⟩ = some c := fun j i hj hi => by
              have h1 : l[j]? = some l[j] := by simp [show j < l.length by omega]
              obtain ⟨h2, h3⟩ := cells_get (hl2 j _ h1).1
              have h4 := h3 i hi
              rw [hadd] at h4
              have h5 : l[j].2[i]? = some (l[j].2[i]'(by omega)) := by simp
              exact ⟨_, _, h1, h5, h4.trans h5⟩
            refine .list b o cap (P.cellsOf e) _ (fun j i => (w.cell? ⟨b, o + j * P.cellsOf e + i, none⟩).getD Go.undef) (by omega) (pureL_mem fun el hel => ?_) (fun j el hj => ?_) (fun j i hj hi => ?_) (fun j i hj hi => ?_) (fun j el i v hj hv => ?_)
            · obtain ⟨j, hj⟩ := List.getElem?_of_mem hel
              obtain ⟨q, h1, h2, h3⟩ := hes j el hj
              have h4 := cellsT_pure P n e _ (hl2 j q h1).2.1
              have h5 := (mkc q.1 (hl2 j q h1).2.1).2
              rw [← h2] at h5
              rw [← h3] at h4
              split at h5
              · rw [h5]; simpa [V.pure] using h4
              · rw [h5] at h4; simpa [V.pureL] using h4
            · obtain ⟨q, h1, h2, h3⟩ := hes j el hj
              rw [h3]; exact cellsT_len P n e _ hp3 (hl2 j q h1).2.1
            · obtain ⟨q, c, _, _, h3⟩ := cellat j i (by omega) hi
              exact cell_old h3
            · obtain ⟨q, c, _, _, h3⟩ := cellat j i (by omega) hi
              rw [h3]; rfl
            · obtain ⟨q, h1, h2, h3⟩ := hes j el hj
              rw [h3] at hv
              obtain ⟨_, h4, h5⟩ := hl2 j q h1
              have hq1 : q.1.length = P.cellsOf e := cellsT_len P n e _ hp3 h4
              obtain ⟨hi, _⟩ := List.getElem?_eq_some_iff.1 hv
              obtain ⟨q', c, h6, h7, h8⟩ := cellat j i (by rw [← hl1]; exact (List.getElem?_eq_some_iff.1 h1).1) (by omega)
              rw [h1] at h6; cases h6
              rw [h8]
              exact h5.2 i v c hv h7
    · rename_i fs
      simp only [Bool.and_eq_true] at hp
      obtain ⟨hp1, hp2⟩ := hp
      obtain ⟨xs, m, hm, _, hcl, hxl, hget⟩ := DataW.trod_struct hu h
      have : m = fuel := by omega
      subst this
      have key : ∀ (l : List Field) (o : Nat), (∀ (i : Nat) (f : Field), l[i]? = some f → ∃ y, DataW.trod enc P w 0 (fun _ => true) true m f.type ((cs.drop f.offset).take (P.cellsOf f.type)) = some y) →
          tiles P l o (P.cellsOf t) = true → (l.all fun f => plainT P n f.type) = true → ∃ zs, FieldsT (CellsT P n) l zs ∧ RowV w zs (cs.drop o) := by
        intro l
        induction l with
        | nil =>
          intro o _ h2 _
          simp [tiles] at h2
          refine ⟨[], rfl, by simp; omega, by simp⟩
        | cons f r ihl =>
          intro o h1 h2 h3
          simp only [tiles, Bool.and_eq_true, beq_iff_eq] at h2
          simp only [List.all_cons, Bool.and_eq_true] at h3
          obtain ⟨y, hy⟩ := h1 0 f rfl
          obtain ⟨a, h4, h5⟩ := ih f.type _ y hy h3.1
          obtain ⟨b, h6, h7⟩ := ihl (o + P.cellsOf f.type) (fun i f' hf' => h1 (i + 1) f' (by simpa using hf')) h2.2 h3.2
          refine ⟨a ++ b, ⟨a, b, rfl, h4, h6⟩, ?_⟩
          have e1 : cs.drop o = (cs.drop f.offset).take (P.cellsOf f.type) ++ cs.drop (o + P.cellsOf f.type) := by
            rw [h2.1, ← List.drop_drop, List.take_append_drop]
          rw [e1]
          exact h5.app h7
      obtain ⟨zs, h1, h2⟩ := key fs.toList 0 (fun i f hf => by
        have h3 := hget i f (by simpa using hf)
        have h4 : i < xs.length := by rw [hxl]; exact (Array.getElem?_eq_some_iff.1 (by simpa using hf : fs[i]? = some f)).1
        rw [h3]; exact ⟨xs[i], by simp [h4]⟩) hp1 hp2
      exact ⟨zs, h1, by simpa using h2⟩
    · rename_i m e
      simp only [Bool.and_eq_true, beq_iff_eq] at hp
      obtain ⟨xs, m', hm', _, hcl, hxl, hget⟩ := DataW.trod_array hu h
      have : m' = fuel := by omega
      subst this
      have key : ∀ (k : Nat), k ≤ m → ∃ parts : List (List V), parts.length = k ∧ (∀ p ∈ parts, CellsT P n e p) ∧ RowV w parts.flatten (cs.take (k * P.cellsOf e)) := by
        intro k
        induction k with
        | zero => intro _; exact ⟨[], rfl, by simp, by simp, by simp⟩
        | succ k ihk =>
          intro hk
          obtain ⟨parts, h1, h2, h3⟩ := ihk (by omega)
          have h4 := hget k (by omega)
          have h5 : xs[k]? = some xs[k] := by simp [show k < xs.length by omega]
          rw [h5] at h4
          obtain ⟨a, h6, h7⟩ := ih e _ _ h4 hp.2
          refine ⟨parts ++ [a], by simp [h1], fun p hp2 => ?_, ?_⟩
          · rcases List.mem_append.1 hp2 with h | h
            · exact h2 p h
            · simp at h; subst h; exact h6
          · have e1 : cs.take ((k + 1) * P.cellsOf e) = cs.take (k * P.cellsOf e) ++ (cs.drop (k * P.cellsOf e)).take (P.cellsOf e) := by
              rw [Nat.add_mul, Nat.one_mul, List.take_add]
            rw [e1]
            simp only [List.flatten_append, List.flatten_cons, List.flatten_nil, List.append_nil]
            exact h3.app h7
      obtain ⟨parts, h1, h2, h3⟩ := key m (Nat.le_refl _)
      refine ⟨parts.flatten, ⟨parts, h1, rfl, h2⟩, ?_⟩
      rw [List.take_of_length_le (by omega)] at h3
      exact h3
    · cases hp
end
end Go.E
/- A calculus of what code of E comes to. Own work. -/
namespace Go.E
section
variable {cx : Cx} {fx : Fx}

def Ev (cx : Cx) (fx : Fx) (c : Code) (ρ : Env) (H : Heap) (Q : Ex → Env → Heap → Prop) : Prop :=
  ∃ ex ρ' H', evCode cx fx loopw (callw cx) c ρ H = some (ex, ρ', H') ∧ Q ex ρ' H'
def Lp (cx : Cx) (fx : Fx) (c : Code) (ρ : Env) (H : Heap) (Q : Ex → Env → Heap → Prop) : Prop :=
  ∃ ex ρ' H', loopw (evCode cx fx loopw (callw cx) c) ρ H = some (ex, ρ', H') ∧ Q ex ρ' H'
def EvO (cx : Cx) (fx : Fx) (ops : Array Oper) (l : List Oper) (ρ : Env) (H : Heap) (K : Env → Heap → Prop) : Prop :=
  ∃ ρ' H', evOps cx fx (callw cx) ops l ρ H = some (ρ', H') ∧ K ρ' H'
def thenQ (cx : Cx) (fx : Fx) (c : Code) (Q : Ex → Env → Heap → Prop) : Ex → Env → Heap → Prop
  | .normal, ρ, H => Ev cx fx c ρ H Q
  | ex, ρ, H => Q ex ρ H
def blockQ (id : Nat) (Q : Ex → Env → Heap → Prop) : Ex → Env → Heap → Prop
  | .exit id', ρ, H => Q (if id' = id then .normal else .exit id') ρ H
  | ex, ρ, H => Q ex ρ H
def loopQ (cx : Cx) (fx : Fx) (c : Code) (Q : Ex → Env → Heap → Prop) : Ex → Env → Heap → Prop
  | .normal, ρ, H => Lp cx fx c ρ H Q
  | ex, ρ, H => Q ex ρ H

theorem Ev.mono {c : Code} {ρ : Env} {H : Heap} {Q Q' : Ex → Env → Heap → Prop} (h : Ev cx fx c ρ H Q) (hq : ∀ ex ρ' H', Q ex ρ' H' → Q' ex ρ' H') : Ev cx fx c ρ H Q' := by
  obtain ⟨ex, ρ', H', h1, h2⟩ := h; exact ⟨ex, ρ', H', h1, hq _ _ _ h2⟩
theorem Lp.mono {c : Code} {ρ : Env} {H : Heap} {Q Q' : Ex → Env → Heap → Prop} (h : Lp cx fx c ρ H Q) (hq : ∀ ex ρ' H', Q ex ρ' H' → Q' ex ρ' H') : Lp cx fx c ρ H Q' := by
  obtain ⟨ex, ρ', H', h1, h2⟩ := h; exact ⟨ex, ρ', H', h1, hq _ _ _ h2⟩

section
variable {ρ : Env} {H : Heap} {Q : Ex → Env → Heap → Prop}
theorem ev_skip (h : Q .normal ρ H) : Ev cx fx .skip ρ H Q := ⟨_, _, _, rfl, h⟩
theorem ev_label {l : Nat} (h : Q .normal ρ H) : Ev cx fx (.label l) ρ H Q := ⟨_, _, _, rfl, h⟩
theorem ev_exit {id : Nat} (h : Q (.exit id) ρ H) : Ev cx fx (.exit id) ρ H Q := ⟨_, _, _, rfl, h⟩
theorem ev_ret (h : Q .ret ρ H) : Ev cx fx .ret ρ H Q := ⟨_, _, _, rfl, h⟩
theorem ev_scope {c : Code} (h : Ev cx fx c ρ H Q) : Ev cx fx (.scope c) ρ H Q := h
theorem ev_seq {a b : Code} (h : Ev cx fx a ρ H (thenQ cx fx b Q)) : Ev cx fx (.seq a b) ρ H Q := by
  obtain ⟨ex, ρ', H', h1, h2⟩ := h
  cases ex with
  | normal =>
    obtain ⟨ex2, ρ2, H2, h3, h4⟩ := h2
    exact ⟨ex2, ρ2, H2, by simp only [evCode, h1, h3], h4⟩
  | _ => exact ⟨_, ρ', H', by simp only [evCode, h1], h2⟩
theorem ev_region {id : Nat} {ops : Array Oper} (h : EvO cx fx ops ops.toList ρ H (Q .normal)) : Ev cx fx (.region id ops false) ρ H Q := by
  obtain ⟨ρ', H', h1, h2⟩ := h
  exact ⟨_, ρ', H', by simp only [evCode, h1, Bool.false_eq_true, if_false, Option.map_some], h2⟩
theorem ev_block {id : Nat} {c : Code} (h : Ev cx fx c ρ H (blockQ id Q)) : Ev cx fx (.block id c) ρ H Q := by
  obtain ⟨ex, ρ', H', h1, h2⟩ := h
  cases ex with
  | exit id' => exact ⟨_, ρ', H', by simp only [evCode, h1], h2⟩
  | _ => exact ⟨_, ρ', H', by simp only [evCode, h1], h2⟩
theorem ev_cond {o : Operand} {x y : Code} (b : Bool) (hb : opnd ρ o = .bool b) (ht : b = true → Ev cx fx x ρ H Q) (hf : b = false → Ev cx fx y ρ H Q) : Ev cx fx (.cond o x y) ρ H Q := by
  cases b with
  | true => obtain ⟨ex, ρ', H', h1, h2⟩ := ht rfl; exact ⟨ex, ρ', H', by simp only [evCode, hb, h1], h2⟩
  | false => obtain ⟨ex, ρ', H', h1, h2⟩ := hf rfl; exact ⟨ex, ρ', H', by simp only [evCode, hb, h1], h2⟩
theorem ev_loop {c : Code} (h : Lp cx fx c ρ H Q) : Ev cx fx (.loop c) ρ H Q := h
theorem lp_round {c : Code} (h : Ev cx fx c ρ H (loopQ cx fx c Q)) : Lp cx fx c ρ H Q := by
  obtain ⟨ex, ρ', H', h1, h2⟩ := h
  cases ex with
  | normal =>
    obtain ⟨ex2, ρ2, H2, h3, h4⟩ := h2
    exact ⟨ex2, ρ2, H2, loopw_go h1 h3, h4⟩
  | _ => exact ⟨_, ρ', H', loopw_end h1 (by simp), h2⟩

theorem evo_nil {ops : Array Oper} {K : Env → Heap → Prop} : EvO cx fx ops [] ρ H K ↔ K ρ H := by
  constructor
  · rintro ⟨ρ', H', h1, h2⟩; simp [evOps] at h1; obtain ⟨rfl, rfl⟩ := h1; exact h2
  · exact fun h => ⟨ρ, H, rfl, h⟩

/-- Behind an operation. -/
def putK (n : Nat) (dst : Option Nat) (v : V) (ρ : Env) (K : Env → Prop) : Prop :=
  match dst with
  | none => K ρ
  | some d => d < n ∧ K (ρ.put d v)
def gotK (r : Option (V × Heap)) (K : V → Heap → Prop) : Prop :=
  match r with
  | some (v, H) => K v H
  | none => False
def wantK (b : Option Bool) (A B : Prop) : Prop :=
  match b with
  | some true => A
  | some false => B
  | none => False
theorem gotK_some {v : V} {H : Heap} {K : V → Heap → Prop} : gotK (some (v, H)) K ↔ K v H := Iff.rfl

theorem evo_cons {ops : Array Oper} {o : Oper} {r : List Oper} {K : Env → Heap → Prop} :
    EvO cx fx ops (o :: r) ρ H K ↔ wantK (wantedV ops o ρ) (gotK (evOp cx fx (callw cx) o ρ H) fun v H' => putK fx.n o.dst v ρ fun ρ' => EvO cx fx ops r ρ' H' K)
      (putK fx.n o.dst .skip ρ fun ρ' => EvO cx fx ops r ρ' H K) := by
  unfold EvO
  simp only [evOps, evOper]
  cases hw : wantedV ops o ρ with
  | none => simp [wantK]
  | some b =>
    cases b with
    | true =>
      simp only [Option.bind_some, if_true, wantK]
      cases ho : evOp cx fx (callw cx) o ρ H with
      | none => simp [gotK]
      | some r =>
        obtain ⟨v, H1⟩ := r
        simp only [Option.bind_some, gotK, putK]
        cases o.dst with
        | none => simp
        | some d =>
          simp only
          by_cases hd : d < fx.n
          · simp [hd]
          · simp [hd]
    | false =>
      simp only [Option.bind_some, Bool.false_eq_true, if_false, wantK, putK]
      cases o.dst with
      | none => simp
      | some d =>
        simp only
        by_cases hd : d < fx.n
        · simp [hd]
        · simp [hd]
end

/-- A function that cuts back: its contract from its code. -/
theorem call_of {f : Nat} {fn : Func} {c : Code} (hk : cx.keep f = false) (hf : cx.P.funcs[f]? = some fn) (hb : fn.body = some c) {bs : List Nat} {args : List V} {H : Heap} {v : V} {H' : Heap}
    (h : Ev cx ⟨args.length + (fn.ntmps - args.length), H.length :: bs⟩ c (fun i => (args.map V.norm).getD i .undef) H
      fun ex ρ H1 => (match ex with | .exit _ => False | _ => True) ∧ ∃ vs ws, resultsV cx.P fn ρ H1 = some vs ∧ vs.mapM (frz 6 H.length H1) = some ws ∧ packV ws = v ∧ H1.take H.length = H') :
    callw cx bs f args H = some (v, H') := by
  obtain ⟨ex, ρ, H1, h1, h2, vs, ws, h3, h4, h5, h6⟩ := h
  refine callw_body ?_
  unfold evBody
  simp only [hf, hb, hk, Bool.false_eq_true, if_false, h1, Option.bind_some]
  cases ex with
  | exit _ => exact h2.elim
  | normal => simp only [h3, Option.bind_some, h4, Option.map_some, h5, h6]
  | ret => simp only [h3, Option.bind_some, h4, Option.map_some, h5, h6]
attribute [irreducible] Ev EvO Lp thenQ blockQ loopQ
end
end Go.E
/- E, step by step, for simp. Own work. -/
namespace Go.E
section
variable {cx : Cx} {fx : Fx} {call : CallSem} {ρ : Env} {H : Heap} {dst : Option Nat} {ty : TypeId} {pos : String} {aft : Array Edge} {gd : Option (Nat × Bool)}

theorem put_get (ρ : Env) (d i : Nat) (v : V) : (ρ.put d v) i = if i = d then v else ρ i := rfl
theorem eo_move {x : Operand} : evOp cx fx call ⟨dst, .move x, ty, pos, aft, gd⟩ ρ H = some (opnd ρ x, H) := rfl
theorem eo_asg_tmp {t : Nat} : evOp cx fx call ⟨dst, .assign (.tmp t), ty, pos, aft, gd⟩ ρ H = some (ρ t, H) := rfl
theorem eo_asg_int {k : IntKind} {n : Int} : evOp cx fx call ⟨dst, .assign (.const (.int k n)), ty, pos, aft, gd⟩ ρ H = some (.int k n, H) := by simp [evOp, opnd, ofVal, ofVal1]
theorem eo_asg_bool {b : Bool} : evOp cx fx call ⟨dst, .assign (.const (.bool b)), ty, pos, aft, gd⟩ ρ H = some (.bool b, H) := by simp [evOp, opnd, ofVal, ofVal1]
theorem eo_asg_str {s : ByteArray} : evOp cx fx call ⟨dst, .assign (.const (.string s)), ty, pos, aft, gd⟩ ρ H = some (.str s, H) := by simp [evOp, opnd, ofVal, ofVal1]
theorem eo_asg_nilf : evOp cx fx call ⟨dst, .assign (.const .nilFunc), ty, pos, aft, gd⟩ ρ H = some (.nilF, H) := by simp [evOp, opnd, ofVal, ofVal1]
theorem eo_asg_nilp : evOp cx fx call ⟨dst, .assign (.const (.pointer none)), ty, pos, aft, gd⟩ ρ H = some (.nilP, H) := by simp [evOp, opnd, ofVal, ofVal1]
theorem eo_asg_nilm : evOp cx fx call ⟨dst, .assign (.const (.map none)), ty, pos, aft, gd⟩ ρ H = some (.nilM, H) := by simp [evOp, opnd, ofVal, ofVal1]
theorem eo_asg_func {f : Nat} : evOp cx fx call ⟨dst, .assign (.func f), ty, pos, aft, gd⟩ ρ H = some (.func f [], H) := rfl
theorem eo_asg_agg {cs : Array Value} : evOp cx fx call ⟨dst, .assign (.const (.agg cs)), ty, pos, aft, gd⟩ ρ H = some (.agg (cs.toList.map ofVal1), H) := by simp [evOp, opnd, ofVal, ofVal1]
theorem eo_asg_nils : evOp cx fx call ⟨dst, .assign (.const (.slice none 0 0)), ty, pos, aft, gd⟩ ρ H =
    (match cx.P.underlying ty with | some (.slice _) => some (.tl H.length [], H ++ [.tok 0]) | _ => some (.nilS, H)) := by
  cases hu : cx.P.underlying ty with
  | none => simp [evOp, hu, opnd, ofVal, ofVal1]
  | some d => cases d <;> simp [evOp, hu, opnd, ofVal, ofVal1]
theorem eo_pick {c a b : Operand} : evOp cx fx call ⟨dst, .pick c a b, ty, pos, aft, gd⟩ ρ H =
    (match opnd ρ c with | .bool true => some (opnd ρ a, H) | .bool false => some (opnd ρ b, H) | _ => none) := rfl
theorem eo_pick_b {c a b : Operand} {t : Bool} (h : opnd ρ c = .bool t) : evOp cx fx call ⟨dst, .pick c a b, ty, pos, aft, gd⟩ ρ H = some (if t = true then opnd ρ a else opnd ρ b, H) := by
  rw [eo_pick, h]; cases t <;> rfl
theorem eo_load {t : TypeId} {a : Operand} : evOp cx fx call ⟨dst, .load t a, ty, pos, aft, gd⟩ ρ H = (loadV cx.P t (opnd ρ a) H).map (·, H) := rfl
theorem eo_store {t : TypeId} {a x : Operand} : evOp cx fx call ⟨dst, .store t a x, ty, pos, aft, gd⟩ ρ H = (storeV cx.P fx.bs t (opnd ρ a) (opnd ρ x) H).map (V.undef, ·) := rfl
theorem eo_alloc {t : TypeId} : evOp cx fx call ⟨dst, .alloc t, ty, pos, aft, gd⟩ ρ H = (zeroT cx.P t).bind fun z => if z.cells.all V.isCell then some (.ptr H.length 0, H ++ [.cells z.cells]) else none := rfl
theorem eo_box {t : TypeId} {x : Operand} : evOp cx fx call ⟨dst, .box t x, ty, pos, aft, gd⟩ ρ H = if (opnd ρ x).cells.all V.isCell then some (.ptr H.length 0, H ++ [.cells (opnd ρ x).cells]) else none := rfl
theorem eo_build {t : TypeId} {parts : Array (Nat × Operand)} : evOp cx fx call ⟨dst, .build t parts, ty, pos, aft, gd⟩ ρ H = (buildV cx.P t (parts.toList.map fun q => (q.1, opnd ρ q.2))).map (·, H) := rfl
theorem eo_buildSlice {t : TypeId} {len : Nat} {parts : Array (Nat × Operand)} : evOp cx fx call ⟨dst, .buildSlice t len parts, ty, pos, aft, gd⟩ ρ H =
    (elemT cx.P t).bind fun el => (sizeT cx.P el).bind fun sz =>
      if sz ≠ 0 ∧ parts.toList.map (·.1) = List.range len ∧ len * sz ≤ 16777216 ∧ (zeroT cx.P el).isSome = true then
        (takeElems sz (parts.toList.map fun q => opnd ρ q.2)).map fun es =>
          if len = 0 then (.tl H.length [], H ++ [.tok 0]) else if cx.vec t pos = true then (.ref sz H.length 0 0 len, H ++ [.arr es 0]) else if cx.own t = true then (.tl H.length es, H ++ [.tok len]) else (.list es, H)
      else none := rfl
theorem eo_makeFunc {f : Nat} {caps : Array Operand} : evOp cx fx call ⟨dst, .makeFunc (.func f) #[] caps, ty, pos, aft, gd⟩ ρ H = some (.func f (caps.toList.map (opnd ρ)), H) := rfl
theorem eo_nilCheck {x : Operand} : evOp cx fx call ⟨dst, .nilCheck x, ty, pos, aft, gd⟩ ρ H =
    (match opnd ρ x with
    | .ptr id off => some (.ptr id off, H)
    | .eptr cs off => some (.eptr cs off, H)
    | .aptr id ver i off => some (.aptr id ver i off, H)
    | .func f caps => some (.func f caps, H)
    | _ => none) := rfl
theorem eo_extract {x : Operand} {i : Nat} : evOp cx fx call ⟨dst, .extract x i, ty, pos, aft, gd⟩ ρ H = (match opnd ρ x with | .tuple vs => (vs[i]?).map (·, H) | _ => none) := rfl
theorem eo_makeSlice {t : TypeId} {l c : Operand} : evOp cx fx call ⟨dst, .makeSlice t l c, ty, pos, aft, gd⟩ ρ H =
    (elemT cx.P t).bind fun el => (sizeT cx.P el).bind fun sz => (bytesT cx.P el).bind fun by_ => (zeroT cx.P el).bind fun z =>
      match opnd ρ l, opnd ρ c with
      | .int _ n, .int _ m =>
        if n = m ∧ 0 ≤ n ∧ n.toNat * by_ ≤ roomB ∧ n ≤ roomB ∧ sz ≠ 0 ∧ z.cells.length = sz ∧ z.cells.all V.isCell = true ∧ z.pure = true then
          some (.ref sz H.length 0 0 n.toNat, H ++ [.arr (List.replicate n.toNat z) 0]) else none
      | _, _ => none := rfl
theorem eb_min {c : Callee} {xs : Array Operand} {ts : Array TypeId} : evBuiltin cx .min ⟨c, xs, ts⟩ pos ρ H = (minmax false (xs.toList.map (opnd ρ))).map (·, H) := by unfold evBuiltin; rfl
theorem eb_max {c : Callee} {xs : Array Operand} {ts : Array TypeId} : evBuiltin cx .max ⟨c, xs, ts⟩ pos ρ H = (minmax true (xs.toList.map (opnd ρ))).map (·, H) := by unfold evBuiltin; rfl
theorem minmax2 {m : Bool} {k k' : IntKind} {x y : Int} : minmax m [.int k x, .int k' y] = some (.int k (if m then (if x < y then y else x) else (if y < x then y else x))) := by simp [minmax]
theorem eo_binOp {op : BinOp} {t : TypeId} {x y : Operand} {u : TypeId} : evOp cx fx call ⟨dst, .binOp op t x y u, ty, pos, aft, gd⟩ ρ H = (binOpV cx.P op t (opnd ρ x) (opnd ρ y)).map (·, H) := rfl
theorem eo_unOp {op : UnOp} {t : TypeId} {x : Operand} : evOp cx fx call ⟨dst, .unOp op t x, ty, pos, aft, gd⟩ ρ H = (unOpV op (opnd ρ x)).map (·, H) := rfl
theorem eo_conv {s d : TypeId} {x : Operand} : evOp cx fx call ⟨dst, .convert s d x, ty, pos, aft, gd⟩ ρ H = (convV cx.P s d (opnd ρ x)).map (·, H) := rfl
theorem eo_slice {t : TypeId} {x : Operand} {lo hi mx : Option Operand} : evOp cx fx call ⟨dst, .slice t x lo hi mx, ty, pos, aft, gd⟩ ρ H = (sliceV cx.P t (opnd ρ x) (lo.map (opnd ρ)) (hi.map (opnd ρ)) (mx.map (opnd ρ))).map (·, H) := rfl
theorem eo_fieldAddr {t : TypeId} {x : Operand} {j : Nat} : evOp cx fx call ⟨dst, .fieldAddr t x j, ty, pos, aft, gd⟩ ρ H = (fieldAddrV cx.P t (opnd ρ x) j).map (·, H) := rfl
theorem eo_field {t : TypeId} {x : Operand} {j : Nat} : evOp cx fx call ⟨dst, .field t x j, ty, pos, aft, gd⟩ ρ H = (fieldV cx.P t (opnd ρ x) j).map (·, H) := rfl
theorem eo_indexAddr {t : TypeId} {x i : Operand} : evOp cx fx call ⟨dst, .indexAddr t x i, ty, pos, aft, gd⟩ ρ H = (indexAddrV cx.P t (opnd ρ x) (opnd ρ i)).map (·, H) := rfl
theorem eo_index {t : TypeId} {x i : Operand} : evOp cx fx call ⟨dst, .index t x i, ty, pos, aft, gd⟩ ρ H = (indexV cx.P t (opnd ρ x) (opnd ρ i)).map (·, H) := rfl
theorem eo_lookup {t : TypeId} {m k : Operand} {ok : Bool} : evOp cx fx call ⟨dst, .lookup t m k ok, ty, pos, aft, gd⟩ ρ H = (lookupV cx.P t (opnd ρ m) (opnd ρ k) ok H).map (·, H) := rfl
theorem eo_mapUpdate {t : TypeId} {m k v : Operand} : evOp cx fx call ⟨dst, .mapUpdate t m k v, ty, pos, aft, gd⟩ ρ H = (mapUpdateV cx.P fx.bs t (opnd ρ m) (opnd ρ k) (opnd ρ v) H).map (V.undef, ·) := rfl
theorem eo_makeMap {t : TypeId} : evOp cx fx call ⟨dst, .makeMap t none, ty, pos, aft, gd⟩ ρ H = some (.map H.length, H ++ [.map []]) := rfl
theorem eo_call {f : Operand} {args : Array Operand} {tys : Array TypeId} : evOp cx fx call ⟨dst, .call ⟨.value f, args, tys⟩, ty, pos, aft, gd⟩ ρ H =
    (evCallee ρ f).bind fun g => callAt cx f pos call fx.bs g.1 (args.toList.map (opnd ρ) ++ g.2) H := rfl
theorem ca_off {o : Operand} {f : Nat} {bs : List Nat} {a : List V} (h : cx.thaw o pos = false) : callAt cx o pos call bs f a H = call bs f a H := by simp [callAt, h]
theorem ca_on {o : Operand} {f : Nat} {bs : List Nat} {a : List V} (h : cx.thaw o pos = true) : callAt cx o pos call bs f a H =
    (match cx.fresh f (a.map V.norm) with | some q => some (.ref q.1 H.length 0 0 q.2.length, H ++ [.arr q.2 0]) | none => call bs f a H) := by
  unfold callAt
  rw [if_pos h]
  cases cx.fresh f (a.map V.norm) <;> rfl
theorem eo_callee_f {f : Nat} : evCallee ρ (.func f) = some (f, []) := rfl
theorem eo_callee_t {t : Nat} : evCallee ρ (.tmp t) = (match ρ t with | .func g caps => some (g, caps) | _ => none) := rfl
theorem eo_builtin {b : Builtin} {args : Array Operand} {tys : Array TypeId} : evOp cx fx call ⟨dst, .call ⟨.builtin b, args, tys⟩, ty, pos, aft, gd⟩ ρ H = evBuiltin cx b ⟨.builtin b, args, tys⟩ pos ρ H := rfl
theorem eb_len {c : Callee} {x : Operand} {t : TypeId} : evBuiltin cx .len ⟨c, #[x], #[t]⟩ pos ρ H =
    (match cx.P.underlying t, opnd ρ x with
    | some (.slice _), .nilS | some (.slice _), .list _ | some (.slice _), .tl _ _ | some (.slice _), .ref .. | some .string, .str _ => (lenV (opnd ρ x)).map fun n => (.int .i64 n, H)
    | some (.array n _), _ => some (.int .i64 n, H)
    | _, _ => none) := rfl
theorem eb_append {c : Callee} {s x : Operand} {t u : TypeId} : evBuiltin cx .append ⟨c, #[s, x], #[t, u]⟩ pos ρ H =
    (match cx.P.underlying u with | some (.slice _) => appendV cx.P (cx.vec t pos) t (opnd ρ s) (opnd ρ x) H | _ => none) := rfl
theorem op_tmp {t : Nat} : opnd ρ (.tmp t) = ρ t := rfl
theorem op_int {k : IntKind} {n : Int} : opnd ρ (.const (.int k n)) = .int k n := rfl
theorem op_bool {b : Bool} : opnd ρ (.const (.bool b)) = .bool b := rfl
theorem op_str {s : ByteArray} : opnd ρ (.const (.string s)) = .str s := rfl
theorem op_nils : opnd ρ (.const (.slice none 0 0)) = .nilS := rfl
theorem op_nilf : opnd ρ (.const .nilFunc) = .nilF := rfl
theorem op_nilp : opnd ρ (.const (.pointer none)) = .nilP := rfl
theorem op_agg {cs : Array Value} : opnd ρ (.const (.agg cs)) = .agg (cs.toList.map ofVal1) := rfl
theorem op_func {f : Nat} : opnd ρ (.func f) = .func f [] := rfl
theorem wv_none {ops : Array Oper} {op : Op} : wantedV ops ⟨dst, op, ty, pos, aft, none⟩ ρ = some true := rfl
theorem wv_some {ops : Array Oper} {op : Op} {j : Nat} {w : Bool} : wantedV ops ⟨dst, op, ty, pos, aft, some (j, w)⟩ ρ =
    (match (ops[j]?).bind (·.dst) with
    | none => some false
    | some d => match ρ d with | .bool b => some (b == w) | .skip => some false | _ => none) := rfl
theorem wantK_true {A B : Prop} : wantK (some true) A B ↔ A := Iff.rfl
theorem wantK_false {A B : Prop} : wantK (some false) A B ↔ B := Iff.rfl
theorem wantK_case {A B : Prop} (b : Bool) (h1 : b = true → A) (h2 : b = false → B) : wantK (some b) A B := by cases b; exact h2 rfl; exact h1 rfl
theorem putK_none {n : Nat} {v : V} {K : Env → Prop} : putK n none v ρ K ↔ K ρ := Iff.rfl
theorem putK_some {n d : Nat} {v : V} {K : Env → Prop} : putK n (some d) v ρ K ↔ d < n ∧ K (ρ.put d v) := Iff.rfl
theorem thenQ_normal {c : Code} {Q : Ex → Env → Heap → Prop} : thenQ cx fx c Q .normal ρ H ↔ Ev cx fx c ρ H Q := by unfold thenQ; rfl
theorem thenQ_exit {c : Code} {Q : Ex → Env → Heap → Prop} {id : Nat} : thenQ cx fx c Q (.exit id) ρ H ↔ Q (.exit id) ρ H := by unfold thenQ; rfl
theorem thenQ_ret {c : Code} {Q : Ex → Env → Heap → Prop} : thenQ cx fx c Q .ret ρ H ↔ Q .ret ρ H := by unfold thenQ; rfl
theorem blockQ_normal {id : Nat} {Q : Ex → Env → Heap → Prop} : blockQ id Q .normal ρ H ↔ Q .normal ρ H := by unfold blockQ; rfl
theorem blockQ_exit {id id' : Nat} {Q : Ex → Env → Heap → Prop} : blockQ id Q (.exit id') ρ H ↔ Q (if id' = id then .normal else .exit id') ρ H := by unfold blockQ; rfl
theorem blockQ_ret {id : Nat} {Q : Ex → Env → Heap → Prop} : blockQ id Q .ret ρ H ↔ Q .ret ρ H := by unfold blockQ; rfl
theorem loopQ_normal {c : Code} {Q : Ex → Env → Heap → Prop} : loopQ cx fx c Q .normal ρ H ↔ Lp cx fx c ρ H Q := by unfold loopQ; rfl
theorem loopQ_exit {c : Code} {Q : Ex → Env → Heap → Prop} {id : Nat} : loopQ cx fx c Q (.exit id) ρ H ↔ Q (.exit id) ρ H := by unfold loopQ; rfl
theorem loopQ_ret {c : Code} {Q : Ex → Env → Heap → Prop} : loopQ cx fx c Q .ret ρ H ↔ Q .ret ρ H := by unfold loopQ; rfl
/-- A value alone; a heap alone. -/
def gotV (r : Option V) (H : Heap) (K : V → Heap → Prop) : Prop := match r with | some v => K v H | none => False
def gotH (r : Option Heap) (K : V → Heap → Prop) : Prop := match r with | some H => K .undef H | none => False
theorem gotK_map {r : Option V} {K : V → Heap → Prop} : gotK (r.map (·, H)) K ↔ gotV r H K := by cases r <;> rfl
theorem gotK_mapH {r : Option Heap} {K : V → Heap → Prop} : gotK (r.map (V.undef, ·)) K ↔ gotH r K := by cases r <;> rfl
theorem gotV_some {v : V} {K : V → Heap → Prop} : gotV (some v) H K ↔ K v H := Iff.rfl
theorem gotH_some {K : V → Heap → Prop} : gotH (some H) K ↔ K .undef H := Iff.rfl
theorem bin_add {P : Program} {t : TypeId} {k : IntKind} {a b : Int} : binOpV P .add t (.int k a) (.int k b) = some (.int k (k.wrap (a + b))) := by simp [binOpV, intOp]
theorem bin_sub {P : Program} {t : TypeId} {k : IntKind} {a b : Int} : binOpV P .sub t (.int k a) (.int k b) = some (.int k (k.wrap (a - b))) := by simp [binOpV, intOp]
theorem bin_mul {P : Program} {t : TypeId} {k : IntKind} {a b : Int} : binOpV P .mul t (.int k a) (.int k b) = some (.int k (k.wrap (a * b))) := by simp [binOpV, intOp]
theorem bin_lss {P : Program} {t : TypeId} {k : IntKind} {a b : Int} : binOpV P .lss t (.int k a) (.int k b) = some (.bool (decide (a < b))) := by simp [binOpV, intOp]
theorem bin_leq {P : Program} {t : TypeId} {k : IntKind} {a b : Int} : binOpV P .leq t (.int k a) (.int k b) = some (.bool (decide (a ≤ b))) := by simp [binOpV, intOp]
theorem bin_gtr {P : Program} {t : TypeId} {k : IntKind} {a b : Int} : binOpV P .gtr t (.int k a) (.int k b) = some (.bool (decide (b < a))) := by simp [binOpV, intOp]
theorem bin_geq {P : Program} {t : TypeId} {k : IntKind} {a b : Int} : binOpV P .geq t (.int k a) (.int k b) = some (.bool (decide (b ≤ a))) := by simp [binOpV, intOp]
theorem bin_eql {P : Program} {t : TypeId} {k : IntKind} {a b : Int} : binOpV P .eql t (.int k a) (.int k b) = some (.bool (decide (a = b))) := by simp [binOpV, intOp]; by_cases h : a = b <;> simp [h]
theorem bin_neq {P : Program} {t : TypeId} {k : IntKind} {a b : Int} : binOpV P .neq t (.int k a) (.int k b) = some (.bool (decide (a ≠ b))) := by simp [binOpV, intOp]; by_cases h : a = b <;> simp [h]
theorem bin_and {P : Program} {t : TypeId} {k : IntKind} {a b : Int} : binOpV P .and t (.int k a) (.int k b) = some (.int k (bitsI .and k a b)) := by simp [binOpV, intOp]
theorem bin_or {P : Program} {t : TypeId} {k : IntKind} {a b : Int} : binOpV P .or t (.int k a) (.int k b) = some (.int k (bitsI .or k a b)) := by simp [binOpV, intOp]
theorem bin_xor {P : Program} {t : TypeId} {k : IntKind} {a b : Int} : binOpV P .xor t (.int k a) (.int k b) = some (.int k (bitsI .xor k a b)) := by simp [binOpV, intOp]
theorem bin_quo {P : Program} {t : TypeId} {k : IntKind} {a b : Int} (h : b ≠ 0) : binOpV P .quo t (.int k a) (.int k b) = some (.int k (k.wrap (a.tdiv b))) := by simp [binOpV, intOp, h]
theorem bin_rem {P : Program} {t : TypeId} {k : IntKind} {a b : Int} (h : b ≠ 0) : binOpV P .rem t (.int k a) (.int k b) = some (.int k (a.tmod b)) := by simp [binOpV, intOp, h]
theorem bin_seql {P : Program} {t : TypeId} {a b : ByteArray} : binOpV P .eql t (.str a) (.str b) = some (.bool (decide (a = b))) := by simp [binOpV, strOp]
theorem bin_sneq {P : Program} {t : TypeId} {a b : ByteArray} : binOpV P .neq t (.str a) (.str b) = some (.bool (!decide (a = b))) := by simp [binOpV, strOp]
theorem un_not {b : Bool} : unOpV .not (.bool b) = some (.bool !b) := rfl
theorem un_neg {k : IntKind} {n : Int} : unOpV .neg (.int k n) = some (.int k (k.wrap (0 - n))) := rfl
end

section
variable {cx : Cx} {fx : Fx} {ρ : Env} {H : Heap} {dst : Option Nat} {ty : TypeId} {pos : String} {aft : Array Edge} {gd : Option (Nat × Bool)} {ops : Array Oper} {r : List Oper} {op : Op} {K : Env → Heap → Prop}
theorem evo_end (h : K ρ H) : EvO cx fx ops [] ρ H K := evo_nil.2 h
theorem evo_op {d : Nat} {v : V} {H1 : Heap} (hw : wantedV ops ⟨some d, op, ty, pos, aft, gd⟩ ρ = some true) (ho : evOp cx fx (callw cx) ⟨some d, op, ty, pos, aft, gd⟩ ρ H = some (v, H1)) (hd : d < fx.n)
    (h : EvO cx fx ops r (ρ.put d v) H1 K) : EvO cx fx ops (⟨some d, op, ty, pos, aft, gd⟩ :: r) ρ H K := by
  rw [evo_cons, hw, ho]; exact ⟨hd, h⟩
theorem evo_op0 {v : V} {H1 : Heap} (hw : wantedV ops ⟨none, op, ty, pos, aft, gd⟩ ρ = some true) (ho : evOp cx fx (callw cx) ⟨none, op, ty, pos, aft, gd⟩ ρ H = some (v, H1))
    (h : EvO cx fx ops r ρ H1 K) : EvO cx fx ops (⟨none, op, ty, pos, aft, gd⟩ :: r) ρ H K := by
  rw [evo_cons, hw, ho]; exact h
theorem evo_off {d : Nat} (hw : wantedV ops ⟨some d, op, ty, pos, aft, gd⟩ ρ = some false) (hd : d < fx.n) (h : EvO cx fx ops r (ρ.put d .skip) H K) : EvO cx fx ops (⟨some d, op, ty, pos, aft, gd⟩ :: r) ρ H K := by
  rw [evo_cons, hw]; exact ⟨hd, h⟩
theorem evo_off0 (hw : wantedV ops ⟨none, op, ty, pos, aft, gd⟩ ρ = some false) (h : EvO cx fx ops r ρ H K) : EvO cx fx ops (⟨none, op, ty, pos, aft, gd⟩ :: r) ρ H K := by
  rw [evo_cons, hw]; exact h
/-- A guard that is not known yet: two ways, in which the truth is known in its place. -/
theorem evo_split {o : Oper} (b : Bool) (A B : Prop) (_ : wantedV ops o ρ = some b) (h1 : b = true → EvO cx fx ops (o :: r) ρ H K) (h2 : b = false → EvO cx fx ops (o :: r) ρ H K) : EvO cx fx ops (o :: r) ρ H K := by
  cases b; exact h2 rfl; exact h1 rfl
end

/-- The frame when a call begins. -/
def fr (l : List V) : Env := fun i => l.getD i .undef
theorem fr_zero (v : V) (l : List V) : fr (v :: l) 0 = v := rfl
theorem fr_succ (v : V) (l : List V) (i : Nat) : fr (v :: l) (i + 1) = fr l i := by simp [fr]
theorem fr_nil (i : Nat) : fr [] i = .undef := by simp [fr]

theorem call_of' {cx : Cx} {f N : Nat} {fn : Func} {c : Code} {bs : List Nat} {args : List V} {H : Heap} {v : V} {H' : Heap} (hk : cx.keep f = false) (hf : cx.P.funcs[f]? = some fn) (hb : fn.body = some c)
    (hN : args.length + (fn.ntmps - args.length) = N) {rs : List ResultVar} (hr : fn.results.toList = rs)
    (h : Ev cx ⟨N, H.length :: bs⟩ c (fr (args.map V.norm)) H
      fun ex ρ H1 => (match ex with | .exit _ => False | _ => True) ∧ ∃ vs ws, (rs.mapM fun (r : ResultVar) => match r with | .tmp t => some (ρ t) | .cell a t => loadV cx.P t (ρ a) H1) = some vs ∧ vs.mapM (frz 6 H.length H1) = some ws ∧ packV ws = v ∧ H1.take H.length = H') :
    callw cx bs f args H = some (v, H') := by
  subst hN; subst hr
  exact call_of hk hf hb h

theorem wrap64 {n : Int} (h1 : -9223372036854775808 ≤ n) (h2 : n ≤ 9223372036854775807) : IntKind.i64.wrap n = n := by
  unfold IntKind.wrap
  simp [IntKind.bits, IntKind.signed]
  omega

attribute [push_cast] eo_buildSlice eo_makeFunc eo_nilCheck eo_extract eo_makeSlice eb_min eb_max minmax2 gotK_some put_get eo_move eo_asg_tmp eo_asg_int eo_asg_bool eo_asg_str eo_asg_nilf eo_asg_nilp eo_asg_nilm eo_asg_func eo_asg_agg eo_asg_nils eo_load eo_store eo_alloc eo_box eo_build eo_binOp eo_unOp eo_conv eo_slice
  eo_fieldAddr eo_field eo_indexAddr eo_index eo_lookup eo_mapUpdate eo_makeMap eo_call ca_off ca_on eo_callee_f eo_callee_t eo_builtin eb_len eb_append op_tmp op_int op_bool op_str op_nils op_nilf op_nilp op_agg op_func wv_none wv_some wantK_true wantK_false
  putK_none putK_some thenQ_normal thenQ_exit thenQ_ret blockQ_normal blockQ_exit blockQ_ret loopQ_normal loopQ_exit loopQ_ret gotK_map gotK_mapH gotV_some gotH_some fr_zero fr_succ fr_nil
  bin_add bin_sub bin_mul bin_lss bin_leq bin_gtr bin_geq bin_eql bin_neq bin_and bin_or bin_xor bin_quo bin_rem bin_seql bin_sneq un_not un_neg
end Go.E
/- E, step by step: what is handed back; the heap of a call. Own work. -/
namespace Go.E

def resV (P : Program) (ρ : Env) (H : Heap) : ResultVar → Option V
  | .tmp t => some (ρ t)
  | .cell a t => loadV P t (ρ a) H

section
variable {cx : Cx} {ρ : Env} {H1 H' : Heap} {n0 : Nat} {ex : Ex}
/-- What a function's end owes. -/
def Leaf (cx : Cx) (rs : List ResultVar) (n0 : Nat) (v : V) (H' : Heap) (ex : Ex) (ρ : Env) (H1 : Heap) : Prop :=
  (match ex with | .exit _ => False | _ => True) ∧ ∃ vs ws, (rs.mapM (resV cx.P ρ H1)) = some vs ∧ vs.mapM (frz 6 n0 H1) = some ws ∧ packV ws = v ∧ H1.take n0 = H'

theorem call_at {cx : Cx} {f N : Nat} {fn : Func} {c : Code} {bs : List Nat} {args args' : List V} {H : Heap} {v : V} {H' : Heap} (hk : cx.keep f = false) (hf : cx.P.funcs[f]? = some fn) (hb : fn.body = some c)
    (hN : args.length + (fn.ntmps - args.length) = N) {rs : List ResultVar} (hr : fn.results.toList = rs) (ha : args.map V.norm = args')
    (h : Ev cx ⟨N, H.length :: bs⟩ c (fr args') H (Leaf cx rs H.length v H')) : callw cx bs f args H = some (v, H') := by
  subst ha
  refine call_of' hk hf hb hN hr (h.mono fun ex ρ' H1 hl => ?_)
  obtain ⟨h1, vs, ws, h2, h3⟩ := hl
  refine ⟨h1, vs, ws, ?_, h3⟩
  rw [← h2]
  congr 1

theorem leaf0 {v : V} (he : ∀ id, ex ≠ .exit id) (hv : v = .undef) (hh : H1.take n0 = H') : Leaf cx [] n0 v H' ex ρ H1 := by
  refine ⟨?_, [], [], rfl, rfl, hv.symm, hh⟩
  cases ex with
  | exit id => exact absurd rfl (he id)
  | _ => trivial
theorem leaf1 {r : ResultVar} {u v : V} (he : ∀ id, ex ≠ .exit id) (h1 : resV cx.P ρ H1 r = some u) (h2 : frz 6 n0 H1 u = some v) (hh : H1.take n0 = H') : Leaf cx [r] n0 v H' ex ρ H1 := by
  refine ⟨?_, [u], [v], by simp [h1], by simp [h2], rfl, hh⟩
  cases ex with
  | exit id => exact absurd rfl (he id)
  | _ => trivial
theorem leaf2 {r1 r2 : ResultVar} {u1 u2 v1 v2 : V} (he : ∀ id, ex ≠ .exit id) (h1 : resV cx.P ρ H1 r1 = some u1) (h2 : resV cx.P ρ H1 r2 = some u2) (h3 : frz 6 n0 H1 u1 = some v1) (h4 : frz 6 n0 H1 u2 = some v2) (hh : H1.take n0 = H') :
    Leaf cx [r1, r2] n0 (.tuple [v1, v2]) H' ex ρ H1 := by
  refine ⟨?_, [u1, u2], [v1, v2], by simp [h1, h2], by simp [h3, h4], rfl, hh⟩
  cases ex with
  | exit id => exact absurd rfl (he id)
  | _ => trivial
theorem leaf3 {r1 r2 r3 : ResultVar} {u1 u2 u3 v1 v2 v3 : V} (he : ∀ id, ex ≠ .exit id) (h1 : resV cx.P ρ H1 r1 = some u1) (h2 : resV cx.P ρ H1 r2 = some u2) (h5 : resV cx.P ρ H1 r3 = some u3) (h3 : frz 6 n0 H1 u1 = some v1) (h4 : frz 6 n0 H1 u2 = some v2)
    (h6 : frz 6 n0 H1 u3 = some v3) (hh : H1.take n0 = H') : Leaf cx [r1, r2, r3] n0 (.tuple [v1, v2, v3]) H' ex ρ H1 := by
  refine ⟨?_, [u1, u2, u3], [v1, v2, v3], by simp [h1, h2, h5], by simp [h3, h4, h6], rfl, hh⟩
  cases ex with
  | exit id => exact absurd rfl (he id)
  | _ => trivial

theorem frz_pure {d : Nat} {H : Heap} {v : V} (h : v.pure = true) : frz (d + 1) n0 H v = some v := by unfold frz; rw [if_pos h]
theorem frz_tl {d t : Nat} {H : Heap} {es : List V} : frz (d + 1) n0 H (.tl t es) = some (.list es) := by simp [frz, V.pure]
theorem resV_tmp {P : Program} {t : Nat} : resV P ρ H1 (.tmp t) = some (ρ t) := rfl
theorem resV_cell {P : Program} {a : Nat} {t : TypeId} : resV P ρ H1 (.cell a t) = loadV P t (ρ a) H1 := rfl
end

/-! ### The heap of a call: what was there, and its own -/
theorem heap_len (H : Heap) (l : List HObj) : (H ++ l).length = H.length + l.length := List.length_append
theorem heap_get0 (H : Heap) (x : HObj) (l : List HObj) : (H ++ x :: l)[H.length]? = some x := by simp
theorem heap_get (H : Heap) (l : List HObj) (k : Nat) : (H ++ l)[H.length + k]? = l[k]? := by
  rw [List.getElem?_append_right (by omega)]; congr 1; omega
theorem heap_set0 (H : Heap) (x y : HObj) (l : List HObj) : (H ++ x :: l).set H.length y = H ++ y :: l := by simp
theorem heap_set (H : Heap) (l : List HObj) (k : Nat) (y : HObj) : (H ++ l).set (H.length + k) y = H ++ l.set k y := by
  rw [List.set_append_right _ _ (by omega)]; congr 2; omega
theorem heap_take (H : Heap) (l : List HObj) : (H ++ l).take H.length = H := by simp
theorem heap_take0 (H : Heap) : H.take H.length = H := by simp
theorem heap_app (H : Heap) (l m : List HObj) : H ++ l ++ m = H ++ (l ++ m) := List.append_assoc _ _ _

/-- The bodies of a function's loops, in the order of the text. -/
def loops : Code → List Code
  | .seq a b => loops a ++ loops b
  | .cond _ a b => loops a ++ loops b
  | .block _ c | .scope c => loops c
  | .loop c => c :: loops c
  | _ => []
def loopAt (fn : Func) (k : Nat) : Code := ((fn.body.map loops).getD []).getD k .skip
theorem lp_any {cx : Cx} {fx : Fx} {c c' : Code} (h : c = c') {ρ : Env} {H : Heap} {Q : Ex → Env → Heap → Prop} (k : Lp cx fx c ρ H Q) : Lp cx fx c' ρ H Q := h ▸ k

attribute [irreducible] Leaf
attribute [push_cast] eo_pick frz_tl resV_tmp resV_cell heap_get0 heap_get heap_set0 heap_set heap_take heap_take0 heap_app beq_true beq_false
end Go.E
/- E, step by step: the set of rules for simp. Own work. -/
namespace Go.E
/-- A fact that simp is to leave alone. -/
structure Kp (p : Prop) : Prop where
  out : p
theorem add1 (i n : Nat) (h : i < n) (hn : n ≤ 1000000) : IntKind.i64.wrap ((i : Int) + 1) = ((i + 1 : Nat) : Int) := by rw [wrap64] <;> omega
theorem okStore_under {bs : List Nat} {id : Nat} {v : V} (h : ∀ n, v.under n = true) : okStore bs id v = true := by
  unfold okStore
  simp only [h, Bool.or_true, List.all_eq_true, Bool.or_eq_true]
  exact .inr fun _ _ => trivial
theorem okStore_bool {bs : List Nat} {id : Nat} {b : Bool} : okStore bs id (.bool b) = true := okStore_under fun _ => rfl
theorem okStore_int {bs : List Nat} {id : Nat} {k : IntKind} {n : Int} : okStore bs id (.int k n) = true := okStore_under fun _ => rfl
theorem okStore_str {bs : List Nat} {id : Nat} {s : ByteArray} : okStore bs id (.str s) = true := okStore_under fun _ => rfl
theorem okStore_list {bs : List Nat} {id : Nat} {es : List V} : okStore bs id (.list es) = true := okStore_under fun _ => rfl
theorem take_set (H : Heap) (i : Nat) (x : HObj) : (H.set i x).take H.length = H.set i x := List.take_of_length_le (by simp)
theorem vp_int {k : IntKind} {n : Int} : (V.int k n).pure = true := Eq.trans rfl rfl
theorem vp_bool {b : Bool} : (V.bool b).pure = true := Eq.trans rfl rfl
theorem vp_str {s : ByteArray} : (V.str s).pure = true := Eq.trans rfl rfl
theorem vp_nilS : V.nilS.pure = true := Eq.trans rfl rfl
theorem vp_nilP : V.nilP.pure = true := Eq.trans rfl rfl
theorem vp_nilF : V.nilF.pure = true := Eq.trans rfl rfl
theorem vp_nilM : V.nilM.pure = true := Eq.trans rfl rfl
theorem vp_nilI : V.nilI.pure = true := Eq.trans rfl rfl
theorem vp_list {es : List V} : (V.list es).pure = V.pureL es := Eq.trans rfl rfl
theorem vp_agg {cs : List V} : (V.agg cs).pure = V.pureL cs := Eq.trans rfl rfl
theorem vp_eptr {cs : List V} {off : Nat} : (V.eptr cs off).pure = V.pureL cs := Eq.trans rfl rfl
theorem vp_func {f : Nat} {cs : List V} : (V.func f cs).pure = V.pureL cs := Eq.trans rfl rfl
theorem vp_tl {t : Nat} {es : List V} : (V.tl t es).pure = false := Eq.trans rfl rfl
theorem vp_ref {s id ver off len : Nat} : (V.ref s id ver off len).pure = false := Eq.trans rfl rfl
theorem vp_ptr {id off : Nat} : (V.ptr id off).pure = false := Eq.trans rfl rfl
theorem vp_aptr {id ver i off : Nat} : (V.aptr id ver i off).pure = false := Eq.trans rfl rfl
theorem vp_map {id : Nat} : (V.map id).pure = false := Eq.trans rfl rfl
theorem vp_nil : V.pureL [] = true := Eq.trans rfl rfl
theorem vp_cons {v : V} {l : List V} : V.pureL (v :: l) = (v.pure && V.pureL l) := Eq.trans rfl rfl
theorem vc_int {k : IntKind} {n : Int} : (V.int k n).cells = [.int k n] := Eq.trans rfl rfl
theorem vc_bool {b : Bool} : (V.bool b).cells = [.bool b] := Eq.trans rfl rfl
theorem vc_str {s : ByteArray} : (V.str s).cells = [.str s] := Eq.trans rfl rfl
theorem vc_nilS : V.nilS.cells = [.nilS] := Eq.trans rfl rfl
theorem vc_nilP : V.nilP.cells = [.nilP] := Eq.trans rfl rfl
theorem vc_nilF : V.nilF.cells = [.nilF] := Eq.trans rfl rfl
theorem vc_nilM : V.nilM.cells = [.nilM] := Eq.trans rfl rfl
theorem vc_nilI : V.nilI.cells = [.nilI] := Eq.trans rfl rfl
theorem vc_list {es : List V} : (V.list es).cells = [.list es] := Eq.trans rfl rfl
theorem vc_agg {cs : List V} : (V.agg cs).cells = cs := Eq.trans rfl rfl
theorem vc_eptr {cs : List V} {off : Nat} : (V.eptr cs off).cells = [.eptr cs off] := Eq.trans rfl rfl
theorem vc_func {f : Nat} {cs : List V} : (V.func f cs).cells = [.func f cs] := Eq.trans rfl rfl
theorem vc_tl {t : Nat} {es : List V} : (V.tl t es).cells = [.tl t es] := Eq.trans rfl rfl
theorem vc_ref {s id ver off len : Nat} : (V.ref s id ver off len).cells = [.ref s id ver off len] := Eq.trans rfl rfl
theorem vc_ptr {id off : Nat} : (V.ptr id off).cells = [.ptr id off] := Eq.trans rfl rfl
theorem vc_aptr {id ver i off : Nat} : (V.aptr id ver i off).cells = [.aptr id ver i off] := Eq.trans rfl rfl
theorem vc_map {id : Nat} : (V.map id).cells = [.map id] := Eq.trans rfl rfl
attribute [push_cast] vc_int vc_bool vc_str vc_nilS vc_nilP vc_nilF vc_nilM vc_nilI vc_list vc_agg vc_eptr vc_func vc_tl vc_ref vc_ptr vc_aptr vc_map not_true_eq_false not_false_eq_true or_false false_or or_self
attribute [push_cast] vp_int vp_bool vp_str vp_nilS vp_nilP vp_nilF vp_nilM vp_nilI vp_list vp_agg vp_eptr vp_func vp_tl vp_ref vp_ptr vp_aptr vp_map vp_nil vp_cons
attribute [push_cast] take_set okStore_bool okStore_int okStore_str okStore_list lookupV mapUpdateV simpleKeyT
attribute [push_cast] Option.map_some Option.map_none Option.bind_some Option.bind_none List.map_cons List.map_nil List.append_nil List.cons_append List.nil_append
  List.range_succ List.range_zero ne_eq not_false_eq_true and_self true_and and_true if_true if_false takeElems takeElem List.mapM_cons List.mapM_nil V.isCell List.all_cons List.all_nil Option.isSome_some
  Bool.not_true Bool.not_false Bool.true_and Bool.false_and Bool.and_true Bool.and_false Bool.true_or Bool.false_or Bool.or_true Bool.or_false Option.bind_eq_bind Option.pure_def List.getElem?_cons_zero List.getElem?_cons_succ List.getElem?_nil indexAddrV idxV Int.natCast_nonneg Int.toNat_natCast List.getElem?_map List.length_singleton List.length_cons List.length_nil
  loadV partV lenV List.length_map fieldAddrV fieldsT fieldV Nat.zero_add List.drop_succ_cons List.drop_zero List.take_succ_cons List.take_zero V.norm norm1 List.toList_toArray
end Go.E
/- E, step by step: a region that draws its order. Own work. -/
namespace Go.E
section
variable {cx : Cx} {fx : Fx} {ops : Array Oper} {ρ : Env} {H : Heap}
def EvT (cx : Cx) (fx : Fx) (ops : Array Oper) (l : List Nat) (ρ : Env) (H : Heap) (K : List (Env × Heap) → Env → Heap → Prop) : Prop :=
  ∃ st ρ' H', evTrace cx fx (callw cx) ops l ρ H = some (st, ρ', H') ∧ K st ρ' H'
variable {r : List Nat} {K : List (Env × Heap) → Env → Heap → Prop} {dst : Option Nat} {ty : TypeId} {pos : String} {aft : Array Edge} {gd : Option (Nat × Bool)} {op : Op} {i : Nat}
theorem evt_end (h : K [] ρ H) : EvT cx fx ops [] ρ H K := ⟨_, _, _, rfl, h⟩
theorem evt_go {o : Oper} {ρ1 : Env} {H1 : Heap} (hi : ops[i]? = some o) (ho : evOper cx fx (callw cx) ops o ρ H = some (ρ1, H1)) (h : EvT cx fx ops r ρ1 H1 fun st => K ((ρ, H) :: st)) : EvT cx fx ops (i :: r) ρ H K := by
  obtain ⟨st, ρ', H', h1, h2⟩ := h
  exact ⟨(ρ, H) :: st, ρ', H', by simp only [evTrace, hi, Option.bind_some, ho, h1, Option.map_some], h2⟩
theorem evt_op {d : Nat} {v : V} {H1 : Heap} (hi : ops[i]? = some ⟨some d, op, ty, pos, aft, gd⟩) (hw : wantedV ops ⟨some d, op, ty, pos, aft, gd⟩ ρ = some true) (ho : evOp cx fx (callw cx) ⟨some d, op, ty, pos, aft, gd⟩ ρ H = some (v, H1)) (hd : d < fx.n)
    (h : EvT cx fx ops r (ρ.put d v) H1 fun st => K ((ρ, H) :: st)) : EvT cx fx ops (i :: r) ρ H K :=
  evt_go hi (by simp only [evOper, hw, Option.bind_some, if_true, ho, hd]) h
theorem evt_op0 {v : V} {H1 : Heap} (hi : ops[i]? = some ⟨none, op, ty, pos, aft, gd⟩) (hw : wantedV ops ⟨none, op, ty, pos, aft, gd⟩ ρ = some true) (ho : evOp cx fx (callw cx) ⟨none, op, ty, pos, aft, gd⟩ ρ H = some (v, H1))
    (h : EvT cx fx ops r ρ H1 fun st => K ((ρ, H) :: st)) : EvT cx fx ops (i :: r) ρ H K :=
  evt_go hi (by simp only [evOper, hw, Option.bind_some, if_true, ho]) h
theorem evt_off {d : Nat} (hi : ops[i]? = some ⟨some d, op, ty, pos, aft, gd⟩) (hw : wantedV ops ⟨some d, op, ty, pos, aft, gd⟩ ρ = some false) (hd : d < fx.n) (h : EvT cx fx ops r (ρ.put d .skip) H fun st => K ((ρ, H) :: st)) : EvT cx fx ops (i :: r) ρ H K :=
  evt_go hi (by simp only [evOper, hw, Option.bind_some, Bool.false_eq_true, if_false, hd, if_true]) h
theorem evt_off0 (hi : ops[i]? = some ⟨none, op, ty, pos, aft, gd⟩) (hw : wantedV ops ⟨none, op, ty, pos, aft, gd⟩ ρ = some false) (h : EvT cx fx ops r ρ H fun st => K ((ρ, H) :: st)) : EvT cx fx ops (i :: r) ρ H K :=
  evt_go hi (by simp only [evOper, hw, Option.bind_some, Bool.false_eq_true, if_false]) h
theorem evt_split {o : Oper} (b : Bool) (_ : ops[i]? = some o) (_ : wantedV ops o ρ = some b) (h1 : b = true → EvT cx fx ops (i :: r) ρ H K) (h2 : b = false → EvT cx fx ops (i :: r) ρ H K) : EvT cx fx ops (i :: r) ρ H K := by
  cases b; exact h2 rfl; exact h1 rfl

theorem ev_draw1 {id : Nat} {ord : List Nat} {ps : List (Nat × Nat)} {Q : Ex → Env → Heap → Prop} (hc : canon ops = ord) (hd : drawOk ops ord = true) (hp : chkPairs cx.P ops (anc ops) ord = ps)
    (h : EvT cx fx ops ord ρ H fun st ρ' H' => chkAll cx.P ops ord st H' ps ∧ Q .normal ρ' H') : Ev cx fx (.region id ops true) ρ H Q := by
  obtain ⟨st, ρ', H', h1, h2, h3⟩ := h
  unfold Ev
  refine ⟨_, ρ', H', ?_, h3⟩
  subst hc; subst hp
  simp only [evCode, if_true, evDraw, if_pos hd, h1, Option.bind_some, if_pos h2, Option.map_some]
theorem ev_draw0 {id : Nat} {ord : List Nat} {Q : Ex → Env → Heap → Prop} (hc : canon ops = ord) (hd : drawOk ops ord = true) (hp : chkPairs cx.P ops (anc ops) ord = [])
    (h : EvT cx fx ops ord ρ H fun _ ρ' H' => Q .normal ρ' H') : Ev cx fx (.region id ops true) ρ H Q := by
  refine ev_draw1 hc hd hp ?_
  obtain ⟨st, ρ', H', h1, h2⟩ := h
  exact ⟨st, ρ', H', h1, trivial, h2⟩
/-- What a drawn region owes at its end. -/
def ChkK (P : Program) (ops : Array Oper) (ord : List Nat) (ps : List (Nat × Nat)) (Q : Env → Heap → Prop) (st : List (Env × Heap)) (ρ : Env) (H : Heap) : Prop := chkAll P ops ord st H ps ∧ Q ρ H
theorem chkK_intro {P : Program} {ord : List Nat} {ps : List (Nat × Nat)} {Q : Env → Heap → Prop} {st : List (Env × Heap)} (h1 : chkAll P ops ord st H ps) (h2 : Q ρ H) : ChkK P ops ord ps Q st ρ H := ⟨h1, h2⟩
theorem ev_draw2 {id : Nat} {ord : List Nat} {ps : List (Nat × Nat)} {Q : Ex → Env → Heap → Prop} (hc : canon ops = ord) (hd : drawOk ops ord = true) (hp : chkPairs cx.P ops (anc ops) ord = ps)
    (h : EvT cx fx ops ord ρ H (ChkK cx.P ops ord ps (Q .normal))) : Ev cx fx (.region id ops true) ρ H Q := ev_draw1 hc hd hp h
theorem chk_nil {P : Program} {ord : List Nat} {st : List (Env × Heap)} {last : Heap} : chkAll P ops ord st last [] := trivial
theorem chk_cons {P : Program} {ord : List Nat} {st : List (Env × Heap)} {last : Heap} {p q : Nat} {l : List (Nat × Nat)} {o : Oper} {s t : Env × Heap} (ho : ops[ord.getD p 0]? = some o) (hs : st[p]? = some s) (ht : st[q]? = some t)
    (h : obsEq P o s.1 s.2 t.2 ((st[q + 1]?).map (·.2) |>.getD last)) (hr : chkAll P ops ord st last l) : chkAll P ops ord st last ((p, q) :: l) :=
  ⟨fun o' s' t' h1 h2 h3 => by rw [ho] at h1; rw [hs] at h2; rw [ht] at h3; cases h1; cases h2; cases h3; exact h, hr⟩
attribute [irreducible] EvT ChkK
end
end Go.E
/- E: what code never writes stays. Own work. -/
namespace Go.E

/-- Does code write slot j? -/
def wr : Code → Nat → Bool
  | .region _ ops _, j => ops.toList.any fun o => o.dst == some j
  | .seq a b, j => wr a j || wr b j
  | .cond _ a b, j => wr a j || wr b j
  | .block _ c, j | .scope c, j | .loop c, j => wr c j
  | _, _ => false

section
variable {cx : Cx} {fx : Fx} {call : CallSem}

theorem evOper_frame {ops : Array Oper} {o : Oper} {ρ ρ' : Env} {H H' : Heap} (h : evOper cx fx call ops o ρ H = some (ρ', H')) {j : Nat} (hj : o.dst ≠ some j) : ρ' j = ρ j := by
  unfold evOper at h
  cases hw : wantedV ops o ρ with
  | none => simp [hw] at h
  | some b =>
    simp only [hw, Option.bind_some] at h
    cases hv : (if b = true then evOp cx fx call o ρ H else some (.skip, H)) with
    | none => simp [hv] at h
    | some r =>
      simp only [hv, Option.bind_some] at h
      cases hd : o.dst with
      | none => simp [hd] at h; rw [h.1]
      | some d =>
        simp only [hd] at h
        split at h
        · simp at h
          have hne : j ≠ d := fun e => hj (by rw [hd, e])
          rw [← h.1]; simp [Env.put, hne]
        · cases h

theorem evOps_frame {ops : Array Oper} {j : Nat} : ∀ {l : List Oper} {ρ ρ' : Env} {H H' : Heap}, evOps cx fx call ops l ρ H = some (ρ', H') → (∀ o ∈ l, o.dst ≠ some j) → ρ' j = ρ j
  | [], _, _, _, _, h, _ => by simp [evOps] at h; rw [h.1]
  | o :: l, ρ, ρ', H, H', h, hj => by
    simp only [evOps] at h
    cases hv : evOper cx fx call ops o ρ H with
    | none => simp [hv] at h
    | some s =>
      obtain ⟨ρ1, H1⟩ := s
      rw [hv] at h
      simp only [Option.bind_some] at h
      rw [evOps_frame h fun o ho => hj o (by simp [ho]), evOper_frame hv (hj o (by simp))]

theorem evTrace_frame {ops : Array Oper} {j : Nat} (hj : ∀ o ∈ ops.toList, o.dst ≠ some j) : ∀ {l : List Nat} {ρ ρ' : Env} {H H' : Heap} {st}, evTrace cx fx call ops l ρ H = some (st, ρ', H') → ρ' j = ρ j
  | [], _, _, _, _, _, h => by simp [evTrace] at h; rw [h.2.1]
  | i :: l, ρ, ρ', H, H', st, h => by
    simp only [evTrace] at h
    cases ho : ops[i]? with
    | none => simp [ho] at h
    | some o =>
      simp only [ho, Option.bind_some] at h
      cases hv : evOper cx fx call ops o ρ H with
      | none => simp [hv] at h
      | some s =>
        obtain ⟨ρ1, H1⟩ := s
        rw [hv] at h
        simp only [Option.bind_some] at h
        cases ht : evTrace cx fx call ops l ρ1 H1 with
        | none => simp [ht] at h
        | some z =>
          obtain ⟨st', ρ2, H2⟩ := z
          rw [ht] at h
          simp at h
          have hm : o ∈ ops.toList := by
            have := Array.mem_of_getElem? ho
            exact Array.mem_toList_iff.2 this
          rw [← h.2.1, evTrace_frame hj ht, evOper_frame hv (hj o hm)]

theorem evDraw_frame {ops : Array Oper} {j : Nat} (hj : ∀ o ∈ ops.toList, o.dst ≠ some j) {ρ ρ' : Env} {H H' : Heap} (h : evDraw cx fx call ops ρ H = some (ρ', H')) : ρ' j = ρ j := by
  unfold evDraw at h
  split at h
  case isFalse => cases h
  cases ht : evTrace cx fx call ops (canon ops) ρ H with
  | none => simp [ht] at h
  | some z =>
    obtain ⟨st, ρ1, H1⟩ := z
    rw [ht] at h
    simp only [Option.bind_some] at h
    split at h
    · simp at h; rw [← h.1]; exact evTrace_frame hj ht
    · cases h

theorem any_dst {l : List Oper} {j : Nat} (h : (l.any fun o => o.dst == some j) = false) : ∀ o ∈ l, o.dst ≠ some j := by
  intro o ho e
  rw [List.any_eq_false] at h
  exact h o ho (by simp [e])

theorem evCode_frame {j : Nat} : ∀ {c : Code} {ρ ρ' : Env} {H H' : Heap} {ex : Ex}, evCode cx fx loopw call c ρ H = some (ex, ρ', H') → wr c j = false → ρ' j = ρ j := by
  intro c
  induction c with
  | region id ops draw =>
    intro ρ ρ' H H' ex h hw
    simp only [wr] at hw
    have hj := any_dst hw
    simp only [evCode] at h
    cases draw with
    | false =>
      simp only [Bool.false_eq_true, if_false] at h
      cases ho : evOps cx fx call ops ops.toList ρ H with
      | none => simp [ho] at h
      | some s => obtain ⟨ρ1, H1⟩ := s; rw [ho] at h; simp at h; rw [← h.2.1]; exact evOps_frame ho hj
    | true =>
      simp only [if_true] at h
      cases ho : evDraw cx fx call ops ρ H with
      | none => simp [ho] at h
      | some s => obtain ⟨ρ1, H1⟩ := s; rw [ho] at h; simp at h; rw [← h.2.1]; exact evDraw_frame hj ho
  | seq x y ihx ihy =>
    intro ρ ρ' H H' ex h hw
    simp only [wr, Bool.or_eq_false_iff] at hw
    simp only [evCode] at h
    cases hx : evCode cx fx loopw call x ρ H with
    | none => simp [hx] at h
    | some s =>
      obtain ⟨ex1, ρ1, H1⟩ := s
      rw [hx] at h
      cases ex1 with
      | normal => rw [ihy h hw.2, ihx hx hw.1]
      | exit _ => simp at h; rw [← h.2.1, ihx hx hw.1]
      | ret => simp at h; rw [← h.2.1, ihx hx hw.1]
  | cond o x y ihx ihy =>
    intro ρ ρ' H H' ex h hw
    simp only [wr, Bool.or_eq_false_iff] at hw
    simp only [evCode] at h
    split at h
    · exact ihx h hw.1
    · exact ihy h hw.2
    · cases h
  | block id x ih =>
    intro ρ ρ' H H' ex h hw
    simp only [wr] at hw
    simp only [evCode] at h
    cases hx : evCode cx fx loopw call x ρ H with
    | none => simp [hx] at h
    | some s =>
      obtain ⟨ex1, ρ1, H1⟩ := s
      rw [hx] at h
      cases ex1 with
      | normal => simp at h; rw [← h.2.1, ih hx hw]
      | exit _ => simp at h; rw [← h.2.1, ih hx hw]
      | ret => simp at h; rw [← h.2.1, ih hx hw]
  | loop x ih =>
    intro ρ ρ' H H' ex h hw
    simp only [wr] at hw
    simp only [evCode] at h
    obtain ⟨n, hn⟩ := loopw_some h
    clear h
    induction n generalizing ρ H with
    | zero => simp [loopn] at hn
    | succ n ihn =>
      simp only [loopn] at hn
      cases hx : evCode cx fx loopw call x ρ H with
      | none => simp [hx] at hn
      | some s =>
        obtain ⟨ex1, ρ1, H1⟩ := s
        rw [hx] at hn
        cases ex1 with
        | normal => rw [ihn hn, ih hx hw]
        | exit _ => simp at hn; rw [← hn.2.1, ih hx hw]
        | ret => simp at hn; rw [← hn.2.1, ih hx hw]
  | scope x ih => intro ρ ρ' H H' ex h hw; simp only [wr] at hw; simp only [evCode] at h; exact ih h hw
  | skip => intro ρ ρ' H H' ex h _; simp [evCode] at h; rw [h.2.1]
  | label _ => intro ρ ρ' H H' ex h _; simp [evCode] at h; rw [h.2.1]
  | exit _ => intro ρ ρ' H H' ex h _; simp [evCode] at h; rw [h.2.1]
  | ret => intro ρ ρ' H H' ex h _; simp [evCode] at h; rw [h.2.1]
  | rangeFunc f ps x y _ _ =>
    intro ρ ρ' H H' ex h _
    simp only [evCode] at h
    split at h
    · rename_i gf caps _
      cases hi : cx.iter gf caps with
      | none => simp [hi] at h
      | some l =>
        rw [hi] at h
        simp only [Option.bind_some] at h
        cases hr : evRounds (evCode cx fx loopw call x) (evCode cx fx loopw call y) fx.n ps.toList ρ l H with
        | none => simp [hr] at h
        | some z => rw [hr] at h; simp at h; rw [h.2.1]
    · cases h
  | _ => intro ρ ρ' H H' ex h _; simp [evCode] at h
end

section
variable {cx : Cx} {fx : Fx} {c : Code} {ρ : Env} {H : Heap} {Q : Ex → Env → Heap → Prop}
/-- A loop, and what it leaves alone. -/
theorem lp_frame (h : Lp cx fx c ρ H Q) : Lp cx fx c ρ H fun ex ρ' H' => Q ex ρ' H' ∧ ∀ j, wr c j = false → ρ' j = ρ j := by
  unfold Lp at h ⊢
  obtain ⟨ex, ρ', H', h1, h2⟩ := h
  exact ⟨ex, ρ', H', h1, h2, fun j hj => evCode_frame (c := .loop c) (by simpa only [evCode] using h1) (by simpa only [wr] using hj)⟩
end
end Go.E
/- E: loops by rounds. Own work. -/
namespace Go.E
section
variable {cx : Cx} {fx : Fx} {c : Code} {Q : Ex → Env → Heap → Prop}

def roundQ (I : Env → Heap → Prop) (Q : Ex → Env → Heap → Prop) : Ex → Env → Heap → Prop
  | .normal, ρ, H => I ρ H
  | ex, ρ, H => Q ex ρ H
theorem roundQ_normal {I : Env → Heap → Prop} {ρ : Env} {H : Heap} : roundQ I Q .normal ρ H ↔ I ρ H := Iff.rfl
theorem roundQ_exit {I : Env → Heap → Prop} {ρ : Env} {H : Heap} {id : Nat} : roundQ I Q (.exit id) ρ H ↔ Q (.exit id) ρ H := Iff.rfl
theorem roundQ_ret {I : Env → Heap → Prop} {ρ : Env} {H : Heap} : roundQ I Q .ret ρ H ↔ Q .ret ρ H := Iff.rfl

/-- A loop that goes up from i to n. -/
theorem loop_up {n : Nat} {Inv : Nat → Env → Heap → Prop} (hstep : ∀ i ρ H, i < n → Inv i ρ H → Ev cx fx c ρ H (roundQ (Inv (i + 1)) Q))
    (hend : ∀ ρ H, Inv n ρ H → Ev cx fx c ρ H (roundQ (fun _ _ => False) Q)) : ∀ i ρ H, i ≤ n → Inv i ρ H → Lp cx fx c ρ H Q := by
  intro i ρ H hi
  obtain ⟨k, hk⟩ : ∃ k, k = n - i := ⟨_, rfl⟩
  induction k generalizing i ρ H with
  | zero =>
    intro h
    obtain rfl : i = n := by omega
    refine lp_round ((hend ρ H h).mono fun ex ρ' H' hq => ?_)
    cases ex with
    | normal => exact hq.elim
    | exit id => exact loopQ_exit.2 hq
    | ret => exact loopQ_ret.2 hq
  | succ k ih =>
    intro h
    refine lp_round ((hstep i ρ H (by omega) h).mono fun ex ρ' H' hq => ?_)
    cases ex with
    | normal => exact loopQ_normal.2 (ih (i + 1) ρ' H' (by omega) (by omega) hq)
    | exit id => exact loopQ_exit.2 hq
    | ret => exact loopQ_ret.2 hq

/-- A loop with a measure. -/
theorem loop_wf {α : Type} {μ : α → Nat} {Inv : α → Env → Heap → Prop} (hstep : ∀ s ρ H, Inv s ρ H → Ev cx fx c ρ H (roundQ (fun ρ' H' => ∃ t, μ t < μ s ∧ Inv t ρ' H') Q)) : ∀ s ρ H, Inv s ρ H → Lp cx fx c ρ H Q := by
  intro s ρ H
  obtain ⟨k, hk⟩ : ∃ k, k = μ s := ⟨_, rfl⟩
  induction k using Nat.strongRecOn generalizing s ρ H with
  | _ k ih =>
    intro h
    refine lp_round ((hstep s ρ H h).mono fun ex ρ' H' hq => ?_)
    cases ex with
    | normal =>
      obtain ⟨t, h1, h2⟩ := hq
      exact loopQ_normal.2 (ih (μ t) (by omega) t ρ' H' rfl h2)
    | exit id => exact loopQ_exit.2 hq
    | ret => exact loopQ_ret.2 hq

/-- A loop behind which code goes on. -/
theorem lp_then {Q' : Ex → Env → Heap → Prop} {ρ : Env} {H : Heap} (h : Lp cx fx c ρ H Q) (hq : ∀ ex ρ' H', Q ex ρ' H' → (∀ j, wr c j = false → ρ' j = ρ j) → Q' ex ρ' H') : Lp cx fx c ρ H Q' :=
  (lp_frame h).mono fun ex ρ' H' h => hq ex ρ' H' h.1 h.2
end
attribute [irreducible] roundQ
/-- What 'slices.Backward' hands to yield. -/
def backL (es : List V) : List (List V) := (List.range es.length).reverse.map fun i : Nat => [.int .i64 (i : Int), es.getD i .undef]
/-- An element as a type of sz cells has it (sz = 0: of one cell, no struct). -/
def backOk (sz : Nat) : V → Bool
  | .agg cs => sz != 0 && cs.length == sz
  | e => sz == 0 && e.isCell
/-- The functions that are ranged over: those of 'slices.Backward', by their numbers, each with its elements' size. -/
def iterB (back : List (Nat × Nat)) (gf : Nat) (caps : List V) : Option (List (List V)) :=
  match caps with
  | [.eptr [.list es] 0] =>
    match back.lookup gf with
    | some sz => if es.length ≤ 1000000 ∧ es.all (backOk sz) = true then some (backL es) else none
    | none => none
  | _ => none
theorem drop_cons {α : Type} {l : List α} {i : Nat} {x : α} (h : l[i]? = some x) : l.drop i = x :: l.drop (i + 1) := by
  obtain ⟨h1, h2⟩ := List.getElem?_eq_some_iff.1 h
  rw [List.drop_eq_getElem_cons h1, h2]
/-- Functions of the library whose answer is known. -/
def concatL : List V → Option (List V)
  | [] => some []
  | .list es :: r => (concatL r).map (es ++ ·)
  | _ => none
def concatV (sz : Nat) : List V → Option V
  | [.list ls] => (concatL ls).bind fun l => if l.length ≤ 1000000 ∧ ls.length ≤ 1000000 ∧ V.pureL l = true ∧ (l.all fun e => e.cells.length == sz && e.cells.all V.isCell) = true then some (.list l) else none
  | _ => none
def cloneV (sz : Nat) : List V → Option V
  | [.list es] => if es.length ≤ 1000000 then (takeElems sz es).map .list else none
  | _ => none
def intsOf : List V → Option (List Int)
  | [] => some []
  | .int .i64 n :: r => (intsOf r).map (n :: ·)
  | _ => none
/-- Two lists of whole numbers, one behind the other. -/
def joinV : List V → Option V
  | [.list a, .list b] => (intsOf a).bind fun x => (intsOf b).bind fun y => if x.length + y.length ≤ 1000000 then some (.list ((x ++ y).map (.int .i64))) else none
  | _ => none
/-- A copy of a list of whole numbers: a new block. -/
def freshI (copies : List Nat) (f : Nat) : List V → Option (Nat × List V)
  | [.list es] => if copies.contains f then (intsOf es).bind fun a => if 0 < a.length ∧ a.length ≤ 1000000 then some (1, es) else none else none
  | _ => none
def knownB (concats clones : List (Nat × Nat)) (joins : List Nat) (f : Nat) : Bool := (concats.lookup f).isSome || ((clones.lookup f).isSome || joins.contains f)
/-- 'concats', 'clones': each with the size of its elements. -/
def knownL (concats clones : List (Nat × Nat)) (joins : List Nat) (f : Nat) (a : List V) : Option V :=
  match concats.lookup f with
  | some sz => concatV sz a
  | none => match clones.lookup f with
    | some sz => cloneV sz a
    | none => if joins.contains f then joinV a else none
end Go.E
/- E, step by step: stores, rows of values. Own work. -/
namespace Go.E

theorem okStore_pure {bs : List Nat} {id : Nat} {v : V} (h : v.pure = true) : okStore bs id v = true := okStore_under fun n => pure_under n v h
theorem okStore_own {bs : List Nat} {id : Nat} {v : V} (h : bs.headD 0 ≤ id) : okStore bs id v = true := by unfold okStore; rw [decide_eq_true h, Bool.true_or]
theorem okStore_own0 {bs : List Nat} {n : Nat} {v : V} : okStore (n :: bs) n v = true := okStore_own (Nat.le_refl _)
theorem okStore_ownk {bs : List Nat} {n k : Nat} {v : V} : okStore (n :: bs) (n + k) v = true := okStore_own (Nat.le_add_right _ _)
theorem pureL_map {α : Type} {f : α → V} {l : List α} (h : ∀ x, (f x).pure = true) : V.pureL (l.map f) = true := by
  induction l with
  | nil => rfl
  | cons x l ih => simp only [List.map_cons, V.pureL, h, ih, Bool.and_self]
theorem takeElems_map {α : Type} {s : Nat} {f : α → V} {l : List α} (h : ∀ x, takeElem s (f x) = some (f x)) : takeElems s (l.map f) = some (l.map f) := by
  unfold takeElems
  induction l with
  | nil => rfl
  | cons x l ih => simp [List.mapM_cons, h, ih]
theorem all_cells_map {α : Type} {s : Nat} {f : α → V} {l : List α} (h : ∀ x, (f x).cells.length = s) : (l.map f).all (fun e => e.cells.length == s) = true := by
  rw [List.all_eq_true]
  intro y hy
  obtain ⟨x, _, rfl⟩ := List.mem_map.1 hy
  simp [h x]
theorem frz_map {α : Type} {d n0 : Nat} {H : Heap} {f : α → V} {l : List α} (h : ∀ x, (f x).pure = true) : frz (d + 1) n0 H (.list (l.map f)) = some (.list (l.map f)) := frz_pure (by simp only [V.pure]; exact pureL_map h)
theorem frz_mapM {d n0 : Nat} {H : Heap} : ∀ {l : List V}, V.pureL l = true → l.mapM (frz (d + 1) n0 H) = some l
  | [], _ => rfl
  | v :: l, h => by
    simp only [V.pureL, Bool.and_eq_true] at h
    simp only [List.mapM_cons, frz_pure h.1, frz_mapM h.2, Option.bind_eq_bind, Option.bind_some, Option.pure_def]
theorem frz_agg {d n0 : Nat} {H : Heap} {cs : List V} : frz (d + 2) n0 H (.agg cs) = (cs.mapM (frz (d + 1) n0 H)).map .agg := by
  by_cases h : V.pureL cs = true
  · rw [frz_pure (v := .agg cs) h, frz_mapM h, Option.map_some]
  · rw [frz, if_neg (show ¬ (V.agg cs).pure = true from h)]
theorem frz_func {d n0 f : Nat} {H : Heap} {cs : List V} : frz (d + 2) n0 H (.func f cs) = (cs.mapM (frz (d + 1) n0 H)).map (.func f) := by
  by_cases h : V.pureL cs = true
  · rw [frz_pure (v := .func f cs) h, frz_mapM h, Option.map_some]
  · rw [frz, if_neg (show ¬ (V.func f cs).pure = true from h)]
theorem frz_ptr {d n0 id off : Nat} {H : Heap} (h : n0 ≤ id) : frz (d + 1) n0 H (.ptr id off) = (match H[id]? with | some (.cells cs) => (cs.mapM (frz d n0 H)).map (V.eptr · off) | _ => none) := by
  rw [frz, if_neg (by simp [V.pure]), if_neg (by omega)]
  cases H[id]? with
  | none => rfl
  | some ob => cases ob <;> rfl
theorem frz_ref {d n0 s id ver off len : Nat} {H : Heap} (h : n0 ≤ id) : frz (d + 1) n0 H (.ref s id ver off len) = (match H[id]? with
    | some (.arr es v0) => if ver = v0 ∧ off + len ≤ es.length then (((es.drop off).take len).mapM (frz d n0 H)).bind fun l => if V.pureL l then some (.list l) else none else none
    | _ => none) := by
  rw [frz, if_neg (by simp [V.pure]), if_neg (by omega)]
  cases H[id]? with
  | none => rfl
  | some ob => cases ob <;> rfl
attribute [push_cast] frz_pure frz_mapM frz_agg frz_func frz_ptr frz_ref Nat.le_refl Nat.le_add_right List.drop_zero List.take_length
attribute [push_cast] okStore_own0 okStore_ownk okStore_pure pureL_map takeElems_map all_cells_map storeV writeCells Option.some.injEq List.headD_cons List.set_cons_zero List.set_cons_succ List.length_append List.append_assoc
end Go.E
/- E, step by step: arguments without rights. Own work. -/
namespace Go.E
theorem norm1_idem (v : V) : norm1 (norm1 v) = norm1 v := by cases v <;> rfl
theorem norm_idem (v : V) : v.norm.norm = v.norm := by
  cases v with
  | agg cs => simp only [V.norm, List.map_map]; congr 1; apply List.map_congr_left; intro x _; exact norm1_idem x
  | _ => rfl
theorem norm_map (l : List V) : (l.map V.norm).map V.norm = l.map V.norm := by rw [List.map_map]; apply List.map_congr_left; intro x _; exact norm_idem x
theorem callw_norm {cx : Cx} {bs : List Nat} {f : Nat} {args args' : List V} {H : Heap} (hk : cx.keep f = false) (ha : args.map V.norm = args'.map V.norm) : callw cx bs f args H = callw cx bs f args' H := by
  have hl : args.length = args'.length := by have := congrArg List.length ha; simpa using this
  have key : ∀ k, callk cx k bs f args H = callk cx k bs f args' H := by
    intro k
    cases k with
    | zero => rfl
    | succ k =>
      simp only [callk, evBody, hk, Bool.false_eq_true, if_false, hl, ha]
  unfold callw
  simp only [key]
section
variable {cx : Cx} {bs : List Nat} {f : Nat} {a b c d e : V} {H : Heap}
theorem cn_tl10 {t : Nat} {es : List V} (hk : cx.keep f = false) : callw cx bs f [.tl t es] H = callw cx bs f [.list es] H := callw_norm hk rfl
theorem cn_nl10 (hk : cx.keep f = false) : callw cx bs f [.nilS] H = callw cx bs f [.list []] H := callw_norm hk rfl
theorem cn_tl20 {t : Nat} {es : List V} (hk : cx.keep f = false) : callw cx bs f [.tl t es, b] H = callw cx bs f [.list es, b] H := callw_norm hk rfl
theorem cn_nl20 (hk : cx.keep f = false) : callw cx bs f [.nilS, b] H = callw cx bs f [.list [], b] H := callw_norm hk rfl
theorem cn_tl21 {t : Nat} {es : List V} (hk : cx.keep f = false) : callw cx bs f [a, .tl t es] H = callw cx bs f [a, .list es] H := callw_norm hk rfl
theorem cn_nl21 (hk : cx.keep f = false) : callw cx bs f [a, .nilS] H = callw cx bs f [a, .list []] H := callw_norm hk rfl
theorem cn_tl30 {t : Nat} {es : List V} (hk : cx.keep f = false) : callw cx bs f [.tl t es, b, c] H = callw cx bs f [.list es, b, c] H := callw_norm hk rfl
theorem cn_nl30 (hk : cx.keep f = false) : callw cx bs f [.nilS, b, c] H = callw cx bs f [.list [], b, c] H := callw_norm hk rfl
theorem cn_tl31 {t : Nat} {es : List V} (hk : cx.keep f = false) : callw cx bs f [a, .tl t es, c] H = callw cx bs f [a, .list es, c] H := callw_norm hk rfl
theorem cn_nl31 (hk : cx.keep f = false) : callw cx bs f [a, .nilS, c] H = callw cx bs f [a, .list [], c] H := callw_norm hk rfl
theorem cn_tl32 {t : Nat} {es : List V} (hk : cx.keep f = false) : callw cx bs f [a, b, .tl t es] H = callw cx bs f [a, b, .list es] H := callw_norm hk rfl
theorem cn_nl32 (hk : cx.keep f = false) : callw cx bs f [a, b, .nilS] H = callw cx bs f [a, b, .list []] H := callw_norm hk rfl
theorem cn_tl40 {t : Nat} {es : List V} (hk : cx.keep f = false) : callw cx bs f [.tl t es, b, c, d] H = callw cx bs f [.list es, b, c, d] H := callw_norm hk rfl
theorem cn_nl40 (hk : cx.keep f = false) : callw cx bs f [.nilS, b, c, d] H = callw cx bs f [.list [], b, c, d] H := callw_norm hk rfl
theorem cn_tl41 {t : Nat} {es : List V} (hk : cx.keep f = false) : callw cx bs f [a, .tl t es, c, d] H = callw cx bs f [a, .list es, c, d] H := callw_norm hk rfl
theorem cn_nl41 (hk : cx.keep f = false) : callw cx bs f [a, .nilS, c, d] H = callw cx bs f [a, .list [], c, d] H := callw_norm hk rfl
theorem cn_tl42 {t : Nat} {es : List V} (hk : cx.keep f = false) : callw cx bs f [a, b, .tl t es, d] H = callw cx bs f [a, b, .list es, d] H := callw_norm hk rfl
theorem cn_nl42 (hk : cx.keep f = false) : callw cx bs f [a, b, .nilS, d] H = callw cx bs f [a, b, .list [], d] H := callw_norm hk rfl
theorem cn_tl43 {t : Nat} {es : List V} (hk : cx.keep f = false) : callw cx bs f [a, b, c, .tl t es] H = callw cx bs f [a, b, c, .list es] H := callw_norm hk rfl
theorem cn_nl43 (hk : cx.keep f = false) : callw cx bs f [a, b, c, .nilS] H = callw cx bs f [a, b, c, .list []] H := callw_norm hk rfl
theorem cn_tl50 {t : Nat} {es : List V} (hk : cx.keep f = false) : callw cx bs f [.tl t es, b, c, d, e] H = callw cx bs f [.list es, b, c, d, e] H := callw_norm hk rfl
theorem cn_nl50 (hk : cx.keep f = false) : callw cx bs f [.nilS, b, c, d, e] H = callw cx bs f [.list [], b, c, d, e] H := callw_norm hk rfl
theorem cn_tl51 {t : Nat} {es : List V} (hk : cx.keep f = false) : callw cx bs f [a, .tl t es, c, d, e] H = callw cx bs f [a, .list es, c, d, e] H := callw_norm hk rfl
theorem cn_nl51 (hk : cx.keep f = false) : callw cx bs f [a, .nilS, c, d, e] H = callw cx bs f [a, .list [], c, d, e] H := callw_norm hk rfl
theorem cn_tl52 {t : Nat} {es : List V} (hk : cx.keep f = false) : callw cx bs f [a, b, .tl t es, d, e] H = callw cx bs f [a, b, .list es, d, e] H := callw_norm hk rfl
theorem cn_nl52 (hk : cx.keep f = false) : callw cx bs f [a, b, .nilS, d, e] H = callw cx bs f [a, b, .list [], d, e] H := callw_norm hk rfl
theorem cn_tl53 {t : Nat} {es : List V} (hk : cx.keep f = false) : callw cx bs f [a, b, c, .tl t es, e] H = callw cx bs f [a, b, c, .list es, e] H := callw_norm hk rfl
theorem cn_nl53 (hk : cx.keep f = false) : callw cx bs f [a, b, c, .nilS, e] H = callw cx bs f [a, b, c, .list [], e] H := callw_norm hk rfl
theorem cn_tl54 {t : Nat} {es : List V} (hk : cx.keep f = false) : callw cx bs f [a, b, c, d, .tl t es] H = callw cx bs f [a, b, c, d, .list es] H := callw_norm hk rfl
theorem cn_nl54 (hk : cx.keep f = false) : callw cx bs f [a, b, c, d, .nilS] H = callw cx bs f [a, b, c, d, .list []] H := callw_norm hk rfl
end
theorem dec_true {h : Decidable True} : @decide True h = true := by simp
theorem dec_false {h : Decidable False} : @decide False h = false := by simp
attribute [push_cast] dec_true dec_false not_true_eq_false not_false_eq_true
attribute [push_cast] cn_tl10 cn_nl10 cn_tl20 cn_nl20 cn_tl21 cn_nl21 cn_tl30 cn_nl30 cn_tl31 cn_nl31 cn_tl32 cn_nl32 cn_tl40 cn_nl40 cn_tl41 cn_nl41 cn_tl42 cn_nl42 cn_tl43 cn_nl43 cn_tl50 cn_nl50 cn_tl51 cn_nl51 cn_tl52 cn_nl52 cn_tl53 cn_nl53 cn_tl54 cn_nl54
/-! ### Heaps of which one thing was written -/
section
variable {H l : Heap} {m k : Nat} {x y z : HObj}
theorem hs_get0 : (H.set m x ++ y :: l)[H.length]? = some y := by rw [← List.length_set (as := H) (i := m) (a := x)]; exact heap_get0 _ _ _
theorem hs_get : (H.set m x ++ l)[H.length + k]? = l[k]? := by rw [← List.length_set (as := H) (i := m) (a := x)]; exact heap_get _ _ _
theorem hs_set0 : (H.set m x ++ y :: l).set H.length z = H.set m x ++ z :: l := by rw [← List.length_set (as := H) (i := m) (a := x)]; exact heap_set0 _ _ _ _
theorem hs_set : (H.set m x ++ l).set (H.length + k) y = H.set m x ++ l.set k y := by rw [← List.length_set (as := H) (i := m) (a := x)]; exact heap_set _ _ _ _
theorem hs_take : (H.set m x ++ l).take H.length = H.set m x := by rw [← List.length_set (as := H) (i := m) (a := x)]; exact heap_take _ _
theorem set_app (h : m < H.length) (x : HObj) (l : Heap) : (H ++ l).set m x = H.set m x ++ l := List.set_append_left _ _ h
end
attribute [push_cast] hs_get0 hs_get hs_set0 hs_set hs_take List.length_set List.set_set

attribute [push_cast] Option.getD_some Nat.mul_one Nat.zero_mul
end Go.E
/- Short names for the steps of E. Own work. -/
namespace Go.E
class Stp (p : Prop) (q : outParam Prop) : Prop where
  mp : q → p
/-- One step. -/
theorem zz {p q : Prop} [s : Stp p q] (h : q) : p := s.mp h
class Dq (p : Prop) (q : outParam Prop) : Prop where
  mp : p → q
theorem dq {p q : Prop} [s : Dq p q] (h : p) : q := s.mp h
instance {a b : Int} {d : Decidable (a ≤ b)} : Dq (@decide (a ≤ b) d = true) (a ≤ b) := ⟨of_decide_eq_true⟩
instance {a b : Int} {d : Decidable (a < b)} : Dq (@decide (a < b) d = true) (a < b) := ⟨of_decide_eq_true⟩
instance {a b : Int} {d : Decidable (a ≤ b)} : Dq (@decide (a ≤ b) d = false) (b < a) := ⟨fun h => Int.not_le.1 (of_decide_eq_false h)⟩
instance {a b : Int} {d : Decidable (a < b)} : Dq (@decide (a < b) d = false) (b ≤ a) := ⟨fun h => Int.not_lt.1 (of_decide_eq_false h)⟩
theorem zt {p : Prop} [Decidable p] (h : decide p = true) : p := of_decide_eq_true h
theorem zn {b : Bool} : ((!b) = true) = (b = false) := Bool.not_eq_true' b
theorem zm {b : Bool} : ((!b) = false) = (b = true) := Bool.not_eq_false' b
theorem zd {p : Prop} {_ : Decidable p} : (decide p = true) = p := decide_eq_true_eq
theorem ze {p : Prop} {_ : Decidable p} : (decide p = false) = ¬ p := propext decide_eq_false_iff_not
section
variable {cx : Cx} {fx : Fx} {ρ : Env} {H : Heap} {Q : Ex → Env → Heap → Prop}
instance {a b : Code} : Stp (Ev cx fx (.seq a b) ρ H Q) (Ev cx fx a ρ H (thenQ cx fx b Q)) := ⟨ev_seq⟩
instance {id : Nat} {ops : Array Oper} : Stp (Ev cx fx (.region id ops false) ρ H Q) (EvO cx fx ops ops.toList ρ H (Q .normal)) := ⟨ev_region⟩
instance {c : Code} : Stp (thenQ cx fx c Q .normal ρ H) (Ev cx fx c ρ H Q) := ⟨thenQ_normal.2⟩
instance {c : Code} : Stp (thenQ cx fx c Q .ret ρ H) (Q .ret ρ H) := ⟨thenQ_ret.2⟩
instance {c : Code} {id : Nat} : Stp (thenQ cx fx c Q (.exit id) ρ H) (Q (.exit id) ρ H) := ⟨thenQ_exit.2⟩
instance : Stp (Ev cx fx .ret ρ H Q) (Q .ret ρ H) := ⟨ev_ret⟩
instance : Stp (Ev cx fx .skip ρ H Q) (Q .normal ρ H) := ⟨ev_skip⟩
instance {id : Nat} : Stp (Ev cx fx (.exit id) ρ H Q) (Q (.exit id) ρ H) := ⟨ev_exit⟩
instance {c : Code} : Stp (Ev cx fx (.scope c) ρ H Q) (Ev cx fx c ρ H Q) := ⟨ev_scope⟩
instance {l : Nat} : Stp (Ev cx fx (.label l) ρ H Q) (Q .normal ρ H) := ⟨ev_label⟩
instance {id : Nat} {c : Code} : Stp (Ev cx fx (.block id c) ρ H Q) (Ev cx fx c ρ H (blockQ id Q)) := ⟨ev_block⟩
instance {c : Code} : Stp (Ev cx fx (.loop c) ρ H Q) (Lp cx fx c ρ H Q) := ⟨ev_loop⟩
instance {id : Nat} : Stp (blockQ id Q .normal ρ H) (Q .normal ρ H) := ⟨blockQ_normal.2⟩
instance {id : Nat} : Stp (blockQ id Q .ret ρ H) (Q .ret ρ H) := ⟨blockQ_ret.2⟩
instance {id : Nat} : Stp (blockQ id Q (.exit id) ρ H) (Q .normal ρ H) := ⟨fun h => blockQ_exit.2 (by rw [if_pos rfl]; exact h)⟩
theorem z17 {id id' : Nat} (e : ¬ id' = id) (h : Q (.exit id') ρ H) : blockQ id Q (.exit id') ρ H := blockQ_exit.2 (by rw [if_neg e]; exact h)
instance {c : Code} : Stp (loopQ cx fx c Q .normal ρ H) (Lp cx fx c ρ H Q) := ⟨loopQ_normal.2⟩
instance {c : Code} : Stp (loopQ cx fx c Q .ret ρ H) (Q .ret ρ H) := ⟨loopQ_ret.2⟩
instance {c : Code} {id : Nat} : Stp (loopQ cx fx c Q (.exit id) ρ H) (Q (.exit id) ρ H) := ⟨loopQ_exit.2⟩
instance {I : Env → Heap → Prop} : Stp (roundQ I Q .normal ρ H) (I ρ H) := ⟨roundQ_normal.2⟩
instance {I : Env → Heap → Prop} : Stp (roundQ I Q .ret ρ H) (Q .ret ρ H) := ⟨roundQ_ret.2⟩
instance {I : Env → Heap → Prop} {id : Nat} : Stp (roundQ I Q (.exit id) ρ H) (Q (.exit id) ρ H) := ⟨roundQ_exit.2⟩
theorem z24 {o : Operand} {x y : Code} {b : Bool} (hb : opnd ρ o = .bool b) (ht : b = true → Ev cx fx x ρ H Q) (hf : b = false → Ev cx fx y ρ H Q) : Ev cx fx (.cond o x y) ρ H Q := ev_cond b hb ht hf
end
section
variable {cx : Cx} {fx : Fx} {ρ : Env} {H : Heap} {K : Env → Heap → Prop} {ops : Array Oper} {r : List Oper} {op : Op} {ty : TypeId} {pos : String} {aft : Array Edge} {gd : Option (Nat × Bool)}
instance : Stp (EvO cx fx ops [] ρ H K) (K ρ H) := ⟨evo_end⟩
theorem z30 {d : Nat} {v : V} {H1 : Heap} (ho : evOp cx fx (callw cx) ⟨some d, op, ty, pos, aft, none⟩ ρ H = some (v, H1)) (hd : d < fx.n) (h : EvO cx fx ops r (ρ.put d v) H1 K) : EvO cx fx ops (⟨some d, op, ty, pos, aft, none⟩ :: r) ρ H K := evo_op wv_none ho hd h
theorem z31 {v : V} {H1 : Heap} (ho : evOp cx fx (callw cx) ⟨none, op, ty, pos, aft, none⟩ ρ H = some (v, H1)) (h : EvO cx fx ops r ρ H1 K) : EvO cx fx ops (⟨none, op, ty, pos, aft, none⟩ :: r) ρ H K := evo_op0 wv_none ho h
theorem z32 {d : Nat} {v : V} {H1 : Heap} (hw : wantedV ops ⟨some d, op, ty, pos, aft, gd⟩ ρ = some true) (ho : evOp cx fx (callw cx) ⟨some d, op, ty, pos, aft, gd⟩ ρ H = some (v, H1)) (hd : d < fx.n) (h : EvO cx fx ops r (ρ.put d v) H1 K) :
    EvO cx fx ops (⟨some d, op, ty, pos, aft, gd⟩ :: r) ρ H K := evo_op hw ho hd h
theorem z33 {v : V} {H1 : Heap} (hw : wantedV ops ⟨none, op, ty, pos, aft, gd⟩ ρ = some true) (ho : evOp cx fx (callw cx) ⟨none, op, ty, pos, aft, gd⟩ ρ H = some (v, H1)) (h : EvO cx fx ops r ρ H1 K) :
    EvO cx fx ops (⟨none, op, ty, pos, aft, gd⟩ :: r) ρ H K := evo_op0 hw ho h
theorem z34 {d : Nat} (hw : wantedV ops ⟨some d, op, ty, pos, aft, gd⟩ ρ = some false) (hd : d < fx.n) (h : EvO cx fx ops r (ρ.put d .skip) H K) : EvO cx fx ops (⟨some d, op, ty, pos, aft, gd⟩ :: r) ρ H K := evo_off hw hd h
theorem z35 (hw : wantedV ops ⟨none, op, ty, pos, aft, gd⟩ ρ = some false) (h : EvO cx fx ops r ρ H K) : EvO cx fx ops (⟨none, op, ty, pos, aft, gd⟩ :: r) ρ H K := evo_off0 hw h
theorem z36 {o : Oper} {b : Bool} (hw : wantedV ops o ρ = some b) (h1 : b = true → EvO cx fx ops (o :: r) ρ H K) (h2 : b = false → EvO cx fx ops (o :: r) ρ H K) : EvO cx fx ops (o :: r) ρ H K := evo_split b True True hw h1 h2
end
section
variable {cx : Cx} {n0 : Nat} {H' : Heap} {ρ : Env} {H1 : Heap}
theorem z40 {r : ResultVar} {u v : V} (h1 : resV cx.P ρ H1 r = some u) (h2 : frz 6 n0 H1 u = some v) (hh : H1.take n0 = H') : Leaf cx [r] n0 v H' .ret ρ H1 := leaf1 (by simp) h1 h2 hh
theorem z41 {r : ResultVar} {u v : V} (h1 : resV cx.P ρ H1 r = some u) (h2 : frz 6 n0 H1 u = some v) (hh : H1.take n0 = H') : Leaf cx [r] n0 v H' .normal ρ H1 := leaf1 (by simp) h1 h2 hh
theorem z42 {r1 r2 : ResultVar} {u1 u2 v1 v2 : V} (h1 : resV cx.P ρ H1 r1 = some u1) (h2 : resV cx.P ρ H1 r2 = some u2) (h3 : frz 6 n0 H1 u1 = some v1) (h4 : frz 6 n0 H1 u2 = some v2) (hh : H1.take n0 = H') :
    Leaf cx [r1, r2] n0 (.tuple [v1, v2]) H' .ret ρ H1 := leaf2 (by simp) h1 h2 h3 h4 hh
end
section
variable {cx : Cx} {fx : Fx} {ops : Array Oper} {ρ : Env} {H : Heap} {r : List Nat} {K : List (Env × Heap) → Env → Heap → Prop} {ty : TypeId} {pos : String} {aft : Array Edge} {gd : Option (Nat × Bool)} {op : Op} {i : Nat}
theorem z50 {id : Nat} {ord : List Nat} {Q : Ex → Env → Heap → Prop} (hc : canon ops = ord) (hd : drawOk ops ord = true) (hp : chkPairs cx.P ops (anc ops) ord = []) (h : EvT cx fx ops ord ρ H fun _ ρ' H' => Q .normal ρ' H') : Ev cx fx (.region id ops true) ρ H Q := ev_draw0 hc hd hp h
theorem z51 {id : Nat} {ord : List Nat} {ps : List (Nat × Nat)} {Q : Ex → Env → Heap → Prop} (hc : canon ops = ord) (hd : drawOk ops ord = true) (hp : chkPairs cx.P ops (anc ops) ord = ps) (h : EvT cx fx ops ord ρ H (ChkK cx.P ops ord ps (Q .normal))) :
    Ev cx fx (.region id ops true) ρ H Q := ev_draw2 hc hd hp h
theorem z52 (h : K [] ρ H) : EvT cx fx ops [] ρ H K := evt_end h
theorem z54 {d : Nat} {v : V} {H1 : Heap} (hi : ops[i]? = some ⟨some d, op, ty, pos, aft, none⟩) (ho : evOp cx fx (callw cx) ⟨some d, op, ty, pos, aft, none⟩ ρ H = some (v, H1)) (hd : d < fx.n) (h : EvT cx fx ops r (ρ.put d v) H1 fun st => K ((ρ, H) :: st)) :
    EvT cx fx ops (i :: r) ρ H K := evt_op hi wv_none ho hd h
theorem z55 {v : V} {H1 : Heap} (hi : ops[i]? = some ⟨none, op, ty, pos, aft, none⟩) (ho : evOp cx fx (callw cx) ⟨none, op, ty, pos, aft, none⟩ ρ H = some (v, H1)) (h : EvT cx fx ops r ρ H1 fun st => K ((ρ, H) :: st)) : EvT cx fx ops (i :: r) ρ H K := evt_op0 hi wv_none ho h
theorem z56 {d : Nat} {v : V} {H1 : Heap} (hi : ops[i]? = some ⟨some d, op, ty, pos, aft, gd⟩) (hw : wantedV ops ⟨some d, op, ty, pos, aft, gd⟩ ρ = some true) (ho : evOp cx fx (callw cx) ⟨some d, op, ty, pos, aft, gd⟩ ρ H = some (v, H1)) (hd : d < fx.n)
    (h : EvT cx fx ops r (ρ.put d v) H1 fun st => K ((ρ, H) :: st)) : EvT cx fx ops (i :: r) ρ H K := evt_op hi hw ho hd h
theorem z57 {v : V} {H1 : Heap} (hi : ops[i]? = some ⟨none, op, ty, pos, aft, gd⟩) (hw : wantedV ops ⟨none, op, ty, pos, aft, gd⟩ ρ = some true) (ho : evOp cx fx (callw cx) ⟨none, op, ty, pos, aft, gd⟩ ρ H = some (v, H1)) (h : EvT cx fx ops r ρ H1 fun st => K ((ρ, H) :: st)) :
    EvT cx fx ops (i :: r) ρ H K := evt_op0 hi hw ho h
theorem z58 {d : Nat} (hi : ops[i]? = some ⟨some d, op, ty, pos, aft, gd⟩) (hw : wantedV ops ⟨some d, op, ty, pos, aft, gd⟩ ρ = some false) (hd : d < fx.n) (h : EvT cx fx ops r (ρ.put d .skip) H fun st => K ((ρ, H) :: st)) : EvT cx fx ops (i :: r) ρ H K := evt_off hi hw hd h
theorem z59 (hi : ops[i]? = some ⟨none, op, ty, pos, aft, gd⟩) (hw : wantedV ops ⟨none, op, ty, pos, aft, gd⟩ ρ = some false) (h : EvT cx fx ops r ρ H fun st => K ((ρ, H) :: st)) : EvT cx fx ops (i :: r) ρ H K := evt_off0 hi hw h
theorem z60 {o : Oper} {b : Bool} (hi : ops[i]? = some o) (hw : wantedV ops o ρ = some b) (h1 : b = true → EvT cx fx ops (i :: r) ρ H K) (h2 : b = false → EvT cx fx ops (i :: r) ρ H K) : EvT cx fx ops (i :: r) ρ H K := evt_split b hi hw h1 h2
end
section
variable {P : Program} {ops : Array Oper} {ord : List Nat} {st : List (Env × Heap)} {last : Heap} {p q : Nat} {l : List (Nat × Nat)} {s t : Env × Heap} {dst : Option Nat} {ty : TypeId} {pos : String} {aft : Array Edge} {gd : Option (Nat × Bool)}
theorem zc1 {u : TypeId} {a : Operand} (ho : ops[ord.getD p 0]? = some ⟨dst, .load u a, ty, pos, aft, gd⟩) (hs : st[p]? = some s) (ht : st[q]? = some t)
    (h : loadV P u (opnd s.1 a) ((st[q + 1]?).map (·.2) |>.getD last) = loadV P u (opnd s.1 a) t.2) (hr : chkAll P ops ord st last l) : chkAll P ops ord st last ((p, q) :: l) := chk_cons ho hs ht h hr
theorem zc2 {u : TypeId} {m k : Operand} {ok : Bool} (ho : ops[ord.getD p 0]? = some ⟨dst, .lookup u m k ok, ty, pos, aft, gd⟩) (hs : st[p]? = some s) (ht : st[q]? = some t)
    (h : lookupV P u (opnd s.1 m) (opnd s.1 k) ok ((st[q + 1]?).map (·.2) |>.getD last) = lookupV P u (opnd s.1 m) (opnd s.1 k) ok t.2) (hr : chkAll P ops ord st last l) : chkAll P ops ord st last ((p, q) :: l) := chk_cons ho hs ht h hr
theorem zc3 {o : Oper} (ho : ops[ord.getD p 0]? = some o) (he : ∀ ρ Hp H H', obsEq P o ρ Hp H H' = (H'[Hp.length]? = H[Hp.length]?)) (hs : st[p]? = some s) (ht : st[q]? = some t)
    (h : ((st[q + 1]?).map (·.2) |>.getD last)[s.2.length]? = t.2[s.2.length]?) (hr : chkAll P ops ord st last l) : chkAll P ops ord st last ((p, q) :: l) := chk_cons ho hs ht (by rw [he]; exact h) hr
end
end Go.E
/- E, reckoned: the same interpreter, but what a drawn region owes is looked at by a Bool; so the kernel can run it. Own work. -/
namespace Go.E

mutual
def V.same : V → V → Bool
  | .int k a, .int k' b => decide (k = k') && decide (a = b)
  | .bool a, .bool b => decide (a = b)
  | .str a, .str b => decide (a = b)
  | .nilS, .nilS | .nilP, .nilP | .nilF, .nilF | .nilM, .nilM | .nilI, .nilI | .undef, .undef | .skip, .skip => true
  | .list a, .list b => V.sameL a b
  | .tl t a, .tl u b => decide (t = u) && V.sameL a b
  | .ref a b c d e, .ref a' b' c' d' e' => decide (a = a') && decide (b = b') && decide (c = c') && decide (d = d') && decide (e = e')
  | .agg a, .agg b => V.sameL a b
  | .tuple a, .tuple b => V.sameL a b
  | .eptr a n, .eptr b m => V.sameL a b && decide (n = m)
  | .ptr a b, .ptr a' b' => decide (a = a') && decide (b = b')
  | .aptr a b c d, .aptr a' b' c' d' => decide (a = a') && decide (b = b') && decide (c = c') && decide (d = d')
  | .func f a, .func g b => decide (f = g) && V.sameL a b
  | .map a, .map b => decide (a = b)
  | _, _ => false
def V.sameL : List V → List V → Bool
  | [], [] => true
  | a :: as, b :: bs => V.same a b && V.sameL as bs
  | _, _ => false
end

mutual
theorem V.same_eq : ∀ {a b : V}, V.same a b = true → a = b
  | .int .., b, h | .bool _, b, h | .str _, b, h | .ref .., b, h | .ptr .., b, h | .aptr .., b, h | .map _, b, h
  | .nilS, b, h | .nilP, b, h | .nilF, b, h | .nilM, b, h | .nilI, b, h | .undef, b, h | .skip, b, h => by
    cases b <;> simp_all [V.same]
  | .list a, b, h => by
    cases b <;> simp only [V.same, Bool.false_eq_true] at h
    rw [V.sameL_eq h]
  | .tl t a, b, h => by
    cases b <;> simp only [V.same, Bool.false_eq_true, Bool.and_eq_true, decide_eq_true_eq] at h
    rw [h.1, V.sameL_eq h.2]
  | .agg a, b, h => by
    cases b <;> simp only [V.same, Bool.false_eq_true] at h
    rw [V.sameL_eq h]
  | .tuple a, b, h => by
    cases b <;> simp only [V.same, Bool.false_eq_true] at h
    rw [V.sameL_eq h]
  | .eptr a n, b, h => by
    cases b <;> simp only [V.same, Bool.false_eq_true, Bool.and_eq_true, decide_eq_true_eq] at h
    rw [V.sameL_eq h.1, h.2]
  | .func f a, b, h => by
    cases b <;> simp only [V.same, Bool.false_eq_true, Bool.and_eq_true, decide_eq_true_eq] at h
    rw [h.1, V.sameL_eq h.2]
theorem V.sameL_eq : ∀ {a b : List V}, V.sameL a b = true → a = b
  | [], b, h => by cases b <;> simp_all [V.sameL]
  | a :: as, b, h => by
    cases b with
    | nil => simp [V.sameL] at h
    | cons b bs =>
      simp only [V.sameL, Bool.and_eq_true] at h
      rw [V.same_eq h.1, V.sameL_eq h.2]
end

def sameP : List (V × V) → List (V × V) → Bool
  | [], [] => true
  | a :: as, b :: bs => V.same a.1 b.1 && V.same a.2 b.2 && sameP as bs
  | _, _ => false
theorem sameP_eq : ∀ {a b : List (V × V)}, sameP a b = true → a = b
  | [], [], _ => rfl
  | [], _ :: _, h => by simp [sameP] at h
  | _ :: _, [], h => by simp [sameP] at h
  | (a1, a2) :: as, (b1, b2) :: bs, h => by
    simp only [sameP, Bool.and_eq_true] at h
    rw [V.same_eq h.1.1, V.same_eq h.1.2, sameP_eq h.2]
def HObj.same : HObj → HObj → Bool
  | .cells a, .cells b => V.sameL a b
  | .arr a n, .arr b m => V.sameL a b && decide (n = m)
  | .tok n, .tok m => decide (n = m)
  | .map a, .map b => sameP a b
  | _, _ => false
theorem HObj.same_eq : ∀ {a b : HObj}, HObj.same a b = true → a = b := by
  intro a b h
  cases a <;> cases b <;> simp only [HObj.same, Bool.false_eq_true, Bool.and_eq_true, decide_eq_true_eq] at h
  · rw [V.sameL_eq h]
  · rw [V.sameL_eq h.1, h.2]
  · rw [h]
  · rw [sameP_eq h]
def sameO {α : Type} (f : α → α → Bool) : Option α → Option α → Bool
  | none, none => true
  | some a, some b => f a b
  | _, _ => false
theorem sameO_eq {α : Type} {f : α → α → Bool} (hf : ∀ {a b : α}, f a b = true → a = b) : ∀ {a b : Option α}, sameO f a b = true → a = b := by
  intro a b h
  cases a <;> cases b <;> simp only [sameO, Bool.false_eq_true] at h
  · rfl
  · rw [hf h]

def obsB (P : Program) (o : Oper) (ρ : Env) (Hp H H' : Heap) : Bool :=
  match o.op with
  | .load t a => sameO V.same (loadV P t (opnd ρ a) H') (loadV P t (opnd ρ a) H)
  | .lookup t m k ok => sameO V.same (lookupV P t (opnd ρ m) (opnd ρ k) ok H') (lookupV P t (opnd ρ m) (opnd ρ k) ok H)
  | _ => sameO HObj.same H'[Hp.length]? H[Hp.length]?
theorem obsB_eq {P : Program} {o : Oper} {ρ : Env} {Hp H H' : Heap} (h : obsB P o ρ Hp H H' = true) : obsEq P o ρ Hp H H' := by
  unfold obsB at h
  unfold obsEq
  cases ho : o.op <;> simp only [ho] at h ⊢ <;> first | exact sameO_eq V.same_eq h | exact sameO_eq HObj.same_eq h
def chkB (P : Program) (ops : Array Oper) (ord : List Nat) (st : List (Env × Heap)) (last : Heap) : List (Nat × Nat) → Bool
  | [] => true
  | (p, q) :: r =>
    (match ops[ord.getD p 0]?, st[p]?, st[q]? with
    | some o, some s, some t => obsB P o s.1 s.2 t.2 ((st[q + 1]?).map (·.2) |>.getD last)
    | _, _, _ => true) && chkB P ops ord st last r
theorem chkB_all {P : Program} {ops : Array Oper} {ord : List Nat} {st : List (Env × Heap)} {last : Heap} : ∀ {l : List (Nat × Nat)}, chkB P ops ord st last l = true → chkAll P ops ord st last l
  | [], _ => trivial
  | (p, q) :: r, h => by
    simp only [chkB, Bool.and_eq_true] at h
    refine ⟨fun o s t ho hs ht => ?_, chkB_all h.2⟩
    have h1 := h.1
    rw [ho, hs, ht] at h1
    exact obsB_eq h1

def drawC (cx : Cx) (fx : Fx) (call : CallSem) (ops : Array Oper) (ρ : Env) (H : Heap) : Option (Env × Heap) :=
  if drawOk ops (canon ops) = true then
    (evTrace cx fx call ops (canon ops) ρ H).bind fun z =>
      if chkB cx.P ops (canon ops) z.1 z.2.2 (chkPairs cx.P ops (anc ops) (canon ops)) = true then some z.2 else none
  else none
theorem drawC_ev {cx : Cx} {fx : Fx} {call : CallSem} {ops : Array Oper} {ρ : Env} {H : Heap} {r : Env × Heap} (h : drawC cx fx call ops ρ H = some r) : evDraw cx fx call ops ρ H = some r := by
  unfold drawC at h
  unfold evDraw
  split at h
  · rename_i hd
    rw [if_pos hd]
    cases ht : evTrace cx fx call ops (canon ops) ρ H with
    | none => rw [ht] at h; simp at h
    | some z =>
      rw [ht] at h
      simp only [Option.bind_some] at h ⊢
      split at h
      · rename_i hc
        rw [if_pos (chkB_all hc)]; exact h
      · cases h
  · cases h

def codeC (cx : Cx) (fx : Fx) (lp : LoopSem) (call : CallSem) : Code → Env → Heap → Option Res
  | .skip, ρ, H | .label _, ρ, H => some (.normal, ρ, H)
  | .region _ ops draw, ρ, H =>
    (if draw then drawC cx fx call ops ρ H else evOps cx fx call ops ops.toList ρ H).map fun s => (.normal, s.1, s.2)
  | .seq a b, ρ, H =>
    match codeC cx fx lp call a ρ H with
    | some (.normal, ρ', H') => codeC cx fx lp call b ρ' H'
    | r => r
  | .cond c a b, ρ, H =>
    match opnd ρ c with
    | .bool true => codeC cx fx lp call a ρ H
    | .bool false => codeC cx fx lp call b ρ H
    | _ => none
  | .block id c, ρ, H =>
    match codeC cx fx lp call c ρ H with
    | some (.exit id', ρ', H') => some (if id' = id then .normal else .exit id', ρ', H')
    | r => r
  | .loop c, ρ, H => lp (codeC cx fx lp call c) ρ H
  | .exit id, ρ, H => some (.exit id, ρ, H)
  | .ret, ρ, H => some (.ret, ρ, H)
  | .scope c, ρ, H => codeC cx fx lp call c ρ H
  | .rangeFunc f ps assign body, ρ, H =>
    match opnd ρ f with
    | .func gf caps => (cx.iter gf caps).bind fun l => (evRounds (codeC cx fx lp call assign) (codeC cx fx lp call body) fx.n ps.toList ρ l H).map fun r => (r.1, ρ, r.2)
    | _ => none
  | _, _, _ => none

theorem codeC_ev {cx : Cx} {fx : Fx} {lp : LoopSem} {call : CallSem} (hl : LLe lp lp) : ∀ (c : Code) (ρ : Env) (H : Heap) (r : Res), codeC cx fx lp call c ρ H = some r → evCode cx fx lp call c ρ H = some r := by
  intro c
  induction c with
  | region id ops draw =>
    intro ρ H r e
    simp only [codeC, evCode] at e ⊢
    cases draw with
    | false => simpa using e
    | true =>
      simp only [if_true] at e ⊢
      cases ho : drawC cx fx call ops ρ H with
      | none => simp [ho] at e
      | some s => rw [ho] at e; rw [drawC_ev ho]; exact e
  | seq x y ihx ihy =>
    intro ρ H r e
    simp only [codeC, evCode] at e ⊢
    cases hx : codeC cx fx lp call x ρ H with
    | none => simp [hx] at e
    | some s =>
      obtain ⟨ex, ρ1, H1⟩ := s
      rw [hx] at e; rw [ihx _ _ _ hx]
      cases ex with
      | normal => exact ihy _ _ _ e
      | _ => exact e
  | cond o x y ihx ihy =>
    intro ρ H r e
    simp only [codeC, evCode] at e ⊢
    cases ho : opnd ρ o <;> simp only [ho] at e ⊢ <;> try (cases e; done)
    rename_i b
    cases b
    · exact ihy _ _ _ e
    · exact ihx _ _ _ e
  | block id x ih =>
    intro ρ H r e
    simp only [codeC, evCode] at e ⊢
    cases hx : codeC cx fx lp call x ρ H with
    | none => simp [hx] at e
    | some s => rw [hx] at e; rw [ih _ _ _ hx]; exact e
  | loop x ih => intro ρ H r e; simp only [codeC, evCode] at e ⊢; exact hl _ _ (fun ρ H r => ih ρ H r) _ _ _ e
  | scope x ih => intro ρ H r e; simp only [codeC, evCode] at e ⊢; exact ih _ _ _ e
  | rangeFunc f ps x y ihx ihy =>
    intro ρ H r e
    simp only [codeC, evCode] at e ⊢
    cases hf : opnd ρ f <;> simp only [hf] at e ⊢ <;> try (cases e; done)
    rename_i gf caps
    cases hi : cx.iter gf caps with
    | none => simp [hi] at e
    | some l =>
      rw [hi] at e
      simp only [Option.bind_some] at e ⊢
      cases hr : evRounds (codeC cx fx lp call x) (codeC cx fx lp call y) fx.n ps.toList ρ l H with
      | none => simp [hr] at e
      | some z => rw [hr] at e; rw [evRounds_le ihx ihy l _ _ hr]; exact e
  | _ => intro ρ H r e; simpa [codeC, evCode] using e

def bodyC (cx : Cx) (lp : LoopSem) (call : CallSem) (bs : List Nat) (f : Nat) (args : List V) (H : Heap) : Option (V × Heap) :=
  match cx.P.funcs[f]? with
  | none => none
  | some fn =>
    match fn.body with
    | none => none
    | some c =>
      if cx.keep f then (match cx.known f (args.map V.norm) with | some v => some (v, H) | none => cx.act f (args.map V.norm) H) else
        (codeC cx ⟨args.length + (fn.ntmps - args.length), H.length :: bs⟩ lp call c (fun i => (args.map V.norm).getD i .undef) H).bind fun r =>
          match r.1 with
          | .exit _ => none
          | _ => (resultsV cx.P fn r.2.1 r.2.2).bind fun vs => (vs.mapM (frz 6 H.length r.2.2)).map fun ws => (packV ws, r.2.2.take H.length)
def callC (cx : Cx) : Nat → CallSem
  | 0 => fun _ _ _ _ => none
  | k + 1 => fun bs f args H => bodyC cx (loopn k) (callC cx k) bs f args H

theorem bodyC_ev {cx : Cx} {lp : LoopSem} {call : CallSem} (hl : LLe lp lp) : CLe (bodyC cx lp call) (evBody cx lp call) := by
  intro bs f a H r e
  unfold bodyC at e
  unfold evBody
  cases hf : cx.P.funcs[f]? with
  | none => simp [hf] at e
  | some fn =>
    cases hb : fn.body with
    | none => simp [hf, hb] at e
    | some c =>
      simp only [hf, hb] at e ⊢
      split
      · rename_i hk
        rw [if_pos hk] at e; exact e
      · rename_i hk
        rw [if_neg hk] at e
        cases hc : codeC cx ⟨a.length + (fn.ntmps - a.length), H.length :: bs⟩ lp call c (fun i => (a.map V.norm).getD i .undef) H with
        | none => rw [hc] at e; simp at e
        | some s => rw [hc] at e; rw [codeC_ev hl _ _ _ _ hc]; exact e
theorem callC_ev {cx : Cx} : ∀ k, CLe (callC cx k) (callk cx k)
  | 0 => fun _ _ _ _ _ e => by simp [callC] at e
  | k + 1 => fun bs f a H r e => by
    have h1 := bodyC_ev (loopn_le (Nat.le_refl k)) bs f a H r e
    exact evBody_le (loopn_le (Nat.le_refl k)) (callC_ev k) bs f a H r h1
/-- A call that has been reckoned. -/
theorem callw_run {cx : Cx} {k : Nat} {bs : List Nat} {f : Nat} {a : List V} {H : Heap} {r : V × Heap} (h : callC cx k bs f a H = some r) : callw cx bs f a H = some r := callw_of (callC_ev k _ _ _ _ _ h)
end Go.E
/- What 'slices.Concat' does, away from its code: appends onto a block of one's own. Own work. -/
namespace Go.E
open Go.RowKit
section
variable {P : Program} {g : G} {w : World} {bs : List Nat} {H : Heap}

theorem Out.world {g' : G} {u w' : World} {H' : Heap} (o : Out bs g w H g' u H') (hh : w'.heap = u.heap) (ho : w'.os = u.os) (ht : w'.tape = u.tape) (hp : w'.output = u.output) (hd : u.drawn ≤ w'.drawn) : Out bs g w H g' w' H' := by
  have e : ({ u with drawn := w'.drawn } : World) = w' := by cases w'; cases u; simp_all
  have := o.trans (sim_drew o.sim w'.drawn hd)
  rwa [e] at this

/-- Nothing is laid, nothing is written. -/
theorem out_same (hS : Sim bs g H w) {w' : World} (hB : Below w.heap.size w w') (hd : w.drawn ≤ w'.drawn) (hs : w'.heap.size = w.heap.size) : Out bs g w H g w' H := by
  refine (Out.refl hS).world (Array.ext_getElem? fun i => ?_) hB.os hB.tape hB.output hd
  by_cases hi : i < w.heap.size
  · exact hB.block i hi
  · rw [Array.getElem?_eq_none (by omega), Array.getElem?_eq_none (by omega)]

/-- One block is laid, and is written no more. -/
theorem out_below (hS : Sim bs g H w) {w' : World} (hB : Below w.heap.size w w') (hd : w.drawn ≤ w'.drawn) (hs : w'.heap.size = w.heap.size + 1) :
    Out bs g w H (g.lay w.heap.size (fun _ => .imm) H.length (g.φ H.length)) w' H := by
  have hlt : w.heap.size < w'.heap.size := by omega
  have e : w'.heap = w.heap.push w'.heap[w.heap.size] := by
    apply Array.ext_getElem?
    intro i
    by_cases hi : i < w.heap.size
    · rw [hB.block i hi, Array.getElem?_push_lt hi]; simp [hi]
    · by_cases hi2 : i = w.heap.size
      · subst hi2; simp [hlt]
      · rw [Array.getElem?_eq_none (by omega), Array.getElem?_eq_none (by simp; omega)]
  exact (out_imm hS _).world e hB.os hB.tape hB.output hd

/-- A slice v over the block laid last, its first elements es; the block is of cap elements of sz cells. -/
def CatIn (g : G) (w : World) (sz cap : Nat) (es : List V) (v : Value) (wr : World) : Prop :=
  v = .slice (some ⟨w.heap.size, 0, none⟩) es.length cap ∧ (Below w.heap.size w wr ∧ w.drawn ≤ wr.drawn) ∧ wr.heap.size = w.heap.size + 1 ∧
  (∀ k, k < cap * sz → (wr.cell? ⟨w.heap.size, k, none⟩).isSome = true ∧ wr.frozen? ⟨w.heap.size, k, none⟩ = false) ∧
  ∀ (j : Nat) (e : V) (q : Nat) (y : V), es[j]? = some e → e.cells[q]? = some y → ∃ y', wr.cell? ⟨w.heap.size, j * sz + q, none⟩ = some y' ∧ VRel g w y y'

theorem cat_start {sz cap : Nat} {z : Array Value} {n : Nat} {t : TypeId} (hz : z.size = sz) (hn : n ≤ cap) :
    CatIn g w sz cap [] (.slice (some ⟨w.heap.size, 0, none⟩) 0 cap) (w.drew.alloc (.cells (([] : List Value).toArray ++ Builtin.zeroCells z n ++ Builtin.zeroCells z (cap - n)) t)) := by
  have hsz : (([] : List Value).toArray ++ Builtin.zeroCells z n ++ Builtin.zeroCells z (cap - n)).size = cap * sz := by
    simp [size_zeroCells, hz]; rw [← Nat.add_mul]; congr 1; omega
  refine ⟨rfl, ⟨⟨rfl, rfl, rfl, by simp, fun k hk => ?_⟩, Nat.le_succ _⟩, by simp, fun k hk => ⟨?_, ?_⟩, by simp⟩
  · exact heap_push_lt (w := w.drew) _ (by simp; omega)
  · have := cell_push_new (w := w.drew) (([] : List Value).toArray ++ Builtin.zeroCells z n ++ Builtin.zeroCells z (cap - n)) t (0, 0) k
    have e : (w.drew.alloc (.cells (([] : List Value).toArray ++ Builtin.zeroCells z n ++ Builtin.zeroCells z (cap - n)) t)).cell? ⟨w.heap.size, k, none⟩ = _ := this
    rw [e]
    rw [Array.getElem?_eq_getElem (by omega)]; rfl
  · exact frozen_push_new (w := w.drew) _ t k

theorem cat_step (hold : ∀ b o, g.O b o = .imm → b < w.heap.size) {t u e e2 ty sz cap : Nat} {es new : List V} {v x' : Value} {wr : World} (ht : P.underlying t = some (.slice e)) (hu : P.underlying u = some (.slice e2)) (hsz : sizeT P e = some sz)
    (hI : CatIn g w sz cap es v wr) (hx : VRel g w (.list new) x') (hn : ∀ el ∈ new, el.cells.length = sz ∧ el.cells.all V.isCell = true) (hes : ∀ (j : Nat) (el : V) (q : Nat) (y : V), es[j]? = some el → el.cells[q]? = some y → q < sz)
    (hcap : es.length + new.length ≤ cap) : ∃ v' w', (Builtin.append_ #[t, u] ty #[v, x']).run P wr = .ok v' w' ∧ CatIn g w sz cap (es ++ new) v' w' := by
  obtain ⟨rfl, ⟨hB, hD⟩, hs, hc, hr⟩ := hI
  obtain ⟨cells, h1, h2, h3⟩ := list_rowB (P := P) hx (fun j el h => (hn el (List.mem_of_getElem? h)).1) wr (fun b o ho => hB.cell (hold b o ho))
  obtain ⟨a2, cap2, hx', hle⟩ := list_cap hx
  have hbd : es.length * sz + cells.length ≤ cap * sz := by rw [h2, ← Nat.add_mul]; exact Nat.mul_le_mul_right sz hcap
  have hone : ∀ v ∈ cells, v.oneCell' = true := fun v hv => by
    obtain ⟨k, hk⟩ := List.getElem?_of_mem hv
    obtain ⟨hlt, _⟩ := List.getElem?_eq_some_iff.1 hk
    have hsp : 0 < sz := by rcases Nat.eq_zero_or_pos sz with h | h
                            · rw [h] at h2; omega
                            · exact h
    have hd : k / sz < new.length := by rw [Nat.div_lt_iff_lt_mul hsp]; omega
    have hm : k % sz < sz := Nat.mod_lt _ hsp
    have e1 : new[k / sz]? = some new[k / sz] := by simp [hd]
    obtain ⟨g1, g2⟩ := hn _ (List.mem_of_getElem? e1)
    have e3 : (new[k / sz]).cells[k % sz]? = some ((new[k / sz]).cells[k % sz]'(by omega)) := by simp
    obtain ⟨u', e4, e5⟩ := h3 _ _ _ _ e1 e3
    rw [Nat.div_add_mod', hk] at e4
    cases e4
    exact (isCell_one e5 (List.all_eq_true.1 g2 _ (List.mem_of_getElem? e3))).1
  have hsome : ∀ j, j < cells.length → (wr.cell? ⟨w.heap.size, 0 + es.length * sz + j, none⟩).isSome = true := fun j hj => by rw [Nat.zero_add]; exact (hc _ (by omega)).1
  have run := append_in (P := P) (w := wr) (ty := ty) (b := w.heap.size) (o := 0) ht hu hsz hcap hx' h1 hsome (fun j hj => by rw [Nat.zero_add]; exact (hc _ (by omega)).2) hone
  obtain ⟨s1, s2, s3, s4, s5, s6⟩ := setCells_heap w.heap.size cells (0 + es.length * sz) wr
  refine ⟨_, _, run, by simp, ⟨⟨s3.trans hB.os, s4.trans hB.tape, s5.trans hB.output, by rw [s1]; exact hB.size, fun k hk => (s2 k (by omega)).trans (hB.block k hk)⟩, by rw [s6]; exact hD⟩, by rw [s1, hs], fun k hk => ⟨?_, ?_⟩, fun j el q y hj hy => ?_⟩
  · by_cases hin : es.length * sz ≤ k ∧ k < es.length * sz + cells.length
    · have := World.cell?_setCells_in w.heap.size cells (0 + es.length * sz) wr hsome (k - es.length * sz) (by omega)
      rw [show 0 + es.length * sz + (k - es.length * sz) = k by omega] at this
      rw [this]; rfl
    · rw [World.cell?_setCells_out _ _ _ _ _ (fun _ _ => by simp only; omega)]
      exact (hc k hk).1
  · rw [World.frozen?_setCells]; exact (hc k hk).2
  · rcases append_get es new j el hj with ⟨hlt, hj1⟩ | ⟨hge, hlt, hj1⟩
    · obtain ⟨y', e1, e2⟩ := hr j el q y hj1 hy
      have hk := at_lt (sz := sz) hlt (hes j el q y hj1 hy)
      refine ⟨y', ?_, e2⟩
      rw [World.cell?_setCells_out _ _ _ _ _ (fun _ _ => by simp only; omega)]
      exact e1
    · obtain ⟨y', e1, e2⟩ := h3 _ _ _ _ hj1 hy
      have hjs : j * sz + q = es.length * sz + ((j - es.length) * sz + q) := by
        rw [← Nat.add_assoc, ← Nat.add_mul]; congr 2; omega
      obtain ⟨hlt2, e3⟩ := List.getElem?_eq_some_iff.1 e1
      have := World.cell?_setCells_in w.heap.size cells (0 + es.length * sz) wr hsome _ hlt2
      refine ⟨y', ?_, e2⟩
      rw [hjs]
      rw [Nat.zero_add] at this
      rw [Nat.zero_add, this, e3]

theorem cat_end (hS : Sim bs g H w) {sz cap : Nat} {es : List V} {v : Value} {wr : World} (hI : CatIn g w sz cap es v wr) (hcap : es.length ≤ cap) (hp : V.pureL es = true) (hes : ∀ (j : Nat) (e : V), es[j]? = some e → e.cells.length = sz) :
    ∃ g', Out bs g w H g' wr H ∧ VRel g' wr (.list es) v := by
  obtain ⟨rfl, ⟨hB, hD⟩, hs, hc, hr⟩ := hI
  have o := out_below hS hB hD hs
  refine ⟨_, o, list_mk (s := sz) (fun k => (wr.cell? ⟨w.heap.size, k, none⟩).getD Go.undef) hcap hes hp (fun k hk => ⟨by simp [G.lay], ?_⟩) (fun j e q y hj hy => ?_)⟩
  · have h1 := (hc k (Nat.lt_of_lt_of_le hk (Nat.mul_le_mul_right sz hcap))).1
    rw [Nat.zero_add]
    cases h : wr.cell? ⟨w.heap.size, k, none⟩ with
    | none => rw [h] at h1; cases h1
    | some x => rfl
  · obtain ⟨y', e1, e2⟩ := hr j e q y hj hy
    rw [e1]
    exact e2.mono o.ext
/-- An append onto an empty list: the new block is the caller's own. -/
theorem fresh_grow (hS : Sim bs g H w) {t u e e2 ty sz by_ sCap : Nat} {es new : List V} {x' s' : Value} {a : Option Addr} {z : V}
    (ht : P.underlying t = some (.slice e)) (hu : P.underlying u = some (.slice e2)) (hsz : sizeT P e = some sz) (hby : bytesT P e = some by_) (hz : zeroT P e = some z)
    (hzl : z.cells.length = sz) (hzc : z.cells.all V.isCell = true) (hb0 : by_ ≠ 0) (hs' : s' = .slice a 0 sCap) (hs : VRel g w (.list []) s') (hx : VRel g w (.list es) x') (hnew : takeElems sz es = some new)
    (hroom : new.length * by_ ≤ roomB) (hgrow : sCap < new.length) :
    ∃ v' w' g', (Builtin.append_ #[t, u] ty #[s', x']).run P w = .ok v' w' ∧ Out bs g w H g' w' (H ++ [.arr new 0]) ∧ VRel g' w' (.ref sz H.length 0 0 new.length) v' := by
  obtain ⟨nc, w1, hle, hh, o1, cells, hcs, hrun, hrel⟩ := append_grow (ty := ty) (es := []) (xs := es) hS ht hu hsz hby hz hzl hzc hb0 hs' (list_row (P := P) hs (by simp) _ rfl) hx rfl hnew (by simpa using hroom) (by simpa using hgrow)
  simp only [List.length_nil, Nat.zero_add, List.nil_append] at hle hrun hrel
  have hB : w.heap.size = w1.heap.size := by rw [hh]
  rw [hB] at hrun
  obtain ⟨_, h2, _⟩ := takeElems_spec hnew
  have L := lay_at (o1.sim.more (.arr new 0)) (.cells cells e) (fun _ => .res H.length) (.arr new 0) (.arr w1.heap.size 0 sz (nc * sz) 0) (o1.sim.open _)
    (.arr _ _ _ _ _ _ (Nat.mul_le_mul_right sz hle) (fun j e' hj => (h2 e' (List.mem_of_getElem? hj)).1) (fun q hq => ⟨by simp [G.lay], frozen_push_new cells e _, by
      rw [Nat.zero_add, cell_push_new]; exact ⟨cells[q]'(by omega), by simp [show q < cells.size by omega]⟩⟩) (fun j e' q v hj hv => by
      obtain ⟨y', e1, e2⟩ := hrel j e' q v hj hv
      rw [Nat.zero_add, cell_push_new]
      exact ⟨y', e1, (e2.mono o1.ext).mono (ext_lay o1.sim _ _ (o1.sim.open (.arr new 0)).none _)⟩))
  exact ⟨_, _, _, hrun, o1.trans L.out, .ref _ _ _ _ _ nc w1.heap.size 0 sz (nc * sz) 0 _ _ (by simp [G.lay]) (Nat.le_refl _) hle (fun _ => ⟨rfl, fun _ => ⟨rfl, by omega, by rw [Nat.zero_add]; exact Nat.le_refl _⟩⟩)⟩
end
end Go.E
/- A call whose result keeps its rights: nothing is cut. Own work. -/
namespace Go.E
theorem Sim.wider {bs : List Nat} {n : Nat} {g : G} {H : Heap} {w : World} (hb : bs.headD 0 ≤ H.length) (hs : ∀ b ∈ bs, b ≤ bs.headD 0) (h : Sim (n :: bs) g H w) : Sim bs g H w :=
  ⟨hb, hs, h.dom, h.old, h.obj, fun id ob h1 h2 b hm => h.und id ob h1 h2 b (List.mem_cons_of_mem _ hm)⟩
theorem raw_ok {cx : Cx} (hm : cx.P.follows .mixedOrders = true) (hI : IterOk cx) (hK : KnownOk cx) (hN : ∀ (f : Nat) (fn : Func), cx.P.funcs[f]? = some fn → fn.name ≠ "runtime.NumGoroutine")
    {f : Nat} {fn : Func} {c : Code} (hf : cx.P.funcs[f]? = some fn) (hb : fn.body = some c) {bs : List Nat} {args : List V} {H H1 : Heap} {ρ' : Env} {vs : List V}
    (hc : evCode cx ⟨args.length + (fn.ntmps - args.length), H.length :: bs⟩ loopw (callw cx) c (fun i => (args.map V.norm).getD i .undef) H = some (.ret, ρ', H1)) (hv : resultsV cx.P fn ρ' H1 = some vs)
    (g : G) (w : World) (args' : List Value) (hS : Sim bs g H w) (hA : ArgsR g w args args') :
    Calls cx.P f args'.toArray w fun e w' => ∃ v' g', e = .returned v' ∧ Out bs g w H g' w' H1 ∧ VRel g' w' (packV vs) v' := by
  obtain ⟨k, hc⟩ := evCode_w _ _ _ _ hc
  have hD : DrawOk cx := drawOk_all hm
  have hsz : args'.toArray.size = args.length := by simp [hA.1]
  refine callsIn_FR (r := none) (n := 0).1 (callsIn_of_wp_marks hf hb trivial ?_)
  rw [hsz]
  have hI' := init_rel (args_norm hA) (fn.ntmps - args.length)
  rw [List.length_map] at hI'
  refine evCode_wp (callk_ok hD hI hK hN k) hD hI k c none _ g w H H1 _ ρ' { tmps := args'.toArray ++ Array.replicate (fn.ntmps - args.length) Go.undef, defers := [] } .ret hc hS.enter (fun _ h => by cases h) hI' (fun a1 w1 g1 o1 e1 d1 => ?_)
  refine leave_ok o1 e1 d1 (fun w2 o2 e2 => ?_)
  obtain ⟨vs', r1, r2⟩ := results_run o2.sim e2 hv
  exact ⟨_, r1, _, _, rfl, ⟨o2.sim.wider (Nat.le_trans hS.bl o2.len) hS.srt, o2.ext, o2.len, o2.dom⟩, pack_rel r2⟩
end Go.E
/- One word for many steps: the tactic text lies in a theorem's default argument. Own work. -/
namespace Go.E
inductive On : Prop | mk
structure Tw (a b : Prop) : Prop where
  l : a
  r : b
structure Hd (q : Prop) : Prop where
  out : q
inductive Fi : Prop → Prop
  | a : Fi On
  | b {x r : Prop} : Fi r → Fi (Tw x r)
theorem zs5 {q : Prop} (h : Hd q) : q := h.out
theorem zs0 : On := .mk
theorem zs2 {a b : Prop} (l : a) (r : b) : Tw a b := ⟨l, r⟩
theorem zs3 {a b : Prop} (h : Tw a b) : a := h.l
theorem zs4 {a b : Prop} (h : Tw a b) : b := h.r
structure Sd (p q : Prop) : Prop where
  l : p
  r : Fi q
theorem zs {p q : Prop} (k : q) (h : Hd q → Sd p q := by
  intro hZ
  apply Sd.mk
  · repeat1' first
      | apply z52
      | (apply chkK_intro; (repeat ((first | (apply zc1; rfl) | (apply zc2; rfl) | (apply zc3; rfl; exact fun _ _ _ _ => rfl)); rfl; rfl; (first | rfl | (simp only [seval, push_cast, *] <;> fail)))); exact chk_nil)
      | ((first | (apply z54; rfl) | (apply z55; rfl) | ((first | (apply z56; rfl) | (apply z57; rfl)); (simp only [seval, push_cast, *] <;> fail))); (simp only [seval, push_cast, *]; with_reducible rfl); try exact zt rfl)
      | ((first | (apply z58; rfl) | (apply z59; rfl)); (simp only [seval, push_cast, *] <;> fail); try exact zt rfl)
      | apply zz
      | (apply z17; decide)
      | ((first | apply z30 | apply z31 | ((first | apply z32 | apply z33); (simp only [seval, push_cast, *] <;> fail))); (simp only [seval, push_cast, *]; with_reducible rfl); try exact zt rfl)
      | ((first | apply z34 | apply z35); (simp only [seval, push_cast, *] <;> fail); try exact zt rfl)
      | ((first | (apply z24; (simp only [seval, push_cast, *]; with_reducible rfl)) | (apply z36; (simp only [seval, push_cast, *]; (fail_if_success (show _ = some true)); (fail_if_success (show _ = some false)); with_reducible rfl)) | (apply z60; rfl; (simp only [seval, push_cast, *]; (fail_if_success (show _ = some true)); (fail_if_success (show _ = some false)); with_reducible rfl))); all_goals (intro hX; (try simp only [zn, zm] at hX); (try exact absurd hX Bool.noConfusion); (try have hY := dq hX); try (exfalso; simp only [zd, ze] at hX; first | omega | (have := hk.out; omega))))
      | ((first | apply z40 | apply z41 | (apply z42; (simp only [seval, push_cast, *]; with_reducible rfl))); (simp only [seval, push_cast, *]; with_reducible rfl); all_goals (first | (simp only [seval, push_cast, *] <;> fail) | (simp only [seval, push_cast] <;> fail) | (rw [frz_pure rfl] <;> (simp [*] <;> fail))))
    all_goals ((repeat clear hY); repeat revert hX)
    all_goals (apply zs3; repeat with_reducible (first | (apply zs5; assumption) | apply zs4))
  · repeat' first | exact Fi.a | apply Fi.b) : p := (h ⟨k⟩).l
end Go.E
/- E: ranges over functions, round by round. Own work. -/
namespace Go.E
section
variable {cx : Cx} {fx : Fx} {Q : Ex → Env → Heap → Prop} {ρ0 : Env} {I : Heap → Prop}
/-- Behind a round's assignments; behind a round. -/
def roundB (ρ0 : Env) (I : Heap → Prop) (Q : Ex → Env → Heap → Prop) : Ex → Env → Heap → Prop
  | .normal, _, H => I H
  | ex, _, H => Q ex ρ0 H
def roundA (cx : Cx) (fx : Fx) (B : Code) (ρ0 : Env) (I : Heap → Prop) (Q : Ex → Env → Heap → Prop) : Ex → Env → Heap → Prop
  | .normal, ρ, H => Ev cx fx B ρ H (roundB ρ0 I Q)
  | _, _, _ => False
instance {ρ : Env} {H : Heap} {B : Code} : Stp (roundA cx fx B ρ0 I Q .normal ρ H) (Ev cx fx B ρ H (roundB ρ0 I Q)) := ⟨id⟩
instance {ρ : Env} {H : Heap} : Stp (roundB ρ0 I Q .normal ρ H) (I H) := ⟨id⟩
instance {ρ : Env} {H : Heap} : Stp (roundB ρ0 I Q .ret ρ H) (Q .ret ρ0 H) := ⟨id⟩
instance {ρ : Env} {H : Heap} {k : Nat} : Stp (roundB ρ0 I Q (.exit k) ρ H) (Q (.exit k) ρ0 H) := ⟨id⟩
/-- All rounds of 'slices.Backward': I i H: what is from i on was there. -/
theorem ev_back {f : Operand} {a b gf : Nat} {A B : Code} {ρ : Env} {H : Heap} {es : List V} {Inv : Nat → Heap → Prop} (hf : opnd ρ f = .func gf [.eptr [.list es] 0]) (hi : cx.iter gf [.eptr [.list es] 0] = some (backL es))
    (ha : a < fx.n) (hb : b < fx.n) (hstep : ∀ i e H, es[i]? = some e → Inv (i + 1) H → Ev cx fx A ((ρ.put a (.int .i64 i)).put b e) H (roundA cx fx B ρ (Inv i) Q)) (hend : ∀ H, Inv 0 H → Q .normal ρ H) (h0 : Inv es.length H) :
    Ev cx fx (.rangeFunc f #[a, b] A B) ρ H Q := by
  have key : ∀ k, k ≤ es.length → ∀ H, Inv k H → ∃ ex H', evRounds (evCode cx fx loopw (callw cx) A) (evCode cx fx loopw (callw cx) B) fx.n [a, b] ρ ((List.range k).reverse.map fun i : Nat => [.int .i64 (i : Int), es.getD i .undef]) H = some (ex, H') ∧ Q ex ρ H' := by
    intro k
    induction k with
    | zero => intro _ H h; exact ⟨.normal, H, rfl, hend H h⟩
    | succ k ih =>
      intro hk H h
      have hg : es[k]? = some es[k] := by simp [show k < es.length by omega]
      have hr : (List.range (k + 1)).reverse.map (fun i : Nat => [V.int .i64 (i : Int), es.getD i .undef]) = [.int .i64 (k : Int), es[k]] :: (List.range k).reverse.map fun i : Nat => [.int .i64 (i : Int), es.getD i .undef] := by
        rw [List.range_succ, List.reverse_append, List.reverse_singleton, List.singleton_append, List.map_cons, List.getD_eq_getElem?_getD, hg]; rfl
      have hs := hstep k es[k] H hg h
      unfold Ev at hs
      obtain ⟨ex, ρ2, H2, h1, h2⟩ := hs
      cases ex with
      | exit _ => exact h2.elim
      | ret => exact h2.elim
      | normal =>
        have h2' : Ev cx fx B ρ2 H2 (roundB ρ (Inv k) Q) := h2
        unfold Ev at h2'
        obtain ⟨ex3, ρ3, H3, h3, h4⟩ := h2'
        cases ex3 with
        | normal =>
          obtain ⟨ex4, H4, h5, h6⟩ := ih (by omega) H3 h4
          exact ⟨ex4, H4, by rw [hr]; simp only [evRounds, putAll, List.length_cons, List.length_nil, if_true, List.zip_cons_cons, List.zip_nil_right, ha, hb, Option.bind_some, h1, h3, h5], h6⟩
        | exit j => exact ⟨.exit j, H3, by rw [hr]; simp only [evRounds, putAll, List.length_cons, List.length_nil, if_true, List.zip_cons_cons, List.zip_nil_right, ha, hb, Option.bind_some, h1, h3], h4⟩
        | ret => exact ⟨.ret, H3, by rw [hr]; simp only [evRounds, putAll, List.length_cons, List.length_nil, if_true, List.zip_cons_cons, List.zip_nil_right, ha, hb, Option.bind_some, h1, h3], h4⟩
  obtain ⟨ex, H', h1, h2⟩ := key es.length (Nat.le_refl _) H h0
  unfold Ev
  refine ⟨ex, ρ, H', ?_, h2⟩
  have e : evRounds (evCode cx fx loopw (callw cx) A) (evCode cx fx loopw (callw cx) B) fx.n [a, b] ρ (backL es) H = some (ex, H') := h1
  simp only [evCode, hf, hi, Option.bind_some, e, Option.map_some]
end
attribute [irreducible] roundA roundB
end Go.E
namespace Go.E
/-- The rounds of ranges over functions, in the order of the text; the loops in a round. -/
def ranges : Code → List (Code × Code)
  | .seq a b => ranges a ++ ranges b
  | .cond _ a b => ranges a ++ ranges b
  | .block _ c | .scope c | .loop c => ranges c
  | .rangeFunc _ _ a b => [(a, b)]
  | _ => []
def rangeAt (fn : Func) (k : Nat) : Code × Code := ((fn.body.map ranges).getD []).getD k (.skip, .skip)
def loopIn (fn : Func) (r k : Nat) : Code := (loops (rangeAt fn r).2).getD k .skip
end Go.E
/- Lists of whole numbers in order; what sorting a list of them comes to. Own work. -/
namespace Go.E
/-! ### Lists in order -/
def cmpI (x y : Int) : Int := if x < y then -1 else if x > y then 1 else 0
def cmpL : List Int → List Int → Int
  | [], [] => 0
  | [], _ :: _ => -1
  | _ :: _, [] => 1
  | x :: r, y :: s => if cmpI x y ≠ 0 then cmpI x y else cmpL r s
def befL : List Int → List Int → Bool
  | [], [] => false
  | [], _ :: _ => true
  | _ :: _, [] => false
  | x :: r, y :: s => if x = y then befL r s else decide (x < y)
theorem cmpI_eq {x y : Int} : cmpI x y = 0 ↔ x = y := by unfold cmpI; split <;> (try split) <;> omega
theorem cmpI_lt {x y : Int} : cmpI x y < 0 ↔ x < y := by unfold cmpI; split <;> (try split) <;> omega
theorem cmpL_lt : ∀ a b : List Int, cmpL a b < 0 ↔ befL a b = true
  | [], [] => by simp [cmpL, befL]
  | [], _ :: _ => by simp [cmpL, befL]
  | _ :: _, [] => by simp [cmpL, befL]
  | x :: r, y :: s => by
    have ih := cmpL_lt r s
    simp only [cmpL, befL]
    by_cases h : x = y
    · rw [if_neg (by rw [ne_eq, cmpI_eq]; simpa using h), if_pos h, ih]
    · rw [if_pos (by rw [ne_eq, cmpI_eq]; exact h), if_neg h, cmpI_lt, decide_eq_true_eq]
theorem cmpL_eq : ∀ a b : List Int, cmpL a b = 0 ↔ a = b
  | [], [] => by simp [cmpL]
  | [], _ :: _ => by simp [cmpL]
  | _ :: _, [] => by simp [cmpL]
  | x :: r, y :: s => by
    have ih := cmpL_eq r s
    simp only [cmpL, List.cons.injEq]
    by_cases h : x = y
    · rw [if_neg (by rw [ne_eq, cmpI_eq]; simpa using h), ih]; simp [h]
    · have := (not_congr (@cmpI_eq x y)).2 h
      rw [if_pos this]; simp [this, h]
theorem befL_irr : ∀ a : List Int, befL a a = false
  | [] => rfl
  | x :: r => by simp [befL, befL_irr r]
theorem befL_trans : ∀ a b c : List Int, befL a b = true → befL b c = true → befL a c = true
  | [], [], _, h, _ => by simp [befL] at h
  | [], _ :: _, [], _, h => by simp [befL] at h
  | [], _ :: _, _ :: _, _, _ => rfl
  | _ :: _, [], _, h, _ => by simp [befL] at h
  | _ :: _, _ :: _, [], _, h => by simp [befL] at h
  | x :: r, y :: s, z :: t, h, g => by
    simp only [befL] at h g ⊢
    split at h <;> split at g <;> split <;> simp_all
    · exact befL_trans _ _ _ h g
    all_goals omega
theorem befL_total : ∀ a b : List Int, befL a b = false → befL b a = false → a = b
  | [], [], _, _ => rfl
  | [], _ :: _, h, _ => by simp [befL] at h
  | _ :: _, [], _, h => by simp [befL] at h
  | x :: r, y :: s, h, g => by
    simp only [befL] at h g
    by_cases e : x = y
    · rw [if_pos e] at h; rw [if_pos e.symm] at g; rw [e, befL_total r s h g]
    · rw [if_neg e] at h; rw [if_neg (Ne.symm e)] at g
      simp at h g; omega
theorem befL_ntrans (a b c : List Int) (h : befL a b = false) (g : befL b c = false) : befL a c = false := by
  cases hc : befL a c with
  | false => rfl
  | true =>
    cases hb : befL b a with
    | true => rw [befL_trans b a c hb hc] at g; cases g
    | false => rw [befL_total a b h hb, g] at hc; cases hc
theorem befL_asym {a b : List Int} (h : befL a b = true) : befL b a = false := by
  cases g : befL b a with
  | false => rfl
  | true => rw [← befL_irr a, befL_trans a b a h g]
/-- The list, ascending. -/
def sortL (l : List (List Int)) : List (List Int) := l.mergeSort fun x y => !befL y x
theorem sortL_perm (l : List (List Int)) : (sortL l).Perm l := List.mergeSort_perm _ _
theorem sortL_len (l : List (List Int)) : (sortL l).length = l.length := (sortL_perm l).length_eq
theorem sortL_sorted (l : List (List Int)) : (sortL l).Pairwise fun a b => (!befL b a) = true :=
  List.pairwise_mergeSort (fun a b c h g => by rw [Bool.not_eq_true'] at *; exact befL_ntrans c b a g h) (fun a b => by
    cases h : befL b a with
    | false => rfl
    | true => rw [befL_asym h]; rfl) l
/-- What is in order, and holds the same, is the list ascending. -/
theorem sortL_is {l m : List (List Int)} (hp : m.Perm l) (hs : m.Pairwise fun a b => (!befL b a) = true) : m = sortL l :=
  List.Perm.eq_of_pairwise (le := fun a b => (!befL b a) = true) (fun a b _ _ h g => befL_total a b (by simpa using g) (by simpa using h)) hs (sortL_sorted l) (hp.trans (sortL_perm l).symm)
/-! ### 'slices.SortFunc' of a list of one's own -/
def listsOf : List V → Option (List (List Int))
  | [] => some []
  | .list es :: r => (intsOf es).bind fun a => (listsOf r).map (a :: ·)
  | _ => none
def encIs (l : List Int) : V := .list (l.map (.int .i64))
theorem listsOf_map : ∀ l : List (List Int), listsOf (l.map encIs) = some l
  | [] => rfl
  | x :: r => by
    have e : intsOf (x.map (V.int .i64)) = some x := by
      induction x with
      | nil => rfl
      | cons y s ih => simp only [List.map_cons, intsOf, ih, Option.map_some]
    simp only [List.map_cons, listsOf, encIs, e, Option.bind_some, listsOf_map r, Option.map_some]
/-- 'sorts': the functions, each with the one that compares. -/
def sortAct (sorts : List (Nat × Nat)) (f : Nat) (args : List V) (H : Heap) : Option (V × Heap) :=
  match args with
  | [.ref s id ver 0 len, .func c []] =>
    match H[id]? with
    | some (.arr es v0) => if sorts.lookup f = some c ∧ s = 1 ∧ v0 = ver ∧ len = es.length ∧ 0 < len ∧ len ≤ 1000000 then
        (listsOf es).bind fun ls => if ls.all (fun x => decide (x.length ≤ 1000000)) = true then some (.undef, H.set id (.arr ((sortL ls).map encIs) ver)) else none else none
    | _ => none
  | _ => none
end Go.E
