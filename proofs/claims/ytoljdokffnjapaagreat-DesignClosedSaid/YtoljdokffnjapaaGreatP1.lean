/- E: more rounds, more depth; limits. Own work. -/
import Derived.Test.YtoljdokffnjapaaGreatP0
import Derived.OrdersIn
import Derived.LoopNIn
import Derived.Scope
import Derived.RangeFuncNested
set_option linter.all false
namespace Go.E
section
variable {P : Program} {g : G} {w : World} {bs : List Nat} {H : Heap}
theorem sW (d : TypeDesc) (k : Value) : ∀ (l : List MapEntry) (i n : Nat) (e : MapEntry), (∀ (j : Nat) (e : MapEntry), j < i → l[j]? = some e → Instr.sameNow d k e.key = some false) →
  l[i]? = some e → Instr.sameNow d k e.key = some true → Instr.findNow d k l n = some (some (n + i, e.val))
 | [], i, n, e, _, h, _ => by simp at h
 | x :: r, 0, n, e, _, h, ht => by simp at h; subst h; simp [Instr.findNow, ht]
 | x :: r, i + 1, n, e, hb, h, ht => by
  have h0 := hb 0 x (by omega) (by simp)
  simp only [Instr.findNow, h0]
  rw [sW d k r i (n + 1) e (fun j e hj he => hb (j + 1) e (by omega) (by simpa using he)) (by simpa using h) ht]
  congr 3; omega
theorem sX (d : TypeDesc) (k : Value) : ∀ (l : List MapEntry) (n : Nat), (∀ (j : Nat) (e : MapEntry), l[j]? = some e → Instr.sameNow d k e.key = some false) → Instr.findNow d k l n = some none
 | [], n, _ => rfl
 | x :: r, n, hb => by
  have h0 := hb 0 x (by simp)
  simp only [Instr.findNow, h0]
  exact sX d k r (n + 1) (fun j e he => hb (j + 1) e (by simpa using he))
theorem sY (k : V) : ∀ (es : List (V × V)) (r : Option V), findV k es = some r →
  (∃ i kv, es[i]? = some kv ∧ keyEq k kv.1 = some true ∧ r = some kv.2 ∧ (∀ (j : Nat) (x : V × V), j < i → es[j]? = some x → keyEq k x.1 = some false) ∧ ∀ v, putV k v es = es.set i (k, v)) ∨
  (r = none ∧ (∀ (j : Nat) (x : V × V), es[j]? = some x → keyEq k x.1 = some false) ∧ ∀ v, putV k v es = es ++ [(k, v)])
 | [], r, h => by
  simp [findV] at h; subst h
  exact .inr ⟨rfl, fun j x hx => by simp at hx, fun v => rfl⟩
 | (k', v') :: es, r, h => by
  simp only [findV] at h
  cases hk : keyEq k k' with
  | none => simp [hk] at h
  | some b =>
   cases b with
   | true =>
    simp [hk] at h; subst h
    exact .inl ⟨0, (k', v'), rfl, hk, rfl, fun j x hj => by omega, fun v => by simp [putV, hk]⟩
   | false =>
    simp only [hk] at h
    rcases sY k es r h with ⟨i, kv, h1, h2, h3, h4, h5⟩ | ⟨h1, h2, h3⟩
    ·refine .inl ⟨i + 1, kv, by simpa using h1, h2, h3, fun j x hj hx => ?_, fun v => by simp [putV, hk, h5 v]⟩
     cases j with
     | zero => simp at hx; subst hx; exact hk
     | succ j => exact h4 j x (by omega) (by simpa using hx)
    ·refine .inr ⟨h1, fun j x hx => ?_, fun v => by simp [putV, hk, h3 v]⟩
     cases j with
     | zero => simp at hx; subst hx; exact hk
     | succ j => exact h2 j x (by simpa using hx)
theorem sf {kt : TypeId} {k k2 : V} {k' k2' : Value} {b : Bool} {d : TypeDesc} (hs : simpleKeyT P kt k = true) (hd : P.underlying kt = some d) (he : keyEq k k2 = some b) (hk : VRel g w k k') (hk2 : VRel g w k2 k2') :
  Instr.sameNow d k' k2' = some b := by
 cases k <;> cases k2 <;> simp only [keyEq] at he <;> (try (cases he; done))
 ·cases hk; cases hk2
  unfold simpleKeyT at hs
  rw [hd] at hs
  split at he
  ·rename_i hkk; cases he; subst hkk
   cases d <;> simp_all [Instr.sameNow]
  ·cases he
 ·cases hk; cases hk2
  unfold simpleKeyT at hs
  rw [hd] at hs
  cases he
  cases d <;> simp_all [Instr.sameNow, sM]
 ·cases hk; cases hk2
  unfold simpleKeyT at hs
  rw [hd] at hs
  cases he
  cases d <;> simp_all [Instr.sameNow, sM]
theorem vn {kt : TypeId} {k : V} {k' : Value} {em : Bool} (n : Nat) (hs : simpleKeyT P kt k = true) (hk : VRel g w k k') (w : World) : (Instr.checkKey em (n + 1) kt k').run P w = .ok () w := by
 unfold simpleKeyT at hs
 cases hu : P.underlying kt with
 | none => simp [hu] at hs
 | some d =>
  rw [hu] at hs
  cases d <;> cases k <;> simp at hs <;> cases hk <;> simp [Instr.checkKey, run_underlying hu]
theorem mK {kt : TypeId} {k : V} {k' : Value} {em : Bool} (hs : simpleKeyT P kt k = true) (hk : VRel g w k k') (w : World) : (Instr.checkKey em 10000 kt k').run P w = .ok () w :=
 vn 9999 hs hk w
theorem vR {kt : TypeId} {k : V} {k' : Value} {es : List (V × V)} {es' : Array MapEntry} {r : Option V} (hs : simpleKeyT P kt k = true) (hk : VRel g w k k') (hf : findV k es = some r) (hsz : es'.size = es.length)
  (hr : ∀ (k : Nat) (kv : V × V) (e : MapEntry), es[k]? = some kv → es'[k]? = some e → VRel g w kv.1 e.key ∧ VRel g w kv.2 e.val) :
  (∃ i kv e, es[i]? = some kv ∧ es'[i]? = some e ∧ keyEq k kv.1 = some true ∧ r = some kv.2 ∧ (∀ v, putV k v es = es.set i (k, v)) ∧ ∀ w1, (Instr.findKey kt k' es'.toList).run P w1 = .ok (some (i, e.val)) w1) ∨
  (r = none ∧ (∀ v, putV k v es = es ++ [(k, v)]) ∧ ∀ w1, (Instr.findKey kt k' es'.toList).run P w1 = .ok none w1) := by
 obtain ⟨d, hd⟩ : ∃ d, P.underlying kt = some d := by
  unfold simpleKeyT at hs
  cases hu : P.underlying kt with
  | none => simp [hu] at hs
  | some d => exact ⟨d, rfl⟩
 have at_ : ∀ (j : Nat) (e : MapEntry), es'.toList[j]? = some e → ∃ kv, es[j]? = some kv ∧ VRel g w kv.1 e.key := fun j e hj => by
  obtain ⟨hlt, _⟩ := List.getElem?_eq_some_iff.1 hj
  have hlt2 : j < es.length := by simp at hlt; omega
  have h1 : es[j]? = some es[j] := by simp [hlt2]
  exact ⟨_, h1, (hr j _ e h1 (by simpa using hj)).1⟩
 rcases sY k es r hf with ⟨i, kv, h1, h2, h3, h4, h5⟩ | ⟨h1, h2, h3⟩
 ·obtain ⟨hlt, _⟩ := List.getElem?_eq_some_iff.1 h1
  have hlt' : i < es'.size := by omega
  have e1 : es'[i]? = some es'[i] := by simp [hlt']
  have hn := sW d k' es'.toList i 0 es'[i] (fun j e hj he => by
   obtain ⟨x, hx, hxr⟩ := at_ j e he
   exact sf hs hd (h4 j x hj hx) hk hxr) (by simpa using e1) (sf hs hd h2 hk (hr i kv _ h1 e1).1)
  refine .inl ⟨i, kv, es'[i], h1, e1, h2, h3, h5, fun w1 => ?_⟩
  simp [Instr.findKey, run_underlying hd, hn]
 ·have hn := sX d k' es'.toList 0 (fun j e he => by
   obtain ⟨x, hx, hxr⟩ := at_ j e he
   exact sf hs hd (h2 j x hx) hk hxr)
  exact .inr ⟨h1, h3, fun w1 => by simp [Instr.findKey, run_underlying hd, hn]⟩
theorem yh (hS : Sim bs g H w) {id b : Nat} {es : List (V × V)} (hH : H[id]? = some (.map es)) (hφ : g.φ id = some (.map b)) :
  ∃ es' clock, g.O b 0 = .res id ∧ w.heap[b]? = some (.map es' clock) ∧ es'.size = es.length ∧
   ∀ (k : Nat) (kv : V × V) (e : MapEntry), es[k]? = some kv → es'[k]? = some e → VRel g w kv.1 e.key ∧ VRel g w kv.2 e.val := by
 have h := hS.obj id _ _ hH hφ
 cases h with
 | map _ _ clock es' ho hb hs hr => exact ⟨es', clock, ho, hb, hs, hr⟩
theorem ou {b : Nat} {es : Array MapEntry} {c : Nat} (h : w.heap[b]? = some (.map es c)) : (getObj b).run P w = .ok (.map es c) w := by
 simp [getObj, Sem.run, h]
theorem ov {b : Nat} {es : Array MapEntry} {c : Nat} {o : Obj} (h : w.heap[b]? = some (.map es c)) : (setObj b o).run P w = .ok () { w with heap := w.heap.setIfInBounds b o } := by
 simp [setObj, Sem.run, h]
theorem vS {a b : V} {a' b' : Value} (h : VRel g w a a') (k : VRel g w b b') : VRel g w (.tuple [a, b]) (.tuple #[a', b']) :=
 .tuple _ _ rfl (fun j v v' h1 h2 => by
  match j with
  | 0 => simp at h1 h2; subst h1; subst h2; exact h
  | 1 => simp at h1 h2; subst h1; subst h2; exact k
  | j + 2 => simp at h1)
theorem vT (hS : Sim bs g H w) {t : TypeId} {m k v : V} {m' k' : Value} {ok : Bool} (h : lookupV P t m k ok H = some v) (hm : VRel g w m m') (hk : VRel g w k k') :
  ∃ v', (Instr.lookup t m' k' ok).run P w = .ok v' w ∧ VRel g w v v' := by
 unfold lookupV at h
 split at h
 case h_2 => cases h
 rename_i kt et hu
 split at h
 case isFalse => cases h
 rename_i hs
 cases hz : zeroT P et with
 | none => simp [hz] at h
 | some z =>
 obtain ⟨zv, rfl, hzr⟩ := jE hz
 have zrel : VRel g w (ofVal zv) zv := iF zv
 cases m with
 | nilM =>
  cases hm
  simp [hz] at h
  subst h
  have hck := mK (P := P) (em := true) hs hk w
  obtain ⟨d, hd⟩ : ∃ d, P.underlying kt = some d := by
   unfold simpleKeyT at hs
   cases hu : P.underlying kt with
   | none => simp [hu] at hs
   | some d => exact ⟨d, rfl⟩
  have hf : ∀ w1, (Instr.findKey kt k' []).run P w1 = .ok none w1 := fun w1 => by simp [Instr.findKey, run_underlying hd, Instr.findNow]
  cases ok
  ·exact ⟨zv, by simp [Instr.lookup, run_underlying hu, hck, hf, hzr], zrel⟩
  ·exact ⟨.tuple #[zv, .bool false], by simp [Instr.lookup, run_underlying hu, hck, hf, hzr], vS zrel (.bool _)⟩
 | map id =>
  cases hm with
  | map _ b hφ =>
  cases hH : H[id]? with
  | none => simp [hH] at h
  | some ob =>
  cases ob with
  | map es =>
   simp only [hH] at h
   cases hf : findV k es with
   | none => simp [hf] at h
   | some r =>
    simp [hf, hz] at h
    obtain ⟨es', clock, ho, hb, hsz, hr⟩ := yh hS hH hφ
    have hck := mK (P := P) (em := es'.isEmpty) hs hk w
    have hg := ou (P := P) hb
    rcases vR (P := P) hs hk hf hsz hr with ⟨i, kv, e, h1, h2, h3, rfl, h5, h6⟩ | ⟨rfl, h2, h3⟩
    ·simp at h
     have hv := (hr i kv e h1 h2).2
     cases ok
     ·simp at h; subst h
      exact ⟨e.val, by simp [Instr.lookup, run_underlying hu, hg, hck, h6], hv⟩
     ·simp at h; subst h
      exact ⟨.tuple #[e.val, .bool true], by simp [Instr.lookup, run_underlying hu, hg, hck, h6], vS hv (.bool _)⟩
    ·simp at h
     cases ok
     ·simp at h; subst h
      exact ⟨zv, by simp [Instr.lookup, run_underlying hu, hg, hck, h3, hzr], zrel⟩
     ·simp at h; subst h
      exact ⟨.tuple #[zv, .bool false], by simp [Instr.lookup, run_underlying hu, hg, hck, h3, hzr], vS zrel (.bool _)⟩
  | _ => simp [hH] at h
 | _ => simp at h
theorem pU (hS : Sim bs g H w) {id : Nat} (hO : Open bs g H id (.map [])) {t : TypeId} : ∃ v' w' g', (Instr.makeMap t none).run P w = .ok v' w' ∧ Lay bs g w H id g' w' ∧ VRel g' w' (.map id) v' := by
 refine ⟨.map (some w.heap.size), { w with heap := w.heap.push (.map #[] 0) }, g.lay w.heap.size (fun _ => .res id) id (some (.map w.heap.size)), rfl, ?_, .map _ _ (by simp [G.lay])⟩
 exact mI hS _ _ _ _ hO (.map [] _ 0 #[] (by simp [G.lay]) (by simp) rfl (fun k kv e h => by simp at h))
theorem Ab {k k2 : V} {k' k2' : Value} (h : keyEq k k2 = some true) (hk : VRel g w k k') (hk2 : VRel g w k2 k2') : Instr.sameBits 10000 k2' k' = true := by
 cases k <;> cases k2 <;> simp only [keyEq] at h <;> (try (cases h; done)) <;> cases hk <;> cases hk2
 ·split at h
  ·rename_i hkk; subst hkk; simp at h; subst h; simp [Instr.sameBits]
  ·cases h
 ·simp at h; subst h; simp [Instr.sameBits]
 ·simp only [Option.some.injEq, decide_eq_true_eq] at h
  subst h
  simp [Instr.sameBits, sM]
theorem sZ (hS : Sim bs g H w) {t : TypeId} {m k v : V} {m' k' v' : Value} {H' : Heap} (h : mapUpdateV P bs t m k v H = some H') (hm : VRel g w m m') (hk : VRel g w k k') (hv : VRel g w v v') :
  ∃ w', (Instr.mapUpdate t m' k' v').run P w = .ok () w' ∧ Out bs g w H g w' H' := by
 unfold mapUpdateV at h
 split at h
 case h_2 => cases h
 rename_i kt et hu
 split at h
 case isFalse => cases h
 rename_i hs
 cases m with
 | map id =>
  cases hm with
  | map _ b hφ =>
  cases hH : H[id]? with
  | none => simp [hH] at h
  | some ob =>
  cases ob with
  | map es =>
   simp only [hH] at h
   cases hf : findV k es with
   | none => simp [hf] at h
   | some r =>
    simp only [hf, Option.bind_some] at h
    split at h
    case isFalse => cases h
    rename_i hund
    cases h
    obtain ⟨es', clock, ho, hb, hsz, hr⟩ := yh hS hH hφ
    obtain ⟨hid, _⟩ := List.getElem?_eq_some_iff.1 hH
    obtain ⟨hbl, _⟩ := Array.getElem?_eq_some_iff.1 hb
    have hck := mK (P := P) (em := false) hs hk w
    have hg := ou (P := P) hb
    have fin : ∀ (es2 : Array MapEntry) (c2 : Nat) (new : List (V × V)), es2.size = new.length → putV k v es = new →
      (∀ (q : Nat) (kv : V × V) (e : MapEntry), new[q]? = some kv → es2[q]? = some e → VRel g w kv.1 e.key ∧ VRel g w kv.2 e.val) →
      (∀ kv ∈ new, kv ∈ es ∨ kv = (k, v)) →
      Out bs g w H g { w with heap := w.heap.setIfInBounds b (.map es2 c2) } (H.set id (.map (putV k v es))) := by
     intro es2 c2 new hl hput hrel hmem
     have hcell : ∀ (b' q : Nat), ({ w with heap := w.heap.setIfInBounds b (.map es2 c2) } : World).cell? ⟨b', q, none⟩ = w.cell? ⟨b', q, none⟩ := fun b' q => by
      unfold World.cell?
      by_cases e1 : b' = b
      ·have e2 : (w.heap.setIfInBounds b (.map es2 c2))[b]? = some (.map es2 c2) := by simp [hbl]
       subst e1; simp only [e2, hb]
      ·simp [Array.getElem?_setIfInBounds_ne (Ne.symm e1)]
     have hfro : ∀ (b' q : Nat), ({ w with heap := w.heap.setIfInBounds b (.map es2 c2) } : World).frozen? ⟨b', q, none⟩ = w.frozen? ⟨b', q, none⟩ := fun b' q => by
      unfold World.frozen?
      by_cases e1 : b' = b
      ·have e2 : (w.heap.setIfInBounds b (.map es2 c2))[b]? = some (.map es2 c2) := by simp [hbl]
       subst e1; simp only [e2, hb]
      ·simp [Array.getElem?_setIfInBounds_ne (Ne.symm e1)]
     have x : Ext g w g { w with heap := w.heap.setIfInBounds b (.map es2 c2) } :=
      ⟨by simp, fun b' q hq => ⟨hq, hcell b' q⟩, fun _ l h => ⟨l, h, LocLe.refl l⟩, fun b' hb' hfr => ⟨by
       have : b ≠ b' := fun e1 => by subst e1; exact hfr 0 id ho
       simp [Array.getElem?_setIfInBounds_ne this], fun _ => rfl⟩, rfl, rfl, rfl, Nat.le_refl _⟩
     refine ⟨⟨by simpa using hS.bl, hS.srt, fun i hi => by simpa using hS.dom i hi, fun b' q hq => by simpa using hS.old b' q hq, fun i ob l h1 h2 => ?_, fun i ob h2 hm2 => ?_⟩, x, by simp, fun i => by simp; omega⟩
     ·by_cases e1 : i = id
      ·subst e1
       simp [hid] at h1; subst h1
       rw [hφ] at h2; cases h2
       rw [hput]
       exact .map _ _ c2 es2 ho (by simp [hbl]) hl (fun q kv e h3 h4 => ⟨(hrel q kv e h3 h4).1.mono x, (hrel q kv e h3 h4).2.mono x⟩)
      ·rw [List.getElem?_set_ne (Ne.symm e1)] at h1
       refine (hS.obj i ob l h1 h2).keep x ⟨fun _ _ h => h, fun b' q _ => ⟨hcell b' q, hfro b' q⟩, fun b' es3 c3 h3 h4 => ?_⟩
       have : b ≠ b' := fun e2 => by subst e2; rw [ho] at h3; cases h3; exact e1 rfl
       simp [Array.getElem?_setIfInBounds_ne this, h4]
     ·by_cases e1 : i = id
      ·subst e1
       simp [hid] at h2; subst h2
       intro b2 hb2
       rcases oY hS.srt hund b2 hb2 with h4 | h4
       ·exact .inl h4
       ·rcases hS.und i _ hH hm2 b2 hb2 with h3 | h3
        ·exact .inl h3
        ·have h5 : k.under b2 = true := by
          cases k <;> first | rfl | simp [simpleKeyT] at hs
         refine .inr ?_
         simp only [objUnder] at h3 ⊢
         rw [hput]
         refine List.all_eq_true.2 (fun kv hkv => ?_)
         rcases hmem kv hkv with h6 | rfl
         ·exact List.all_eq_true.1 h3 kv h6
         ·simp [h4, h5]
      ·rw [List.getElem?_set_ne (Ne.symm e1)] at h2
       exact hS.und i ob h2 hm2
    rcases vR (P := P) hs hk hf hsz hr with ⟨i, kv, e, h1, h2, h3, rfl, h5, h6⟩ | ⟨rfl, h2, h3⟩
    ·obtain ⟨hi, _⟩ := List.getElem?_eq_some_iff.1 h1
     have hsb := Ab h3 hk (hr i kv e h1 h2).1
     refine ⟨_, ?_, fin (es'.modify i fun x => { x with key := k', val := v' }) clock (es.set i (k, v)) (by simp [hsz]) (h5 v) (fun q kv2 e2 hq he2 => ?_) (fun kv2 h => ?_)⟩
     ·simp [Instr.mapUpdate, run_underlying hu, hg, hck, h6, Instr.keyThatStays, h2, hsb, ov (P := P) hb]
     ·by_cases e1 : q = i
      ·subst e1
       simp [hi] at hq; subst hq
       have h2' : es'[q]? = some e := h2
       rw [Array.getElem?_modify] at he2
       simp [h2'] at he2
       subst he2
       exact ⟨hk, hv⟩
      ·rw [List.getElem?_set_ne (Ne.symm e1)] at hq
       rw [Array.getElem?_modify, if_neg (Ne.symm e1)] at he2
       exact hr q kv2 e2 hq he2
     ·rcases List.mem_or_eq_of_mem_set h with h | h
      ·exact .inl h
      ·exact .inr h
    ·refine ⟨_, ?_, fin (es'.push { key := k', val := v', born := clock }) (clock + 1) (es ++ [(k, v)]) (by simp [hsz]) (h2 v) (fun q kv2 e2 hq he2 => ?_) (fun kv2 h => ?_)⟩
     ·simp [Instr.mapUpdate, run_underlying hu, hg, hck, h3, ov (P := P) hb]
     ·by_cases e1 : q < es.length
      ·rw [List.getElem?_append_left e1] at hq
       rw [Array.getElem?_push, if_neg (by omega)] at he2
       exact hr q kv2 e2 hq he2
      ·rw [List.getElem?_append_right (by omega)] at hq
       obtain ⟨h4, h7⟩ := List.getElem?_eq_some_iff.1 hq
       have hq0 : q = es.length := by simp at h4; omega
       subst hq0
       simp at h7; subst h7
       rw [Array.getElem?_push, if_pos (by omega)] at he2
       cases he2
       exact ⟨hk, hv⟩
     ·rcases List.mem_append.1 h with h | h
      ·exact .inl h
      ·exact .inr (by simpa using h)
  | _ => simp [hH] at h
 | _ => simp at h
end
end Go.E
namespace Go.E
section
variable {P : Program} {g : G} {w : World} {bs : List Nat} {H : Heap}
def eqBody (P : Program) (d : Nat) (xs ys : List V) (f : Field) (r : Option Bool) : Option Bool :=
 if f.name = "_" then none else
 (partV P f.type xs f.offset).bind fun a => (partV P f.type ys f.offset).bind fun b => (eqT P d f.type a b).bind fun e => if e then r else some false
theorem uv : ∀ (d D : Nat) (t : TypeId) (x y : V) (x' y' : Value) (b : Bool), eqT P d t x y = some b → d ≤ D → VRel g w x x' → VRel g w y y' →
  (Op.equalIn D t x' y').run P w = .ok b w
 | 0, _, _, _, _, _, _, _, h, _, _, _ => by simp [eqT] at h
 | d + 1, D, t, x, y, x', y', b, h, hD, hx, hy => by
  obtain ⟨D, rfl⟩ : ∃ m, D = m + 1 := ⟨D - 1, by omega⟩
  unfold eqT at h
  split at h
  ·rename_i a c hu; cases h; cases hx; cases hy; simp [Op.equalIn, run_underlying hu]
  ·rename_i q k a k' c hu
   cases hx; cases hy
   split at h
   ·rename_i hk; cases h; simp [Op.equalIn, run_underlying hu, hk]
   ·cases h
  ·rename_i a c hu; cases h; cases hx; cases hy
   simp [Op.equalIn, run_underlying hu, sM]
  ·rename_i fs xs ys hu
   cases hx with
   | agg _ vx hsx hrx =>
   cases hy with
   | agg _ vy hsy hry =>
   split at h
   ·cases h
   ·rename_i hst
    have key : ∀ (l : List Field) (b : Bool), l.foldr (fun f r => eqBody P d xs ys f r) (some true) = some b →
      (forIn l ((none, ()) : Option Bool × PUnit) fun f _ =>
       (if f.name ≠ "_" then do
        let p ← part f.type vx f.offset
        let q ← part f.type vy f.offset
        let e ← Op.equalIn D f.type p q
        if (!e) = true then pure (ForInStep.done (some false, ()))
        else pure (ForInStep.yield (none, ()))
       else pure (ForInStep.yield (none, ())) : Sem (ForInStep (Option Bool × PUnit)))).run P w = .ok (if b then (none, ()) else (some false, ())) w := by
     intro l
     induction l with
     | nil => intro b hb; simp at hb; subst hb; simp
     | cons f l ih =>
      intro b hb
      simp only [List.foldr_cons] at hb
      unfold eqBody at hb
      split at hb
      ·cases hb
      ·rename_i hn
       cases h1 : partV P f.type xs f.offset with
       | none => simp [h1] at hb
       | some p =>
       cases h2 : partV P f.type ys f.offset with
       | none => simp [h1, h2] at hb
       | some q =>
       cases h3 : eqT P d f.type p q with
       | none => simp [h1, h2, h3] at hb
       | some e =>
        simp only [h1, h2, h3, Option.bind_some] at hb
        obtain ⟨p', r1, r2⟩ := oW (w := w) h1 hsx hrx
        obtain ⟨q', r3, r4⟩ := oW (w := w) h2 hsy hry
        have r5 := uv d D f.type p q p' q' e h3 (by omega) r2 r4
        cases e with
        | true =>
         simp only [if_true] at hb
         have := ih b hb
         simp [List.forIn_cons, hn, r1, r3, r5]
         simpa using this
        | false =>
         simp at hb; subst hb
         simp [List.forIn_cons, hn, r1, r3, r5]
    have hb : fs.toList.foldr (fun f r => eqBody P d xs ys f r) (some true) = some b := h
    have := key fs.toList b hb
    simp only [Op.equalIn, Sem.run_bind, run_underlying hu, Result.andThen_ok, run_program, hst, ← Array.forIn_toList]
    simp only [Bool.false_eq_true, if_false]
    rw [Sem.run_bind, this]
    cases b <;> simp
  ·cases h
theorem xu {e : V} {es : List V} {v' : Value} (h : VRel g w (.list (e :: es)) v') : ∃ a n c, v' = .slice (some a) n c := by
 cases h with
 | list b o cap s _ c hlen hpure hs hO hc hr => exact ⟨_, _, _, rfl⟩
theorem Ac {t : TypeId} {a c : Bool} (n : Nat) (hu : P.underlying t = some .bool) : (Op.equalIn (n + 1) t (.bool a) (.bool c)).run P w = .ok (a == c) w := by
 simp [Op.equalIn, run_underlying hu]
theorem vU {t e : TypeId} {b : Option Addr} {m c : Nat} (n : Nat) (hu : P.underlying t = some (.slice e)) : (Op.equalIn (n + 1) t (.slice none 0 0) (.slice b m c)).run P w = .ok b.isNone w := by
 simp [Op.equalIn, run_underlying hu]
theorem Ad {t e : TypeId} {a : Addr} {m c : Nat} (n : Nat) (hu : P.underlying t = some (.slice e)) : (Op.equalIn (n + 1) t (.slice (some a) m c) (.slice none 0 0)).run P w = .ok false w := by
 simp [Op.equalIn, run_underlying hu]
structure EqRuns (P : Program) (w : World) (t : TypeId) (x' y' : Value) (b : Bool) : Prop where
 eq : (Op.equal t x' y').run P w = .ok b w
 guard : ∀ op ox oy, (eqGuard op t ox oy x' y').run P w = .ok () w
 e1 : binOp .eql t x' y' = (do pure (.bool (← Op.equal t x' y')))
 e2 : binOp .neq t x' y' = (do pure (.bool (!(← Op.equal t x' y'))))
theorem uw {t : TypeId} {x y : V} {x' y' : Value} {b : Bool} (h : eqlOp P t x y = some b) (hx : VRel g w x x') (hy : VRel g w y y') : EqRuns P w t x' y' b := by
 have sl : ∀ (e : V) (es : List V) (s : Value), VRel g w (.list (e :: es)) s → ∀ d, P.underlying t = some (.slice d) → EqRuns P w t (.slice none 0 0) s false ∧ EqRuns P w t s (.slice none 0 0) false := by
  intro e es s hs d hu
  obtain ⟨a, n, c, rfl⟩ := xu hs
  exact ⟨⟨by exact vU 9999 hu, fun op ox oy => by unfold eqGuard; split <;> simp, rfl, rfl⟩, ⟨by exact Ad 9999 hu, fun op ox oy => by unfold eqGuard; split <;> simp, rfl, rfl⟩⟩
 unfold eqlOp at h
 split at h
 ·rename_i a c
  cases hx; cases hy
  split at h
  ·rename_i hu; cases h
   exact ⟨by exact Ac 9999 hu, fun op ox oy => by unfold eqGuard; split <;> simp, rfl, rfl⟩
  ·cases h
 ·cases hx; cases hy
  split at h
  ·rename_i e hu; cases h
   exact ⟨by exact vU 9999 hu, fun op ox oy => by unfold eqGuard; split <;> simp, rfl, rfl⟩
  ·cases h
 ·cases hx
  split at h
  ·rename_i e hu; cases h; exact (sl _ _ _ hy e hu).1
  ·cases h
 ·cases hx
  split at h
  ·rename_i e hu; cases h; exact (sl _ _ _ (eC hy) e hu).1
  ·cases h
 ·cases hy
  split at h
  ·rename_i e hu; cases h; exact (sl _ _ _ hx e hu).2
  ·cases h
 ·cases hy
  split at h
  ·rename_i e hu; cases h; exact (sl _ _ _ (eC hx) e hu).2
  ·cases h
 ·split at h
  ·cases h
  ·rename_i hg
   have h1 := uv 100 Op.maxDepth t _ _ x' y' b h (by decide) hx hy
   cases hx; cases hy
   refine ⟨h1, fun op ox oy => ?_, rfl, rfl⟩
   unfold eqGuard
   split <;> first | (simp; done) | (simp; exact fun h => absurd h hg)
 ·cases h
theorem xv {op : BinOp} {t : TypeId} {x y v : V} {x' y' : Value} (h : binOpV P op t x y = some v) (hx : VRel g w x x') (hy : VRel g w y y') (ox oy : Operand) :
  ∃ v', (do eqGuard op t ox oy x' y'; binOp op t x' y' : Sem Value).run P w = .ok v' w ∧ VRel g w v v' := by
 unfold binOpV at h
 split at h
 ·rename_i k a k' b
  cases hx; cases hy
  obtain ⟨v', h1, h2⟩ := pS (P := P) (g := g) (w := w) (k' := k') h
  exact ⟨v', by simp [eqGuard, binOp, h1], h2⟩
 ·rename_i k a k' b
  cases hx; cases hy
  obtain ⟨v', h1, h2⟩ := pS (P := P) (g := g) (w := w) (k' := k') h
  exact ⟨v', by simp [eqGuard, binOp, h1], h2⟩
 ·rename_i k a k' b _ _
  cases hx; cases hy
  split at h
  ·rename_i hk
   subst hk
   obtain ⟨v', h1, h2⟩ := xk (P := P) (g := g) (w := w) h t
   refine ⟨v', ?_, h2⟩
   have : (eqGuard op t ox oy (.int k a) (.int k b)).run P w = .ok () w := by unfold eqGuard; split <;> simp
   simp [this, h1]
  ·cases h
 ·rename_i a b
  cases hx; cases hy
  obtain ⟨v', h1, h2⟩ := xl (P := P) (g := g) (w := w) h
  refine ⟨v', ?_, h2⟩
  have h3 : (eqGuard op t ox oy (.string a) (.string b)).run P w = .ok () w := by unfold eqGuard; split <;> simp
  have h4 : binOp op t (.string a) (.string b) = Op.stringOp op a b := by cases op <;> rfl
  simp [h3, h4, h1]
 ·cases he : eqlOp P t x y with
  | none => simp [he] at h
  | some b =>
   simp [he] at h; subst h
   have r := uw he hx hy
   exact ⟨.bool b, by simp [r.guard, r.e1, r.eq], .bool _⟩
 ·cases he : eqlOp P t x y with
  | none => simp [he] at h
  | some b =>
   simp [he] at h; subst h
   have r := uw he hx hy
   exact ⟨.bool !b, by simp [r.guard, r.e2, r.eq], .bool _⟩
 ·cases h
theorem mL : ∀ (l : List V) (l' : List Value) (isMax : Bool) (v : V), minmax isMax l = some v → l.length = l'.length → (∀ (j : Nat) (x : V) (x' : Value), l[j]? = some x → l'[j]? = some x' → VRel g w x x') →
  ∃ v', (match l' with | [] => (stuck "" : Sem Value) | x :: r => r.foldlM (if isMax then Builtin.max2 else Builtin.min2) x).run P w = .ok v' w ∧ VRel g w v v'
 | [], _, _, _, h, _, _ => by simp [minmax] at h
 | [x], l', isMax, v, h, hl, hr => by
  match l', hl with
  | [x'], _ =>
   have h0 := hr 0 x x' rfl rfl
   unfold minmax at h
   split at h
   ·cases h; exact ⟨x', by simp, h0⟩
   ·cases h
 | x :: y :: r, l', isMax, v, h, hl, hr => by
  match l', hl with
  | x' :: y' :: r', hl =>
   have h0 := hr 0 x x' rfl rfl
   have h1 := hr 1 y y' rfl rfl
   have hxy : (∃ k a, x = .int k a) ∧ ∃ k b, y = .int k b := by
    unfold minmax at h
    cases x <;> cases y <;> first | (simp at h; done) | exact ⟨⟨_, _, rfl⟩, _, _, rfl⟩
   obtain ⟨⟨k, a, rfl⟩, k', b, rfl⟩ := hxy
   rw [minmax] at h
   cases h0; cases h1
   have ih := mL (.int k (if isMax then (if a < b then b else a) else (if b < a then b else a)) :: r) (.int k (if isMax then (if a < b then b else a) else (if b < a then b else a)) :: r') isMax v h (by simp at hl ⊢; omega) (fun j u u' hu hu' => by
    cases j with
    | zero => simp at hu hu'; subst hu; subst hu'; exact .int _ _
    | succ j => exact hr (j + 2) u u' (by simpa using hu) (by simpa using hu'))
   obtain ⟨v', e1, e2⟩ := ih
   refine ⟨v', ?_, e2⟩
   simp only [List.foldlM_cons]
   cases isMax
   ·simpa [Builtin.min2] using e1
   ·simpa [Builtin.max2] using e1
termination_by l => l.length
end
end Go.E
namespace Go.E
def ArgsR (g : G) (w : World) (l : List V) (l' : List Value) : Prop :=
 l'.length = l.length ∧ ∀ (j : Nat) (x : V) (x' : Value), l[j]? = some x → l'[j]? = some x' → VRel g w x x'
def CallIs (P : Program) (bs : List Nat) (f : Nat) (args : List V) (H : Heap) (v : V) (H' : Heap) : Prop :=
 (∃ fn, P.funcs[f]? = some fn ∧ fn.body.isSome = true ∧ fn.name ≠ "runtime.NumGoroutine") ∧
  ∀ g w args', Sim bs g H w → ArgsR g w args args' →
   Calls P f args'.toArray w fun e w' => ∃ v' g', e = .returned v' ∧ Out bs g w H g' w' H' ∧ VRel g' w' v v'
def FreshOk (cx : Cx) : Prop :=
 ∀ f args s es, cx.fresh f (args.map V.norm) = some (s, es) → ∀ bs H, CallIs cx.P bs f args H (.ref s H.length 0 0 es.length) (H ++ [.arr es 0])
def CallOk (cx : Cx) (call : CallSem) : Prop :=
 FreshOk cx ∧ ∀ bs f args H v H', call bs f args H = some (v, H') → CallIs cx.P bs f args H v H'
theorem Ae {cx : Cx} {call : CallSem} (hC : CallOk cx call) {fo : Operand} {pos : String} {bs f args H v H'} (h : callAt cx fo pos call bs f args H = some (v, H')) : CallIs cx.P bs f args H v H' := by
 unfold callAt at h
 split at h
 ·split at h
  ·rename_i s es hf
   cases h
   exact hC.1 f args s es hf bs H
  ·exact hC.2 _ _ _ _ _ _ h
 ·exact hC.2 _ _ _ _ _ _ h
section
variable {cx : Cx} {g : G} {w : World} {bs : List Nat} {n : Nat} {H : Heap} {call : CallSem} {ρ : Env} {a : Act}
theorem nF {ρ : Operand → V} {ρ' : Operand → Value} (h : ∀ x, VRel g w (ρ x) (ρ' x)) (l : List Operand) : ArgsR g w (l.map ρ) (l.map ρ') :=
 ⟨by simp, fun j x x' h1 h2 => by
  rw [List.getElem?_map] at h1 h2
  cases hj : l[j]? with
  | none => simp [hj] at h1
  | some o => simp [hj] at h1 h2; subst h1; subst h2; exact h o⟩
theorem orelv {ρ : Operand → V} {ρ' : Operand → Value} (h : ∀ x, VRel g w (ρ x) (ρ' x)) (o : Option Operand) : ORelV g w (o.map ρ) (o.map ρ') := by
 cases o with
 | none => trivial
 | some x => exact h x
theorem vo {b : Builtin} {c : Call} {v : V} {H' : Heap} {pos : String} (ty : TypeId) (consts : Array Bool) (h : evBuiltin cx b c pos ρ H = some (v, H')) (hS : Sim bs g H w) (hE : ERel g w ρ a.tmps n) :
  ∃ v' w' g', (builtin b c.argTypes ty consts (c.args.map a.eval)).run cx.P w = .ok (.value v') w' ∧ Out bs g w H g' w' H' ∧ VRel g' w' v v' := by
 have hargs : (c.args.map a.eval).toList = c.args.toList.map a.eval := by simp
 unfold evBuiltin at h
 split at h
 ·rename_i t x hts hxs
  have e1 : c.argTypes = #[t] := by rw [← Array.toList_inj]; exact hts
  obtain ⟨o, ho, hox⟩ : ∃ o, c.args.toList = [o] ∧ opnd ρ o = x := by
   cases hl : c.args.toList with
   | nil => simp [hl] at hxs
   | cons o r => cases r with
    | nil => simp [hl] at hxs; exact ⟨o, rfl, hxs⟩
    | cons o2 r => simp [hl] at hxs
  have e2 : c.args.map a.eval = #[a.eval o] := by rw [← Array.toList_inj, hargs, ho]; rfl
  have hx := hE.opnd o
  rw [hox] at hx
  have fin : ∀ m, lenV x = some m → ((∃ e, cx.P.underlying t = some (.slice e)) ∨ cx.P.underlying t = some .string) →
    (match cx.P.underlying t with | some (.slice _) => (∀ s, x ≠ .str s) | _ => ∃ s, x = .str s) → (V.int .i64 m, H) = (v, H') →
    ∃ v' w' g', (builtin .len c.argTypes ty consts (c.args.map a.eval)).run cx.P w = .ok (.value v') w' ∧ Out bs g w H g' w' H' ∧ VRel g' w' v v' := by
   intro m hm h1 h2 h3
   cases h3
   have := zY (P := cx.P) (t := t) (ty := ty) hx hm h1 h2
   exact ⟨_, _, _, by simp [builtin, e1, e2, this], Out.refl hS, .int _ _⟩
  split at h
  ·rename_i el hu
   simp [lenV] at h
   exact fin 0 rfl (.inl ⟨el, hu⟩) (by rw [hu]; intro s; simp) (by simpa using h)
  ·rename_i el es hu
   simp [lenV] at h
   exact fin es.length rfl (.inl ⟨el, hu⟩) (by rw [hu]; intro s; simp) (by simpa using h)
  ·rename_i el tk es hu
   simp [lenV] at h
   exact fin es.length rfl (.inl ⟨el, hu⟩) (by rw [hu]; intro s; simp) (by simpa using h)
  ·rename_i el s2 id ver off len hu
   simp [lenV] at h
   exact fin len rfl (.inl ⟨el, hu⟩) (by rw [hu]; intro s; simp) (by simpa using h)
  ·rename_i s hu
   simp [lenV] at h
   exact fin s.size rfl (.inr hu) (by rw [hu]; exact ⟨s, rfl⟩) (by simpa using h)
  ·rename_i m e hu
   cases h
   exact ⟨.int .i64 m, w, g, by simp [builtin, e1, e2, Builtin.len_, run_underlying hu, goInt], Out.refl hS, .int _ _⟩
  ·cases h
 ·rename_i t u s x hts hxs
  split at h
  case h_2 => cases h
  rename_i e2 hu
  have e1 : c.argTypes = #[t, u] := by rw [← Array.toList_inj]; exact hts
  obtain ⟨o1, o2, ho, ho1, ho2⟩ : ∃ o1 o2, c.args.toList = [o1, o2] ∧ opnd ρ o1 = s ∧ opnd ρ o2 = x := by
   cases hl : c.args.toList with
   | nil => simp [hl] at hxs
   | cons o r => cases r with
    | nil => simp [hl] at hxs
    | cons o2 r => cases r with
     | nil => simp [hl] at hxs; exact ⟨o, o2, rfl, hxs.1, hxs.2⟩
     | cons _ _ => simp [hl] at hxs
  have e3 : c.args.map a.eval = #[a.eval o1, a.eval o2] := by rw [← Array.toList_inj, hargs, ho]; rfl
  have h1 := hE.opnd o1
  have h2 := hE.opnd o2
  rw [ho1] at h1; rw [ho2] at h2
  obtain ⟨v', w', g', r1, r2, r3⟩ := vQ (ty := ty) hS h h1 h2 hu
  exact ⟨v', w', g', by simp [builtin, e1, e3, r1], r2, r3⟩
 ·cases hm : minmax false (c.args.toList.map (opnd ρ)) with
  | none => simp [hm] at h
  | some x =>
   simp [hm] at h
   obtain ⟨rfl, rfl⟩ := h
   obtain ⟨h1, h2⟩ := nF (fun x => hE.opnd x) c.args.toList
   obtain ⟨v', r1, r2⟩ := mL (P := cx.P) (g := g) (w := w) _ (c.args.toList.map a.eval) false x hm h1.symm h2
   refine ⟨v', w, g, ?_, Out.refl hS, r2⟩
   simp only [builtin, Builtin.min_, hargs]
   cases hl : c.args.toList.map a.eval with
   | nil => rw [hl] at r1; simp at r1
   | cons y r => rw [hl] at r1; simp at r1; simp [r1]
 ·cases hm : minmax true (c.args.toList.map (opnd ρ)) with
  | none => simp [hm] at h
  | some x =>
   simp [hm] at h
   obtain ⟨rfl, rfl⟩ := h
   obtain ⟨h1, h2⟩ := nF (fun x => hE.opnd x) c.args.toList
   obtain ⟨v', r1, r2⟩ := mL (P := cx.P) (g := g) (w := w) _ (c.args.toList.map a.eval) true x hm h1.symm h2
   refine ⟨v', w, g, ?_, Out.refl hS, r2⟩
   simp only [builtin, Builtin.max_, hargs]
   cases hl : c.args.toList.map a.eval with
   | nil => rw [hl] at r1; simp at r1
   | cons y r => rw [hl] at r1; simp at r1; simp [r1]
 ·cases h
theorem tR {fx : Fx} (hb : fx.bs = bs) (hC : CallOk cx call) {o : Oper} {v : V} {H' : Heap} (h : evOp cx fx call o ρ H = some (v, H')) (hS : Sim bs g H w) (hE : ERel g w ρ a.tmps n)
  {next : Act → World → Prop} {Q : Exit → Act → World → Prop}
  (hn : ∀ v' w' g', Out bs g w H g' w' H' → VRel g' w' v v' → next (a.put o.dst v') w') : o.wp cx.P a w next Q := by
 have e := fun x => hE.opnd x
 have val : ∀ v' w' g', (execOp a.eval o).run cx.P w = .ok (.value v') w' → Out bs g w H g' w' H' → VRel g' w' v v' → o.wp cx.P a w next Q := fun v' w' g' h1 h2 h3 => by
  unfold Oper.wp; rw [h1]; exact hn v' w' g' h2 h3
 have skp : ∀ w' g', (execOp a.eval o).run cx.P w = .ok .skip w' → Out bs g w H g' w' H' → v = .undef → o.wp cx.P a w next Q := fun w' g' h1 h2 h3 => by
  unfold Oper.wp; rw [h1]; exact hn Go.undef w' g' h2 (h3 ▸ .undef _)
 have looks : ∀ (r : Option V) (s : Sem Value), (r.map (·, H)) = some (v, H') → (execOp a.eval o = (do pure (.value (← s)))) → (∀ y, r = some y → ∃ y', s.run cx.P w = .ok y' w ∧ VRel g w y y') → o.wp cx.P a w next Q := by
  intro r s h1 h2 h3
  cases r with
  | none => simp at h1
  | some y =>
   simp at h1
   obtain ⟨rfl, rfl⟩ := h1
   obtain ⟨y', r1, r2⟩ := h3 y rfl
   exact val y' w g (by rw [h2]; simp [r1]) (Out.refl hS) r2
 obtain ⟨dst, op, type, pos, after, guard⟩ := o
 unfold evOp at h
 cases op <;> simp only at h <;> (try (cases h; done))
 case move x => cases h; exact val _ _ _ (by simp [execOp]) (Out.refl hS) (e x)
 case assign x =>
  have hx := e x
  have plain : (opnd ρ x, H) = (v, H') → ({ dst, op := .assign x, type, pos, after, guard } : Oper).wp cx.P a w next Q := fun h => by
   cases h; exact val (a.eval x) w g (by simp [execOp]) (Out.refl hS) (e x)
  cases x with
  | const c =>
   cases hn2 : opnd ρ (.const c) with
   | nilS =>
    simp only [hn2] at h
    split at h
    ·cases h
     rw [hn2] at hx
     obtain ⟨g', o1, r1⟩ := sT (hS.more (.tok 0)) (hS.open _)
     have hcv : a.eval (.const c) = .slice none 0 0 := by
      generalize a.eval (.const c) = y at hx
      cases hx; rfl
     exact val (.slice none 0 0) w g' (by simp [execOp, hcv]) o1.out r1
    ·exact plain (by rw [hn2]; exact Option.some.inj h)
   | _ => simp only [hn2] at h; exact plain (by rw [hn2]; simpa using h)
  | _ => exact plain (by simpa using h)
 case pick c x y =>
  have hc := e c
  split at h
  ·rename_i hc2; cases h; rw [hc2] at hc
   cases hcv : a.eval c with
   | bool b => rw [hcv] at hc; cases hc; exact val _ _ _ (by simp [execOp, hcv, asBool]) (Out.refl hS) (e x)
   | _ => rw [hcv] at hc; cases hc
  ·rename_i hc2; cases h; rw [hc2] at hc
   cases hcv : a.eval c with
   | bool b => rw [hcv] at hc; cases hc; exact val _ _ _ (by simp [execOp, hcv, asBool]) (Out.refl hS) (e y)
   | _ => rw [hcv] at hc; cases hc
  ·cases h
 case alloc t =>
  cases hz : zeroT cx.P t with
  | none => simp [hz] at h
  | some z =>
   simp only [hz, Option.bind_some] at h
   split at h
   ·rename_i hc
    cases h
    obtain ⟨zv, hzv, hzr⟩ := jE hz
    have hr : VRel g w z zv := by rw [hzv]; exact iF zv
    refine val _ _ _ (by simp [execOp, uo (hzr w)]) (nB (hS.more _) (hS.open _) hr hc t).out (.ptr _ _ w.heap.size 0 z.cells.length (by simp [G.lay]))
   ·cases h
 case box t x =>
  split at h
  ·rename_i hc
   cases h
   refine val _ _ _ (by simp [execOp, yc]) (nB (hS.more _) (hS.open _) (e x) hc t).out (.ptr _ _ w.heap.size 0 (opnd ρ x).cells.length (by simp [G.lay]))
  ·cases h
 case build t parts =>
  refine looks _ _ h (by simp only [execOp]; rfl) (fun y hy => ?_)
  exact xq hy (by simpa using sR e parts.toList)
 case buildSlice t len parts =>
  cases he : elemT cx.P t with
  | none => simp [he] at h
  | some el =>
  cases hsz : sizeT cx.P el with
  | none => simp [he, hsz] at h
  | some sz =>
  simp only [he, hsz, Option.bind_some] at h
  split at h
  ·rename_i hc
   obtain ⟨h0, hr, hm, hz⟩ := hc
   cases ht : takeElems sz (parts.toList.map fun q => opnd ρ q.2) with
   | none => simp [ht] at h
   | some es =>
    simp only [ht, Option.map_some, Option.some.injEq] at h
    by_cases hl0 : len = 0
    ·simp only [hl0, if_true, Option.some.injEq, Prod.mk.injEq] at h
     obtain ⟨rfl, rfl⟩ := h
     obtain ⟨v', w', g', r1, r2, r3⟩ := ga (own := false) (hS.more (.tok 0)) (fun _ => by subst hl0; exact hS.open _) e he hsz h0 hr hm hz ht
     simp only [hl0, true_or, if_true] at r2 r3
     exact val _ _ _ (by simp only [execOp]; simp [r1]) r2.out r3
    ·simp only [hl0, if_false] at h
     cases hvc : cx.vec t pos with
     | true =>
      simp only [hvc, if_true, Prod.mk.injEq] at h
      obtain ⟨rfl, rfl⟩ := h
      obtain ⟨v', w', g', r1, r2, r3⟩ := ot (hS.more (.arr es 0)) e he hsz h0 hr hm hz ht (hS.open _)
      exact val _ _ _ (by simp only [execOp]; simp [r1]) r2.out r3
     | false =>
     simp only [hvc, Bool.false_eq_true, if_false] at h
     cases hw : cx.own t with
     | true =>
      simp only [hw, if_true, Prod.mk.injEq] at h
      obtain ⟨rfl, rfl⟩ := h
      obtain ⟨v', w', g', r1, r2, r3⟩ := ga (own := true) (hS.more (.tok len)) (fun _ => hS.open _) e he hsz h0 hr hm hz ht
      simp only [hl0, or_true, if_true, if_false] at r2 r3
      exact val _ _ _ (by simp only [execOp]; simp [r1]) r2.out r3
     | false =>
      simp only [hw, Bool.false_eq_true, if_false, Prod.mk.injEq] at h
      obtain ⟨rfl, rfl⟩ := h
      obtain ⟨v', w', g', r1, r2, r3⟩ := ga (own := false) hS (id := 0) (fun h => absurd h (by simp [hl0])) e he hsz h0 hr hm hz ht
      simp only [hl0, or_self, Bool.false_eq_true, if_false] at r2 r3
      exact val _ _ _ (by simp only [execOp]; simp [r1]) r2 r3
  ·cases h
 case load t x =>
  refine looks _ _ h (by simp only [execOp]) (fun y hy => sO hS hy (e x))
 case store t x y =>
  cases hs : storeV cx.P fx.bs t (opnd ρ x) (opnd ρ y) H with
  | none => simp [hs] at h
  | some H1 =>
   simp [hs] at h
   obtain ⟨rfl, rfl⟩ := h
   rw [hb] at hs
   obtain ⟨w', r1, r2⟩ := xt hS hs (e x) (e y)
   exact skp w' g (by simp [execOp, r1]) r2 rfl
 case nilCheck x =>
  have hx := e x
  split at h
  ·rename_i hx2; cases h; rw [hx2] at hx
   cases hcv : a.eval x with
   | pointer p => rw [hcv] at hx; have hx' := hx; cases hx; exact val _ _ _ (by simp [execOp, hcv]) (Out.refl hS) hx'
   | _ => rw [hcv] at hx; cases hx
  ·rename_i hx2; cases h; rw [hx2] at hx
   cases hcv : a.eval x with
   | pointer p => rw [hcv] at hx; have hx' := hx; cases hx; exact val _ _ _ (by simp [execOp, hcv]) (Out.refl hS) hx'
   | _ => rw [hcv] at hx; cases hx
  ·rename_i hx2; cases h; rw [hx2] at hx
   cases hcv : a.eval x with
   | pointer p => rw [hcv] at hx; have hx' := hx; cases hx; exact val _ _ _ (by simp [execOp, hcv]) (Out.refl hS) hx'
   | _ => rw [hcv] at hx; cases hx
  ·rename_i hx2; cases h; rw [hx2] at hx
   cases hcv : a.eval x with
   | func p q r => rw [hcv] at hx; have hx' := hx; cases hx; exact val _ _ _ (by simp [execOp, hcv]) (Out.refl hS) hx'
   | _ => rw [hcv] at hx; cases hx
  ·cases h
 case binOp op t x y ty =>
  refine looks _ _ h (by simp only [execOp]) (fun z hz => xv hz (e x) (e y) x y)
 case unOp op t x =>
  refine looks _ _ h (by simp only [execOp]) (fun z hz => yO hz (e x))
 case convert s d x =>
  refine looks _ _ h (by simp only [execOp]) (fun z hz => yP hz (e x))
 case makeFunc fn first caps =>
  cases fn <;> simp only at h <;> (try (cases h; done))
  rename_i f
  split at h
  ·rename_i h0
   cases h
   have hf : first = #[] := Array.eq_empty_of_size_eq_zero h0
   subst hf
   obtain ⟨h1, h2⟩ := nF e caps.toList
   refine val (.func (.func f) #[] (caps.map a.eval)) w g (by simp [execOp, Instr.makeFunc]) (Out.refl hS) (.func _ _ _ (by simp) (fun k x x' hx hx' => h2 k x x' hx (by simpa using hx')))
  ·cases h
 case makeMap t r =>
  cases r with
  | none =>
   simp at h
   obtain ⟨rfl, rfl⟩ := h
   obtain ⟨v', w', g', r1, r2, r3⟩ := pU (P := cx.P) (t := t) (hS.more _) (hS.open _)
   exact val _ _ _ (by simp [execOp, r1]) r2.out r3
  | some x => simp at h
 case makeSlice t l c =>
  cases he : elemT cx.P t with
  | none => simp [he] at h
  | some el =>
  cases hsz : sizeT cx.P el with
  | none => simp [he, hsz] at h
  | some sz =>
  cases hby : bytesT cx.P el with
  | none => simp [he, hsz, hby] at h
  | some by_ =>
  cases hz : zeroT cx.P el with
  | none => simp [he, hsz, hby, hz] at h
  | some z =>
  simp only [he, hsz, hby, hz, Option.bind_some] at h
  have hl := e l
  have hc := e c
  split at h
  ·rename_i k n k' m hl2 hc2
   rw [hl2] at hl; rw [hc2] at hc
   split at h
   ·rename_i hcond
    obtain ⟨rfl, h0, h1, h2, h3, h4, h5, h6⟩ := hcond
    cases h
    obtain ⟨v', w', g', r1, r2, r3⟩ := nD (P := cx.P) (t := t) (k := k) (k' := k') (hS.more _) (hS.open _) he hsz hby hz h0 h1 h2 h3 h4 h5
    cases hlv : a.eval l with
    | int kk nn =>
     cases hcv : a.eval c with
     | int kk2 nn2 =>
      rw [hlv] at hl; rw [hcv] at hc; cases hl; cases hc
      exact val _ _ _ (by simp [execOp, hlv, hcv, r1]) r2.out r3
     | _ => rw [hcv] at hc; cases hc
    | _ => rw [hlv] at hl; cases hl
   ·cases h
  ·cases h
 case slice t x lo hi mx =>
  cases mx with
  | some m => simp [sliceV] at h
  | none =>
   refine looks _ _ h (by simp only [execOp]; rfl) (fun z hz => ?_)
   exact xo (orelv e lo) (orelv e hi) hz (e x)
 case fieldAddr t x j =>
  refine looks _ _ h (by simp only [execOp]) (fun z hz => sQ hz (e x))
 case field t x j =>
  refine looks _ _ h (by simp only [execOp]) (fun z hz => xm hz (e x))
 case indexAddr t x i =>
  refine looks _ _ h (by simp only [execOp]) (fun z hz => sP hz (e x) (e i))
 case index t x i =>
  refine looks _ _ h (by simp only [execOp]) (fun z hz => xn hz (e x) (e i))
 case lookup t m k ok =>
  refine looks _ _ h (by simp only [execOp]) (fun z hz => vT hS hz (e m) (e k))
 case mapUpdate t m k x =>
  cases hs : mapUpdateV cx.P fx.bs t (opnd ρ m) (opnd ρ k) (opnd ρ x) H with
  | none => simp [hs] at h
  | some H1 =>
   simp [hs] at h
   obtain ⟨rfl, rfl⟩ := h
   rw [hb] at hs
   obtain ⟨w', r1, r2⟩ := sZ hS hs (e m) (e k) (e x)
   exact skp w' g (by simp [execOp, r1]) r2 rfl
 case extract x i =>
  split at h
  ·rename_i vs hx
   refine looks _ _ h (by simp only [execOp]) (fun z hz => vl hx hz (e x))
  ·cases h
 case call c =>
  cases hcal : c.callee with
  | builtin b =>
   simp only [hcal] at h
   obtain ⟨v', w', g', r1, r2, r3⟩ := vo type (c.args.map fun | .const _ => true | _ => false) h hS hE
   refine val v' w' g' ?_ r2 r3
   simp [execOp, resolve, hcal, invoke]
   exact r1
  | value f =>
   simp only [hcal] at h
   unfold evCallee at h
   cases hf : opnd ρ f with
   | func gf caps =>
    simp only [hf, Option.bind_some] at h
    rw [hb] at h
    obtain ⟨⟨fn, hfn, hbody, hname⟩, hcall⟩ := Ae hC h
    have hfr := e f
    rw [hf] at hfr
    cases hfv : a.eval f with
    | func fn' first captured =>
     rw [hfv] at hfr
     cases hfr with
     | func _ _ vs hs hr =>
      have hargs : ArgsR g w (c.args.toList.map (opnd ρ) ++ caps) ((c.args.map a.eval).toList ++ captured.toList) := by
       obtain ⟨h1, h2⟩ := nF e c.args.toList
       refine ⟨by simp [hs], fun j x x' hx hx' => ?_⟩
       by_cases hj : j < c.args.toList.length
       ·rw [List.getElem?_append_left (by simpa using hj)] at hx
        rw [List.getElem?_append_left (by simpa using hj)] at hx'
        exact h2 j x x' hx (by simpa using hx')
       ·rw [List.getElem?_append_right (by simpa using hj)] at hx
        rw [List.getElem?_append_right (by simpa using hj)] at hx'
        simp only [List.length_map] at hx
        simp only [Array.toList_map, List.length_map] at hx'
        exact hr _ x x' hx (by simpa using hx')
      have hexec : (execOp a.eval ⟨dst, .call c, type, pos, after, guard⟩).run cx.P w = .ok (.enter gf (((c.args.map a.eval).toList ++ captured.toList).toArray)) w := by
       have hb2 : fn.body.isNone = false := by cases hq : fn.body <;> simp [hq] at hbody ⊢
       simp only [execOp, resolve, hcal, Deferred.ofValue, hfv, Sem.run_bind, Sem.run_pure, Result.andThen_ok, invoke, callFunc, run_program, hfn]
       simp [hname, hb2]
      unfold Oper.wp
      rw [hexec]
      refine (hcall g w _ hS hargs).mono ?_
      rintro en w' ⟨v', g', rfl, r2, r3⟩
      exact hn v' w' g' r2 r3
    | _ => rw [hfv] at hfr; cases hfr
   | _ => simp [hf] at h
  | invoke r m => simp [hcal] at h
end
end Go.E
namespace Go.E
abbrev FR (r : Option Nat) : Fence := { Fence.wide with round := r }
theorem jU {r : Option Nat} {n : Nat} {P : Program} {f : FuncId} {args : Array Value} {w : World} {R : Ending → World → Prop} : CallsIn (FR r) n P f args w R ↔ Calls P f args w R :=
 (callsIn_wide (n := n) : CallsIn Fence.wide n P f args w R ↔ Calls P f args w R)
section
variable {r : Option Nat} {n : Nat} {P : Program} {a : Act} {w : World}
theorem mc {o : Oper} {next : Act → World → Prop} {Q : Exit → Act → World → Prop} (hd : ∀ c, o.op ≠ .defer c) (h : o.wp P a w next Q) : o.wpIn (FR r) n P a w next Q := by
 refine ⟨fun _ _ => trivial, ?_⟩
 rw [Oper.semAt_eq _ _ _ hd]
 unfold Oper.wp at h
 generalize (execOp a.eval o).run P w = x at *
 have hn : (FR r).depth.isSome = true → 1 ≤ n := fun h => by cases h
 cases x with
 | ok y w' =>
  cases y <;> simp only [Oper.upon, Oper.uponIn] at h ⊢ <;> first
   | exact h
   | exact h.elim
   | exact ⟨hn, jU.2 h⟩
   | exact ⟨hn, fun c cs _ => let ⟨v, w', q, s⟩ := h c cs; ⟨v, w', q, stepsIn_wide.2 s⟩⟩
 | halt y w' => cases y <;> simp only [Oper.upon, Oper.uponIn] at h ⊢ <;> first | exact h | exact h.elim
theorem iy {b : Frame} {k : List Item} {cs : List Frame} {c : Code} : step P (lone (b.atR a (.code (.scope c) :: k)) cs w) = .next (lone (b.atR a (.code c :: .inScope c :: k)) cs w) :=
 step_lone_go (by simp [stepG, stepG.exec, Frame.atR])
theorem vp {b : Frame} {k : List Item} {cs : List Frame} {c : Code} : step P (lone (b.atR a (.inScope c :: k)) cs w) = .next (lone (b.atR a k) cs w) :=
 step_lone_go (by simp [stepG, stepG.exec, Frame.atR])
theorem yS {F : Fence} {c : Code} {Q : Exit → Act → World → Prop} (h : c.wpIn F n P (Exit.noGoto Q) a w) : (Code.scope c).wpIn F n P Q a w := by
 intro b k cs hro hb hr
 have h0 : (lone (b.atR a (.code (.scope c) :: k)) cs w).fenced P F := fenced_calm hb hr rfl
 obtain ⟨e, a₁, w₁, hq, harr⟩ := h b (.inScope c :: k) cs hro hb hr
 cases e with
 | normal => exact ⟨.normal, a₁, w₁, hq, .head h0 iy (StepsIn.trans harr (.one (fenced_calm hb hr rfl) vp))⟩
 | exit id =>
  have hx : exitTo id (.inScope c :: k) = exitTo id k := by simp [exitTo]
  exact ⟨_, a₁, w₁, hq, fun k' hk => .head h0 iy (harr.1 k' (by rw [hx]; exact hk)),
   fun hr' hk => let ⟨k₁, h1, h2⟩ := harr.2 hr' (by rw [hx]; exact hk); ⟨k₁, h1, .head h0 iy h2⟩⟩
 | goto l => exact hq.elim
 | ret => exact ⟨_, a₁, w₁, hq, .of_steps (.one h0 iy) harr⟩
 | panic ch => exact ⟨_, a₁, w₁, hq, .of_steps (.one h0 iy) harr⟩
 | outgrown => exact ⟨_, a₁, w₁, hq, .of_steps (.one h0 iy) harr⟩
end
theorem jF (g : G) (w : World) : Ext g w g { w with drawn := w.drawn + 1 } := ⟨Nat.le_refl _, fun _ _ h => ⟨h, rfl⟩, fun _ l h => ⟨l, h, LocLe.refl l⟩, fun _ _ _ => ⟨rfl, fun _ => rfl⟩, rfl, rfl, rfl, Nat.le_succ _⟩
theorem Sim.drawn {bs : List Nat} {g : G} {w : World} {H : Heap} (hS : Sim bs g H w) : Sim bs g H { w with drawn := w.drawn + 1 } where
 bl := hS.bl
 srt := hS.srt
 dom := hS.dom
 old := hS.old
 obj id ob l h1 h2 := (hS.obj id ob l h1 h2).keep (jF g w) ⟨fun _ _ h => h, fun _ _ _ => ⟨rfl, rfl⟩, fun _ _ _ _ h => h⟩
 und := hS.und
section
variable {bs : List Nat} {g g' : G} {w w' : World} {H H' : Heap} {L : Nat} {o : Obj}
theorem Bears.refl (g : G) (w : World) : Bears g w g w := ⟨fun _ _ h => ⟨h, rfl⟩, fun _ l h => ⟨l, h, LocLe.refl l⟩⟩
theorem Bears.trans {g1 g2 : G} {w1 w2 : World} (h : Bears g w g1 w1) (k : Bears g1 w1 g2 w2) : Bears g w g2 w2 where
 imm b o e := ⟨(k.imm b o (h.imm b o e).1).1, ((k.imm b o (h.imm b o e).1).2).trans (h.imm b o e).2⟩
 loc id l e := by
  obtain ⟨l1, e1, h1⟩ := h.loc id l e
  obtain ⟨l2, e2, h2⟩ := k.loc id l1 e1
  exact ⟨l2, e2, h1.trans h2⟩
theorem Ext.bears (x : Ext g w g' w') : Bears g w g' w' := ⟨x.imm, x.loc⟩
theorem sg (hO : ∀ k, g.O L k = .none) {b k : Nat} (h : g.O b k ≠ .none) : (w.putObj L o).cell? ⟨b, k, none⟩ = w.cell? ⟨b, k, none⟩ ∧ (w.putObj L o).frozen? ⟨b, k, none⟩ = w.frozen? ⟨b, k, none⟩ := by
 have hne : b ≠ L := fun e => h (by rw [e]; exact hO k)
 exact ⟨World.cell?_of_block (World.putObj_heap_other hne), World.frozen?_of_block (World.putObj_heap_other hne)⟩
theorem nG (hO : ∀ k, g.O L k = .none) : Bears g w g (w.putObj L o) :=
 ⟨fun b k h => ⟨h, (sg hO (by rw [h]; simp)).1⟩, fun _ l h => ⟨l, h, LocLe.refl l⟩⟩
theorem Sim.putFree (hS : Sim bs g H w) (hO : ∀ k, g.O L k = .none) : Sim bs g H (w.putObj L o) where
 bl := hS.bl
 srt := hS.srt
 dom := hS.dom
 old b k h := by rw [World.putObj_size]; exact hS.old b k h
 obj id ob l h1 h2 := (hS.obj id ob l h1 h2).keepB (nG hO) ⟨fun _ _ h => h, fun b k h => sg hO (by rw [h]; simp), fun b es c h hb => by
  rw [World.putObj_heap_other (fun e => by subst e; rw [hO] at h; cases h)]; exact hb⟩
 und := hS.und
theorem Ext.putFree (x : Ext g w g' w') (hL : w.heap.size ≤ L) (hO : ∀ k, g'.O L k = .none) : Ext g w g' (w'.putObj L o) where
 size := by rw [World.putObj_size]; exact x.size
 imm b k h := ⟨(x.imm b k h).1, ((sg hO (by rw [(x.imm b k h).1]; simp)).1).trans (x.imm b k h).2⟩
 loc := x.loc
 free b hb hf := ⟨(World.putObj_heap_other (by omega)).trans (x.free b hb hf).1, (x.free b hb hf).2⟩
 os := x.os
 tape := x.tape
 output := x.output
 drawn := x.drawn
theorem Out.putFree (x : Out bs g w H g' w' H') (hL : w.heap.size ≤ L) (hO : ∀ k, g'.O L k = .none) : Out bs g w H g' (w'.putObj L o) H' :=
 ⟨x.sim.putFree hO, x.ext.putFree hL hO, x.len, x.dom⟩
theorem nH (hold : ∀ b k, g.O b k ≠ .none → b < w.heap.size) : Ext g w g (w.alloc o) where
 size := by simp
 imm b k h := ⟨h, World.cell?_of_block (Go.RowKit.Below.heap_alloc w o b (hold b k (by rw [h]; simp)))⟩
 loc _ l h := ⟨l, h, LocLe.refl l⟩
 free b hb _ := ⟨Go.RowKit.Below.heap_alloc w o b hb, fun _ => rfl⟩
 os := rfl
 tape := rfl
 output := rfl
 drawn := Nat.le_refl _
theorem Sim.allocFree (hS : Sim bs g H w) : Sim bs g H (w.alloc o) where
 bl := hS.bl
 srt := hS.srt
 dom := hS.dom
 old b k h := by have := hS.old b k h; simp; omega
 obj id ob l h1 h2 := (hS.obj id ob l h1 h2).keep (nH hS.old) ⟨fun _ _ h => h, fun b k h => by
  have := Go.RowKit.Below.heap_alloc w o b (hS.old b k (by rw [h]; simp))
  exact ⟨World.cell?_of_block this, World.frozen?_of_block this⟩, fun b es c h hb => by
  rw [Go.RowKit.Below.heap_alloc w o b (hS.old b 0 (by rw [h]; simp))]; exact hb⟩
 und := hS.und
theorem Ext.keepsFree (x : Ext g w g' w') {b : Nat} {o : Obj} (h : w.heap[b]? = some o) (hO : ∀ k, g.O b k = .none) : w'.heap[b]? = some o ∧ ∀ k, g'.O b k = .none := by
 obtain ⟨h1, h2⟩ := x.free b (Array.getElem?_eq_some_iff.1 h).1 (fun o id e => by rw [hO] at e; cases e)
 exact ⟨h1.trans h, fun k => (h2 k).trans (hO k)⟩
def ROk (r : Option Nat) (g : G) (w : World) : Prop := ∀ l, r = some l → ∃ rec, w.heap[l]? = some (.loop rec) ∧ ∀ k, g.O l k = .none
theorem ROk.mono {r : Option Nat} (x : Ext g w g' w') (h : ROk r g w) : ROk r g' w' := fun l hl => by
 obtain ⟨rec, h1, h2⟩ := h l hl
 exact ⟨rec, x.keepsFree h1 h2⟩
def mkD (D : Nat) : Deferred := { target := .collected D, args := #[] }
def MarkAt (g : G) (w : World) (D : Nat) : Prop := w.heap[D]? = some (.deferred (some [])) ∧ ∀ k, g.O D k = .none
def Mk (n0 : Nat) (g : G) (w : World) (old new : List Deferred) : Prop :=
 ∃ ms : List Nat, new = ms.map mkD ++ old ∧ ms.Nodup ∧ ∀ D ∈ ms, n0 ≤ D ∧ MarkAt g w D
theorem Mk.refl {n0 : Nat} {g : G} {w : World} {old new : List Deferred} (h : new = old) : Mk n0 g w old new := ⟨[], by simp [h], by simp, by simp⟩
theorem MarkAt.mono {D : Nat} (x : Ext g w g' w') (h : MarkAt g w D) : MarkAt g' w' D := x.keepsFree h.1 h.2
theorem MarkAt.put {D : Nat} (h : MarkAt g w D) (hne : D ≠ L) : MarkAt g (w.putObj L o) D := ⟨(World.putObj_heap_other hne).trans h.1, h.2⟩
theorem Mk.trans {n0 : Nat} {g1 g2 : G} {w1 w2 : World} {d0 d1 d2 : List Deferred} (h1 : Mk n0 g1 w1 d0 d1) (x : Ext g1 w1 g2 w2) (hn : n0 ≤ w1.heap.size) (h2 : Mk w1.heap.size g2 w2 d1 d2) : Mk n0 g2 w2 d0 d2 := by
 obtain ⟨m1, rfl, n1, k1⟩ := h1
 obtain ⟨m2, rfl, n2, k2⟩ := h2
 refine ⟨m2 ++ m1, by simp, ?_, fun D hD => ?_⟩
 ·refine List.nodup_append.2 ⟨n2, n1, fun a ha b hb e => ?_⟩
  subst e
  have := (k2 a ha).1
  have := (Array.getElem?_eq_some_iff.1 (k1 a hb).2.1).1
  omega
 ·rcases List.mem_append.1 hD with h | h
  ·exact ⟨Nat.le_trans hn (k2 D h).1, (k2 D h).2⟩
  ·exact ⟨(k1 D h).1, (k1 D h).2.mono x⟩
theorem mM {F : Fence} {n : Nat} {P : Program} {fn : Func} {tmps : Array Value} {R : Ending → World → Prop} {K : World → Prop} (hK : ∀ w, K w → LeavesIn F n P fn tmps R [] .returning w) :
  ∀ (ms : List Nat) (w : World), (∀ w D, D ∈ ms → K w → K (w.putObj D (.deferred none))) → ms.Nodup → (∀ D ∈ ms, w.heap[D]? = some (.deferred (some []))) → K w → LeavesInM F n P fn tmps R (ms.map mkD) .returning w
 | [], w, _, _, _, h => hK w h
 | D :: ms, w, hp, hn, hD, h => by
  refine ⟨by simp, .inl ⟨D, w.putObj D (.deferred none), rfl, run_takeDeferred (hD D (by simp)), ?_⟩⟩
  simp only [List.nodup_cons] at hn
  exact mM hK ms _ (fun w D' hD' => hp w D' (by simp [hD'])) hn.2 (fun D' hD' => by
   rw [World.putObj_heap_other (fun e => hn.1 (by rw [← e]; exact hD'))]; exact hD D' (by simp [hD'])) (hp w D (by simp) h)
end
structure ExtL (L : Nat) (g : G) (w : World) (g' : G) (w' : World) : Prop where
 bears : Bears g w g' w'
 size : w.heap.size ≤ w'.heap.size
 free : ∀ b, b ≠ L → b < w.heap.size → (∀ o id, g.O b o ≠ .res id) → w'.heap[b]? = w.heap[b]? ∧ ∀ o, g'.O b o = g.O b o
theorem Ext.toL {g g' : G} {w w' : World} (x : Ext g w g' w') (L : Nat) : ExtL L g w g' w' := ⟨x.bears, x.size, fun b _ hb hf => x.free b hb hf⟩
theorem ExtL.trans {L : Nat} {g g1 g2 : G} {w w1 w2 : World} (h : ExtL L g w g1 w1) (k : ExtL L g1 w1 g2 w2) : ExtL L g w g2 w2 where
 bears := h.bears.trans k.bears
 size := Nat.le_trans h.size k.size
 free b hL hb hf := by
  obtain ⟨e1, o1⟩ := h.free b hL hb hf
  obtain ⟨e2, o2⟩ := k.free b hL (Nat.lt_of_lt_of_le hb h.size) (fun o id => by rw [o1]; exact hf o id)
  exact ⟨e2.trans e1, fun o => (o2 o).trans (o1 o)⟩
theorem vV {L : Nat} {g : G} {w : World} {o : Obj} (hO : ∀ k, g.O L k = .none) : ExtL L g w g (w.putObj L o) :=
 ⟨nG hO, by rw [World.putObj_size]; exact Nat.le_refl _, fun b hL _ _ => ⟨World.putObj_heap_other hL, fun _ => rfl⟩⟩
def IterOk (cx : Cx) : Prop :=
 ∀ gf caps l, cx.iter gf caps = some l → (∃ fn, cx.P.funcs[gf]? = some fn ∧ fn.body.isSome = true ∧ fn.name ≠ "runtime.NumGoroutine") ∧
  ∀ (g : G) (w w1 : World) (caps' : List Value), ArgsR g w caps caps' → ∀ (L : Nat) (J : Nat → G → World → Prop) (Jx : World → Prop), L < w1.heap.size →
   (∀ k g' W, J k g' W → Bears g w g' W ∧ ∃ bs Hk, Sim bs g' Hk W ∧ ∀ g'' W', Out bs g' W Hk g'' W' Hk → J k g'' W') → (∀ W, Jx W → Jx { W with drawn := W.drawn + 1 }) →
   (∀ k args g' W args', l[k]? = some args → J k g' W → ArgsR g' W args args' →
    YieldAt Fence.wide 0 cx.P L args'.toArray W fun e W' => (e = .returned (.bool true) ∧ ∃ g'', J (k + 1) g'' W' ∧ ExtL L g' W g'' W') ∨ (e = .returned (.bool false) ∧ Jx W')) →
   J 0 g w1 → Calls cx.P gf (#[.func (.yield L) #[] #[]] ++ caps'.toArray) w1 fun e W' => (∃ v, e = .returned v) ∧ ((∃ g', J l.length g' W') ∨ Jx W')
def Nx (cx : Cx) : Prop :=
 ∀ gf caps l, cx.iter gf caps = some l → (∃ fn, cx.P.funcs[gf]? = some fn ∧ fn.body.isSome = true ∧ fn.name ≠ "runtime.NumGoroutine") ∧
  ∀ (g : G) (w w1 : World) (caps' : List Value), ArgsR g w caps caps' → ∀ (L : Nat) (J : Nat → World → Prop) (Jx : World → Prop),
   (∀ k W, J k W → ∃ g', Bears g w g' W) → (∀ k W, J k W → J k { W with drawn := W.drawn + 1 }) → (∀ W, Jx W → Jx { W with drawn := W.drawn + 1 }) →
   (∀ k args W args', l[k]? = some args → J k W → (∀ g', Bears g w g' W → ArgsR g' W args args') →
    YieldAt Fence.wide 0 cx.P L args'.toArray W fun e W' => (e = .returned (.bool true) ∧ J (k + 1) W') ∨ (e = .returned (.bool false) ∧ Jx W')) →
   J 0 w1 → Calls cx.P gf (#[.func (.yield L) #[] #[]] ++ caps'.toArray) w1 fun e W' => (∃ v, e = .returned v) ∧ (J l.length W' ∨ Jx W')
end Go.E
namespace Go.E
section
variable {cx : Cx} {g : G} {w : World} {bs : List Nat} {H : Heap} {call : CallSem} {ρ : Env} {a : Act} {r : Option Nat}
theorem jV {fx : Fx} {o : Oper} {z : V × Heap} (h : evOp cx fx call o ρ H = some z) (c : Call) : o.op ≠ .defer c := fun e => by
 unfold evOp at h; simp [e] at h
theorem iH {n : Nat} {ops : Array Oper} {o : Oper} {b : Bool} (h : wantedV ops o ρ = some b) (hE : ERel g w ρ a.tmps n) : Region.wanted o (yielded ops a.tmps) = b := by
 unfold wantedV at h
 unfold Region.wanted
 cases hg : o.guard with
 | none => simp [hg] at h; simp [h]
 | some p =>
  obtain ⟨j, want⟩ := p
  simp only [hg] at h
  simp only [yielded]
  cases hd : (ops[j]?).bind (·.dst) with
  | none => simp [hd] at h; simp [h]
  | some d =>
   simp only [hd] at h
   simp only [Option.bind_some]
   have hr := hE.rel d
   have hget : a.tmps.getD d Go.undef = (a.tmps[d]?).getD Go.undef := by simp [Array.getD_eq_getD_getElem?]
   split at h
   ·rename_i bb hb
    cases h
    rw [hb] at hr
    generalize hx : a.tmps.getD d Go.undef = x at hr
    cases hr
    rw [hget] at hx
    cases ht : a.tmps[d]? with
    | none => rw [ht] at hx; cases hx
    | some y => rw [ht] at hx; simp at hx; subst hx; simp
   ·rename_i hb
    cases h
    rw [hb] at hr
    generalize hx : a.tmps.getD d Go.undef = x at hr
    cases hr
    rw [hget] at hx
    cases ht : a.tmps[d]? with
    | none => simp
    | some y => rw [ht] at hx; simp at hx; subst hx; simp [Go.undef]
   ·cases h
theorem yi {fx : Fx} {o : Oper} {v : V} {v' : Value} {ρ' : Env} {H' H1 : Heap} (h : (match o.dst with | none => some (ρ, H1) | some d => if d < fx.n then some (ρ.put d v, H1) else none) = some (ρ', H')) (hE : ERel g w ρ a.tmps fx.n) (hv : VRel g w v v') :
  H' = H1 ∧ ERel g w ρ' (a.put o.dst v').tmps fx.n ∧ (a.put o.dst v').defers = a.defers := by
 cases hd : o.dst with
 | none => simp [hd] at h; obtain ⟨rfl, rfl⟩ := h; exact ⟨rfl, hE, rfl⟩
 | some d =>
  simp only [hd] at h
  split at h
  ·rename_i hlt; cases h; exact ⟨rfl, hE.put hlt hv, rfl⟩
  ·cases h
theorem Af {fx : Fx} (hb : fx.bs = bs) (hC : CallOk cx call) {ops : Array Oper} {i : Nat} {o : Oper} (hi : ops[i]? = some o) {ρ' : Env} {H' : Heap} (h : evOper cx fx call ops o ρ H = some (ρ', H'))
  (hS : Sim bs g H w) (hE : ERel g w ρ a.tmps fx.n) {K : Act → World → Prop} {Q : Exit → Act → World → Prop}
  (hn : ∀ a' w' g', Out bs g w H g' w' H' → ERel g' w' ρ' a'.tmps fx.n → a'.defers = a.defers → K a' w') : wpOpIn (FR r) 0 cx.P ops Q i K a w := by
 unfold evOper at h
 cases hw : wantedV ops o ρ with
 | none => simp [hw] at h
 | some b =>
  simp only [hw, Option.bind_some] at h
  unfold wpOpIn
  simp only [hi, iH hw hE]
  cases b with
  | true =>
   simp only [if_true] at h ⊢
   cases ho : evOp cx fx call o ρ H with
   | none => simp [ho] at h
   | some z =>
    obtain ⟨v, H1⟩ := z
    simp only [ho, Option.bind_some] at h
    refine mc (jV ho) (tR hb hC ho hS hE (fun v' w' g' o1 r1 => ?_))
    obtain ⟨rfl, h2, h3⟩ := yi h (hE.mono o1.ext) r1
    exact hn _ _ g' o1 h2 h3
  | false =>
   simp only [Bool.false_eq_true, if_false, Option.bind_some] at h ⊢
   obtain ⟨rfl, h2, h3⟩ := yi h hE .skip
   exact ⟨fun _ _ => trivial, hn _ _ g (Out.refl hS) h2 h3⟩
theorem vW {fx : Fx} (hb : fx.bs = bs) (hC : CallOk cx call) {ops : Array Oper} {Q : Exit → Act → World → Prop} : ∀ (l : List Oper) (i : Nat), (∀ (j : Nat) (o : Oper), l[j]? = some o → ops[i + j]? = some o) →
  ∀ (g : G) (w : World) (H : Heap) (ρ ρ' : Env) (H' : Heap) (a : Act), evOps cx fx call ops l ρ H = some (ρ', H') → Sim bs g H w → ERel g w ρ a.tmps fx.n →
   (∀ a' w' g', Out bs g w H g' w' H' → ERel g' w' ρ' a'.tmps fx.n → a'.defers = a.defers → Q .normal a' w') → wpOpsIn (FR r) 0 cx.P ops Q (List.range' i l.length) a w
 | [], i, _, g, w, H, ρ, ρ', H', a, h, hS, hE, hn => by
  simp [evOps] at h; obtain ⟨rfl, rfl⟩ := h
  exact hn a w g (Out.refl hS) hE rfl
 | o :: rest, i, hl, g, w, H, ρ, ρ', H', a, h, hS, hE, hn => by
  simp only [evOps] at h
  cases ho : evOper cx fx call ops o ρ H with
  | none => simp [ho] at h
  | some s =>
   obtain ⟨ρ1, H1⟩ := s
   simp only [ho, Option.bind_some] at h
   rw [List.length_cons, List.range'_succ, wpOpsIn_cons]
   refine Af hb hC (by simpa using hl 0 o rfl) ho hS hE (fun a1 w1 g1 o1 e1 d1 => ?_)
   refine vW hb hC rest (i + 1) (fun j o' hj => by have := hl (j + 1) o' (by simpa using hj); rwa [show i + (j + 1) = i + 1 + j by omega] at this) g1 w1 H1 ρ1 ρ' H' a1 h o1.sim e1 (fun a' w' g' o2 e2 d2 => ?_)
   exact hn a' w' g' (o1.trans o2) e2 (d2.trans d1)
theorem rI {fx : Fx} (hb : fx.bs = bs) (hC : CallOk cx call) {id : Nat} {ops : Array Oper} {Q : Exit → Act → World → Prop} {ρ' : Env} {H' : Heap} (h : evOps cx fx call ops ops.toList ρ H = some (ρ', H')) (hS : Sim bs g H w)
  (hE : ERel g w ρ a.tmps fx.n) (hn : ∀ a' w' g', Out bs g w H g' w' H' → ERel g' w' ρ' a'.tmps fx.n → a'.defers = a.defers → Q .normal a' w') : (Code.region id ops false).wpIn (FR r) 0 cx.P Q a w := by
 refine wpIn_region ?_
 have := vW (r := r) (Q := Q) hb hC ops.toList 0 (fun j o hj => by simpa using hj) g w H ρ ρ' H' a h hS hE hn
 rw [List.range_eq_range']
 simpa using this
end
end Go.E
namespace Go.E
def exOf : Ex → Exit
 | .normal => .normal
 | .exit id => .exit id
 | .ret => .ret
def DrawOk (cx : Cx) : Prop :=
 ∀ (r : Option Nat) (fx : Fx) (call : CallSem), CallOk cx call → ∀ (id : Nat) (ops : Array Oper) (Q : Exit → Act → World → Prop) (g : G) (w : World) (H H' : Heap) (ρ ρ' : Env) (a : Act),
  evDraw cx fx call ops ρ H = some (ρ', H') → Sim fx.bs g H w → ERel g w ρ a.tmps fx.n →
  (∀ a' w' g', Out fx.bs g w H g' w' H' → ERel g' w' ρ' a'.tmps fx.n → a'.defers = a.defers → Q .normal a' w') → (Code.region id ops true).wpIn (FR r) 0 cx.P Q a w
theorem ERel.bear {g g' : G} {w w' : World} {ρ : Env} {ts : Array Value} {n : Nat} (h : ERel g w ρ ts n) (x : Bears g w g' w') : ERel g' w' ρ ts n := ⟨h.size, fun i => (h.rel i).bear x⟩
theorem ta {g : G} {w : World} {n : Nat} : ∀ (ps : List Nat) (args : List V) (args' : List Value) (ρ ρ1 : Env) (ts : Array Value), putAll n ρ (ps.zip args) = some ρ1 → ERel g w ρ ts n → ArgsR g w args args' →
  ERel g w ρ1 ((ps.zip args').foldl (fun t (p : Nat × Value) => t.setIfInBounds p.1 p.2) ts) n
 | [], _, _, ρ, ρ1, ts, h, hE, _ => by simp [putAll] at h; subst h; exact hE
 | p :: ps, [], args', ρ, ρ1, ts, h, hE, hA => by
  have : args' = [] := List.eq_nil_of_length_eq_zero (by simpa using hA.1)
  subst this
  simp [putAll] at h; subst h; exact hE
 | p :: ps, x :: args, [], ρ, ρ1, ts, h, hE, hA => by have := hA.1; simp at this
 | p :: ps, x :: args, x' :: args', ρ, ρ1, ts, h, hE, hA => by
  simp only [List.zip_cons_cons, putAll] at h
  split at h
  ·rename_i hp
   exact ta ps args args' _ ρ1 _ h (hE.put hp (hA.2 0 x x' rfl rfl)) ⟨by have := hA.1; simpa using this, fun j y y' hy hy' => hA.2 (j + 1) y y' (by simpa using hy) (by simpa using hy')⟩
  ·cases h
def codeOf : Ex → Option Code
 | .normal => none
 | .exit id => some (.exit id)
 | .ret => some .ret
theorem Bt {P : Program} {bs : List Nat} {r : Option Nat} {g : G} {w : World} {H : Heap} (hS : Sim bs g H w) (hR : ROk r g w) (fn : FuncId) (tmps : Array Value) (ps : Array Tmp) (assign body : Code) :
  ∃ (L : Nat) (ms : List Nat) (D : Nat) (w1 : World), (Instr.enterLoop fn tmps ps assign body r).run P w = .ok (L, ms.map mkD) w1 ∧
   w1.heap[L]? = some (.loop { state := .ready, pending := none, fn, tmps, params := ps, assign, body, defers := D }) ∧ w.heap.size ≤ L ∧ (∀ j, g.O L j = .none) ∧ ms.Nodup ∧
   (∀ D ∈ ms, w.heap.size ≤ D ∧ D ≠ L ∧ MarkAt g w1 D) ∧ Sim bs g H w1 ∧ Ext g w g w1 := by
 have hnone : ∀ b, w.heap.size ≤ b → ∀ j, g.O b j = .none := fun b hb j => by
  cases h : g.O b j with
  | none => rfl
  | imm => have := hS.old b j (by rw [h]; simp); omega
  | res id => have := hS.old b j (by rw [h]; simp); omega
 cases r with
 | none =>
  refine ⟨w.heap.size + 1, [w.heap.size], w.heap.size, _, run_enterLoop_outer fn tmps ps assign body, ?_, by omega, hnone _ (by omega), by simp, fun D hD => ?_, hS.allocFree.allocFree, ?_⟩
  ·have := World.alloc_heap_new (w.alloc (.deferred (some []))) (.loop { state := .ready, pending := none, fn, tmps, params := ps, assign, body, defers := w.heap.size })
   rwa [World.size_alloc] at this
  ·simp only [List.mem_singleton] at hD
   subst hD
   exact ⟨Nat.le_refl _, by omega, (Go.RowKit.Below.heap_alloc _ _ _ (by simp)).trans (World.alloc_heap_new w _), hnone _ (Nat.le_refl _)⟩
  ·exact (nH hS.old).trans (nH (fun b k h => by have := hS.old b k h; simp; omega))
 | some l =>
  obtain ⟨rec, h1, h2⟩ := hR l rfl
  exact ⟨w.heap.size, [], rec.defers, _, run_enterLoop_inner h1 fn tmps ps assign body, World.alloc_heap_new w _, Nat.le_refl _, hnone _ (Nat.le_refl _), by simp, by simp, hS.allocFree, nH hS.old⟩
def SubOk (cx : Cx) (call : CallSem) (fx : Fx) (k : Nat) (c : Code) : Prop :=
 ∀ (r : Option Nat) (Q : Exit → Act → World → Prop) (g : G) (w : World) (H H' : Heap) (ρ ρ' : Env) (a : Act) (ex : Ex),
  evCode cx fx (loopn k) call c ρ H = some (ex, ρ', H') → Sim fx.bs g H w → ROk r g w → ERel g w ρ a.tmps fx.n →
  (∀ a' w' g', Out fx.bs g w H g' w' H' → ERel g' w' ρ' a'.tmps fx.n → Mk w.heap.size g' w' a.defers a'.defers → Q (exOf ex) a' w') → c.wpIn (FR r) 0 cx.P Q a w
theorem Bu {cx : Cx} {call : CallSem} {fx : Fx} {k : Nat} (hI : IterOk cx) {f : Operand} {ps : Array Tmp} {assign body : Code} (ihA : SubOk cx call fx k assign) (ihB : SubOk cx call fx k body)
  {r : Option Nat} {Q : Exit → Act → World → Prop} {g : G} {w : World} {H H' : Heap} {ρ ρ' : Env} {a : Act} {ex : Ex}
  (h : (match opnd ρ f with
   | .func gf caps => (cx.iter gf caps).bind fun l => (evRounds (evCode cx fx (loopn k) call assign) (evCode cx fx (loopn k) call body) fx.n ps.toList ρ l H).map fun z => (z.1, ρ, z.2)
   | _ => none) = some (ex, ρ', H')) (hS : Sim fx.bs g H w) (hR : ROk r g w) (hE : ERel g w ρ a.tmps fx.n)
  (hn : ∀ a' w' g', Out fx.bs g w H g' w' H' → ERel g' w' ρ' a'.tmps fx.n → Mk w.heap.size g' w' a.defers a'.defers → Q (exOf ex) a' w') : (Code.rangeFunc f ps assign body).wpIn (FR r) 0 cx.P Q a w := by
 have hf := hE.opnd f
 split at h
 case h_2 => cases h
 rename_i gf caps hop
 rw [hop] at hf
 cases hit : cx.iter gf caps with
 | none => simp [hit] at h
 | some l =>
 rw [hit] at h
 simp only [Option.bind_some] at h
 generalize hfA : evCode cx fx (loopn k) call assign = fA at h
 generalize hfB : evCode cx fx (loopn k) call body = fB at h
 cases hr : evRounds fA fB fx.n ps.toList ρ l H with
 | none => simp [hr] at h
 | some z =>
 obtain ⟨ex0, H0⟩ := z
 rw [hr] at h
 simp only [Option.map_some, Option.some.injEq, Prod.mk.injEq] at h
 obtain ⟨rfl, rfl, rfl⟩ := h
 obtain ⟨⟨gfn, hgf, hgb, hgn⟩, hiter⟩ := hI gf caps l hit
 generalize hev : a.eval f = fv at hf
 cases hf
 rename_i vs hvs hvr
 refine wpIn_rangeFunc (fun fn _ => ?_)
 obtain ⟨L, ms, D, w1, e1, e2, e3, e4, e5, e6, e7, e8⟩ := Bt (P := cx.P) hS hR fn a.tmps ps assign body
 have hcall : ∀ args w, (callFunc gf args).run cx.P w = .ok (.enter gf args) w := fun args w => by
  have hb2 : gfn.body.isNone = false := by cases hq : gfn.body <;> simp [hq] at hgb ⊢
  simp only [callFunc, run_program, Sem.run_bind, Result.andThen_ok, hgf]
  simp [hgn, hb2]
 refine ⟨L, ms.map mkD, w1, { target := .fn (.func gf) vs, args := #[.func (.yield L) #[] #[]] }, w1, gf, #[.func (.yield L) #[] #[]] ++ vs, w1, e1, ?_, fun _ _ => trivial, ?_, (fun h => by cases h), ?_⟩
 ·simp only [resolve, hev]; simp [go_sem]
 ·simp [invoke, go_sem, hcall]
 refine jU.2 ?_
 have hA : ArgsR g w caps vs.toList := ⟨by simpa using hvs, fun j x x' hx hx' => hvr j x x' hx (by simpa using hx')⟩
 let rec_ : LoopState → Option Code → Loop := fun st pe => { state := st, pending := pe, fn, tmps := a.tmps, params := ps, assign, body, defers := D }
 let J : Nat → G → World → Prop := fun j g' W => ∃ Hk, Out fx.bs g w H g' W Hk ∧ W.heap[L]? = some (.loop (rec_ .ready none)) ∧ (∀ i, g'.O L i = .none) ∧ (∀ D ∈ ms, MarkAt g' W D) ∧
  evRounds fA fB fx.n ps.toList ρ (l.drop j) Hk = some (ex0, H0)
 let Jx : World → Prop := fun W => ∃ g' c, Out fx.bs g w H g' W H0 ∧ W.heap[L]? = some (.loop (rec_ .done (some c))) ∧ (∀ i, g'.O L i = .none) ∧ (∀ D ∈ ms, MarkAt g' W D) ∧ codeOf ex0 = some c
 have hD1 : ∀ (g' : G) (W : World) (Hk : Heap), Out fx.bs g w H g' W Hk → Out fx.bs g w H g' { W with drawn := W.drawn + 1 } Hk := fun g' W Hk o => ⟨o.sim.drawn, o.ext.trans (jF g' W), o.len, o.dom⟩
 have hJ1 : ∀ j g' W, J j g' W → Bears g w g' W ∧ ∃ bs Hk, Sim bs g' Hk W ∧ ∀ g'' W', Out bs g' W Hk g'' W' Hk → J j g'' W' := fun j g' W ⟨Hk, o, k1, k2, k3, k4⟩ =>
  ⟨o.ext.bears, fx.bs, Hk, o.sim, fun g'' W' o2 => ⟨Hk, o.trans o2, (o2.ext.keepsFree k1 k2).1, (o2.ext.keepsFree k1 k2).2, fun D hD => (k3 D hD).mono o2.ext, k4⟩⟩
 have hJ3 : ∀ W, Jx W → Jx { W with drawn := W.drawn + 1 } := fun W ⟨g', c, o, k1, k2, k3, k4⟩ => ⟨g', c, hD1 g' W _ o, k1, k2, k3, k4⟩
 have hJ0 : J 0 g w1 := ⟨H, ⟨e7, e8, Nat.le_refl _, fun id => ⟨.inl, fun h => h.resolve_right (by omega)⟩⟩, e2, e4, fun D hD => (e6 D hD).2.2, by simpa using hr⟩
 have hY : ∀ j args g' W args', l[j]? = some args → J j g' W → ArgsR g' W args args' →
   YieldAt Fence.wide 0 cx.P L args'.toArray W fun e W' => (e = .returned (.bool true) ∧ ∃ g'', J (j + 1) g'' W' ∧ ExtL L g' W g'' W') ∨ (e = .returned (.bool false) ∧ Jx W') := by
  rintro j args g' W args' hj ⟨Hk, o, k1, k2, k3, k4⟩ hargs
  have hjl := (List.getElem?_eq_some_iff.1 hj)
  rw [List.drop_eq_getElem_cons hjl.1, hjl.2] at k4
  simp only [evRounds] at k4
  split at k4
  case isFalse => cases k4
  rename_i hlen
  cases hp : putAll fx.n ρ (ps.toList.zip args) with
  | none => simp [hp] at k4
  | some ρ1 =>
  simp only [hp, Option.bind_some] at k4
  have hsz : args'.toArray.size = ps.size := by have := hargs.1; simp only [List.size_toArray]; simpa [hlen] using this
  refine ⟨fn, _, assign, body, run_yield k1 hsz, ?_⟩
  have hE1 : ERel g' W ρ1 ((ps.zip args'.toArray).foldl (fun tmps (x : Nat × Value) => tmps.setIfInBounds x.1 x.2) a.tmps) fx.n := by
   have := ta ps.toList args args' ρ ρ1 a.tmps hp (hE.mono o.ext) hargs
   rw [← Array.foldl_toList]
   simpa using this
  have hRL : ROk (some L) g' W := fun l' hl' => by cases hl'; exact ⟨_, k1, k2⟩
  refine roundIn_of_wpIn (F := Fence.wide) trivial ?_
  cases hqA : fA ρ1 Hk with
  | none => simp [hqA] at k4
  | some zA =>
  obtain ⟨exA, ρ2, H2⟩ := zA
  rw [hqA] at k4
  cases exA with
  | exit id => simp at k4
  | ret => simp at k4
  | normal =>
  simp only at k4
  refine ihA (some L) _ g' W Hk H2 ρ1 ρ2 { tmps := _, defers := [] } .normal (by rw [hfA]; exact hqA) o.sim hRL hE1 (fun a2 W2 g2 o2 E2 _ => ?_)
  obtain ⟨q1, q2⟩ := o2.ext.keepsFree k1 k2
  refine ⟨_, run_beginRound q1 rfl, ?_⟩
  have hL2 : L < W2.heap.size := (Array.getElem?_eq_some_iff.1 q1).1
  have hb2 : (W2.putObj L (.loop { rec_ .ready none with state := .busy })).heap[L]? = some (.loop { rec_ .ready none with state := .busy }) := World.putObj_heap_same hL2
  cases hqB : fB ρ2 H2 with
  | none => simp [hqB] at k4
  | some zB =>
  obtain ⟨exB, ρ3, H3⟩ := zB
  rw [hqB] at k4
  refine ihB (some L) _ g2 _ H2 H3 ρ2 ρ3 a2 exB (by rw [hfB]; exact hqB) (o2.sim.putFree q2) (fun l' hl' => by cases hl'; exact ⟨_, hb2, q2⟩) (E2.bear (nG q2)) (fun a3 W3 g3 o3 _ _ => ?_)
  obtain ⟨p1, p2⟩ := o3.ext.keepsFree hb2 q2
  have hL3 : L < W3.heap.size := (Array.getElem?_eq_some_iff.1 p1).1
  have ow : Out fx.bs g w H g3 W3 H3 := by
   have oa : Out fx.bs g w H g2 (W2.putObj L (.loop { rec_ .ready none with state := .busy })) H2 := (o.trans o2).putFree e3 q2
   exact oa.trans o3
  have marks : ∀ ob, ∀ D ∈ ms, MarkAt g3 (W3.putObj L ob) D := fun ob D hD =>
   ((((k3 D hD).mono o2.ext).put (e6 D hD).2.1).mono o3.ext).put (e6 D hD).2.1
  have fin : ∀ jump, (Instr.endRound L jump).run cx.P W3 = .ok (.bool jump.isNone) (W3.putObj L (.loop (rec_ (if jump.isNone then .ready else .done) jump))) := fun jump => run_endRound jump p1
  cases exB with
  | normal =>
   simp only at k4
   exact ⟨_, _, fin none, .inl ⟨rfl, g3, ⟨H3, ow.putFree e3 p2, World.putObj_heap_same hL3, p2, marks _, k4⟩, (((o2.ext.toL L).trans (vV q2)).trans (o3.ext.toL L)).trans (vV p2)⟩⟩
  | exit id =>
   simp only [Option.some.injEq, Prod.mk.injEq] at k4
   obtain ⟨rfl, rfl⟩ := k4
   exact ⟨_, _, fin (some (.exit id)), .inr ⟨rfl, g3, _, ow.putFree e3 p2, World.putObj_heap_same hL3, p2, marks _, rfl⟩⟩
  | ret =>
   simp only [Option.some.injEq, Prod.mk.injEq] at k4
   obtain ⟨rfl, rfl⟩ := k4
   exact ⟨_, _, fin (some .ret), .inr ⟨rfl, g3, _, ow.putFree e3 p2, World.putObj_heap_same hL3, p2, marks _, rfl⟩⟩
 have key := hiter g w w1 vs.toList hA L J Jx (Array.getElem?_eq_some_iff.1 e2).1 hJ1 hJ3 hY hJ0
 have hvl : vs.toList.toArray = vs := by simp
 rw [hvl] at key
 refine key.mono ?_
 have mk : ∀ (g' : G) (W : World), (∀ D ∈ ms, MarkAt g' W D) → Mk w.heap.size g' W a.defers (ms.map mkD ++ a.defers) := fun g' W hM => ⟨ms, rfl, e5, fun D hD => ⟨(e6 D hD).1, hM D hD⟩⟩
 rintro e W2 ⟨⟨v, rfl⟩, ⟨g', Hk, o, k1, k2, k3, k4⟩ | ⟨g', c, o, k1, k2, k3, k4⟩⟩
 ·simp only [List.drop_length, evRounds, Option.some.injEq, Prod.mk.injEq] at k4
  obtain ⟨rfl, rfl⟩ := k4
  refine ⟨none, _, run_endLoop k1 (by simp [rec_]), ?_⟩
  refine hn { a with defers := ms.map mkD ++ a.defers } _ g' (o.putFree e3 k2) (hE.bear (o.putFree e3 k2).ext.bears) (mk g' _ fun D hD => (k3 D hD).put (e6 D hD).2.1)
 ·refine ⟨some c, _, run_endLoop k1 (by simp [rec_]), ?_⟩
  have := hn { a with defers := ms.map mkD ++ a.defers } (W2.putObj L (.loop { rec_ .done (some c) with state := .exhausted })) g' (o.putFree e3 k2) (hE.bear (o.putFree e3 k2).ext.bears) (mk g' _ fun D hD => (k3 D hD).put (e6 D hD).2.1)
  cases ex0 with
  | normal => simp [codeOf] at k4
  | exit id => simp [codeOf] at k4; subst k4; exact wpIn_exit this
  | ret => simp [codeOf] at k4; subst k4; exact wpIn_ret this
section
variable {cx : Cx} {call : CallSem} {fx : Fx}
theorem ux (hC : CallOk cx call) (hD : DrawOk cx) (hI : IterOk cx) (k : Nat) : ∀ (c : Code) (r : Option Nat) (Q : Exit → Act → World → Prop) (g : G) (w : World) (H H' : Heap) (ρ ρ' : Env) (a : Act) (ex : Ex),
  evCode cx fx (loopn k) call c ρ H = some (ex, ρ', H') → Sim fx.bs g H w → ROk r g w → ERel g w ρ a.tmps fx.n →
  (∀ a' w' g', Out fx.bs g w H g' w' H' → ERel g' w' ρ' a'.tmps fx.n → Mk w.heap.size g' w' a.defers a'.defers → Q (exOf ex) a' w') → c.wpIn (FR r) 0 cx.P Q a w := by
 intro c
 induction c with
 | skip =>
  intro r Q g w H H' ρ ρ' a ex h hS hR hE hn
  simp [evCode] at h; obtain ⟨rfl, rfl, rfl⟩ := h
  exact wpIn_skip (hn a w g (Out.refl hS) hE (Mk.refl rfl))
 | label l =>
  intro r Q g w H H' ρ ρ' a ex h hS hR hE hn
  simp [evCode] at h; obtain ⟨rfl, rfl, rfl⟩ := h
  exact wpIn_label (hn a w g (Out.refl hS) hE (Mk.refl rfl))
 | region id ops draw =>
  intro r Q g w H H' ρ ρ' a ex h hS hR hE hn
  simp only [evCode] at h
  cases draw with
  | false =>
   simp only [Bool.false_eq_true, if_false] at h
   cases ho : evOps cx fx call ops ops.toList ρ H with
   | none => simp [ho] at h
   | some s => simp [ho] at h; obtain ⟨rfl, rfl, rfl⟩ := h; exact rI rfl hC ho hS hE (fun a' w' g' o e d => hn a' w' g' o e (Mk.refl d))
  | true =>
   simp only [if_true] at h
   cases ho : evDraw cx fx call ops ρ H with
   | none => simp [ho] at h
   | some s => simp [ho] at h; obtain ⟨rfl, rfl, rfl⟩ := h; exact hD r fx call hC id ops Q g w H _ ρ _ a ho hS hE (fun a' w' g' o e d => hn a' w' g' o e (Mk.refl d))
 | seq x y ihx ihy =>
  intro r Q g w H H' ρ ρ' a ex h hS hR hE hn
  simp only [evCode] at h
  refine wpIn_seq ?_
  cases hx : evCode cx fx (loopn k) call x ρ H with
  | none => simp [hx] at h
  | some r =>
   obtain ⟨e1, ρ1, H1⟩ := r
   rw [hx] at h
   cases e1 with
   | normal =>
    simp only at h
    exact ihx r _ g w H H1 ρ ρ1 a .normal hx hS hR hE (fun a1 w1 g1 o1 e1 d1 => ihy r _ g1 w1 H1 H' ρ1 ρ' a1 ex h o1.sim (hR.mono o1.ext) e1 (fun a2 w2 g2 o2 e2 d2 => hn a2 w2 g2 (o1.trans o2) e2 (d1.trans o2.ext o1.ext.size d2)))
   | exit id =>
    simp only [Option.some.injEq, Prod.mk.injEq] at h
    obtain ⟨rfl, rfl, rfl⟩ := h
    exact ihx r _ g w H H1 ρ ρ1 a _ hx hS hR hE (fun a1 w1 g1 o1 e1 d1 => hn a1 w1 g1 o1 e1 d1)
   | ret =>
    simp only [Option.some.injEq, Prod.mk.injEq] at h
    obtain ⟨rfl, rfl, rfl⟩ := h
    exact ihx r _ g w H H1 ρ ρ1 a _ hx hS hR hE (fun a1 w1 g1 o1 e1 d1 => hn a1 w1 g1 o1 e1 d1)
 | cond o x y ihx ihy =>
  intro r Q g w H H' ρ ρ' a ex h hS hR hE hn
  simp only [evCode] at h
  have ho := hE.opnd o
  split at h
  ·rename_i hb; rw [hb] at ho
   have : a.eval o = .bool true := by generalize a.eval o = z at ho; cases ho; rfl
   exact wpIn_cond_true this (ihx r Q g w H H' ρ ρ' a ex h hS hR hE hn)
  ·rename_i hb; rw [hb] at ho
   have : a.eval o = .bool false := by generalize a.eval o = z at ho; cases ho; rfl
   exact wpIn_cond_false this (ihy r Q g w H H' ρ ρ' a ex h hS hR hE hn)
  ·cases h
 | block id x ih =>
  intro r Q g w H H' ρ ρ' a ex h hS hR hE hn
  simp only [evCode] at h
  refine wpIn_block ?_
  cases hx : evCode cx fx (loopn k) call x ρ H with
  | none => simp [hx] at h
  | some r =>
   obtain ⟨e1, ρ1, H1⟩ := r
   rw [hx] at h
   cases e1 with
   | normal =>
    simp only [Option.some.injEq, Prod.mk.injEq] at h
    obtain ⟨rfl, rfl, rfl⟩ := h
    exact ih r _ g w H H1 ρ ρ1 a _ hx hS hR hE (fun a1 w1 g1 o1 e1 d1 => hn a1 w1 g1 o1 e1 d1)
   | exit id' =>
    simp only [Option.some.injEq, Prod.mk.injEq] at h
    obtain ⟨rfl, rfl, rfl⟩ := h
    refine ih r _ g w H H1 ρ ρ1 a _ hx hS hR hE (fun a1 w1 g1 o1 e1 d1 => ?_)
    have := hn a1 w1 g1 o1 e1 d1
    by_cases hid : id' = id
    ·simpa [exOf, Exit.inBlock, hid] using this
    ·simpa [exOf, Exit.inBlock, hid] using this
   | ret =>
    simp only [Option.some.injEq, Prod.mk.injEq] at h
    obtain ⟨rfl, rfl, rfl⟩ := h
    exact ih r _ g w H H1 ρ ρ1 a _ hx hS hR hE (fun a1 w1 g1 o1 e1 d1 => hn a1 w1 g1 o1 e1 d1)
 | loop x ih =>
  intro r Q g w H H' ρ ρ' a ex h hS hR hE hn
  simp only [evCode] at h
  have key : ∀ (m : Nat) (g : G) (w : World) (H : Heap) (ρ : Env) (a : Act), loopn m (evCode cx fx (loopn k) call x) ρ H = some (ex, ρ', H') → Sim fx.bs g H w → ROk r g w → ERel g w ρ a.tmps fx.n →
    (∀ a' w' g', Out fx.bs g w H g' w' H' → ERel g' w' ρ' a'.tmps fx.n → Mk w.heap.size g' w' a.defers a'.defers → Q (exOf ex) a' w') → Code.roundsIn (FR r) 0 cx.P x Q m a w := by
   intro m
   induction m with
   | zero => intro g w H ρ a h; simp [loopn] at h
   | succ m ihm =>
    intro g w H ρ a h hS hR hE hn
    simp only [loopn] at h
    rw [roundsIn_succ]
    cases hx : evCode cx fx (loopn k) call x ρ H with
    | none => simp [hx] at h
    | some r =>
     obtain ⟨e1, ρ1, H1⟩ := r
     rw [hx] at h
     cases e1 with
     | normal =>
      simp only at h
      exact ih r _ g w H H1 ρ ρ1 a .normal hx hS hR hE (fun a1 w1 g1 o1 e1 d1 => ihm g1 w1 H1 ρ1 a1 h o1.sim (hR.mono o1.ext) e1 (fun a2 w2 g2 o2 e2 d2 => hn a2 w2 g2 (o1.trans o2) e2 (d1.trans o2.ext o1.ext.size d2)))
     | exit id =>
      simp only [Option.some.injEq, Prod.mk.injEq] at h
      obtain ⟨rfl, rfl, rfl⟩ := h
      exact ih r _ g w H H1 ρ ρ1 a _ hx hS hR hE (fun a1 w1 g1 o1 e1 d1 => hn a1 w1 g1 o1 e1 d1)
     | ret =>
      simp only [Option.some.injEq, Prod.mk.injEq] at h
      obtain ⟨rfl, rfl, rfl⟩ := h
      exact ih r _ g w H H1 ρ ρ1 a _ hx hS hR hE (fun a1 w1 g1 o1 e1 d1 => hn a1 w1 g1 o1 e1 d1)
  exact wpIn_loop_rounds k (key k g w H ρ a h hS hR hE hn)
 | exit id =>
  intro r Q g w H H' ρ ρ' a ex h hS hR hE hn
  simp [evCode] at h; obtain ⟨rfl, rfl, rfl⟩ := h
  exact wpIn_exit (hn a w g (Out.refl hS) hE (Mk.refl rfl))
 | ret =>
  intro r Q g w H H' ρ ρ' a ex h hS hR hE hn
  simp [evCode] at h; obtain ⟨rfl, rfl, rfl⟩ := h
  exact wpIn_ret (hn a w g (Out.refl hS) hE (Mk.refl rfl))
 | scope x ih =>
  intro r Q g w H H' ρ ρ' a ex h hS hR hE hn
  simp only [evCode] at h
  refine yS (ih r _ g w H H' ρ ρ' a ex h hS hR hE (fun a1 w1 g1 o1 e1 d1 => ?_))
  have := hn a1 w1 g1 o1 e1 d1
  cases ex <;> exact this
 | rangeFunc f ps assign body ihA ihB =>
  intro r Q g w H H' ρ ρ' a ex h hS hR hE hn
  simp only [evCode] at h
  exact Bu hI ihA ihB h hS hR hE hn
 | goto l => intro r Q g w H H' ρ ρ' a ex h; simp [evCode] at h
 | refuse why => intro r Q g w H H' ρ ρ' a ex h; simp [evCode] at h
end
end Go.E
namespace Go.E
section
variable {P : Program} {g : G} {w : World} {bs : List Nat} {H : Heap}
mutual
theorem md (n : Nat) : ∀ v : V, v.pure = true → v.under n = true
 | .int .., _ | .bool _, _ | .str _, _ | .nilS, _ | .nilP, _ | .nilF, _ | .nilM, _ | .nilI, _ => rfl
 | .list _, _ => rfl
 | .agg cs, h => kR n cs h
 | .eptr cs _, h => kR n cs h
 | .func _ caps, h => kR n caps h
 | .tl .., h | .ref .., h | .ptr .., h | .aptr .., h | .map _, h | .tuple _, h | .undef, h | .skip, h => by simp [V.pure] at h
theorem kR (n : Nat) : ∀ l : List V, V.pureL l = true → V.underL n l = true
 | [], _ => rfl
 | v :: r, h => by
  simp only [V.pureL, Bool.and_eq_true] at h
  simp only [V.underL, Bool.and_eq_true]
  exact ⟨md n v h.1, kR n r h.2⟩
end
theorem qx {l : List V} {k : Nat} {v : V} (h : V.pureL l = true) (hk : l[k]? = some v) : v.pure = true := by
 induction l generalizing k with
 | nil => simp at hk
 | cons x r ih =>
  simp only [V.pureL, Bool.and_eq_true] at h
  cases k with
  | zero => simp at hk; subst hk; exact h.1
  | succ k => simp at hk; exact ih h.2 hk
theorem hU {n : Nat} {l : List V} {k : Nat} {v : V} (h : V.underL n l = true) (hk : l[k]? = some v) : v.under n = true :=
 mb h (List.mem_of_getElem? hk)
theorem VRel.under {n : Nat} (hn : ∀ id, g.φ id ≠ none → id < n) {v : V} {v' : Value} (h : VRel g w v v') : v.under n = true := by
 have lt : ∀ {id l}, g.φ id = some l → id < n := fun h => hn _ (by rw [h]; simp)
 have all : ∀ {cs : List V} {vs : Array Value}, vs.size = cs.length → (∀ (k : Nat) (v : V) (v' : Value), cs[k]? = some v → vs[k]? = some v' → v.under n = true) → V.underL n cs = true := fun hs ih => by
  refine gU (fun v hv => ?_)
  obtain ⟨k, hk⟩ := List.getElem?_of_mem hv
  obtain ⟨hlt, _⟩ := List.getElem?_eq_some_iff.1 hk
  exact ih k v _ hk (by rw [Array.getElem?_eq_getElem (by omega)])
 induction h with
 | tl t es v' base s cap n' h ht hn' hcur ih => simpa [V.under] using lt ht
 | ref _ _ _ _ _ _ _ _ _ _ _ _ _ h => simpa [V.under] using lt h
 | ptr _ _ _ _ _ h => simpa [V.under] using lt h
 | aptr _ _ _ _ _ _ _ _ _ _ _ h => simpa [V.under] using lt h
 | map _ _ h => simpa [V.under] using lt h
 | agg cs vs hs hr ih => exact all hs ih
 | func f cs vs hs hr ih => exact all hs ih
 | tuple cs vs hs hr ih => exact all hs ih
 | eptr cs off b o c hO hc hr ih =>
  refine gU (fun v hv => ?_)
  obtain ⟨k, hk⟩ := List.getElem?_of_mem hv
  exact ih k v hk
 | _ => rfl
theorem ORel.under {n id : Nat} (hn : ∀ id, g.φ id ≠ none → id < n) {ob : HObj} {l : Loc} (h : ORel g w id ob l) : objUnder n ob = true := by
 cases h with
 | cells cs b o h hc =>
  refine gU (fun v hv => ?_)
  obtain ⟨k, hk⟩ := List.getElem?_of_mem hv
  obtain ⟨v', _, r⟩ := hc k v hk
  exact r.under hn
 | arr es b o s ext ver hext hs h hc =>
  refine gU (fun e he => ?_)
  obtain ⟨j, hj⟩ := List.getElem?_of_mem he
  have : V.underL n e.cells = true := gU (fun v hv => by
   obtain ⟨k, hk⟩ := List.getElem?_of_mem hv
   obtain ⟨v', _, r⟩ := hc j e k v hj hk
   exact r.under hn)
  cases e <;> first | exact this | simpa [V.cells, V.underL] using this
 | tokNil => rfl
 | tok => rfl
 | map es b clock es' ho hb hs hr =>
  refine List.all_eq_true.2 (fun kv hkv => ?_)
  obtain ⟨k, hk⟩ := List.getElem?_of_mem hkv
  obtain ⟨hlt, _⟩ := List.getElem?_eq_some_iff.1 hk
  obtain ⟨r1, r2⟩ := hr k kv _ hk (by rw [Array.getElem?_eq_getElem (by omega)])
  simp [r1.under hn, r2.under hn]
def G.cut (g : G) (n0 : Nat) : G :=
  { O := fun b o => match g.O b o with | .res id => if id < n0 then .res id else .imm | x => x
    φ := fun id => if id < n0 then g.φ id else none }
theorem re {n0 b o : Nat} (h : g.O b o = .imm) : (g.cut n0).O b o = .imm := by simp [G.cut, h]
theorem yj {n0 b o id : Nat} (h : g.O b o = .res id) (hi : n0 ≤ id) : (g.cut n0).O b o = .imm := by simp [G.cut, h, show ¬ id < n0 by omega]
theorem me {n0 b o id : Nat} (h : g.O b o = .res id) (hi : id < n0) : (g.cut n0).O b o = .res id := by simp [G.cut, h, hi]
theorem my {n0 id : Nat} {l : Loc} (h : g.φ id = some l) (hi : id < n0) : (g.cut n0).φ id = some l := by simp [G.cut, h, hi]
theorem VRel.cut {n0 : Nat} {v : V} {v' : Value} (h : VRel g w v v') : v.under n0 = true → VRel (g.cut n0) w v v' := by
 induction h with
 | int => exact fun _ => .int _ _
 | yld => exact fun _ => .yld _
 | bool => exact fun _ => .bool _
 | str => exact fun _ => .str _
 | nilS => exact fun _ => .nilS
 | nilP => exact fun _ => .nilP
 | nilF => exact fun _ => .nilF
 | nilM => exact fun _ => .nilM
 | nilI => exact fun _ => .nilI
 | undef v => exact fun _ => .undef v
 | skip => exact fun _ => .skip
 | listNil => exact fun _ => .listNil
 | listZ a => exact fun _ => .listZ a
 | list b o cap s es c hlen hpure hs hO hc hr ih =>
  refine fun _ => .list b o cap s es c hlen hpure hs (fun j i hj hi => re (hO j i hj hi)) hc (fun j e i v he hv => ih j e i v he hv ?_)
  have := qx hpure he
  refine md _ _ (?_ : v.pure = true)
  cases e <;> simp only [V.cells] at hv <;> (try (cases i <;> simp at hv; subst hv; exact this))
  exact qx this hv
 | tl t es v' base s cap n h ht hn hcur ih => exact fun hu => .tl t es v' base s cap n (ih rfl) (my ht (by simpa [V.under] using hu)) hn hcur
 | ref s id ver off len cap b o s' ext ver' b' o' h hv hlen hcur => exact fun hu => .ref s id ver off len cap b o s' ext ver' b' o' (my h (by simpa [V.under] using hu)) hv hlen hcur
 | agg cs vs hs hr ih => exact fun hu => .agg cs vs hs (fun k v v' h1 h2 => ih k v v' h1 h2 (hU (by simpa [V.under] using hu) h1))
 | eptr cs off b o c hO hc hr ih => exact fun hu => .eptr cs off b o c (fun i hi => re (hO i hi)) hc (fun i v hv => ih i v hv (hU (by simpa [V.under] using hu) hv))
 | ptr id off b o n h => exact fun hu => .ptr id off b o n (my h (by simpa [V.under] using hu))
 | aptr id ver i off b o s ext ver' b' o' h hv hcur => exact fun hu => .aptr id ver i off b o s ext ver' b' o' (my h (by simpa [V.under] using hu)) hv hcur
 | func f cs vs hs hr ih => exact fun hu => .func f cs vs hs (fun k v v' h1 h2 => ih k v v' h1 h2 (hU (by simpa [V.under] using hu) h1))
 | map id b h => exact fun hu => .map id b (my h (by simpa [V.under] using hu))
 | tuple cs vs hs hr ih => exact fun hu => .tuple cs vs hs (fun k v v' h1 h2 => ih k v v' h1 h2 (hU (by simpa [V.under] using hu) h1))
theorem ORel.cut {n0 id : Nat} {ob : HObj} {l : Loc} (h : ORel g w id ob l) (hi : id < n0) (hu : objUnder n0 ob = true) : ORel (g.cut n0) w id ob l := by
 cases h with
 | cells cs b o h hc =>
  refine .cells cs b o (fun k hk => ⟨me (h k hk).1 hi, (h k hk).2⟩) (fun k v hv => ?_)
  obtain ⟨v', e, r⟩ := hc k v hv
  exact ⟨v', e, r.cut (hU hu hv)⟩
 | arr es b o s ext ver hext hs h hc =>
  refine .arr es b o s ext ver hext hs (fun k hk => ⟨me (h k hk).1 hi, (h k hk).2⟩) (fun j e i v he hv => ?_)
  obtain ⟨v', e1, r⟩ := hc j e i v he hv
  exact ⟨v', e1, r.cut (hU (kQ (hU hu he)) hv)⟩
 | tokNil s => exact .tokNil s
 | tok n b o s cap hcap h0 h => exact .tok n b o s cap hcap h0 (fun k h1 h2 => ⟨me (h k h1 h2).1 hi, (h k h1 h2).2⟩)
 | map es b clock es' ho hb hs hr =>
  refine .map es b clock es' (me ho hi) hb hs (fun k kv e h1 h2 => ?_)
  have := List.all_eq_true.1 hu kv (List.mem_of_getElem? h1)
  simp only [Bool.and_eq_true] at this
  exact ⟨(hr k kv e h1 h2).1.cut this.1, (hr k kv e h1 h2).2.cut this.2⟩
theorem ia {α β : Type} {f : α → Option β} : ∀ {l : List α} {r : List β}, l.mapM f = some r → r.length = l.length ∧ (∀ (k : Nat) (b : β), r[k]? = some b → ∃ a, l[k]? = some a ∧ f a = some b) ∧ ∀ (k : Nat) (a : α), l[k]? = some a → ∃ b, r[k]? = some b ∧ f a = some b
 | [], r, h => by simp at h; subst h; simp
 | a :: l, r, h => by
  simp only [List.mapM_cons] at h
  cases h1 : f a with
  | none => simp [h1] at h
  | some b =>
   cases h2 : l.mapM f with
   | none => simp [h1, h2] at h
   | some r2 =>
    simp [h1, h2] at h; subst h
    obtain ⟨i1, i2, i3⟩ := ia h2
    refine ⟨by simp [i1], fun k b2 hk => ?_, fun k a2 hk => ?_⟩
    ·cases k with
     | zero => simp at hk; subst hk; exact ⟨a, rfl, h1⟩
     | succ k => simp at hk; simpa using i2 k b2 hk
    ·cases k with
     | zero => simp at hk; subst hk; exact ⟨b, rfl, h1⟩
     | succ k => simp at hk; simpa using i3 k a2 hk
theorem uy {n0 : Nat} {H : Heap} {d : Nat} {v u : V} (h : frz d n0 H v = some u) :
  u.cells.length = v.cells.length ∧ ∀ (i : Nat) (x : V), v.cells[i]? = some x → ∃ d' y, d' ≤ d ∧ u.cells[i]? = some y ∧ frz d' n0 H x = some y := by
 have one : (∀ cs, v ≠ .agg cs) → (∀ cs, u ≠ .agg cs) → u.cells.length = v.cells.length ∧ ∀ (i : Nat) (x : V), v.cells[i]? = some x → ∃ d' y, d' ≤ d ∧ u.cells[i]? = some y ∧ frz d' n0 H x = some y := by
  intro h1 h2
  have e1 : v.cells = [v] := by cases v <;> first | rfl | exact absurd rfl (h1 _)
  have e2 : u.cells = [u] := by cases u <;> first | rfl | exact absurd rfl (h2 _)
  rw [e1, e2]
  refine ⟨rfl, fun i x hx => ?_⟩
  cases i with
  | zero => simp at hx; subst hx; exact ⟨d, u, Nat.le_refl _, rfl, h⟩
  | succ i => simp at hx
 have nb : ∀ (cs : List V) (x : Option (List V)), (x.bind fun l => if V.pureL l = true then some (V.list l) else none) ≠ some (.agg cs) := by
  intro cs x hx
  cases x <;> simp at hx
 cases d with
 | zero => simp [frz] at h
 | succ d =>
  by_cases hp : v.pure = true
  ·have : u = v := by unfold frz at h; rw [if_pos hp] at h; exact (Option.some.inj h).symm
   subst this
   refine ⟨rfl, fun i x hx => ⟨d + 1, x, Nat.le_refl _, hx, ?_⟩⟩
   have hx2 : x.pure = true := by
    cases u <;> simp only [V.cells] at hx <;> (try (cases i <;> simp at hx; subst hx; exact hp))
    exact qx (by simpa [V.pure] using hp) hx
   unfold frz; rw [if_pos hx2]
  ·unfold frz at h
   rw [if_neg hp] at h
   cases v <;> simp only at h <;> (try (cases h; done))
   case agg cs =>
    cases hm : cs.mapM (frz d n0 H) with
    | none => simp [hm] at h
    | some l =>
     simp [hm] at h; subst h
     obtain ⟨i1, i2, i3⟩ := ia hm
     refine ⟨i1, fun i x hx => ?_⟩
     obtain ⟨y, e1, e2⟩ := i3 i x hx
     exact ⟨d, y, by omega, e1, e2⟩
   all_goals
    refine one (fun cs => by simp) (fun cs hc => ?_)
    subst hc
    first
     | (simp at h; done)
     | (split at h <;> (try (simp at h; done)) <;> split at h <;> (try (simp at h; done)) <;> split at h <;> (try (simp at h; done)) <;> exact nb cs _ h)
     | (split at h <;> (try (simp at h; done)) <;> split at h <;> simp at h)
     | (split at h <;> simp at h)
theorem uz {n0 : Nat} (hS : Sim bs g H w) : ∀ (d : Nat) (v u : V) (v' : Value), frz d n0 H v = some u → VRel g w v v' → VRel (g.cut n0) w u v'
 | 0, v, u, v', h, _ => by simp [frz] at h
 | d + 1, v, u, v', h, r => by
  have ih : ∀ d' ≤ d, ∀ (v u : V) (v' : Value), frz d' n0 H v = some u → VRel g w v v' → VRel (g.cut n0) w u v' := fun d' hd' => uz hS d'
  unfold frz at h
  by_cases hp : v.pure = true
  ·rw [if_pos hp] at h; cases h; exact r.cut (md _ _ hp)
  ·rw [if_neg hp] at h
   cases r with
   | tl t es v' base s cap n hl ht hn hcur => cases h; exact hl.cut rfl
   | ref s id ver off len cap b o s' ext ver' b' o' hφ hv hlen hcur =>
    simp only at h
    split at h
    ·rename_i hlt; cases h
     exact (VRel.ref s id ver off len cap b o s' ext ver' b' o' hφ hv hlen hcur).cut (by simpa [V.under] using hlt)
    ·rename_i hge
     split at h
     case h_2 => cases h
     rename_i es v0 hH
     split at h
     case isFalse => cases h
     rename_i hc
     obtain ⟨rfl, hle⟩ := hc
     cases hm : ((es.drop off).take len).mapM (frz d n0 H) with
     | none => simp [hm] at h
     | some l =>
      simp only [hm, Option.bind_some] at h
      split at h
      case isFalse => cases h
      rename_i hpl
      cases h
      obtain ⟨rfl, hext, hs, hown, hcell⟩ := mv hS hH hφ
      obtain ⟨rfl, hcur⟩ := hcur rfl
      obtain ⟨i1, i2, i3⟩ := ia hm
      have hll : l.length = len := by rw [i1]; simp; omega
      rw [← hll]
      have hget : ∀ (j : Nat) (e : V), l[j]? = some e → ∃ e0, es[off + j]? = some e0 ∧ frz d n0 H e0 = some e := fun j e he => by
       obtain ⟨a, h1, h2⟩ := i2 j e he
       obtain ⟨hj, _⟩ := List.getElem?_eq_some_iff.1 he
       rw [List.getElem?_take, if_pos (by omega), List.getElem?_drop] at h1
       exact ⟨a, h1, h2⟩
      by_cases hl0 : len = 0
      ·refine .list _ _ _ s' _ (fun _ _ => Go.undef) (by omega) hpl (fun j e he => ?_) (fun j i hj => by omega) (fun j i hj => by omega) (fun j e i v he => ?_)
       ·obtain ⟨hj, _⟩ := List.getElem?_eq_some_iff.1 he; omega
       ·obtain ⟨hj, _⟩ := List.getElem?_eq_some_iff.1 he; omega
      ·obtain ⟨rfl, rfl, hcap⟩ := hcur (by omega)
       have bnd : ∀ j i, j < len → i < s' → (off + j) * s' + i < ext := fun j i hj hi => by
        have : (off + j + 1) * s' ≤ (off + cap) * s' := Nat.mul_le_mul_right s' (by omega)
        rw [Nat.add_mul (off + j)] at this; omega
       have pos : ∀ j i, o + off * s' + j * s' + i = o + ((off + j) * s' + i) := fun j i => by rw [Nat.add_mul]; omega
       refine .list _ _ _ s' _ (fun j i => (w.cell? ⟨b', o + off * s' + j * s' + i, none⟩).getD Go.undef) (by omega) hpl (fun j e he => ?_) (fun j i hj hi => ?_) (fun j i hj hi => ?_) (fun j e i v he hv => ?_)
       ·obtain ⟨e0, h1, h2⟩ := hget j e he
        rw [(uy h2).1]; exact hs _ _ h1
       ·rw [pos]; exact yj (hown _ (bnd j i (by omega) hi)).1 (by omega)
       ·obtain ⟨x, hx⟩ := (hown _ (bnd j i (by omega) hi)).2.2
        rw [pos, hx]; rfl
       ·obtain ⟨e0, h1, h2⟩ := hget j e he
        obtain ⟨f1, f2⟩ := uy h2
        obtain ⟨hi, _⟩ := List.getElem?_eq_some_iff.1 hv
        obtain ⟨d', y, hd', h3, h4⟩ := f2 i (e0.cells[i]'(by omega)) (by simp)
        rw [hv] at h3; cases h3
        obtain ⟨x, hx, r⟩ := hcell (off + j) e0 i (e0.cells[i]'(by omega)) h1 (by simp)
        rw [pos, ← Nat.add_assoc, hx]
        exact ih d' hd' _ _ _ h4 r
   | agg cs vs hs hr =>
    simp only at h
    cases hm : cs.mapM (frz d n0 H) with
    | none => simp [hm] at h
    | some l =>
     simp [hm] at h; subst h
     obtain ⟨i1, i2, i3⟩ := ia hm
     refine .agg _ _ (by omega) (fun k x x' hx hx' => ?_)
     obtain ⟨y, h1, h2⟩ := i2 k x hx
     exact ih d (Nat.le_refl _) _ _ _ h2 (hr k y x' h1 hx')
   | func f cs vs hs hr =>
    simp only at h
    cases hm : cs.mapM (frz d n0 H) with
    | none => simp [hm] at h
    | some l =>
     simp [hm] at h; subst h
     obtain ⟨i1, i2, i3⟩ := ia hm
     refine .func _ _ _ (by omega) (fun k x x' hx hx' => ?_)
     obtain ⟨y, h1, h2⟩ := i2 k x hx
     exact ih d (Nat.le_refl _) _ _ _ h2 (hr k y x' h1 hx')
   | eptr cs off b o c hO hc hr =>
    simp only at h
    cases hm : cs.mapM (frz d n0 H) with
    | none => simp [hm] at h
    | some l =>
     simp [hm] at h; subst h
     obtain ⟨i1, i2, i3⟩ := ia hm
     refine .eptr _ _ _ _ c (fun i hi => re (hO i (by omega))) (fun i hi => hc i (by omega)) (fun k x hx => ?_)
     obtain ⟨y, h1, h2⟩ := i2 k x hx
     exact ih d (Nat.le_refl _) _ _ _ h2 (hr k y h1)
   | ptr id off b o n hφ =>
    simp only at h
    split at h
    ·rename_i hlt; cases h
     exact (VRel.ptr id off b o n hφ).cut (by simpa [V.under] using hlt)
    ·split at h
     case h_2 => cases h
     rename_i cs hH
     cases hm : cs.mapM (frz d n0 H) with
     | none => simp [hm] at h
     | some l =>
      simp [hm] at h; subst h
      obtain ⟨rfl, hown, hcell⟩ := qq hS hH hφ
      obtain ⟨i1, i2, i3⟩ := ia hm
      refine .eptr _ _ _ _ (fun i => (w.cell? ⟨b, o + i, none⟩).getD Go.undef) (fun i hi => yj (hown i (by omega)).1 (by omega)) (fun i hi => ?_) (fun k x hx => ?_)
      ·obtain ⟨x, hx, _⟩ := hcell i (cs[i]'(by omega)) (by simp)
       rw [hx]; rfl
      ·obtain ⟨y, h1, h2⟩ := i2 k x hx
       obtain ⟨x', hx', r⟩ := hcell k y h1
       rw [hx']
       exact ih d (Nat.le_refl _) _ _ _ h2 r
   | aptr id ver i off b o s ext ver' b' o' hφ hv hcur =>
    simp only at h
    split at h
    ·rename_i hlt; cases h
     exact (VRel.aptr id ver i off b o s ext ver' b' o' hφ hv hcur).cut (by simpa [V.under] using hlt)
    ·cases h
   | map id b hφ =>
    simp only at h
    split at h
    ·rename_i hlt; cases h
     exact (VRel.map id b hφ).cut (by simpa [V.under] using hlt)
    ·cases h
   | undef => cases h
   | skip => cases h
   | tuple => cases h
   | _ => first | (simp at h; done) | exact absurd (by simp [V.pure]) hp
end
end Go.E
namespace Go.E
section
variable {P : Program} {g : G} {w : World} {bs : List Nat} {H : Heap}
theorem Sim.enter (hS : Sim bs g H w) : Sim (H.length :: bs) g H w where
 bl := Nat.le_refl _
 srt b hb := by
  rcases List.mem_cons.1 hb with rfl | hb
  ·exact Nat.le_refl _
  ·exact Nat.le_trans (hS.srt b hb) hS.bl
 dom := hS.dom
 old := hS.old
 obj := hS.obj
 und id ob h1 h2 b hb := by
  rcases List.mem_cons.1 hb with rfl | hb
  ·cases hl : g.φ id with
   | none => exact absurd hl h2
   | some l => exact .inr ((hS.obj id ob l h1 hl).under hS.dom)
  ·exact hS.und id ob h1 h2 b hb
theorem Out.leave {g1 : G} {w1 : World} {H1 : Heap} (hS : Sim bs g H w) (o : Out (H.length :: bs) g w H g1 w1 H1) : Out bs g w H (g1.cut H.length) w1 (H1.take H.length) where
  sim := {
    bl := by have := hS.bl; have := o.len; simp only [List.length_take]; omega
    srt := hS.srt
    dom := fun id hid => by
      simp only [G.cut] at hid
      split at hid
      · have := o.len; simp only [List.length_take]; omega
      · exact absurd rfl hid
    old := fun b k hk => by
      simp only [G.cut] at hk
      cases hO : g1.O b k with
      | none => simp [hO] at hk
      | imm => exact o.sim.old b k (by simp [hO])
      | res id => exact o.sim.old b k (by simp [hO])
    obj := fun id ob l h1 h2 => by
      simp only [G.cut] at h2
      split at h2
      · rename_i hlt
        rw [List.getElem?_take, if_pos hlt] at h1
        refine (o.sim.obj id ob l h1 h2).cut hlt ?_
        rcases o.sim.und id ob h1 (by rw [h2]; simp) H.length (by simp) with h3 | h3
        · omega
        · exact h3
      · cases h2
    und := fun id ob h1 h2 b hb => by
      simp only [G.cut] at h2
      split at h2
      · rename_i hlt
        rw [List.getElem?_take, if_pos hlt] at h1
        exact o.sim.und id ob h1 h2 b (by simp [hb])
      · exact absurd rfl h2 }
  ext := {
    size := o.ext.size
    imm := fun b k h => ⟨re (o.ext.imm b k h).1, (o.ext.imm b k h).2⟩
    loc := fun id l h => by
      obtain ⟨l', h1, h2⟩ := o.ext.loc id l h
      exact ⟨l', my h1 (hS.dom id (by rw [h]; simp)), h2⟩
    free := fun b hb hf => by
      obtain ⟨h1, h2⟩ := o.ext.free b hb hf
      refine ⟨h1, fun k => ?_⟩
      simp only [G.cut]
      rw [h2 k]
      cases hO : g.O b k with
      | none => rfl
      | imm => rfl
      | res id => exact absurd hO (hf k id)
    os := o.ext.os
    tape := o.ext.tape
    output := o.ext.output
    drawn := o.ext.drawn }
  len := by have := o.len; simp only [List.length_take]; omega
  dom id := by
    have h1 := o.dom id
    have h2 := o.len
    simp only [G.cut, List.length_take]
    by_cases hlt : id < H.length
    · rw [if_pos hlt, h1]
      constructor
      · rintro (h | h)
        · exact .inl h
        · omega
      · rintro (h | h)
        · exact .inl h
        · omega
    · rw [if_neg hlt]
      constructor
      · intro h; exact absurd rfl h
      · rintro (h | h)
        · exact absurd (hS.dom id h) hlt
        · omega
theorem Bv (hS : Sim bs g H w) {t : TypeId} {p v : V} {p' : Value} (hl : loadV P t p H = some v) (hp : VRel g w p p') :
  ∃ v', ((do loadVar t (← asAddr p')) : Sem Value).run P w = .ok v' w ∧ VRel g w v v' := by
 obtain ⟨v', h1, h2⟩ := sO hS hl hp
 refine ⟨v', ?_, h2⟩
 cases hp with
 | eptr => simpa [Instr.loadAt, Instr.sureAddr, asAddr] using h1
 | ptr => simpa [Instr.loadAt, Instr.sureAddr, asAddr] using h1
 | aptr => simpa [Instr.loadAt, Instr.sureAddr, asAddr] using h1
 | _ => simp [loadV] at hl
theorem qy (hS : Sim bs g H w) {ρ : Env} {ts : Array Value} {n : Nat} (hE : ERel g w ρ ts n) : ∀ (l : List ResultVar) (vs : List V),
  (l.mapM fun (r : ResultVar) => match r with | .tmp t => some (ρ t) | .cell a t => loadV P t (ρ a) H) = some vs →
  ∃ vs', (l.mapM fun (r : ResultVar) => match r with | .tmp t => (pure (ts.getD t Go.undef) : Sem Value) | .cell a t => do loadVar t (← asAddr (ts.getD a Go.undef))).run P w = .ok vs' w ∧ ArgsR g w vs vs'
 | [], vs, h => by simp at h; subst h; exact ⟨[], by simp, by simp [ArgsR]⟩
 | r :: l, vs, h => by
  simp only [List.mapM_cons] at h
  have key : ∀ (x : Option V) (s : Sem Value), (∀ v, x = some v → ∃ v', s.run P w = .ok v' w ∧ VRel g w v v') →
    (x.bind fun y => (l.mapM fun (r : ResultVar) => match r with | .tmp t => some (ρ t) | .cell a t => loadV P t (ρ a) H).bind fun ys => some (y :: ys)) = some vs →
    ∃ vs', (do let y ← s; let ys ← (l.mapM fun (r : ResultVar) => match r with | .tmp t => (pure (ts.getD t Go.undef) : Sem Value) | .cell a t => do loadVar t (← asAddr (ts.getD a Go.undef))); pure (y :: ys) : Sem (List Value)).run P w = .ok vs' w ∧ ArgsR g w vs vs' := by
   intro x s hx h
   cases x with
   | none => simp at h
   | some v =>
    simp only [Option.bind_some] at h
    cases hm : (l.mapM fun (r : ResultVar) => match r with | .tmp t => some (ρ t) | .cell a t => loadV P t (ρ a) H) with
    | none => rw [hm] at h; simp at h
    | some vs1 =>
     rw [hm] at h; simp at h; subst h
     obtain ⟨v', r1, r2⟩ := hx v rfl
     obtain ⟨vs', q1, q2⟩ := qy hS hE l vs1 hm
     refine ⟨v' :: vs', by simp only [Sem.run_bind, r1, Result.andThen_ok, q1, Sem.run_pure], by simp [q2.1], fun j x x' h1 h2 => ?_⟩
     cases j with
     | zero => simp at h1 h2; subst h1; subst h2; exact r2
     | succ j => simp at h1 h2; exact q2.2 j x x' h1 h2
  rw [List.mapM_cons]
  cases r with
  | tmp t => exact key (some (ρ t)) _ (fun v hv => by cases hv; exact ⟨_, by simp, hE.rel t⟩) h
  | cell a t => exact key (loadV P t (ρ a) H) _ (fun v hv => Bv hS hv (hE.rel a)) h
def packed (vs : List Value) : Value := if h : vs.toArray.size = 1 then vs.toArray[0] else .tuple vs.toArray
theorem vX {vs : List V} {vs' : List Value} (h : ArgsR g w vs vs') : VRel g w (packV vs) (packed vs') := by
 obtain ⟨h1, h2⟩ := h
 unfold packed
 cases vs with
 | nil => exact .undef _
 | cons v r =>
  cases r with
  | nil =>
   have : vs'.toArray.size = 1 := by simpa using h1
   rw [dif_pos this]
   exact h2 0 v _ rfl (by simp)
  | cons v2 r =>
   have : ¬ vs'.toArray.size = 1 := by simp [h1]
   rw [dif_neg this]
   exact .tuple _ _ (by simp [h1]) (fun k x x' hx hx' => h2 k x x' hx (by simpa using hx'))
theorem rJ (hS : Sim bs g H w) {fn : Func} {ρ : Env} {ts : Array Value} {n : Nat} (hE : ERel g w ρ ts n) {vs : List V} (h : resultsV P fn ρ H = some vs) :
  ∃ vs', (results fn ts).run P w = .ok (packed vs') w ∧ ArgsR g w vs vs' := by
 obtain ⟨vs', h1, h2⟩ := qy hS hE fn.results.toList vs h
 refine ⟨vs', ?_, h2⟩
 unfold results
 rw [Array.mapM_eq_mapM_toList]
 simp only [Sem.run_bind, map_eq_pure_bind, Sem.run_pure]
 erw [h1]
 rfl
theorem sh {args : List V} {args' : List Value} (h : ArgsR g w args args') (k : Nat) :
  ERel g w (fun i => args.getD i .undef) (args'.toArray ++ Array.replicate k Go.undef) (args.length + k) := by
 obtain ⟨h1, h2⟩ := h
 refine ⟨by simp [h1], fun i => ?_⟩
 by_cases hi : i < args.length
 ·have e1 : args.getD i .undef = args[i] := by simp [List.getD, hi]
  simp only [e1]
  have e2 : (args'.toArray ++ Array.replicate k Go.undef).getD i Go.undef = args'[i]'(by omega) := by
   rw [Array.getD_eq_getD_getElem?, Array.getElem?_append_left (by simp; omega)]
   simp [show i < args'.length by omega]
  rw [e2]
  exact h2 i _ _ (by simp [hi]) (by simp)
 ·have e1 : args.getD i .undef = .undef := by simp [List.getD, hi]
  simp only [e1]
  exact .undef _
theorem kX {args : List V} {args' : List Value} (h : ArgsR g w args args') : ArgsR g w (args.map V.norm) args' := by
 refine ⟨by simp [h.1], fun j x x' hx hx' => ?_⟩
 rw [List.getElem?_map] at hx
 cases hj : args[j]? with
 | none => simp [hj] at hx
 | some y => simp [hj] at hx; subst hx; exact vM (h.2 j y x' hj hx')
theorem Bw {n0 : Nat} (hS : Sim bs g H w) {d : Nat} {vs us : List V} {vs' : List Value} (h : vs.mapM (frz d n0 H) = some us) (hr : ArgsR g w vs vs') : ArgsR (g.cut n0) w us vs' := by
 obtain ⟨i1, i2, _⟩ := ia h
 refine ⟨by rw [i1]; exact hr.1, fun j x x' hx hx' => ?_⟩
 obtain ⟨y, h1, h2⟩ := i2 j x hx
 exact uz hS d y x x' h2 (hr.2 j y x' h1 hx')
theorem vY {P : Program} {bs : List Nat} {g g1 : G} {w w1 : World} {H H1 : Heap} {fn : Func} {ρ : Env} {n : Nat} {a : Act} {R : Ending → World → Prop} (o1 : Out bs g w H g1 w1 H1) (e1 : ERel g1 w1 ρ a.tmps n) (d1 : Mk w.heap.size g1 w1 [] a.defers)
  (h : ∀ w2, Out bs g w H g1 w2 H1 → ERel g1 w2 ρ a.tmps n → ∃ v, (results fn a.tmps).run P w2 = .ok v w2 ∧ R (.returned v) w2) : LeavesInM (FR none) 0 P fn a.tmps R a.defers .returning w1 := by
 obtain ⟨ms, h1, h2, h3⟩ := d1
 rw [h1, List.append_nil]
 refine mM (K := fun w2 => Out bs g w H g1 w2 H1 ∧ ERel g1 w2 ρ a.tmps n) (fun w2 hk => h w2 hk.1 hk.2) ms w1 (fun w2 D hD hk => ?_) h2 (fun D hD => (h3 D hD).2.1) ⟨o1, e1⟩
 have hO := (h3 D hD).2.2
 exact ⟨hk.1.putFree (h3 D hD).1 hO, hk.2.bear (nG hO)⟩
def ActOk (cx : Cx) : Prop :=
 ∀ f fn args v H H', cx.P.funcs[f]? = some fn → cx.keep f = true → cx.act f args H = some (v, H') → ∀ bs g w args', Sim bs g H w → ArgsR g w args args' →
  Calls cx.P f args'.toArray w fun e w' => ∃ v' g', e = .returned v' ∧ Out bs g w H g' w' H' ∧ VRel g' w' v v'
theorem vZ {cx : Cx} (h : ∀ f a H, cx.act f a H = none) : ActOk cx := fun f _ args _ H _ _ _ e => by rw [h] at e; cases e
def KnownOk (cx : Cx) : Prop := FreshOk cx ∧ ActOk cx ∧
 ∀ f fn args v, cx.P.funcs[f]? = some fn → cx.keep f = true → cx.known f args = some v → ∀ bs g w H args', Sim bs g H w → ArgsR g w args args' →
  Calls cx.P f args'.toArray w fun e w' => ∃ v' g', e = .returned v' ∧ Out bs g w H g' w' H ∧ VRel g' w' v v'
theorem yk {cx : Cx} (hD : DrawOk cx) (hI : IterOk cx) (hK : KnownOk cx) (hN : ∀ (f : Nat) (fn : Func), cx.P.funcs[f]? = some fn → fn.name ≠ "runtime.NumGoroutine") (k : Nat) {call : CallSem} (hC : CallOk cx call) :
  CallOk cx (evBody cx (loopn k) call) := by
 refine ⟨hK.1, fun bs f args H v H' h => ?_⟩
 unfold evBody at h
 cases hf : cx.P.funcs[f]? with
 | none => simp [hf] at h
 | some fn =>
  cases hb : fn.body with
  | none => simp [hf, hb] at h
  | some c =>
   simp only [hf, hb] at h
   refine ⟨⟨fn, hf, by rw [hb]; rfl, hN f fn hf⟩, fun g w args' hS hA => ?_⟩
   by_cases hk : cx.keep f = true
   ·rw [if_pos hk] at h
    cases hv : cx.known f (args.map V.norm) with
    | none =>
     rw [hv] at h
     exact hK.2.1 f fn _ _ _ _ hf hk h _ _ _ _ hS (kX hA)
    | some v1 =>
     rw [hv] at h
     simp only [Option.some.injEq, Prod.mk.injEq] at h
     obtain ⟨rfl, rfl⟩ := h
     exact hK.2.2 f fn _ _ hf hk hv _ _ _ _ _ hS (kX hA)
   ·have hsz : args'.toArray.size = args.length := by simp [hA.1]
    refine jU (r := none) (n := 0).1 (callsIn_of_wp_marks hf hb trivial ?_)
    rw [hsz]
    rw [if_neg hk] at h
    cases hc : evCode cx ⟨args.length + (fn.ntmps - args.length), H.length :: bs⟩ (loopn k) call c (fun i => (args.map V.norm).getD i .undef) H with
    | none => rw [hc] at h; simp at h
    | some r =>
     obtain ⟨ex, ρ', H1⟩ := r
     rw [hc] at h
     simp only [Option.bind_some] at h
     have hI' := sh (kX hA) (fn.ntmps - args.length)
     rw [List.length_map] at hI'
     refine ux hC hD hI k c none _ g w H H1 _ ρ' { tmps := args'.toArray ++ Array.replicate (fn.ntmps - args.length) Go.undef, defers := [] } ex hc hS.enter (fun _ h => by cases h) hI' (fun a1 w1 g1 o1 e1 d1 => ?_)
     have fin : ∀ vs us, resultsV cx.P fn ρ' H1 = some vs → vs.mapM (frz 6 H.length H1) = some us → (packV us, H1.take H.length) = (v, H') →
       LeavesInM (FR none) 0 cx.P fn a1.tmps (fun e w' => ∃ v' g', e = .returned v' ∧ Out bs g w H g' w' H' ∧ VRel g' w' v v') a1.defers .returning w1 := by
      intro vs us hvs hus he
      cases he
      refine vY o1 e1 d1 (fun w2 o2 e2 => ?_)
      obtain ⟨vs', r1, r2⟩ := rJ o2.sim e2 hvs
      exact ⟨_, r1, _, _, rfl, o2.leave hS, vX (Bw o2.sim hus r2)⟩
     cases ex with
     | exit id => simp at h
     | normal =>
      simp only at h
      cases hv : resultsV cx.P fn ρ' H1 with
      | none => simp [hv] at h
      | some vs =>
       cases hu : vs.mapM (frz 6 H.length H1) with
       | none => simp [hv, hu] at h
       | some us => simp only [hv, hu, Option.bind_some, Option.map_some, Option.some.injEq] at h; exact fin vs us hv hu h
     | ret =>
      simp only at h
      cases hv : resultsV cx.P fn ρ' H1 with
      | none => simp [hv] at h
      | some vs =>
       cases hu : vs.mapM (frz 6 H.length H1) with
       | none => simp [hv, hu] at h
       | some us => simp only [hv, hu, Option.bind_some, Option.map_some, Option.some.injEq] at h; exact fin vs us hv hu h
theorem si {cx : Cx} (hD : DrawOk cx) (hI : IterOk cx) (hK : KnownOk cx) (hN : ∀ (f : Nat) (fn : Func), cx.P.funcs[f]? = some fn → fn.name ≠ "runtime.NumGoroutine") : ∀ k, CallOk cx (callk cx k)
 | 0 => ⟨hK.1, fun _ _ _ _ _ _ h => by simp [callk] at h⟩
 | k + 1 => yk hD hI hK hN k (si hD hI hK hN k)
end
end Go.E
namespace Go.E
section
variable {cx : Cx} {g : G} {w : World} {bs : List Nat} {H : Heap} {call : CallSem} {ρ ρ' : Env} {a : Act}
theorem tc {fx : Fx} (o : Oper) (h : ∀ x ∈ o.op.operands, opnd ρ x = opnd ρ' x) (H : Heap) : evOp cx fx call o ρ H = evOp cx fx call o ρ' H := by
 obtain ⟨dst, op, type, pos, after, guard⟩ := o
 have pairs : ∀ ps : Array (Nat × Operand), (∀ x ∈ ps.map (·.2), opnd ρ x = opnd ρ' x) → (ps.toList.map fun q => (q.1, opnd ρ q.2)) = ps.toList.map fun q => (q.1, opnd ρ' q.2) := fun ps hp =>
  List.map_congr_left fun p hm => by rw [hp p.2 (Array.mem_map.2 ⟨p, by simpa using hm, rfl⟩)]
 have pairs2 : ∀ ps : Array (Nat × Operand), (∀ x ∈ ps.map (·.2), opnd ρ x = opnd ρ' x) → (ps.toList.map fun q => opnd ρ q.2) = ps.toList.map fun q => opnd ρ' q.2 := fun ps hp =>
  List.map_congr_left fun p hm => by rw [hp p.2 (Array.mem_map.2 ⟨p, by simpa using hm, rfl⟩)]
 cases op <;> simp only [Op.operands] at h <;> simp only [evOp]
 case build t ps => rw [pairs ps fun x hx => h x (by simpa using hx)]
 case buildSlice t n ps => rw [pairs2 ps fun x hx => h x (by simpa using hx)]
 case makeFunc fn first captured =>
  cases fn with
  | func f => simp only; rw [List.map_congr_left (l := captured.toList) fun x hx => h x (by simp; right; simpa using hx)]
  | _ => rfl
 case call c =>
  have hargs : c.args.toList.map (opnd ρ) = c.args.toList.map (opnd ρ') := List.map_congr_left fun x hx => h x (by simp [Call.operands]; right; simpa using hx)
  cases hc : c.callee with
  | value f =>
   have hf : opnd ρ f = opnd ρ' f := h f (by simp [Call.operands, hc])
   simp only [evCallee, hargs, hf]
  | invoke r m => rfl
  | builtin b => simp only [evBuiltin, hargs]
 case assign x => rw [h x (by simp)]
 case slice t x lo hi mx => cases lo <;> cases hi <;> cases mx <;> simp_all
 all_goals (first | rfl | (simp_all; done))
def seen (ops : Array Oper) (o : Oper) (ρ : Env) : Env := fun d => if d ∈ o.looksAt ops then ρ d else .undef
theorem kY {ops : Array Oper} {o : Oper} {x : Operand} (hx : x ∈ o.op.operands) : opnd (seen ops o ρ) x = opnd ρ x := by
 cases x with
 | tmp t =>
  have : t ∈ o.looksAt ops := List.mem_append_left _ (List.mem_filterMap.2 ⟨.tmp t, by simpa using hx, rfl⟩)
  simp [opnd, seen, this]
 | _ => rfl
theorem kS {ops : Array Oper} {o : Oper} : wantedV ops o (seen ops o ρ) = wantedV ops o ρ := by
 unfold wantedV
 cases hg : o.guard with
 | none => rfl
 | some p =>
  obtain ⟨j, want⟩ := p
  cases hd : (ops[j]?).bind (·.dst) with
  | none => simp [hd]
  | some d =>
   have : d ∈ o.looksAt ops := by simp [Oper.looksAt, hg, hd]
   simp [hd, seen, this]
def sees (P : Program) (o : Oper) (ρ : Env) (H H' : Heap) : Prop :=
 match o.op with
 | .load t x => ∀ v, loadV P t (opnd ρ x) H = some v → loadV P t (opnd ρ x) H' = some v
 | .lookup t m k ok => ∀ v, lookupV P t (opnd ρ m) (opnd ρ k) ok H = some v → lookupV P t (opnd ρ m) (opnd ρ k) ok H' = some v
 | _ => True
def LayWp (cx : Cx) (o : Oper) (ρ : Env) (id : Nat) (v : V) (ob : HObj) : Prop :=
 ∀ (bs : List Nat) (g : G) (w : World) (H : Heap) (a : Act) (n : Nat) (next : Act → World → Prop) (Q : Exit → Act → World → Prop),
  Open bs g H id ob → Sim bs g H w → ERel g w ρ a.tmps n → (∀ v' w' g', Lay bs g w H id g' w' → VRel g' w' v v' → next (a.put o.dst v') w') → o.wp cx.P a w next Q
theorem vq {b : Builtin} {c : Call} {pos : String} {v : V} {Hp Hp' : Heap} (hb : b ≠ .append) (h : evBuiltin cx b c pos ρ Hp = some (v, Hp')) : Hp' = Hp ∧ ∀ H, evBuiltin cx b c pos ρ H = some (v, H) := by
 have looks : ∀ (r : Option V), (r.map (·, Hp)) = some (v, Hp') → Hp' = Hp ∧ ∀ H : Heap, (r.map (·, H)) = some (v, H) := by
  intro r h1
  cases r with
  | none => simp at h1
  | some y => simp at h1; obtain ⟨rfl, rfl⟩ := h1; exact ⟨rfl, fun H => by simp⟩
 unfold evBuiltin at h ⊢
 generalize c.argTypes.toList = l1 at h ⊢
 generalize c.args.toList.map (opnd ρ) = l2 at h ⊢
 cases b
 case append => exact absurd rfl hb
 case len =>
  rcases l1 with _ | ⟨t, _ | ⟨_, _⟩⟩ <;> rcases l2 with _ | ⟨x, _ | ⟨_, _⟩⟩ <;> (try (simp at h; done))
  cases hu : cx.P.underlying t with
  | none => simp [hu] at h
  | some d =>
   cases d <;> cases x <;> simp [hu, lenV] at h ⊢ <;> simp [h]
 case min => exact looks _ h
 case max => exact looks _ h
 all_goals (simp at h)
theorem yT {fx : Fx} {o : Oper} {v : V} {Hp Hp' : Heap} (hq : isE o = false) (h : evOp cx fx call o ρ Hp = some (v, Hp')) :
  (Hp' = Hp ∧ ∀ H, sees cx.P o ρ Hp H → evOp cx fx call o ρ H = some (v, H)) ∨
  (∃ ob, Hp' = Hp ++ [ob] ∧ isRA cx.P o = true ∧ (∀ t x, o.op ≠ .load t x) ∧ (∀ t m k ok, o.op ≠ .lookup t m k ok) ∧ LayWp cx o ρ Hp.length v ob) := by
 obtain ⟨dst, op, type, pos, after, guard⟩ := o
 have looks : ∀ (r : Option V), (r.map (·, Hp)) = some (v, Hp') → Hp' = Hp ∧ ∀ H : Heap, (r.map (·, H)) = some (v, H) := by
  intro r h1
  cases r with
  | none => simp at h1
  | some y => simp at h1; obtain ⟨rfl, rfl⟩ := h1; exact ⟨rfl, fun H => by simp⟩
 have valw : ∀ (bs : List Nat) (g : G) (w : World) (H : Heap) (a : Act) (next : Act → World → Prop) (Q : Exit → Act → World → Prop) (id : Nat) (o : Oper) v' w' g', (execOp a.eval o).run cx.P w = .ok (.value v') w' → Lay bs g w H id g' w' → VRel g' w' v v' →
   (∀ v' w' g', Lay bs g w H id g' w' → VRel g' w' v v' → next (a.put o.dst v') w') → o.wp cx.P a w next Q := by
  intro bs g w H a next Q id o v' w' g' h1 h2 h3 hn
  unfold Oper.wp; rw [h1]; exact hn v' w' g' h2 h3
 unfold evOp at h
 simp only [sees]
 unfold evOp
 cases op <;> simp only at h ⊢ <;> (try (cases h; done)) <;> (try (simp [isE] at hq; done))
 case move x => cases h; exact .inl ⟨rfl, fun _ _ => rfl⟩
 case assign x =>
  cases x with
  | const c =>
   have plain : (some (opnd ρ (.const c), Hp) : Option (V × Heap)) = some (v, Hp') → Hp' = Hp ∧ v = opnd ρ (.const c) := fun h => by cases h; exact ⟨rfl, rfl⟩
   cases hn2 : opnd ρ (.const c) with
   | nilS =>
    cases hu : cx.P.underlying type with
    | none => simp only [hu, hn2] at h ⊢; cases h; exact .inl ⟨rfl, fun _ _ => rfl⟩
    | some d =>
     cases d with
     | slice el =>
      simp only [hu, hn2] at h
      cases h
      refine .inr ⟨.tok 0, rfl, by simp [isRA, hu], by simp, by simp, ?_⟩
      intro bs g w H a n next Q hO hS hE hn
      have hx := hE.opnd (.const c)
      rw [hn2] at hx
      obtain ⟨g', o1, r1⟩ := sT hS hO
      have hcv : a.eval (.const c) = .slice none 0 0 := by
       generalize a.eval (.const c) = y at hx
       cases hx; rfl
      exact valw _ _ _ _ _ _ _ _ _ (.slice none 0 0) w g' (by simp [execOp, hcv]) o1 r1 hn
     | _ => simp only [hu, hn2] at h ⊢; cases h; exact .inl ⟨rfl, fun _ _ => rfl⟩
   | _ => simp only [hn2] at h ⊢; simp at h; obtain ⟨rfl, rfl⟩ := h; exact .inl ⟨rfl, fun _ _ => by simp⟩
  | _ => simp only at h ⊢; cases h; exact .inl ⟨rfl, fun _ _ => rfl⟩
 case pick c x y =>
  split at h
  ·cases h; exact .inl ⟨rfl, fun _ _ => rfl⟩
  ·cases h; exact .inl ⟨rfl, fun _ _ => rfl⟩
  ·cases h
 case alloc t =>
  cases hz : zeroT cx.P t with
  | none => simp [hz] at h
  | some z =>
   simp only [hz, Option.bind_some] at h
   split at h
   ·rename_i hc
    cases h
    refine .inr ⟨.cells z.cells, rfl, rfl, by simp, by simp, ?_⟩
    intro bs g w H a n next Q hO hS hE hn
    obtain ⟨zv, hzv, hzr⟩ := jE hz
    have hr : VRel g w z zv := by rw [hzv]; exact iF zv
    exact valw _ _ _ _ _ _ _ _ _ _ _ _ (by simp [execOp, uo (hzr w)]) (nB hS hO hr hc t) (.ptr _ _ w.heap.size 0 z.cells.length (by simp [G.lay])) hn
   ·cases h
 case box t x =>
  split at h
  ·rename_i hc
   cases h
   refine .inr ⟨.cells (opnd ρ x).cells, rfl, rfl, by simp, by simp, ?_⟩
   intro bs g w H a n next Q hO hS hE hn
   exact valw _ _ _ _ _ _ _ _ _ _ _ _ (by simp [execOp, yc]) (nB hS hO (hE.opnd x) hc t) (.ptr _ _ w.heap.size 0 (opnd ρ x).cells.length (by simp [G.lay])) hn
  ·cases h
 case build t parts => obtain ⟨h1, h2⟩ := looks _ h; exact .inl ⟨h1, fun H _ => h2 H⟩
 case buildSlice t len parts =>
  cases he : elemT cx.P t with
  | none => simp [he] at h
  | some el =>
  cases hsz : sizeT cx.P el with
  | none => simp [he, hsz] at h
  | some sz =>
  simp only [he, hsz, Option.bind_some] at h ⊢
  split at h
  ·rename_i hc
   obtain ⟨h0, hr, hm, hz⟩ := hc
   cases ht : takeElems sz (parts.toList.map fun q => opnd ρ q.2) with
   | none => simp [ht] at h
   | some es =>
    simp only [ht, Option.map_some, Option.some.injEq] at h
    by_cases hl0 : len = 0
    ·simp only [hl0, if_true, Prod.mk.injEq] at h
     obtain ⟨rfl, rfl⟩ := h
     refine .inr ⟨.tok 0, rfl, rfl, by simp, by simp, ?_⟩
     intro bs g w H a n next Q hO hS hE hn
     obtain ⟨v', w', g', r1, r2, r3⟩ := ga (own := false) hS (fun _ => by subst hl0; exact hO) (fun x => hE.opnd x) he hsz h0 hr hm hz ht
     simp only [hl0, true_or, if_true] at r2 r3
     exact valw _ _ _ _ _ _ _ _ _ _ _ _ (by simp only [execOp]; simp [r1]) r2 r3 hn
    ·simp only [hl0, if_false] at h
     cases hvc : cx.vec t pos with
     | true =>
      simp only [hvc, if_true, Prod.mk.injEq] at h
      obtain ⟨rfl, rfl⟩ := h
      refine .inr ⟨.arr es 0, rfl, rfl, by simp, by simp, ?_⟩
      intro bs g w H a n next Q hO hS hE hn
      obtain ⟨v', w', g', r1, r2, r3⟩ := ot hS (fun x => hE.opnd x) he hsz h0 hr hm hz ht hO
      exact valw _ _ _ _ _ _ _ _ _ _ _ _ (by simp only [execOp]; simp [r1]) r2 r3 hn
     | false =>
     simp only [hvc, Bool.false_eq_true, if_false] at h
     cases hw : cx.own t with
     | true =>
      simp only [hw, if_true, Prod.mk.injEq] at h
      obtain ⟨rfl, rfl⟩ := h
      refine .inr ⟨.tok len, rfl, rfl, by simp, by simp, ?_⟩
      intro bs g w H a n next Q hO hS hE hn
      obtain ⟨v', w', g', r1, r2, r3⟩ := ga (own := true) hS (fun _ => hO) (fun x => hE.opnd x) he hsz h0 hr hm hz ht
      simp only [hl0, or_true, if_true, if_false] at r2 r3
      exact valw _ _ _ _ _ _ _ _ _ _ _ _ (by simp only [execOp]; simp [r1]) r2 r3 hn
     | false =>
      simp only [hw, Bool.false_eq_true, if_false, Prod.mk.injEq] at h
      obtain ⟨rfl, rfl⟩ := h
      refine .inl ⟨rfl, fun H _ => ?_⟩
      rw [if_pos ⟨h0, hr, hm, hz⟩]
      simp [hl0, hw, hvc]
  ·cases h
 case load t x =>
  cases hl : loadV cx.P t (opnd ρ x) Hp with
  | none => simp [hl] at h
  | some y =>
   simp [hl] at h; obtain ⟨rfl, rfl⟩ := h
   exact .inl ⟨rfl, fun H hs => by simp [hs y rfl]⟩
 case nilCheck x =>
  split at h
  all_goals (first | (cases h; done) | (rename_i hx2; cases h; exact .inl ⟨rfl, fun _ _ => by simp [hx2]⟩))
 case binOp op t x y _ => obtain ⟨h1, h2⟩ := looks _ h; exact .inl ⟨h1, fun H _ => h2 H⟩
 case unOp op t x => obtain ⟨h1, h2⟩ := looks _ h; exact .inl ⟨h1, fun H _ => h2 H⟩
 case convert s d x => obtain ⟨h1, h2⟩ := looks _ h; exact .inl ⟨h1, fun H _ => h2 H⟩
 case makeFunc fn first caps =>
  cases fn with
  | func f =>
   simp only at h ⊢
   split at h
   ·rename_i h0; cases h; exact .inl ⟨rfl, fun _ _ => by simp [h0]⟩
   ·cases h
  | _ => simp at h
 case makeMap t r =>
  cases r with
  | none =>
   simp at h
   obtain ⟨rfl, rfl⟩ := h
   refine .inr ⟨.map [], rfl, rfl, by simp, by simp, ?_⟩
   intro bs g w H a n next Q hO hS hE hn
   obtain ⟨v', w', g', r1, r2, r3⟩ := pU (P := cx.P) (t := t) hS hO
   exact valw _ _ _ _ _ _ _ _ _ _ _ _ (by simp [execOp, r1]) r2 r3 hn
  | some x => simp at h
 case makeSlice t l c =>
  cases he : elemT cx.P t with
  | none => simp [he] at h
  | some el =>
  cases hsz : sizeT cx.P el with
  | none => simp [he, hsz] at h
  | some sz =>
  cases hby : bytesT cx.P el with
  | none => simp [he, hsz, hby] at h
  | some by_ =>
  cases hz : zeroT cx.P el with
  | none => simp [he, hsz, hby, hz] at h
  | some z =>
  simp only [he, hsz, hby, hz, Option.bind_some] at h
  split at h
  ·rename_i k n k' m hl2 hc2
   split at h
   ·rename_i hcond
    obtain ⟨rfl, h0, h1, h2, h3, h4, h5, h6⟩ := hcond
    cases h
    refine .inr ⟨_, rfl, rfl, by simp, by simp, ?_⟩
    intro bs g w H a nn next Q hO hS hE hn
    have hl := hE.opnd l
    have hc := hE.opnd c
    rw [hl2] at hl; rw [hc2] at hc
    obtain ⟨v', w', g', r1, r2, r3⟩ := nD (P := cx.P) (t := t) (k := k) (k' := k') hS hO he hsz hby hz h0 h1 h2 h3 h4 h5
    cases hlv : a.eval l with
    | int kk nn =>
     cases hcv : a.eval c with
     | int kk2 nn2 =>
      rw [hlv] at hl; rw [hcv] at hc; cases hl; cases hc
      exact valw _ _ _ _ _ _ _ _ _ _ _ _ (by simp [execOp, hlv, hcv, r1]) r2 r3 hn
     | _ => rw [hcv] at hc; cases hc
    | _ => rw [hlv] at hl; cases hl
   ·cases h
  ·cases h
 case slice t x lo hi mx => obtain ⟨h1, h2⟩ := looks _ h; exact .inl ⟨h1, fun H _ => h2 H⟩
 case fieldAddr t x j => obtain ⟨h1, h2⟩ := looks _ h; exact .inl ⟨h1, fun H _ => h2 H⟩
 case field t x j => obtain ⟨h1, h2⟩ := looks _ h; exact .inl ⟨h1, fun H _ => h2 H⟩
 case indexAddr t x i => obtain ⟨h1, h2⟩ := looks _ h; exact .inl ⟨h1, fun H _ => h2 H⟩
 case index t x i => obtain ⟨h1, h2⟩ := looks _ h; exact .inl ⟨h1, fun H _ => h2 H⟩
 case lookup t m k ok =>
  cases hl : lookupV cx.P t (opnd ρ m) (opnd ρ k) ok Hp with
  | none => simp [hl] at h
  | some y =>
   simp [hl] at h; obtain ⟨rfl, rfl⟩ := h
   exact .inl ⟨rfl, fun H hs => by simp [hs y rfl]⟩
 case extract x i =>
  split at h
  ·rename_i hx2; obtain ⟨h1, h2⟩ := looks _ h; exact .inl ⟨h1, fun H _ => by simpa [hx2] using h2 H⟩
  ·cases h
 case call c =>
  obtain ⟨callee, args, argTypes⟩ := c
  cases callee with
  | value f => simp [isE] at hq
  | invoke r m => simp at h
  | builtin b =>
   simp only at h ⊢
   refine .inl ?_
   have hb : b ≠ .append := by rintro rfl; simp [isE] at hq
   obtain ⟨h1, h2⟩ := vq hb h
   exact ⟨h1, fun H _ => h2 H⟩
end
end Go.E
namespace Go.E
def Closed (ops : Array Oper) (L : Nat → Prop) : Prop := ∀ i o, ops[i]? = some o → L i → ∀ e ∈ edgesOf o, L e
def RowOk (ops : Array Oper) (i : Nat) (row : List Nat) : Prop :=
 ∀ o, ops[i]? = some o → ∀ L : Nat → Prop, Closed ops L → (∀ e ∈ edgesOf o, L e) → ∀ j ∈ row, L j
theorem td (ops : Array Oper) : ∀ (l : List Oper) (acc : List (List Nat)), (∀ k, l[k]? = ops[acc.length + k]?) → (∀ i row, acc[i]? = some row → RowOk ops i row) →
  ∀ i row, (ancGo l acc)[i]? = some row → RowOk ops i row
 | [], acc, _, h, i, row, hr => h i row hr
 | o :: r, acc, hl, h, i, row, hr => by
  refine td ops r _ (fun k => ?_) (fun i row hr => ?_) i row hr
  ·have := hl (k + 1)
   simp only [List.getElem?_cons_succ] at this
   rw [this, List.length_append]; congr 1; simp; omega
  ·by_cases hlt : i < acc.length
   ·rw [List.getElem?_append_left hlt] at hr; exact h i row hr
   ·rw [List.getElem?_append_right (by omega)] at hr
    obtain ⟨h1, h2⟩ := List.getElem?_eq_some_iff.1 hr
    have hi : i = acc.length := by simp at h1; omega
    subst hi
    simp at h2
    intro o2 ho2 L hL he j hj
    have e1 : o2 = o := by have := hl 0; simp at this; rw [← this] at ho2; exact (Option.some.inj ho2).symm
    subst e1
    rw [← h2, List.mem_eraseDups] at hj
    rcases List.mem_append.1 hj with hj | hj
    ·exact he j hj
    ·obtain ⟨e, h3, h4⟩ := List.mem_flatMap.1 hj
     cases ha : acc[e]? with
     | none => simp [ha] at h4
     | some row2 =>
      simp [ha] at h4
      have hlt2 : e < acc.length := (List.getElem?_eq_some_iff.1 ha).1
      cases hoe : ops[e]? with
      | none =>
       have := hl 0
       simp at this
       have h5 : acc.length < ops.size := by
        have h6 := this.symm
        rw [Array.getElem?_eq_some_iff] at h6; exact h6.1
       rw [Array.getElem?_eq_none_iff] at hoe; omega
      | some oe => exact h e row2 ha oe hoe L hL (hL e oe hoe (he e h3)) j h4
theorem mz {ops : Array Oper} {i : Nat} {o : Oper} (ho : ops[i]? = some o) {L : Nat → Prop} (hL : Closed ops L) (he : ∀ e ∈ edgesOf o, L e) {j : Nat} (hj : j ∈ (anc ops).getD i []) : L j := by
 cases ha : (anc ops)[i]? with
 | none => simp [ha] at hj
 | some row =>
  simp [ha] at hj
  exact td ops ops.toList [] (fun k => by simp) (fun i row h => by simp at h) i row ha o ho L hL he j hj
theorem dm : ∀ {l : List Nat}, nodupB l = true → ∀ {p q i : Nat}, l[p]? = some i → l[q]? = some i → p = q
 | [], _, p, q, i, h1, _ => by simp at h1
 | x :: r, h, p, q, i, h1, h2 => by
  simp only [nodupB, Bool.and_eq_true, Bool.not_eq_true', List.contains_eq_mem, decide_eq_false_iff_not] at h
  cases p with
  | zero =>
   cases q with
   | zero => rfl
   | succ q => simp at h1 h2; subst h1; exact absurd (List.mem_of_getElem? h2) h.1
  | succ p =>
   cases q with
   | zero => simp at h1 h2; subst h2; exact absurd (List.mem_of_getElem? h1) h.1
   | succ q => simp at h1 h2; rw [dm h.2 h1 h2]
theorem uC {ops : Array Oper} : ∀ {l done : List Nat}, topoOk ops done l = true → ∀ {p i : Nat}, l[p]? = some i → ∃ o, ops[i]? = some o ∧ ∀ e ∈ edgesOf o, e ∈ done ++ l.take p
 | [], _, _, p, i, h1 => by simp at h1
 | x :: r, done, h, p, i, h1 => by
  simp only [topoOk, Bool.and_eq_true] at h
  cases p with
  | zero =>
   simp at h1; subst h1
   cases ho : ops[x]? with
   | none => simp [ho] at h
   | some o =>
    simp [ho] at h
    exact ⟨o, rfl, fun e he => by simpa using h.1 e he⟩
  | succ p =>
   simp at h1
   obtain ⟨o, h2, h3⟩ := uC h.2 h1
   exact ⟨o, h2, fun e he => by simpa using h3 e he⟩
theorem sj {ops : Array Oper} {tb : List (List Nat)} : ∀ {l : List Nat}, effOk ops tb l = true → ∀ {p q i j : Nat} {o : Oper}, p < q → l[p]? = some i → l[q]? = some j → ops[i]? = some o → isE o = true → i ∈ tb.getD j []
 | [], _, p, q, i, j, o, _, h1, _, _, _ => by simp at h1
 | x :: r, h, p, q, i, j, o, hlt, h1, h2, ho, he => by
  simp only [effOk, Bool.and_eq_true, Bool.or_eq_true] at h
  cases p with
  | zero =>
   simp at h1; subst h1
   cases q with
   | zero => omega
   | succ q =>
    simp at h2
    rcases h.1 with h3 | h3
    ·simp [ho, he] at h3
    ·have := List.all_eq_true.1 h3 j (List.mem_of_getElem? h2)
     simpa using this
  | succ p =>
   cases q with
   | zero => omega
   | succ q => simp at h1 h2; exact sj h.2 (by omega) h1 h2 ho he
theorem sk {ops : Array Oper} {tb : List (List Nat)} (h : tmpOk ops tb = true) {i j d : Nat} {o u : Oper} (hi : ops[i]? = some o) (hj : ops[j]? = some u) (hd : o.dst = some d) (hne : i ≠ j) :
  i ∈ tb.getD j [] ∨ j ∈ tb.getD i [] ∨ (d ∉ u.looksAt ops ∧ u.dst ≠ some d) := by
 have hi2 := (Array.getElem?_eq_some_iff.1 hi).1
 have hj2 := (Array.getElem?_eq_some_iff.1 hj).1
 have h1 := List.all_eq_true.1 h i (List.mem_range.2 hi2)
 simp only [hi, Option.bind_some, hd] at h1
 have h2 := List.all_eq_true.1 h1 j (List.mem_range.2 hj2)
 simp only [hj, tmpsOf, Option.map_some, Option.getD_some, Bool.or_eq_true, beq_iff_eq, Bool.and_eq_true, Bool.not_eq_true', bne_iff_ne, List.contains_eq_mem, decide_eq_true_eq, decide_eq_false_iff_not] at h2
 rcases h2 with ((h2 | h2) | h2) | h2
 ·exact absurd h2 hne
 ·exact .inl h2
 ·exact .inr (.inl h2)
 ·exact .inr (.inr h2)
theorem sm {P : Program} {ops : Array Oper} {ord : List Nat} {st : List (Env × Heap)} {last : Heap} : ∀ {l : List (Nat × Nat)}, chkAll P ops ord st last l → ∀ {p q : Nat}, (p, q) ∈ l →
  ∀ {o s t}, ops[ord.getD p 0]? = some o → st[p]? = some s → st[q]? = some t → obsEq P o s.1 s.2 t.2 ((st[q + 1]?).map (·.2) |>.getD last)
 | [], _, p, q, hm => by simp at hm
 | (p0, q0) :: r, h, p, q, hm => by
  intro h1 h2 h3
  rcases List.mem_cons.1 hm with e | hm
  ·cases e; exact h.1 _ _ _ h1 h2 h3
  ·exact sm h.2 hm h1 h2 h3
theorem uD {P : Program} {ops : Array Oper} {tb : List (List Nat)} {ord : List Nat} {p q i j : Nat} {o u : Oper} (hlt : p < q) (hp : ord[p]? = some i) (hq : ord[q]? = some j) (ho : ops[i]? = some o) (hu : ops[j]? = some u)
  (hr : isRA P o = true) (he : isE u = true) (hn : i ∉ tb.getD j []) : (p, q) ∈ chkPairs P ops tb ord := by
 have hp2 := (List.getElem?_eq_some_iff.1 hp).1
 have hq2 := (List.getElem?_eq_some_iff.1 hq).1
 unfold chkPairs
 refine List.mem_flatMap.2 ⟨p, List.mem_range.2 hp2, List.mem_filterMap.2 ⟨q, List.mem_range.2 hq2, ?_⟩⟩
 have e1 : ord.getD p 0 = i := by simp [List.getD, hp]
 have e2 : ord.getD q 0 = j := by simp [List.getD, hq]
 simp only [e1, e2, ho, hu, hlt, decide_true, hr, he, Bool.true_and, Bool.and_self]
 rw [if_pos (by simpa using hn)]
section
variable {cx : Cx} {call : CallSem} {fx : Fx} {ops : Array Oper}
theorem pc : ∀ {ord : List Nat} {ρ : Env} {H : Heap} {st : List (Env × Heap)} {z : Env × Heap}, evTrace cx fx call ops ord ρ H = some (st, z) → st.length = ord.length ∧
  ((st ++ [z])[0]? = some (ρ, H)) ∧ ∀ p i, ord[p]? = some i → ∃ o s t, ops[i]? = some o ∧ (st ++ [z])[p]? = some s ∧ (st ++ [z])[p + 1]? = some t ∧ evOper cx fx call ops o s.1 s.2 = some t
 | [], ρ, H, st, z, h => by simp [evTrace] at h; obtain ⟨rfl, rfl⟩ := h; simp
 | i :: r, ρ, H, st, z, h => by
  simp only [evTrace] at h
  cases ho : ops[i]? with
  | none => simp [ho] at h
  | some o =>
   simp only [ho, Option.bind_some] at h
   cases hs : evOper cx fx call ops o ρ H with
   | none => simp [hs] at h
   | some s =>
    simp only [hs, Option.bind_some] at h
    cases ht : evTrace cx fx call ops r s.1 s.2 with
    | none => simp [ht] at h
    | some q =>
     obtain ⟨st2, z2⟩ := q
     simp [ht] at h
     obtain ⟨rfl, rfl⟩ := h
     obtain ⟨h1, h2, h3⟩ := pc ht
     refine ⟨by simp [h1], by simp, fun p j hp => ?_⟩
     cases p with
     | zero =>
      simp at hp; subst hp
      exact ⟨o, (ρ, H), s, ho, by simp, by simpa using h2, hs⟩
     | succ p =>
      simp at hp
      obtain ⟨o2, s2, t2, k1, k2, k3, k4⟩ := h3 p j hp
      exact ⟨o2, s2, t2, k1, by simpa using k2, by simpa using k3, k4⟩
def putO (ρ : Env) (dst : Option Nat) (v : V) : Env := match dst with | none => ρ | some d => ρ.put d v
theorem jW {o : Oper} {ρ ρ' : Env} {H H' : Heap} (h : evOper cx fx call ops o ρ H = some (ρ', H')) :
  ∃ b v, wantedV ops o ρ = some b ∧ (if b then evOp cx fx call o ρ H else some (.skip, H)) = some (v, H') ∧ ρ' = putO ρ o.dst v ∧ ∀ d, o.dst = some d → d < fx.n := by
 unfold evOper at h
 cases hw : wantedV ops o ρ with
 | none => simp [hw] at h
 | some b =>
  simp only [hw, Option.bind_some] at h
  cases hv : (if b then evOp cx fx call o ρ H else some (.skip, H)) with
  | none => rw [hv] at h; simp at h
  | some r =>
   obtain ⟨v, H1⟩ := r
   rw [hv] at h
   simp only [Option.bind_some] at h
   refine ⟨b, v, rfl, ?_⟩
   cases hd : o.dst with
   | none => simp [hd] at h; obtain ⟨rfl, rfl⟩ := h; exact ⟨hv, rfl, by simp⟩
   | some d =>
    simp only [hd] at h
    split at h
    ·rename_i hlt; cases h; exact ⟨hv, rfl, fun d' hd' => by cases hd'; exact hlt⟩
    ·cases h
theorem Ag {r : Option Nat} (hC : CallOk cx call) {i : Nat} {o : Oper} (hi : ops[i]? = some o) {ρ : Env} {b : Bool} {v : V} {H H' : Heap} (hw : wantedV ops o ρ = some b)
  (h : (if b then evOp cx fx call o ρ H else some (.skip, H)) = some (v, H')) {g : G} {w : World} {a : Act} (hS : Sim fx.bs g H w) (hE : ERel g w (seen ops o ρ) a.tmps fx.n) {K : Act → World → Prop} {Q : Exit → Act → World → Prop}
  (hn : ∀ v' w' g', Out fx.bs g w H g' w' H' → VRel g' w' v v' → K (a.put o.dst v') w') : wpOpIn (FR r) 0 cx.P ops Q i K a w := by
 unfold wpOpIn
 rw [← kS] at hw
 simp only [hi, iH hw hE]
 cases b with
 | true =>
  simp only [if_true] at h ⊢
  rw [← tc (ρ := seen ops o ρ) o (fun x hx => kY hx)] at h
  exact mc (jV h) (tR rfl hC h hS hE hn)
 | false =>
  simp only [Bool.false_eq_true, if_false] at h ⊢
  cases h
  exact ⟨fun _ _ => trivial, hn _ _ g (Out.refl hS) .skip⟩
theorem sn {r : Option Nat} (hC : CallOk cx call) {i : Nat} {o : Oper} (hi : ops[i]? = some o) (hq : isE o = false) {ρ : Env} {b : Bool} {v : V} {Hp Hp' : Heap} (hw : wantedV ops o ρ = some b)
  (h : (if b then evOp cx fx call o ρ Hp else some (.skip, Hp)) = some (v, Hp')) :
  (Hp' = Hp ∧ ∀ (g : G) (w : World) (H : Heap) (a : Act), Sim fx.bs g H w → ERel g w (seen ops o ρ) a.tmps fx.n → sees cx.P o ρ Hp H → ∀ (K : Act → World → Prop) (Q : Exit → Act → World → Prop),
   (∀ v' w' g', Out fx.bs g w H g' w' H → VRel g' w' v v' → K (a.put o.dst v') w') → wpOpIn (FR r) 0 cx.P ops Q i K a w) ∨
  (∃ ob, Hp' = Hp ++ [ob] ∧ isRA cx.P o = true ∧ (∀ t x, o.op ≠ .load t x) ∧ (∀ t m k ok, o.op ≠ .lookup t m k ok) ∧
   ∀ (g : G) (w : World) (H : Heap) (a : Act), Open fx.bs g H Hp.length ob → Sim fx.bs g H w → ERel g w (seen ops o ρ) a.tmps fx.n → ∀ (K : Act → World → Prop) (Q : Exit → Act → World → Prop),
    (∀ v' w' g', Lay fx.bs g w H Hp.length g' w' → VRel g' w' v v' → K (a.put o.dst v') w') → wpOpIn (FR r) 0 cx.P ops Q i K a w) := by
 cases b with
 | false =>
  simp only [Bool.false_eq_true, if_false] at h
  cases h
  refine .inl ⟨rfl, fun g w H a hS hE _ K Q hn => ?_⟩
  unfold wpOpIn
  rw [← kS] at hw
  simp only [hi, iH hw hE, Bool.false_eq_true, if_false]
  exact ⟨fun _ _ => trivial, hn _ _ g (Out.refl hS) .skip⟩
 | true =>
  simp only [if_true] at h
  rw [← tc (ρ := seen ops o ρ) o (fun x hx => kY hx)] at h
  rcases yT hq h with ⟨h1, h2⟩ | ⟨ob, h1, h2, h3, h4, h5⟩
  ·refine .inl ⟨h1, fun g w H a hS hE hsee K Q hn => ?_⟩
   unfold wpOpIn
   rw [← kS] at hw
   simp only [hi, iH hw hE, if_true]
   refine mc (jV h) (tR rfl hC (h2 H ?_) hS hE hn)
   unfold sees at hsee ⊢
   split
   ·rename_i t x ho
    simp only [ho] at hsee
    rw [kY (by rw [ho]; simp [Op.operands])]
    exact hsee
   ·rename_i t m k ok ho
    simp only [ho] at hsee
    rw [kY (by rw [ho]; simp [Op.operands]), kY (by rw [ho]; simp [Op.operands])]
    exact hsee
   ·trivial
  ·refine .inr ⟨ob, h1, h2, h3, h4, fun g w H a hO hS hE K Q hn => ?_⟩
   unfold wpOpIn
   rw [← kS] at hw
   simp only [hi, iH hw hE, if_true]
   exact mc (jV h) (h5 _ _ _ _ _ _ _ _ hO hS hE hn)
end
end Go.E
namespace Go.E
theorem yU {P : Program} {t : TypeId} {p v : V} {H : Heap} (ob : HObj) (h : loadV P t p H = some v) : loadV P t p (H ++ [ob]) = some v := by
 unfold loadV at h ⊢
 split at h
 ·exact h
 ·rename_i id off
  cases hH : H[id]? with
  | none => simp [hH] at h
  | some x =>
   have hlt := (List.getElem?_eq_some_iff.1 hH).1
   simp only [List.getElem?_append_left hlt]
   simpa [hH] using h
 ·rename_i id ver i off
  cases hH : H[id]? with
  | none => simp [hH] at h
  | some x =>
   have hlt := (List.getElem?_eq_some_iff.1 hH).1
   simp only [List.getElem?_append_left hlt]
   simpa [hH] using h
 ·cases h
theorem wa {P : Program} {t : TypeId} {m k v : V} {ok : Bool} {H : Heap} (ob : HObj) (h : lookupV P t m k ok H = some v) : lookupV P t m k ok (H ++ [ob]) = some v := by
 have key : ∀ id x, H[id]? = some x → (H ++ [ob])[id]? = some x := fun id x hH => by
  rw [List.getElem?_append_left (List.getElem?_eq_some_iff.1 hH).1]; exact hH
 cases m with
 | map id =>
  cases hH : H[id]? with
  | none =>
   unfold lookupV at h; simp only [hH] at h
   split at h
   ·split at h <;> simp at h
   ·cases h
  | some x =>
   unfold lookupV at h ⊢
   simp only [key id x hH]
   simpa only [hH] using h
 | _ => simpa [lookupV] using h
section
variable {cx : Cx} {call : CallSem} {fx : Fx} {ops : Array Oper}
structure Tr (cx : Cx) (call : CallSem) (fx : Fx) (ops : Array Oper) (ord : List Nat) (S : Nat → Env × Heap) : Prop where
 nd : nodupB ord = true
 topo : topoOk ops [] ord = true
 eff : effOk ops (anc ops) ord = true
 tmp : tmpOk ops (anc ops) = true
 step : ∀ p i, ord[p]? = some i → ∃ o, ops[i]? = some o ∧ evOper cx fx call ops o (S p).1 (S p).2 = some (S (p + 1))
 obs : ∀ p q i j o u, p < q → ord[p]? = some i → ord[q]? = some j → ops[i]? = some o → ops[j]? = some u → isRA cx.P o = true → isE u = true → i ∉ (anc ops).getD j [] →
  obsEq cx.P o (S p).1 (S p).2 (S q).2 (S (q + 1)).2
variable {ord : List Nat} {S : Nat → Env × Heap}
theorem Tr.edges (t : Tr cx call fx ops ord S) {p i : Nat} {o : Oper} (hp : ord[p]? = some i) (ho : ops[i]? = some o) : ∀ e ∈ edgesOf o, e ∈ ord.take p := by
 obtain ⟨o2, h1, h2⟩ := uC t.topo hp
 rw [ho] at h1; cases h1
 simpa using h2
theorem kJ {ord : List Nat} {p i : Nat} : i ∈ ord.take p ↔ ∃ q, q < p ∧ ord[q]? = some i := by
 constructor
 ·intro h
  obtain ⟨q, hq⟩ := List.getElem?_of_mem h
  rw [List.getElem?_take] at hq
  split at hq
  ·rename_i hlt; exact ⟨q, hlt, hq⟩
  ·cases hq
 ·rintro ⟨q, h1, h2⟩
  exact List.mem_of_getElem? (i := q) (by rw [List.getElem?_take, if_pos h1]; exact h2)
theorem Tr.closed (t : Tr cx call fx ops ord S) (p : Nat) : Closed ops (· ∈ ord.take p) := by
 intro i o ho hi e he
 obtain ⟨q, h1, h2⟩ := kJ.1 hi
 obtain ⟨q2, h3, h4⟩ := kJ.1 (t.edges h2 ho e he)
 exact kJ.2 ⟨q2, by omega, h4⟩
theorem Tr.ahead (t : Tr cx call fx ops ord S) {p i j : Nat} {o : Oper} (hp : ord[p]? = some i) (ho : ops[i]? = some o) (hj : j ∈ (anc ops).getD i []) : ∃ q, q < p ∧ ord[q]? = some j :=
 kJ.1 (mz ho (t.closed p) (t.edges hp ho) hj)
theorem Tr.op (t : Tr cx call fx ops ord S) {p i : Nat} (hp : ord[p]? = some i) : ∃ o, ops[i]? = some o := by
 obtain ⟨o, h, _⟩ := t.step p i hp; exact ⟨o, h⟩
theorem Tr.frame (t : Tr cx call fx ops ord S) {d q1 : Nat} : ∀ (k : Nat), q1 + k ≤ ord.length → (∀ p i o, q1 ≤ p → p < q1 + k → ord[p]? = some i → ops[i]? = some o → o.dst ≠ some d) → (S (q1 + k)).1 d = (S q1).1 d
 | 0, _, _ => rfl
 | k + 1, hk, h => by
  rw [← t.frame k (by omega) (fun p i o h1 h2 => h p i o h1 (by omega))]
  have hlt : q1 + k < ord.length := by omega
  obtain ⟨o, ho, hs⟩ := t.step (q1 + k) ord[q1 + k] (by simp [hlt])
  obtain ⟨b, v, _, _, h3, _⟩ := jW hs
  rw [show q1 + (k + 1) = q1 + k + 1 by omega, h3]
  have hd := h (q1 + k) _ o (by omega) (by omega) (by simp [hlt]) ho
  unfold putO
  cases hdst : o.dst with
  | none => rfl
  | some d' => simp only [Env.put]; rw [if_neg (fun e => hd (by rw [hdst, e]))]
structure DInv (fx : Fx) (ops : Array Oper) (ord : List Nat) (S : Nat → Env × Heap) (g0 : G) (w0 : World) (ds : List Deferred) (L : Nat → Prop) (T : Nat) (a : Act) (w : World) (g : G) : Prop where
 closed : Closed ops L
 Tle : T ≤ ord.length
 before : ∀ p i o, p < T → ord[p]? = some i → ops[i]? = some o → isE o = true → L i
 after : ∀ p i, T ≤ p → ord[p]? = some i → ¬ L i
 at_ : T < ord.length → ∃ i o, ord[T]? = some i ∧ ops[i]? = some o ∧ isE o = true
 sim : Sim fx.bs g (S T).2 w
 ext : Ext g0 w0 g w
 dom : ∀ id, g.φ id ≠ none ↔ g0.φ id ≠ none ∨ ∃ p i, ord[p]? = some i ∧ L i ∧ (S p).2.length ≤ id ∧ id < (S (p + 1)).2.length
 mono : ∀ p, p < T → (S p).2.length ≤ (S (p + 1)).2.length
 env : ∀ d q, q ≤ ord.length → (∀ p i o, p < q → ord[p]? = some i → ops[i]? = some o → o.dst = some d → L i) → (∀ p i o, q ≤ p → ord[p]? = some i → ops[i]? = some o → o.dst = some d → ¬ L i) →
  VRel g w ((S q).1 d) (a.tmps.getD d Go.undef)
 size : a.tmps.size = fx.n
 defers : a.defers = ds
theorem Tr.next (t : Tr cx call fx ops ord S) (hC : CallOk cx call) {g : G} {w : World} : ∀ (k q : Nat), q + k = ord.length → Sim fx.bs g (S q).2 w →
  ∃ T, q ≤ T ∧ T ≤ ord.length ∧ (∀ p i o, q ≤ p → p < T → ord[p]? = some i → ops[i]? = some o → isE o = false) ∧ (T < ord.length → ∃ i o, ord[T]? = some i ∧ ops[i]? = some o ∧ isE o = true) ∧
   Sim fx.bs g (S T).2 w ∧ ∀ p, q ≤ p → p < T → (S p).2.length ≤ (S (p + 1)).2.length
 | 0, q, hq, hS => ⟨q, Nat.le_refl _, by omega, fun p i o h1 h2 => by omega, fun h => by omega, hS, fun p h1 h2 => by omega⟩
 | k + 1, q, hq, hS => by
  have hlt : q < ord.length := by omega
  have hp : ord[q]? = some ord[q] := by simp [hlt]
  obtain ⟨o, ho, hs⟩ := t.step q _ hp
  cases he : isE o with
  | true => exact ⟨q, Nat.le_refl _, by omega, fun p i o h1 h2 => by omega, fun _ => ⟨_, o, hp, ho, he⟩, hS, fun p h1 h2 => by omega⟩
  | false =>
   obtain ⟨b, v, h1, h2, h3, h4⟩ := jW hs
   have hS' : Sim fx.bs g (S (q + 1)).2 w ∧ (S q).2.length ≤ (S (q + 1)).2.length := by
    rcases sn (r := none) hC ho he h1 h2 with ⟨h5, _⟩ | ⟨ob, h5, _⟩
    ·rw [h5]; exact ⟨hS, Nat.le_refl _⟩
    ·rw [h5]; exact ⟨hS.more ob, by simp⟩
   obtain ⟨T, k1, k2, k3, k4, k5, k6⟩ := t.next hC k (q + 1) (by omega) hS'.1
   refine ⟨T, by omega, k2, fun p i o' h5 h6 h7 h8 => ?_, k4, k5, fun p h5 h6 => ?_⟩
   ·by_cases e : p = q
    ·subst e; rw [hp] at h7; cases h7; rw [ho] at h8; cases h8; exact he
    ·exact k3 p i o' (by omega) h6 h7 h8
   ·by_cases e : p = q
    ·subst e; exact hS'.2
    ·exact k6 p (by omega) h6
section
variable {g0 : G} {w0 : World} {ds : List Deferred} {L : Nat → Prop} {T : Nat} {a : Act} {w : World} {g : G}
theorem DInv.len (D : DInv fx ops ord S g0 w0 ds L T a w g) {p : Nat} : ∀ (k : Nat), p + k ≤ T → (S p).2.length ≤ (S (p + k)).2.length
 | 0, _ => Nat.le_refl _
 | k + 1, h => Nat.le_trans (D.len k (by omega)) (D.mono (p + k) (by omega))
theorem DInv.anc (D : DInv fx ops ord S g0 w0 ds L T a w g) {i j : Nat} {o : Oper} (ho : ops[i]? = some o) (hi : L i) (hj : j ∈ (Go.E.anc ops).getD i []) : L j :=
 mz ho D.closed (D.closed i o ho hi) hj
theorem DInv.seen (D : DInv fx ops ord S g0 w0 ds L T a w g) (t : Tr cx call fx ops ord S) {p i : Nat} {o : Oper} (hp : ord[p]? = some i) (ho : ops[i]? = some o) (hi : ¬ L i) (he : ∀ e ∈ edgesOf o, L e) :
  ERel g w (seen ops o (S p).1) a.tmps fx.n := by
 refine ⟨D.size, fun d => ?_⟩
 unfold Go.E.seen
 split
 case isFalse => exact .undef _
 rename_i hd
 have hplt := (List.getElem?_eq_some_iff.1 hp).1
 refine D.env d p (by omega) (fun p2 j u h1 h2 h3 h4 => ?_) (fun p2 j u h1 h2 h3 h4 hj => ?_)
 ·have hne : j ≠ i := fun e => by subst e; have := dm t.nd hp h2; omega
  rcases sk t.tmp h3 ho h4 hne with h5 | h5 | h5
  ·exact mz ho D.closed he h5
  ·obtain ⟨q, h6, h7⟩ := t.ahead h2 h3 h5
   have := dm t.nd hp h7; omega
  ·exact absurd hd h5.1
 ·by_cases e : p2 = p
  ·subst e; rw [hp] at h2; cases h2; exact hi hj
  ·have hne : j ≠ i := fun e => hi (e ▸ hj)
   rcases sk t.tmp h3 ho h4 hne with h5 | h5 | h5
   ·obtain ⟨q, h6, h7⟩ := t.ahead hp ho h5
    have := dm t.nd h2 h7; omega
   ·exact hi (D.anc h3 hj h5)
   ·exact h5.1 hd
theorem DInv.env' (D : DInv fx ops ord S g0 w0 ds L T a w g) (t : Tr cx call fx ops ord S) {p i : Nat} {o : Oper} (hp : ord[p]? = some i) (ho : ops[i]? = some o) (hi : ¬ L i) {v : V} {v' : Value} {g' : G} {w' : World}
  (hS : (S (p + 1)).1 = putO (S p).1 o.dst v) (hn : ∀ d, o.dst = some d → d < fx.n) (x : Ext g w g' w') (hv : VRel g' w' v v') :
  ∀ d q, q ≤ ord.length → (∀ p2 j o2, p2 < q → ord[p2]? = some j → ops[j]? = some o2 → o2.dst = some d → (L j ∨ j = i)) → (∀ p2 j o2, q ≤ p2 → ord[p2]? = some j → ops[j]? = some o2 → o2.dst = some d → ¬ (L j ∨ j = i)) →
   VRel g' w' ((S q).1 d) ((a.put o.dst v').tmps.getD d Go.undef) := by
 intro d q hq h1 h2
 by_cases hd : o.dst = some d
 ·have hlt : p < q := by
   by_cases h : q ≤ p
   ·exact absurd (.inr rfl) (h2 p i o h hp ho hd)
   ·omega
  have hf := t.frame (d := d) (q1 := p + 1) (q - (p + 1)) (by omega) (fun p2 j u h3 h4 h5 h6 h7 => by
   have hne : i ≠ j := fun e => by subst e; have := dm t.nd hp h5; omega
   have hL : L j := (h1 p2 j u (by omega) h5 h6 h7).resolve_right (fun e => hne e.symm)
   rcases sk t.tmp ho h6 hd hne with h8 | h8 | h8
   ·exact hi (D.anc h6 hL h8)
   ·obtain ⟨q2, h9, h10⟩ := t.ahead hp ho h8
    have := dm t.nd h5 h10; omega
   ·exact h8.2 h7)
  rw [show p + 1 + (q - (p + 1)) = q by omega] at hf
  rw [hf, hS]
  have hdl : d < a.tmps.size := by rw [D.size]; exact hn d hd
  have e1 : (a.put o.dst v').tmps.getD d Go.undef = v' := by
   rw [hd]
   have : d < (a.tmps.setIfInBounds d v').size := by simpa using hdl
   simp [Act.put, Array.getD, hdl]
  rw [e1]
  simp only [hd, putO, Env.put, if_true]
  exact hv
 ·have e1 : (a.put o.dst v').tmps.getD d Go.undef = a.tmps.getD d Go.undef := by
   cases hdst : o.dst with
   | none => rfl
   | some d2 =>
    have hne : d2 ≠ d := fun e => hd (by rw [hdst, e])
    simp [Act.put, Array.getD_eq_getD_getElem?, Array.getElem?_setIfInBounds_ne hne]
  rw [e1]
  refine (D.env d q hq (fun p2 j u h3 h4 h5 h6 => ?_) (fun p2 j u h3 h4 h5 h6 h7 => h2 p2 j u h3 h4 h5 h6 (.inl h7))).mono x
  rcases h1 p2 j u h3 h4 h5 h6 with h7 | h7
  ·exact h7
  ·subst h7; rw [ho] at h5; cases h5; exact absurd h6 hd
theorem DInv.closed' (D : DInv fx ops ord S g0 w0 ds L T a w g) {i : Nat} {o : Oper} (ho : ops[i]? = some o) (he : ∀ e ∈ edgesOf o, L e) : Closed ops fun j => L j ∨ j = i := by
 intro j u hu hj e hee
 rcases hj with hj | rfl
 ·exact .inl (D.closed j u hu hj e hee)
 ·rw [ho] at hu; cases hu; exact .inl (he e hee)
theorem mN (a : Act) (d : Option Nat) (v : Value) : (a.put d v).tmps.size = a.tmps.size := by cases d <;> simp [Act.put]
theorem ib (a : Act) (d : Option Nat) (v : Value) : (a.put d v).defers = a.defers := by cases d <;> rfl
theorem DInv.chain (D : DInv fx ops ord S g0 w0 ds L T a w g) (t : Tr cx call fx ops ord S) (hC : CallOk cx call) {p i : Nat} {o : Oper} (hp : ord[p]? = some i) (ho : ops[i]? = some o) (hi : ¬ L i) (hq : isE o = false)
  (hr : isRA cx.P o = true) (I : Heap → Prop) (hI1 : ∀ q H', p ≤ q → obsEq cx.P o (S p).1 (S p).2 (S q).2 H' → I (S q).2 → I H') (hI2 : ∀ H ob, I H → I (H ++ [ob])) :
  ∀ (k q : Nat), p ≤ q → (q = p → ∀ j u, ord[q]? = some j → ops[j]? = some u → True) → q + k ≤ T → I (S q).2 → I (S (q + k)).2
 | 0, _, _, _, _, h => h
 | k + 1, q, hpq, hx, hT, h => by
  have ih := D.chain t hC hp ho hi hq hr I hI1 hI2 k q hpq hx (by omega) h
  have hlt : q + k < ord.length := by have := D.Tle; omega
  have hq2 : ord[q + k]? = some ord[q + k] := by simp [hlt]
  obtain ⟨u, hu, hs⟩ := t.step (q + k) _ hq2
  cases he : isE u with
  | true =>
   have hne : q + k ≠ p := fun e => by subst e; rw [hp] at hq2; cases hq2; rw [ho] at hu; cases hu; rw [hq] at he; cases he
   have hL := D.before (q + k) _ u (by omega) hq2 hu he
   exact hI1 (q + k) _ (by omega) (t.obs p (q + k) i _ o u (by omega) hp hq2 ho hu hr he (fun hm => hi (D.anc hu hL hm))) ih
  | false =>
   obtain ⟨b, v, h1, h2, h3, h4⟩ := jW hs
   rw [show q + (k + 1) = q + k + 1 by omega]
   rcases sn (r := none) hC hu he h1 h2 with ⟨h5, _⟩ | ⟨ob, h5, _⟩
   ·rw [h5]; exact ih
   ·rw [h5]; exact hI2 _ _ ih
theorem DInv.step {r : Option Nat} (D : DInv fx ops ord S g0 w0 ds L T a w g) (t : Tr cx call fx ops ord S) (hC : CallOk cx call) (hb : ∀ id, g0.φ id ≠ none → id < (S 0).2.length) (hb0 : fx.bs.headD 0 ≤ (S 0).2.length)
  {p i : Nat} {o : Oper} (hp : ord[p]? = some i) (ho : ops[i]? = some o) (hi : ¬ L i) (he : ∀ e ∈ edgesOf o, L e)
  {K : Act → World → Prop} {Q : Exit → Act → World → Prop} (hK : ∀ a' w' g' T', DInv fx ops ord S g0 w0 ds (fun j => L j ∨ j = i) T' a' w' g' → K a' w') : wpOpIn (FR r) 0 cx.P ops Q i K a w := by
 obtain ⟨o2, ho2, hs⟩ := t.step p i hp
 rw [ho] at ho2; cases ho2
 obtain ⟨b, v, hw, hv, hput, hn⟩ := jW hs
 have hE := D.seen t hp ho hi he
 have hplt := (List.getElem?_eq_some_iff.1 hp).1
 cases hq : isE o with
 | true =>
  have hpT : p = T := by
   rcases Nat.lt_trichotomy p T with h | h | h
   ·exact absurd (D.before p i o h hp ho hq) hi
   ·exact h
   ·obtain ⟨j, u, h1, h2, h3⟩ := D.at_ (by omega)
    exact absurd (mz ho D.closed he (sj t.eff h h1 hp h2 h3)) (D.after T j (Nat.le_refl _) h1)
  subst hpT
  refine Ag hC ho hw hv D.sim hE (fun v' w' g' o1 r1 => ?_)
  obtain ⟨T', k1, k2, k3, k4, k5, k6⟩ := t.next hC (ord.length - (p + 1)) (p + 1) (by omega) o1.sim
  refine hK _ w' g' T' ⟨D.closed' ho he, k2, fun p2 j u h1 h2 h3 h4 => ?_, fun p2 j h1 h2 h3 => ?_, k4, k5, D.ext.trans o1.ext, fun id => ?_, fun p2 h1 => ?_, D.env' t hp ho hi hput hn o1.ext r1, by rw [mN, D.size], by rw [ib, D.defers]⟩
  ·rcases Nat.lt_trichotomy p2 p with h | h | h
   ·exact .inl (D.before p2 j u h h2 h3 h4)
   ·subst h; rw [hp] at h2; cases h2; exact .inr rfl
   ·rw [k3 p2 j u (by omega) h1 h2 h3] at h4; cases h4
  ·rcases h3 with h3 | h3
   ·exact D.after p2 j (by omega) h2 h3
   ·subst h3; have := dm t.nd hp h2; omega
  ·rw [o1.dom, D.dom]
   constructor
   ·rintro ((h | ⟨p2, j, h1, h2, h3⟩) | h)
    ·exact .inl h
    ·exact .inr ⟨p2, j, h1, .inl h2, h3⟩
    ·exact .inr ⟨p, i, hp, .inr rfl, h⟩
   ·rintro (h | ⟨p2, j, h1, h2, h3⟩)
    ·exact .inl (.inl h)
    ·rcases h2 with h2 | h2
     ·exact .inl (.inr ⟨p2, j, h1, h2, h3⟩)
     ·subst h2
      have := dm t.nd hp h1
      subst this
      exact .inr h3
  ·rcases Nat.lt_trichotomy p2 p with h | h | h
   ·exact D.mono p2 h
   ·subst h; exact o1.len
   ·exact k6 p2 (by omega) h1
 | false =>
  have hpT : p < T := by
   rcases Nat.lt_trichotomy p T with h | h | h
   ·exact h
   ·subst h
    obtain ⟨j, u, h1, h2, h3⟩ := D.at_ (by omega)
    rw [hp] at h1; cases h1; rw [ho] at h2; cases h2; rw [hq] at h3; cases h3
   ·obtain ⟨j, u, h1, h2, h3⟩ := D.at_ (by omega)
    exact absurd (mz ho D.closed he (sj t.eff h h1 hp h2 h3)) (D.after T j (Nat.le_refl _) h1)
  have hafter : ∀ p2 j, T ≤ p2 → ord[p2]? = some j → ¬ (L j ∨ j = i) := fun p2 j h1 h2 h3 => by
   rcases h3 with h3 | h3
   ·exact D.after p2 j h1 h2 h3
   ·subst h3; have := dm t.nd hp h2; omega
  rcases sn (r := r) hC ho hq hw hv with ⟨h5, h6⟩ | ⟨ob, h5, hr, hnl, hnk, h6⟩
  ·have hsees : sees cx.P o (S p).1 (S p).2 (S T).2 := by
    unfold sees
    split
    ·rename_i t' x hop
     intro y hy
     have := D.chain t hC hp ho hi hq (by simp [isRA, hop]) (fun H => loadV cx.P t' (opnd (S p).1 x) H = some y) (fun q H' _ h1 h2 => by
      simp only [obsEq, hop] at h1; rw [h1]; exact h2) (fun H ob h => yU ob h) (T - p) p (Nat.le_refl _) (fun _ _ _ _ _ => trivial) (by omega) hy
     rwa [show p + (T - p) = T by omega] at this
    ·rename_i t' m k ok hop
     intro y hy
     have := D.chain t hC hp ho hi hq (by simp [isRA, hop]) (fun H => lookupV cx.P t' (opnd (S p).1 m) (opnd (S p).1 k) ok H = some y) (fun q H' _ h1 h2 => by
      simp only [obsEq, hop] at h1; rw [h1]; exact h2) (fun H ob h => wa ob h) (T - p) p (Nat.le_refl _) (fun _ _ _ _ _ => trivial) (by omega) hy
     rwa [show p + (T - p) = T by omega] at this
    ·trivial
   refine h6 g w (S T).2 a D.sim hE hsees K Q (fun v' w' g' o1 r1 => ?_)
   refine hK _ w' g' T ⟨D.closed' ho he, D.Tle, fun p2 j u h1 h2 h3 h4 => .inl (D.before p2 j u h1 h2 h3 h4), hafter, D.at_, o1.sim, D.ext.trans o1.ext, fun id => ?_, D.mono, D.env' t hp ho hi hput hn o1.ext r1, by rw [mN, D.size], by rw [ib, D.defers]⟩
   rw [o1.dom, D.dom]
   constructor
   ·rintro ((h | ⟨p2, j, h1, h2, h3⟩) | h)
    ·exact .inl h
    ·exact .inr ⟨p2, j, h1, .inl h2, h3⟩
    ·omega
   ·rintro (h | ⟨p2, j, h1, h2, h3⟩)
    ·exact .inl (.inl h)
    ·rcases h2 with h2 | h2
     ·exact .inl (.inr ⟨p2, j, h1, h2, h3⟩)
     ·subst h2
      have := dm t.nd hp h1
      subst this
      rw [h5] at h3; omega
  ·have hlen1 : (S (p + 1)).2.length = (S p).2.length + 1 := by rw [h5]; simp
   have hopen : Open fx.bs g (S T).2 (S p).2.length ob := by
    refine ⟨?_, ?_, ?_⟩
    ·cases hφ : g.φ (S p).2.length with
     | none => rfl
     | some l =>
      exfalso
      rcases (D.dom (S p).2.length).1 (by rw [hφ]; simp) with h | ⟨p2, j, h1, h2, h3, h4⟩
      ·have h7 := hb _ h
       have h8 := D.len (p := 0) p (by omega)
       rw [Nat.zero_add] at h8; omega
      ·have hp2 : p2 < T := by
        by_cases h : T ≤ p2
        ·exact absurd h2 (D.after p2 j h h1)
        ·omega
       rcases Nat.lt_trichotomy p2 p with h | h | h
       ·have h8 := D.len (p := p2 + 1) (p - (p2 + 1)) (by omega)
        rw [show p2 + 1 + (p - (p2 + 1)) = p by omega] at h8; omega
       ·subst h; rw [hp] at h1; cases h1; exact hi h2
       ·have h8 := D.len (p := p + 1) (p2 - (p + 1)) (by omega)
        rw [show p + 1 + (p2 - (p + 1)) = p2 by omega] at h8; omega
    ·have h8 := D.len (p := 0) p (by omega)
     rw [Nat.zero_add] at h8; omega
    ·have := D.chain t hC hp ho hi hq hr (fun H => H[(S p).2.length]? = some ob) (fun q H' _ h1 h2 => by
      unfold obsEq at h1
      split at h1
      ·rename_i t' x hop; exact absurd hop (hnl t' x)
      ·rename_i t' m k ok hop; exact absurd hop (hnk t' m k ok)
      ·rw [h1]; exact h2) (fun H ob' h => by rw [List.getElem?_append_left (List.getElem?_eq_some_iff.1 h).1]; exact h) (T - (p + 1)) (p + 1) (by omega) (fun _ _ _ _ _ => trivial) (by omega) (by rw [h5]; simp)
     rwa [show p + 1 + (T - (p + 1)) = T by omega] at this
   refine h6 g w (S T).2 a hopen D.sim hE K Q (fun v' w' g' o1 r1 => ?_)
   refine hK _ w' g' T ⟨D.closed' ho he, D.Tle, fun p2 j u h1 h2 h3 h4 => .inl (D.before p2 j u h1 h2 h3 h4), hafter, D.at_, o1.sim, D.ext.trans o1.ext, fun id => ?_, D.mono, D.env' t hp ho hi hput hn o1.ext r1, by rw [mN, D.size], by rw [ib, D.defers]⟩
   rw [o1.dom, D.dom]
   constructor
   ·rintro ((h | ⟨p2, j, h1, h2, h3⟩) | h)
    ·exact .inl h
    ·exact .inr ⟨p2, j, h1, .inl h2, h3⟩
    ·subst h; exact .inr ⟨p, i, hp, .inr rfl, Nat.le_refl _, by omega⟩
   ·rintro (h | ⟨p2, j, h1, h2, h3⟩)
    ·exact .inl (.inl h)
    ·rcases h2 with h2 | h2
     ·exact .inl (.inr ⟨p2, j, h1, h2, h3⟩)
     ·subst h2
      have := dm t.nd hp h1
      subst this
      exact .inr (by omega)
end
end
end Go.E
namespace Go.E
section
variable {cx : Cx} {call : CallSem} {fx : Fx} {ops : Array Oper} {ord : List Nat} {S : Nat → Env × Heap}
theorem rK {o : Oper} {e : Nat} : e ∈ edgesOf o ↔ ∃ x ∈ o.after.toList, Region.binds .any x = true ∧ x.on = e := by
 unfold edgesOf
 simp only [List.mem_filterMap]
 constructor
 ·rintro ⟨x, h1, h2⟩
  split at h2
  ·rename_i hb; cases h2; exact ⟨x, h1, hb, rfl⟩
  ·cases h2
 ·rintro ⟨x, h1, h2, h3⟩
  exact ⟨x, h1, by rw [if_pos h2, h3]⟩
def Lof (listed : Array Bool) : Nat → Prop := fun i => listed.getD i false = true
theorem kZ {ops : Array Oper} {listed : Array Bool} (hs : listed.size = ops.size) {i : Nat} : i ∈ Region.ready .any ops listed ↔ ∃ o, ops[i]? = some o ∧ ¬ Lof listed i ∧ ∀ e ∈ edgesOf o, Lof listed e := by
 unfold Region.ready
 rw [List.mem_filter, List.mem_range]
 have key : ∀ (h : i < listed.size), listed.getD i true = listed[i] ∧ listed.getD i false = listed[i] := fun h => by simp [Array.getD, h]
 constructor
 ·rintro ⟨h1, h2⟩
  simp only [Bool.and_eq_true, Bool.not_eq_true'] at h2
  obtain ⟨h3, h4⟩ := h2
  cases ho : ops[i]? with
  | none => rw [ho] at h4; simp at h4
  | some o =>
   rw [ho] at h4
   simp only [Option.map_some, Option.getD_some] at h4
   refine ⟨o, rfl, ?_, fun e he => ?_⟩
   ·unfold Lof; rw [(key (by omega)).2, ← (key (by omega)).1, h3]; simp
   ·obtain ⟨x, hx, hb, rfl⟩ := rK.1 he
    rw [Array.all_eq_true'] at h4
    have := h4 x (by simpa using hx)
    simpa [hb, Lof] using this
 ·rintro ⟨o, ho, h1, h2⟩
  have hi : i < ops.size := (Array.getElem?_eq_some_iff.1 ho).1
  refine ⟨hi, ?_⟩
  simp only [ho, Option.map_some, Option.getD_some, Bool.and_eq_true, Bool.not_eq_true']
  refine ⟨?_, ?_⟩
  ·rw [(key (by omega)).1, ← (key (by omega)).2]
   unfold Lof at h1; simpa using h1
  ·rw [Array.all_eq_true']
   intro x hx
   cases hb : Region.binds .any x with
   | false => rfl
   | true => simpa [Lof] using h2 x.on (rK.2 ⟨x, by simpa using hx, hb, rfl⟩)
theorem yV (t : Tr cx call fx ops ord S) (hall : ∀ i, i < ops.size → i ∈ ord) {listed : Array Bool} (hs : listed.size = ops.size) {i : Nat} (hi : i < ops.size) (hn : ¬ Lof listed i) : Region.ready .any ops listed ≠ [] := by
 obtain ⟨p, hp⟩ := List.getElem?_of_mem (hall i hi)
 clear hi
 induction p using Nat.strongRecOn generalizing i with
 | ind p ih =>
  obtain ⟨o, ho⟩ := t.op hp
  by_cases hall : ∀ e ∈ edgesOf o, Lof listed e
  ·exact List.ne_nil_of_mem ((kZ hs).2 ⟨o, ho, hn, hall⟩)
  ·simp only [Classical.not_forall] at hall
   obtain ⟨e, he, hne⟩ := hall
   obtain ⟨q, hq, hqe⟩ := kJ.1 (t.edges hp ho e he)
   exact ih q hq hne hqe
theorem mA {listed : Array Bool} {i : Nat} (hi : i < listed.size) (j : Nat) : Lof (listed.setIfInBounds i true) j ↔ Lof listed j ∨ j = i := by
 unfold Lof
 rw [Array.getD_eq_getD_getElem?, Array.getD_eq_getD_getElem?]
 by_cases e : j = i
 ·subst e
  simp [hi]
 ·rw [Array.getElem?_setIfInBounds_ne (Ne.symm e)]
  simp [e]
theorem DInv.congr {g0 : G} {w0 : World} {ds : List Deferred} {L L' : Nat → Prop} (h : ∀ j, L j ↔ L' j) {T : Nat} {a : Act} {w : World} {g : G} (D : DInv fx ops ord S g0 w0 ds L T a w g) : DInv fx ops ord S g0 w0 ds L' T a w g := by
 have : L = L' := funext fun j => propext (h j)
 exact this ▸ D
theorem GL {r : Option Nat} (t : Tr cx call fx ops ord S) (hAll : ∀ i, i < ops.size → i ∈ ord) (hC : CallOk cx call) {g0 : G} {w0 : World} {ds : List Deferred} (hb : ∀ id, g0.φ id ≠ none → id < (S 0).2.length) (hb0 : fx.bs.headD 0 ≤ (S 0).2.length)
  {Q : Exit → Act → World → Prop} (hQ : ∀ a w g T, DInv fx ops ord S g0 w0 ds (fun i => i < ops.size) T a w g → Q .normal a w) :
  ∀ (n : Nat) (listed : Array Bool), listed.size = ops.size → ((List.range ops.size).filter fun i => !listed.getD i false).length ≤ n → ∀ a w g T, DInv fx ops ord S g0 w0 ds (Lof listed) T a w g → wpAnyIn (FR r) 0 cx.P .any ops Q n listed a w := by
 have done : ∀ (listed : Array Bool), listed.size = ops.size → (∀ i, i < ops.size → Lof listed i) → ∀ a w g T, DInv fx ops ord S g0 w0 ds (Lof listed) T a w g → Q .normal a w := by
  intro listed hs hall a w g T D
  refine hQ a w g T (D.congr fun j => ⟨fun h => ?_, fun h => hall j h⟩)
  unfold Lof at h
  rw [Array.getD_eq_getD_getElem?] at h
  cases hj : listed[j]? with
  | none => simp [hj] at h
  | some b => have := (Array.getElem?_eq_some_iff.1 hj).1; omega
 intro n
 induction n with
 | zero =>
  intro listed hs hc a w g T D
  have hall : ∀ i, i < ops.size → Lof listed i := fun i hi => by
   have h0 : ((List.range ops.size).filter fun i => !listed.getD i false) = [] := List.eq_nil_of_length_eq_zero (by omega)
   rw [List.filter_eq_nil_iff] at h0
   have := h0 i (List.mem_range.2 hi)
   simpa [Lof] using this
  refine ⟨?_, done listed hs hall a w g T D⟩
  cases hr : Region.ready .any ops listed with
  | nil => rfl
  | cons i r =>
   have := (kZ hs).1 (by rw [hr]; exact List.mem_cons_self : i ∈ Region.ready .any ops listed)
   obtain ⟨o, ho, h1, _⟩ := this
   exact absurd (hall i (Array.getElem?_eq_some_iff.1 ho).1) h1
 | succ n ih =>
  intro listed hs hc a w g T D
  refine ⟨fun hr => ?_, fun i hi => ?_⟩
  ·refine done listed hs (fun i hi => ?_) a w g T D
   by_cases h : Lof listed i
   ·exact h
   ·exact absurd hr (yV t hAll hs hi h)
  ·obtain ⟨o, ho, h1, h2⟩ := (kZ hs).1 hi
   have hlt : i < ops.size := (Array.getElem?_eq_some_iff.1 ho).1
   obtain ⟨p, hp⟩ := List.getElem?_of_mem (hAll i hlt)
   refine D.step t hC hb hb0 hp ho h1 h2 (fun a' w' g' T' D' => ?_)
   refine ih (listed.setIfInBounds i true) (by simpa using hs) ?_ a' w' g' T' (D'.congr fun j => (mA (by omega) j).symm)
   have hsub : ((List.range ops.size).filter fun j => !(listed.setIfInBounds i true).getD j false) = (((List.range ops.size).filter fun j => !listed.getD j false).filter fun j => decide (j ≠ i)) := by
    rw [List.filter_filter]
    refine List.filter_congr (fun j hj => ?_)
    have := mA (listed := listed) (i := i) (by omega) j
    unfold Lof at this
    by_cases e : j = i
    ·subst e; simp at this ⊢; exact this
    ·simp [e] at this ⊢; rw [this]
   rw [hsub]
   have hlt2 : ((((List.range ops.size).filter fun j => !listed.getD j false).filter fun j => decide (j ≠ i))).length < ((List.range ops.size).filter fun j => !listed.getD j false).length := by
    rw [List.length_filter_lt_length_iff_exists]
    refine ⟨i, List.mem_filter.2 ⟨List.mem_range.2 hlt, ?_⟩, by simp⟩
    unfold Lof at h1; simpa using h1
   omega
theorem mf {cx : Cx} (hm : cx.P.follows .mixedOrders = true) : DrawOk cx := by
 intro r fx call hC id ops Q g w H H' ρ ρ' a h hS hE hn
 unfold evDraw at h
 split at h
 case isFalse => cases h
 rename_i hok
 cases ht : evTrace cx fx call ops (canon ops) ρ H with
 | none => simp [ht] at h
 | some z0 =>
  obtain ⟨st, z⟩ := z0
  simp only [ht, Option.bind_some] at h
  split at h
  case isFalse => cases h
  rename_i hchk
  cases h
  obtain ⟨s1, s2, s3⟩ := pc ht
  simp only [drawOk, Bool.and_eq_true, beq_iff_eq] at hok
  obtain ⟨⟨⟨⟨⟨⟨k1, k2⟩, k3⟩, k4⟩, k5⟩, k6⟩, k7⟩ := hok
  generalize hord : canon ops = ord at *
  let S : Nat → Env × Heap := fun p => ((st ++ [(ρ', H')])[p]?).getD (ρ', H')
  have hS0 : S 0 = (ρ, H) := by simp only [S]; rw [s2]; rfl
  have hSm : S ord.length = (ρ', H') := by simp only [S]; rw [← s1]; simp
  have hSst : ∀ p s, st[p]? = some s → S p = s := fun p s hp => by
   have := (List.getElem?_eq_some_iff.1 hp).1
   simp only [S]; rw [List.getElem?_append_left this, hp]; rfl
  have hAll : ∀ i, i < ops.size → i ∈ ord := fun i hi => by
   have := List.all_eq_true.1 k3 i (List.mem_range.2 hi)
   simpa using this
  have t : Tr cx call fx ops ord S := by
   refine ⟨k1, k5, k6, k7, fun p i hp => ?_, fun p q i j o u hlt hp hq ho hu hr he hni => ?_⟩
   ·obtain ⟨o, s, t, h1, h2, h3, h4⟩ := s3 p i hp
    refine ⟨o, h1, ?_⟩
    have e1 : S p = s := by simp only [S]; rw [h2]; rfl
    have e2 : S (p + 1) = t := by simp only [S]; rw [h3]; rfl
    rw [e1, e2]; exact h4
   ·have hp2 := (List.getElem?_eq_some_iff.1 hp).1
    have hq2 := (List.getElem?_eq_some_iff.1 hq).1
    have hsp : st[p]? = some st[p] := by simp [s1, hp2]
    have hsq : st[q]? = some st[q] := by simp [s1, hq2]
    have := sm hchk (uD hlt hp hq ho hu hr he hni) (o := o) (by simp [List.getD, hp, ho]) hsp hsq
    rw [← hSst p _ hsp, ← hSst q _ hsq] at this
    have e3 : ((st[q + 1]?).map (·.2)).getD H' = (S (q + 1)).2 := by
     by_cases hlt2 : q + 1 < st.length
     ·have h1 : st[q + 1]? = some st[q + 1] := by simp [hlt2]
      rw [h1, hSst _ _ h1]; rfl
     ·have h1 : st[q + 1]? = none := by rw [List.getElem?_eq_none_iff]; omega
      have h2 : q + 1 = ord.length := by omega
      rw [h1, h2, hSm]; rfl
    rw [e3] at this
    exact this
  have hbase : ∀ id, g.φ id ≠ none → id < (S 0).2.length := fun id hid => by rw [hS0]; exact hS.dom id hid
  have hb0 : fx.bs.headD 0 ≤ (S 0).2.length := by rw [hS0]; exact hS.bl
  refine wpIn_region_any hm ?_
  obtain ⟨T, q1, q2, q3, q4, q5, q6⟩ := t.next hC (g := g) (w := { w with drawn := w.drawn + 1 }) ord.length 0 (by omega) (by rw [hS0]; exact hS.drawn)
  have hnl : ∀ i, ¬ Lof (Array.replicate ops.size false) i := fun i h => by
   unfold Lof at h
   rw [Array.getD_eq_getD_getElem?, Array.getElem?_replicate] at h
   split at h <;> simp at h
  refine GL t hAll hC (g0 := g) (w0 := w) (ds := a.defers) hbase hb0 (fun a' w' g' T' D => ?_) ops.size (Array.replicate ops.size false) (by simp) (by
   have := List.length_filter_le (fun i => !(Array.replicate ops.size false).getD i false) (List.range ops.size)
   simpa using this) a _ g T ⟨fun i o _ h => absurd h (hnl i), q2, fun p i o h1 h2 h3 h4 => ?_, fun p i _ _ => hnl i, q4, q5, jF g w, fun id => ?_, fun p h => q6 p (by omega) h, fun d q hq h1 h2 => ?_, hE.size, rfl⟩
  ·
   have hT : T' = ord.length := by
    by_cases h : T' < ord.length
    ·obtain ⟨i, o, h1, h2, h3⟩ := D.at_ h
     exact absurd (Array.getElem?_eq_some_iff.1 h2).1 (D.after T' i (Nat.le_refl _) h1)
    ·have := D.Tle; omega
   subst hT
   have hlenmono : ∀ p, p ≤ ord.length → H.length ≤ (S p).2.length := fun p hp => by
    have := D.len (p := 0) p (by omega)
    rw [hS0, Nat.zero_add] at this; exact this
   have hsim := D.sim
   rw [hSm] at hsim
   refine hn a' w' g' ⟨hsim, D.ext, by have := hlenmono ord.length (Nat.le_refl _); rwa [hSm] at this, fun id => ?_⟩ ⟨D.size, fun d => ?_⟩ D.defers
   ·rw [D.dom]
    constructor
    ·rintro (h | ⟨p, i, h1, h2, h3, h4⟩)
     ·exact .inl h
     ·have hp2 := (List.getElem?_eq_some_iff.1 h1).1
      have e1 := hlenmono p (by omega)
      have e2 := D.len (p := p + 1) (ord.length - (p + 1)) (by omega)
      rw [show p + 1 + (ord.length - (p + 1)) = ord.length by omega, hSm] at e2
      exact .inr ⟨by omega, by simp only at e2; omega⟩
    ·rintro (h | ⟨h1, h2⟩)
     ·exact .inl h
     ·right
      have : ∀ n, n ≤ ord.length → id < (S n).2.length → ∃ p, p < n ∧ (S p).2.length ≤ id ∧ id < (S (p + 1)).2.length := by
       intro n
       induction n with
       | zero => intro _ h; rw [hS0] at h; simp only at h; omega
       | succ n ih =>
        intro hn h
        by_cases hlt : id < (S n).2.length
        ·obtain ⟨p, h3, h4⟩ := ih (by omega) hlt
         exact ⟨p, by omega, h4⟩
        ·exact ⟨n, by omega, by omega, h⟩
      obtain ⟨p, h3, h4, h5⟩ := this ord.length (Nat.le_refl _) (by rw [hSm]; exact h2)
      have hp : ord[p]? = some ord[p] := by simp [h3]
      obtain ⟨o, ho⟩ := t.op hp
      exact ⟨p, ord[p], hp, (Array.getElem?_eq_some_iff.1 ho).1, h4, h5⟩
   ·have := D.env d ord.length (Nat.le_refl _) (fun p i o _ _ ho _ => (Array.getElem?_eq_some_iff.1 ho).1) (fun p i o h1 h2 => by have := (List.getElem?_eq_some_iff.1 h2).1; omega)
    rwa [hSm] at this
  ·have := q3 p i o (by omega) h1 h2 h3; rw [h4] at this; cases this
  ·exact ⟨.inl, fun h => h.resolve_right (fun ⟨p, i, _, h2, _⟩ => hnl i h2)⟩
  ·have hf := t.frame (d := d) (q1 := 0) q (by omega) (fun p i o _ h3 h4 h5 h6 => hnl i (h1 p i o (by omega) h4 h5 h6))
   rw [Nat.zero_add] at hf
   rw [hf, hS0]
   exact (hE.rel d).mono (jF g w)
end
end Go.E
namespace Go.E
def CLe (c c' : CallSem) : Prop := ∀ bs f a H r, c bs f a H = some r → c' bs f a H = some r
def LLe (l l' : LoopSem) : Prop := ∀ f f' : Env → Heap → Option Res, (∀ ρ H r, f ρ H = some r → f' ρ H = some r) → ∀ ρ H r, l f ρ H = some r → l' f' ρ H = some r
section
variable {cx : Cx} {fx : Fx}
theorem Ah {call call' : CallSem} (h : CLe call call') {fo : Operand} {pos : String} : CLe (callAt cx fo pos call) (callAt cx fo pos call') := by
 intro bs f a H r e
 unfold callAt at e ⊢
 split
 ·rename_i ht
  rw [if_pos ht] at e
  split at e
  ·exact e
  ·exact h _ _ _ _ _ e
 ·rename_i ht
  rw [if_neg ht] at e
  exact h _ _ _ _ _ e
theorem uE (o : Oper) : (∃ f args tys, o.op = .call ⟨.value f, args, tys⟩) ∨ ∀ (call call' : CallSem) ρ H, evOp cx fx call o ρ H = evOp cx fx call' o ρ H := by
 obtain ⟨dst, op, type, pos, after, guard⟩ := o
 cases op
 case call c =>
  obtain ⟨callee, args, tys⟩ := c
  cases callee with
  | value f => exact .inl ⟨f, args, tys, rfl⟩
  | _ => exact .inr fun _ _ _ _ => rfl
 case makeFunc fn first caps => cases fn <;> exact .inr fun _ _ _ _ => rfl
 all_goals exact .inr fun _ _ _ _ => rfl
theorem EM {call call' : CallSem} (h : CLe call call') {o : Oper} {ρ : Env} {H : Heap} {r : V × Heap} (e : evOp cx fx call o ρ H = some r) : evOp cx fx call' o ρ H = some r := by
 rcases uE (cx := cx) (fx := fx) o with ⟨f, args, tys, ho⟩ | h2
 ·unfold evOp at e ⊢
  simp only [ho] at e ⊢
  cases hc : evCallee ρ f with
  | none => simp [hc] at e
  | some g => simp only [hc, Option.bind_some] at e ⊢; exact Ah h _ _ _ _ _ e
 ·rw [h2 call' call]; exact e
theorem nI {call call' : CallSem} (h : CLe call call') {ops : Array Oper} {o : Oper} {ρ : Env} {H : Heap} {r : Env × Heap} (e : evOper cx fx call ops o ρ H = some r) : evOper cx fx call' ops o ρ H = some r := by
 unfold evOper at e ⊢
 cases hw : wantedV ops o ρ with
 | none => simp [hw] at e
 | some b =>
  simp only [hw, Option.bind_some] at e ⊢
  cases b with
  | false => exact e
  | true =>
   simp only [if_true] at e ⊢
   cases hv : evOp cx fx call o ρ H with
   | none => simp [hv] at e
   | some v => rw [hv] at e; rw [EM h hv]; exact e
theorem so {call call' : CallSem} (h : CLe call call') {ops : Array Oper} : ∀ {l : List Oper} {ρ : Env} {H : Heap} {r : Env × Heap}, evOps cx fx call ops l ρ H = some r → evOps cx fx call' ops l ρ H = some r
 | [], _, _, _, e => e
 | o :: l, ρ, H, r, e => by
  simp only [evOps] at e ⊢
  cases hv : evOper cx fx call ops o ρ H with
  | none => simp [hv] at e
  | some s => rw [hv] at e; rw [nI h hv]; exact so h e
theorem pd {call call' : CallSem} (h : CLe call call') {ops : Array Oper} : ∀ {l : List Nat} {ρ : Env} {H : Heap} {r : List (Env × Heap) × Env × Heap}, evTrace cx fx call ops l ρ H = some r → evTrace cx fx call' ops l ρ H = some r
 | [], _, _, _, e => e
 | i :: l, ρ, H, r, e => by
  simp only [evTrace] at e ⊢
  cases ho : ops[i]? with
  | none => simp [ho] at e
  | some o =>
   simp only [ho, Option.bind_some] at e ⊢
   cases hv : evOper cx fx call ops o ρ H with
   | none => simp [hv] at e
   | some s =>
    rw [hv] at e; rw [nI h hv]
    simp only [Option.bind_some] at e ⊢
    cases ht : evTrace cx fx call ops l s.1 s.2 with
    | none => simp [ht] at e
    | some z => rw [ht] at e; rw [pd h ht]; exact e
theorem Ai {call call' : CallSem} (h : CLe call call') {ops : Array Oper} {ρ : Env} {H : Heap} {r : Env × Heap} (e : evDraw cx fx call ops ρ H = some r) : evDraw cx fx call' ops ρ H = some r := by
 unfold evDraw at e ⊢
 split at e
 case isFalse => cases e
 rename_i hok
 rw [if_pos hok]
 cases ht : evTrace cx fx call ops (canon ops) ρ H with
 | none => simp [ht] at e
 | some z => rw [ht] at e; rw [pd h ht]; exact e
theorem kT {fA fB fA' fB' : Env → Heap → Option Res} (hA : ∀ ρ H r, fA ρ H = some r → fA' ρ H = some r) (hB : ∀ ρ H r, fB ρ H = some r → fB' ρ H = some r) {n : Nat} {ps : List Nat} {ρ : Env} :
  ∀ (l : List (List V)) (H : Heap) (r : Ex × Heap), evRounds fA fB n ps ρ l H = some r → evRounds fA' fB' n ps ρ l H = some r
 | [], _, _, e => e
 | args :: l, H, r, e => by
  simp only [evRounds] at e ⊢
  split at e
  case isFalse => cases e
  rename_i hl
  rw [if_pos hl]
  cases hp : putAll n ρ (ps.zip args) with
  | none => simp [hp] at e
  | some ρ1 =>
   simp only [hp, Option.bind_some] at e ⊢
   cases hx : fA ρ1 H with
   | none => simp [hx] at e
   | some s =>
    obtain ⟨ex, ρ2, H2⟩ := s
    rw [hx] at e; rw [hA _ _ _ hx]
    cases ex with
    | normal =>
     simp only at e ⊢
     cases hy : fB ρ2 H2 with
     | none => simp [hy] at e
     | some s =>
      obtain ⟨ex, ρ3, H3⟩ := s
      rw [hy] at e; rw [hB _ _ _ hy]
      cases ex with
      | normal => exact kT hA hB l _ _ e
      | _ => exact e
    | _ => simp at e
theorem uF {lp lp' : LoopSem} {call call' : CallSem} (hl : LLe lp lp') (h : CLe call call') : ∀ (c : Code) (ρ : Env) (H : Heap) (r : Res), evCode cx fx lp call c ρ H = some r → evCode cx fx lp' call' c ρ H = some r := by
 intro c
 induction c with
 | region id ops draw =>
  intro ρ H r e
  simp only [evCode] at e ⊢
  cases draw with
  | false =>
   simp only [Bool.false_eq_true, if_false] at e ⊢
   cases ho : evOps cx fx call ops ops.toList ρ H with
   | none => simp [ho] at e
   | some s => rw [ho] at e; rw [so h ho]; exact e
  | true =>
   simp only [if_true] at e ⊢
   cases ho : evDraw cx fx call ops ρ H with
   | none => simp [ho] at e
   | some s => rw [ho] at e; rw [Ai h ho]; exact e
 | seq x y ihx ihy =>
  intro ρ H r e
  simp only [evCode] at e ⊢
  cases hx : evCode cx fx lp call x ρ H with
  | none => simp [hx] at e
  | some s =>
   obtain ⟨ex, ρ1, H1⟩ := s
   rw [hx] at e; rw [ihx _ _ _ hx]
   cases ex with
   | normal => exact ihy _ _ _ e
   | _ => exact e
 | cond o x y ihx ihy =>
  intro ρ H r e
  simp only [evCode] at e ⊢
  split at e
  ·exact ihx _ _ _ e
  ·exact ihy _ _ _ e
  ·cases e
 | block id x ih =>
  intro ρ H r e
  simp only [evCode] at e ⊢
  cases hx : evCode cx fx lp call x ρ H with
  | none => simp [hx] at e
  | some s => rw [hx] at e; rw [ih _ _ _ hx]; exact e
 | loop x ih => intro ρ H r e; simp only [evCode] at e ⊢; exact hl _ _ (fun ρ H r => ih ρ H r) _ _ _ e
 | scope x ih => intro ρ H r e; simp only [evCode] at e ⊢; exact ih _ _ _ e
 | rangeFunc f ps x y ihx ihy =>
  intro ρ H r e
  simp only [evCode] at e ⊢
  split at e
  case h_2 => cases e
  rename_i gf caps hf
  cases hi : cx.iter gf caps with
  | none => simp [hi] at e
  | some l =>
   rw [hi] at e
   simp only [Option.bind_some] at e ⊢
   cases hr : evRounds (evCode cx fx lp call x) (evCode cx fx lp call y) fx.n ps.toList ρ l H with
   | none => simp [hr] at e
   | some z => rw [hr] at e; rw [kT ihx ihy l _ _ hr]; exact e
 | _ => intro ρ H r e; simpa [evCode] using e
theorem te (k : Nat) (f : Env → Heap → Option Res) (ρ : Env) (H : Heap) : loopn (k + 1) f ρ H = (match f ρ H with | some (.normal, ρ', H') => loopn k f ρ' H' | r => r) := rfl
theorem kK : ∀ {k k' : Nat}, k ≤ k' → LLe (loopn k) (loopn k')
 | 0, _, _ => fun f f' _ ρ H r e => by simp [loopn] at e
 | k + 1, 0, h => absurd h (by omega)
 | k + 1, k' + 1, h => fun f f' hf ρ H r e => by
  simp only [loopn] at e ⊢
  cases hx : f ρ H with
  | none => simp [hx] at e
  | some s =>
   obtain ⟨ex, ρ1, H1⟩ := s
   rw [hx] at e; rw [hf _ _ _ hx]
   cases ex with
   | normal => exact kK (by omega) f f' hf _ _ _ e
   | _ => exact e
theorem uG {lp lp' : LoopSem} {call call' : CallSem} (hl : LLe lp lp') (h : CLe call call') : CLe (evBody cx lp call) (evBody cx lp' call') := by
 intro bs f a H r e
 unfold evBody at e ⊢
 cases hf : cx.P.funcs[f]? with
 | none => simp [hf] at e
 | some fn =>
  cases hb : fn.body with
  | none => simp [hf, hb] at e
  | some c =>
   simp only [hf, hb] at e ⊢
   split
   ·rename_i hk
    rw [if_pos hk] at e; exact e
   ·rename_i hk
    rw [if_neg hk] at e
    cases hc : evCode cx ⟨a.length + (fn.ntmps - a.length), H.length :: bs⟩ lp call c (fun i => (a.map V.norm).getD i .undef) H with
    | none => rw [hc] at e; simp at e
    | some s => rw [hc] at e; rw [uF hl h _ _ _ _ hc]; exact e
theorem tf : ∀ k, CLe (callk cx k) (callk cx (k + 1))
 | 0 => fun _ _ _ _ _ e => by simp [callk] at e
 | k + 1 => uG (kK (by omega)) (tf k)
theorem kL {k k' : Nat} (h : k ≤ k') : CLe (callk cx k) (callk cx k') := by
  induction k' with
  | zero => obtain rfl : k = 0 := by omega
            exact fun _ _ _ _ _ e => e
  | succ k' ih =>
    by_cases hk : k = k' + 1
    · subst hk; exact fun _ _ _ _ _ e => e
    · exact fun _ _ _ _ _ e => tf k' _ _ _ _ _ (ih (by omega) _ _ _ _ _ e)
theorem sq {α : Type} {g : Nat → Option α} {a : α} (h : lim g = some a) : ∃ n, g n = some a := by
 unfold lim at h
 split at h
 ·rename_i hh
  have h2 := Classical.choose_spec (Classical.choose_spec hh)
  exact ⟨Classical.choose hh, by rw [h2]; exact h⟩
 ·cases h
theorem Aj {α : Type} {g : Nat → Option α} (hm : ∀ n m a, n ≤ m → g n = some a → g m = some a) {n : Nat} {a : α} (h : g n = some a) : lim g = some a := by
 cases hl : lim g with
 | none =>
  unfold lim at hl
  rw [dif_pos ⟨n, a, h⟩] at hl; cases hl
 | some b =>
  obtain ⟨m, hb⟩ := sq hl
  have h1 := hm n (max n m) a (by omega) h
  have h2 := hm m (max n m) b (by omega) hb
  rw [h1] at h2; exact h2.symm
theorem mg {bs f a H r} (h : callw cx bs f a H = some r) : ∃ k, callk cx k bs f a H = some r := sq h
theorem wb {k bs f a H r} (h : callk cx k bs f a H = some r) : callw cx bs f a H = some r := Aj (fun _ _ _ hn e => kL hn _ _ _ _ _ e) h
theorem pf {f ρ H r} (h : loopw f ρ H = some r) : ∃ k, loopn k f ρ H = some r := sq h
theorem wc {k f ρ H r} (h : loopn k f ρ H = some r) : loopw f ρ H = some r := Aj (fun _ _ _ hn e => kK hn f f (fun _ _ _ e => e) _ _ _ e) h
theorem Bx {f : Env → Heap → Option Res} {ρ ρ' : Env} {H H' : Heap} {r : Res} (h : f ρ H = some (.normal, ρ', H')) (h2 : loopw f ρ' H' = some r) : loopw f ρ H = some r := by
 obtain ⟨k, hk⟩ := pf h2
 exact wc (k := k + 1) (by simp only [loopn, h]; exact hk)
theorem Ak {f : Env → Heap → Option Res} {ρ : Env} {H : Heap} {ex : Ex} {s : Env × Heap} (h : f ρ H = some (ex, s)) (he : ex ≠ .normal) : loopw f ρ H = some (ex, s) := by
 refine wc (k := 1) ?_
 obtain ⟨ρ', H'⟩ := s
 simp only [loopn, h]
 cases ex with
 | normal => exact absurd rfl he
 | _ => rfl
theorem GM {o : Oper} {ρ : Env} {H : Heap} {r : V × Heap} (e : evOp cx fx (callw cx) o ρ H = some r) : ∃ k, evOp cx fx (callk cx k) o ρ H = some r := by
 rcases uE (cx := cx) (fx := fx) o with ⟨f, args, tys, ho⟩ | h2
 ·unfold evOp at e
  simp only [ho] at e
  cases hc : evCallee ρ f with
  | none => simp [hc] at e
  | some g =>
   simp only [hc, Option.bind_some] at e
   obtain ⟨k, hk⟩ : ∃ k, callAt cx f o.pos (callk cx k) fx.bs g.1 ((args.toList.map (opnd ρ)) ++ g.2) H = some r := by
    unfold callAt at e ⊢
    split at e
    ·rename_i ht
     simp only [if_pos ht]
     split at e
     ·exact ⟨0, e⟩
     ·exact mg e
    ·rename_i ht
     simp only [if_neg ht]; exact mg e
   refine ⟨k, ?_⟩
   unfold evOp
   simp only [ho, hc, Option.bind_some]; exact hk
 ·exact ⟨0, by rw [h2 (callk cx 0) (callw cx)]; exact e⟩
theorem wd {ops : Array Oper} {o : Oper} {ρ : Env} {H : Heap} {r : Env × Heap} (e : evOper cx fx (callw cx) ops o ρ H = some r) : ∃ k, evOper cx fx (callk cx k) ops o ρ H = some r := by
 unfold evOper at e
 cases hw : wantedV ops o ρ with
 | none => simp [hw] at e
 | some b =>
  simp only [hw, Option.bind_some] at e
  cases b with
  | false => exact ⟨0, by unfold evOper; simp only [hw, Option.bind_some]; exact e⟩
  | true =>
   simp only [if_true] at e
   cases hv : evOp cx fx (callw cx) o ρ H with
   | none => simp [hv] at e
   | some v =>
    rw [hv] at e
    obtain ⟨k, hk⟩ := GM hv
    exact ⟨k, by unfold evOper; simp only [hw, Option.bind_some, if_true]; rw [hk]; exact e⟩
theorem yl {ops : Array Oper} : ∀ {l : List Oper} {ρ : Env} {H : Heap} {r : Env × Heap}, evOps cx fx (callw cx) ops l ρ H = some r → ∃ k, evOps cx fx (callk cx k) ops l ρ H = some r
 | [], _, _, _, e => ⟨0, e⟩
 | o :: l, ρ, H, r, e => by
  simp only [evOps] at e
  cases hv : evOper cx fx (callw cx) ops o ρ H with
  | none => simp [hv] at e
  | some s =>
   rw [hv] at e
   obtain ⟨k1, h1⟩ := wd hv
   obtain ⟨k2, h2⟩ := yl (l := l) e
   refine ⟨max k1 k2, ?_⟩
   simp only [evOps]
   rw [nI (kL (by omega)) h1]
   exact so (kL (by omega)) h2
theorem uH {ops : Array Oper} : ∀ {l : List Nat} {ρ : Env} {H : Heap} {r : List (Env × Heap) × Env × Heap}, evTrace cx fx (callw cx) ops l ρ H = some r → ∃ k, evTrace cx fx (callk cx k) ops l ρ H = some r
 | [], _, _, _, e => ⟨0, e⟩
 | i :: l, ρ, H, r, e => by
  simp only [evTrace] at e
  cases ho : ops[i]? with
  | none => simp [ho] at e
  | some o =>
   simp only [ho, Option.bind_some] at e
   cases hv : evOper cx fx (callw cx) ops o ρ H with
   | none => simp [hv] at e
   | some s =>
    rw [hv] at e
    simp only [Option.bind_some] at e
    cases ht : evTrace cx fx (callw cx) ops l s.1 s.2 with
    | none => simp [ht] at e
    | some z =>
     rw [ht] at e
     obtain ⟨k1, h1⟩ := wd hv
     obtain ⟨k2, h2⟩ := uH (l := l) ht
     refine ⟨max k1 k2, ?_⟩
     simp only [evTrace, ho, Option.bind_some]
     rw [nI (kL (by omega)) h1]
     simp only [Option.bind_some]
     rw [pd (kL (by omega)) h2]
     exact e
theorem By {ops : Array Oper} {ρ : Env} {H : Heap} {r : Env × Heap} (e : evDraw cx fx (callw cx) ops ρ H = some r) : ∃ k, evDraw cx fx (callk cx k) ops ρ H = some r := by
 unfold evDraw at e
 split at e
 case isFalse => cases e
 rename_i hok
 cases ht : evTrace cx fx (callw cx) ops (canon ops) ρ H with
 | none => simp [ht] at e
 | some z =>
  rw [ht] at e
  obtain ⟨k, hk⟩ := uH ht
  exact ⟨k, by unfold evDraw; rw [if_pos hok, hk]; exact e⟩
theorem tg {fA fB : Env → Heap → Option Res} (FA FB : Nat → Env → Heap → Option Res) (uA : ∀ {k k' : Nat}, k ≤ k' → ∀ ρ H r, FA k ρ H = some r → FA k' ρ H = some r) (uB : ∀ {k k' : Nat}, k ≤ k' → ∀ ρ H r, FB k ρ H = some r → FB k' ρ H = some r)
  (hA : ∀ ρ H r, fA ρ H = some r → ∃ k, FA k ρ H = some r) (hB : ∀ ρ H r, fB ρ H = some r → ∃ k, FB k ρ H = some r) {n : Nat} {ps : List Nat} {ρ : Env} :
  ∀ (l : List (List V)) (H : Heap) (r : Ex × Heap), evRounds fA fB n ps ρ l H = some r → ∃ k, evRounds (FA k) (FB k) n ps ρ l H = some r
 | [], _, _, e => ⟨0, e⟩
 | args :: l, H, r, e => by
  simp only [evRounds] at e
  split at e
  case isFalse => cases e
  rename_i hl
  cases hp : putAll n ρ (ps.zip args) with
  | none => simp [hp] at e
  | some ρ1 =>
   simp only [hp, Option.bind_some] at e
   cases hx : fA ρ1 H with
   | none => simp [hx] at e
   | some s =>
    obtain ⟨ex, ρ2, H2⟩ := s
    rw [hx] at e
    obtain ⟨k1, h1⟩ := hA _ _ _ hx
    cases ex with
    | normal =>
     simp only at e
     cases hy : fB ρ2 H2 with
     | none => simp [hy] at e
     | some s =>
      obtain ⟨ex, ρ3, H3⟩ := s
      rw [hy] at e
      obtain ⟨k2, h2⟩ := hB _ _ _ hy
      cases ex with
      | normal =>
       simp only at e
       obtain ⟨k3, h3⟩ := tg FA FB uA uB hA hB l _ _ e
       refine ⟨max k1 (max k2 k3), ?_⟩
       simp only [evRounds, if_pos hl, hp, Option.bind_some]
       rw [uA (by omega) _ _ _ h1]
       simp only
       rw [uB (by omega) _ _ _ h2]
       exact kT (fun ρ H r e => uA (by omega) _ _ _ e) (fun ρ H r e => uB (by omega) _ _ _ e) l _ _ h3
      | _ =>
       refine ⟨max k1 k2, ?_⟩
       simp only [evRounds, if_pos hl, hp, Option.bind_some]
       rw [uA (by omega) _ _ _ h1]
       simp only
       rw [uB (by omega) _ _ _ h2]
       exact e
    | _ => simp at e
theorem we : ∀ (c : Code) (ρ : Env) (H : Heap) (r : Res), evCode cx fx loopw (callw cx) c ρ H = some r → ∃ k, evCode cx fx (loopn k) (callk cx k) c ρ H = some r := by
 intro c
 have up : ∀ {c : Code} {ρ H r k k'}, k ≤ k' → evCode cx fx (loopn k) (callk cx k) c ρ H = some r → evCode cx fx (loopn k') (callk cx k') c ρ H = some r :=
  fun h e => uF (kK h) (kL h) _ _ _ _ e
 induction c with
 | region id ops draw =>
  intro ρ H r e
  simp only [evCode] at e
  cases draw with
  | false =>
   simp only [Bool.false_eq_true, if_false] at e
   cases ho : evOps cx fx (callw cx) ops ops.toList ρ H with
   | none => simp [ho] at e
   | some s =>
    rw [ho] at e
    obtain ⟨k, hk⟩ := yl ho
    exact ⟨k, by simp only [evCode, Bool.false_eq_true, if_false]; rw [hk]; exact e⟩
  | true =>
   simp only [if_true] at e
   cases ho : evDraw cx fx (callw cx) ops ρ H with
   | none => simp [ho] at e
   | some s =>
    rw [ho] at e
    obtain ⟨k, hk⟩ := By ho
    exact ⟨k, by simp only [evCode, if_true]; rw [hk]; exact e⟩
 | seq x y ihx ihy =>
  intro ρ H r e
  simp only [evCode] at e
  cases hx : evCode cx fx loopw (callw cx) x ρ H with
  | none => simp [hx] at e
  | some s =>
   obtain ⟨ex, ρ1, H1⟩ := s
   rw [hx] at e
   obtain ⟨k1, h1⟩ := ihx _ _ _ hx
   cases ex with
   | normal =>
    obtain ⟨k2, h2⟩ := ihy _ _ _ e
    refine ⟨max k1 k2, ?_⟩
    simp only [evCode]
    rw [up (by omega) h1]
    exact up (by omega) h2
   | _ => exact ⟨k1, by simp only [evCode]; rw [h1]; exact e⟩
 | cond o x y ihx ihy =>
  intro ρ H r e
  simp only [evCode] at e
  split at e
  ·rename_i hb; obtain ⟨k, hk⟩ := ihx _ _ _ e; exact ⟨k, by simp only [evCode, hb]; exact hk⟩
  ·rename_i hb; obtain ⟨k, hk⟩ := ihy _ _ _ e; exact ⟨k, by simp only [evCode, hb]; exact hk⟩
  ·cases e
 | block id x ih =>
  intro ρ H r e
  simp only [evCode] at e
  cases hx : evCode cx fx loopw (callw cx) x ρ H with
  | none => simp [hx] at e
  | some s =>
   rw [hx] at e
   obtain ⟨k, hk⟩ := ih _ _ _ hx
   exact ⟨k, by simp only [evCode]; rw [hk]; exact e⟩
 | loop x ih =>
  intro ρ H r e
  simp only [evCode] at e
  obtain ⟨n, hn⟩ := pf e
  have key : ∀ (n : Nat) (ρ : Env) (H : Heap), loopn n (evCode cx fx loopw (callw cx) x) ρ H = some r → ∃ k, loopn k (evCode cx fx (loopn k) (callk cx k) x) ρ H = some r := by
   intro n
   induction n with
   | zero => intro ρ H h; simp [loopn] at h
   | succ n ihn =>
    intro ρ H h
    simp only [loopn] at h
    cases hx : evCode cx fx loopw (callw cx) x ρ H with
    | none => simp [hx] at h
    | some s =>
     obtain ⟨ex, ρ1, H1⟩ := s
     rw [hx] at h
     obtain ⟨k1, h1⟩ := ih _ _ _ hx
     cases ex with
     | normal =>
      obtain ⟨k2, h2⟩ := ihn _ _ h
      refine ⟨max k1 k2 + 1, ?_⟩
      rw [te, up (by omega) h1]
      exact kK (by omega) _ _ (fun _ _ _ e => up (by omega) e) _ _ _ h2
     | _ =>
      refine ⟨k1 + 1, ?_⟩
      rw [te, up (by omega) h1]
      exact h
  obtain ⟨k, hk⟩ := key n ρ H hn
  exact ⟨k, by simp only [evCode]; exact hk⟩
 | scope x ih =>
  intro ρ H r e
  simp only [evCode] at e
  obtain ⟨k, hk⟩ := ih _ _ _ e
  exact ⟨k, by simp only [evCode]; exact hk⟩
 | rangeFunc f ps x y ihx ihy =>
  intro ρ H r e
  simp only [evCode] at e
  split at e
  case h_2 => cases e
  rename_i gf caps hf
  cases hi : cx.iter gf caps with
  | none => simp [hi] at e
  | some l =>
   rw [hi] at e
   simp only [Option.bind_some] at e
   cases hr : evRounds (evCode cx fx loopw (callw cx) x) (evCode cx fx loopw (callw cx) y) fx.n ps.toList ρ l H with
   | none => simp [hr] at e
   | some z =>
    rw [hr] at e
    obtain ⟨k, hk⟩ := tg (fun k => evCode cx fx (loopn k) (callk cx k) x) (fun k => evCode cx fx (loopn k) (callk cx k) y) (fun h _ _ _ e => up h e) (fun h _ _ _ e => up h e) ihx ihy l _ _ hr
    exact ⟨k, by simp only [evCode, hf, hi, Option.bind_some]; rw [hk]; exact e⟩
 | _ => intro ρ H r e; exact ⟨0, by simpa [evCode] using e⟩
theorem th {bs f a H r} (h : evBody cx loopw (callw cx) bs f a H = some r) : callw cx bs f a H = some r := by
 have key : ∃ k, evBody cx (loopn k) (callk cx k) bs f a H = some r := by
  unfold evBody at h
  cases hf : cx.P.funcs[f]? with
  | none => simp [hf] at h
  | some fn =>
   cases hb : fn.body with
   | none => simp [hf, hb] at h
   | some c =>
    simp only [hf, hb] at h
    split at h
    ·rename_i hk
     exact ⟨0, by unfold evBody; simp only [hf, hb]; rw [if_pos hk]; exact h⟩
    ·rename_i hk
     cases hc : evCode cx ⟨a.length + (fn.ntmps - a.length), H.length :: bs⟩ loopw (callw cx) c (fun i => (a.map V.norm).getD i .undef) H with
     | none => rw [hc] at h; simp at h
     | some s =>
      rw [hc] at h
      obtain ⟨k, hk2⟩ := we _ _ _ _ hc
      exact ⟨k, by unfold evBody; simp only [hf, hb]; rw [if_neg hk, hk2]; exact h⟩
 obtain ⟨k, hk⟩ := key
 exact wb (k := k + 1) hk
theorem sr (hm : cx.P.follows .mixedOrders = true) (hI : IterOk cx) (hK : KnownOk cx) (hN : ∀ (f : Nat) (fn : Func), cx.P.funcs[f]? = some fn → fn.name ≠ "runtime.NumGoroutine") : CallOk cx (callw cx) := by
 refine ⟨hK.1, fun bs f a H v H' h => ?_⟩
 obtain ⟨k, hk⟩ := mg h
 exact (si (mf hm) hI hK hN k).2 bs f a H v H' hk
end
end Go.E
