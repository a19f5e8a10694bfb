/- Contracts of a package's helpers, in E. Own work. -/
import Derived.Test.YtbnakdpmjlcneaaGreatP5
set_option linter.all false
namespace Go.E
open Go.Proofs
set_option maxRecDepth 100000
set_option maxHeartbeats 4000000

theorem netlist_within (bs : List Nat) (H : Heap) (n lo hi : Int) : callw X bs 53 [.int .i64 n, .int .i64 lo, .int .i64 hi] H = some (.bool (decide (lo ≤ n) && decide (n ≤ hi)), H) := by
  refine call_at (rs := [.tmp 6]) (N := 15) (fn := Tryz.f53) xk53 xf53 rfl rfl rfl (by simp only [seval, push_cast, List.map_cons, List.map_nil, V.norm, norm1]; rfl) ?_
  all_goals try (refine zs ?_; repeat' first | apply zs0 | apply zs2 | (intro hc; try have hq := dq hc))
attribute [push_cast] netlist_within

theorem netlist_unless (bs : List Nat) (H : Heap) (b : Bool) (e : Int) : callw X bs 56 [.bool b, .int .i64 e] H = some (.int .i64 (if b = true then 0 else e), H) := by
  refine call_at (rs := [.tmp 4]) (N := 7) (fn := Tryz.f56) xk56 xf56 rfl rfl rfl (by simp only [seval, push_cast, List.map_cons, List.map_nil, V.norm, norm1]; rfl) ?_
  all_goals try (refine zs ?_; repeat' first | apply zs0 | apply zs2 | (intro hc; try have hq := dq hc))
attribute [push_cast] netlist_unless

theorem netlist_isWidth (bs : List Nat) (H : Heap) (n : Int) : callw X bs 62 [.int .i64 n] H = some (.bool (decide (1 ≤ n) && decide (n ≤ 16)), H) := by
  refine call_at (rs := [.tmp 2]) (N := 5) (fn := Tryz.f62) xk62 xf62 rfl rfl rfl (by simp only [seval, push_cast, List.map_cons, List.map_nil, V.norm, norm1]; rfl) ?_
  all_goals try (refine zs ?_; repeat' first | apply zs0 | apply zs2 | (intro hc; try have hq := dq hc))
attribute [push_cast] netlist_isWidth

theorem netlist_first (bs : List Nat) (H : Heap) (es : List Int) (hl : es.length ≤ 1000000) : callw X bs 55 [.list (es.map (.int .i64))] H = some (.int .i64 (firstL es), H) := by
  refine call_at (rs := [.tmp 2]) (N := 15) (fn := Tryz.f55) xk55 xf55 rfl rfl rfl (by simp only [seval, push_cast, List.map_cons, List.map_nil, V.norm, norm1]; rfl) ?_
  have key : ∀ (R : Int) (bs : List Nat) i ρ H', i ≤ es.length → (H' = H ∧ ρ 5 = .list (es.map (.int .i64)) ∧ ρ 6 = .int .i64 es.length ∧ ρ 7 = .int .i64 i ∧ Kp (firstL (es.drop i) = R)) →
      Lp X ⟨15, bs⟩ (loopAt Tryz.f55 0) ρ H' fun ex ρ' H' => H' = H ∧ ((ex = .exit 0 ∧ R = 0) ∨ (ex = .ret ∧ ρ' 2 = .int .i64 R)) := by
    intro R bs
    refine loop_up ?_ ?_
    · rintro i ρ H' hi ⟨rfl, h5, h6, h7, hR⟩
      have hget : es[i]? = some es[i] := by simp [hi]
      generalize es[i] = x at hget
      have hw := add1 i es.length hi hl
      have hd := drop_cons hget
      replace hR := hR.out
      rw [hd, firstL] at hR
      replace hR : Kp ((if x ≠ 0 then x else firstL (List.drop (i + 1) es)) = R) := ⟨hR⟩
      clear hd
      conv => arg 3; whnf
      all_goals try (refine zs ?_; repeat' first | apply zs0 | apply zs2 | (intro hc; try have hq := dq hc))
      · simp only [decide_eq_true_eq] at hc
        exact ⟨rfl, .inr ⟨rfl, by rw [← hR.out, if_pos hc]; simp only [seval, push_cast]⟩⟩
      · simp only [decide_eq_false_iff_not, Decidable.not_not] at hc
        exact ⟨rfl, by (simp only [seval, push_cast, *] <;> rfl), by (simp only [seval, push_cast, *] <;> rfl), by (simp only [seval, push_cast, *] <;> rfl), ⟨by rw [← hR.out, if_neg (by simp [hc])]⟩⟩
    · rintro ρ H' ⟨rfl, h5, h6, h7, hR⟩
      replace hR := hR.out
      rw [List.drop_length] at hR
      conv => arg 3; whnf
      all_goals try (refine zs ?_; repeat' first | apply zs0 | apply zs2 | (intro hc; try have hq := dq hc))
      exact ⟨rfl, .inl ⟨rfl, hR.symm⟩⟩
  all_goals try (refine zs ?_; repeat' first | apply zs0 | apply zs2 | (intro hc; try have hq := dq hc))
  refine lp_then (lp_any (c := loopAt Tryz.f55 0) rfl (key (firstL es) _ 0 _ _ (by omega) ⟨rfl, by (simp only [seval, push_cast, *] <;> rfl), by (simp only [seval, push_cast, *] <;> rfl), by (simp only [seval, push_cast, *] <;> rfl), ⟨rfl⟩⟩)) ?_
  rintro ex ρ' H' ⟨rfl, ⟨rfl, h2⟩ | ⟨rfl, h2⟩⟩ -
  · all_goals try (refine zs ?_; repeat' first | apply zs0 | apply zs2 | (intro hc; try have hq := dq hc))
  · all_goals try (refine zs ?_; repeat' first | apply zs0 | apply zs2 | (intro hc; try have hq := dq hc))
attribute [push_cast] netlist_first

theorem netlist_first_2 (bs : List Nat) (H : Heap) (a b : Int) : callw X bs 55 [.list [.int .i64 a, .int .i64 b]] H = some (.int .i64 (firstL [a, b]), H) := netlist_first bs H [a, b] (by simp)
theorem netlist_first_3 (bs : List Nat) (H : Heap) (a b c : Int) : callw X bs 55 [.list [.int .i64 a, .int .i64 b, .int .i64 c]] H = some (.int .i64 (firstL [a, b, c]), H) := netlist_first bs H [a, b, c] (by simp)
attribute [push_cast] netlist_first_2 netlist_first_3

theorem netlist_isName (bs : List Nat) (H : Heap) (s : ByteArray) (hl : s.size ≤ 1000000) : callw X bs 57 [.str s] H = some (.bool (isNameS s), H) := by
  refine call_at (rs := [.tmp 2]) (N := 40) (fn := Tryz.f57) xk57 xf57 rfl rfl rfl (by simp only [seval, push_cast, List.map_cons, List.map_nil, V.norm, norm1]; rfl) ?_
  have key : ∀ (R : Bool) (bs : List Nat) i ρ H', i ≤ s.size → (H' = H ∧ ρ 0 = .str s ∧ ρ 7 = .int .i64 s.size ∧ ρ 8 = .int .i64 i ∧ Kp (badIn i (s.data.toList.drop i) = R)) →
      Lp X ⟨40, bs⟩ (loopAt Tryz.f57 0) ρ H' fun ex ρ' H' => H' = H ∧ ((ex = .exit 0 ∧ R = false) ∨ (ex = .ret ∧ ρ' 2 = .bool false ∧ R = true)) := by
    intro R bs
    refine loop_up ?_ ?_
    · rintro i ρ H' hi ⟨rfl, h0, h7, h8, hR⟩
      have hlt : i < s.data.size := hi
      have hget : s.data[i]? = some s.data[i] := Array.getElem?_eq_getElem hlt
      have hget2 : s.data.toList[i]? = some s.data[i] := by rw [Array.getElem?_toList]; exact hget
      generalize s.data[i] = b at hget hget2
      have hw := add1 i s.size hi hl
      replace hR := hR.out
      rw [drop_cons hget2, badIn] at hR
      replace hR : Kp ((badAt i b.toNat || badIn (i + 1) (s.data.toList.drop (i + 1))) = R) := ⟨hR⟩
      clear hget2
      conv => arg 3; whnf
      all_goals try (refine zs ?_; repeat' first | apply zs0 | apply zs2 | (intro hc; try have hq := dq hc))
      all_goals have hz := idx0 i
      all_goals first
        | (have hb : badAt i b.toNat = false := by simp only [badAt, ← hz]; clear hz; simp only [seval, push_cast, *]
           replace hR := hR.out
           rw [hb, Bool.false_or] at hR
           exact ⟨rfl, by (simp only [seval, push_cast, *] <;> rfl), by (simp only [seval, push_cast, *] <;> rfl), by (simp only [seval, push_cast, *] <;> rfl), ⟨hR⟩⟩)
        | (have hb : badAt i b.toNat = true := by simp only [badAt, ← hz]; clear hz; simp only [seval, push_cast, *]
           replace hR := hR.out
           rw [hb, Bool.true_or] at hR
           exact ⟨rfl, .inr ⟨rfl, by (simp only [seval, push_cast, *] <;> rfl), hR.symm⟩⟩)
    · rintro ρ H' ⟨rfl, h0, h7, h8, hR⟩
      replace hR := hR.out
      have hz : s.data.toList.drop s.size = [] := List.drop_of_length_le (by rw [Array.length_toList]; exact Nat.le_refl _)
      rw [hz] at hR
      clear hz
      conv => arg 3; whnf
      all_goals try (refine zs ?_; repeat' first | apply zs0 | apply zs2 | (intro hc; try have hq := dq hc))
      exact ⟨rfl, .inl ⟨rfl, hR.symm⟩⟩
  all_goals try (refine zs ?_; repeat' first | apply zs0 | apply zs2 | (intro hc; try have hq := dq hc))
  refine lp_then (lp_any (c := loopAt Tryz.f57 0) rfl (key _ _ 0 _ _ (by omega) ⟨rfl, by (simp only [seval, push_cast, *] <;> rfl), by (simp only [seval, push_cast, *] <;> rfl), by (simp only [seval, push_cast, *] <;> rfl), ⟨rfl⟩⟩)) ?_
  rintro ex ρ' H' ⟨rfl, ⟨rfl, h2⟩ | ⟨rfl, h2, h3⟩⟩ hf
  · have f0 := hf 0 rfl
    simp only [seval, push_cast] at f0
    all_goals try (refine zs ?_; repeat' first | apply zs0 | apply zs2 | (intro hc; try have hq := dq hc))
    apply leaf1
    · simp
    · (simp only [seval, push_cast, *] <;> rfl)
    · rw [frz_pure rfl]; simp only [List.drop_zero] at h2; simp [isNameS, h2]
    · simp only [seval, push_cast]
  · all_goals try (refine zs ?_; repeat' first | apply zs0 | apply zs2 | (intro hc; try have hq := dq hc))
    apply leaf1
    · simp
    · (simp only [seval, push_cast, *] <;> rfl)
    · rw [frz_pure rfl]; simp only [List.drop_zero] at h3; simp [isNameS, h3]
    · simp only [seval, push_cast]
attribute [push_cast] netlist_isName

theorem netlist_namesErr0 (bs : List Nat) (H : Heap) (id : Nat) (ns : List ByteArray) (s : ByteArray) (hn : ∀ bs H, callw X bs 57 [.str s] H = some (.bool (isNameS s), H)) (hH : H[id]? = some (.map (namesM ns))) (hf : findV (.str s) (namesM ns) = some (if hasName s ns = true then some (.bool true) else none)) (hp : putV (.str s) (.bool true) (namesM ns) = namesM (addName s ns)) : callw X bs 61 [.map id, .str s] H = some (.int .i64 (nameErr ns s), H.set id (.map (namesM (addName s ns)))) := by
  refine call_at (rs := [.tmp 4]) (N := 19) (fn := Tryz.f61) xk61 xf61 rfl rfl rfl (by simp only [seval, push_cast, List.map_cons, List.map_nil, V.norm, norm1]; rfl) ?_
  cases hh : hasName s ns <;> simp only [hh, Bool.false_eq_true, if_true, if_false] at hf <;> simp only [nameErr, hh, Bool.false_eq_true, if_true, if_false]
  repeat' first
   | (apply z51 (id := 1) (ord := [0, 3, 4, 5, 6, 1, 2, 7, 8, 9, 10]) (ps := [(3, 5), (3, 6)]) <;> first | kernel_rfl | skip)
   | (refine zs ?_; repeat' first | apply zs0 | apply zs2 | (intro hc; try have hq := dq hc)) | fail
theorem netlist_namesErr (bs : List Nat) (H : Heap) (id : Nat) (ns : List ByteArray) (s : ByteArray) (hs : s.size ≤ 1000000) (hH : H[id]? = some (.map (namesM ns))) :
    callw X bs 61 [.map id, .str s] H = some (.int .i64 (nameErr ns s), H.set id (.map (namesM (addName s ns)))) :=
  netlist_namesErr0 bs H id ns s (fun bs H => netlist_isName bs H s hs) hH (find_names s ns) (put_names s ns)

theorem graph_within (bs : List Nat) (H : Heap) (n lo hi : Int) : callw X bs 141 [.int .i64 n, .int .i64 lo, .int .i64 hi] H = some (.bool (decide (lo ≤ n) && decide (n ≤ hi)), H) := by
  refine call_at (rs := [.tmp 6]) (N := 15) (fn := Tryz.f141) xk141 xf141 rfl rfl rfl (by simp only [seval, push_cast, List.map_cons, List.map_nil, V.norm, norm1]; rfl) ?_
  all_goals try (refine zs ?_; repeat' first | apply zs0 | apply zs2 | (intro hc; try have hq := dq hc))
attribute [push_cast] graph_within

theorem graph_unless (bs : List Nat) (H : Heap) (b : Bool) (e : Int) : callw X bs 135 [.bool b, .int .i64 e] H = some (.int .i64 (if b = true then 0 else e), H) := by
  refine call_at (rs := [.tmp 4]) (N := 7) (fn := Tryz.f135) xk135 xf135 rfl rfl rfl (by simp only [seval, push_cast, List.map_cons, List.map_nil, V.norm, norm1]; rfl) ?_
  all_goals try (refine zs ?_; repeat' first | apply zs0 | apply zs2 | (intro hc; try have hq := dq hc))
attribute [push_cast] graph_unless

theorem graph_isWidth (bs : List Nat) (H : Heap) (n : Int) : callw X bs 136 [.int .i64 n] H = some (.bool (decide (1 ≤ n) && decide (n ≤ 16)), H) := by
  refine call_at (rs := [.tmp 2]) (N := 5) (fn := Tryz.f136) xk136 xf136 rfl rfl rfl (by simp only [seval, push_cast, List.map_cons, List.map_nil, V.norm, norm1]; rfl) ?_
  all_goals try (refine zs ?_; repeat' first | apply zs0 | apply zs2 | (intro hc; try have hq := dq hc))
attribute [push_cast] graph_isWidth

theorem graph_first (bs : List Nat) (H : Heap) (es : List Int) (hl : es.length ≤ 1000000) : callw X bs 140 [.list (es.map (.int .i64))] H = some (.int .i64 (firstL es), H) := by
  refine call_at (rs := [.tmp 2]) (N := 15) (fn := Tryz.f140) xk140 xf140 rfl rfl rfl (by simp only [seval, push_cast, List.map_cons, List.map_nil, V.norm, norm1]; rfl) ?_
  have key : ∀ (R : Int) (bs : List Nat) i ρ H', i ≤ es.length → (H' = H ∧ ρ 5 = .list (es.map (.int .i64)) ∧ ρ 6 = .int .i64 es.length ∧ ρ 7 = .int .i64 i ∧ Kp (firstL (es.drop i) = R)) →
      Lp X ⟨15, bs⟩ (loopAt Tryz.f140 0) ρ H' fun ex ρ' H' => H' = H ∧ ((ex = .exit 0 ∧ R = 0) ∨ (ex = .ret ∧ ρ' 2 = .int .i64 R)) := by
    intro R bs
    refine loop_up ?_ ?_
    · rintro i ρ H' hi ⟨rfl, h5, h6, h7, hR⟩
      have hget : es[i]? = some es[i] := by simp [hi]
      generalize es[i] = x at hget
      have hw := add1 i es.length hi hl
      have hd := drop_cons hget
      replace hR := hR.out
      rw [hd, firstL] at hR
      replace hR : Kp ((if x ≠ 0 then x else firstL (List.drop (i + 1) es)) = R) := ⟨hR⟩
      clear hd
      conv => arg 3; whnf
      all_goals try (refine zs ?_; repeat' first | apply zs0 | apply zs2 | (intro hc; try have hq := dq hc))
      · simp only [decide_eq_true_eq] at hc
        exact ⟨rfl, .inr ⟨rfl, by rw [← hR.out, if_pos hc]; simp only [seval, push_cast]⟩⟩
      · simp only [decide_eq_false_iff_not, Decidable.not_not] at hc
        exact ⟨rfl, by (simp only [seval, push_cast, *] <;> rfl), by (simp only [seval, push_cast, *] <;> rfl), by (simp only [seval, push_cast, *] <;> rfl), ⟨by rw [← hR.out, if_neg (by simp [hc])]⟩⟩
    · rintro ρ H' ⟨rfl, h5, h6, h7, hR⟩
      replace hR := hR.out
      rw [List.drop_length] at hR
      conv => arg 3; whnf
      all_goals try (refine zs ?_; repeat' first | apply zs0 | apply zs2 | (intro hc; try have hq := dq hc))
      exact ⟨rfl, .inl ⟨rfl, hR.symm⟩⟩
  all_goals try (refine zs ?_; repeat' first | apply zs0 | apply zs2 | (intro hc; try have hq := dq hc))
  refine lp_then (lp_any (c := loopAt Tryz.f140 0) rfl (key (firstL es) _ 0 _ _ (by omega) ⟨rfl, by (simp only [seval, push_cast, *] <;> rfl), by (simp only [seval, push_cast, *] <;> rfl), by (simp only [seval, push_cast, *] <;> rfl), ⟨rfl⟩⟩)) ?_
  rintro ex ρ' H' ⟨rfl, ⟨rfl, h2⟩ | ⟨rfl, h2⟩⟩ -
  · all_goals try (refine zs ?_; repeat' first | apply zs0 | apply zs2 | (intro hc; try have hq := dq hc))
  · all_goals try (refine zs ?_; repeat' first | apply zs0 | apply zs2 | (intro hc; try have hq := dq hc))
attribute [push_cast] graph_first

theorem graph_first_2 (bs : List Nat) (H : Heap) (a b : Int) : callw X bs 140 [.list [.int .i64 a, .int .i64 b]] H = some (.int .i64 (firstL [a, b]), H) := graph_first bs H [a, b] (by simp)
theorem graph_first_3 (bs : List Nat) (H : Heap) (a b c : Int) : callw X bs 140 [.list [.int .i64 a, .int .i64 b, .int .i64 c]] H = some (.int .i64 (firstL [a, b, c]), H) := graph_first bs H [a, b, c] (by simp)
attribute [push_cast] graph_first_2 graph_first_3

end Go.E
/- Contracts of chapter 22, in E: each. Own work. -/
namespace Go.E
open Go.Proofs
set_option maxRecDepth 100000
set_option maxHeartbeats 4000000

/-! each[api.Port], of values that encPort writes -/
theorem netlist_each_Port (bs : List Nat) (H : Heap) {S : Type} (HS : S → Heap) (fid : Nat) (caps : List V) (g : Nat → Port → S → Int × S) (l : List Port) (hl : l.length ≤ 1000000) (hf : Does X encPort HS fid caps g l) (s : S) (junk : Heap) (hH : Kp (H = HS s ++ junk)) (hsl : ∀ s t, (HS s).length = (HS t).length) : callw X bs 59 [.list (l.map encPort), .func fid caps] H = some (.tuple [.int .i64 (eachL g 0 l s).1.1, .int .i64 (eachL g 0 l s).1.2], HS (eachL g 0 l s).2 ++ junk) := by
  refine call_at (rs := [.tmp 4, .tmp 5]) (N := 25) (fn := Tryz.f59) xk59 xf59 rfl rfl rfl (by simp only [seval, push_cast, List.map_cons, List.map_nil, V.norm, norm1]; rfl) ?_
  have key : ∀ (R : (Int × Int) × S) (bs : List Nat) i ρ H', i ≤ l.length → (∃ s junk2, H' = HS s ++ (junk ++ junk2) ∧ ρ 1 = .func fid caps ∧ ρ 9 = .list (l.map encPort) ∧ ρ 10 = .int .i64 l.length ∧ ρ 11 = .int .i64 i ∧ Kp (eachL g i (l.drop i) s = R)) →
      Lp X ⟨25, bs⟩ (loopAt Tryz.f59 0) ρ H' fun ex ρ' H' => ∃ junk2, H' = HS R.2 ++ (junk ++ junk2) ∧ ((ex = .exit 0 ∧ R.1 = (0, 0)) ∨ (ex = .ret ∧ ρ' 4 = .int .i64 R.1.1 ∧ ρ' 5 = .int .i64 R.1.2)) := by
    intro R bs
    refine loop_up ?_ ?_
    · rintro i ρ H' hi ⟨s, junk2, hH2, h1, h9, h10, h11, hR⟩
      have hget : l[i]? = some l[i] := by simp [hi]
      generalize l[i] = x at hget
      have hw := add1 i l.length hi hl
      replace hR := hR.out
      rw [drop_cons hget, eachL] at hR
      replace hR : Kp ((if (g i x s).1 ≠ 0 then (((i : Int), (g i x s).1), (g i x s).2) else eachL g (i + 1) (l.drop (i + 1)) (g i x s).2) = R) := ⟨hR⟩
      have hcall := fun bs (y : List HObj) => hf bs i x s (junk ++ (junk2 ++ y)) hget
      have e1 : ∀ y : List HObj, HS s ++ (junk ++ (junk2 ++ y)) = H' ++ y := fun y => by rw [hH2]; simp
      simp only [e1, seval, push_cast] at hcall
      replace e1 : Kp (H' = HS s ++ (junk ++ junk2)) := ⟨hH2⟩
      clear hH2 hf hl
      have hcall0 := fun bs => hcall bs []
      simp only [List.append_nil] at hcall0
      conv => arg 3; whnf
      all_goals try (refine zs ?_; repeat' first | apply zs0 | apply zs2 | (intro hc; try have hq := dq hc))
      · have hc : (g i x s).1 ≠ 0 := by simpa using hc
        rw [← hR.out, if_pos hc]
        exact ⟨_, by first | rfl | (simp only [List.append_assoc]; rfl), .inr ⟨rfl, by (simp only [seval, push_cast, *] <;> rfl), by (simp only [seval, push_cast, *] <;> rfl)⟩⟩
      · have hc : (g i x s).1 = 0 := by simpa using hc
        exact ⟨_, _, by first | rfl | (simp only [List.append_assoc]; rfl), by (simp only [seval, push_cast, *] <;> rfl), by (simp only [seval, push_cast, *] <;> rfl), by (simp only [seval, push_cast, *] <;> rfl), by (simp only [seval, push_cast, *] <;> rfl), ⟨by rw [← hR.out, if_neg (by simp [hc])]⟩⟩
    · rintro ρ H' ⟨s, junk2, hH2, h1, h9, h10, h11, hR⟩
      replace hR := hR.out
      rw [List.drop_length, eachL] at hR
      clear hf
      conv => arg 3; whnf
      all_goals try (refine zs ?_; repeat' first | apply zs0 | apply zs2 | (intro hc; try have hq := dq hc))
      rw [← hR]
      exact ⟨junk2, by simp, .inl ⟨rfl, rfl⟩⟩
  have key2 := fun bs ρ => key (eachL g 0 l s) bs 0 ρ H (by omega)
  clear hf
  all_goals try (refine zs ?_; repeat' first | apply zs0 | apply zs2 | (intro hc; try have hq := dq hc))
  refine lp_then (lp_any (c := loopAt Tryz.f59 0) rfl (key2 _ _ ⟨s, [], by simp [hH.out], by (simp only [seval, push_cast, *] <;> rfl), by (simp only [seval, push_cast, *] <;> rfl), by (simp only [seval, push_cast, *] <;> rfl), by (simp only [seval, push_cast, *] <;> rfl), ⟨by simp⟩⟩)) ?_
  have hlen : ∀ t junk2, (HS t ++ (junk ++ junk2)).take H.length = HS t ++ junk := fun t junk2 => by
    rw [← List.append_assoc]; exact List.take_left' (by rw [hH.out]; simp [hsl t s])
  rintro ex ρ' H' ⟨junk2, rfl, ⟨rfl, h2⟩ | ⟨rfl, h2, h3⟩⟩ hf2
  · rw [h2]
    all_goals try (refine zs ?_; repeat' first | apply zs0 | apply zs2 | (intro hc; try have hq := dq hc))
  · all_goals try (refine zs ?_; repeat' first | apply zs0 | apply zs2 | (intro hc; try have hq := dq hc))
theorem netlist_each_Port_p (bs : List Nat) (H : Heap) (fid : Nat) (caps : List V) (g : Nat → Port → Int) (l : List Port) (hl : l.length ≤ 1000000) (hf : ∀ bs (i : Nat) x junk, l[i]? = some x → callw X bs fid (.int .i64 i :: encPort x :: caps) (H ++ junk) = some (.int .i64 (g i x), H ++ junk)) :
    callw X bs 59 [.list (l.map encPort), .func fid caps] H = some (.tuple [.int .i64 (eachP g 0 l).1, .int .i64 (eachP g 0 l).2], H) := by
  have := netlist_each_Port bs H (S := Unit) (fun _ => H) fid caps (fun i x u => (g i x, u)) l hl (fun bs i x _ junk h => hf bs i x junk h) () [] ⟨by simp⟩ (fun _ _ => rfl)
  rw [eachL_P] at this
  simpa using this

/-! each[api.NetRegister], of values that encReg writes -/
theorem netlist_each_Reg (bs : List Nat) (H : Heap) {S : Type} (HS : S → Heap) (fid : Nat) (caps : List V) (g : Nat → Reg → S → Int × S) (l : List Reg) (hl : l.length ≤ 1000000) (hf : Does X encReg HS fid caps g l) (s : S) (junk : Heap) (hH : Kp (H = HS s ++ junk)) (hsl : ∀ s t, (HS s).length = (HS t).length) : callw X bs 65 [.list (l.map encReg), .func fid caps] H = some (.tuple [.int .i64 (eachL g 0 l s).1.1, .int .i64 (eachL g 0 l s).1.2], HS (eachL g 0 l s).2 ++ junk) := by
  refine call_at (rs := [.tmp 4, .tmp 5]) (N := 25) (fn := Tryz.f65) xk65 xf65 rfl rfl rfl (by simp only [seval, push_cast, List.map_cons, List.map_nil, V.norm, norm1]; rfl) ?_
  have key : ∀ (R : (Int × Int) × S) (bs : List Nat) i ρ H', i ≤ l.length → (∃ s junk2, H' = HS s ++ (junk ++ junk2) ∧ ρ 1 = .func fid caps ∧ ρ 9 = .list (l.map encReg) ∧ ρ 10 = .int .i64 l.length ∧ ρ 11 = .int .i64 i ∧ Kp (eachL g i (l.drop i) s = R)) →
      Lp X ⟨25, bs⟩ (loopAt Tryz.f65 0) ρ H' fun ex ρ' H' => ∃ junk2, H' = HS R.2 ++ (junk ++ junk2) ∧ ((ex = .exit 0 ∧ R.1 = (0, 0)) ∨ (ex = .ret ∧ ρ' 4 = .int .i64 R.1.1 ∧ ρ' 5 = .int .i64 R.1.2)) := by
    intro R bs
    refine loop_up ?_ ?_
    · rintro i ρ H' hi ⟨s, junk2, hH2, h1, h9, h10, h11, hR⟩
      have hget : l[i]? = some l[i] := by simp [hi]
      generalize l[i] = x at hget
      have hw := add1 i l.length hi hl
      replace hR := hR.out
      rw [drop_cons hget, eachL] at hR
      replace hR : Kp ((if (g i x s).1 ≠ 0 then (((i : Int), (g i x s).1), (g i x s).2) else eachL g (i + 1) (l.drop (i + 1)) (g i x s).2) = R) := ⟨hR⟩
      have hcall := fun bs (y : List HObj) => hf bs i x s (junk ++ (junk2 ++ y)) hget
      have e1 : ∀ y : List HObj, HS s ++ (junk ++ (junk2 ++ y)) = H' ++ y := fun y => by rw [hH2]; simp
      simp only [e1, seval, push_cast] at hcall
      replace e1 : Kp (H' = HS s ++ (junk ++ junk2)) := ⟨hH2⟩
      clear hH2 hf hl
      have hcall0 := fun bs => hcall bs []
      simp only [List.append_nil] at hcall0
      conv => arg 3; whnf
      all_goals try (refine zs ?_; repeat' first | apply zs0 | apply zs2 | (intro hc; try have hq := dq hc))
      · have hc : (g i x s).1 ≠ 0 := by simpa using hc
        rw [← hR.out, if_pos hc]
        exact ⟨_, by first | rfl | (simp only [List.append_assoc]; rfl), .inr ⟨rfl, by (simp only [seval, push_cast, *] <;> rfl), by (simp only [seval, push_cast, *] <;> rfl)⟩⟩
      · have hc : (g i x s).1 = 0 := by simpa using hc
        exact ⟨_, _, by first | rfl | (simp only [List.append_assoc]; rfl), by (simp only [seval, push_cast, *] <;> rfl), by (simp only [seval, push_cast, *] <;> rfl), by (simp only [seval, push_cast, *] <;> rfl), by (simp only [seval, push_cast, *] <;> rfl), ⟨by rw [← hR.out, if_neg (by simp [hc])]⟩⟩
    · rintro ρ H' ⟨s, junk2, hH2, h1, h9, h10, h11, hR⟩
      replace hR := hR.out
      rw [List.drop_length, eachL] at hR
      clear hf
      conv => arg 3; whnf
      all_goals try (refine zs ?_; repeat' first | apply zs0 | apply zs2 | (intro hc; try have hq := dq hc))
      rw [← hR]
      exact ⟨junk2, by simp, .inl ⟨rfl, rfl⟩⟩
  have key2 := fun bs ρ => key (eachL g 0 l s) bs 0 ρ H (by omega)
  clear hf
  all_goals try (refine zs ?_; repeat' first | apply zs0 | apply zs2 | (intro hc; try have hq := dq hc))
  refine lp_then (lp_any (c := loopAt Tryz.f65 0) rfl (key2 _ _ ⟨s, [], by simp [hH.out], by (simp only [seval, push_cast, *] <;> rfl), by (simp only [seval, push_cast, *] <;> rfl), by (simp only [seval, push_cast, *] <;> rfl), by (simp only [seval, push_cast, *] <;> rfl), ⟨by simp⟩⟩)) ?_
  have hlen : ∀ t junk2, (HS t ++ (junk ++ junk2)).take H.length = HS t ++ junk := fun t junk2 => by
    rw [← List.append_assoc]; exact List.take_left' (by rw [hH.out]; simp [hsl t s])
  rintro ex ρ' H' ⟨junk2, rfl, ⟨rfl, h2⟩ | ⟨rfl, h2, h3⟩⟩ hf2
  · rw [h2]
    all_goals try (refine zs ?_; repeat' first | apply zs0 | apply zs2 | (intro hc; try have hq := dq hc))
  · all_goals try (refine zs ?_; repeat' first | apply zs0 | apply zs2 | (intro hc; try have hq := dq hc))
theorem netlist_each_Reg_p (bs : List Nat) (H : Heap) (fid : Nat) (caps : List V) (g : Nat → Reg → Int) (l : List Reg) (hl : l.length ≤ 1000000) (hf : ∀ bs (i : Nat) x junk, l[i]? = some x → callw X bs fid (.int .i64 i :: encReg x :: caps) (H ++ junk) = some (.int .i64 (g i x), H ++ junk)) :
    callw X bs 65 [.list (l.map encReg), .func fid caps] H = some (.tuple [.int .i64 (eachP g 0 l).1, .int .i64 (eachP g 0 l).2], H) := by
  have := netlist_each_Reg bs H (S := Unit) (fun _ => H) fid caps (fun i x u => (g i x, u)) l hl (fun bs i x _ junk h => hf bs i x junk h) () [] ⟨by simp⟩ (fun _ _ => rfl)
  rw [eachL_P] at this
  simpa using this

/-! each[api.Output], of values that encOutp writes -/
theorem netlist_each_Outp (bs : List Nat) (H : Heap) {S : Type} (HS : S → Heap) (fid : Nat) (caps : List V) (g : Nat → Outp → S → Int × S) (l : List Outp) (hl : l.length ≤ 1000000) (hf : Does X encOutp HS fid caps g l) (s : S) (junk : Heap) (hH : Kp (H = HS s ++ junk)) (hsl : ∀ s t, (HS s).length = (HS t).length) : callw X bs 75 [.list (l.map encOutp), .func fid caps] H = some (.tuple [.int .i64 (eachL g 0 l s).1.1, .int .i64 (eachL g 0 l s).1.2], HS (eachL g 0 l s).2 ++ junk) := by
  refine call_at (rs := [.tmp 4, .tmp 5]) (N := 25) (fn := Tryz.f75) xk75 xf75 rfl rfl rfl (by simp only [seval, push_cast, List.map_cons, List.map_nil, V.norm, norm1]; rfl) ?_
  have key : ∀ (R : (Int × Int) × S) (bs : List Nat) i ρ H', i ≤ l.length → (∃ s junk2, H' = HS s ++ (junk ++ junk2) ∧ ρ 1 = .func fid caps ∧ ρ 9 = .list (l.map encOutp) ∧ ρ 10 = .int .i64 l.length ∧ ρ 11 = .int .i64 i ∧ Kp (eachL g i (l.drop i) s = R)) →
      Lp X ⟨25, bs⟩ (loopAt Tryz.f75 0) ρ H' fun ex ρ' H' => ∃ junk2, H' = HS R.2 ++ (junk ++ junk2) ∧ ((ex = .exit 0 ∧ R.1 = (0, 0)) ∨ (ex = .ret ∧ ρ' 4 = .int .i64 R.1.1 ∧ ρ' 5 = .int .i64 R.1.2)) := by
    intro R bs
    refine loop_up ?_ ?_
    · rintro i ρ H' hi ⟨s, junk2, hH2, h1, h9, h10, h11, hR⟩
      have hget : l[i]? = some l[i] := by simp [hi]
      generalize l[i] = x at hget
      have hw := add1 i l.length hi hl
      replace hR := hR.out
      rw [drop_cons hget, eachL] at hR
      replace hR : Kp ((if (g i x s).1 ≠ 0 then (((i : Int), (g i x s).1), (g i x s).2) else eachL g (i + 1) (l.drop (i + 1)) (g i x s).2) = R) := ⟨hR⟩
      have hcall := fun bs (y : List HObj) => hf bs i x s (junk ++ (junk2 ++ y)) hget
      have e1 : ∀ y : List HObj, HS s ++ (junk ++ (junk2 ++ y)) = H' ++ y := fun y => by rw [hH2]; simp
      simp only [e1, seval, push_cast] at hcall
      replace e1 : Kp (H' = HS s ++ (junk ++ junk2)) := ⟨hH2⟩
      clear hH2 hf hl
      have hcall0 := fun bs => hcall bs []
      simp only [List.append_nil] at hcall0
      conv => arg 3; whnf
      all_goals try (refine zs ?_; repeat' first | apply zs0 | apply zs2 | (intro hc; try have hq := dq hc))
      · have hc : (g i x s).1 ≠ 0 := by simpa using hc
        rw [← hR.out, if_pos hc]
        exact ⟨_, by first | rfl | (simp only [List.append_assoc]; rfl), .inr ⟨rfl, by (simp only [seval, push_cast, *] <;> rfl), by (simp only [seval, push_cast, *] <;> rfl)⟩⟩
      · have hc : (g i x s).1 = 0 := by simpa using hc
        exact ⟨_, _, by first | rfl | (simp only [List.append_assoc]; rfl), by (simp only [seval, push_cast, *] <;> rfl), by (simp only [seval, push_cast, *] <;> rfl), by (simp only [seval, push_cast, *] <;> rfl), by (simp only [seval, push_cast, *] <;> rfl), ⟨by rw [← hR.out, if_neg (by simp [hc])]⟩⟩
    · rintro ρ H' ⟨s, junk2, hH2, h1, h9, h10, h11, hR⟩
      replace hR := hR.out
      rw [List.drop_length, eachL] at hR
      clear hf
      conv => arg 3; whnf
      all_goals try (refine zs ?_; repeat' first | apply zs0 | apply zs2 | (intro hc; try have hq := dq hc))
      rw [← hR]
      exact ⟨junk2, by simp, .inl ⟨rfl, rfl⟩⟩
  have key2 := fun bs ρ => key (eachL g 0 l s) bs 0 ρ H (by omega)
  clear hf
  all_goals try (refine zs ?_; repeat' first | apply zs0 | apply zs2 | (intro hc; try have hq := dq hc))
  refine lp_then (lp_any (c := loopAt Tryz.f75 0) rfl (key2 _ _ ⟨s, [], by simp [hH.out], by (simp only [seval, push_cast, *] <;> rfl), by (simp only [seval, push_cast, *] <;> rfl), by (simp only [seval, push_cast, *] <;> rfl), by (simp only [seval, push_cast, *] <;> rfl), ⟨by simp⟩⟩)) ?_
  have hlen : ∀ t junk2, (HS t ++ (junk ++ junk2)).take H.length = HS t ++ junk := fun t junk2 => by
    rw [← List.append_assoc]; exact List.take_left' (by rw [hH.out]; simp [hsl t s])
  rintro ex ρ' H' ⟨junk2, rfl, ⟨rfl, h2⟩ | ⟨rfl, h2, h3⟩⟩ hf2
  · rw [h2]
    all_goals try (refine zs ?_; repeat' first | apply zs0 | apply zs2 | (intro hc; try have hq := dq hc))
  · all_goals try (refine zs ?_; repeat' first | apply zs0 | apply zs2 | (intro hc; try have hq := dq hc))
theorem netlist_each_Outp_p (bs : List Nat) (H : Heap) (fid : Nat) (caps : List V) (g : Nat → Outp → Int) (l : List Outp) (hl : l.length ≤ 1000000) (hf : ∀ bs (i : Nat) x junk, l[i]? = some x → callw X bs fid (.int .i64 i :: encOutp x :: caps) (H ++ junk) = some (.int .i64 (g i x), H ++ junk)) :
    callw X bs 75 [.list (l.map encOutp), .func fid caps] H = some (.tuple [.int .i64 (eachP g 0 l).1, .int .i64 (eachP g 0 l).2], H) := by
  have := netlist_each_Outp bs H (S := Unit) (fun _ => H) fid caps (fun i x u => (g i x, u)) l hl (fun bs i x _ junk h => hf bs i x junk h) () [] ⟨by simp⟩ (fun _ _ => rfl)
  rw [eachL_P] at this
  simpa using this

/-! each[int], of values that encInt writes -/
theorem netlist_each_Int (bs : List Nat) (H : Heap) {S : Type} (HS : S → Heap) (fid : Nat) (caps : List V) (g : Nat → Int → S → Int × S) (l : List Int) (hl : l.length ≤ 1000000) (hf : Does X encInt HS fid caps g l) (s : S) (junk : Heap) (hH : Kp (H = HS s ++ junk)) (hsl : ∀ s t, (HS s).length = (HS t).length) : callw X bs 200 [.list (l.map encInt), .func fid caps] H = some (.tuple [.int .i64 (eachL g 0 l s).1.1, .int .i64 (eachL g 0 l s).1.2], HS (eachL g 0 l s).2 ++ junk) := by
  refine call_at (rs := [.tmp 4, .tmp 5]) (N := 25) (fn := Tryz.f200) xk200 xf200 rfl rfl rfl (by simp only [seval, push_cast, List.map_cons, List.map_nil, V.norm, norm1]; rfl) ?_
  have key : ∀ (R : (Int × Int) × S) (bs : List Nat) i ρ H', i ≤ l.length → (∃ s junk2, H' = HS s ++ (junk ++ junk2) ∧ ρ 1 = .func fid caps ∧ ρ 9 = .list (l.map encInt) ∧ ρ 10 = .int .i64 l.length ∧ ρ 11 = .int .i64 i ∧ Kp (eachL g i (l.drop i) s = R)) →
      Lp X ⟨25, bs⟩ (loopAt Tryz.f200 0) ρ H' fun ex ρ' H' => ∃ junk2, H' = HS R.2 ++ (junk ++ junk2) ∧ ((ex = .exit 0 ∧ R.1 = (0, 0)) ∨ (ex = .ret ∧ ρ' 4 = .int .i64 R.1.1 ∧ ρ' 5 = .int .i64 R.1.2)) := by
    intro R bs
    refine loop_up ?_ ?_
    · rintro i ρ H' hi ⟨s, junk2, hH2, h1, h9, h10, h11, hR⟩
      have hget : l[i]? = some l[i] := by simp [hi]
      generalize l[i] = x at hget
      have hw := add1 i l.length hi hl
      replace hR := hR.out
      rw [drop_cons hget, eachL] at hR
      replace hR : Kp ((if (g i x s).1 ≠ 0 then (((i : Int), (g i x s).1), (g i x s).2) else eachL g (i + 1) (l.drop (i + 1)) (g i x s).2) = R) := ⟨hR⟩
      have hcall := fun bs (y : List HObj) => hf bs i x s (junk ++ (junk2 ++ y)) hget
      have e1 : ∀ y : List HObj, HS s ++ (junk ++ (junk2 ++ y)) = H' ++ y := fun y => by rw [hH2]; simp
      simp only [e1, seval, push_cast] at hcall
      replace e1 : Kp (H' = HS s ++ (junk ++ junk2)) := ⟨hH2⟩
      clear hH2 hf hl
      have hcall0 := fun bs => hcall bs []
      simp only [List.append_nil] at hcall0
      conv => arg 3; whnf
      all_goals try (refine zs ?_; repeat' first | apply zs0 | apply zs2 | (intro hc; try have hq := dq hc))
      · have hc : (g i x s).1 ≠ 0 := by simpa using hc
        rw [← hR.out, if_pos hc]
        exact ⟨_, by first | rfl | (simp only [List.append_assoc]; rfl), .inr ⟨rfl, by (simp only [seval, push_cast, *] <;> rfl), by (simp only [seval, push_cast, *] <;> rfl)⟩⟩
      · have hc : (g i x s).1 = 0 := by simpa using hc
        exact ⟨_, _, by first | rfl | (simp only [List.append_assoc]; rfl), by (simp only [seval, push_cast, *] <;> rfl), by (simp only [seval, push_cast, *] <;> rfl), by (simp only [seval, push_cast, *] <;> rfl), by (simp only [seval, push_cast, *] <;> rfl), ⟨by rw [← hR.out, if_neg (by simp [hc])]⟩⟩
    · rintro ρ H' ⟨s, junk2, hH2, h1, h9, h10, h11, hR⟩
      replace hR := hR.out
      rw [List.drop_length, eachL] at hR
      clear hf
      conv => arg 3; whnf
      all_goals try (refine zs ?_; repeat' first | apply zs0 | apply zs2 | (intro hc; try have hq := dq hc))
      rw [← hR]
      exact ⟨junk2, by simp, .inl ⟨rfl, rfl⟩⟩
  have key2 := fun bs ρ => key (eachL g 0 l s) bs 0 ρ H (by omega)
  clear hf
  all_goals try (refine zs ?_; repeat' first | apply zs0 | apply zs2 | (intro hc; try have hq := dq hc))
  refine lp_then (lp_any (c := loopAt Tryz.f200 0) rfl (key2 _ _ ⟨s, [], by simp [hH.out], by (simp only [seval, push_cast, *] <;> rfl), by (simp only [seval, push_cast, *] <;> rfl), by (simp only [seval, push_cast, *] <;> rfl), by (simp only [seval, push_cast, *] <;> rfl), ⟨by simp⟩⟩)) ?_
  have hlen : ∀ t junk2, (HS t ++ (junk ++ junk2)).take H.length = HS t ++ junk := fun t junk2 => by
    rw [← List.append_assoc]; exact List.take_left' (by rw [hH.out]; simp [hsl t s])
  rintro ex ρ' H' ⟨junk2, rfl, ⟨rfl, h2⟩ | ⟨rfl, h2, h3⟩⟩ hf2
  · rw [h2]
    all_goals try (refine zs ?_; repeat' first | apply zs0 | apply zs2 | (intro hc; try have hq := dq hc))
  · all_goals try (refine zs ?_; repeat' first | apply zs0 | apply zs2 | (intro hc; try have hq := dq hc))
theorem netlist_each_Int_p (bs : List Nat) (H : Heap) (fid : Nat) (caps : List V) (g : Nat → Int → Int) (l : List Int) (hl : l.length ≤ 1000000) (hf : ∀ bs (i : Nat) x junk, l[i]? = some x → callw X bs fid (.int .i64 i :: encInt x :: caps) (H ++ junk) = some (.int .i64 (g i x), H ++ junk)) :
    callw X bs 200 [.list (l.map encInt), .func fid caps] H = some (.tuple [.int .i64 (eachP g 0 l).1, .int .i64 (eachP g 0 l).2], H) := by
  have := netlist_each_Int bs H (S := Unit) (fun _ => H) fid caps (fun i x u => (g i x, u)) l hl (fun bs i x _ junk h => hf bs i x junk h) () [] ⟨by simp⟩ (fun _ _ => rfl)
  rw [eachL_P] at this
  simpa using this

/-! each[[]int], of values that encInts writes -/
theorem netlist_each_Ints (bs : List Nat) (H : Heap) {S : Type} (HS : S → Heap) (fid : Nat) (caps : List V) (g : Nat → (List Int) → S → Int × S) (l : List (List Int)) (hl : l.length ≤ 1000000) (hf : Does X encInts HS fid caps g l) (s : S) (junk : Heap) (hH : Kp (H = HS s ++ junk)) (hsl : ∀ s t, (HS s).length = (HS t).length) : callw X bs 150 [.list (l.map encInts), .func fid caps] H = some (.tuple [.int .i64 (eachL g 0 l s).1.1, .int .i64 (eachL g 0 l s).1.2], HS (eachL g 0 l s).2 ++ junk) := by
  refine call_at (rs := [.tmp 4, .tmp 5]) (N := 25) (fn := Tryz.f150) xk150 xf150 rfl rfl rfl (by simp only [seval, push_cast, List.map_cons, List.map_nil, V.norm, norm1]; rfl) ?_
  have key : ∀ (R : (Int × Int) × S) (bs : List Nat) i ρ H', i ≤ l.length → (∃ s junk2, H' = HS s ++ (junk ++ junk2) ∧ ρ 1 = .func fid caps ∧ ρ 9 = .list (l.map encInts) ∧ ρ 10 = .int .i64 l.length ∧ ρ 11 = .int .i64 i ∧ Kp (eachL g i (l.drop i) s = R)) →
      Lp X ⟨25, bs⟩ (loopAt Tryz.f150 0) ρ H' fun ex ρ' H' => ∃ junk2, H' = HS R.2 ++ (junk ++ junk2) ∧ ((ex = .exit 0 ∧ R.1 = (0, 0)) ∨ (ex = .ret ∧ ρ' 4 = .int .i64 R.1.1 ∧ ρ' 5 = .int .i64 R.1.2)) := by
    intro R bs
    refine loop_up ?_ ?_
    · rintro i ρ H' hi ⟨s, junk2, hH2, h1, h9, h10, h11, hR⟩
      have hget : l[i]? = some l[i] := by simp [hi]
      generalize l[i] = x at hget
      have hw := add1 i l.length hi hl
      replace hR := hR.out
      rw [drop_cons hget, eachL] at hR
      replace hR : Kp ((if (g i x s).1 ≠ 0 then (((i : Int), (g i x s).1), (g i x s).2) else eachL g (i + 1) (l.drop (i + 1)) (g i x s).2) = R) := ⟨hR⟩
      have hcall := fun bs (y : List HObj) => hf bs i x s (junk ++ (junk2 ++ y)) hget
      have e1 : ∀ y : List HObj, HS s ++ (junk ++ (junk2 ++ y)) = H' ++ y := fun y => by rw [hH2]; simp
      simp only [e1, seval, push_cast] at hcall
      replace e1 : Kp (H' = HS s ++ (junk ++ junk2)) := ⟨hH2⟩
      clear hH2 hf hl
      have hcall0 := fun bs => hcall bs []
      simp only [List.append_nil] at hcall0
      conv => arg 3; whnf
      all_goals try (refine zs ?_; repeat' first | apply zs0 | apply zs2 | (intro hc; try have hq := dq hc))
      · have hc : (g i x s).1 ≠ 0 := by simpa using hc
        rw [← hR.out, if_pos hc]
        exact ⟨_, by first | rfl | (simp only [List.append_assoc]; rfl), .inr ⟨rfl, by (simp only [seval, push_cast, *] <;> rfl), by (simp only [seval, push_cast, *] <;> rfl)⟩⟩
      · have hc : (g i x s).1 = 0 := by simpa using hc
        exact ⟨_, _, by first | rfl | (simp only [List.append_assoc]; rfl), by (simp only [seval, push_cast, *] <;> rfl), by (simp only [seval, push_cast, *] <;> rfl), by (simp only [seval, push_cast, *] <;> rfl), by (simp only [seval, push_cast, *] <;> rfl), ⟨by rw [← hR.out, if_neg (by simp [hc])]⟩⟩
    · rintro ρ H' ⟨s, junk2, hH2, h1, h9, h10, h11, hR⟩
      replace hR := hR.out
      rw [List.drop_length, eachL] at hR
      clear hf
      conv => arg 3; whnf
      all_goals try (refine zs ?_; repeat' first | apply zs0 | apply zs2 | (intro hc; try have hq := dq hc))
      rw [← hR]
      exact ⟨junk2, by simp, .inl ⟨rfl, rfl⟩⟩
  have key2 := fun bs ρ => key (eachL g 0 l s) bs 0 ρ H (by omega)
  clear hf
  all_goals try (refine zs ?_; repeat' first | apply zs0 | apply zs2 | (intro hc; try have hq := dq hc))
  refine lp_then (lp_any (c := loopAt Tryz.f150 0) rfl (key2 _ _ ⟨s, [], by simp [hH.out], by (simp only [seval, push_cast, *] <;> rfl), by (simp only [seval, push_cast, *] <;> rfl), by (simp only [seval, push_cast, *] <;> rfl), by (simp only [seval, push_cast, *] <;> rfl), ⟨by simp⟩⟩)) ?_
  have hlen : ∀ t junk2, (HS t ++ (junk ++ junk2)).take H.length = HS t ++ junk := fun t junk2 => by
    rw [← List.append_assoc]; exact List.take_left' (by rw [hH.out]; simp [hsl t s])
  rintro ex ρ' H' ⟨junk2, rfl, ⟨rfl, h2⟩ | ⟨rfl, h2, h3⟩⟩ hf2
  · rw [h2]
    all_goals try (refine zs ?_; repeat' first | apply zs0 | apply zs2 | (intro hc; try have hq := dq hc))
  · all_goals try (refine zs ?_; repeat' first | apply zs0 | apply zs2 | (intro hc; try have hq := dq hc))
theorem netlist_each_Ints_p (bs : List Nat) (H : Heap) (fid : Nat) (caps : List V) (g : Nat → (List Int) → Int) (l : List (List Int)) (hl : l.length ≤ 1000000) (hf : ∀ bs (i : Nat) x junk, l[i]? = some x → callw X bs fid (.int .i64 i :: encInts x :: caps) (H ++ junk) = some (.int .i64 (g i x), H ++ junk)) :
    callw X bs 150 [.list (l.map encInts), .func fid caps] H = some (.tuple [.int .i64 (eachP g 0 l).1, .int .i64 (eachP g 0 l).2], H) := by
  have := netlist_each_Ints bs H (S := Unit) (fun _ => H) fid caps (fun i x u => (g i x, u)) l hl (fun bs i x _ junk h => hf bs i x junk h) () [] ⟨by simp⟩ (fun _ _ => rfl)
  rw [eachL_P] at this
  simpa using this

/-! each[int], of values that encInt writes -/
theorem graph_each_Int (bs : List Nat) (H : Heap) {S : Type} (HS : S → Heap) (fid : Nat) (caps : List V) (g : Nat → Int → S → Int × S) (l : List Int) (hl : l.length ≤ 1000000) (hf : Does X encInt HS fid caps g l) (s : S) (junk : Heap) (hH : Kp (H = HS s ++ junk)) (hsl : ∀ s t, (HS s).length = (HS t).length) : callw X bs 133 [.list (l.map encInt), .func fid caps] H = some (.tuple [.int .i64 (eachL g 0 l s).1.1, .int .i64 (eachL g 0 l s).1.2], HS (eachL g 0 l s).2 ++ junk) := by
  refine call_at (rs := [.tmp 4, .tmp 5]) (N := 25) (fn := Tryz.f133) xk133 xf133 rfl rfl rfl (by simp only [seval, push_cast, List.map_cons, List.map_nil, V.norm, norm1]; rfl) ?_
  have key : ∀ (R : (Int × Int) × S) (bs : List Nat) i ρ H', i ≤ l.length → (∃ s junk2, H' = HS s ++ (junk ++ junk2) ∧ ρ 1 = .func fid caps ∧ ρ 9 = .list (l.map encInt) ∧ ρ 10 = .int .i64 l.length ∧ ρ 11 = .int .i64 i ∧ Kp (eachL g i (l.drop i) s = R)) →
      Lp X ⟨25, bs⟩ (loopAt Tryz.f133 0) ρ H' fun ex ρ' H' => ∃ junk2, H' = HS R.2 ++ (junk ++ junk2) ∧ ((ex = .exit 0 ∧ R.1 = (0, 0)) ∨ (ex = .ret ∧ ρ' 4 = .int .i64 R.1.1 ∧ ρ' 5 = .int .i64 R.1.2)) := by
    intro R bs
    refine loop_up ?_ ?_
    · rintro i ρ H' hi ⟨s, junk2, hH2, h1, h9, h10, h11, hR⟩
      have hget : l[i]? = some l[i] := by simp [hi]
      generalize l[i] = x at hget
      have hw := add1 i l.length hi hl
      replace hR := hR.out
      rw [drop_cons hget, eachL] at hR
      replace hR : Kp ((if (g i x s).1 ≠ 0 then (((i : Int), (g i x s).1), (g i x s).2) else eachL g (i + 1) (l.drop (i + 1)) (g i x s).2) = R) := ⟨hR⟩
      have hcall := fun bs (y : List HObj) => hf bs i x s (junk ++ (junk2 ++ y)) hget
      have e1 : ∀ y : List HObj, HS s ++ (junk ++ (junk2 ++ y)) = H' ++ y := fun y => by rw [hH2]; simp
      simp only [e1, seval, push_cast] at hcall
      replace e1 : Kp (H' = HS s ++ (junk ++ junk2)) := ⟨hH2⟩
      clear hH2 hf hl
      have hcall0 := fun bs => hcall bs []
      simp only [List.append_nil] at hcall0
      conv => arg 3; whnf
      all_goals try (refine zs ?_; repeat' first | apply zs0 | apply zs2 | (intro hc; try have hq := dq hc))
      · have hc : (g i x s).1 ≠ 0 := by simpa using hc
        rw [← hR.out, if_pos hc]
        exact ⟨_, by first | rfl | (simp only [List.append_assoc]; rfl), .inr ⟨rfl, by (simp only [seval, push_cast, *] <;> rfl), by (simp only [seval, push_cast, *] <;> rfl)⟩⟩
      · have hc : (g i x s).1 = 0 := by simpa using hc
        exact ⟨_, _, by first | rfl | (simp only [List.append_assoc]; rfl), by (simp only [seval, push_cast, *] <;> rfl), by (simp only [seval, push_cast, *] <;> rfl), by (simp only [seval, push_cast, *] <;> rfl), by (simp only [seval, push_cast, *] <;> rfl), ⟨by rw [← hR.out, if_neg (by simp [hc])]⟩⟩
    · rintro ρ H' ⟨s, junk2, hH2, h1, h9, h10, h11, hR⟩
      replace hR := hR.out
      rw [List.drop_length, eachL] at hR
      clear hf
      conv => arg 3; whnf
      all_goals try (refine zs ?_; repeat' first | apply zs0 | apply zs2 | (intro hc; try have hq := dq hc))
      rw [← hR]
      exact ⟨junk2, by simp, .inl ⟨rfl, rfl⟩⟩
  have key2 := fun bs ρ => key (eachL g 0 l s) bs 0 ρ H (by omega)
  clear hf
  all_goals try (refine zs ?_; repeat' first | apply zs0 | apply zs2 | (intro hc; try have hq := dq hc))
  refine lp_then (lp_any (c := loopAt Tryz.f133 0) rfl (key2 _ _ ⟨s, [], by simp [hH.out], by (simp only [seval, push_cast, *] <;> rfl), by (simp only [seval, push_cast, *] <;> rfl), by (simp only [seval, push_cast, *] <;> rfl), by (simp only [seval, push_cast, *] <;> rfl), ⟨by simp⟩⟩)) ?_
  have hlen : ∀ t junk2, (HS t ++ (junk ++ junk2)).take H.length = HS t ++ junk := fun t junk2 => by
    rw [← List.append_assoc]; exact List.take_left' (by rw [hH.out]; simp [hsl t s])
  rintro ex ρ' H' ⟨junk2, rfl, ⟨rfl, h2⟩ | ⟨rfl, h2, h3⟩⟩ hf2
  · rw [h2]
    all_goals try (refine zs ?_; repeat' first | apply zs0 | apply zs2 | (intro hc; try have hq := dq hc))
  · all_goals try (refine zs ?_; repeat' first | apply zs0 | apply zs2 | (intro hc; try have hq := dq hc))
theorem graph_each_Int_p (bs : List Nat) (H : Heap) (fid : Nat) (caps : List V) (g : Nat → Int → Int) (l : List Int) (hl : l.length ≤ 1000000) (hf : ∀ bs (i : Nat) x junk, l[i]? = some x → callw X bs fid (.int .i64 i :: encInt x :: caps) (H ++ junk) = some (.int .i64 (g i x), H ++ junk)) :
    callw X bs 133 [.list (l.map encInt), .func fid caps] H = some (.tuple [.int .i64 (eachP g 0 l).1, .int .i64 (eachP g 0 l).2], H) := by
  have := graph_each_Int bs H (S := Unit) (fun _ => H) fid caps (fun i x u => (g i x, u)) l hl (fun bs i x _ junk h => hf bs i x junk h) () [] ⟨by simp⟩ (fun _ _ => rfl)
  rw [eachL_P] at this
  simpa using this

/-! each[api.Node], of values that encNode writes -/
theorem graph_each_Node (bs : List Nat) (H : Heap) {S : Type} (HS : S → Heap) (fid : Nat) (caps : List V) (g : Nat → Node → S → Int × S) (l : List Node) (hl : l.length ≤ 1000000) (hf : Does X encNode HS fid caps g l) (s : S) (junk : Heap) (hH : Kp (H = HS s ++ junk)) (hsl : ∀ s t, (HS s).length = (HS t).length) : callw X bs 138 [.list (l.map encNode), .func fid caps] H = some (.tuple [.int .i64 (eachL g 0 l s).1.1, .int .i64 (eachL g 0 l s).1.2], HS (eachL g 0 l s).2 ++ junk) := by
  refine call_at (rs := [.tmp 4, .tmp 5]) (N := 25) (fn := Tryz.f138) xk138 xf138 rfl rfl rfl (by simp only [seval, push_cast, List.map_cons, List.map_nil, V.norm, norm1]; rfl) ?_
  have key : ∀ (R : (Int × Int) × S) (bs : List Nat) i ρ H', i ≤ l.length → (∃ s junk2, H' = HS s ++ (junk ++ junk2) ∧ ρ 1 = .func fid caps ∧ ρ 9 = .list (l.map encNode) ∧ ρ 10 = .int .i64 l.length ∧ ρ 11 = .int .i64 i ∧ Kp (eachL g i (l.drop i) s = R)) →
      Lp X ⟨25, bs⟩ (loopAt Tryz.f138 0) ρ H' fun ex ρ' H' => ∃ junk2, H' = HS R.2 ++ (junk ++ junk2) ∧ ((ex = .exit 0 ∧ R.1 = (0, 0)) ∨ (ex = .ret ∧ ρ' 4 = .int .i64 R.1.1 ∧ ρ' 5 = .int .i64 R.1.2)) := by
    intro R bs
    refine loop_up ?_ ?_
    · rintro i ρ H' hi ⟨s, junk2, hH2, h1, h9, h10, h11, hR⟩
      have hget : l[i]? = some l[i] := by simp [hi]
      generalize l[i] = x at hget
      have hw := add1 i l.length hi hl
      replace hR := hR.out
      rw [drop_cons hget, eachL] at hR
      replace hR : Kp ((if (g i x s).1 ≠ 0 then (((i : Int), (g i x s).1), (g i x s).2) else eachL g (i + 1) (l.drop (i + 1)) (g i x s).2) = R) := ⟨hR⟩
      have hcall := fun bs (y : List HObj) => hf bs i x s (junk ++ (junk2 ++ y)) hget
      have e1 : ∀ y : List HObj, HS s ++ (junk ++ (junk2 ++ y)) = H' ++ y := fun y => by rw [hH2]; simp
      simp only [e1, seval, push_cast] at hcall
      replace e1 : Kp (H' = HS s ++ (junk ++ junk2)) := ⟨hH2⟩
      clear hH2 hf hl
      have hcall0 := fun bs => hcall bs []
      simp only [List.append_nil] at hcall0
      conv => arg 3; whnf
      all_goals try (refine zs ?_; repeat' first | apply zs0 | apply zs2 | (intro hc; try have hq := dq hc))
      · have hc : (g i x s).1 ≠ 0 := by simpa using hc
        rw [← hR.out, if_pos hc]
        exact ⟨_, by first | rfl | (simp only [List.append_assoc]; rfl), .inr ⟨rfl, by (simp only [seval, push_cast, *] <;> rfl), by (simp only [seval, push_cast, *] <;> rfl)⟩⟩
      · have hc : (g i x s).1 = 0 := by simpa using hc
        exact ⟨_, _, by first | rfl | (simp only [List.append_assoc]; rfl), by (simp only [seval, push_cast, *] <;> rfl), by (simp only [seval, push_cast, *] <;> rfl), by (simp only [seval, push_cast, *] <;> rfl), by (simp only [seval, push_cast, *] <;> rfl), ⟨by rw [← hR.out, if_neg (by simp [hc])]⟩⟩
    · rintro ρ H' ⟨s, junk2, hH2, h1, h9, h10, h11, hR⟩
      replace hR := hR.out
      rw [List.drop_length, eachL] at hR
      clear hf
      conv => arg 3; whnf
      all_goals try (refine zs ?_; repeat' first | apply zs0 | apply zs2 | (intro hc; try have hq := dq hc))
      rw [← hR]
      exact ⟨junk2, by simp, .inl ⟨rfl, rfl⟩⟩
  have key2 := fun bs ρ => key (eachL g 0 l s) bs 0 ρ H (by omega)
  clear hf
  all_goals try (refine zs ?_; repeat' first | apply zs0 | apply zs2 | (intro hc; try have hq := dq hc))
  refine lp_then (lp_any (c := loopAt Tryz.f138 0) rfl (key2 _ _ ⟨s, [], by simp [hH.out], by (simp only [seval, push_cast, *] <;> rfl), by (simp only [seval, push_cast, *] <;> rfl), by (simp only [seval, push_cast, *] <;> rfl), by (simp only [seval, push_cast, *] <;> rfl), ⟨by simp⟩⟩)) ?_
  have hlen : ∀ t junk2, (HS t ++ (junk ++ junk2)).take H.length = HS t ++ junk := fun t junk2 => by
    rw [← List.append_assoc]; exact List.take_left' (by rw [hH.out]; simp [hsl t s])
  rintro ex ρ' H' ⟨junk2, rfl, ⟨rfl, h2⟩ | ⟨rfl, h2, h3⟩⟩ hf2
  · rw [h2]
    all_goals try (refine zs ?_; repeat' first | apply zs0 | apply zs2 | (intro hc; try have hq := dq hc))
  · all_goals try (refine zs ?_; repeat' first | apply zs0 | apply zs2 | (intro hc; try have hq := dq hc))
theorem graph_each_Node_p (bs : List Nat) (H : Heap) (fid : Nat) (caps : List V) (g : Nat → Node → Int) (l : List Node) (hl : l.length ≤ 1000000) (hf : ∀ bs (i : Nat) x junk, l[i]? = some x → callw X bs fid (.int .i64 i :: encNode x :: caps) (H ++ junk) = some (.int .i64 (g i x), H ++ junk)) :
    callw X bs 138 [.list (l.map encNode), .func fid caps] H = some (.tuple [.int .i64 (eachP g 0 l).1, .int .i64 (eachP g 0 l).2], H) := by
  have := graph_each_Node bs H (S := Unit) (fun _ => H) fid caps (fun i x u => (g i x, u)) l hl (fun bs i x _ junk h => hf bs i x junk h) () [] ⟨by simp⟩ (fun _ _ => rfl)
  rw [eachL_P] at this
  simpa using this

end Go.E
/- Contracts of the references' base, in E: numbers, names. Own work. -/
namespace Go.E
open Go.Proofs
set_option maxRecDepth 100000
set_option maxHeartbeats 4000000

theorem bin_shl {P : Program} {t : TypeId} {k k' : IntKind} {a b : Int} (h : 0 ≤ b) : binOpV P .shl t (.int k a) (.int k' b) = some (.int k (k.wrap (a * 2 ^ (min b.toNat k.bits)))) := by
  simp [binOpV, shiftOp, Int.not_lt.2 h]
attribute [push_cast] bin_shl

theorem bs_within (bs : List Nat) (H : Heap) (n lo hi : Int) : callw X bs 50 [.int .i64 n, .int .i64 lo, .int .i64 hi] H = some (.bool (decide (lo ≤ n) && decide (n ≤ hi)), H) := by
  refine call_at (rs := [.tmp 6]) (N := 15) (fn := Tryz.f50) xk50 xf50 rfl rfl rfl (by simp only [seval, push_cast, List.map_cons, List.map_nil, V.norm, norm1]; rfl) ?_
  all_goals try (refine zs ?_; repeat' first | apply zs0 | apply zs2 | (intro hc; try have hq := dq hc))
attribute [push_cast] bs_within

theorem bs_isWidth (bs : List Nat) (H : Heap) (n : Int) : callw X bs 84 [.int .i64 n] H = some (.bool (decide (1 ≤ n) && decide (n ≤ 16)), H) := by
  refine call_at (rs := [.tmp 2]) (N := 5) (fn := Tryz.f84) xk84 xf84 rfl rfl rfl (by simp only [seval, push_cast, List.map_cons, List.map_nil, V.norm, norm1]; rfl) ?_
  all_goals try (refine zs ?_; repeat' first | apply zs0 | apply zs2 | (intro hc; try have hq := dq hc))
attribute [push_cast] bs_isWidth

theorem bs_power (bs : List Nat) (H : Heap) (n : Int) (h : 0 ≤ n) : callw X bs 145 [.int .i64 n] H = some (.int .i64 (shl1 n), H) := by
  refine call_at (rs := [.tmp 2]) (N := 5) (fn := Tryz.f145) xk145 xf145 rfl rfl rfl (by simp only [seval, push_cast, List.map_cons, List.map_nil, V.norm, norm1]; rfl) ?_
  have hs : IntKind.i64.wrap (1 * 2 ^ (min n.toNat IntKind.i64.bits)) = shl1 n := rfl
  all_goals try (refine zs ?_; repeat' first | apply zs0 | apply zs2 | (intro hc; try have hq := dq hc))

theorem bs_fits (bs : List Nat) (H : Heap) (n width : Int) (hw : 0 ≤ width) : callw X bs 85 [.int .i64 n, .int .i64 width] H = some (.bool (fitsN n width), H) := by
  refine call_at (rs := [.tmp 4]) (N := 10) (fn := Tryz.f85) xk85 xf85 rfl rfl rfl (by simp only [seval, push_cast, List.map_cons, List.map_nil, V.norm, norm1]; rfl) ?_
  have hp := fun bs H => bs_power bs H width hw
  unfold fitsN
  all_goals try (refine zs ?_; repeat' first | apply zs0 | apply zs2 | (intro hc; try have hq := dq hc))

theorem bs_isName (bs : List Nat) (H : Heap) (s : ByteArray) (hl : s.size ≤ 1000000) : callw X bs 82 [.str s] H = some (.bool (isNameS s), H) := by
  refine call_at (rs := [.tmp 2]) (N := 55) (fn := Tryz.f82) xk82 xf82 rfl rfl rfl (by simp only [seval, push_cast, List.map_cons, List.map_nil, V.norm, norm1]; rfl) ?_
  have key : ∀ (R : Bool) (bs : List Nat) i ρ H', i ≤ s.size → (H' = H ∧ ρ 0 = .str s ∧ ρ 3 = .int .i64 i ∧ Kp (badIn i (s.data.toList.drop i) = R)) →
      Lp X ⟨55, bs⟩ (loopAt Tryz.f82 0) ρ H' fun ex ρ' H' => H' = H ∧ ((ex = .exit 0 ∧ R = false) ∨ (ex = .ret ∧ ρ' 2 = .bool false ∧ R = true)) := by
    intro R bs
    refine loop_up ?_ ?_
    · rintro i ρ H' hi ⟨rfl, h0, h3, hR⟩
      have hlt : i < s.data.size := hi
      have hget : s.data[i]? = some s.data[i] := Array.getElem?_eq_getElem hlt
      have hget2 : s.data.toList[i]? = some s.data[i] := by rw [Array.getElem?_toList]; exact hget
      generalize s.data[i] = b at hget hget2
      have hw := add1 i s.size hi hl
      replace hR := hR.out
      rw [drop_cons hget2, badIn] at hR
      replace hR : Kp ((badAt i b.toNat || badIn (i + 1) (s.data.toList.drop (i + 1))) = R) := ⟨hR⟩
      clear hget2
      conv => arg 3; whnf
      all_goals try (refine zs ?_; repeat' first | apply zs0 | apply zs2 | (intro hc; try have hq := dq hc))
      all_goals have hz := idx0 i
      all_goals replace hR := hR.out
      all_goals first
        | (refine ⟨rfl, by (simp only [seval, push_cast, *] <;> rfl), by (simp only [seval, push_cast, *] <;> rfl), ⟨?_⟩⟩
           have hb : badAt i b.toNat = false := by
             unfold badAt; clear hw hR hget h0 h3; simp [← hz] at *; omega
           rw [hb, Bool.false_or] at hR
           exact hR)
        | (refine ⟨rfl, .inr ⟨rfl, by (simp only [seval, push_cast, *] <;> rfl), ?_⟩⟩
           have hb : badAt i b.toNat = true := by
             unfold badAt; clear hw hR hget h0 h3; simp [← hz] at *; omega
           rw [hb, Bool.true_or] at hR
           exact hR.symm)
    · rintro ρ H' ⟨rfl, h0, h3, hR⟩
      replace hR := hR.out
      have hz : s.data.toList.drop s.size = [] := List.drop_of_length_le (by rw [Array.length_toList]; exact Nat.le_refl _)
      rw [hz] at hR
      clear hz
      conv => arg 3; whnf
      all_goals try (refine zs ?_; repeat' first | apply zs0 | apply zs2 | (intro hc; try have hq := dq hc))
      exact ⟨rfl, .inl ⟨rfl, hR.symm⟩⟩
  by_cases h1 : s.size < 1
  · have d1 : decide ((s.size : Int) < 1) = true := decide_eq_true (by omega)
    have hn : isNameS s = false := by unfold isNameS; rw [decide_eq_false (by omega : ¬ (1 : Int) ≤ s.size)]; simp
    clear key h1
    all_goals try (refine zs ?_; repeat' first | apply zs0 | apply zs2 | (intro hc; try have hq := dq hc))
  by_cases h2 : 16 < s.size
  · have d1 : decide ((s.size : Int) < 1) = false := decide_eq_false (by omega)
    have d2 : decide ((16 : Int) < s.size) = true := decide_eq_true (by omega)
    have hn : isNameS s = false := by unfold isNameS; rw [decide_eq_false (by omega : ¬ (s.size : Int) ≤ 16)]; simp
    clear key h1 h2
    all_goals try (refine zs ?_; repeat' first | apply zs0 | apply zs2 | (intro hc; try have hq := dq hc))
  have d1 : decide ((s.size : Int) < 1) = false := decide_eq_false (by omega)
  have d2 : decide ((16 : Int) < s.size) = false := decide_eq_false (by omega)
  have hn : isNameS s = !badIn 0 s.data.toList := by unfold isNameS; rw [decide_eq_true (by omega : (1 : Int) ≤ s.size), decide_eq_true (by omega : (s.size : Int) ≤ 16)]; simp
  clear h1 h2
  all_goals try (refine zs ?_; repeat' first | apply zs0 | apply zs2 | (intro hc; try have hq := dq hc))
  refine lp_then (lp_any (c := loopAt Tryz.f82 0) rfl (key _ _ 0 _ _ (by omega) ⟨rfl, by (simp only [seval, push_cast, *] <;> rfl), by (simp only [seval, push_cast, *] <;> rfl), ⟨rfl⟩⟩)) ?_
  clear key
  rintro ex ρ' H' ⟨rfl, ⟨rfl, h2⟩ | ⟨rfl, h2, h3⟩⟩ hf
  · simp only [List.drop_zero] at h2
    all_goals try (refine zs ?_; repeat' first | apply zs0 | apply zs2 | (intro hc; try have hq := dq hc))
  · simp only [List.drop_zero] at h3
    all_goals try (refine zs ?_; repeat' first | apply zs0 | apply zs2 | (intro hc; try have hq := dq hc))

end Go.E
/- Contracts of the package graph, in E: operations. Own work. -/
namespace Go.E
open Go.Proofs
set_option maxRecDepth 100000
set_option maxHeartbeats 4000000

theorem gr_fits (bs : List Nat) (H : Heap) (n width : Int) : callw X bs 197 [.int .i64 n, .int .i64 width] H = some (.bool (fitsG n width), H) := by
  refine call_at (rs := [.tmp 4]) (N := 14) (fn := Tryz.f197) xk197 xf197 rfl rfl rfl (by simp only [seval, push_cast, List.map_cons, List.map_nil, V.norm, norm1]; rfl) ?_
  have hs : 0 ≤ width → IntKind.i64.wrap (1 * 2 ^ (min width.toNat IntKind.i64.bits)) = shl1 width := fun _ => rfl
  unfold fitsG
  all_goals try (refine zs ?_; repeat' first | apply zs0 | apply zs2 | (intro hc; try have hq := dq hc))
attribute [push_cast] gr_fits

/-! ### Whether some number is so -/
theorem indexFunc_int (bs : List Nat) (H : Heap) (l : List Int) (fid : Nat) (caps : List V) (p : Int → Bool) (hl : l.length ≤ 1000000) (hf : ∀ bs x, x ∈ l → callw X bs fid (.int .i64 x :: caps) H = some (.bool (p x), H)) : callw X bs 196 [.list (l.map (.int .i64)), .func fid caps] H = some (.int .i64 (idxF p 0 l), H) := by
  refine call_at (rs := [.tmp 4]) (N := 19) (fn := Tryz.f196) xk196 xf196 rfl rfl rfl (by simp only [seval, push_cast, List.map_cons, List.map_nil, V.norm, norm1]; rfl) ?_
  have key : ∀ (R : Int) (bs : List Nat) i ρ H', i ≤ l.length → (H' = H ∧ ρ 0 = .list (l.map (.int .i64)) ∧ ρ 1 = .func fid caps ∧ ρ 7 = .int .i64 l.length ∧ ρ 8 = .int .i64 i ∧ Kp (idxF p i (l.drop i) = R)) →
      Lp X ⟨19, bs⟩ (loopAt Tryz.f196 0) ρ H' fun ex ρ' H' => H' = H ∧ ((ex = .exit 0 ∧ R = -1) ∨ (ex = .ret ∧ ρ' 4 = .int .i64 R)) := by
    intro R bs
    refine loop_up ?_ ?_
    · rintro i ρ H' hi ⟨rfl, h0, h1, h7, h8, hR⟩
      have hget : l[i]? = some l[i] := by simp [hi]
      have hcall := fun bs => hf bs l[i] (List.getElem_mem hi)
      generalize l[i] = x at hget hcall
      have hw := add1 i l.length hi hl
      replace hR := hR.out
      rw [drop_cons hget, idxF] at hR
      replace hR : Kp ((if p x = true then (i : Int) else idxF p (i + 1) (l.drop (i + 1))) = R) := ⟨hR⟩
      clear hf
      conv => arg 3; whnf
      all_goals try (refine zs ?_; repeat' first | apply zs0 | apply zs2 | (intro hc; try have hq := dq hc))
      · exact ⟨rfl, .inr ⟨rfl, by rw [← hR.out, if_pos (by assumption)]; simp only [seval, push_cast]⟩⟩
      · exact ⟨rfl, by (simp only [seval, push_cast, *] <;> rfl), by (simp only [seval, push_cast, *] <;> rfl), by (simp only [seval, push_cast, *] <;> rfl), by (simp only [seval, push_cast, *] <;> rfl), ⟨by rw [← hR.out, if_neg (by simp [*])]; rfl⟩⟩
    · rintro ρ H' ⟨rfl, h0, h1, h7, h8, hR⟩
      replace hR := hR.out
      rw [List.drop_length, idxF] at hR
      clear hf
      conv => arg 3; whnf
      all_goals try (refine zs ?_; repeat' first | apply zs0 | apply zs2 | (intro hc; try have hq := dq hc))
      exact ⟨rfl, .inl ⟨rfl, hR.symm⟩⟩
  clear hf
  all_goals try (refine zs ?_; repeat' first | apply zs0 | apply zs2 | (intro hc; try have hq := dq hc))
  refine lp_then (lp_any (c := loopAt Tryz.f196 0) rfl (key (idxF p 0 l) _ 0 _ _ (by omega) ⟨rfl, by (simp only [seval, push_cast, *] <;> rfl), by (simp only [seval, push_cast, *] <;> rfl), by (simp only [seval, push_cast, *] <;> rfl), by (simp only [seval, push_cast, *] <;> rfl), ⟨rfl⟩⟩)) ?_
  rintro ex ρ' H' ⟨rfl, ⟨rfl, h2⟩ | ⟨rfl, h2⟩⟩ -
  · rw [h2]
    all_goals try (refine zs ?_; repeat' first | apply zs0 | apply zs2 | (intro hc; try have hq := dq hc))
  · all_goals try (refine zs ?_; repeat' first | apply zs0 | apply zs2 | (intro hc; try have hq := dq hc))

theorem containsFunc_int (bs : List Nat) (H : Heap) (l : List Int) (fid : Nat) (caps : List V) (p : Int → Bool) (hl : l.length ≤ 1000000) (hf : ∀ bs x, x ∈ l → callw X bs fid (.int .i64 x :: caps) H = some (.bool (p x), H)) : callw X bs 142 [.list (l.map (.int .i64)), .func fid caps] H = some (.bool (l.any p), H) := by
  refine call_at (rs := [.tmp 4]) (N := 9) (fn := Tryz.f142) xk142 xf142 rfl rfl rfl (by simp only [seval, push_cast, List.map_cons, List.map_nil, V.norm, norm1]; rfl) ?_
  have hcall := fun bs => indexFunc_int bs H l fid caps p hl hf
  have ha := idxF_any p l 0 (by omega)
  clear hf
  all_goals try (refine zs ?_; repeat' first | apply zs0 | apply zs2 | (intro hc; try have hq := dq hc))

/-! ### Whether widths fit -/
theorem gr_same1 (bs : List Nat) (H : Heap) (n w : Int) (id : Nat) (hH : H[id]? = some (.cells [.int .i64 w])) : callw X bs 230 [.int .i64 n, .ptr id 0] H = some (.bool (decide (n ≠ w)), H) := by
  refine call_at (rs := [.tmp 3]) (N := 7) (fn := Tryz.f230) xk230 xf230 rfl rfl rfl (by simp only [seval, push_cast, List.map_cons, List.map_nil, V.norm, norm1]; rfl) ?_
  all_goals try (refine zs ?_; repeat' first | apply zs0 | apply zs2 | (intro hc; try have hq := dq hc))
attribute [push_cast] gr_same1

theorem gr_any (bs : List Nat) (H : Heap) (w v : Int) (a : List Int) : callw X bs 168 [.int .i64 w, .list (a.map (.int .i64)), .int .i64 v] H = some (.bool true, H) := by
  refine call_at (rs := [.tmp 6]) (N := 7) (fn := Tryz.f168) xk168 xf168 rfl rfl rfl (by simp only [seval, push_cast, List.map_cons, List.map_nil, V.norm, norm1]; rfl) ?_
  all_goals try (refine zs ?_; repeat' first | apply zs0 | apply zs2 | (intro hc; try have hq := dq hc))
attribute [push_cast] gr_any

theorem gr_same (bs : List Nat) (H : Heap) (w v : Int) (a : List Int) (hl : a.length ≤ 1000000) : callw X bs 169 [.int .i64 w, .list (a.map (.int .i64)), .int .i64 v] H = some (.bool (!(a.any fun n => decide (n ≠ w))), H) := by
  refine call_at (rs := [.tmp 6]) (N := 11) (fn := Tryz.f169) xk169 xf169 rfl rfl rfl (by simp only [seval, push_cast, List.map_cons, List.map_nil, V.norm, norm1]; rfl) ?_
  have hc := fun (bs : List Nat) => containsFunc_int bs (H ++ [.cells [.int .i64 w]]) a 230 [.ptr H.length 0] (fun n => decide (n ≠ w)) hl (fun bs x _ => gr_same1 bs _ x w H.length (by simp))
  all_goals try (refine zs ?_; repeat' first | apply zs0 | apply zs2 | (intro hc; try have hq := dq hc))
attribute [push_cast] gr_same

theorem gr_compared (bs : List Nat) (H : Heap) (w v x y : Int) : callw X bs 232 [.int .i64 w, .list [.int .i64 x, .int .i64 y], .int .i64 v] H = some (.bool (decide (w = 1) && decide (x = y)), H) := by
  refine call_at (rs := [.tmp 6]) (N := 18) (fn := Tryz.f232) xk232 xf232 rfl rfl rfl (by simp only [seval, push_cast, List.map_cons, List.map_nil, V.norm, norm1]; rfl) ?_
  repeat' first
   | (apply z50 (id := 1) (ord := [0, 1, 2, 3, 4, 5, 6, 7, 8, 9, 10, 11]) <;> first | kernel_rfl | skip)
   | (refine zs ?_; repeat' first | apply zs0 | apply zs2 | (intro hc; try have hq := dq hc)) | fail
attribute [push_cast] gr_compared

theorem gr_mux (bs : List Nat) (H : Heap) (w v x y z : Int) : callw X bs 184 [.int .i64 w, .list [.int .i64 x, .int .i64 y, .int .i64 z], .int .i64 v] H = some (.bool (decide (x = 1) && decide (y = w) && decide (z = w)), H) := by
  refine call_at (rs := [.tmp 6]) (N := 25) (fn := Tryz.f184) xk184 xf184 rfl rfl rfl (by simp only [seval, push_cast, List.map_cons, List.map_nil, V.norm, norm1]; rfl) ?_
  all_goals try (refine zs ?_; repeat' first | apply zs0 | apply zs2 | (intro hc; try have hq := dq hc))
attribute [push_cast] gr_mux

theorem gr_join (bs : List Nat) (H : Heap) (w v x y : Int) : callw X bs 186 [.int .i64 w, .list [.int .i64 x, .int .i64 y], .int .i64 v] H = some (.bool (decide (IntKind.i64.wrap (x + y) = w)), H) := by
  refine call_at (rs := [.tmp 6]) (N := 16) (fn := Tryz.f186) xk186 xf186 rfl rfl rfl (by simp only [seval, push_cast, List.map_cons, List.map_nil, V.norm, norm1]; rfl) ?_
  repeat' first
   | (apply z50 (id := 1) (ord := [0, 1, 2, 3, 4, 5, 6, 7, 8, 9]) <;> first | kernel_rfl | skip)
   | (refine zs ?_; repeat' first | apply zs0 | apply zs2 | (intro hc; try have hq := dq hc)) | fail
attribute [push_cast] gr_join

theorem gr_slice (bs : List Nat) (H : Heap) (w v x : Int) : callw X bs 188 [.int .i64 w, .list [.int .i64 x], .int .i64 v] H = some (.bool (decide (IntKind.i64.wrap (v + w) ≤ x)), H) := by
  refine call_at (rs := [.tmp 6]) (N := 14) (fn := Tryz.f188) xk188 xf188 rfl rfl rfl (by simp only [seval, push_cast, List.map_cons, List.map_nil, V.norm, norm1]; rfl) ?_
  all_goals try (refine zs ?_; repeat' first | apply zs0 | apply zs2 | (intro hc; try have hq := dq hc))
attribute [push_cast] gr_slice

theorem gr_extended (bs : List Nat) (H : Heap) (w v x : Int) : callw X bs 190 [.int .i64 w, .list [.int .i64 x], .int .i64 v] H = some (.bool (decide (x ≤ w)), H) := by
  refine call_at (rs := [.tmp 6]) (N := 12) (fn := Tryz.f190) xk190 xf190 rfl rfl rfl (by simp only [seval, push_cast, List.map_cons, List.map_nil, V.norm, norm1]; rfl) ?_
  all_goals try (refine zs ?_; repeat' first | apply zs0 | apply zs2 | (intro hc; try have hq := dq hc))
attribute [push_cast] gr_extended

theorem gr_shifted (bs : List Nat) (H : Heap) (w v x y : Int) : callw X bs 193 [.int .i64 w, .list [.int .i64 x, .int .i64 y], .int .i64 v] H = some (.bool (decide (x = w)), H) := by
  refine call_at (rs := [.tmp 6]) (N := 12) (fn := Tryz.f193) xk193 xf193 rfl rfl rfl (by simp only [seval, push_cast, List.map_cons, List.map_nil, V.norm, norm1]; rfl) ?_
  all_goals try (refine zs ?_; repeat' first | apply zs0 | apply zs2 | (intro hc; try have hq := dq hc))
attribute [push_cast] gr_shifted

/-- The functions that tell whether widths fit, by the operation. -/
def fitsF (k : Nat) : Nat := [168, 168, 169, 169, 169, 169, 169, 169, 169, 232, 232, 232, 184, 186, 188, 190, 190, 193, 193].getD k 0
theorem xk_fits : ∀ k, X.keep (fitsF k) = false
  | 0 | 1 | 2 | 3 | 4 | 5 | 6 | 7 | 8 | 9 | 10 | 11 | 12 | 13 | 14 | 15 | 16 | 17 | 18 => rfl
  | _ + 19 => rfl
attribute [push_cast] xk_fits
theorem fits_call (bs : List Nat) (H : Heap) (k : Nat) (hk : k < 19) (w v : Int) (a : List Int) (ha : a.length = argC k) : callw X bs (fitsF k) [.int .i64 w, .list (a.map (.int .i64)), .int .i64 v] H = some (.bool (fitsS k w a v), H) := by
  have hl : a.length ≤ 1000000 := by
    have h : ∀ k < 19, argC k ≤ 3 := by decide
    have := h k hk
    omega
  match k, hk, a, ha with
  | 0, _, a, _ | 1, _, a, _ => exact gr_any bs H w v a
  | 2, _, a, _ | 3, _, a, _ | 4, _, a, _ | 5, _, a, _ | 6, _, a, _ | 7, _, a, _ | 8, _, a, _ => exact gr_same bs H w v a hl
  | 9, _, [x, y], _ | 10, _, [x, y], _ | 11, _, [x, y], _ => exact gr_compared bs H w v x y
  | 12, _, [x, y, z], _ => exact gr_mux bs H w v x y z
  | 13, _, [x, y], _ => exact gr_join bs H w v x y
  | 14, _, [x], _ => exact gr_slice bs H w v x
  | 15, _, [x], _ | 16, _, [x], _ => exact gr_extended bs H w v x
  | 17, _, [x, y], _ | 18, _, [x, y], _ => exact gr_shifted bs H w v x y
  | k + 19, hk, _, _ => omega
end Go.E
/- Contracts of the package graph, in E: checks of nodes. Own work. -/
namespace Go.E
open Go.Proofs
set_option maxRecDepth 100000
set_option maxHeartbeats 4000000
attribute [push_cast] buildV placeF placeA placeCells List.foldl_cons List.foldl_nil

/-- What an operation computes: the function, as the program has it, and what it has caught. -/
def runF (k : Nat) : Nat := [167, 167, 170, 231, 231, 231, 231, 231, 231, 233, 233, 233,
  185, 187, 189, 191, 192, 194, 195].getD k 0
def runC (k : Nat) : List V := [[], [], [],
  [.eptr [.func 173 []] 0], [.eptr [.func 174 []] 0], [.eptr [.func 175 []] 0], [.eptr [.func 176 []] 0], [.eptr [.func 177 []] 0], [.eptr [.func 178 []] 0],
  [.eptr [.func 180 []] 0], [.eptr [.func 181 []] 0], [.eptr [.func 182 []] 0]].getD k []
theorem runC_pure (k : Nat) : V.pureL (runC k) = true := by
  match k with
  | 0 | 1 | 2 | 3 | 4 | 5 | 6 | 7 | 8 | 9 | 10 | 11 => rfl
  | k + 12 => rfl
attribute [push_cast] runC_pure
def opName (k : Nat) : ByteArray := ([⟨#[99, 111, 110, 115, 116]⟩, ⟨#[108, 101, 97, 102]⟩, ⟨#[110, 111, 116]⟩, ⟨#[97, 110, 100]⟩, ⟨#[111, 114]⟩, ⟨#[120, 111, 114]⟩, ⟨#[97, 100, 100]⟩, ⟨#[115, 117, 98]⟩, ⟨#[109, 117, 108]⟩, ⟨#[101, 113]⟩, ⟨#[108, 116]⟩, ⟨#[115, 108, 116]⟩,
  ⟨#[109, 117, 120]⟩, ⟨#[106, 111, 105, 110]⟩, ⟨#[115, 108, 105, 99, 101]⟩, ⟨#[122, 101, 120, 116]⟩, ⟨#[115, 101, 120, 116]⟩, ⟨#[115, 104, 108]⟩, ⟨#[115, 104, 114]⟩] : List ByteArray).getD k ⟨#[]⟩
def opCells (k : Nat) : List V := [.str (opName k), .int .i64 (argC k : Nat), .bool (hasV k), .func (fitsF k) [], .func (runF k) (runC k)]
def opsAll : List V := (List.range 19).flatMap opCells
theorem opsAll_at : ∀ k, k < 19 → (opsAll.drop (k * 5)).take 5 = opCells k := by
  intro k hk
  match k, hk with
  | 0, _ | 1, _ | 2, _ | 3, _ | 4, _ | 5, _ | 6, _ | 7, _ | 8, _ | 9, _ | 10, _ | 11, _ | 12, _ | 13, _ | 14, _ | 15, _ | 16, _ | 17, _ | 18, _ => rfl
  | k + 19, hk => omega
theorem opsAll_len : opsAll.length = 95 := rfl
theorem opsAll_pure : V.pureL opsAll = true := by kernel_rfl
theorem opsAll_cell : opsAll.all V.isCell = true := by kernel_rfl

theorem gr_binary (bs : List Nat) (H : Heap) (s : ByteArray) (f : Nat) : callw X bs 172 [.str s, .func f []] H = some (.agg [.str s, .int .i64 2, .bool false, .func 169 [], .func 231 [.eptr [.func f []] 0]], H) := by
  refine call_at (rs := [.cell 4 182]) (N := 8) (fn := Tryz.f172) xk172 xf172 rfl rfl rfl (by simp only [seval, push_cast, List.map_cons, List.map_nil, V.norm, norm1]; rfl) ?_
  all_goals try (refine zs ?_; repeat' first | apply zs0 | apply zs2 | (intro hc; try have hq := dq hc))
attribute [push_cast] gr_binary

theorem gr_relation (bs : List Nat) (H : Heap) (s : ByteArray) (f : Nat) : callw X bs 179 [.str s, .func f []] H = some (.agg [.str s, .int .i64 2, .bool false, .func 232 [], .func 233 [.eptr [.func f []] 0]], H) := by
  refine call_at (rs := [.cell 4 182]) (N := 8) (fn := Tryz.f179) xk179 xf179 rfl rfl rfl (by simp only [seval, push_cast, List.map_cons, List.map_nil, V.norm, norm1]; rfl) ?_
  all_goals try (refine zs ?_; repeat' first | apply zs0 | apply zs2 | (intro hc; try have hq := dq hc))
attribute [push_cast] gr_relation

theorem gr_operations (bs : List Nat) (H : Heap)  : callw X bs 137 [] H = some (.agg opsAll, H) := by
  refine call_at (rs := [.cell 0 183]) (N := 24) (fn := Tryz.f137) xk137 xf137 rfl rfl rfl (by simp only [seval, push_cast, List.map_cons, List.map_nil, V.norm, norm1]; rfl) ?_
  all_goals try (refine zs ?_; repeat' first | apply zs0 | apply zs2 | (intro hc; try have hq := dq hc))
  apply leaf1
  · simp
  · (simp only [seval, push_cast, *] <;> rfl)
  · exact frz_pure (v := .agg opsAll) opsAll_pure
  · simp only [seval, push_cast]
attribute [push_cast] gr_operations

theorem nat0 (k : Nat) (n : Nat) (h : k ≠ n) : decide ((k : Int) = (n : Int)) = false := decide_eq_false (fun e => h (by omega))
theorem sub1 (n : Nat) (hn : n ≤ 1000000) : IntKind.i64.wrap ((n : Int) - 1) = (n : Int) - 1 := by rw [wrap64] <;> omega
theorem gr_valueErr (bs : List Nat) (H : Heap) (leaves : List Int) (x : Node) (k : Nat) (hk : x.op = (k : Int)) (hl : leaves.length ≤ 1000000) : callw X bs 144 [.list (leaves.map (.int .i64)), encNode x, .agg (opCells k)] H = some (.int .i64 (valueErrS leaves k x), H) := by
  refine call_at (rs := [.tmp 6]) (N := 49) (fn := Tryz.f144) xk144 xf144 rfl rfl rfl (by simp only [seval, push_cast, List.map_cons, List.map_nil, V.norm, norm1]; rfl) ?_
  simp only [opCells]
  by_cases h0 : k = 0
  · subst h0
    simp only [valueErrS, if_true]
    repeat' first
     | (apply z50 (id := 7) (ord := [0, 1, 2, 3, 4, 5, 6, 7, 8, 9]) <;> first | kernel_rfl | skip)
     | (refine zs ?_; repeat' first | apply zs0 | apply zs2 | (intro hc; try have hq := dq hc)) | fail
  have d0 : decide ((k : Int) = 0) = false := nat0 k 0 h0
  by_cases h1 : k = 1
  · subst h1
    have hw := sub1 leaves.length hl
    simp only [valueErrS, if_true, if_neg h0]
    by_cases hv : 0 ≤ x.value ∧ x.value < leaves.length
    · obtain ⟨v, hvv⟩ : ∃ v : Nat, x.value = v := ⟨x.value.toNat, by omega⟩
      have hlt : v < leaves.length := by omega
      have hget : leaves[v]? = some leaves[v] := by simp [hlt]
      have hat : at0 leaves v = leaves[v] := by simp [at0, List.getD, hget]
      rw [if_pos hv, hvv, Int.toNat_natCast, hat]
      have hb : (decide (0 ≤ (v : Int)) && decide ((v : Int) ≤ (leaves.length : Int) - 1)) = true := by rw [Bool.and_eq_true, decide_eq_true_eq, decide_eq_true_eq]; omega
      clear hv hat
      generalize leaves[v] = y at hget
      repeat' first
       | (apply z50 (id := 7) (ord := [0, 1, 2, 3, 4, 5, 6, 7, 8, 9]) <;> first | kernel_rfl | skip)
       | (refine zs ?_; repeat' first | apply zs0 | apply zs2 | (intro hc; try have hq := dq hc)) | fail
    · have hb : (decide (0 ≤ x.value) && decide (x.value ≤ (leaves.length : Int) - 1)) = false := by
        rw [Bool.and_eq_false_iff, decide_eq_false_iff_not, decide_eq_false_iff_not]; omega
      rw [if_neg hv]
      clear hv
      repeat' first
       | (apply z50 (id := 7) (ord := [0, 1, 2, 3, 4, 5, 6, 7, 8, 9]) <;> first | kernel_rfl | skip)
       | (refine zs ?_; repeat' first | apply zs0 | apply zs2 | (intro hc; try have hq := dq hc)) | fail
  have d1 : decide ((k : Int) = 1) = false := nat0 k 1 h1
  by_cases h2 : k = 14
  · subst h2
    simp only [valueErrS, if_true, if_neg h0, if_neg h1]
    repeat' first
     | (apply z50 (id := 7) (ord := [0, 1, 2, 3, 4, 5, 6, 7, 8, 9]) <;> first | kernel_rfl | skip)
     | (refine zs ?_; repeat' first | apply zs0 | apply zs2 | (intro hc; try have hq := dq hc)) | fail
  have d2 : decide ((k : Int) = 14) = false := nat0 k 14 h2
  simp only [valueErrS, if_neg h0, if_neg h1, if_neg h2]
  clear h0 h1 h2
  cases hv : hasV k
  · repeat' first
     | (apply z50 (id := 7) (ord := [0, 1, 2, 3, 4, 5, 6, 7, 8, 9]) <;> first | kernel_rfl | skip)
     | (refine zs ?_; repeat' first | apply zs0 | apply zs2 | (intro hc; try have hq := dq hc)) | fail
  · repeat' first
     | (apply z50 (id := 7) (ord := [0, 1, 2, 3, 4, 5, 6, 7, 8, 9]) <;> first | kernel_rfl | skip)
     | (refine zs ?_; repeat' first | apply zs0 | apply zs2 | (intro hc; try have hq := dq hc)) | fail

end Go.E
/- Contracts of the package graph, in E: CheckNodes. Own work. -/
namespace Go.E
open Go.Proofs
set_option maxRecDepth 100000
set_option maxHeartbeats 4000000

theorem gr_check1 (bs : List Nat) (H : Heap) (i : Int) (n : Int) : callw X bs 134 [.int .i64 i, .int .i64 n] H = some (.int .i64 (if isW n = true then 0 else 2), H) := by
  refine call_at (rs := [.tmp 4]) (N := 8) (fn := Tryz.f134) xk134 xf134 rfl rfl rfl (by simp only [seval, push_cast, List.map_cons, List.map_nil, V.norm, norm1]; rfl) ?_
  simp only [isW]
  all_goals try (refine zs ?_; repeat' first | apply zs0 | apply zs2 | (intro hc; try have hq := dq hc))
attribute [push_cast] gr_check1

theorem gr_odd (bs : List Nat) (H : Heap) (n : Int) (i : Nat) (id : Nat) (hi : i ≤ 1000000) (hH : H[id]? = some (.cells [.int .i64 i])) : callw X bs 143 [.int .i64 n, .ptr id 0] H = some (.bool (!(decide (0 ≤ n) && decide (n ≤ (i : Int) - 1))), H) := by
  refine call_at (rs := [.tmp 3]) (N := 9) (fn := Tryz.f143) xk143 xf143 rfl rfl rfl (by simp only [seval, push_cast, List.map_cons, List.map_nil, V.norm, norm1]; rfl) ?_
  have hw := sub1 i hi
  all_goals try (refine zs ?_; repeat' first | apply zs0 | apply zs2 | (intro hc; try have hq := dq hc))
attribute [push_cast] gr_odd

theorem widthsOf_snoc (nodes : List Node) (a : List Int) (n : Int) (y : Node) (h : nodes[n.toNat]? = some y) : widthsOf nodes (a ++ [n]) = widthsOf nodes a ++ [y.width] := by simp [widthsOf, h]
/-- The loop that collects widths. -/
theorem gr_widths (bs : List Nat) (H : Heap) (ci cx co : HObj) (nodes : List Node) (args : List Int) (c : Nat) (hl : args.length ≤ 1000000) (hargs : ∀ n ∈ args, 0 ≤ n ∧ n < nodes.length) (hC : H[c]? = some (.cells [.list (nodes.map encNode)])) :
    ∀ i ρ H', i ≤ args.length → (∃ ws, ws = widthsOf nodes (args.take i) ∧ H' = H ++ [ci, cx, co, .tok ws.length] ∧ ρ 4 = .ptr c 0 ∧ ρ 12 = .tl (H.length + 3) (ws.map (.int .i64)) ∧ ρ 56 = .list (args.map (.int .i64)) ∧ ρ 57 = .int .i64 args.length ∧ ρ 58 = .int .i64 i) →
      Lp X ⟨80, bs⟩ (loopAt Tryz.f139 0) ρ H' fun ex ρ' H' => H' = H ++ [ci, cx, co, .tok args.length] ∧ ex = .exit 0 ∧ ρ' 12 = .tl (H.length + 3) ((widthsOf nodes args).map (.int .i64)) := by
  have hC2 := get_app hC
  clear hC
  refine loop_up ?_ ?_
  · rintro i ρ H' hi ⟨ws, hws, rfl, h4, h12, h56, h57, h58⟩
    have hget : args[i]? = some args[i] := by simp [hi]
    have hm := hargs args[i] (List.getElem_mem hi)
    have htk : args.take (i + 1) = args.take i ++ [args[i]] := by rw [List.take_add_one, hget]; rfl
    generalize args[i] = n at hget hm htk
    obtain ⟨m, rfl⟩ : ∃ m : Nat, n = m := ⟨n.toNat, by omega⟩
    have hlt : m < nodes.length := by omega
    have hget2 : nodes[m]? = some nodes[m] := by simp [hlt]
    have hsn := widthsOf_snoc nodes (args.take i) m nodes[m] (by simp)
    generalize nodes[m] = y at hget2 hsn
    have hlen : ws.length = i := by rw [hws]; simp [widthsOf]; omega
    have hroom := room8 ws.length (by omega)
    have hw := add1 i args.length hi hl
    rw [← hws, ← htk] at hsn
    replace hws : Kp (ws = widthsOf nodes (args.take i)) := ⟨hws⟩
    replace hsn : Kp (widthsOf nodes (args.take (i + 1)) = ws ++ [y.width]) := ⟨hsn⟩
    replace hlen : Kp (ws.length = i) := ⟨hlen⟩
    clear htk hm
    conv => arg 3; whnf
    all_goals try (refine zs ?_; repeat' first | apply zs0 | apply zs2 | (intro hc; try have hq := dq hc))
    exact ⟨ws ++ [y.width], hsn.out.symm, by simp, by (simp only [seval, push_cast, *] <;> rfl), by simp [push_cast], by (simp only [seval, push_cast, *] <;> rfl), by (simp only [seval, push_cast, *] <;> rfl), by (simp only [seval, push_cast, *] <;> rfl)⟩
  · rintro ρ H' ⟨ws, hws, rfl, h4, h12, h56, h57, h58⟩
    rw [List.take_length] at hws
    have hlen : ws.length = args.length := by rw [hws]; simp [widthsOf]
    replace hws : Kp (ws = widthsOf nodes args) := ⟨hws⟩
    replace hlen : Kp (ws.length = args.length) := ⟨hlen⟩
    conv => arg 3; whnf
    all_goals try (refine zs ?_; repeat' first | apply zs0 | apply zs2 | (intro hc; try have hq := dq hc))
    exact ⟨by rw [hlen.out], rfl, by rw [← hws.out]; (simp only [seval, push_cast, *] <;> rfl)⟩

theorem argC_le (k : Nat) : argC k ≤ 3 := by
  match k with
  | 0 | 1 | 2 | 3 | 4 | 5 | 6 | 7 | 8 | 9 | 10 | 11 | 12 | 13 | 14 | 15 | 16 | 17 | 18 => decide
  | k + 19 => exact Nat.zero_le _
theorem gr_node (bs : List Nat) (H : Heap) (leaves : List Int) (nodes : List Node) (i : Nat) (x : Node) (a b c : Nat) (hi : i ≤ nodes.length) (hn : nodes.length ≤ 1000000) (hl : leaves.length ≤ 1000000) (hal : x.args.length ≤ 1000000) (hA : H[a]? = some (.cells opsAll)) (hB : H[b]? = some (.cells [.list (leaves.map (.int .i64))])) (hC : H[c]? = some (.cells [.list (nodes.map encNode)])) : callw X bs 139 [.int .i64 i, encNode x, .ptr a 0, .ptr b 0, .ptr c 0] H = some (.int .i64 (nodeErrS leaves nodes i x), H) := by
  refine call_at (rs := [.tmp 7]) (N := 80) (fn := Tryz.f139) xk139 xf139 rfl rfl rfl (by simp only [seval, push_cast, List.map_cons, List.map_nil, V.norm, norm1]; rfl) ?_
  have hA2 := get_app hA
  have hB2 := get_app hB
  have hC2 := get_app hC
  unfold nodeErrS
  by_cases hop : 0 ≤ x.op ∧ x.op ≤ 18
  case neg =>
    have hb : (decide (0 ≤ x.op) && decide (x.op ≤ 18)) = false := by rw [Bool.and_eq_false_iff, decide_eq_false_iff_not, decide_eq_false_iff_not]; omega
    rw [if_pos hop]
    clear hop hC hC2
    repeat' first
     | (apply z51 (id := 1) (ord := [0, 1, 4, 5, 2, 3, 6, 7, 8, 9, 10]) (ps := [(3, 4), (3, 5)]) <;> first | kernel_rfl | skip)
     | (apply z51 (id := 6) (ord := [0, 1, 2, 3, 4, 5, 7, 8, 10, 11, 12, 6, 9, 13, 14, 15, 16]) (ps := [(8, 11), (8, 12), (9, 11), (9, 12), (10, 11), (10, 12)]) <;> first | kernel_rfl | skip)
     | (refine zs ?_; repeat' first | apply zs0 | apply zs2 | (intro hc; try have hq := dq hc)) | fail
  rw [if_neg (by simpa using hop)]
  obtain ⟨k, hk⟩ : ∃ k : Nat, x.op = k := ⟨x.op.toNat, by omega⟩
  have hk19 : k < 19 := by omega
  have hk18 : (k : Int) ≤ 18 := by omega
  rw [hk, Int.toNat_natCast]
  cases hw : isW x.width with
  | false =>
    rw [if_pos rfl]
    unfold isW at hw
    clear hop hC hC2
    repeat' first
     | (apply z51 (id := 1) (ord := [0, 1, 4, 5, 2, 3, 6, 7, 8, 9, 10]) (ps := [(3, 4), (3, 5)]) <;> first | kernel_rfl | skip)
     | (apply z51 (id := 6) (ord := [0, 1, 2, 3, 4, 5, 7, 8, 10, 11, 12, 6, 9, 13, 14, 15, 16]) (ps := [(8, 11), (8, 12), (9, 11), (9, 12), (10, 11), (10, 12)]) <;> first | kernel_rfl | skip)
     | (refine zs ?_; repeat' first | apply zs0 | apply zs2 | (intro hc; try have hq := dq hc)) | fail
  | true =>
  rw [if_neg (by simp)]
  unfold isW at hw
  have h95 : k * 5 + 5 ≤ 95 := by omega
  have hat := opsAll_at k hk19
  have hodd := fun (bs : List Nat) (l : List HObj) => containsFunc_int bs (H ++ .cells [.int .i64 i] :: l) x.args 143 [.ptr H.length 0] (fun n => !(decide (0 ≤ n) && decide (n ≤ (i : Int) - 1))) hal (fun bs n _ => gr_odd bs _ n i H.length (by omega) (by simp))
  have hve := fun (bs : List Nat) (H : Heap) => gr_valueErr bs H leaves x k hk hl
  simp only [encNode, encInts, hk] at hve
  simp only [opCells] at hat hve
  have hlen95 := opsAll_len
  by_cases hlen : x.args.length = argC k
  case neg =>
    have dl : decide ((x.args.length : Int) = ((argC k : Nat) : Int)) = false := decide_eq_false (by omega)
    rw [if_pos hlen]
    clear hop hC hC2 hlen
    repeat' first
     | (apply z51 (id := 1) (ord := [0, 1, 4, 5, 2, 3, 6, 7, 8, 9, 10]) (ps := [(3, 4), (3, 5)]) <;> first | kernel_rfl | skip)
     | (apply z51 (id := 6) (ord := [0, 1, 2, 3, 4, 5, 7, 8, 10, 11, 12, 6, 9, 13, 14, 15, 16]) (ps := [(8, 11), (8, 12), (9, 11), (9, 12), (10, 11), (10, 12)]) <;> first | kernel_rfl | skip)
     | (refine zs ?_; repeat' first | apply zs0 | apply zs2 | (intro hc; try have hq := dq hc)) | fail
  rw [if_neg (by simpa using hlen)]
  have dl : decide ((x.args.length : Int) = ((argC k : Nat) : Int)) = true := decide_eq_true (by omega)
  cases ho : x.args.any (fun n => !(decide (0 ≤ n) && decide (n ≤ (i : Int) - 1))) with
  | true =>
    rw [if_pos rfl]
    clear hop hC hC2 hlen
    repeat' first
     | (apply z51 (id := 1) (ord := [0, 1, 4, 5, 2, 3, 6, 7, 8, 9, 10]) (ps := [(3, 4), (3, 5)]) <;> first | kernel_rfl | skip)
     | (apply z51 (id := 6) (ord := [0, 1, 2, 3, 4, 5, 7, 8, 10, 11, 12, 6, 9, 13, 14, 15, 16]) (ps := [(8, 11), (8, 12), (9, 11), (9, 12), (10, 11), (10, 12)]) <;> first | kernel_rfl | skip)
     | (refine zs ?_; repeat' first | apply zs0 | apply zs2 | (intro hc; try have hq := dq hc)) | fail
  | false =>
  rw [if_neg (by simp)]
  by_cases hv : valueErrS leaves k x = 0
  case neg =>
    have dv : decide (valueErrS leaves k x = 0) = false := decide_eq_false hv
    rw [if_pos hv]
    clear hop hC hC2 hlen
    repeat' first
     | (apply z51 (id := 1) (ord := [0, 1, 4, 5, 2, 3, 6, 7, 8, 9, 10]) (ps := [(3, 4), (3, 5)]) <;> first | kernel_rfl | skip)
     | (apply z51 (id := 6) (ord := [0, 1, 2, 3, 4, 5, 7, 8, 10, 11, 12, 6, 9, 13, 14, 15, 16]) (ps := [(8, 11), (8, 12), (9, 11), (9, 12), (10, 11), (10, 12)]) <;> first | kernel_rfl | skip)
     | (refine zs ?_; repeat' first | apply zs0 | apply zs2 | (intro hc; try have hq := dq hc)) | fail
  rw [if_neg (by simpa using hv)]
  have hargs : ∀ n ∈ x.args, 0 ≤ n ∧ n < nodes.length := fun n hnm => by
    rw [List.any_eq_false] at ho
    have := ho n hnm
    simp only [Bool.not_eq_true', Bool.and_eq_false_iff, decide_eq_false_iff_not, not_or, Decidable.not_not] at this
    omega
  have hfit := fun (bs : List Nat) (H : Heap) => fits_call bs H k hk19 x.width x.value (widthsOf nodes x.args) (by simpa [widthsOf] using hlen)
  have hloop := fun (bs : List Nat) (ci cx co : HObj) (ρ : Env) => gr_widths bs H ci cx co nodes x.args c hal hargs hC 0 ρ
  clear hop hC hlen
  clear hargs
  repeat' first
   | (apply z51 (id := 1) (ord := [0, 1, 4, 5, 2, 3, 6, 7, 8, 9, 10]) (ps := [(3, 4), (3, 5)]) <;> first | kernel_rfl | skip)
   | (apply z51 (id := 6) (ord := [0, 1, 2, 3, 4, 5, 7, 8, 10, 11, 12, 6, 9, 13, 14, 15, 16]) (ps := [(8, 11), (8, 12), (9, 11), (9, 12), (10, 11), (10, 12)]) <;> first | kernel_rfl | skip)
   | (refine zs ?_; repeat' first | apply zs0 | apply zs2 | (intro hc; try have hq := dq hc)) | fail
  refine lp_then (lp_any (c := loopAt Tryz.f139 0) rfl (hloop _ _ _ _ _ _ (by omega) ⟨[], rfl, rfl, by (simp only [seval, push_cast, *] <;> rfl), by (simp only [seval, push_cast, *] <;> rfl), by (simp only [seval, push_cast, *] <;> rfl), by (simp only [seval, push_cast, *] <;> rfl), by (simp only [seval, push_cast, *] <;> rfl)⟩)) ?_
  rintro ex ρ' H' ⟨rfl, rfl, h12⟩ hf
  have f9 := hf 9 rfl
  have f6 := hf 6 rfl
  simp only [seval, push_cast] at f9 f6
  clear hloop
  repeat' first
   | (apply z51 (id := 1) (ord := [0, 1, 4, 5, 2, 3, 6, 7, 8, 9, 10]) (ps := [(3, 4), (3, 5)]) <;> first | kernel_rfl | skip)
   | (apply z51 (id := 6) (ord := [0, 1, 2, 3, 4, 5, 7, 8, 10, 11, 12, 6, 9, 13, 14, 15, 16]) (ps := [(8, 11), (8, 12), (9, 11), (9, 12), (10, 11), (10, 12)]) <;> first | kernel_rfl | skip)
   | (refine zs ?_; repeat' first | apply zs0 | apply zs2 | (intro hc; try have hq := dq hc)) | fail

theorem gr_checkNodes (bs : List Nat) (H : Heap) (leaves : List Int) (nodes : List Node) (hl : leaves.length ≤ 1000000) (hn : nodes.length ≤ 1000000) (hal : ∀ x ∈ nodes, x.args.length ≤ 1000000) : callw X bs 69 [.list (leaves.map (.int .i64)), .list (nodes.map encNode)] H = some (.tuple [.int .i64 (checkNodesS leaves nodes).1, .int .i64 (checkNodesS leaves nodes).2], H) := by
  refine call_at (rs := [.tmp 4, .tmp 5]) (N := 30) (fn := Tryz.f69) xk69 xf69 rfl rfl rfl (by simp only [seval, push_cast, List.map_cons, List.map_nil, V.norm, norm1]; rfl) ?_
  unfold checkNodesS
  by_cases h40 : 40 < leaves.length
  case pos =>
    rw [if_pos h40]
    have d : decide ((40 : Int) < leaves.length) = true := decide_eq_true (by omega)
    clear hal
    all_goals try (refine zs ?_; repeat' first | apply zs0 | apply zs2 | (intro hc; try have hq := dq hc))
  have d : decide ((40 : Int) < leaves.length) = false := decide_eq_false (by omega)
  rw [if_neg h40]
  have he1 := fun (bs : List Nat) (H : Heap) => graph_each_Int_p bs H 134 [] (fun _ n => if isW n = true then (0 : Int) else 2) leaves hl (fun bs i x junk _ => gr_check1 bs _ i x)
  simp only [show encInt = V.int .i64 from rfl] at he1
  by_cases hr : (eachP (fun _ n => if isW n = true then (0 : Int) else 2) 0 leaves).2 = 0
  case neg =>
    rw [if_pos hr]
    generalize eachP (fun _ n => if isW n = true then (0 : Int) else 2) 0 leaves = r at he1 hr
    clear hal h40
    all_goals try (refine zs ?_; repeat' first | apply zs0 | apply zs2 | (intro hc; try have hq := dq hc))
  rw [if_neg (by simpa using hr)]
  by_cases h400 : 400 < nodes.length
  case pos =>
    rw [if_pos h400]
    have d : decide ((400 : Int) < nodes.length) = true := decide_eq_true (by omega)
    clear hal h40 h400
    all_goals try (refine zs ?_; repeat' first | apply zs0 | apply zs2 | (intro hc; try have hq := dq hc))
  rw [if_neg h400]
  have d : decide ((400 : Int) < nodes.length) = false := decide_eq_false (by omega)
  have he2 := fun (bs : List Nat) => graph_each_Node_p bs (H ++ [.cells [.list (leaves.map (.int .i64))], .cells [.list (nodes.map encNode)], .cells opsAll]) 139 [.ptr (H.length + 2) 0, .ptr H.length 0, .ptr (H.length + 1) 0] (nodeErrS leaves nodes) nodes hn
    (fun bs i x junk hx => gr_node bs _ leaves nodes i x _ _ _ (by have := (List.getElem?_eq_some_iff.1 hx).1; omega) hn hl (hal x (List.mem_of_getElem? hx)) (get_app (by simp) _) (get_app (by simp) _) (get_app (by simp) _))
  have hp := opsAll_pure
  have hlen := opsAll_len
  have hc := opsAll_cell
  clear hal h40 h400
  all_goals try (refine zs ?_; repeat' first | apply zs0 | apply zs2 | (intro hc; try have hq := dq hc))

end Go.E
/- Contracts of the package netlist, in E: what is asked of netlists. Own work. -/
namespace Go.E
open Go.Proofs
set_option maxRecDepth 100000
set_option maxHeartbeats 4000000

theorem nl_fits (bs : List Nat) (H : Heap) (n width : Int) (hw : 0 ≤ width) : callw X bs 67 [.int .i64 n, .int .i64 width] H = some (.bool (fitsN n width), H) := by
  refine call_at (rs := [.tmp 4]) (N := 10) (fn := Tryz.f67) xk67 xf67 rfl rfl rfl (by simp only [seval, push_cast, List.map_cons, List.map_nil, V.norm, norm1]; rfl) ?_
  have hs : IntKind.i64.wrap (1 * 2 ^ (min width.toNat IntKind.i64.bits)) = shl1 width := rfl
  unfold fitsN
  all_goals try (refine zs ?_; repeat' first | apply zs0 | apply zs2 | (intro hc; try have hq := dq hc))

theorem nl_leaves (bs : List Nat) (H : Heap) (n : Netl) (hi : n.inputs.length ≤ 1000) (hr : n.regs.length ≤ 1000) : callw X bs 70 [encNetl n] H = some (.list ((leavesN n).map (.int .i64)), H) := by
  refine call_at (rs := [.tmp 2]) (N := 35) (fn := Tryz.f70) xk70 xf70 rfl rfl rfl (by simp only [seval, push_cast, List.map_cons, List.map_nil, V.norm, norm1]; rfl) ?_
  have key : ∀ (c t : HObj) (bs : List Nat) i ρ H', i ≤ n.inputs.length → (∃ ws junk, ws = (n.inputs.take i).map (·.width) ∧ H' = H ++ c :: t :: .tok ws.length :: junk ∧ ρ 3 = .tl (H.length + 2) (ws.map (.int .i64)) ∧ ρ 9 = .list (n.inputs.map encPort) ∧ ρ 10 = .int .i64 n.inputs.length ∧ ρ 11 = .int .i64 i) →
      Lp X ⟨35, bs⟩ (loopAt Tryz.f70 0) ρ H' fun ex ρ' H' => ∃ ws junk, ws = n.inputs.map (·.width) ∧ H' = H ++ c :: t :: .tok ws.length :: junk ∧ ρ' 3 = .tl (H.length + 2) (ws.map (.int .i64)) ∧ ex = .exit 0 := by
    intro c t bs
    refine loop_up ?_ ?_
    · rintro i ρ H' hlt ⟨ws, junk, hws, rfl, h3, h9, h10, h11⟩
      have hget : n.inputs[i]? = some n.inputs[i] := by simp [hlt]
      have htk : n.inputs.take (i + 1) = n.inputs.take i ++ [n.inputs[i]] := by rw [List.take_add_one, hget]; rfl
      generalize n.inputs[i] = p at hget htk
      have hlen : ws.length = i := by rw [hws]; simp; omega
      have hroom := room8 ws.length (by omega)
      have hw := add1 i n.inputs.length hlt (by omega)
      have hsn : Kp ((n.inputs.take (i + 1)).map (·.width) = ws ++ [p.width]) := ⟨by rw [htk, hws]; simp⟩
      clear hws hlen htk
      conv => arg 3; whnf
      all_goals try (refine zs ?_; repeat' first | apply zs0 | apply zs2 | (intro hc; try have hq := dq hc))
      exact ⟨ws ++ [p.width], _, hsn.out.symm, by simp only [List.length_append, List.length_singleton]; rfl, by simp [push_cast], by (simp only [seval, push_cast, *] <;> rfl), by (simp only [seval, push_cast, *] <;> rfl), by (simp only [seval, push_cast, *] <;> rfl)⟩
    · rintro ρ H' ⟨ws, junk, hws, rfl, h3, h9, h10, h11⟩
      rw [List.take_length] at hws
      replace hws : Kp (ws = n.inputs.map (·.width)) := ⟨hws⟩
      conv => arg 3; whnf
      all_goals try (refine zs ?_; repeat' first | apply zs0 | apply zs2 | (intro hc; try have hq := dq hc))
      exact ⟨ws, junk, hws.out, rfl, by (simp only [seval, push_cast, *] <;> rfl), rfl⟩
  have key2 : ∀ (c t : HObj) (bs : List Nat) i ρ H', i ≤ n.regs.length → (∃ ws junk, ws = n.inputs.map (·.width) ++ (n.regs.take i).map (·.width) ∧ H' = H ++ c :: t :: .tok ws.length :: junk ∧ ρ 3 = .tl (H.length + 2) (ws.map (.int .i64)) ∧ ρ 22 = .list (n.regs.map encReg) ∧ ρ 23 = .int .i64 n.regs.length ∧ ρ 24 = .int .i64 i) →
      Lp X ⟨35, bs⟩ (loopAt Tryz.f70 1) ρ H' fun ex ρ' H' => ∃ ws junk, ws = leavesN n ∧ H' = H ++ c :: t :: .tok ws.length :: junk ∧ ρ' 3 = .tl (H.length + 2) (ws.map (.int .i64)) ∧ ex = .exit 2 := by
    intro c t bs
    refine loop_up ?_ ?_
    · rintro i ρ H' hlt ⟨ws, junk, hws, rfl, h3, h9, h10, h11⟩
      have hget : n.regs[i]? = some n.regs[i] := by simp [hlt]
      have htk : n.regs.take (i + 1) = n.regs.take i ++ [n.regs[i]] := by rw [List.take_add_one, hget]; rfl
      generalize n.regs[i] = p at hget htk
      have hlen : ws.length ≤ 2000 := by rw [hws]; simp; omega
      have hroom := room8 ws.length (by omega)
      have hw := add1 i n.regs.length hlt (by omega)
      have hsn : Kp (n.inputs.map (·.width) ++ (n.regs.take (i + 1)).map (·.width) = ws ++ [p.width]) := ⟨by rw [htk, hws]; simp⟩
      clear hws hlen htk
      conv => arg 3; whnf
      all_goals try (refine zs ?_; repeat' first | apply zs0 | apply zs2 | (intro hc; try have hq := dq hc))
      exact ⟨ws ++ [p.width], _, hsn.out.symm, by simp only [List.length_append, List.length_singleton]; rfl, by simp [push_cast], by (simp only [seval, push_cast, *] <;> rfl), by (simp only [seval, push_cast, *] <;> rfl), by (simp only [seval, push_cast, *] <;> rfl)⟩
    · rintro ρ H' ⟨ws, junk, hws, rfl, h3, h9, h10, h11⟩
      rw [List.take_length] at hws
      replace hws : Kp (ws = n.inputs.map (·.width) ++ n.regs.map (·.width)) := ⟨hws⟩
      conv => arg 3; whnf
      all_goals try (refine zs ?_; repeat' first | apply zs0 | apply zs2 | (intro hc; try have hq := dq hc))
      exact ⟨ws, junk, hws.out, rfl, by (simp only [seval, push_cast, *] <;> rfl), rfl⟩
  all_goals try (refine zs ?_; repeat' first | apply zs0 | apply zs2 | (intro hc; try have hq := dq hc))
  refine lp_then (lp_any (c := loopAt Tryz.f70 0) rfl (key _ _ _ 0 _ _ (by omega) ⟨[], [], rfl, rfl, by (simp only [seval, push_cast, *] <;> rfl), by (simp only [seval, push_cast, *] <;> rfl), by (simp only [seval, push_cast, *] <;> rfl), by (simp only [seval, push_cast, *] <;> rfl)⟩)) ?_
  rintro ex ρ' H' ⟨ws, junk, hws, rfl, h3, rfl⟩ hf
  have f1 := hf 1 rfl
  simp only [seval, push_cast] at f1
  clear key hf
  replace hws : Kp (ws = n.inputs.map (·.width)) := ⟨hws⟩
  all_goals try (refine zs ?_; repeat' first | apply zs0 | apply zs2 | (intro hc; try have hq := dq hc))
  refine lp_then (lp_any (c := loopAt Tryz.f70 1) rfl (key2 _ _ _ 0 _ _ (by omega) ⟨ws, junk, by simp [hws.out], rfl, by (simp only [seval, push_cast, *] <;> rfl), by (simp only [seval, push_cast, *] <;> rfl), by (simp only [seval, push_cast, *] <;> rfl), by (simp only [seval, push_cast, *] <;> rfl)⟩)) ?_
  rintro ex ρ' H' ⟨ws, junk, rfl, rfl, h3, rfl⟩ -
  clear key2
  all_goals try (refine zs ?_; repeat' first | apply zs0 | apply zs2 | (intro hc; try have hq := dq hc))

theorem nl_isNode (bs : List Nat) (H : Heap) (n : Netl) (i : Int) (a : Nat) (hn : n.nodes.length ≤ 1000000) (hA : H[a]? = some (.cells (cellsNetl n))) : callw X bs 52 [.int .i64 i, .ptr a 0] H = some (.bool (isNodeN n i), H) := by
  refine call_at (rs := [.tmp 3]) (N := 10) (fn := Tryz.f52) xk52 xf52 rfl rfl rfl (by simp only [seval, push_cast, List.map_cons, List.map_nil, V.norm, norm1]; rfl) ?_
  simp only [cellsNetl] at hA
  have hw := sub1 n.nodes.length hn
  unfold isNodeN
  all_goals try (refine zs ?_; repeat' first | apply zs0 | apply zs2 | (intro hc; try have hq := dq hc))

theorem nl_c2 (bs : List Nat) (H : Heap) (n : Netl) (a : Nat) (hs : n.name.size ≤ 1000000) (hA : H[a]? = some (.cells (cellsNetl n))) : callw X bs 54 [.ptr a 0] H = some (.tuple [.int .i64 0, .int .i64 (firstL [if isNameS n.name = true then 0 else 4, if decide ((n.inputs.length : Int) ≤ 12) = true then 0 else 8])], H) := by
  refine call_at (rs := [.tmp 1, .tmp 2]) (N := 14) (fn := Tryz.f54) xk54 xf54 rfl rfl rfl (by simp only [seval, push_cast, List.map_cons, List.map_nil, V.norm, norm1]; rfl) ?_
  simp only [cellsNetl] at hA
  have hnm := fun bs H => netlist_isName bs H n.name hs
  repeat' first
   | (apply z51 (id := 1) (ord := [0, 1, 4, 5, 6, 7, 2, 3, 8, 9, 10, 11, 12]) (ps := [(3, 6), (3, 7)]) <;> first | kernel_rfl | skip)
   | (refine zs ?_; repeat' first | apply zs0 | apply zs2 | (intro hc; try have hq := dq hc)) | fail

theorem nl_c31 (bs : List Nat) (H : Heap) (i : Int) (p : Port) (ns : List ByteArray) (b m : Nat) (hs : p.name.size ≤ 1000000) (hB : H[b]? = some (.cells [.map m])) (hM : H[m]? = some (.map (namesM ns))) : callw X bs 60 [.int .i64 i, encPort p, .ptr b 0] H = some (.int .i64 (firstL [nameErr ns p.name, if isW p.width = true then 0 else 2]), H.set m (.map (namesM (addName p.name ns)))) := by
  refine call_at (rs := [.tmp 5]) (N := 16) (fn := Tryz.f60) xk60 xf60 rfl rfl rfl (by simp only [seval, push_cast, List.map_cons, List.map_nil, V.norm, norm1]; rfl) ?_
  have hne := fun (bs : List Nat) (l : List HObj) => netlist_namesErr bs (H ++ l) m ns p.name hs (get_app hM l)
  have hset := set_app (List.getElem?_eq_some_iff.1 hM).1
  simp only [hset] at hne
  have hB2 := get_app hB
  clear hM hB
  unfold isW
  repeat' first
   | (apply z51 (id := 1) (ord := [0, 1, 2, 4, 5, 3, 6, 7, 8, 9, 10]) (ps := [(4, 5)]) <;> first | kernel_rfl | skip)
   | (refine zs ?_; repeat' first | apply zs0 | apply zs2 | (intro hc; try have hq := dq hc)) | fail

theorem nh_get {H : Heap} {b m : Nat} {x y : HObj} (hB : H[b]? = some x) (hne : b ≠ m) : (H.set m y)[b]? = some x := by rw [List.getElem?_set_ne (Ne.symm hne)]; exact hB
theorem nh_self {H : Heap} {m : Nat} {x y : HObj} (hM : H[m]? = some x) : (H.set m y)[m]? = some y := by rw [List.getElem?_set_self (List.getElem?_eq_some_iff.1 hM).1]
theorem nh_same {H : Heap} {m : Nat} {x : HObj} (hM : H[m]? = some x) : H.set m x = H := by
  obtain ⟨h1, h2⟩ := List.getElem?_eq_some_iff.1 hM
  rw [← h2]; exact List.set_getElem_self h1
theorem nh_ne {H : Heap} {b m : Nat} {cs : List V} {es : List (V × V)} (hB : H[b]? = some (.cells cs)) (hM : H[m]? = some (.map es)) : b ≠ m := fun e => by rw [e, hM] at hB; cases hB

/-- each, of items with names that are to be new. -/
theorem does_names {α : Type} {enc : α → V} {fid m : Nat} {caps : List V} {g : Nat → α → List ByteArray → Int × List ByteArray} {l : List α} {H : Heap} {ns0 : List ByteArray} (hM : H[m]? = some (.map (namesM ns0)))
    (h : ∀ bs H' (i : Nat) x ns, l[i]? = some x → (∀ k y, H[k]? = some y → k ≠ m → H'[k]? = some y) → H'[m]? = some (.map (namesM ns)) → callw X bs fid (.int .i64 i :: enc x :: caps) H' = some (.int .i64 (g i x ns).1, H'.set m (.map (namesM (g i x ns).2)))) :
    Does X enc (fun ns => H.set m (.map (namesM ns))) fid caps g l := fun bs i x ns junk hx => by
  have hlt : m < (H.set m (.map (namesM ns))).length := by rw [List.length_set]; exact (List.getElem?_eq_some_iff.1 hM).1
  rw [h bs _ i x ns hx (fun k y hk hne => get_app (nh_get hk hne) _) (get_app (nh_self hM) _), set_app hlt, List.set_set]

theorem nl_c3 (bs : List Nat) (H : Heap) (n : Netl) (ns : List ByteArray) (a b m : Nat) (hl : n.inputs.length ≤ 1000000) (hs : ∀ p ∈ n.inputs, p.name.size ≤ 1000000) (hA : H[a]? = some (.cells (cellsNetl n))) (hB : H[b]? = some (.cells [.map m])) (hM : H[m]? = some (.map (namesM ns))) : callw X bs 58 [.ptr a 0, .ptr b 0] H = some (.tuple [.int .i64 (eachL portErrS 0 n.inputs ns).1.1, .int .i64 (eachL portErrS 0 n.inputs ns).1.2], H.set m (.map (namesM (eachL portErrS 0 n.inputs ns).2))) := by
  refine call_at (rs := [.tmp 2, .tmp 3]) (N := 10) (fn := Tryz.f58) xk58 xf58 rfl rfl rfl (by simp only [seval, push_cast, List.map_cons, List.map_nil, V.norm, norm1]; rfl) ?_
  have he := fun bs => netlist_each_Port bs H (fun ns => H.set m (.map (namesM ns))) 60 [.ptr b 0] portErrS n.inputs hl
    (does_names hM fun bs H' i x ns hx hk hm => nl_c31 bs H' i x ns b m (hs x (List.mem_of_getElem? hx)) (hk b _ hB (nh_ne hB hM)) hm) ns [] ⟨by rw [nh_same hM]; simp⟩ (fun _ _ => by simp)
  simp only [cellsNetl] at hA
  simp only [List.append_nil] at he
  clear hM hB hs
  all_goals try (refine zs ?_; repeat' first | apply zs0 | apply zs2 | (intro hc; try have hq := dq hc))

theorem nl_c4 (bs : List Nat) (H : Heap) (n : Netl) (a : Nat) (hi : n.inputs.length ≤ 1000000) (hr : n.regs.length ≤ 1000000) (hA : H[a]? = some (.cells (cellsNetl n))) : callw X bs 63 [.ptr a 0] H = some (.tuple [.int .i64 0, .int .i64 (if decide ((n.inputs.length : Int) + n.regs.length ≤ 40) = true then 0 else 8)], H) := by
  refine call_at (rs := [.tmp 1, .tmp 2]) (N := 12) (fn := Tryz.f63) xk63 xf63 rfl rfl rfl (by simp only [seval, push_cast, List.map_cons, List.map_nil, V.norm, norm1]; rfl) ?_
  simp only [cellsNetl] at hA
  have hw : IntKind.i64.wrap ((n.inputs.length : Int) + n.regs.length) = (n.inputs.length : Int) + n.regs.length := by rw [wrap64] <;> omega
  all_goals try (refine zs ?_; repeat' first | apply zs0 | apply zs2 | (intro hc; try have hq := dq hc))

theorem nl_c51 (bs : List Nat) (H : Heap) (i : Int) (r : Reg) (ns : List ByteArray) (b m : Nat) (hs : r.name.size ≤ 1000000) (hB : H[b]? = some (.cells [.map m])) (hM : H[m]? = some (.map (namesM ns))) : callw X bs 66 [.int .i64 i, encReg r, .ptr b 0] H = some (.int .i64 (firstL [nameErr ns r.name, if (isW r.width && fitsN r.init r.width) = true then 0 else 2]), H.set m (.map (namesM (addName r.name ns)))) := by
  refine call_at (rs := [.tmp 5]) (N := 25) (fn := Tryz.f66) xk66 xf66 rfl rfl rfl (by simp only [seval, push_cast, List.map_cons, List.map_nil, V.norm, norm1]; rfl) ?_
  have hne := fun (bs : List Nat) (l : List HObj) => netlist_namesErr bs (H ++ l) m ns r.name hs (get_app hM l)
  have hset := set_app (List.getElem?_eq_some_iff.1 hM).1
  simp only [hset] at hne
  have hB2 := get_app hB
  clear hM hB
  cases hw : isW r.width with
  | false =>
    rw [Bool.false_and]
    unfold isW at hw
    repeat' first
     | (apply z51 (id := 1) (ord := [0, 1, 2, 4, 5, 3, 6, 7, 8, 9, 10, 11, 12, 13, 14, 15, 16, 17, 18, 19]) (ps := [(4, 5)]) <;> first | kernel_rfl | skip)
     | (refine zs ?_; repeat' first | apply zs0 | apply zs2 | (intro hc; try have hq := dq hc)) | fail
  | true =>
    rw [Bool.true_and]
    unfold isW at hw
    have h1 : ¬ (16 < r.width) := by simp only [Bool.and_eq_true, decide_eq_true_eq] at hw; omega
    have h2 : 0 < r.width := by simp only [Bool.and_eq_true, decide_eq_true_eq] at hw; omega
    have hfit := fun bs H => nl_fits bs H r.init r.width (by omega)
    repeat' first
     | (apply z51 (id := 1) (ord := [0, 1, 2, 4, 5, 3, 6, 7, 8, 9, 10, 11, 12, 13, 14, 15, 16, 17, 18, 19]) (ps := [(4, 5)]) <;> first | kernel_rfl | skip)
     | (refine zs ?_; repeat' first | apply zs0 | apply zs2 | (intro hc; try have hq := dq hc)) | fail

theorem nl_c5 (bs : List Nat) (H : Heap) (n : Netl) (ns : List ByteArray) (a b m : Nat) (hl : n.regs.length ≤ 1000000) (hs : ∀ p ∈ n.regs, p.name.size ≤ 1000000) (hA : H[a]? = some (.cells (cellsNetl n))) (hB : H[b]? = some (.cells [.map m])) (hM : H[m]? = some (.map (namesM ns))) : callw X bs 64 [.ptr a 0, .ptr b 0] H = some (.tuple [.int .i64 (eachL regErrS 0 n.regs ns).1.1, .int .i64 (eachL regErrS 0 n.regs ns).1.2], H.set m (.map (namesM (eachL regErrS 0 n.regs ns).2))) := by
  refine call_at (rs := [.tmp 2, .tmp 3]) (N := 10) (fn := Tryz.f64) xk64 xf64 rfl rfl rfl (by simp only [seval, push_cast, List.map_cons, List.map_nil, V.norm, norm1]; rfl) ?_
  have he := fun bs => netlist_each_Reg bs H (fun ns => H.set m (.map (namesM ns))) 66 [.ptr b 0] regErrS n.regs hl
    (does_names hM fun bs H' i x ns hx hk hm => nl_c51 bs H' i x ns b m (hs x (List.mem_of_getElem? hx)) (hk b _ hB (nh_ne hB hM)) hm) ns [] ⟨by rw [nh_same hM]; simp⟩ (fun _ _ => by simp)
  simp only [cellsNetl] at hA
  simp only [List.append_nil] at he
  clear hM hB hs
  all_goals try (refine zs ?_; repeat' first | apply zs0 | apply zs2 | (intro hc; try have hq := dq hc))

theorem nl_c6 (bs : List Nat) (H : Heap) (n : Netl) (a : Nat) (hS : Small n) (hA : H[a]? = some (.cells (cellsNetl n))) : callw X bs 68 [.ptr a 0] H = some (.tuple [.int .i64 (checkNodesS (leavesN n) n.nodes).1, .int .i64 (checkNodesS (leavesN n) n.nodes).2], H) := by
  refine call_at (rs := [.tmp 1, .tmp 2]) (N := 10) (fn := Tryz.f68) xk68 xf68 rfl rfl rfl (by simp only [seval, push_cast, List.map_cons, List.map_nil, V.norm, norm1]; rfl) ?_
  have h1 := fun bs H => nl_leaves bs H n hS.inputs hS.regs
  have h2 := fun bs H => gr_checkNodes bs H (leavesN n) n.nodes (by have := hS.inputs; have := hS.regs; simp [leavesN]; omega) (by have := hS.nodes; omega) (fun x hx => by have := hS.args x hx; omega)
  simp only [encNetl] at h1
  simp only [cellsNetl] at hA h1
  clear hS
  repeat' first
   | (apply z51 (id := 1) (ord := [0, 2, 3, 1, 4, 5, 6, 7, 8]) (ps := [(2, 3)]) <;> first | kernel_rfl | skip)
   | (refine zs ?_; repeat' first | apply zs0 | apply zs2 | (intro hc; try have hq := dq hc)) | fail

theorem nl_c71 (bs : List Nat) (H : Heap) (n : Netl) (i : Int) (r : Reg) (a f : Nat) (hn : n.nodes.length ≤ 1000000) (hA : H[a]? = some (.cells (cellsNetl n))) (hF : H[f]? = some (.cells [.func 52 [.ptr a 0]])) : callw X bs 72 [.int .i64 i, encReg r, .ptr f 0, .ptr a 0] H = some (.int .i64 (regErr2S n i.toNat r), H) := by
  refine call_at (rs := [.tmp 6]) (N := 40) (fn := Tryz.f72) xk72 xf72 rfl rfl rfl (by simp only [seval, push_cast, List.map_cons, List.map_nil, V.norm, norm1]; rfl) ?_
  have hA2 := get_app hA
  have hF2 := get_app hF
  have hnode := fun bs (l : Heap) i => nl_isNode bs (H ++ l) n i a hn (get_app hA l)
  simp only [cellsNetl] at hA2
  unfold regErr2S
  cases he : isNodeN n r.enable with
  | false =>
    rw [if_pos (show (!false) = true from rfl)]
    clear hA hF
    repeat' first
     | (apply z50 (id := 3) (ord := [0, 1, 2, 3, 4, 5, 6, 7, 8, 9, 10, 11]) <;> first | kernel_rfl | skip)
     | (refine zs ?_; repeat' first | apply zs0 | apply zs2 | (intro hc; try have hq := dq hc)) | fail
  | true =>
  rw [if_neg (by simp)]
  obtain ⟨e, hee, helt⟩ : ∃ e : Nat, r.enable = e ∧ e < n.nodes.length := by
    simp only [isNodeN, Bool.and_eq_true, decide_eq_true_eq] at he
    exact ⟨r.enable.toNat, by omega, by omega⟩
  have hget : n.nodes[e]? = some n.nodes[e] := by simp [helt]
  have hwe : widthAt n e = n.nodes[e].width := by simp [widthAt, hget]
  rw [hee] at he ⊢
  rw [hwe]
  generalize n.nodes[e] = y at hget
  clear hwe helt
  by_cases hw1 : y.width = 1
  case neg =>
    rw [if_pos hw1]
    clear hA hF
    repeat' first
     | (apply z50 (id := 3) (ord := [0, 1, 2, 3, 4, 5, 6, 7, 8, 9, 10, 11]) <;> first | kernel_rfl | skip)
     | (refine zs ?_; repeat' first | apply zs0 | apply zs2 | (intro hc; try have hq := dq hc)) | fail
  rw [if_neg (by simpa using hw1)]
  cases hx : isNodeN n r.next with
  | false =>
    rw [if_pos (show (!false) = true from rfl)]
    clear hA hF
    repeat' first
     | (apply z50 (id := 3) (ord := [0, 1, 2, 3, 4, 5, 6, 7, 8, 9, 10, 11]) <;> first | kernel_rfl | skip)
     | (refine zs ?_; repeat' first | apply zs0 | apply zs2 | (intro hc; try have hq := dq hc)) | fail
  | true =>
  rw [if_neg (by simp)]
  obtain ⟨e2, hee2, helt2⟩ : ∃ e : Nat, r.next = e ∧ e < n.nodes.length := by
    simp only [isNodeN, Bool.and_eq_true, decide_eq_true_eq] at hx
    exact ⟨r.next.toNat, by omega, by omega⟩
  have hget2 : n.nodes[e2]? = some n.nodes[e2] := by simp [helt2]
  have hwe2 : widthAt n e2 = n.nodes[e2].width := by simp [widthAt, hget2]
  rw [hee2] at hx ⊢
  rw [hwe2]
  generalize n.nodes[e2] = z at hget2
  clear hwe2 helt2 hA hF
  repeat' first
   | (apply z50 (id := 3) (ord := [0, 1, 2, 3, 4, 5, 6, 7, 8, 9, 10, 11]) <;> first | kernel_rfl | skip)
   | (refine zs ?_; repeat' first | apply zs0 | apply zs2 | (intro hc; try have hq := dq hc)) | fail

end Go.E
/- Contracts of the package netlist, in E: CheckNetlist. Own work. -/
namespace Go.E
open Go.Proofs
set_option maxRecDepth 100000
set_option maxHeartbeats 4000000

theorem nl_c7 (bs : List Nat) (H : Heap) (n : Netl) (a f : Nat) (hl : n.regs.length ≤ 1000000) (hn : n.nodes.length ≤ 1000000) (hA : H[a]? = some (.cells (cellsNetl n))) (hF : H[f]? = some (.cells [.func 52 [.ptr a 0]])) : callw X bs 71 [.ptr a 0, .ptr f 0] H = some (.tuple [.int .i64 (eachP (regErr2S n) 0 n.regs).1, .int .i64 (eachP (regErr2S n) 0 n.regs).2], H) := by
  refine call_at (rs := [.tmp 2, .tmp 3]) (N := 10) (fn := Tryz.f71) xk71 xf71 rfl rfl rfl (by simp only [seval, push_cast, List.map_cons, List.map_nil, V.norm, norm1]; rfl) ?_
  have he := fun bs => netlist_each_Reg_p bs H 72 [.ptr f 0, .ptr a 0] (regErr2S n) n.regs hl
    (fun bs i x junk hx => by simpa using nl_c71 bs (H ++ junk) n i x a f hn (get_app hA _) (get_app hF _))
  simp only [cellsNetl] at hA
  clear hF
  all_goals try (refine zs ?_; repeat' first | apply zs0 | apply zs2 | (intro hc; try have hq := dq hc))

theorem nl_c8 (bs : List Nat) (H : Heap) (n : Netl) (a : Nat) (hA : H[a]? = some (.cells (cellsNetl n))) : callw X bs 73 [.ptr a 0] H = some (.tuple [.int .i64 0, .int .i64 (if decide ((n.outs.length : Int) ≤ 12) = true then 0 else 8)], H) := by
  refine call_at (rs := [.tmp 1, .tmp 2]) (N := 8) (fn := Tryz.f73) xk73 xf73 rfl rfl rfl (by simp only [seval, push_cast, List.map_cons, List.map_nil, V.norm, norm1]; rfl) ?_
  simp only [cellsNetl] at hA
  all_goals try (refine zs ?_; repeat' first | apply zs0 | apply zs2 | (intro hc; try have hq := dq hc))

theorem nl_c91 (bs : List Nat) (H : Heap) (n : Netl) (i : Int) (o : Outp) (ns : List ByteArray) (a b f m : Nat) (hn : n.nodes.length ≤ 1000000) (hs : o.name.size ≤ 1000000) (hA : H[a]? = some (.cells (cellsNetl n))) (hF : H[f]? = some (.cells [.func 52 [.ptr a 0]])) (hB : H[b]? = some (.cells [.map m])) (hM : H[m]? = some (.map (namesM ns))) : callw X bs 76 [.int .i64 i, encOutp o, .ptr b 0, .ptr f 0] H = some (.int .i64 (firstL [nameErr ns o.name, if isNodeN n o.node = true then 0 else 9]), H.set m (.map (namesM (addName o.name ns)))) := by
  refine call_at (rs := [.tmp 6]) (N := 18) (fn := Tryz.f76) xk76 xf76 rfl rfl rfl (by simp only [seval, push_cast, List.map_cons, List.map_nil, V.norm, norm1]; rfl) ?_
  have hne := fun (bs : List Nat) (l : List HObj) => netlist_namesErr bs (H ++ l) m ns o.name hs (get_app hM l)
  have hset := set_app (List.getElem?_eq_some_iff.1 hM).1
  simp only [hset] at hne
  have hnode := fun bs (y : HObj) (l : Heap) i => nl_isNode bs (H.set m y ++ l) n i a hn (get_app (nh_get hA (nh_ne hA hM)) l)
  have hnode2 := fun bs (l : Heap) i => nl_isNode bs (H ++ l) n i a hn (get_app hA l)
  have hB2 := get_app hB
  have hF2 := get_app hF
  have hF3 := fun y => get_app (nh_get (y := y) hF (nh_ne hF hM))
  have hB3 := fun y => get_app (nh_get (y := y) hB (nh_ne hB hM))
  clear hM hB hA hF
  repeat' first
   | (apply z51 (id := 1) (ord := [0, 1, 2, 4, 5, 6, 3, 7, 8, 9, 10, 11]) (ps := [(3, 6), (5, 6)]) <;> first | kernel_rfl | skip)
   | (refine zs ?_; repeat' first | apply zs0 | apply zs2 | (intro hc; try have hq := dq hc)) | fail

theorem nl_c9 (bs : List Nat) (H : Heap) (n : Netl) (ns : List ByteArray) (a b f m : Nat) (hl : n.outs.length ≤ 1000000) (hn : n.nodes.length ≤ 1000000) (hs : ∀ p ∈ n.outs, p.name.size ≤ 1000000) (hA : H[a]? = some (.cells (cellsNetl n))) (hF : H[f]? = some (.cells [.func 52 [.ptr a 0]])) (hB : H[b]? = some (.cells [.map m])) (hM : H[m]? = some (.map (namesM ns))) : callw X bs 74 [.ptr a 0, .ptr b 0, .ptr f 0] H = some (.tuple [.int .i64 (eachL (outErrS n) 0 n.outs ns).1.1, .int .i64 (eachL (outErrS n) 0 n.outs ns).1.2], H.set m (.map (namesM (eachL (outErrS n) 0 n.outs ns).2))) := by
  refine call_at (rs := [.tmp 3, .tmp 4]) (N := 11) (fn := Tryz.f74) xk74 xf74 rfl rfl rfl (by simp only [seval, push_cast, List.map_cons, List.map_nil, V.norm, norm1]; rfl) ?_
  have he := fun bs => netlist_each_Outp bs H (fun ns => H.set m (.map (namesM ns))) 76 [.ptr b 0, .ptr f 0] (outErrS n) n.outs hl
    (does_names hM fun bs H' i x ns hx hk hm => nl_c91 bs H' n i x ns a b f m hn (hs x (List.mem_of_getElem? hx)) (hk a _ hA (nh_ne hA hM)) (hk f _ hF (nh_ne hF hM)) (hk b _ hB (nh_ne hB hM)) hm) ns [] ⟨by rw [nh_same hM]; simp⟩ (fun _ _ => by simp)
  simp only [cellsNetl] at hA
  simp only [List.append_nil] at he
  clear hM hB hs hF
  all_goals try (refine zs ?_; repeat' first | apply zs0 | apply zs2 | (intro hc; try have hq := dq hc))

/-- The heap of CheckNetlist: which names are known. -/
def hCN (n : Netl) (H : Heap) (k1 k2 : List ByteArray) (fs : List V) : Heap :=
  H ++ [.cells (cellsNetl n), .map (namesM k1), .map (namesM k2), .cells [.map (H.length + 1)], .cells [.map (H.length + 2)], .cells [.func 52 [.ptr H.length 0]], .cells fs]
def fsCN (H : Heap) : List V := [.func 54 [.ptr H.length 0], .func 58 [.ptr H.length 0, .ptr (H.length + 3) 0], .func 63 [.ptr H.length 0],
  .func 64 [.ptr H.length 0, .ptr (H.length + 3) 0], .func 68 [.ptr H.length 0], .func 71 [.ptr H.length 0, .ptr (H.length + 5) 0],
  .func 73 [.ptr H.length 0], .func 74 [.ptr H.length 0, .ptr (H.length + 4) 0, .ptr (H.length + 5) 0]]

/-- One round, whatever is called. -/
theorem cn_round (bs : List Nat) (H : Heap) (k fid : Nat) (caps : List V) (H1 H2 : Heap) (fs : List V) (r : Int × Int) (hk : k < 8) (hf : fs[k]? = some (.func fid caps)) (hfl : fs.length = 8)
    (hc : ∀ bs, callw X bs fid caps H1 = some (.tuple [.int .i64 r.1, .int .i64 r.2], H2)) (ρ : Env) (h24 : ρ 24 = .agg fs) (h25 : ρ 25 = .int .i64 k) (Q : Ex → Env → Heap → Prop)
    (hret : ∀ ρ', r.2 ≠ 0 → ρ' 2 = .int .i64 r.1 → ρ' 3 = .int .i64 r.2 → Q .ret ρ' H2) (hnext : ∀ ρ', r.2 = 0 → ρ' 24 = .agg fs → ρ' 25 = .int .i64 ((k + 1 : Nat) : Int) → Q .normal ρ' H2) :
    Ev X ⟨38, bs⟩ (loopAt Tryz.f12 0) ρ H1 Q := by
  have hw := add1 k 8 hk (by omega)
  have hlt : (k : Int) < 8 := by omega
  conv => arg 3; whnf
  all_goals try (refine zs ?_; repeat' first | apply zs0 | apply zs2 | (intro hc; try have hq := dq hc))
  · exact hret _ (by simpa using hc) (by (simp only [seval, push_cast, *] <;> rfl)) (by (simp only [seval, push_cast, *] <;> rfl))
  · exact hnext _ (by simpa using hc) (by (simp only [seval, push_cast, *] <;> rfl)) (by (simp only [seval, push_cast, *] <;> rfl))

section
variable {n : Netl} {H : Heap} {k1 k2 : List ByteArray} {fs : List V}
theorem hCN_a : (hCN n H k1 k2 fs)[H.length]? = some (.cells (cellsNetl n)) := by simp [hCN]
theorem hCN_m1 : (hCN n H k1 k2 fs)[H.length + 1]? = some (.map (namesM k1)) := by simp [hCN]
theorem hCN_m2 : (hCN n H k1 k2 fs)[H.length + 2]? = some (.map (namesM k2)) := by simp [hCN]
theorem hCN_b1 : (hCN n H k1 k2 fs)[H.length + 3]? = some (.cells [.map (H.length + 1)]) := by simp [hCN]
theorem hCN_b2 : (hCN n H k1 k2 fs)[H.length + 4]? = some (.cells [.map (H.length + 2)]) := by simp [hCN]
theorem hCN_f : (hCN n H k1 k2 fs)[H.length + 5]? = some (.cells [.func 52 [.ptr H.length 0]]) := by simp [hCN]
theorem hCN_s1 (x : List ByteArray) : (hCN n H k1 k2 fs).set (H.length + 1) (.map (namesM x)) = hCN n H x k2 fs := by unfold hCN; rw [heap_set]; rfl
theorem hCN_s2 (x : List ByteArray) : (hCN n H k1 k2 fs).set (H.length + 2) (.map (namesM x)) = hCN n H k1 x fs := by unfold hCN; rw [heap_set]; rfl
end

def rsCN (n : Netl) : List (Int × Int) :=
  [(0, firstL [if isNameS n.name = true then 0 else 4, if decide ((n.inputs.length : Int) ≤ 12) = true then 0 else 8]), (eachL portErrS 0 n.inputs []).1,
    (0, if decide ((n.inputs.length : Int) + n.regs.length ≤ 40) = true then 0 else 8), (eachL regErrS 0 n.regs (eachL portErrS 0 n.inputs []).2).1, checkNodesS (leavesN n) n.nodes, eachP (regErr2S n) 0 n.regs,
    (0, if decide ((n.outs.length : Int) ≤ 12) = true then 0 else 8), (eachL (outErrS n) 0 n.outs []).1]
def knCN (n : Netl) (k : Nat) : List ByteArray := [[], [], (eachL portErrS 0 n.inputs []).2, (eachL portErrS 0 n.inputs []).2].getD k (eachL regErrS 0 n.regs (eachL portErrS 0 n.inputs []).2).2
def ouCN (n : Netl) (k : Nat) : List ByteArray := [[], [], [], [], [], [], [], []].getD k (eachL (outErrS n) 0 n.outs []).2

theorem cn_loop (bs : List Nat) (n : Netl) (hS : Small n) (H : Heap) (R : Int × Int) : ∀ k ρ H', k ≤ 8 → (H' = hCN n H (knCN n k) (ouCN n k) (fsCN H) ∧ ρ 24 = .agg (fsCN H) ∧ ρ 25 = .int .i64 k ∧ firstP ((rsCN n).drop k) = R) →
    Lp X ⟨38, bs⟩ (loopAt Tryz.f12 0) ρ H' fun ex ρ' H' => (∃ k1 k2, H' = hCN n H k1 k2 (fsCN H)) ∧ ((ex = .exit 0 ∧ R = (0, 0)) ∨ (ex = .ret ∧ ρ' 2 = .int .i64 R.1 ∧ ρ' 3 = .int .i64 R.2)) := by
  refine loop_up ?_ ?_
  · rintro k ρ H' hk ⟨rfl, h24, h25, hR⟩
    have go : ∀ (fid : Nat) (caps : List V) (r : Int × Int), (fsCN H)[k]? = some (.func fid caps) → (rsCN n)[k]? = some r →
        (∀ bs, callw X bs fid caps (hCN n H (knCN n k) (ouCN n k) (fsCN H)) = some (.tuple [.int .i64 r.1, .int .i64 r.2], hCN n H (knCN n (k + 1)) (ouCN n (k + 1)) (fsCN H))) →
        Ev X ⟨38, bs⟩ (loopAt Tryz.f12 0) ρ (hCN n H (knCN n k) (ouCN n k) (fsCN H)) (roundQ (fun ρ H' => H' = hCN n H (knCN n (k + 1)) (ouCN n (k + 1)) (fsCN H) ∧ ρ 24 = .agg (fsCN H) ∧ ρ 25 = .int .i64 ((k + 1 : Nat) : Int) ∧ firstP ((rsCN n).drop (k + 1)) = R)
          fun ex ρ' H' => (∃ k1 k2, H' = hCN n H k1 k2 (fsCN H)) ∧ ((ex = .exit 0 ∧ R = (0, 0)) ∨ (ex = .ret ∧ ρ' 2 = .int .i64 R.1 ∧ ρ' 3 = .int .i64 R.2))) := by
      intro fid caps r hf hr hc
      rw [drop_cons hr, firstP] at hR
      refine cn_round bs H k fid caps _ _ (fsCN H) r hk hf rfl hc ρ h24 h25 _ (fun ρ' h1 h2 h3 => roundQ_ret.2 ?_) (fun ρ' h1 h2 h3 => roundQ_normal.2 ?_)
      · rw [if_pos h1] at hR
        subst hR
        exact ⟨⟨_, _, rfl⟩, .inr ⟨rfl, h2, h3⟩⟩
      · rw [if_neg (by simpa using h1)] at hR
        exact ⟨rfl, h2, h3, hR⟩
    have hs1 := fun p hp => Nat.le_trans (hS.inn p hp) (by omega : 1000 ≤ 1000000)
    have hs2 := fun p hp => Nat.le_trans (hS.rgn p hp) (by omega : 1000 ≤ 1000000)
    have hs3 := fun p hp => Nat.le_trans (hS.otn p hp) (by omega : 1000 ≤ 1000000)
    have hn0 := hS.name; have hn1 := hS.inputs; have hn2 := hS.regs; have hn3 := hS.nodes; have hn4 := hS.outs
    match k, hk with
    | 0, _ => exact go _ _ _ rfl rfl fun bs => nl_c2 bs _ n _ (by omega) hCN_a
    | 1, _ => exact go _ _ _ rfl rfl fun bs => by have := nl_c3 bs (hCN n H (knCN n 1) (ouCN n 1) (fsCN H)) n (knCN n 1) _ _ _ (by omega) hs1 hCN_a hCN_b1 hCN_m1; rw [hCN_s1] at this; exact this
    | 2, _ => exact go _ _ _ rfl rfl fun bs => nl_c4 bs _ n _ (by omega) (by omega) hCN_a
    | 3, _ => exact go _ _ _ rfl rfl fun bs => by rw [nl_c5 bs _ n _ _ _ _ (by omega) hs2 hCN_a hCN_b1 hCN_m1, hCN_s1]; rfl
    | 4, _ => exact go _ _ _ rfl rfl fun bs => nl_c6 bs _ n _ hS hCN_a
    | 5, _ => exact go _ _ _ rfl rfl fun bs => nl_c7 bs _ n _ _ (by omega) (by omega) hCN_a hCN_f
    | 6, _ => exact go _ _ _ rfl rfl fun bs => nl_c8 bs _ n _ hCN_a
    | 7, _ => exact go _ _ _ rfl rfl fun bs => by have := nl_c9 bs (hCN n H (knCN n 7) (ouCN n 7) (fsCN H)) n (ouCN n 7) _ _ _ _ (by omega) (by omega) hs3 hCN_a hCN_f hCN_b2 hCN_m2; rw [hCN_s2] at this; exact this
  · rintro ρ H' ⟨rfl, h24, h25, hR⟩
    replace hR : (0, 0) = R := hR
    generalize hg : hCN n H (knCN n 8) (ouCN n 8) (fsCN H) = Hx
    conv => arg 3; whnf
    all_goals try (refine zs ?_; repeat' first | apply zs0 | apply zs2 | (intro hc; try have hq := dq hc))
    exact ⟨⟨_, _, hg.symm⟩, .inl ⟨rfl, hR.symm⟩⟩

theorem nl_checkNetlist (bs : List Nat) (H : Heap) (n : Netl) (hS : Small n) : callw X bs 12 [encNetl n] H = some (.tuple [.int .i64 (checkNetS n).1, .int .i64 (checkNetS n).2], H) := by
  refine call_at (rs := [.tmp 2, .tmp 3]) (N := 38) (fn := Tryz.f12) xk12 xf12 rfl rfl rfl (by simp only [seval, push_cast, List.map_cons, List.map_nil, V.norm, norm1]; rfl) ?_
  have hloop := fun bs ρ => cn_loop bs n hS H (checkNetS n) 0 ρ
  clear hS
  all_goals try (refine zs ?_; repeat' first | apply zs0 | apply zs2 | (intro hc; try have hq := dq hc))
  refine lp_then (lp_any (c := loopAt Tryz.f12 0) rfl (hloop _ _ _ (by omega) ⟨rfl, by (simp only [seval, push_cast, *] <;> rfl), by (simp only [seval, push_cast, *] <;> rfl), rfl⟩)) ?_
  clear hloop
  rintro ex ρ' H' ⟨⟨k1, k2, rfl⟩, ⟨rfl, h2⟩ | ⟨rfl, h2, h3⟩⟩ -
  · rw [h2]
    unfold hCN
    all_goals try (refine zs ?_; repeat' first | apply zs0 | apply zs2 | (intro hc; try have hq := dq hc))
  · unfold hCN
    all_goals try (refine zs ?_; repeat' first | apply zs0 | apply zs2 | (intro hc; try have hq := dq hc))

end Go.E
/- Contracts of the package netlist, in E: open, reset, the state after a reset. Own work. -/
namespace Go.E
open Go.Proofs
set_option maxRecDepth 100000
set_option maxHeartbeats 4000000

theorem nl_open (bs : List Nat) (H : Heap) (n : Netl) (hS : Small n) : callw X bs 80 [encNetl n] H = some (.tuple [encNetl n, .int .i64 (checkNetS n).2], H) := by
  refine call_at (rs := [.cell 2 119, .tmp 3]) (N := 14) (fn := Tryz.f80) xk80 xf80 rfl rfl rfl (by simp only [seval, push_cast, List.map_cons, List.map_nil, V.norm, norm1]; rfl) ?_
  have h := fun bs H => nl_checkNetlist bs H n hS
  simp only [encNetl, cellsNetl] at h ⊢
  clear hS
  all_goals try (refine zs ?_; repeat' first | apply zs0 | apply zs2 | (intro hc; try have hq := dq hc))

def resetN (n : Netl) : List Int := n.regs.map (·.init)
theorem nl_reset (bs : List Nat) (H : Heap) (n : Netl) (hr : n.regs.length ≤ 1000) : callw X bs 81 [encNetl n] H = some (.list ((resetN n).map (.int .i64)), H) := by
  refine call_at (rs := [.tmp 2]) (N := 21) (fn := Tryz.f81) xk81 xf81 rfl rfl rfl (by simp only [seval, push_cast, List.map_cons, List.map_nil, V.norm, norm1]; rfl) ?_
  have key : ∀ (c t : HObj) (bs : List Nat) i ρ H', i ≤ n.regs.length → (∃ ws junk, ws = (n.regs.take i).map (·.init) ∧ H' = H ++ c :: t :: .tok ws.length :: junk ∧ ρ 3 = .tl (H.length + 2) (ws.map (.int .i64)) ∧ ρ 8 = .list (n.regs.map encReg) ∧ ρ 9 = .int .i64 n.regs.length ∧ ρ 10 = .int .i64 i) →
      Lp X ⟨21, bs⟩ (loopAt Tryz.f81 0) ρ H' fun ex ρ' H' => ∃ ws junk, ws = resetN n ∧ H' = H ++ c :: t :: .tok ws.length :: junk ∧ ρ' 3 = .tl (H.length + 2) (ws.map (.int .i64)) ∧ ex = .exit 0 := by
    intro c t bs
    refine loop_up ?_ ?_
    · rintro i ρ H' hlt ⟨ws, junk, hws, rfl, h3, h9, h10, h11⟩
      have hget : n.regs[i]? = some n.regs[i] := by simp [hlt]
      have htk : n.regs.take (i + 1) = n.regs.take i ++ [n.regs[i]] := by rw [List.take_add_one, hget]; rfl
      generalize n.regs[i] = p at hget htk
      have hlen : ws.length = i := by rw [hws]; simp; omega
      have hroom := room8 ws.length (by omega)
      have hw := add1 i n.regs.length hlt (by omega)
      have hsn : Kp ((n.regs.take (i + 1)).map (·.init) = ws ++ [p.init]) := ⟨by rw [htk, hws]; simp⟩
      clear hws hlen htk
      conv => arg 3; whnf
      all_goals try (refine zs ?_; repeat' first | apply zs0 | apply zs2 | (intro hc; try have hq := dq hc))
      exact ⟨ws ++ [p.init], _, hsn.out.symm, by simp only [List.length_append, List.length_singleton]; rfl, by simp [push_cast], by (simp only [seval, push_cast, *] <;> rfl), by (simp only [seval, push_cast, *] <;> rfl), by (simp only [seval, push_cast, *] <;> rfl)⟩
    · rintro ρ H' ⟨ws, junk, hws, rfl, h3, h9, h10, h11⟩
      rw [List.take_length] at hws
      replace hws : Kp (ws = resetN n) := ⟨hws⟩
      conv => arg 3; whnf
      all_goals try (refine zs ?_; repeat' first | apply zs0 | apply zs2 | (intro hc; try have hq := dq hc))
      exact ⟨ws, junk, hws.out, rfl, by (simp only [seval, push_cast, *] <;> rfl), rfl⟩
  all_goals try (refine zs ?_; repeat' first | apply zs0 | apply zs2 | (intro hc; try have hq := dq hc))
  refine lp_then (lp_any (c := loopAt Tryz.f81 0) rfl (key _ _ _ 0 _ _ (by omega) ⟨[], [], rfl, rfl, by (simp only [seval, push_cast, *] <;> rfl), by (simp only [seval, push_cast, *] <;> rfl), by (simp only [seval, push_cast, *] <;> rfl), by (simp only [seval, push_cast, *] <;> rfl)⟩)) ?_
  rintro ex ρ' H' ⟨ws, junk, rfl, rfl, h3, rfl⟩ hf
  clear key hf
  all_goals try (refine zs ?_; repeat' first | apply zs0 | apply zs2 | (intro hc; try have hq := dq hc))

theorem nl_resetOf (bs : List Nat) (H : Heap) (n : Netl) (hS : Small n) : callw X bs 14 [encNetl n] H = some (.tuple [.list (if (checkNetS n).2 = 0 then (resetN n).map (.int .i64) else []), .int .i64 (checkNetS n).2], H) := by
  refine call_at (rs := [.tmp 2, .tmp 3]) (N := 16) (fn := Tryz.f14) xk14 xf14 rfl rfl rfl (by simp only [seval, push_cast, List.map_cons, List.map_nil, V.norm, norm1]; rfl) ?_
  have h1 := fun bs H => nl_open bs H n hS
  have h2 := fun bs H => nl_reset bs H n hS.regs
  simp only [encNetl, cellsNetl] at h1 h2
  clear hS
  by_cases he : (checkNetS n).2 = 0
  · rw [if_pos he]
    all_goals try (refine zs ?_; repeat' first | apply zs0 | apply zs2 | (intro hc; try have hq := dq hc))
  · rw [if_neg he]
    all_goals try (refine zs ?_; repeat' first | apply zs0 | apply zs2 | (intro hc; try have hq := dq hc))

end Go.E
/- Contracts of the references' base, in E: numbers, names, nodes. Own work. -/
namespace Go.E
open Go.Proofs
set_option maxRecDepth 100000
set_option maxHeartbeats 4000000

theorem or19 {k : Nat} (h : k < 19) : k = 0 ∨ k = 1 ∨ k = 2 ∨ k = 3 ∨ k = 4 ∨ k = 5 ∨ k = 6 ∨ k = 7 ∨ k = 8 ∨ k = 9 ∨ k = 10 ∨ k = 11 ∨ k = 12 ∨ k = 13 ∨ k = 14 ∨ k = 15 ∨ k = 16 ∨ k = 17 ∨ k = 18 := by omega
theorem argC0 : argC 0 = 0 := rfl
theorem argC1 : argC 1 = 0 := rfl
theorem argC2 : argC 2 = 1 := rfl
theorem argC3 : argC 3 = 2 := rfl
theorem argC4 : argC 4 = 2 := rfl
theorem argC5 : argC 5 = 2 := rfl
theorem argC6 : argC 6 = 2 := rfl
theorem argC7 : argC 7 = 2 := rfl
theorem argC8 : argC 8 = 2 := rfl
theorem argC9 : argC 9 = 2 := rfl
theorem argC10 : argC 10 = 2 := rfl
theorem argC11 : argC 11 = 2 := rfl
theorem argC12 : argC 12 = 3 := rfl
theorem argC13 : argC 13 = 2 := rfl
theorem argC14 : argC 14 = 1 := rfl
theorem argC15 : argC 15 = 1 := rfl
theorem argC16 : argC 16 = 1 := rfl
theorem argC17 : argC 17 = 2 := rfl
theorem argC18 : argC 18 = 2 := rfl
attribute [push_cast] argC0 argC1 argC2 argC3 argC4 argC5 argC6 argC7 argC8 argC9 argC10 argC11 argC12 argC13 argC14 argC15 argC16 argC17 argC18
theorem bs_argCount0 (bs : List Nat) (H : Heap) (k : Nat) (n : Int) (h : k < 19) (hn : n = (k : Int)) : callw X bs 198 [.int .i64 n] H = some (.int .i64 (argC k : Nat), H) := by
  refine call_at (rs := [.tmp 2]) (N := 14) (fn := Tryz.f198) xk198 xf198 rfl rfl rfl (by simp only [seval, push_cast, List.map_cons, List.map_nil, V.norm, norm1]; rfl) ?_
  rcases or19 h with rfl | rfl | rfl | rfl | rfl | rfl | rfl | rfl | rfl | rfl | rfl | rfl | rfl | rfl | rfl | rfl | rfl | rfl | rfl
  all_goals clear h
  all_goals try (refine zs ?_; repeat' first | apply zs0 | apply zs2 | (intro hc; try have hq := dq hc))

end Go.E
/- Contracts of the references' base, in E: nodes. Own work. -/
namespace Go.E
open Go.Proofs
set_option maxRecDepth 100000
set_option maxHeartbeats 4000000

theorem bs_widths (bs : List Nat) (H : Heap) (x : Node) (nodes : List Node) (hl : x.args.length ≤ 1000000) (hargs : ∀ n ∈ x.args, 0 ≤ n ∧ n < nodes.length) :
    ∀ i ρ H', i ≤ x.args.length → (∃ ws, ws = widthsOf nodes (x.args.take i) ∧ H' = H ++ [.cells [.int .i64 x.op, .int .i64 x.width, .list (x.args.map (.int .i64)), .int .i64 x.value], .tok ws.length] ∧ ρ 0 = .list (nodes.map encNode) ∧ ρ 3 = .ptr H.length 0 ∧ ρ 5 = .tl (H.length + 1) (ws.map (.int .i64)) ∧ ρ 6 = .int .i64 i) →
      Lp X ⟨133, bs⟩ (loopAt Tryz.f199 0) ρ H' fun ex ρ' H' => H' = H ++ [.cells [.int .i64 x.op, .int .i64 x.width, .list (x.args.map (.int .i64)), .int .i64 x.value], .tok x.args.length] ∧ ex = .exit 0 ∧ ρ' 5 = .tl (H.length + 1) ((widthsOf nodes x.args).map (.int .i64)) := by
  refine loop_up ?_ ?_
  · rintro i ρ H' hi ⟨ws, hws, rfl, h0, h3, h5, h6⟩
    have hget : x.args[i]? = some x.args[i] := by simp [hi]
    have hm := hargs x.args[i] (List.getElem_mem hi)
    have htk : x.args.take (i + 1) = x.args.take i ++ [x.args[i]] := by rw [List.take_add_one, hget]; rfl
    generalize x.args[i] = n at hget hm htk
    obtain ⟨m, rfl⟩ : ∃ m : Nat, n = m := ⟨n.toNat, by omega⟩
    have hlt : m < nodes.length := by omega
    have hget2 : nodes[m]? = some nodes[m] := by simp [hlt]
    have hsn := widthsOf_snoc nodes (x.args.take i) m nodes[m] (by simp)
    generalize nodes[m] = y at hget2 hsn
    have hlen : ws.length = i := by rw [hws]; simp [widthsOf]; omega
    have hroom := room8 ws.length (by omega)
    have hw := add1 i x.args.length hi hl
    rw [← hws, ← htk] at hsn
    replace hsn : Kp (widthsOf nodes (x.args.take (i + 1)) = ws ++ [y.width]) := ⟨hsn⟩
    clear htk hm hws hlen hargs
    conv => arg 3; whnf
    repeat' first
     | (apply z50 (id := 8) (ord := [0, 1, 2, 3, 4, 5, 6]) <;> first | kernel_rfl | skip)
     | (apply z50 (id := 15) (ord := [0, 1, 2, 3, 4, 5, 6, 7, 8, 9, 10, 11, 12, 13, 14]) <;> first | kernel_rfl | skip)
     | (apply z50 (id := 19) (ord := [0, 1, 2, 3, 4, 5, 6, 7, 8, 9, 10, 11, 12]) <;> first | kernel_rfl | skip)
     | (apply z50 (id := 21) (ord := [0, 1, 2, 3, 4, 5, 6, 7, 8, 9, 10, 11, 12, 13, 14, 15, 16, 17, 18, 19, 20]) <;> first | kernel_rfl | skip)
     | (apply z50 (id := 23) (ord := [0, 1, 2, 3, 4, 5, 6, 7, 8, 9, 10]) <;> first | kernel_rfl | skip)
     | (apply z50 (id := 25) (ord := [0, 1, 2, 3, 4, 5, 6, 7, 8, 9]) <;> first | kernel_rfl | skip)
     | (apply z50 (id := 28) (ord := [0, 1, 2, 3, 4, 5, 6]) <;> first | kernel_rfl | skip)
     | (apply z50 (id := 29) (ord := [0, 1, 2, 3, 4, 5, 6]) <;> first | kernel_rfl | skip)
     | (refine zs ?_; repeat' first | apply zs0 | apply zs2 | (intro hc; try have hq := dq hc)) | fail
    exact ⟨ws ++ [y.width], hsn.out.symm, by simp, by (simp only [seval, push_cast, *] <;> rfl), by (simp only [seval, push_cast, *] <;> rfl), by simp [push_cast], by (simp only [seval, push_cast, *] <;> rfl)⟩
  · rintro ρ H' ⟨ws, hws, rfl, h0, h3, h5, h6⟩
    rw [List.take_length] at hws
    have hlen : ws.length = x.args.length := by rw [hws]; simp [widthsOf]
    replace hws : Kp (ws = widthsOf nodes x.args) := ⟨hws⟩
    replace hlen : Kp (ws.length = x.args.length) := ⟨hlen⟩
    clear hargs
    conv => arg 3; whnf
    repeat' first
     | (apply z50 (id := 8) (ord := [0, 1, 2, 3, 4, 5, 6]) <;> first | kernel_rfl | skip)
     | (apply z50 (id := 15) (ord := [0, 1, 2, 3, 4, 5, 6, 7, 8, 9, 10, 11, 12, 13, 14]) <;> first | kernel_rfl | skip)
     | (apply z50 (id := 19) (ord := [0, 1, 2, 3, 4, 5, 6, 7, 8, 9, 10, 11, 12]) <;> first | kernel_rfl | skip)
     | (apply z50 (id := 21) (ord := [0, 1, 2, 3, 4, 5, 6, 7, 8, 9, 10, 11, 12, 13, 14, 15, 16, 17, 18, 19, 20]) <;> first | kernel_rfl | skip)
     | (apply z50 (id := 23) (ord := [0, 1, 2, 3, 4, 5, 6, 7, 8, 9, 10]) <;> first | kernel_rfl | skip)
     | (apply z50 (id := 25) (ord := [0, 1, 2, 3, 4, 5, 6, 7, 8, 9]) <;> first | kernel_rfl | skip)
     | (apply z50 (id := 28) (ord := [0, 1, 2, 3, 4, 5, 6]) <;> first | kernel_rfl | skip)
     | (apply z50 (id := 29) (ord := [0, 1, 2, 3, 4, 5, 6]) <;> first | kernel_rfl | skip)
     | (refine zs ?_; repeat' first | apply zs0 | apply zs2 | (intro hc; try have hq := dq hc)) | fail
    exact ⟨by rw [hlen.out], rfl, by rw [← hws.out]; (simp only [seval, push_cast, *] <;> rfl)⟩

theorem len1 {l : List Int} (h : l.length = 1) : ∃ a, l = [a] := by match l, h with | [a], _ => exact ⟨a, rfl⟩
theorem len2 {l : List Int} (h : l.length = 2) : ∃ a b, l = [a, b] := by match l, h with | [a, b], _ => exact ⟨a, b, rfl⟩
theorem len3 {l : List Int} (h : l.length = 3) : ∃ a b c, l = [a, b, c] := by match l, h with | [a, b, c], _ => exact ⟨a, b, c, rfl⟩
theorem bs_widthsFit (bs : List Nat) (H : Heap) (x : Node) (nodes : List Node) (k : Nat) (hk : x.op = (k : Int)) (hk19 : k < 19) (hk2 : 2 ≤ k) (ha : x.args.length = argC k) (hargs : ∀ n ∈ x.args, 0 ≤ n ∧ n < nodes.length) : callw X bs 199 [.list (nodes.map encNode), encNode x] H = some (.bool (fitsS k x.width (widthsOf nodes x.args) x.value), H) := by
  refine call_at (rs := [.tmp 4]) (N := 133) (fn := Tryz.f199) xk199 xf199 rfl rfl rfl (by simp only [seval, push_cast, List.map_cons, List.map_nil, V.norm, norm1]; rfl) ?_
  have hloop := fun bs ρ => bs_widths bs H x nodes (by rw [ha]; have := argC_le k; omega) hargs 0 ρ
  have hwl : (widthsOf nodes x.args).length = argC k := by simpa [widthsOf] using ha
  generalize hg : widthsOf nodes x.args = ws at hwl
  rw [hg] at hloop
  rw [hk] at hloop
  clear hargs ha
  rcases or19 hk19 with rfl | rfl | rfl | rfl | rfl | rfl | rfl | rfl | rfl | rfl | rfl | rfl | rfl | rfl | rfl | rfl | rfl | rfl | rfl
  all_goals try (exfalso; omega)
  all_goals clear hk19 hk2
  repeat' first
   | (apply z50 (id := 8) (ord := [0, 1, 2, 3, 4, 5, 6]) <;> first | kernel_rfl | skip)
   | (apply z50 (id := 15) (ord := [0, 1, 2, 3, 4, 5, 6, 7, 8, 9, 10, 11, 12, 13, 14]) <;> first | kernel_rfl | skip)
   | (apply z50 (id := 19) (ord := [0, 1, 2, 3, 4, 5, 6, 7, 8, 9, 10, 11, 12]) <;> first | kernel_rfl | skip)
   | (apply z50 (id := 21) (ord := [0, 1, 2, 3, 4, 5, 6, 7, 8, 9, 10, 11, 12, 13, 14, 15, 16, 17, 18, 19, 20]) <;> first | kernel_rfl | skip)
   | (apply z50 (id := 23) (ord := [0, 1, 2, 3, 4, 5, 6, 7, 8, 9, 10]) <;> first | kernel_rfl | skip)
   | (apply z50 (id := 25) (ord := [0, 1, 2, 3, 4, 5, 6, 7, 8, 9]) <;> first | kernel_rfl | skip)
   | (apply z50 (id := 28) (ord := [0, 1, 2, 3, 4, 5, 6]) <;> first | kernel_rfl | skip)
   | (apply z50 (id := 29) (ord := [0, 1, 2, 3, 4, 5, 6]) <;> first | kernel_rfl | skip)
   | (refine zs ?_; repeat' first | apply zs0 | apply zs2 | (intro hc; try have hq := dq hc)) | fail
  all_goals refine lp_then (lp_any (c := loopAt Tryz.f199 0) rfl (hloop _ _ _ (by omega) ⟨[], rfl, rfl, by (simp only [seval, push_cast, *] <;> rfl), by (simp only [seval, push_cast, *] <;> rfl), by (simp only [seval, push_cast, *] <;> rfl), by (simp only [seval, push_cast, *] <;> rfl)⟩)) ?_
  all_goals clear hloop
  all_goals rintro ex ρ' H' ⟨rfl, rfl, h5⟩ hf
  all_goals have f3 := hf 3 rfl
  all_goals simp only [seval, push_cast] at f3
  all_goals clear hf hg
  all_goals first | (obtain ⟨w0, rfl⟩ := len1 hwl) | (obtain ⟨w0, w1, rfl⟩ := len2 hwl) | (obtain ⟨w0, w1, w2, rfl⟩ := len3 hwl)
  all_goals clear hwl
  all_goals simp only [fitsS, at0, List.getD_cons_zero, List.getD_cons_succ, List.any_cons, List.any_nil, Bool.or_false]
  all_goals try clear hk
  repeat' first
   | (apply z50 (id := 8) (ord := [0, 1, 2, 3, 4, 5, 6]) <;> first | kernel_rfl | skip)
   | (apply z50 (id := 15) (ord := [0, 1, 2, 3, 4, 5, 6, 7, 8, 9, 10, 11, 12, 13, 14]) <;> first | kernel_rfl | skip)
   | (apply z50 (id := 19) (ord := [0, 1, 2, 3, 4, 5, 6, 7, 8, 9, 10, 11, 12]) <;> first | kernel_rfl | skip)
   | (apply z50 (id := 21) (ord := [0, 1, 2, 3, 4, 5, 6, 7, 8, 9, 10, 11, 12, 13, 14, 15, 16, 17, 18, 19, 20]) <;> first | kernel_rfl | skip)
   | (apply z50 (id := 23) (ord := [0, 1, 2, 3, 4, 5, 6, 7, 8, 9, 10]) <;> first | kernel_rfl | skip)
   | (apply z50 (id := 25) (ord := [0, 1, 2, 3, 4, 5, 6, 7, 8, 9]) <;> first | kernel_rfl | skip)
   | (apply z50 (id := 28) (ord := [0, 1, 2, 3, 4, 5, 6]) <;> first | kernel_rfl | skip)
   | (apply z50 (id := 29) (ord := [0, 1, 2, 3, 4, 5, 6]) <;> first | kernel_rfl | skip)
   | (refine zs ?_; repeat' first | apply zs0 | apply zs2 | (intro hc; try have hq := dq hc)) | fail

end Go.E
/- Contracts of the references' base, in E: errors of nodes. Own work. -/
namespace Go.E
open Go.Proofs
set_option maxRecDepth 100000
set_option maxHeartbeats 4000000

def oddP (i : Nat) (n : Int) : Bool := !(decide (0 ≤ n) && decide (n ≤ (i : Int) - 1))
theorem bs_odd (bs : List Nat) (H : Heap) (x : Node) (i : Nat) (hl : x.args.length ≤ 1000000) (hi : i ≤ 1000000) (R : Bool) :
    ∀ j ρ H', j ≤ x.args.length → (H' = H ++ [.cells [.int .i64 x.op, .int .i64 x.width, .list (x.args.map (.int .i64)), .int .i64 x.value]] ∧ ρ 2 = .int .i64 i ∧ ρ 7 = .ptr H.length 0 ∧ ρ 8 = .int .i64 j ∧ Kp ((x.args.drop j).any (oddP i) = R)) →
      Lp X ⟨84, bs⟩ (loopAt Tryz.f146 0) ρ H' fun ex ρ' H' => H' = H ++ [.cells [.int .i64 x.op, .int .i64 x.width, .list (x.args.map (.int .i64)), .int .i64 x.value]] ∧ ((ex = .exit 0 ∧ R = false) ∨ (ex = .ret ∧ ρ' 6 = .int .i64 9 ∧ R = true)) := by
  have hi1 := sub1 i hi
  refine loop_up ?_ ?_
  · rintro j ρ H' hj ⟨rfl, h2, h7, h8, hR⟩
    have hget : x.args[j]? = some x.args[j] := by simp [hj]
    generalize x.args[j] = n at hget
    have hw := add1 j x.args.length hj hl
    replace hR := hR.out
    rw [drop_cons hget, List.any_cons] at hR
    replace hR : Kp ((oddP i n || (x.args.drop (j + 1)).any (oddP i)) = R) := ⟨hR⟩
    conv => arg 3; whnf
    repeat' first
     | (apply z51 (id := 6) (ord := [0, 1, 2, 3, 4, 5, 6]) (ps := [(1, 5)]) <;> first | kernel_rfl | skip)
     | (apply z50 (id := 23) (ord := [0, 1, 2, 3, 4, 5, 6, 7]) <;> first | kernel_rfl | skip)
     | (refine zs ?_; repeat' first | apply zs0 | apply zs2 | (intro hc; try have hq := dq hc)) | fail
    all_goals replace hR := hR.out
    all_goals unfold oddP at hR
    · rw [hc] at hR
      exact ⟨rfl, .inr ⟨rfl, by (simp only [seval, push_cast, *] <;> rfl), by rw [← hR]; rfl⟩⟩
    · rw [hc] at hR
      exact ⟨rfl, by (simp only [seval, push_cast, *] <;> rfl), by (simp only [seval, push_cast, *] <;> rfl), by (simp only [seval, push_cast, *] <;> rfl), ⟨by rw [← hR]; rfl⟩⟩
  · rintro ρ H' ⟨rfl, h2, h7, h8, hR⟩
    replace hR := hR.out
    rw [List.drop_length, List.any_nil] at hR
    replace hR : Kp (false = R) := ⟨hR⟩
    conv => arg 3; whnf
    repeat' first
     | (apply z51 (id := 6) (ord := [0, 1, 2, 3, 4, 5, 6]) (ps := [(1, 5)]) <;> first | kernel_rfl | skip)
     | (apply z50 (id := 23) (ord := [0, 1, 2, 3, 4, 5, 6, 7]) <;> first | kernel_rfl | skip)
     | (refine zs ?_; repeat' first | apply zs0 | apply zs2 | (intro hc; try have hq := dq hc)) | fail
    exact ⟨rfl, .inl ⟨rfl, hR.out.symm⟩⟩

theorem bs_nodeErr (bs : List Nat) (H : Heap) (leaves : List Int) (nodes : List Node) (i : Nat) (x : Node) (hx : nodes[i]? = some x) (hl : leaves.length ≤ 1000000) (hn : nodes.length ≤ 1000000) (hal : x.args.length ≤ 1000000) : callw X bs 146 [.list (leaves.map (.int .i64)), .list (nodes.map encNode), .int .i64 i] H = some (.int .i64 (nodeErrS leaves nodes i x), H) := by
  refine call_at (rs := [.tmp 6]) (N := 84) (fn := Tryz.f146) xk146 xf146 rfl rfl rfl (by simp only [seval, push_cast, List.map_cons, List.map_nil, V.norm, norm1]; rfl) ?_
  have hi : i < nodes.length := (List.getElem?_eq_some_iff.1 hx).1
  unfold nodeErrS
  by_cases hop : 0 ≤ x.op ∧ x.op ≤ 18
  case neg =>
    have hb : (decide (0 ≤ x.op) && decide (x.op ≤ 18)) = false := by rw [Bool.and_eq_false_iff, decide_eq_false_iff_not, decide_eq_false_iff_not]; omega
    rw [if_pos hop]
    clear hop
    repeat' first
     | (apply z51 (id := 6) (ord := [0, 1, 2, 3, 4, 5, 6]) (ps := [(1, 5)]) <;> first | kernel_rfl | skip)
     | (apply z50 (id := 23) (ord := [0, 1, 2, 3, 4, 5, 6, 7]) <;> first | kernel_rfl | skip)
     | (refine zs ?_; repeat' first | apply zs0 | apply zs2 | (intro hc; try have hq := dq hc)) | fail
  rw [if_neg (by simpa using hop)]
  obtain ⟨k, hk⟩ : ∃ k : Nat, x.op = k := ⟨x.op.toNat, by omega⟩
  have hk19 : k < 19 := by omega
  have hk18 : (k : Int) ≤ 18 := by omega
  rw [hk, Int.toNat_natCast]
  have hac := fun bs H => bs_argCount0 bs H k x.op hk19 hk
  rw [hk] at hac
  cases hw : isW x.width with
  | false =>
    rw [if_pos rfl]
    unfold isW at hw
    clear hop
    repeat' first
     | (apply z51 (id := 6) (ord := [0, 1, 2, 3, 4, 5, 6]) (ps := [(1, 5)]) <;> first | kernel_rfl | skip)
     | (apply z50 (id := 23) (ord := [0, 1, 2, 3, 4, 5, 6, 7]) <;> first | kernel_rfl | skip)
     | (refine zs ?_; repeat' first | apply zs0 | apply zs2 | (intro hc; try have hq := dq hc)) | fail
  | true =>
  rw [if_neg (by simp)]
  have hw0 : 0 ≤ x.width := by simp only [isW, Bool.and_eq_true, decide_eq_true_eq] at hw; omega
  unfold isW at hw
  by_cases hlen : x.args.length = argC k
  case neg =>
    have dl : ¬ ((x.args.length : Int) = ((argC k : Nat) : Int)) := by omega
    rw [if_pos hlen]
    clear hop hlen
    repeat' first
     | (apply z51 (id := 6) (ord := [0, 1, 2, 3, 4, 5, 6]) (ps := [(1, 5)]) <;> first | kernel_rfl | skip)
     | (apply z50 (id := 23) (ord := [0, 1, 2, 3, 4, 5, 6, 7]) <;> first | kernel_rfl | skip)
     | (refine zs ?_; repeat' first | apply zs0 | apply zs2 | (intro hc; try have hq := dq hc)) | fail
  rw [if_neg (by simpa using hlen)]
  have dl : (x.args.length : Int) = ((argC k : Nat) : Int) := by omega
  have hloop := fun bs ρ => bs_odd bs H x i hal (by omega) (x.args.any (oddP i)) 0 ρ
  rw [hk] at hloop
  have hodd : x.args.any (fun n => !(decide (0 ≤ n) && decide (n ≤ (i : Int) - 1))) = x.args.any (oddP i) := rfl
  rw [hodd]
  have dl2 : Kp ((x.args.length : Int) = ((argC k : Nat) : Int)) := ⟨dl⟩
  have dl3 : decide ((x.args.length : Int) = ((argC k : Nat) : Int)) = true := decide_eq_true dl
  clear hop hodd dl
  repeat' first
   | (apply z51 (id := 6) (ord := [0, 1, 2, 3, 4, 5, 6]) (ps := [(1, 5)]) <;> first | kernel_rfl | skip)
   | (apply z50 (id := 23) (ord := [0, 1, 2, 3, 4, 5, 6, 7]) <;> first | kernel_rfl | skip)
   | (refine zs ?_; repeat' first | apply zs0 | apply zs2 | (intro hc; try have hq := dq hc)) | fail
  refine lp_then (lp_any (c := loopAt Tryz.f146 0) rfl (hloop _ _ _ (by omega) ⟨rfl, by (simp only [seval, push_cast, *] <;> rfl), by (simp only [seval, push_cast, *] <;> rfl), by (simp only [seval, push_cast, *] <;> rfl), ⟨rfl⟩⟩)) ?_
  clear hloop
  rintro ex ρ' H' ⟨rfl, ⟨rfl, ho⟩ | ⟨rfl, h6, ho⟩⟩ hf
  case inr =>
    rw [ho, if_pos rfl]
    repeat' first
     | (apply z51 (id := 6) (ord := [0, 1, 2, 3, 4, 5, 6]) (ps := [(1, 5)]) <;> first | kernel_rfl | skip)
     | (apply z50 (id := 23) (ord := [0, 1, 2, 3, 4, 5, 6, 7]) <;> first | kernel_rfl | skip)
     | (refine zs ?_; repeat' first | apply zs0 | apply zs2 | (intro hc; try have hq := dq hc)) | fail
  rw [ho, if_neg (by simp)]
  have f7 := hf 7 rfl
  have f0 := hf 0 rfl
  have f1 := hf 1 rfl
  simp only [seval, push_cast] at f7 f0 f1
  clear hf
  have hargs : ∀ n ∈ x.args, 0 ≤ n ∧ n < nodes.length := fun n hnm => by
    rw [List.any_eq_false] at ho
    have := ho n hnm
    simp only [oddP, Bool.not_eq_true', Bool.and_eq_false_iff, decide_eq_false_iff_not, not_or, Decidable.not_not] at this
    omega
  have hlen : x.args.length = argC k := by have := dl2.out; omega
  have hwf := fun bs H (h2 : 2 ≤ k) => bs_widthsFit bs H x nodes k hk hk19 h2 hlen hargs
  have hfits := fun bs H => bs_fits bs H x.value x.width hw0
  simp only [encNode, encInts, hk] at hwf
  clear hargs ho hlen hac dl3
  by_cases h0 : k = 0
  · subst h0
    have hG : fitsG x.value x.width = fitsN x.value x.width := by unfold fitsG fitsN; rw [decide_eq_true hw0]; rfl
    simp only [valueErrS, if_true, hG, fitsS]
    clear hwf hG
    cases hv : fitsN x.value x.width
    · simp only [Bool.false_eq_true, if_false]
      repeat' first
       | (apply z51 (id := 6) (ord := [0, 1, 2, 3, 4, 5, 6]) (ps := [(1, 5)]) <;> first | kernel_rfl | skip)
       | (apply z50 (id := 23) (ord := [0, 1, 2, 3, 4, 5, 6, 7]) <;> first | kernel_rfl | skip)
       | (refine zs ?_; repeat' first | apply zs0 | apply zs2 | (intro hc; try have hq := dq hc)) | fail
    · simp only [if_true]
      repeat' first
       | (apply z51 (id := 6) (ord := [0, 1, 2, 3, 4, 5, 6]) (ps := [(1, 5)]) <;> first | kernel_rfl | skip)
       | (apply z50 (id := 23) (ord := [0, 1, 2, 3, 4, 5, 6, 7]) <;> first | kernel_rfl | skip)
       | (refine zs ?_; repeat' first | apply zs0 | apply zs2 | (intro hc; try have hq := dq hc)) | fail
  have d0 : decide ((k : Int) = 0) = false := nat0 k 0 h0
  by_cases h1 : k = 1
  · subst h1
    have hw := sub1 leaves.length hl
    clear hwf hfits
    simp only [valueErrS, if_true, if_neg h0, fitsS]
    by_cases hv : 0 ≤ x.value ∧ x.value < leaves.length
    · obtain ⟨v, hvv⟩ : ∃ v : Nat, x.value = v := ⟨x.value.toNat, by omega⟩
      have hlt : v < leaves.length := by omega
      have hget : leaves[v]? = some leaves[v] := by simp [hlt]
      have hat : at0 leaves v = leaves[v] := by simp [at0, List.getD, hget]
      rw [if_pos hv, hvv, Int.toNat_natCast, hat]
      have hb : (decide (0 ≤ (v : Int)) && decide ((v : Int) ≤ (leaves.length : Int) - 1)) = true := by rw [Bool.and_eq_true, decide_eq_true_eq, decide_eq_true_eq]; omega
      have hle : (v : Int) ≤ (leaves.length : Int) - 1 := by omega
      clear hv hat
      generalize leaves[v] = y at hget
      by_cases hy : y = x.width
      · rw [if_pos hy]
        repeat' first
         | (apply z51 (id := 6) (ord := [0, 1, 2, 3, 4, 5, 6]) (ps := [(1, 5)]) <;> first | kernel_rfl | skip)
         | (apply z50 (id := 23) (ord := [0, 1, 2, 3, 4, 5, 6, 7]) <;> first | kernel_rfl | skip)
         | (refine zs ?_; repeat' first | apply zs0 | apply zs2 | (intro hc; try have hq := dq hc)) | fail
      · rw [if_neg hy]
        repeat' first
         | (apply z51 (id := 6) (ord := [0, 1, 2, 3, 4, 5, 6]) (ps := [(1, 5)]) <;> first | kernel_rfl | skip)
         | (apply z50 (id := 23) (ord := [0, 1, 2, 3, 4, 5, 6, 7]) <;> first | kernel_rfl | skip)
         | (refine zs ?_; repeat' first | apply zs0 | apply zs2 | (intro hc; try have hq := dq hc)) | fail
    · have hb : (decide (0 ≤ x.value) && decide (x.value ≤ (leaves.length : Int) - 1)) = false := by
        rw [Bool.and_eq_false_iff, decide_eq_false_iff_not, decide_eq_false_iff_not]; omega
      rw [if_neg hv]
      clear hv
      repeat' first
       | (apply z51 (id := 6) (ord := [0, 1, 2, 3, 4, 5, 6]) (ps := [(1, 5)]) <;> first | kernel_rfl | skip)
       | (apply z50 (id := 23) (ord := [0, 1, 2, 3, 4, 5, 6, 7]) <;> first | kernel_rfl | skip)
       | (refine zs ?_; repeat' first | apply zs0 | apply zs2 | (intro hc; try have hq := dq hc)) | fail
  have d1 : decide ((k : Int) = 1) = false := nat0 k 1 h1
  replace hwf := fun bs H => hwf bs H (by omega)
  clear hfits
  generalize hg : fitsS k x.width (widthsOf nodes x.args) x.value = fb at hwf
  by_cases h2 : k = 14
  · subst h2
    clear hg
    have e14 : ((14 : Nat) : Int) = 14 := rfl
    rw [e14] at hwf
    simp only [valueErrS, if_true, if_neg h0, if_neg h1]
    cases hv : (decide (0 ≤ x.value) && decide (x.value ≤ 15))
    · simp only [Bool.false_eq_true, if_false]
      repeat' first
       | (apply z51 (id := 6) (ord := [0, 1, 2, 3, 4, 5, 6]) (ps := [(1, 5)]) <;> first | kernel_rfl | skip)
       | (apply z50 (id := 23) (ord := [0, 1, 2, 3, 4, 5, 6, 7]) <;> first | kernel_rfl | skip)
       | (refine zs ?_; repeat' first | apply zs0 | apply zs2 | (intro hc; try have hq := dq hc)) | fail
    · simp only [if_true]
      cases fb
      · repeat' first
         | (apply z51 (id := 6) (ord := [0, 1, 2, 3, 4, 5, 6]) (ps := [(1, 5)]) <;> first | kernel_rfl | skip)
         | (apply z50 (id := 23) (ord := [0, 1, 2, 3, 4, 5, 6, 7]) <;> first | kernel_rfl | skip)
         | (refine zs ?_; repeat' first | apply zs0 | apply zs2 | (intro hc; try have hq := dq hc)) | fail
      · repeat' first
         | (apply z51 (id := 6) (ord := [0, 1, 2, 3, 4, 5, 6]) (ps := [(1, 5)]) <;> first | kernel_rfl | skip)
         | (apply z50 (id := 23) (ord := [0, 1, 2, 3, 4, 5, 6, 7]) <;> first | kernel_rfl | skip)
         | (refine zs ?_; repeat' first | apply zs0 | apply zs2 | (intro hc; try have hq := dq hc)) | fail
  have d2 : decide ((k : Int) = 14) = false := nat0 k 14 h2
  have hhv : hasV k = false := by
    rcases or19 hk19 with rfl | rfl | rfl | rfl | rfl | rfl | rfl | rfl | rfl | rfl | rfl | rfl | rfl | rfl | rfl | rfl | rfl | rfl | rfl <;> first | rfl | (exfalso; omega)
  simp only [valueErrS, if_neg h0, if_neg h1, if_neg h2, hhv]
  clear h0 h1 h2 hg
  by_cases hv : x.value = 0
  · rw [hv] at hwf
    cases fb
    · repeat' first
       | (apply z51 (id := 6) (ord := [0, 1, 2, 3, 4, 5, 6]) (ps := [(1, 5)]) <;> first | kernel_rfl | skip)
       | (apply z50 (id := 23) (ord := [0, 1, 2, 3, 4, 5, 6, 7]) <;> first | kernel_rfl | skip)
       | (refine zs ?_; repeat' first | apply zs0 | apply zs2 | (intro hc; try have hq := dq hc)) | fail
    · repeat' first
       | (apply z51 (id := 6) (ord := [0, 1, 2, 3, 4, 5, 6]) (ps := [(1, 5)]) <;> first | kernel_rfl | skip)
       | (apply z50 (id := 23) (ord := [0, 1, 2, 3, 4, 5, 6, 7]) <;> first | kernel_rfl | skip)
       | (refine zs ?_; repeat' first | apply zs0 | apply zs2 | (intro hc; try have hq := dq hc)) | fail
  · cases fb
    · repeat' first
       | (apply z51 (id := 6) (ord := [0, 1, 2, 3, 4, 5, 6]) (ps := [(1, 5)]) <;> first | kernel_rfl | skip)
       | (apply z50 (id := 23) (ord := [0, 1, 2, 3, 4, 5, 6, 7]) <;> first | kernel_rfl | skip)
       | (refine zs ?_; repeat' first | apply zs0 | apply zs2 | (intro hc; try have hq := dq hc)) | fail
    · repeat' first
       | (apply z51 (id := 6) (ord := [0, 1, 2, 3, 4, 5, 6]) (ps := [(1, 5)]) <;> first | kernel_rfl | skip)
       | (apply z50 (id := 23) (ord := [0, 1, 2, 3, 4, 5, 6, 7]) <;> first | kernel_rfl | skip)
       | (refine zs ?_; repeat' first | apply zs0 | apply zs2 | (intro hc; try have hq := dq hc)) | fail

end Go.E
