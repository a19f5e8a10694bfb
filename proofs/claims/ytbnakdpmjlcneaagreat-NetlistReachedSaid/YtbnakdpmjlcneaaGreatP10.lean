/- Contracts of the package netlist, in E: what pairs are asked. Own work. -/
import Derived.Test.YtbnakdpmjlcneaaGreatP9
import Derived.Test.YtbnakdpmjlcneaaGreatP5
import Derived.Test.YtbnakdpmjlcneaaGreatP6
import Derived.Test.YtbnakdpmjlcneaaGreatP7
import Derived.Test.YtbnakdpmjlcneaaGreatP8
set_option linter.all false
namespace Go.E
open Go.Proofs
set_option maxRecDepth 100000
set_option maxHeartbeats 4000000

theorem half_w (i j : Nat) (hi : i ≤ 1000000) (hj : j ≤ 1000000) : IntKind.i64.wrap ((IntKind.u64.wrap (IntKind.i64.wrap ((i : Int) + j))).fdiv (2 ^ min 1 IntKind.u64.bits)) = (((i + j) / 2 : Nat) : Int) := by
  have h1 : IntKind.i64.wrap ((i : Int) + j) = ((i + j : Nat) : Int) := by rw [wrap64] <;> omega
  have h2 : IntKind.u64.wrap ((i + j : Nat) : Int) = ((i + j : Nat) : Int) := by
    simp [IntKind.wrap, IntKind.signed, IntKind.bits]
    omega
  have h3 : (2 : Int) ^ min 1 IntKind.u64.bits = 2 := by decide
  have h4 : ((i + j : Nat) : Int).fdiv 2 = (((i + j) / 2 : Nat) : Int) := by
    rw [Int.fdiv_eq_ediv_of_nonneg _ (by omega)]; omega
  rw [h1, h2, h3, h4, wrap64] <;> omega

theorem sl_bsearch (bs : List Nat) (H : Heap) (l : List NPair) (t : NPair) (cf : Nat) (c : Nat → Int) (hl : l.length ≤ 1000000) (hm : Mono c l.length) (hc : ∀ bs H (k : Nat) p, l[k]? = some p → callw X bs cf [encPair p, encPair t] H = some (.int .i64 (c k), H)) : callw X bs 114 [.list (l.map encPair), encPair t, .func cf []] H = some (.tuple [.int .i64 (part c l.length), .bool (decide (part c l.length < l.length) && decide (c (part c l.length) = 0))], H) := by
  refine call_at (rs := [.tmp 6, .tmp 7]) (N := 49) (fn := Tryz.f114) xk114 xf114 rfl rfl rfl (by simp only [seval, push_cast, List.map_cons, List.map_nil, V.norm, norm1]; rfl) ?_
  have key : ∀ (bs : List Nat) (s : Nat × Nat) ρ H', (s.1 ≤ s.2 ∧ s.2 ≤ l.length ∧ (∀ k, k < s.1 → c k < 0) ∧ (∀ k, s.2 ≤ k → k < l.length → ¬ c k < 0) ∧ H' = H ++ [.cells [encInts t.a, encInts t.b]] ∧ ρ 0 = .list (l.map encPair) ∧ ρ 2 = .func cf [] ∧ ρ 4 = .ptr H.length 0 ∧ ρ 9 = .int .i64 s.1 ∧ ρ 10 = .int .i64 s.2) →
      Lp X ⟨49, bs⟩ (loopAt Tryz.f114 0) ρ H' fun ex ρ' H' => H' = H ++ [.cells [encInts t.a, encInts t.b]] ∧ ex = .exit 0 ∧ ρ' 9 = .int .i64 (part c l.length) := by
    intro bs
    refine loop_wf (μ := fun s => s.2 - s.1) ?_
    rintro ⟨i, j⟩ ρ H' ⟨hij, hj, hlo, hhi, rfl, h0, h2, h4, h9, h10⟩
    simp only at hij hj hlo hhi h9 h10
    rcases Nat.lt_or_ge i j with hlt | hge
    · have d : decide ((i : Int) < (j : Int)) = true := decide_eq_true (by omega)
      have hh : (i + j) / 2 < l.length := by omega
      have hw := half_w i j (by omega) (by omega)
      have hi1 : i ≤ (i + j) / 2 := by omega
      have hj1 : (i + j) / 2 < j := by omega
      generalize (i + j) / 2 = m at hh hw hi1 hj1
      have hget : l[m]? = some l[m] := by simp [hh]
      have t1 := fun bs H => hc bs H m _ hget
      have hw2 := add1 m l.length hh hl
      generalize l[m] = p at hget t1
      simp only [encPair, encInts] at t1
      by_cases hn : c m < 0
      · have d2 : decide (c m < 0) = true := decide_eq_true hn
        have g : Kp (j - (m + 1) < j - i ∧ m + 1 ≤ j ∧ ∀ k, k < m + 1 → c k < 0) := ⟨by omega, by omega, fun k hk => by
          rcases Nat.lt_or_eq_of_le (Nat.le_of_lt_succ hk) with h | rfl
          · exact hm k m h hh hn
          · exact hn⟩
        replace hj : Kp _ := ⟨hj⟩
        replace hhi : Kp _ := ⟨hhi⟩
        generalize c m = cm at t1 d2
        clear hc hm hlo hij hlt hn hh hi1 hj1
        conv => arg 3; whnf
        repeat' first
         | (apply z50 (id := 5) (ord := [0, 1, 2, 3, 4, 5, 6, 7]) <;> first | kernel_rfl | skip)
         | (apply z50 (id := 8) (ord := [0, 1, 2, 3, 4, 5, 6, 7, 8, 9, 10, 11, 12, 13, 14, 15]) <;> first | kernel_rfl | skip)
         | (refine zs ?_; repeat' first | apply zs0 | apply zs2 | (intro hc; try have hq := dq hc)) | fail
        exact ⟨(m + 1, j), g.out.1, g.out.2.1, hj.out, g.out.2.2, hhi.out, rfl, by (simp only [seval, push_cast, *] <;> rfl), by (simp only [seval, push_cast, *] <;> rfl), by (simp only [seval, push_cast, *] <;> rfl), by (simp only [seval, push_cast, *] <;> rfl), by (simp only [seval, push_cast, *] <;> rfl)⟩
      · have d2 : decide (c m < 0) = false := decide_eq_false hn
        have g : Kp (m - i < j - i ∧ i ≤ m ∧ m ≤ l.length ∧ ∀ k, m ≤ k → k < l.length → ¬ c k < 0) := ⟨by omega, by omega, by omega, fun k hk hk2 => by
          rcases Nat.lt_or_eq_of_le hk with h | rfl
          · exact fun h2 => hn (hm m k h hk2 h2)
          · exact hn⟩
        replace hlo : Kp _ := ⟨hlo⟩
        generalize c m = cm at t1 d2
        clear hc hm hhi hij hlt hn hh hi1 hj1 hj
        conv => arg 3; whnf
        repeat' first
         | (apply z50 (id := 5) (ord := [0, 1, 2, 3, 4, 5, 6, 7]) <;> first | kernel_rfl | skip)
         | (apply z50 (id := 8) (ord := [0, 1, 2, 3, 4, 5, 6, 7, 8, 9, 10, 11, 12, 13, 14, 15]) <;> first | kernel_rfl | skip)
         | (refine zs ?_; repeat' first | apply zs0 | apply zs2 | (intro hc; try have hq := dq hc)) | fail
        exact ⟨(i, m), g.out.1, g.out.2.1, g.out.2.2.1, hlo.out, g.out.2.2.2, rfl, by (simp only [seval, push_cast, *] <;> rfl), by (simp only [seval, push_cast, *] <;> rfl), by (simp only [seval, push_cast, *] <;> rfl), by (simp only [seval, push_cast, *] <;> rfl), by (simp only [seval, push_cast, *] <;> rfl)⟩
    · obtain rfl : i = j := by omega
      have d : decide ((i : Int) < (i : Int)) = false := decide_eq_false (by omega)
      have g : Kp (part c l.length = i) := ⟨part_is hj hlo hhi⟩
      clear hc hm hlo hhi hij hge hj
      conv => arg 3; whnf
      repeat' first
       | (apply z50 (id := 5) (ord := [0, 1, 2, 3, 4, 5, 6, 7]) <;> first | kernel_rfl | skip)
       | (apply z50 (id := 8) (ord := [0, 1, 2, 3, 4, 5, 6, 7, 8, 9, 10, 11, 12, 13, 14, 15]) <;> first | kernel_rfl | skip)
       | (refine zs ?_; repeat' first | apply zs0 | apply zs2 | (intro hc; try have hq := dq hc)) | fail
      exact ⟨rfl, rfl, by rw [g.out]; (simp only [seval, push_cast, *] <;> rfl)⟩
  have hpl := part_le c l.length
  have k1 := fun bs ρ => key bs (0, l.length) ρ (H ++ [.cells [encInts t.a, encInts t.b]])
  clear key
  rcases Nat.lt_or_ge (part c l.length) l.length with hlt | hge
  · have hget : l[part c l.length]? = some l[part c l.length] := by simp [hlt]
    have t1 := fun bs H => hc bs H (part c l.length) _ hget
    generalize l[part c l.length] = p at hget t1
    simp only [encPair, encInts] at t1
    have d : decide ((part c l.length : Int) < (l.length : Int)) = true := decide_eq_true (by omega)
    rw [decide_eq_true hlt, Bool.true_and]
    have g1 : Kp (0 ≤ l.length ∧ l.length ≤ l.length ∧ (∀ k, k < 0 → c k < 0) ∧ (∀ k, l.length ≤ k → k < l.length → ¬ c k < 0)) := ⟨by omega, by omega, fun k h => by omega, fun k h1 h2 => by omega⟩
    replace k1 : ∀ bs ρ, _ := fun bs ρ => fun h => k1 bs ρ ⟨g1.out.1, g1.out.2.1, g1.out.2.2.1, g1.out.2.2.2, h⟩
    generalize c (part c l.length) = cm at t1 ⊢
    clear hc hm hlt hpl g1
    generalize part c l.length = m at k1 hget d ⊢
    repeat' first
     | (apply z50 (id := 5) (ord := [0, 1, 2, 3, 4, 5, 6, 7]) <;> first | kernel_rfl | skip)
     | (apply z50 (id := 8) (ord := [0, 1, 2, 3, 4, 5, 6, 7, 8, 9, 10, 11, 12, 13, 14, 15]) <;> first | kernel_rfl | skip)
     | (refine zs ?_; repeat' first | apply zs0 | apply zs2 | (intro hc; try have hq := dq hc)) | fail
    refine lp_then (lp_any (c := loopAt Tryz.f114 0) rfl (k1 _ _ ⟨rfl, by (simp only [seval, push_cast, *] <;> rfl), by (simp only [seval, push_cast, *] <;> rfl), by (simp only [seval, push_cast, *] <;> rfl), by (simp only [seval, push_cast, *] <;> rfl), by (simp only [seval, push_cast, *] <;> rfl)⟩)) ?_
    clear k1
    rintro ex ρ' H' ⟨rfl, rfl, h9⟩ hf
    have f0 := hf 0 rfl
    have f2 := hf 2 rfl
    have f4 := hf 4 rfl
    have f8 := hf 8 rfl
    simp only [seval, push_cast] at f0 f2 f4 f8
    clear hf
    repeat' first
     | (apply z50 (id := 5) (ord := [0, 1, 2, 3, 4, 5, 6, 7]) <;> first | kernel_rfl | skip)
     | (apply z50 (id := 8) (ord := [0, 1, 2, 3, 4, 5, 6, 7, 8, 9, 10, 11, 12, 13, 14, 15]) <;> first | kernel_rfl | skip)
     | (refine zs ?_; repeat' first | apply zs0 | apply zs2 | (intro hc; try have hq := dq hc)) | fail
  · have d : decide ((part c l.length : Int) < (l.length : Int)) = false := decide_eq_false (by omega)
    rw [decide_eq_false (by omega), Bool.false_and]
    have g1 : Kp (0 ≤ l.length ∧ l.length ≤ l.length ∧ (∀ k, k < 0 → c k < 0) ∧ (∀ k, l.length ≤ k → k < l.length → ¬ c k < 0)) := ⟨by omega, by omega, fun k h => by omega, fun k h1 h2 => by omega⟩
    replace k1 : ∀ bs ρ, _ := fun bs ρ => fun h => k1 bs ρ ⟨g1.out.1, g1.out.2.1, g1.out.2.2.1, g1.out.2.2.2, h⟩
    clear hc hm hge hpl g1
    generalize part c l.length = m at k1 d ⊢
    repeat' first
     | (apply z50 (id := 5) (ord := [0, 1, 2, 3, 4, 5, 6, 7]) <;> first | kernel_rfl | skip)
     | (apply z50 (id := 8) (ord := [0, 1, 2, 3, 4, 5, 6, 7, 8, 9, 10, 11, 12, 13, 14, 15]) <;> first | kernel_rfl | skip)
     | (refine zs ?_; repeat' first | apply zs0 | apply zs2 | (intro hc; try have hq := dq hc)) | fail
    refine lp_then (lp_any (c := loopAt Tryz.f114 0) rfl (k1 _ _ ⟨rfl, by (simp only [seval, push_cast, *] <;> rfl), by (simp only [seval, push_cast, *] <;> rfl), by (simp only [seval, push_cast, *] <;> rfl), by (simp only [seval, push_cast, *] <;> rfl), by (simp only [seval, push_cast, *] <;> rfl)⟩)) ?_
    clear k1
    rintro ex ρ' H' ⟨rfl, rfl, h9⟩ hf
    have f0 := hf 0 rfl
    have f2 := hf 2 rfl
    have f4 := hf 4 rfl
    have f8 := hf 8 rfl
    simp only [seval, push_cast] at f0 f2 f4 f8
    clear hf
    repeat' first
     | (apply z50 (id := 5) (ord := [0, 1, 2, 3, 4, 5, 6, 7]) <;> first | kernel_rfl | skip)
     | (apply z50 (id := 8) (ord := [0, 1, 2, 3, 4, 5, 6, 7, 8, 9, 10, 11, 12, 13, 14, 15]) <;> first | kernel_rfl | skip)
     | (refine zs ?_; repeat' first | apply zs0 | apply zs2 | (intro hc; try have hq := dq hc)) | fail

theorem pairAt_get {l : List NPair} {k : Nat} {p : NPair} (h : l[k]? = some p) : pairAt l k = p := by simp [pairAt, h]

theorem nl_cs1 (bs : List Nat) (H : Heap) (a b : Netl) (l : List NPair) (i : Nat) (p : NPair) (cp cl : Nat) (hSa : Small a) (hSb : Small b) (hka : NetOk a) (hkb : NetOk b) (hi : i < l.length) (hll : l.length ≤ 1000) (hpl : ∀ x ∈ l, PLen x) (hp : PLen p) (hA : H[cp]? = some (.cells (cellsNetl a ++ cellsNetl b))) (hL : H[cl]? = some (.cells [.list (l.map encPair)])) : callw X bs 111 [.int .i64 i, encPair p, .ptr cp 0, .ptr cl 0] H = some (.int .i64 (ordErrS a b l i p), H) := by
  refine call_at (rs := [.tmp 6]) (N := 33) (fn := Tryz.f111) xk111 xf111 rfl rfl rfl (by simp only [seval, push_cast, List.map_cons, List.map_nil, V.norm, norm1]; rfl) ?_
  have t1 := fun bs H => nl_stateErr bs H a p.a hSa.inputs hSa.regs hp.a (fun w hw => by have := rgW_1 hka w hw; omega)
  have t2 := fun bs H => nl_stateErr bs H b p.b hSb.inputs hSb.regs hp.b (fun w hw => by have := rgW_1 hkb w hw; omega)
  simp only [encNetl, cellsNetl] at t1 t2
  unfold ordErrS
  generalize stErrS a p.a = s1 at t1 ⊢
  generalize stErrS b p.b = s2 at t2 ⊢
  have hA2 := get_app hA
  have hL2 := get_app hL
  simp only [cellsNetl] at hA2
  cases i with
  | zero =>
    rw [if_pos (.inl rfl)]
    clear hSa hSb hka hkb hpl hp hA hL hi
    repeat' first
     | (apply z51 (id := 1) (ord := [0, 1, 2, 3, 5, 6, 7, 8, 10, 11, 4, 9, 12, 13, 14, 15, 16, 17, 18, 19, 20, 21, 22, 23, 24, 25, 26]) (ps := [(5, 10), (7, 10)]) <;> first | kernel_rfl | skip)
     | (refine zs ?_; repeat' first | apply zs0 | apply zs2 | (intro hc; try have hq := dq hc)) | fail
  | succ k =>
    have hget : l[k]? = some (l[k]'(by omega)) := by simp [show k < l.length by omega]
    have hx := hpl _ (List.mem_of_getElem? hget)
    rw [show k + 1 - 1 = k from rfl, pairAt_get hget]
    have t3 := fun bs H => nl_compare bs H (l[k]'(by omega)) p hx hp
    have hlt := cmpP_lt (l[k]'(by omega)) p
    generalize (l[k]'(by omega)) = q at hget t3 hlt ⊢
    simp only [encPair, encInts] at t3
    have hs : IntKind.i64.wrap ((k : Int) + 1 - 1) = (k : Int) := by rw [wrap64] <;> omega
    have hmx : (if (0 : Int) < (k : Int) then (k : Int) else 0) = (k : Int) := by split <;> omega
    have d0 : decide ((k : Int) + 1 = 0) = false := decide_eq_false (by omega)
    generalize cmpP q p = c at t3 hlt
    cases hb : befP q p with
    | true =>
      have d1 : decide (c < 0) = true := decide_eq_true (hlt.2 hb)
      rw [if_pos (.inr rfl)]
      clear hSa hSb hka hkb hpl hp hA hL hi hlt hb hx
      repeat' first
       | (apply z51 (id := 1) (ord := [0, 1, 2, 3, 5, 6, 7, 8, 10, 11, 4, 9, 12, 13, 14, 15, 16, 17, 18, 19, 20, 21, 22, 23, 24, 25, 26]) (ps := [(5, 10), (7, 10)]) <;> first | kernel_rfl | skip)
       | (refine zs ?_; repeat' first | apply zs0 | apply zs2 | (intro hc; try have hq := dq hc)) | fail
    | false =>
      have d1 : decide (c < 0) = false := decide_eq_false (fun h => by rw [hlt.1 h] at hb; cases hb)
      rw [if_neg (by simp)]
      clear hSa hSb hka hkb hpl hp hA hL hi hlt hb hx
      repeat' first
       | (apply z51 (id := 1) (ord := [0, 1, 2, 3, 5, 6, 7, 8, 10, 11, 4, 9, 12, 13, 14, 15, 16, 17, 18, 19, 20, 21, 22, 23, 24, 25, 26]) (ps := [(5, 10), (7, 10)]) <;> first | kernel_rfl | skip)
       | (refine zs ?_; repeat' first | apply zs0 | apply zs2 | (intro hc; try have hq := dq hc)) | fail

theorem nl_has (bs : List Nat) (H : Heap) (l : List NPair) (t : NPair) (cl : Nat) (hll : l.length ≤ 1000) (hpl : ∀ x ∈ l, PLen x) (ht : PLen t) (hs : ∀ (i j : Nat) p q, i < j → l[i]? = some p → l[j]? = some q → befP p q = true) (hL : H[cl]? = some (.cells [.list (l.map encPair)])) : callw X bs 113 [encPair t, .ptr cl 0] H = some (.bool (decide (t ∈ l)), H) := by
  refine call_at (rs := [.tmp 3]) (N := 13) (fn := Tryz.f113) xk113 xf113 rfl rfl rfl (by simp only [seval, push_cast, List.map_cons, List.map_nil, V.norm, norm1]; rfl) ?_
  obtain ⟨hm, he⟩ := part_found hs t (fun k => cmpP (pairAt l k) t) (fun k p h => by rw [pairAt_get h])
  have t1 := fun bs H => sl_bsearch bs H l t 112 (fun k => cmpP (pairAt l k) t) (by omega) hm (fun bs H k p h => by rw [pairAt_get h]; exact nl_compare bs H p t (hpl p (List.mem_of_getElem? h)) ht)
  rw [he] at t1
  simp only [encPair, encInts] at t1
  generalize decide (t ∈ l) = r at t1 ⊢
  generalize part (fun k => cmpP (pairAt l k) t) l.length = m at t1
  have hL2 := get_app hL
  clear hs hm he hpl ht
  all_goals try (refine zs ?_; repeat' first | apply zs0 | apply zs2 | (intro hc; try have hq := dq hc))

theorem plen_next {a b : Netl} {p : NPair} {x : List Int} (ha : a.regs.length ≤ 1000) (hb : b.regs.length ≤ 1000) : PLen (nextP a b p x) := ⟨by simp only [nextP, nextS_len]; omega, by simp only [nextP, nextS_len]; omega⟩

theorem nl_cs3 (bs : List Nat) (H : Heap) (a b : Netl) (ins : List (List Int)) (l : List NPair) (i : Int) (p : NPair) (ci cp cf cl : Nat) (hra : a.regs.length ≤ 1000) (hrb : b.regs.length ≤ 1000) (hin : ins.length ≤ 1000) (hck : ∀ x ∈ ins, CkOk a x p.a ∧ CkOk b x p.b) (hll : l.length ≤ 1000) (hpl : ∀ x ∈ l, PLen x) (hs : ∀ (i j : Nat) p q, i < j → l[i]? = some p → l[j]? = some q → befP p q = true) (hI : H[ci]? = some (.cells [.list (ins.map encInts)])) (hA : H[cp]? = some (.cells (cellsNetl a ++ cellsNetl b))) (hF : H[cf]? = some (.cells [.func 113 [.ptr cl 0]])) (hL : H[cl]? = some (.cells [.list (l.map encPair)])) : callw X bs 116 [.int .i64 i, encPair p, .ptr ci 0, .ptr cp 0, .ptr cf 0] H = some (.int .i64 (clErrS a b ins l 0 p), H) := by
  refine call_at (rs := [.tmp 7]) (N := 38) (fn := Tryz.f116) xk116 xf116 rfl rfl rfl (by simp only [seval, push_cast, List.map_cons, List.map_nil, V.norm, norm1]; rfl) ?_
  have key : ∀ (R : Int) (bs : List Nat) k ρ H', k ≤ ins.length → (∃ J, H' = H ++ .cells [encInts p.a, encInts p.b] :: J ∧ ρ 3 = .ptr cp 0 ∧ ρ 4 = .ptr cf 0 ∧ ρ 6 = .ptr H.length 0 ∧ ρ 13 = .list (ins.map encInts) ∧ ρ 14 = .int .i64 ins.length ∧ ρ 15 = .int .i64 k ∧ Kp ((eachP (fun _ x => oneErrS a b l p x) k (ins.drop k)).2 = R)) →
      Lp X ⟨38, bs⟩ (loopAt Tryz.f116 0) ρ H' fun ex ρ' H' => (∃ J, H' = H ++ .cells [encInts p.a, encInts p.b] :: J) ∧ ((ex = .exit 0 ∧ R = 0) ∨ (ex = .ret ∧ ρ' 7 = .int .i64 R)) := by
    intro R bs
    refine loop_up ?_ ?_
    · rintro k ρ H' hk ⟨J, rfl, h3, h4, h6, h13, h14, h15, hR⟩
      have hget : ins[k]? = some ins[k] := by simp [hk]
      have hx := hck ins[k] (List.getElem_mem hk)
      generalize ins[k] = x at hget hx
      have hw := add1 k ins.length hk (by omega)
      have t1 := fun bs H => nl_cclock bs H a b x p hx.1 hx.2
      have t2 := fun bs J => nl_has bs (H ++ J) l (nextP a b p x) cl hll hpl (plen_next hra hrb) hs (get_app hL J)
      replace hR := hR.out
      rw [drop_cons hget, eachP] at hR
      simp only [encCouple, cellsNetl, encPair, encInts, List.cons_append, List.nil_append] at t1 t2
      unfold oneErrS at hR
      have hA2 := get_app hA
      have hF2 := get_app hF
      simp only [cellsNetl] at hA2
      clear hx hck hpl hs hA hF hL hI
      by_cases e1 : (stepN a x p.a).1 = (stepN b x p.b).1
      · by_cases e2 : nextP a b p x ∈ l
        · rw [decide_eq_true e1] at t1
          rw [decide_eq_true e2] at t2
          simp only [e1, e2, if_true, ne_eq, not_true_eq_false, if_false] at hR
          clear e1 e2
          generalize nextP a b p x = y at t1 t2
          replace hR := Kp.mk hR
          conv => arg 3; whnf
          repeat' first
           | (apply z51 (id := 5) (ord := [0, 2, 3, 1, 4, 5, 6, 7, 8]) (ps := [(1, 3), (2, 3)]) <;> first | kernel_rfl | skip)
           | (refine zs ?_; repeat' first | apply zs0 | apply zs2 | (intro hc; try have hq := dq hc)) | fail
          exact ⟨_, by first | rfl | (simp only [List.append_assoc, List.cons_append]; rfl), by (simp only [seval, push_cast, *] <;> rfl), by (simp only [seval, push_cast, *] <;> rfl), by (simp only [seval, push_cast, *] <;> rfl), by (simp only [seval, push_cast, *] <;> rfl), by (simp only [seval, push_cast, *] <;> rfl), by (simp only [seval, push_cast, *] <;> rfl), hR⟩
        · rw [decide_eq_true e1] at t1
          rw [decide_eq_false e2] at t2
          simp only [e1, e2, if_true, if_false, ne_eq] at hR
          rw [if_pos (by decide)] at hR
          clear e1 e2
          generalize nextP a b p x = y at t1 t2
          replace hR := Kp.mk hR
          conv => arg 3; whnf
          repeat' first
           | (apply z51 (id := 5) (ord := [0, 2, 3, 1, 4, 5, 6, 7, 8]) (ps := [(1, 3), (2, 3)]) <;> first | kernel_rfl | skip)
           | (refine zs ?_; repeat' first | apply zs0 | apply zs2 | (intro hc; try have hq := dq hc)) | fail
          exact ⟨⟨_, by first | rfl | (simp only [List.append_assoc, List.cons_append]; rfl)⟩, .inr ⟨rfl, by rw [← hR.out]; (simp only [seval, push_cast, *] <;> rfl)⟩⟩
      · rw [decide_eq_false e1] at t1
        simp only [e1, if_false, ne_eq] at hR
        rw [if_pos (by decide)] at hR
        generalize decide (nextP a b p x ∈ l) = c at t2
        clear e1
        generalize nextP a b p x = y at t1 t2
        replace hR := Kp.mk hR
        conv => arg 3; whnf
        repeat' first
         | (apply z51 (id := 5) (ord := [0, 2, 3, 1, 4, 5, 6, 7, 8]) (ps := [(1, 3), (2, 3)]) <;> first | kernel_rfl | skip)
         | (refine zs ?_; repeat' first | apply zs0 | apply zs2 | (intro hc; try have hq := dq hc)) | fail
        exact ⟨⟨_, by first | rfl | (simp only [List.append_assoc, List.cons_append]; rfl)⟩, .inr ⟨rfl, by rw [← hR.out]; (simp only [seval, push_cast, *] <;> rfl)⟩⟩
    · rintro ρ H' ⟨J, rfl, h3, h4, h6, h13, h14, h15, hR⟩
      replace hR := hR.out
      rw [List.drop_length] at hR
      replace hR : Kp (0 = R) := ⟨hR⟩
      clear hck hpl hs hA hF hL hI
      conv => arg 3; whnf
      repeat' first
       | (apply z51 (id := 5) (ord := [0, 2, 3, 1, 4, 5, 6, 7, 8]) (ps := [(1, 3), (2, 3)]) <;> first | kernel_rfl | skip)
       | (refine zs ?_; repeat' first | apply zs0 | apply zs2 | (intro hc; try have hq := dq hc)) | fail
      exact ⟨⟨_, rfl⟩, .inl ⟨rfl, hR.out.symm⟩⟩
  unfold clErrS
  have k1 := fun bs ρ => key (eachP (fun _ x => oneErrS a b l p x) 0 ins).2 bs 0 ρ (H ++ [.cells [encInts p.a, encInts p.b]]) (by omega)
  have e0 : Kp ((eachP (fun _ x => oneErrS a b l p x) 0 (ins.drop 0)).2 = (eachP (fun _ x => oneErrS a b l p x) 0 ins).2) := ⟨by rw [List.drop_zero]⟩
  have hI2 := get_app hI
  clear key hck hpl hs hA hF hL
  generalize (eachP (fun _ x => oneErrS a b l p x) 0 ins).2 = R at k1 e0 ⊢
  repeat' first
   | (apply z51 (id := 5) (ord := [0, 2, 3, 1, 4, 5, 6, 7, 8]) (ps := [(1, 3), (2, 3)]) <;> first | kernel_rfl | skip)
   | (refine zs ?_; repeat' first | apply zs0 | apply zs2 | (intro hc; try have hq := dq hc)) | fail
  refine lp_then (lp_any (c := loopAt Tryz.f116 0) rfl (k1 _ _ ⟨[], rfl, by (simp only [seval, push_cast, *] <;> rfl), by (simp only [seval, push_cast, *] <;> rfl), by (simp only [seval, push_cast, *] <;> rfl), by (simp only [seval, push_cast, *] <;> rfl), by (simp only [seval, push_cast, *] <;> rfl), by (simp only [seval, push_cast, *] <;> rfl), e0⟩)) ?_
  clear k1
  rintro ex ρ' H' ⟨⟨J, rfl⟩, ⟨rfl, rfl⟩ | ⟨rfl, h2⟩⟩ hf
  · clear hf
    repeat' first
     | (apply z51 (id := 5) (ord := [0, 2, 3, 1, 4, 5, 6, 7, 8]) (ps := [(1, 3), (2, 3)]) <;> first | kernel_rfl | skip)
     | (refine zs ?_; repeat' first | apply zs0 | apply zs2 | (intro hc; try have hq := dq hc)) | fail
  · clear hf
    repeat' first
     | (apply z51 (id := 5) (ord := [0, 2, 3, 1, 4, 5, 6, 7, 8]) (ps := [(1, 3), (2, 3)]) <;> first | kernel_rfl | skip)
     | (refine zs ?_; repeat' first | apply zs0 | apply zs2 | (intro hc; try have hq := dq hc)) | fail

end Go.E
/- Plain law of chapter 22: which netlists are valid. Own work. -/
namespace Go.E

theorem has_add (s t : ByteArray) : ∀ ns : List ByteArray, hasName s (addName t ns) = (decide (s = t) || hasName s ns)
  | [] => by simp [addName, hasName]
  | u :: r => by
    simp only [addName]
    by_cases h : t = u
    · subst h
      simp [hasName]
    · rw [if_neg h]
      simp only [hasName, has_add s t r]
      cases decide (s = u) <;> cases decide (s = t) <;> rfl

/-- each over names that are to be new: as the reference tells it. -/
theorem each_names {α : Type} (nm : α → ByteArray) (g : Nat → α → List ByteArray → Int × List ByteArray) (e : α → Int) (before : ByteArray → Bool)
    (hg : ∀ i x ns, g i x ns = (firstL [nameErr ns (nm x), e x], addName (nm x) ns)) (full : List α) (f : Nat → α → Int)
    (hf : ∀ i x, full[i]? = some x → f i x = if isNameS (nm x) = false then 4 else if ((full.take i).any (fun q => decide (nm q = nm x)) || before (nm x)) = true then 5 else e x) :
    ∀ (rest : List α) (i : Nat) (ns : List ByteArray), full.drop i = rest → (∀ s, hasName s ns = ((full.take i).any (fun q => decide (nm q = s)) || before s)) →
      (eachL g i rest ns).1 = eachP f i rest ∧ ((eachP f i rest).2 = 0 → ∀ s, hasName s (eachL g i rest ns).2 = (full.any (fun q => decide (nm q = s)) || before s))
  | [], i, ns, hd, hn => by
    refine ⟨rfl, fun _ s => ?_⟩
    have : full.take i = full := List.take_of_length_le (by simpa using hd)
    simp only [eachL, hn, this]
  | x :: r, i, ns, hd, hn => by
    have hget : full[i]? = some x := by
      have := congrArg List.head? hd
      simpa [List.head?_drop] using this
    have he : (g i x ns).1 = f i x := by
      rw [hg, hf i x hget]
      simp only [firstL, nameErr, hn]
      cases h1 : isNameS (nm x) <;> cases h2 : ((full.take i).any (fun q => decide (nm q = nm x)) || before (nm x)) <;> simp <;> exact fun h => h.symm
    have hs : (g i x ns).2 = addName (nm x) ns := by rw [hg]
    simp only [eachL, eachP, he, hs]
    by_cases h0 : f i x = 0
    · rw [if_neg (by simpa using h0), if_neg (by simpa using h0)]
      refine each_names nm g e before hg full f hf r (i + 1) _ ?_ (fun s => ?_)
      · rw [← List.drop_drop, hd]; rfl
      · rw [has_add, hn, List.take_add_one, hget]
        simp only [Option.toList_some, List.any_append, List.any_cons, List.any_nil, Bool.or_false]
        have : decide (s = nm x) = decide (nm x = s) := by simp only [decide_eq_decide]; exact eq_comm
        rw [this]
        cases decide (nm x = s) <;> cases (full.take i).any (fun q => decide (nm q = s)) <;> rfl
    · rw [if_pos h0, if_pos h0]
      exact ⟨rfl, fun h => absurd h h0⟩

theorem eachP_zero {α : Type} (g : Nat → α → Int) : ∀ (l : List α) (i : Nat), (eachP g i l).2 = 0 → eachP g i l = (0, 0)
  | [], _, _ => rfl
  | x :: r, i, h => by
    simp only [eachP] at h ⊢
    split at h
    · rename_i h0; exact absurd h h0
    · rename_i h0; rw [if_neg h0]; exact eachP_zero g r (i + 1) h

theorem ports_same (l : List Port) : (eachL portErrS 0 l []).1 = eachP (portErrR l) 0 l ∧ ((eachP (portErrR l) 0 l).2 = 0 → ∀ s, hasName s (eachL portErrS 0 l []).2 = l.any (fun q => decide (q.name = s))) := by
  have := each_names (fun p : Port => p.name) portErrS (fun p => if isW p.width = true then 0 else 2) (fun _ => false) (fun _ _ _ => rfl) l (portErrR l)
    (fun i x _ => by unfold portErrR; cases isW x.width <;> simp) l 0 [] rfl (fun s => rfl)
  simpa using this

theorem outs_same (n : Netl) : (eachL (outErrS n) 0 n.outs []).1 = eachP (outErrR n.nodes n.outs) 0 n.outs := by
  have := (each_names (fun p : Outp => p.name) (outErrS n) (fun p => if isNodeN n p.node = true then 0 else 9) (fun _ => false) (fun _ _ _ => rfl) n.outs (outErrR n.nodes n.outs)
    (fun i x _ => by unfold outErrR; rw [show isNodeN n x.node = isNodeL n.nodes x.node from rfl]; cases isNodeL n.nodes x.node <;> simp) n.outs 0 [] rfl (fun s => rfl)).1
  exact this

theorem regs_same (n : Netl) (ns : List ByteArray) (h : ∀ s, hasName s ns = n.inputs.any (fun q => decide (q.name = s))) : (eachL regErrS 0 n.regs ns).1 = eachP (regErrR n) 0 n.regs := by
  have := (each_names (fun p : Reg => p.name) regErrS (fun r => if (isW r.width && fitsN r.init r.width) = true then 0 else 2) (fun s => n.inputs.any (fun q => decide (q.name = s))) (fun _ _ _ => rfl) n.regs (regErrR n)
    (fun i x _ => by
      unfold regErrR
      cases (isW x.width && fitsN x.init x.width) <;> cases (n.regs.take i).any (fun q => decide (q.name = x.name)) <;> cases n.inputs.any (fun q => decide (q.name = x.name)) <;> simp) n.regs 0 ns rfl (fun s => by simp [h])).1
  exact this

theorem isW_all (n : Netl) (h1 : (eachP (portErrR n.inputs) 0 n.inputs).2 = 0) (h2 : (eachP (regErrR n) 0 n.regs).2 = 0) : (eachP (fun _ n => if isW n = true then (0 : Int) else 2) 0 (leavesN n)) = (0, 0) := by
  have key : ∀ {α : Type} (f : Nat → α → Int) (l : List α) (i : Nat), (eachP f i l).2 = 0 → ∀ j x, l[j]? = some x → f (i + j) x = 0 := by
    intro α f l
    induction l with
    | nil => intro i _ j x h; simp at h
    | cons y l ih =>
      intro i h j x hx
      simp only [eachP] at h
      split at h
      · rename_i h0; exact absurd h h0
      · rename_i h0
        cases j with
        | zero => simp at hx; subst hx; simpa using h0
        | succ j => have := ih (i + 1) h j x (by simpa using hx); rwa [show i + 1 + j = i + (j + 1) by omega] at this
  have key2 : ∀ (l : List Int) (i : Nat), (∀ w ∈ l, isW w = true) → eachP (fun _ n => if isW n = true then (0 : Int) else 2) i l = (0, 0) := by
    intro l
    induction l with
    | nil => intro i _; rfl
    | cons y l ih => intro i h; simp only [eachP, h y (by simp)]; simp; exact ih _ fun w hw => h w (by simp [hw])
  refine key2 _ _ fun w hw => ?_
  simp only [leavesN, List.mem_append, List.mem_map] at hw
  rcases hw with ⟨p, hp, rfl⟩ | ⟨r, hr, rfl⟩
  · obtain ⟨j, hj⟩ := List.getElem?_of_mem hp
    have := key _ _ _ h1 j p hj
    unfold portErrR at this
    cases hh : isW p.width with
    | true => rfl
    | false => rw [hh] at this; split at this <;> (try split at this) <;> simp_all
  · obtain ⟨j, hj⟩ := List.getElem?_of_mem hr
    have := key _ _ _ h2 j r hj
    unfold regErrR at this
    cases hh : isW r.width with
    | true => rfl
    | false => rw [hh] at this; split at this <;> (try split at this) <;> (try split at this) <;> simp_all

/-- P22.1: the program's answer is the reference's. -/
theorem checkNet_same (n : Netl) : checkNetS n = netErrR n := by
  unfold checkNetS netErrR
  obtain ⟨hp1, hp2⟩ := ports_same n.inputs
  have ho := outs_same n
  cases hN : isNameS n.name with
  | false => simp [firstP, firstL]
  | true =>
  simp only [firstP, firstL, hp1, ho, portsErrR]
  by_cases h12 : (n.inputs.length : Int) ≤ 12
  case neg => simp [h12, show 12 < n.inputs.length by omega]
  have h12' : ¬ 12 < n.inputs.length := by omega
  by_cases hP : (eachP (portErrR n.inputs) 0 n.inputs).2 = 0
  case neg => simp [h12, h12', hP]
  have hr := regs_same n _ (hp2 hP)
  by_cases h40 : (n.inputs.length : Int) + n.regs.length ≤ 40
  case neg => simp [h12, h12', hP, h40, show 40 < n.inputs.length + n.regs.length by omega]
  have h40' : ¬ 40 < n.inputs.length + n.regs.length := by omega
  by_cases hR : (eachP (regErrR n) 0 n.regs).2 = 0
  case neg => simp [h12, h12', hP, h40, h40', hr, hR]
  have hW := isW_all n hP hR
  have hC : checkNodesS (leavesN n) n.nodes = nodesErrR (leavesN n) n.nodes := by
    unfold checkNodesS nodesErrR
    rw [if_neg (by simp [leavesN]; omega), hW]
    simp
  by_cases hM : (nodesErrR (leavesN n) n.nodes).2 = 0
  case neg => simp [h12, h12', hP, h40, h40', hr, hR, hC, hM]
  by_cases hM2 : (eachP (regErr2S n) 0 n.regs).2 = 0
  case neg => simp [h12, h12', hP, h40, h40', hr, hR, hC, hM, hM2]
  by_cases h13 : (n.outs.length : Int) ≤ 12
  case neg => simp [h12, h12', hP, h40, h40', hr, hR, hC, hM, hM2, h13, outsErrR, show 12 < n.outs.length by omega]
  simp only [h12, h12', hP, h40, h40', hr, hR, hC, hM, hM2, h13, outsErrR, show ¬ 12 < n.outs.length by omega]
  by_cases hO : (eachP (outErrR n.nodes n.outs) 0 n.outs).2 = 0
  · simp [eachP_zero _ _ _ hO, hP]
  · simp [hP, hO]
end Go.E
/- Contracts of the package netlist, in E: two netlists, and which pairs are a proof. Own work. -/
namespace Go.E
open Go.Proofs
set_option maxRecDepth 100000
set_option maxHeartbeats 4000000

theorem outNode {n : Netl} (hk : NetOk n) {o : Outp} (h : o ∈ n.outs) : 0 ≤ o.node ∧ o.node < n.nodes.length := hk.outs o h
def zeroCouple : V := .agg [.str ⟨#[]⟩, .nilS, .nilS, .nilS, .nilS, .str ⟨#[]⟩, .nilS, .nilS, .nilS, .nilS]

theorem nl_ob_err (bs : List Nat) (H : Heap) (a b : Netl) (ins : List (List Int)) (hSa : Small a) (hSb : Small b) (he : ¬ ((checkNetS a).2 = 0 ∧ (checkNetS b).2 = 0)) : callw X bs 109 [encNetl a, encNetl b, .list (ins.map encInts)] H = some (.tuple [zeroCouple, .int .i64 (if (checkNetS a).2 ≠ 0 then (checkNetS a).2 else (checkNetS b).2)], H) := by
  refine call_at (rs := [.cell 6 145, .tmp 7]) (N := 54) (fn := Tryz.f109) xk109 xf109 rfl rfl rfl (by simp only [seval, push_cast, List.map_cons, List.map_nil, V.norm, norm1]; rfl) ?_
  have h1 := fun bs H => nl_open bs H a hSa
  have h2 := fun bs H => nl_open bs H b hSb
  simp only [encNetl, cellsNetl] at h1 h2
  unfold zeroCouple
  generalize (checkNetS a).2 = ca at h1 he ⊢
  generalize (checkNetS b).2 = cb at h2 he ⊢
  clear hSa hSb
  by_cases h0 : ca = 0
  · have hb : ¬ cb = 0 := fun h => he ⟨h0, h⟩
    subst h0
    rw [if_neg (by simp)]
    clear he
    repeat' first
     | (apply z51 (id := 7) (ord := [0, 1, 2, 3, 5, 6, 4, 7, 8, 9, 10, 11]) (ps := [(0, 6), (0, 7), (0, 9), (1, 6), (1, 7), (1, 9), (4, 6)]) <;> first | kernel_rfl | skip)
     | (refine zs ?_; repeat' first | apply zs0 | apply zs2 | (intro hc; try have hq := dq hc)) | fail
  · rw [if_pos h0]
    clear he
    repeat' first
     | (apply z51 (id := 7) (ord := [0, 1, 2, 3, 5, 6, 4, 7, 8, 9, 10, 11]) (ps := [(0, 6), (0, 7), (0, 9), (1, 6), (1, 7), (1, 9), (4, 6)]) <;> first | kernel_rfl | skip)
     | (refine zs ?_; repeat' first | apply zs0 | apply zs2 | (intro hc; try have hq := dq hc)) | fail

theorem nl_ob_ok (bs : List Nat) (H : Heap) (a b : Netl) (ins : List (List Int)) (hSa : Small a) (hSb : Small b) (ha : (checkNetS a).2 = 0) (hb : (checkNetS b).2 = 0) (hin : ins.length ≤ 1000) (hll : ∀ x ∈ ins, x.length ≤ 100000) : callw X bs 109 [encNetl a, encNetl b, .list (ins.map encInts)] H = some (.tuple [encCouple a b, .int .i64 (firstL [if clashS a b = true then 0 else 13, listsErrS a ins])], H) := by
  refine call_at (rs := [.cell 6 145, .tmp 7]) (N := 54) (fn := Tryz.f109) xk109 xf109 rfl rfl rfl (by simp only [seval, push_cast, List.map_cons, List.map_nil, V.norm, norm1]; rfl) ?_
  have hka := net_ok ha
  have hkb := net_ok hb
  have h1 := fun bs H => nl_open bs H a hSa
  have h2 := fun bs H => nl_open bs H b hSb
  have t1 := fun bs H => sl_eqPorts bs H a.inputs b.inputs (by have := hSa.inputs; omega) (by have := hSb.inputs; omega)
  have t2 := fun (bs : List Nat) (x : HObj) (J : List HObj) => sl_eqOuts bs (H ++ .cells (cellsNetl a) :: .cells (cellsNetl b) :: x :: J) 157 [.ptr H.length 0, .ptr (H.length + 1) 0] (outAs a b) a.outs b.outs (by have := hSa.outs; omega) (by have := hSb.outs; omega)
    (fun bs J p q hp hq => nl_ob1 bs _ a b p q H.length (H.length + 1) (by simp) (by simp) (outNode hka hp) (outNode hkb hq))
  have t3 := fun bs H => nl_listsErr bs H a ins hSa hka hin hll
  rw [ha] at h1
  rw [hb] at h2
  unfold clashS
  simp only [encNetl, cellsNetl] at h1 h2 t2 t3
  generalize decide (a.inputs = b.inputs) = c at t1 ⊢
  generalize eqF (outAs a b) a.outs b.outs = d at t2 ⊢
  generalize listsErrS a ins = e at t3 ⊢
  clear hSa hSb ha hb hka hkb hin hll
  cases c with
  | true =>
    rw [Bool.true_and]
    repeat' first
     | (apply z51 (id := 7) (ord := [0, 1, 2, 3, 5, 6, 4, 7, 8, 9, 10, 11]) (ps := [(0, 6), (0, 7), (0, 9), (1, 6), (1, 7), (1, 9), (4, 6)]) <;> first | kernel_rfl | skip)
     | (refine zs ?_; repeat' first | apply zs0 | apply zs2 | (intro hc; try have hq := dq hc)) | fail
  | false =>
    rw [Bool.false_and]
    repeat' first
     | (apply z51 (id := 7) (ord := [0, 1, 2, 3, 5, 6, 4, 7, 8, 9, 10, 11]) (ps := [(0, 6), (0, 7), (0, 9), (1, 6), (1, 7), (1, 9), (4, 6)]) <;> first | kernel_rfl | skip)
     | (refine zs ?_; repeat' first | apply zs0 | apply zs2 | (intro hc; try have hq := dq hc)) | fail

theorem clash_in {a b : Netl} (h : clashS a b = true) (x : List Int) : inErrS b x = inErrS a x := by
  unfold clashS at h
  rw [Bool.and_eq_true] at h
  unfold inErrS
  rw [of_decide_eq_true h.1]
theorem lists_in {a : Netl} {ins : List (List Int)} (h : listsErrS a ins = 0) : ∀ x ∈ ins, inErrS a x = 0 := fun x hx => by
  unfold listsErrS at h
  split at h
  · cases h
  split at h
  · cases h
  obtain ⟨k, hk⟩ := List.getElem?_of_mem hx
  exact eachP_ok _ ins 0 h k x hk
theorem ck_of {n : Netl} (hS : Small n) (hk : NetOk n) {x st : List Int} (h1 : inErrS n x = 0) (h2 : stErrS n st = 0) : CkOk n x st := ⟨hS, hk, leafOk_of hk h1 (regOk_of hk h2), (regOk_of hk h2).1⟩
def sameErrS (a b : Netl) (ins : List (List Int)) (l : List NPair) : Int × Int := if bothErrS a b ins ≠ 0 then (0, bothErrS a b ins) else pairsErrS a b ins l
theorem both_bad {a b : Netl} {ins : List (List Int)} (he : ¬ ((checkNetS a).2 = 0 ∧ (checkNetS b).2 = 0)) : bothErrS a b ins = (if (checkNetS a).2 ≠ 0 then (checkNetS a).2 else (checkNetS b).2) ∧ bothErrS a b ins ≠ 0 := by
  unfold bothErrS twoErrS
  by_cases h0 : (checkNetS a).2 = 0
  · have hb : (checkNetS b).2 ≠ 0 := fun h => he ⟨h0, h⟩
    simp [h0, hb]
  · simp [h0]
theorem both_good {a b : Netl} {ins : List (List Int)} (ha : (checkNetS a).2 = 0) (hb : (checkNetS b).2 = 0) : bothErrS a b ins = firstL [if clashS a b = true then 0 else 13, listsErrS a ins] := by
  unfold bothErrS twoErrS
  cases clashS a b <;> simp [ha, hb, firstL] <;> intro h <;> exact h.symm
theorem both_ok {a b : Netl} {ins : List (List Int)} (h : bothErrS a b ins = 0) : (checkNetS a).2 = 0 ∧ (checkNetS b).2 = 0 ∧ clashS a b = true ∧ listsErrS a ins = 0 := by
  by_cases he : (checkNetS a).2 = 0 ∧ (checkNetS b).2 = 0
  case neg => exact absurd h (both_bad he).2
  refine ⟨he.1, he.2, ?_⟩
  rw [both_good he.1 he.2] at h
  cases hc : clashS a b with
  | false => rw [hc] at h; simp [firstL] at h
  | true =>
    rw [hc] at h
    simp only [firstL, if_true, ne_eq, not_true_eq_false, if_false] at h
    refine ⟨rfl, ?_⟩
    split at h
    · exact h
    · rename_i g; simpa using g

theorem nl_checkSame (bs : List Nat) (H : Heap) (a b : Netl) (ins : List (List Int)) (l : List NPair) (hSa : Small a) (hSb : Small b) (hin : ins.length ≤ 1000) (hil : ∀ x ∈ ins, x.length ≤ 100000) (hll : l.length ≤ 1000) (hpl : ∀ x ∈ l, PLen x) : callw X bs 38 [encNetl a, encNetl b, .list (ins.map encInts), .list (l.map encPair)] H = some (.tuple [.int .i64 (sameErrS a b ins l).1, .int .i64 (sameErrS a b ins l).2], H) := by
  refine call_at (rs := [.tmp 8, .tmp 9]) (N := 53) (fn := Tryz.f38) xk38 xf38 rfl rfl rfl (by simp only [seval, push_cast, List.map_cons, List.map_nil, V.norm, norm1]; rfl) ?_
  unfold sameErrS
  by_cases he : (checkNetS a).2 = 0 ∧ (checkNetS b).2 = 0
  case neg =>
    have t1 := fun bs H => nl_ob_err bs H a b ins hSa hSb he
    obtain ⟨e1, e2⟩ := both_bad (ins := ins) he
    rw [← e1] at t1
    rw [if_pos e2]
    simp only [encNetl, cellsNetl, zeroCouple] at t1
    generalize bothErrS a b ins = c at t1 e2 ⊢
    clear he e1 hSa hSb hil hpl hin
    by_cases h3 : l.length ≤ 300
    · have d : decide ((l.length : Int) ≤ 300) = true := decide_eq_true (by omega)
      clear h3
      repeat' first
       | (apply z51 (id := 9) (ord := [0, 1, 2, 3, 4]) (ps := [(0, 2)]) <;> first | kernel_rfl | skip)
       | (refine zs ?_; repeat' first | apply zs0 | apply zs2 | (intro hc; try have hq := dq hc)) | fail
    · have d : decide ((l.length : Int) ≤ 300) = false := decide_eq_false (by omega)
      clear h3
      repeat' first
       | (apply z51 (id := 9) (ord := [0, 1, 2, 3, 4]) (ps := [(0, 2)]) <;> first | kernel_rfl | skip)
       | (refine zs ?_; repeat' first | apply zs0 | apply zs2 | (intro hc; try have hq := dq hc)) | fail
  have t1 := fun bs H => nl_ob_ok bs H a b ins hSa hSb he.1 he.2 hin hil
  rw [← both_good he.1 he.2] at t1
  by_cases e0 : bothErrS a b ins = 0
  case neg =>
    rw [if_pos e0]
    simp only [encNetl, encCouple, cellsNetl, List.cons_append, List.nil_append] at t1
    generalize bothErrS a b ins = c at t1 e0 ⊢
    clear he hSa hSb hil hpl hin
    by_cases h3 : l.length ≤ 300
    · have d : decide ((l.length : Int) ≤ 300) = true := decide_eq_true (by omega)
      clear h3
      repeat' first
       | (apply z51 (id := 9) (ord := [0, 1, 2, 3, 4]) (ps := [(0, 2)]) <;> first | kernel_rfl | skip)
       | (refine zs ?_; repeat' first | apply zs0 | apply zs2 | (intro hc; try have hq := dq hc)) | fail
    · have d : decide ((l.length : Int) ≤ 300) = false := decide_eq_false (by omega)
      clear h3
      repeat' first
       | (apply z51 (id := 9) (ord := [0, 1, 2, 3, 4]) (ps := [(0, 2)]) <;> first | kernel_rfl | skip)
       | (refine zs ?_; repeat' first | apply zs0 | apply zs2 | (intro hc; try have hq := dq hc)) | fail
  obtain ⟨_, _, hcl, hli⟩ := both_ok e0
  have hka := net_ok he.1
  have hkb := net_ok he.2
  have hra := hSa.regs
  have hrb := hSb.regs
  rw [if_neg (by simpa using e0)]
  rw [e0] at t1
  unfold pairsErrS
  by_cases h3 : 300 < l.length
  · have d : decide ((l.length : Int) ≤ 300) = false := decide_eq_false (by omega)
    rw [if_pos h3]
    simp only [encNetl, encCouple, cellsNetl, List.cons_append, List.nil_append] at t1
    clear he hSa hSb hil hpl hin h3 hka hkb hcl hli e0
    repeat' first
     | (apply z51 (id := 9) (ord := [0, 1, 2, 3, 4]) (ps := [(0, 2)]) <;> first | kernel_rfl | skip)
     | (refine zs ?_; repeat' first | apply zs0 | apply zs2 | (intro hc; try have hq := dq hc)) | fail
  rw [if_neg h3]
  have d : decide ((l.length : Int) ≤ 300) = true := decide_eq_true (by omega)
  have u1 := fun (bs : List Nat) (J : List HObj) => netlist_each_NPair_p bs (H ++ HObj.cells (cellsNetl a) :: HObj.cells (cellsNetl b) :: HObj.cells [.list (ins.map encInts)] :: HObj.cells [.list (l.map encPair)] :: HObj.cells (cellsNetl a ++ cellsNetl b) :: J) 111 [.ptr (H.length + 4) 0, .ptr (H.length + 3) 0] (ordErrS a b l) l (by omega)
    (fun bs i x junk hx => nl_cs1 bs _ a b l i x (H.length + 4) (H.length + 3) hSa hSb hka hkb (List.getElem?_eq_some_iff.1 hx).1 hll hpl (hpl x (List.mem_of_getElem? hx)) (by simp) (by simp))
  by_cases hz : (eachP (ordErrS a b l) 0 l).2 = 0
  case neg =>
    rw [if_pos hz]
    simp only [encNetl, encCouple, cellsNetl, List.cons_append, List.nil_append] at t1 u1
    generalize eachP (ordErrS a b l) 0 l = r at u1 hz ⊢
    clear he hSa hSb hil hpl hin h3 hka hkb hcl hli e0
    repeat' first
     | (apply z51 (id := 9) (ord := [0, 1, 2, 3, 4]) (ps := [(0, 2)]) <;> first | kernel_rfl | skip)
     | (refine zs ?_; repeat' first | apply zs0 | apply zs2 | (intro hc; try have hq := dq hc)) | fail
  rw [if_neg (by simpa using hz)]
  have hsort := ord_sorted hz
  have hok := ord_ok hz
  have u2 := fun bs H => nl_creset bs H a b hra hrb
  have hpr : PLen (resetP a b) := ⟨by simp only [resetP, List.length_map]; omega, by simp only [resetP, List.length_map]; omega⟩
  have u3 := fun (bs : List Nat) (J : List HObj) => nl_has bs (H ++ HObj.cells (cellsNetl a) :: HObj.cells (cellsNetl b) :: HObj.cells [.list (ins.map encInts)] :: HObj.cells [.list (l.map encPair)] :: HObj.cells (cellsNetl a ++ cellsNetl b) :: J) l (resetP a b) (H.length + 3) hll hpl hpr hsort (by simp)
  have u4 := fun (bs : List Nat) (J : List HObj) => netlist_each_NPair_p bs (H ++ HObj.cells (cellsNetl a) :: HObj.cells (cellsNetl b) :: HObj.cells [.list (ins.map encInts)] :: HObj.cells [.list (l.map encPair)] :: HObj.cells (cellsNetl a ++ cellsNetl b) :: HObj.cells [.func 113 [.ptr (H.length + 3) 0]] :: J) 116 [.ptr (H.length + 2) 0, .ptr (H.length + 4) 0, .ptr (H.length + 5) 0] (clErrS a b ins l) l (by omega)
    (fun bs i x junk hx => nl_cs3 bs _ a b ins l i x (H.length + 2) (H.length + 4) (H.length + 5) (H.length + 3) hra hrb hin
      (fun y hy => ⟨ck_of hSa hka (lists_in hli y hy) (hok x (List.mem_of_getElem? hx)).1, ck_of hSb hkb (by rw [clash_in hcl]; exact lists_in hli y hy) (hok x (List.mem_of_getElem? hx)).2⟩) hll hpl hsort (by simp) (by simp) (by simp) (by simp))
  have hz2 : (eachP (ordErrS a b l) 0 l) = (0, 0) := eachP_zero _ l 0 hz
  rw [hz2] at u1
  simp only [encNetl, encCouple, cellsNetl, encPair, encInts, List.cons_append, List.nil_append] at t1 u1 u2 u3 u4
  generalize eachP (clErrS a b ins l) 0 l = r at u4 ⊢
  by_cases hm : resetP a b ∈ l
  · rw [if_pos hm]
    rw [decide_eq_true hm] at u3
    generalize resetP a b = p at u2 u3
    clear he hSa hSb hil hpl hin h3 hka hkb hcl hli e0 hz hsort hok hpr hz2 hm
    repeat' first
     | (apply z51 (id := 9) (ord := [0, 1, 2, 3, 4]) (ps := [(0, 2)]) <;> first | kernel_rfl | skip)
     | (refine zs ?_; repeat' first | apply zs0 | apply zs2 | (intro hc; try have hq := dq hc)) | fail
  · rw [if_neg hm]
    rw [decide_eq_false hm] at u3
    generalize resetP a b = p at u2 u3
    clear he hSa hSb hil hpl hin h3 hka hkb hcl hli e0 hz hsort hok hpr hz2 hm u4
    repeat' first
     | (apply z51 (id := 9) (ord := [0, 1, 2, 3, 4]) (ps := [(0, 2)]) <;> first | kernel_rfl | skip)
     | (refine zs ?_; repeat' first | apply zs0 | apply zs2 | (intro hc; try have hq := dq hc)) | fail

end Go.E
/- Contracts of the package netlist, in E: all reached states, put in order. Own work. -/
namespace Go.E
open Go.Proofs
set_option maxRecDepth 100000
set_option maxHeartbeats 4000000
theorem rb_out (n : Netl) (H : Heap) (a0 a1 : HObj) (ins : List (List Int)) (hS : Small n) (hk : NetOk n) (hin : ins.length ≤ 1000) (hok : ∀ x ∈ ins, inErrS n x = 0) : ∀ (R : Option (List (List Int))) (bs : List Nat) (p : List (List Int) × Nat) ρ H',
      (∃ ver J, H' = H ++ a0 :: a1 :: .cells (cellsNetl n) :: .arr (p.1.map encInts) ver :: J ∧ p.1.length ≤ 300 ∧ (∀ x ∈ p.1, RegOk n x) ∧ p.2 ≤ p.1.length ∧ 0 < p.1.length ∧ ρ 1 = .list (ins.map encInts) ∧ ρ 6 = .ptr (H.length + 2) 0 ∧ ρ 8 = .ref 1 (H.length + 3) ver 0 p.1.length ∧ ρ 9 = .int .i64 p.2 ∧ Kp (reachGo n ins (302 - p.2) p.2 p.1 = R)) →
      Lp X ⟨66, bs⟩ (loopAt Tryz.f43 0) ρ H' fun ex ρ' H' => ∃ l ver J, H' = H ++ a0 :: a1 :: .cells (cellsNetl n) :: .arr (l.map encInts) ver :: J ∧ ((ex = .exit 0 ∧ R = some l ∧ l.length ≤ 300 ∧ 0 < l.length ∧ (∀ x ∈ l, RegOk n x) ∧ ρ' 8 = .ref 1 (H.length + 3) ver 0 l.length) ∨ (ex = .ret ∧ R = none ∧ (∃ t, ρ' 4 = .tl t []) ∧ ρ' 5 = .int .i64 16)) := by
  intro R bs
  have kin := fun s i hs => rb_in n H a0 a1 ins s i hS hk hin hok hs
  refine loop_wf (μ := fun s => 301 - s.2) ?_
  rintro ⟨l, i⟩ ρ H' ⟨ver, J, rfl, hl3, hlr, hil, hl0, h1, h6, h8, h9, hR⟩
  simp only at hl3 hlr hil hl0 h8 h9 hR
  replace hR := hR.out
  rw [show 302 - i = (301 - i) + 1 by omega, reachGo] at hR
  rcases Nat.lt_or_ge i l.length with hlt | hge
  · have d : decide ((i : Int) < (l.length : Int)) = true := decide_eq_true (by omega)
    have hls : l[i]? = some l[i] := by simp [hlt]
    have hs := hlr l[i] (List.getElem_mem hlt)
    rw [hls] at hR
    simp only at hR
    generalize l[i] = s at hls hs hR
    have hw := add1 i l.length hlt (by omega)
    have k1 := fun bs ρ => kin s i hs (reachIn n s ins l) bs 0 ρ (H ++ a0 :: a1 :: .cells (cellsNetl n) :: .arr (l.map encInts) ver :: J) (by omega)
    have e0 : Kp (reachIn n s (ins.drop 0) l = reachIn n s ins l) := ⟨by rw [List.drop_zero]⟩
    have hlen : Kp (∀ m, reachIn n s ins l = some m → i + 1 ≤ m.length) := ⟨fun m hm => by
      obtain ⟨_, t, ht⟩ := reachIn_len hm hl3
      rw [ht, List.length_append]; omega⟩
    have hmu : Kp (301 - (i + 1) < 301 - i ∧ 301 - i = 302 - (i + 1)) := ⟨by omega, by omega⟩
    replace hR := Kp.mk hR
    generalize reachIn n s ins l = r at k1 e0 hlen hR
    have g3 := Kp.mk hl3
    replace hlr := Kp.mk hlr
    simp only [cellsNetl] at k1 ⊢
    clear kin hok hl3 hs hil hk hS hl0 hlt
    conv => arg 3; whnf
    repeat' first
     | (apply z51 (id := 13) (ord := [0, 1, 2, 3, 4, 5, 10, 6, 7, 8, 9, 11, 12]) (ps := [(6, 7)]) <;> first | kernel_rfl | skip)
     | (refine zs ?_; repeat' first | apply zs0 | apply zs2 | (intro hc; try have hq := dq hc)) | fail
    refine lp_then (lp_any (c := loopAt Tryz.f43 1) rfl (k1 _ _ ⟨l, ver, J, rfl, g3.out, hlr.out, hls, by (simp only [seval, push_cast, *] <;> rfl), by (simp only [seval, push_cast, *] <;> rfl), by (simp only [seval, push_cast, *] <;> rfl), by (simp only [seval, push_cast, *] <;> rfl), by (simp only [seval, push_cast, *] <;> rfl), by (simp only [seval, push_cast, *] <;> rfl), e0⟩)) ?_
    clear k1 h6 h8 h9
    rintro ex ρ' H' ⟨l2, ver2, J2, rfl, ⟨rfl, rfl, g1, g2, q6, q8, q9⟩ | ⟨rfl, rfl, ⟨t, q4⟩, q5⟩⟩ hf
    · have hl2 := Kp.mk (hlen.out l2 rfl)
      replace g1 := Kp.mk g1
      replace g2 := Kp.mk g2
      have q1 : ρ' 1 = .list (ins.map encInts) := (hf 1 rfl).trans (by (simp only [seval, push_cast, *] <;> rfl))
      clear hlen hls e0 g3 hlr hf
      repeat' first
       | (apply z51 (id := 13) (ord := [0, 1, 2, 3, 4, 5, 10, 6, 7, 8, 9, 11, 12]) (ps := [(6, 7)]) <;> first | kernel_rfl | skip)
       | (refine zs ?_; repeat' first | apply zs0 | apply zs2 | (intro hc; try have hq := dq hc)) | fail
      exact ⟨(l2, i + 1), hmu.out.1, ver2, J2, rfl, g1.out, g2.out, hl2.out, by have := hl2.out; show 0 < l2.length; omega, by (simp only [seval, push_cast, *] <;> rfl), by (simp only [seval, push_cast, *] <;> rfl), by (simp only [seval, push_cast, *] <;> rfl), by (simp only [seval, push_cast, *] <;> rfl), ⟨by rw [← hmu.out.2]; exact hR.out⟩⟩
    · clear hlen hls e0 g3 hlr hf
      have hR2 : R = none := hR.out.symm
      clear hR
      repeat' first
       | (apply z51 (id := 13) (ord := [0, 1, 2, 3, 4, 5, 10, 6, 7, 8, 9, 11, 12]) (ps := [(6, 7)]) <;> first | kernel_rfl | skip)
       | (refine zs ?_; repeat' first | apply zs0 | apply zs2 | (intro hc; try have hq := dq hc)) | fail
      exact ⟨l2, ver2, J2, rfl, .inr ⟨rfl, hR2, ⟨t, by (simp only [seval, push_cast, *] <;> rfl)⟩, by (simp only [seval, push_cast, *] <;> rfl)⟩⟩
  · have d : decide ((i : Int) < (l.length : Int)) = false := decide_eq_false (by omega)
    rw [show l[i]? = none from List.getElem?_eq_none hge] at hR
    simp only at hR
    replace hR := Kp.mk hR
    have g3 := Kp.mk hl3
    have g4 := Kp.mk hl0
    replace hlr := Kp.mk hlr
    simp only [cellsNetl]
    clear kin hok hl3 hil hk hS hge hl0
    conv => arg 3; whnf
    repeat' first
     | (apply z51 (id := 13) (ord := [0, 1, 2, 3, 4, 5, 10, 6, 7, 8, 9, 11, 12]) (ps := [(6, 7)]) <;> first | kernel_rfl | skip)
     | (refine zs ?_; repeat' first | apply zs0 | apply zs2 | (intro hc; try have hq := dq hc)) | fail
    exact ⟨l, ver, J, rfl, .inl ⟨rfl, hR.out.symm, g3.out, g4.out, hlr.out, by (simp only [seval, push_cast, *] <;> rfl)⟩⟩

def reachedS (n : Netl) (ins : List (List Int)) : List (List Int) × Int :=
  if (checkNetS n).2 ≠ 0 then ([], (checkNetS n).2) else if listsErrS n ins ≠ 0 then ([], listsErrS n ins) else match reachGo n ins 302 0 [resetN n] with
    | none => ([], 16)
    | some l => (sortL l, 0)
theorem nl_rb_bad (bs : List Nat) (H : Heap) (n : Netl) (ins : List (List Int)) (hS : Small n) (he : ¬ (checkNetS n).2 = 0) : callw X bs 43 [encNetl n, .list (ins.map encInts)] H = some (.tuple [.list [], .int .i64 (checkNetS n).2], H) := by
  refine call_at (rs := [.tmp 4, .tmp 5]) (N := 66) (fn := Tryz.f43) xk43 xf43 rfl rfl rfl (by simp only [seval, push_cast, List.map_cons, List.map_nil, V.norm, norm1]; rfl) ?_
  have h1 := fun bs H => nl_open bs H n hS
  simp only [encNetl, cellsNetl] at h1
  generalize (checkNetS n).2 = c at h1 he ⊢
  clear hS
  repeat' first
   | (apply z51 (id := 13) (ord := [0, 1, 2, 3, 4, 5, 10, 6, 7, 8, 9, 11, 12]) (ps := [(6, 7)]) <;> first | kernel_rfl | skip)
   | (refine zs ?_; repeat' first | apply zs0 | apply zs2 | (intro hc; try have hq := dq hc)) | fail

theorem nl_rb_lists (bs : List Nat) (H : Heap) (n : Netl) (ins : List (List Int)) (hS : Small n) (hk : NetOk n) (hin : ins.length ≤ 1000) (hll : ∀ x ∈ ins, x.length ≤ 100000) (h0 : (checkNetS n).2 = 0) (he : ¬ listsErrS n ins = 0) : callw X bs 43 [encNetl n, .list (ins.map encInts)] H = some (.tuple [.list [], .int .i64 (listsErrS n ins)], H) := by
  refine call_at (rs := [.tmp 4, .tmp 5]) (N := 66) (fn := Tryz.f43) xk43 xf43 rfl rfl rfl (by simp only [seval, push_cast, List.map_cons, List.map_nil, V.norm, norm1]; rfl) ?_
  have h1 := fun bs H => nl_open bs H n hS
  have h2 := fun bs H => nl_listsErr bs H n ins hS hk hin hll
  simp only [encNetl, cellsNetl] at h1 h2
  rw [h0] at h1
  generalize listsErrS n ins = c at h2 he ⊢
  clear hS hk hin hll h0
  repeat' first
   | (apply z51 (id := 13) (ord := [0, 1, 2, 3, 4, 5, 10, 6, 7, 8, 9, 11, 12]) (ps := [(6, 7)]) <;> first | kernel_rfl | skip)
   | (refine zs ?_; repeat' first | apply zs0 | apply zs2 | (intro hc; try have hq := dq hc)) | fail

def rbV : Option (List (List Int)) → V
  | none => .tuple [.list [], .int .i64 16]
  | some l => .tuple [.list ((sortL l).map encInts), .int .i64 0]
theorem nl_rb_ok (bs : List Nat) (H : Heap) (n : Netl) (ins : List (List Int)) (hS : Small n) (hk : NetOk n) (hin : ins.length ≤ 1000) (hll : ∀ x ∈ ins, x.length ≤ 100000) (h0 : (checkNetS n).2 = 0) (he : listsErrS n ins = 0) : callw X bs 43 [encNetl n, .list (ins.map encInts)] H = some (rbV (reachGo n ins 302 0 [resetN n]), H) := by
  refine call_at (rs := [.tmp 4, .tmp 5]) (N := 66) (fn := Tryz.f43) xk43 xf43 rfl rfl rfl (by simp only [seval, push_cast, List.map_cons, List.map_nil, V.norm, norm1]; rfl) ?_
  have h1 := fun bs H => nl_open bs H n hS
  have h2 := fun bs H => nl_listsErr bs H n ins hS hk hin hll
  have h3 := fun bs H => nl_reset bs H n hS.regs
  have hr : RegOk n (resetN n) := regOk_reset hk
  have k1 := fun a0 a1 bs ρ J => rb_out n H a0 a1 ins hS hk hin (lists_in he) (reachGo n ins 302 0 [resetN n]) bs ([resetN n], 0) ρ (H ++ a0 :: a1 :: .cells (cellsNetl n) :: .arr ([resetN n].map encInts) 0 :: J)
  have e0 : Kp (reachGo n ins (302 - 0) 0 [resetN n] = reachGo n ins 302 0 [resetN n]) := ⟨rfl⟩
  have hr1 : Kp (∀ x ∈ [resetN n], RegOk n x) := ⟨fun x hx => by rw [List.mem_singleton] at hx; exact hx ▸ hr⟩
  have hreg : Kp (∀ l : List (List Int), l.length ≤ 300 → (∀ x ∈ l, RegOk n x) → ∀ x ∈ l, x.length ≤ 1000000) := ⟨fun l _ h x hx => by have := reg_len hS (h x hx); omega⟩
  simp only [encNetl, cellsNetl, encInts] at h1 h2 h3 k1
  rw [h0] at h1
  rw [he] at h2
  generalize reachGo n ins 302 0 [resetN n] = R at k1 e0 ⊢
  generalize resetN n = s at h3 k1 e0 hr1
  have r24 : 24 ≤ roomB := by unfold roomB; omega

  clear hS hk hin hll h0 he hr
  repeat' first
   | (apply z51 (id := 13) (ord := [0, 1, 2, 3, 4, 5, 10, 6, 7, 8, 9, 11, 12]) (ps := [(6, 7)]) <;> first | kernel_rfl | skip)
   | (refine zs ?_; repeat' first | apply zs0 | apply zs2 | (intro hc; try have hq := dq hc)) | fail
  refine lp_then (lp_any (c := loopAt Tryz.f43 0) rfl (k1 _ _ _ _ [] ⟨0, [], rfl, by simp, hr1.out, by simp, by simp, by (simp only [seval, push_cast, *] <;> rfl), by (simp only [seval, push_cast, *] <;> rfl), by (simp only [seval, push_cast, *] <;> rfl), by (simp only [seval, push_cast, *] <;> rfl), by first | exact e0 | exact ⟨trivial⟩⟩)) ?_
  clear k1 hr1 e0
  rintro ex ρ' H' ⟨l, ver, J, rfl, ⟨rfl, rfl, g1, g0, g2, q8⟩ | ⟨rfl, rfl, ⟨t, q4⟩, q5⟩⟩ hf
  · have kx := fun bs => kn_sort bs (H ++ .cells (cellsNetl n) :: .tok 0 :: .cells (cellsNetl n) :: .arr (l.map encInts) ver :: J) (H.length + 3) ver l (by simp) g0 (by omega) (hreg.out l g1 g2)
    have kl : (sortL l).length = l.length := sortL_len l
    have e1 : List.take l.length (List.map encInts (sortL l)) = List.map encInts (sortL l) := List.take_of_length_le (by simp [kl])
    have ep : V.pureL (List.map encInts (sortL l)) = true := pureL_encInts _
    simp only [cellsNetl] at kx
    simp only [rbV]
    generalize sortL l = m at kx kl e1 ep ⊢
    clear hf g0 g1 g2 hreg
    repeat' first
     | (apply z51 (id := 13) (ord := [0, 1, 2, 3, 4, 5, 10, 6, 7, 8, 9, 11, 12]) (ps := [(6, 7)]) <;> first | kernel_rfl | skip)
     | (refine zs ?_; repeat' first | apply zs0 | apply zs2 | (intro hc; try have hq := dq hc)) | fail
  · simp only [rbV]
    clear hf hreg
    repeat' first
     | (apply z51 (id := 13) (ord := [0, 1, 2, 3, 4, 5, 10, 6, 7, 8, 9, 11, 12]) (ps := [(6, 7)]) <;> first | kernel_rfl | skip)
     | (refine zs ?_; repeat' first | apply zs0 | apply zs2 | (intro hc; try have hq := dq hc)) | fail

end Go.E
/- Contracts of the references, in E: all reached states. Own work. -/
namespace Go.E
open Go.Proofs
set_option maxRecDepth 100000
set_option maxHeartbeats 4000000
section
variable (n : Netl) (H : Heap) (a1 : HObj)
theorem rf_in (ins : List (List Int)) (s : List Int) (i : Nat) (hS : Small n) (hk : NetOk n) (hin : ins.length ≤ 1000) (hok : ∀ x ∈ ins, inErrS n x = 0) (hs : RegOk n s) : ∀ (R : Option (List (List Int))) (bs : List Nat) j ρ H', j ≤ ins.length →
      (∃ l J, H' = H ++ .cells (cellsNetl n) :: a1 :: .tok l.length :: J ∧ l.length ≤ 300 ∧ (∀ x ∈ l, RegOk n x) ∧ l[i]? = some s ∧ ρ 1 = .list (ins.map encInts) ∧ ρ 2 = .ptr H.length 0 ∧ ρ 6 = .tl (H.length + 2) (l.map encInts) ∧ ρ 7 = .int .i64 i ∧ ρ 8 = .int .i64 j ∧ Kp (reachIn n s (ins.drop j) l = R)) →
      Lp X ⟨90, bs⟩ (loopAt Tryz.f44 1) ρ H' fun ex ρ' H' => ∃ l J, H' = H ++ .cells (cellsNetl n) :: a1 :: .tok l.length :: J ∧ ((ex = .exit 2 ∧ R = some l ∧ l.length ≤ 300 ∧ (∀ x ∈ l, RegOk n x) ∧ ρ' 1 = .list (ins.map encInts) ∧ ρ' 2 = .ptr H.length 0 ∧ ρ' 6 = .tl (H.length + 2) (l.map encInts) ∧ ρ' 7 = .int .i64 i) ∨ (ex = .ret ∧ R = none ∧ (∃ t, ρ' 4 = .tl t []) ∧ ρ' 5 = .bool false)) := by
  intro R bs
  refine loop_up ?_ ?_
  · rintro j ρ H' hj ⟨l, J, rfl, hl3, hlr, hls, h1, h2, h6, h7, h8, hR⟩
    have hget : ins[j]? = some ins[j] := by simp [hj]
    have hx := hok ins[j] (List.getElem_mem hj)
    replace hR := hR.out
    rw [drop_cons hget, reachIn] at hR
    generalize ins[j] = x at hget hx hR
    have t1 := fun bs H => bs_netStep bs H n x s hS hk (leafOk_of hk hx hs) hs.1
    have hnx := regOk_next hk hx hs
    have hnl := reg_len hS hnx
    generalize (stepN n x s).2 = nx at t1 hnx hnl hR
    generalize (stepN n x s).1 = o at t1
    have hw := add1 j ins.length hj (by omega)
    have t2 := fun bs H => rf_has bs H l nx (by omega) (fun y hy => by have := reg_len hS (hlr y hy); omega) (by omega)
    have hlt : j < ins.length := hj
    have hil : i < l.length := (List.getElem?_eq_some_iff.1 hls).1
    have dd : decide ((j : Int) < (ins.length : Int)) = true := decide_eq_true (by omega)
    clear hok hx hs
    by_cases hm : nx ∈ l
    · rw [if_pos hm] at hR
      rw [decide_eq_true hm] at t2
      replace hR := Kp.mk hR
      replace hlr := Kp.mk hlr
      have g3 := Kp.mk hl3
      simp only [encNetl, cellsNetl] at t1
      simp only [cellsNetl]
      clear hm hnx hj hl3
      conv => arg 3; whnf
      repeat' first
       | (apply z50 (id := 8) (ord := [0, 1, 2, 3, 4, 5, 6, 7, 8, 9, 10, 11, 12, 13, 14]) <;> first | kernel_rfl | skip)
       | (apply z50 (id := 18) (ord := [0, 1, 2, 3, 4, 5, 6, 7, 8, 9, 10, 11, 12, 13]) <;> first | kernel_rfl | skip)
       | (apply z50 (id := 20) (ord := [0, 1, 2, 3, 4, 5, 6, 7, 8, 9, 10, 11, 12, 13]) <;> first | kernel_rfl | skip)
       | (refine zs ?_; repeat' first | apply zs0 | apply zs2 | (intro hc; try have hq := dq hc)) | fail
      exact ⟨l, J, by (simp only [seval, push_cast, *] <;> rfl), g3.out, hlr.out, hls, by (simp only [seval, push_cast, *] <;> rfl), by (simp only [seval, push_cast, *] <;> rfl), by (simp only [seval, push_cast, *] <;> rfl), by (simp only [seval, push_cast, *] <;> rfl), by (simp only [seval, push_cast, *] <;> rfl), hR⟩
    · rw [if_neg hm] at hR
      rw [decide_eq_false hm] at t2
      simp only [encNetl, cellsNetl] at t1
      simp only [cellsNetl]
      by_cases hf : l.length = 300
      · rw [if_pos hf] at hR
        replace hR := Kp.mk hR
        have d : decide ((l.length : Int) = 300) = true := decide_eq_true (by omega)
        clear hm hnx hj hl3 hlr hf
        conv => arg 3; whnf
        repeat' first
         | (apply z50 (id := 8) (ord := [0, 1, 2, 3, 4, 5, 6, 7, 8, 9, 10, 11, 12, 13, 14]) <;> first | kernel_rfl | skip)
         | (apply z50 (id := 18) (ord := [0, 1, 2, 3, 4, 5, 6, 7, 8, 9, 10, 11, 12, 13]) <;> first | kernel_rfl | skip)
         | (apply z50 (id := 20) (ord := [0, 1, 2, 3, 4, 5, 6, 7, 8, 9, 10, 11, 12, 13]) <;> first | kernel_rfl | skip)
         | (refine zs ?_; repeat' first | apply zs0 | apply zs2 | (intro hc; try have hq := dq hc)) | fail
        exact ⟨l, J ++ [.tok 0], by first | rfl | simp, .inr ⟨rfl, hR.out.symm, ⟨_, by (simp only [seval, push_cast, *] <;> rfl)⟩, by (simp only [seval, push_cast, *] <;> rfl)⟩⟩
      · rw [if_neg hf] at hR
        replace hR := Kp.mk hR
        have d : decide ((l.length : Int) = 300) = false := decide_eq_false (by omega)
        have g3 : Kp ((l ++ [nx]).length ≤ 300 ∧ (∀ x ∈ l ++ [nx], RegOk n x) ∧ (l ++ [nx])[i]? = some s) := ⟨by simp; omega, fun y hy => by
          rcases List.mem_append.1 hy with h | h
          · exact hlr y h
          · rw [List.mem_singleton] at h; exact h ▸ hnx, by rw [List.getElem?_append_left hil]; exact hls⟩
        have e2 : (l.length + 1) * 24 ≤ roomB := by unfold roomB; omega
        have e3 : 24 ≤ roomB := by unfold roomB; omega
        clear hm hnx hj hlr hf
        conv => arg 3; whnf
        repeat' first
         | (apply z50 (id := 8) (ord := [0, 1, 2, 3, 4, 5, 6, 7, 8, 9, 10, 11, 12, 13, 14]) <;> first | kernel_rfl | skip)
         | (apply z50 (id := 18) (ord := [0, 1, 2, 3, 4, 5, 6, 7, 8, 9, 10, 11, 12, 13]) <;> first | kernel_rfl | skip)
         | (apply z50 (id := 20) (ord := [0, 1, 2, 3, 4, 5, 6, 7, 8, 9, 10, 11, 12, 13]) <;> first | kernel_rfl | skip)
         | (refine zs ?_; repeat' first | apply zs0 | apply zs2 | (intro hc; try have hq := dq hc)) | fail
        exact ⟨l ++ [nx], J ++ [.tok 1], by simp, g3.out.1, g3.out.2.1, g3.out.2.2, by (simp only [seval, push_cast, *] <;> rfl), by (simp only [seval, push_cast, *] <;> rfl), (by (simp only [seval, push_cast, *] <;> rfl) : _ = V.tl _ (List.map encInts l ++ [encInts nx])).trans (by simp), by (simp only [seval, push_cast, *] <;> rfl), by (simp only [seval, push_cast, *] <;> rfl), hR⟩
  · rintro ρ H' ⟨l, J, rfl, hl3, hlr, hls, h1, h2, h6, h7, h8, hR⟩
    replace hR := hR.out
    rw [List.drop_length, reachIn] at hR
    replace hR := Kp.mk hR
    have g3 := Kp.mk hl3
    replace hlr := Kp.mk hlr
    clear hl3 hok
    simp only [cellsNetl]
    conv => arg 3; whnf
    repeat' first
     | (apply z50 (id := 8) (ord := [0, 1, 2, 3, 4, 5, 6, 7, 8, 9, 10, 11, 12, 13, 14]) <;> first | kernel_rfl | skip)
     | (apply z50 (id := 18) (ord := [0, 1, 2, 3, 4, 5, 6, 7, 8, 9, 10, 11, 12, 13]) <;> first | kernel_rfl | skip)
     | (apply z50 (id := 20) (ord := [0, 1, 2, 3, 4, 5, 6, 7, 8, 9, 10, 11, 12, 13]) <;> first | kernel_rfl | skip)
     | (refine zs ?_; repeat' first | apply zs0 | apply zs2 | (intro hc; try have hq := dq hc)) | fail
    exact ⟨l, J, by (simp only [seval, push_cast, *] <;> rfl), .inl ⟨rfl, hR.out.symm, g3.out, hlr.out, by (simp only [seval, push_cast, *] <;> rfl), by (simp only [seval, push_cast, *] <;> rfl), by (simp only [seval, push_cast, *] <;> rfl), by (simp only [seval, push_cast, *] <;> rfl)⟩⟩
theorem rf_out (ins : List (List Int)) (hS : Small n) (hk : NetOk n) (hin : ins.length ≤ 1000) (hok : ∀ x ∈ ins, inErrS n x = 0) : ∀ (R : Option (List (List Int))) (bs : List Nat) (p : List (List Int) × Nat) ρ H',
      (∃ J, H' = H ++ .cells (cellsNetl n) :: a1 :: .tok p.1.length :: J ∧ p.1.length ≤ 300 ∧ (∀ x ∈ p.1, RegOk n x) ∧ p.2 ≤ p.1.length ∧ 0 < p.1.length ∧ ρ 1 = .list (ins.map encInts) ∧ ρ 2 = .ptr H.length 0 ∧ ρ 6 = .tl (H.length + 2) (p.1.map encInts) ∧ ρ 7 = .int .i64 p.2 ∧ Kp (reachGo n ins (302 - p.2) p.2 p.1 = R)) →
      Lp X ⟨90, bs⟩ (loopAt Tryz.f44 0) ρ H' fun ex ρ' H' => ∃ l J, H' = H ++ .cells (cellsNetl n) :: a1 :: .tok l.length :: J ∧ ((ex = .exit 0 ∧ R = some l ∧ l.length ≤ 300 ∧ 0 < l.length ∧ (∀ x ∈ l, RegOk n x) ∧ ρ' 6 = .tl (H.length + 2) (l.map encInts)) ∨ (ex = .ret ∧ R = none ∧ (∃ t, ρ' 4 = .tl t []) ∧ ρ' 5 = .bool false)) := by
  intro R bs
  have kin := fun s i hs => rf_in n H a1 ins s i hS hk hin hok hs
  refine loop_wf (μ := fun s => 301 - s.2) ?_
  rintro ⟨l, i⟩ ρ H' ⟨J, rfl, hl3, hlr, hil, hl0, h1, h2, h6, h7, hR⟩
  simp only at hl3 hlr hil hl0 h6 h7 hR
  replace hR := hR.out
  rw [show 302 - i = (301 - i) + 1 by omega, reachGo] at hR
  rcases Nat.lt_or_ge i l.length with hlt | hge
  · have d : decide ((i : Int) < (l.length : Int)) = true := decide_eq_true (by omega)
    have hls : l[i]? = some l[i] := by simp [hlt]
    have hs := hlr l[i] (List.getElem_mem hlt)
    rw [hls] at hR
    simp only at hR
    generalize l[i] = s at hls hs hR
    have hw := add1 i l.length hlt (by omega)
    have k1 := fun bs ρ => kin s i hs (reachIn n s ins l) bs 0 ρ (H ++ .cells (cellsNetl n) :: a1 :: .tok l.length :: J) (by omega)
    have e0 : Kp (reachIn n s (ins.drop 0) l = reachIn n s ins l) := ⟨by rw [List.drop_zero]⟩
    have hlen : Kp (∀ m, reachIn n s ins l = some m → i + 1 ≤ m.length) := ⟨fun m hm => by
      obtain ⟨_, t, ht⟩ := reachIn_len hm hl3
      rw [ht, List.length_append]; omega⟩
    have hmu : Kp (301 - (i + 1) < 301 - i ∧ 301 - i = 302 - (i + 1)) := ⟨by omega, by omega⟩
    replace hR := Kp.mk hR
    generalize reachIn n s ins l = r at k1 e0 hlen hR
    have g3 := Kp.mk hl3
    replace hlr := Kp.mk hlr
    simp only [cellsNetl] at k1 ⊢
    clear kin hok hl3 hs hil hk hS hl0 hlt
    conv => arg 3; whnf
    repeat' first
     | (apply z50 (id := 8) (ord := [0, 1, 2, 3, 4, 5, 6, 7, 8, 9, 10, 11, 12, 13, 14]) <;> first | kernel_rfl | skip)
     | (apply z50 (id := 18) (ord := [0, 1, 2, 3, 4, 5, 6, 7, 8, 9, 10, 11, 12, 13]) <;> first | kernel_rfl | skip)
     | (apply z50 (id := 20) (ord := [0, 1, 2, 3, 4, 5, 6, 7, 8, 9, 10, 11, 12, 13]) <;> first | kernel_rfl | skip)
     | (refine zs ?_; repeat' first | apply zs0 | apply zs2 | (intro hc; try have hq := dq hc)) | fail
    refine lp_then (lp_any (c := loopAt Tryz.f44 1) rfl (k1 _ _ ⟨l, J, rfl, g3.out, hlr.out, hls, by (simp only [seval, push_cast, *] <;> rfl), by (simp only [seval, push_cast, *] <;> rfl), by (simp only [seval, push_cast, *] <;> rfl), by (simp only [seval, push_cast, *] <;> rfl), by (simp only [seval, push_cast, *] <;> rfl), e0⟩)) ?_
    clear k1 h1 h2 h6 h7
    rintro ex ρ' H' ⟨l2, J2, rfl, ⟨rfl, rfl, g1, g2, q1, q2, q6, q7⟩ | ⟨rfl, rfl, ⟨t, q4⟩, q5⟩⟩ hf
    · have hl2 := Kp.mk (hlen.out l2 rfl)
      replace g1 := Kp.mk g1
      replace g2 := Kp.mk g2
      clear hlen hls e0 g3 hlr hf
      repeat' first
       | (apply z50 (id := 8) (ord := [0, 1, 2, 3, 4, 5, 6, 7, 8, 9, 10, 11, 12, 13, 14]) <;> first | kernel_rfl | skip)
       | (apply z50 (id := 18) (ord := [0, 1, 2, 3, 4, 5, 6, 7, 8, 9, 10, 11, 12, 13]) <;> first | kernel_rfl | skip)
       | (apply z50 (id := 20) (ord := [0, 1, 2, 3, 4, 5, 6, 7, 8, 9, 10, 11, 12, 13]) <;> first | kernel_rfl | skip)
       | (refine zs ?_; repeat' first | apply zs0 | apply zs2 | (intro hc; try have hq := dq hc)) | fail
      exact ⟨(l2, i + 1), hmu.out.1, J2, rfl, g1.out, g2.out, hl2.out, by have := hl2.out; show 0 < l2.length; omega, by (simp only [seval, push_cast, *] <;> rfl), by (simp only [seval, push_cast, *] <;> rfl), by (simp only [seval, push_cast, *] <;> rfl), by (simp only [seval, push_cast, *] <;> rfl), ⟨by rw [← hmu.out.2]; exact hR.out⟩⟩
    · clear hlen hls e0 g3 hlr hf
      have hR2 : R = none := hR.out.symm
      clear hR
      repeat' first
       | (apply z50 (id := 8) (ord := [0, 1, 2, 3, 4, 5, 6, 7, 8, 9, 10, 11, 12, 13, 14]) <;> first | kernel_rfl | skip)
       | (apply z50 (id := 18) (ord := [0, 1, 2, 3, 4, 5, 6, 7, 8, 9, 10, 11, 12, 13]) <;> first | kernel_rfl | skip)
       | (apply z50 (id := 20) (ord := [0, 1, 2, 3, 4, 5, 6, 7, 8, 9, 10, 11, 12, 13]) <;> first | kernel_rfl | skip)
       | (refine zs ?_; repeat' first | apply zs0 | apply zs2 | (intro hc; try have hq := dq hc)) | fail
      exact ⟨l2, J2, rfl, .inr ⟨rfl, hR2, ⟨t, by (simp only [seval, push_cast, *] <;> rfl)⟩, by (simp only [seval, push_cast, *] <;> rfl)⟩⟩
  · have d : decide ((i : Int) < (l.length : Int)) = false := decide_eq_false (by omega)
    rw [show l[i]? = none from List.getElem?_eq_none hge] at hR
    simp only at hR
    replace hR := Kp.mk hR
    have g3 := Kp.mk hl3
    have g4 := Kp.mk hl0
    replace hlr := Kp.mk hlr
    simp only [cellsNetl]
    clear kin hok hl3 hil hk hS hge hl0
    conv => arg 3; whnf
    repeat' first
     | (apply z50 (id := 8) (ord := [0, 1, 2, 3, 4, 5, 6, 7, 8, 9, 10, 11, 12, 13, 14]) <;> first | kernel_rfl | skip)
     | (apply z50 (id := 18) (ord := [0, 1, 2, 3, 4, 5, 6, 7, 8, 9, 10, 11, 12, 13]) <;> first | kernel_rfl | skip)
     | (apply z50 (id := 20) (ord := [0, 1, 2, 3, 4, 5, 6, 7, 8, 9, 10, 11, 12, 13]) <;> first | kernel_rfl | skip)
     | (refine zs ?_; repeat' first | apply zs0 | apply zs2 | (intro hc; try have hq := dq hc)) | fail
    exact ⟨l, J, rfl, .inl ⟨rfl, hR.out.symm, g3.out, g4.out, hlr.out, by (simp only [seval, push_cast, *] <;> rfl)⟩⟩
end
end Go.E
/- Contracts of the references, in E: reached states put in order. Own work. -/
namespace Go.E
open Go.Proofs
set_option maxRecDepth 100000
set_option maxHeartbeats 4000000
theorem rf_pos0 (HH : Heap) : ∀ (bs : List Nat) (u : Unit) ρ H', (H' = HH ∧ ρ 13 = .int .i64 0) → Lp X ⟨90, bs⟩ (loopAt Tryz.f44 3) ρ H' fun ex ρ' H' => H' = HH ∧ ex = .exit 6 ∧ ρ' 13 = .int .i64 0 := by
  intro bs
  refine loop_wf (μ := fun _ => 0) ?_
  rintro u ρ H' ⟨rfl, h13⟩
  conv => arg 3; whnf
  repeat' first
   | (apply z50 (id := 8) (ord := [0, 1, 2, 3, 4, 5, 6, 7, 8, 9, 10, 11, 12, 13, 14]) <;> first | kernel_rfl | skip)
   | (apply z50 (id := 18) (ord := [0, 1, 2, 3, 4, 5, 6, 7, 8, 9, 10, 11, 12, 13]) <;> first | kernel_rfl | skip)
   | (apply z50 (id := 20) (ord := [0, 1, 2, 3, 4, 5, 6, 7, 8, 9, 10, 11, 12, 13]) <;> first | kernel_rfl | skip)
   | (refine zs ?_; repeat' first | apply zs0 | apply zs2 | (intro hc; try have hq := dq hc)) | fail
  exact ⟨by (simp only [seval, push_cast, *] <;> rfl), rfl, by (simp only [seval, push_cast, *] <;> rfl)⟩
theorem rf_pos (HH : Heap) (os l : List (List Int)) (x : List Int) (i tk id ver : Nat) (hH : HH[id]? = some (.arr (os.map encInts) ver)) (hx : l[i]? = some x) (hl : os.length ≤ 1000) (hxl : x.length ≤ 1000000) (hol : ∀ y ∈ os, y.length ≤ 1000000) : ∀ (A : Nat) (bs : List Nat) (a : Nat) ρ H', (H' = HH ∧ a ≤ os.length ∧ ρ 6 = .tl tk (l.map encInts) ∧ ρ 11 = .ref 1 id ver 0 os.length ∧ ρ 12 = .int .i64 i ∧ ρ 13 = .int .i64 a ∧ Kp (insPos x os a = A)) →
      Lp X ⟨90, bs⟩ (loopAt Tryz.f44 3) ρ H' fun ex ρ' H' => H' = HH ∧ ex = .exit 6 ∧ ρ' 13 = .int .i64 A := by
  intro A bs
  refine loop_wf (μ := fun a => a) ?_
  rintro a ρ H' ⟨rfl, ha, h6, h11, h12, h13, hA⟩
  rcases Nat.eq_zero_or_pos a with h0 | h0
  · subst h0
    have g : Kp ((0 : Int) = (A : Int)) := ⟨by rw [← hA.out]; rfl⟩
    replace h13 : ρ 13 = .int .i64 0 := h13
    clear hA hol
    conv => arg 3; whnf
    repeat' first
     | (apply z50 (id := 8) (ord := [0, 1, 2, 3, 4, 5, 6, 7, 8, 9, 10, 11, 12, 13, 14]) <;> first | kernel_rfl | skip)
     | (apply z50 (id := 18) (ord := [0, 1, 2, 3, 4, 5, 6, 7, 8, 9, 10, 11, 12, 13]) <;> first | kernel_rfl | skip)
     | (apply z50 (id := 20) (ord := [0, 1, 2, 3, 4, 5, 6, 7, 8, 9, 10, 11, 12, 13]) <;> first | kernel_rfl | skip)
     | (refine zs ?_; repeat' first | apply zs0 | apply zs2 | (intro hc; try have hq := dq hc)) | fail
    exact ⟨by (simp only [seval, push_cast, *] <;> rfl), rfl, by rw [← g.out]; (simp only [seval, push_cast, *] <;> rfl)⟩
  · obtain ⟨k, hk⟩ : ∃ k, a = k + 1 := ⟨a - 1, by omega⟩
    have hw : IntKind.i64.wrap ((a : Int) - 1) = (k : Int) := by rw [wrap64] <;> omega
    have d0 : decide ((0 : Int) < (a : Int)) = true := decide_eq_true (by omega)
    have d1 : decide ((a : Int) > 0) = true := decide_eq_true (by omega)
    have hko : k < os.length := by omega
    have hil : i < l.length := (List.getElem?_eq_some_iff.1 hx).1
    have hget : os[k]? = some os[k] := by simp [hko]
    have hyl := hol os[k] (List.getElem_mem hko)
    replace hA := hA.out
    rw [hk, insPos, List.getD_eq_getElem?_getD, hget, Option.getD_some] at hA
    generalize os[k] = y at hget hyl hA
    have t1 := fun bs H => bs_before bs H x y hxl hyl
    have hka : k < a ∧ k ≤ os.length := ⟨by omega, by omega⟩
    replace hka := Kp.mk hka
    clear hol hyl
    cases hb : befL x y with
    | true =>
      rw [if_pos hb] at hA
      replace hA := Kp.mk hA
      rw [hb] at t1
      clear hb hk ha h0
      conv => arg 3; whnf
      repeat' first
       | (apply z50 (id := 8) (ord := [0, 1, 2, 3, 4, 5, 6, 7, 8, 9, 10, 11, 12, 13, 14]) <;> first | kernel_rfl | skip)
       | (apply z50 (id := 18) (ord := [0, 1, 2, 3, 4, 5, 6, 7, 8, 9, 10, 11, 12, 13]) <;> first | kernel_rfl | skip)
       | (apply z50 (id := 20) (ord := [0, 1, 2, 3, 4, 5, 6, 7, 8, 9, 10, 11, 12, 13]) <;> first | kernel_rfl | skip)
       | (refine zs ?_; repeat' first | apply zs0 | apply zs2 | (intro hc; try have hq := dq hc)) | fail
      exact ⟨k, hka.out.1, by (simp only [seval, push_cast, *] <;> rfl), hka.out.2, by (simp only [seval, push_cast, *] <;> rfl), by (simp only [seval, push_cast, *] <;> rfl), by (simp only [seval, push_cast, *] <;> rfl), by (simp only [seval, push_cast, *] <;> rfl), hA⟩
    | false =>
      rw [if_neg (by rw [hb]; exact Bool.noConfusion)] at hA
      have g : Kp ((a : Int) = (A : Int)) := ⟨by rw [← hA, hk]⟩
      rw [hb] at t1
      clear hb hk ha h0 hA
      conv => arg 3; whnf
      repeat' first
       | (apply z50 (id := 8) (ord := [0, 1, 2, 3, 4, 5, 6, 7, 8, 9, 10, 11, 12, 13, 14]) <;> first | kernel_rfl | skip)
       | (apply z50 (id := 18) (ord := [0, 1, 2, 3, 4, 5, 6, 7, 8, 9, 10, 11, 12, 13]) <;> first | kernel_rfl | skip)
       | (apply z50 (id := 20) (ord := [0, 1, 2, 3, 4, 5, 6, 7, 8, 9, 10, 11, 12, 13]) <;> first | kernel_rfl | skip)
       | (refine zs ?_; repeat' first | apply zs0 | apply zs2 | (intro hc; try have hq := dq hc)) | fail
      exact ⟨by (simp only [seval, push_cast, *] <;> rfl), rfl, by rw [← g.out]; (simp only [seval, push_cast, *] <;> rfl)⟩
end Go.E
/- Contracts of the references, in E: reached states put in order, all. Own work. -/
namespace Go.E
open Go.Proofs
set_option maxRecDepth 100000
set_option maxHeartbeats 4000000
theorem sl_tl_hi (t : Nat) : sliceV Tryz.prog 41 (.tl t []) none (some (.int .i64 0)) none = some (.tl t []) := by
  simp [sliceV, Tryz.underlying41, sz34, boundV, idxV]
theorem sl_tl_lo (t : Nat) : sliceV Tryz.prog 41 (.tl t []) (some (.int .i64 0)) none none = some (.tl t []) := by
  simp [sliceV, Tryz.underlying41, sz34, boundV, idxV]
theorem sl_ref_hi (id ver off len k : Nat) (hk : k ≤ len) : sliceV Tryz.prog 41 (.ref 1 id ver off len) none (some (.int .i64 (k : Int))) none = some (.ref 1 id ver off k) := by
  simp [sliceV, Tryz.underlying41, sz34, boundV, idxV, hk]
theorem sl_ref_lo (id ver off len k : Nat) (hk : k ≤ len) : sliceV Tryz.prog 41 (.ref 1 id ver off len) (some (.int .i64 (k : Int))) none none = some (.ref 1 id ver (off + k) (len - k)) := by
  simp [sliceV, Tryz.underlying41, sz34, boundV, idxV, hk]
attribute [push_cast] sl_tl_hi sl_tl_lo
theorem rf_ins (H J0 : Heap) (c0 a1 : HObj) (l : List (List Int)) (hl : l.length ≤ 300) (hll : ∀ x ∈ l, x.length ≤ 1000000) : ∀ (bs : List Nat) i ρ H', i ≤ l.length → ((∃ os, os = (l.take i).foldl insOne [] ∧ os.length = i ∧ (∀ x ∈ os, x.length ≤ 1000000) ∧ ρ 6 = .tl (H.length + 2) (l.map encInts) ∧ ρ 12 = .int .i64 i ∧ 
      ((i = 0 ∧ H' = H ++ c0 :: a1 :: .tok l.length :: (J0 ++ [.tok 0]) ∧ ρ 11 = .tl (H.length + (J0.length + 3)) []) ∨ (0 < i ∧ ∃ u0 ver J, H' = H ++ c0 :: a1 :: .tok l.length :: (J0 ++ .tok 0 :: u0 :: .arr (os.map encInts) ver :: J) ∧ ρ 11 = .ref 1 (H.length + (J0.length + 5)) ver 0 os.length)))) →
      Lp X ⟨90, bs⟩ (loopAt Tryz.f44 2) ρ H' fun ex ρ' H' => ex = .exit 4 ∧ ∃ os, os = l.foldl insOne [] ∧ os.length = l.length ∧ 
      ((l.length = 0 ∧ H' = H ++ c0 :: a1 :: .tok l.length :: (J0 ++ [.tok 0]) ∧ ρ' 11 = .tl (H.length + (J0.length + 3)) []) ∨ (0 < l.length ∧ ∃ u0 ver J, H' = H ++ c0 :: a1 :: .tok l.length :: (J0 ++ .tok 0 :: u0 :: .arr (os.map encInts) ver :: J) ∧ ρ' 11 = .ref 1 (H.length + (J0.length + 5)) ver 0 os.length)) := by
  intro bs
  refine loop_up ?_ ?_
  · rintro i ρ H' hi ⟨os, hos, hol, hoo, h6, h12, ⟨rfl, rfl, h11⟩ | ⟨hi0, u0, ver, J, rfl, h11⟩⟩
    · have hget : l[0]? = some l[0] := by simp [hi]
      have hxl := hll l[0] (List.getElem_mem hi)
      have htk : l.take (0 + 1) = [l[0]] := by rw [List.take_add_one, hget]; rfl
      generalize l[0] = x at hget hxl htk
      have g : Kp ([x] = (l.take (0 + 1)).foldl insOne []) := ⟨by rw [htk]; rfl⟩
      have k3 := fun bs ρ => rf_pos0 (H ++ c0 :: a1 :: .tok l.length :: (J0 ++ [.tok 0])) bs () ρ (H ++ c0 :: a1 :: .tok l.length :: (J0 ++ [.tok 0]))
      have r24 : 24 ≤ roomB := by unfold roomB; omega
      have d : decide ((0 : Int) < (l.length : Int)) = true := decide_eq_true (by omega)
      replace h12 : ρ 12 = .int .i64 0 := h12
      clear hos hol hoo hll hl htk
      conv => arg 3; whnf
      repeat' first
       | (apply z50 (id := 8) (ord := [0, 1, 2, 3, 4, 5, 6, 7, 8, 9, 10, 11, 12, 13, 14]) <;> first | kernel_rfl | skip)
       | (apply z50 (id := 18) (ord := [0, 1, 2, 3, 4, 5, 6, 7, 8, 9, 10, 11, 12, 13]) <;> first | kernel_rfl | skip)
       | (apply z50 (id := 20) (ord := [0, 1, 2, 3, 4, 5, 6, 7, 8, 9, 10, 11, 12, 13]) <;> first | kernel_rfl | skip)
       | (refine zs ?_; repeat' first | apply zs0 | apply zs2 | (intro hc; try have hq := dq hc)) | fail
      refine lp_then (lp_any (c := loopAt Tryz.f44 3) rfl (k3 _ _ ⟨rfl, by (simp only [seval, push_cast, *] <;> rfl)⟩)) ?_
      clear k3
      rintro ex ρ' H' ⟨rfl, rfl, q13⟩ hf
      have q6 : ρ' 6 = .tl (H.length + 2) (l.map encInts) := (hf 6 rfl).trans (by (simp only [seval, push_cast, *] <;> rfl))
      have q12 : ρ' 12 = .int .i64 0 := (hf 12 rfl).trans (by (simp only [seval, push_cast, *] <;> rfl))
      have q11 : ρ' 11 = .tl (H.length + (J0.length + 3)) [] := (hf 11 rfl).trans (by (simp only [seval, push_cast, *] <;> rfl))
      clear hf h6 h12 h11
      repeat' first
       | (apply z50 (id := 8) (ord := [0, 1, 2, 3, 4, 5, 6, 7, 8, 9, 10, 11, 12, 13, 14]) <;> first | kernel_rfl | skip)
       | (apply z50 (id := 18) (ord := [0, 1, 2, 3, 4, 5, 6, 7, 8, 9, 10, 11, 12, 13]) <;> first | kernel_rfl | skip)
       | (apply z50 (id := 20) (ord := [0, 1, 2, 3, 4, 5, 6, 7, 8, 9, 10, 11, 12, 13]) <;> first | kernel_rfl | skip)
       | (refine zs ?_; repeat' first | apply zs0 | apply zs2 | (intro hc; try have hq := dq hc)) | fail
      exact ⟨[x], g.out, rfl, by simpa using hxl, by (simp only [seval, push_cast, *] <;> rfl), by (simp only [seval, push_cast, *] <;> rfl), .inr ⟨by omega, .arr [encInts x] 1, 0, [], by first | rfl | simp, by (simp only [seval, push_cast, *] <;> rfl)⟩⟩
    · have hget : l[i]? = some l[i] := by simp [hi]
      have hxl := hll l[i] (List.getElem_mem hi)
      have htk : l.take (i + 1) = l.take i ++ [l[i]] := by rw [List.take_add_one, hget]; rfl
      generalize l[i] = x at hget hxl htk
      have g : Kp (insOne os x = (l.take (i + 1)).foldl insOne []) := ⟨by rw [htk, List.foldl_append, ← hos]; rfl⟩
      have g2 : Kp ((insOne os x).length = i + 1 ∧ ∀ y ∈ insOne os x, y.length ≤ 1000000) := ⟨by rw [insOne_len, hol], fun y hy => by
        rcases List.mem_cons.1 ((insOne_perm os x).mem_iff.1 hy) with h | h
        · exact h ▸ hxl
        · exact hoo y h⟩
      have hA := insPos_le x os os.length
      have g3 : Kp (insOne os x = os.take (insPos x os os.length) ++ x :: os.drop (insPos x os os.length)) := ⟨rfl⟩
      have hHH : (H ++ c0 :: a1 :: .tok l.length :: (J0 ++ .tok 0 :: u0 :: .arr (os.map encInts) ver :: J) : Heap)[H.length + (J0.length + 5)]? = some (.arr (os.map encInts) ver) := by
        rw [List.getElem?_append_right (Nat.le_add_right _ _), Nat.add_sub_cancel_left]
        simp only [List.getElem?_cons_succ]
        rw [List.getElem?_append_right (Nat.le_add_right _ _), Nat.add_sub_cancel_left]; rfl
      have k3 := fun bs ρ => rf_pos (H ++ c0 :: a1 :: .tok l.length :: (J0 ++ .tok 0 :: u0 :: .arr (os.map encInts) ver :: J)) os l x i (H.length + 2) (H.length + (J0.length + 5)) ver hHH hget (by omega) hxl hoo (insPos x os os.length) bs os.length ρ (H ++ c0 :: a1 :: .tok l.length :: (J0 ++ .tok 0 :: u0 :: .arr (os.map encInts) ver :: J))
      have e0 : Kp (insPos x os os.length = insPos x os os.length) := ⟨rfl⟩
      generalize insPos x os os.length = A at k3 hA g3 e0
      have d : decide ((i : Int) < (l.length : Int)) = true := decide_eq_true (by omega)
      have hli : os.length ≤ 300 := by omega
      have f1 : List.take (os.length - A) (List.drop A (List.map encInts os)) = List.map encInts (os.drop A) := by rw [List.take_of_length_le (by simp), List.map_drop]
      have f2 : List.take A (List.map encInts os) = List.map encInts (os.take A) := by rw [List.map_take]
      have f3 : (os.drop A).length = os.length - A := List.length_drop
      have f4 : (os.take A).length = A := by simp; omega
      have s1 := sl_ref_hi (H.length + (J0.length + 5)) ver 0 os.length A hA
      have s2 := sl_ref_lo (H.length + (J0.length + 5)) ver 0 os.length A hA
      rw [Nat.zero_add] at s2
      have r1 : (1 + (os.length - A)) * 24 ≤ roomB := by unfold roomB; omega
      have r2 : (A + (1 + (os.length - A))) * 24 ≤ roomB := by unfold roomB; omega
      have r24 : 24 ≤ roomB := by unfold roomB; omega
      have hio := Kp.mk hol
      have a2 : A + (os.length - A) ≤ os.length := by omega
      have a3 : 1 + (os.length - A) ≤ os.length - A + 1 := by omega
      have f5 : List.take (1 + (os.length - A)) (.list (x.map (.int .i64)) :: List.map encInts (os.drop A)) = .list (x.map (.int .i64)) :: List.map encInts (os.drop A) := List.take_of_length_le (by simp; omega)
      have r3 : (A + (os.length - A + 1)) * 24 ≤ roomB := by unfold roomB; omega
      have hw := add1 i l.length hi (by omega)
      clear hos hoo hll hl htk hxl hi0 hol hHH
      conv => arg 3; whnf
      repeat' first
       | (apply z50 (id := 8) (ord := [0, 1, 2, 3, 4, 5, 6, 7, 8, 9, 10, 11, 12, 13, 14]) <;> first | kernel_rfl | skip)
       | (apply z50 (id := 18) (ord := [0, 1, 2, 3, 4, 5, 6, 7, 8, 9, 10, 11, 12, 13]) <;> first | kernel_rfl | skip)
       | (apply z50 (id := 20) (ord := [0, 1, 2, 3, 4, 5, 6, 7, 8, 9, 10, 11, 12, 13]) <;> first | kernel_rfl | skip)
       | (refine zs ?_; repeat' first | apply zs0 | apply zs2 | (intro hc; try have hq := dq hc)) | fail
      refine lp_then (lp_any (c := loopAt Tryz.f44 3) rfl (k3 _ _ ⟨rfl, Nat.le_refl _, by (simp only [seval, push_cast, *] <;> rfl), by (simp only [seval, push_cast, *] <;> rfl), by (simp only [seval, push_cast, *] <;> rfl), by (simp only [seval, push_cast, *] <;> rfl), by first | exact e0 | exact ⟨trivial⟩⟩)) ?_
      clear k3
      rintro ex ρ' H' ⟨rfl, rfl, q13⟩ hf
      have q6 : ρ' 6 = .tl (H.length + 2) (l.map encInts) := (hf 6 rfl).trans (by (simp only [seval, push_cast, *] <;> rfl))
      have q12 : ρ' 12 = .int .i64 i := (hf 12 rfl).trans (by (simp only [seval, push_cast, *] <;> rfl))
      have q11 : ρ' 11 = .ref 1 (H.length + (J0.length + 5)) ver 0 os.length := (hf 11 rfl).trans (by (simp only [seval, push_cast, *] <;> rfl))
      clear hf h6 h12 h11
      repeat' first
       | (apply z50 (id := 8) (ord := [0, 1, 2, 3, 4, 5, 6, 7, 8, 9, 10, 11, 12, 13, 14]) <;> first | kernel_rfl | skip)
       | (apply z50 (id := 18) (ord := [0, 1, 2, 3, 4, 5, 6, 7, 8, 9, 10, 11, 12, 13]) <;> first | kernel_rfl | skip)
       | (apply z50 (id := 20) (ord := [0, 1, 2, 3, 4, 5, 6, 7, 8, 9, 10, 11, 12, 13]) <;> first | kernel_rfl | skip)
       | (refine zs ?_; repeat' first | apply zs0 | apply zs2 | (intro hc; try have hq := dq hc)) | fail
      exact ⟨insOne os x, g.out, g2.out.1, g2.out.2, by (simp only [seval, push_cast, *] <;> rfl), by (simp only [seval, push_cast, *] <;> rfl), .inr ⟨by omega, u0, ver + 1, J ++ [.arr (encInts x :: (os.drop A).map encInts) 1], by rw [g3.out]; simp [encInts], by rw [show (insOne os x).length = A + (os.length - A + 1) by rw [g2.out.1, ← hio.out]; omega]; (simp only [seval, push_cast, *] <;> rfl)⟩⟩
  · rintro ρ H' ⟨os, hos, hol, hoo, h6, h12, hX⟩
    rw [List.take_length] at hos
    have d : decide ((l.length : Int) < (l.length : Int)) = false := by simp
    replace hos := Kp.mk hos
    replace hol := Kp.mk hol
    clear hll hoo hl
    rcases hX with ⟨h0, rfl, h11⟩ | ⟨h0, u0, ver, J, rfl, h11⟩
    · replace h0 := Kp.mk h0
      conv => arg 3; whnf
      repeat' first
       | (apply z50 (id := 8) (ord := [0, 1, 2, 3, 4, 5, 6, 7, 8, 9, 10, 11, 12, 13, 14]) <;> first | kernel_rfl | skip)
       | (apply z50 (id := 18) (ord := [0, 1, 2, 3, 4, 5, 6, 7, 8, 9, 10, 11, 12, 13]) <;> first | kernel_rfl | skip)
       | (apply z50 (id := 20) (ord := [0, 1, 2, 3, 4, 5, 6, 7, 8, 9, 10, 11, 12, 13]) <;> first | kernel_rfl | skip)
       | (refine zs ?_; repeat' first | apply zs0 | apply zs2 | (intro hc; try have hq := dq hc)) | fail
      exact ⟨rfl, os, hos.out, hol.out, .inl ⟨h0.out, rfl, by (simp only [seval, push_cast, *] <;> rfl)⟩⟩
    · replace h0 := Kp.mk h0
      conv => arg 3; whnf
      repeat' first
       | (apply z50 (id := 8) (ord := [0, 1, 2, 3, 4, 5, 6, 7, 8, 9, 10, 11, 12, 13, 14]) <;> first | kernel_rfl | skip)
       | (apply z50 (id := 18) (ord := [0, 1, 2, 3, 4, 5, 6, 7, 8, 9, 10, 11, 12, 13]) <;> first | kernel_rfl | skip)
       | (apply z50 (id := 20) (ord := [0, 1, 2, 3, 4, 5, 6, 7, 8, 9, 10, 11, 12, 13]) <;> first | kernel_rfl | skip)
       | (refine zs ?_; repeat' first | apply zs0 | apply zs2 | (intro hc; try have hq := dq hc)) | fail
      exact ⟨rfl, os, hos.out, hol.out, .inr ⟨h0.out, u0, ver, J, rfl, by (simp only [seval, push_cast, *] <;> rfl)⟩⟩
end Go.E
/- Contracts of the references, in E: which pairs are a proof. Own work. -/
namespace Go.E
open Go.Proofs
set_option maxRecDepth 100000
set_option maxHeartbeats 4000000

theorem eqF_drop {f : Outp → Outp → Bool} {l r : List Outp} {i : Nat} {x y : Outp} (h1 : l[i]? = some x) (h2 : r[i]? = some y) : eqF f (l.drop i) (r.drop i) = (f x y && eqF f (l.drop (i + 1)) (r.drop (i + 1))) := by
  rw [drop_cons h1, drop_cons h2, eqF]

theorem te_outs (a b : Netl) (hka : NetOk a) (hkb : NetOk b) (hl : a.outs.length ≤ 1000) (hab : a.outs.length = b.outs.length) (H : Heap) (R : Bool) (bs : List Nat) :
    ∀ i ρ H', i ≤ a.outs.length → (H' = H ++ [.cells (cellsNetl a), .cells (cellsNetl b)] ∧ ρ 2 = .ptr H.length 0 ∧ ρ 3 = .ptr (H.length + 1) 0 ∧ ρ 7 = .int .i64 i ∧ Kp (eqF (outAs a b) (a.outs.drop i) (b.outs.drop i) = R)) →
      Lp X ⟨78, bs⟩ (loopAt Tryz.f108 0) ρ H' fun ex ρ' H' => H' = H ++ [.cells (cellsNetl a), .cells (cellsNetl b)] ∧ ((ex = .exit 0 ∧ R = true) ∨ (ex = .ret ∧ ρ' 4 = .int .i64 13 ∧ R = false)) := by
  refine loop_up ?_ ?_
  · rintro i ρ H' hi ⟨rfl, h2, h3, h7, hR⟩
    have hi2 : i < b.outs.length := by omega
    have hget : a.outs[i]? = some a.outs[i] := by simp [hi]
    have hgetb : b.outs[i]? = some b.outs[i] := by simp [hi2]
    have hob := hka.outs _ (List.getElem_mem hi)
    have hob2 := hkb.outs _ (List.getElem_mem hi2)
    replace hR := hR.out
    rw [eqF_drop hget hgetb] at hR
    generalize a.outs[i] = p at hget hob hR
    generalize b.outs[i] = q at hgetb hob2 hR
    obtain ⟨pn, pd⟩ := p
    obtain ⟨qn, qd⟩ := q
    simp only at hob hob2
    obtain ⟨m, rfl⟩ : ∃ m : Nat, pd = m := ⟨pd.toNat, by omega⟩
    obtain ⟨k, rfl⟩ : ∃ m : Nat, qd = m := ⟨qd.toNat, by omega⟩
    have hm : m < a.nodes.length := by omega
    have hk : k < b.nodes.length := by omega
    have g1 : a.nodes[m]? = some a.nodes[m] := by simp [hm]
    have g2 : b.nodes[k]? = some b.nodes[k] := by simp [hk]
    unfold outAs at hR
    simp only [widthAt_get g1, widthAt_get g2] at hR
    generalize a.nodes[m] = x at g1 hR
    generalize b.nodes[k] = y at g2 hR
    have hw := add1 i a.outs.length hi (by omega)
    simp only [cellsNetl]
    clear hka hkb hl hab hi2 hob hob2 hm hk
    by_cases h : pn = qn
    · have d : decide (pn = qn) = true := decide_eq_true h
      rw [decide_eq_true h, Bool.true_and] at hR
      clear h
      by_cases h2' : x.width = y.width
      · have d2 : (decide ¬ x.width = y.width) = false := by simp [h2']
        rw [decide_eq_true h2', Bool.true_and] at hR
        replace hR := Kp.mk hR
        clear h2'
        conv => arg 3; whnf
        repeat' first
         | (apply z50 (id := 12) (ord := [0, 1, 2, 3, 4, 5, 6, 7, 8, 9, 10, 11, 12, 13, 14, 15, 16, 17, 18, 19, 20, 21, 22, 23, 24, 25, 26, 27, 28, 29, 30, 31, 32, 33, 34, 35, 36, 37]) <;> first | kernel_rfl | skip)
         | (refine zs ?_; repeat' first | apply zs0 | apply zs2 | (intro hc; try have hq := dq hc)) | fail
        exact ⟨by (simp only [seval, push_cast, *] <;> rfl), by (simp only [seval, push_cast, *] <;> rfl), by (simp only [seval, push_cast, *] <;> rfl), by (simp only [seval, push_cast, *] <;> rfl), hR⟩
      · have d2 : (decide ¬ x.width = y.width) = true := by simp [h2']
        rw [decide_eq_false h2', Bool.false_and] at hR
        replace hR := Kp.mk hR
        clear h2'
        conv => arg 3; whnf
        repeat' first
         | (apply z50 (id := 12) (ord := [0, 1, 2, 3, 4, 5, 6, 7, 8, 9, 10, 11, 12, 13, 14, 15, 16, 17, 18, 19, 20, 21, 22, 23, 24, 25, 26, 27, 28, 29, 30, 31, 32, 33, 34, 35, 36, 37]) <;> first | kernel_rfl | skip)
         | (refine zs ?_; repeat' first | apply zs0 | apply zs2 | (intro hc; try have hq := dq hc)) | fail
        exact ⟨by (simp only [seval, push_cast, *] <;> rfl), .inr ⟨rfl, by (simp only [seval, push_cast, *] <;> rfl), hR.out.symm⟩⟩
    · have d : decide (pn = qn) = false := decide_eq_false h
      rw [decide_eq_false h, Bool.false_and, Bool.false_and] at hR
      replace hR := Kp.mk hR
      clear h
      conv => arg 3; whnf
      repeat' first
       | (apply z50 (id := 12) (ord := [0, 1, 2, 3, 4, 5, 6, 7, 8, 9, 10, 11, 12, 13, 14, 15, 16, 17, 18, 19, 20, 21, 22, 23, 24, 25, 26, 27, 28, 29, 30, 31, 32, 33, 34, 35, 36, 37]) <;> first | kernel_rfl | skip)
       | (refine zs ?_; repeat' first | apply zs0 | apply zs2 | (intro hc; try have hq := dq hc)) | fail
      exact ⟨by (simp only [seval, push_cast, *] <;> rfl), .inr ⟨rfl, by (simp only [seval, push_cast, *] <;> rfl), hR.out.symm⟩⟩
  · rintro ρ H' ⟨rfl, h2, h3, h7, hR⟩
    replace hR := hR.out
    rw [List.drop_length, hab, List.drop_length] at hR
    replace hR : Kp (true = R) := ⟨hR⟩
    simp only [cellsNetl]
    clear hka hkb hl
    have hab2 : decide ((a.outs.length : Int) < (a.outs.length : Int)) = false := decide_eq_false (by omega)
    clear hab
    conv => arg 3; whnf
    repeat' first
     | (apply z50 (id := 12) (ord := [0, 1, 2, 3, 4, 5, 6, 7, 8, 9, 10, 11, 12, 13, 14, 15, 16, 17, 18, 19, 20, 21, 22, 23, 24, 25, 26, 27, 28, 29, 30, 31, 32, 33, 34, 35, 36, 37]) <;> first | kernel_rfl | skip)
     | (refine zs ?_; repeat' first | apply zs0 | apply zs2 | (intro hc; try have hq := dq hc)) | fail
    exact ⟨by (simp only [seval, push_cast, *] <;> rfl), .inl ⟨rfl, hR.out.symm⟩⟩

theorem rf_twoErr (bs : List Nat) (H : Heap) (a b : Netl) (hSa : Small a) (hSb : Small b) : callw X bs 108 [encNetl a, encNetl b] H = some (.int .i64 (twoErrS a b), H) := by
  refine call_at (rs := [.tmp 4]) (N := 78) (fn := Tryz.f108) xk108 xf108 rfl rfl rfl (by simp only [seval, push_cast, List.map_cons, List.map_nil, V.norm, norm1]; rfl) ?_
  have t1 := fun bs H => rf_err bs H a hSa
  have t2 := fun bs H => rf_err bs H b hSb
  rw [← checkNet_same a] at t1
  rw [← checkNet_same b] at t2
  unfold twoErrS
  by_cases ha : (checkNetS a).2 = 0
  case neg =>
    rw [if_pos ha]
    simp only [encNetl, cellsNetl] at t1 t2
    generalize (checkNetS a).2 = c at t1 ha ⊢
    clear hSa hSb
    repeat' first
     | (apply z50 (id := 12) (ord := [0, 1, 2, 3, 4, 5, 6, 7, 8, 9, 10, 11, 12, 13, 14, 15, 16, 17, 18, 19, 20, 21, 22, 23, 24, 25, 26, 27, 28, 29, 30, 31, 32, 33, 34, 35, 36, 37]) <;> first | kernel_rfl | skip)
     | (refine zs ?_; repeat' first | apply zs0 | apply zs2 | (intro hc; try have hq := dq hc)) | fail
  rw [if_neg (by simpa using ha)]
  by_cases hb : (checkNetS b).2 = 0
  case neg =>
    rw [if_pos hb]
    rw [ha] at t1
    simp only [encNetl, cellsNetl] at t1 t2
    generalize (checkNetS b).2 = c at t2 hb ⊢
    clear hSa hSb ha
    repeat' first
     | (apply z50 (id := 12) (ord := [0, 1, 2, 3, 4, 5, 6, 7, 8, 9, 10, 11, 12, 13, 14, 15, 16, 17, 18, 19, 20, 21, 22, 23, 24, 25, 26, 27, 28, 29, 30, 31, 32, 33, 34, 35, 36, 37]) <;> first | kernel_rfl | skip)
     | (refine zs ?_; repeat' first | apply zs0 | apply zs2 | (intro hc; try have hq := dq hc)) | fail
  rw [if_neg (by simpa using hb)]
  rw [ha] at t1
  rw [hb] at t2
  have t3 := fun bs H => bs_samePorts bs H a.inputs b.inputs (by have := hSa.inputs; omega) (by have := hSb.inputs; omega)
  unfold clashS
  by_cases hp : a.inputs = b.inputs
  case neg =>
    rw [decide_eq_false hp] at t3
    rw [decide_eq_false hp, Bool.false_and, if_neg (by simp)]
    simp only [encNetl, cellsNetl] at t1 t2
    clear hSa hSb ha hb hp
    repeat' first
     | (apply z50 (id := 12) (ord := [0, 1, 2, 3, 4, 5, 6, 7, 8, 9, 10, 11, 12, 13, 14, 15, 16, 17, 18, 19, 20, 21, 22, 23, 24, 25, 26, 27, 28, 29, 30, 31, 32, 33, 34, 35, 36, 37]) <;> first | kernel_rfl | skip)
     | (refine zs ?_; repeat' first | apply zs0 | apply zs2 | (intro hc; try have hq := dq hc)) | fail
  rw [decide_eq_true hp] at t3
  rw [decide_eq_true hp, Bool.true_and]
  by_cases hl : a.outs.length = b.outs.length
  case neg =>
    have d : (decide ¬ (a.outs.length : Int) = (b.outs.length : Int)) = true := decide_eq_true (by omega)
    rw [eqF_len hl, if_neg (by simp)]
    simp only [encNetl, cellsNetl] at t1 t2
    clear hSa hSb ha hb hp hl
    repeat' first
     | (apply z50 (id := 12) (ord := [0, 1, 2, 3, 4, 5, 6, 7, 8, 9, 10, 11, 12, 13, 14, 15, 16, 17, 18, 19, 20, 21, 22, 23, 24, 25, 26, 27, 28, 29, 30, 31, 32, 33, 34, 35, 36, 37]) <;> first | kernel_rfl | skip)
     | (refine zs ?_; repeat' first | apply zs0 | apply zs2 | (intro hc; try have hq := dq hc)) | fail
  have d : (decide ¬ (a.outs.length : Int) = (b.outs.length : Int)) = false := by simp [hl]
  have k1 := fun bs ρ => te_outs a b (net_ok ha) (net_ok hb) hSa.outs hl H (eqF (outAs a b) a.outs b.outs) bs 0 ρ (H ++ [.cells (cellsNetl a), .cells (cellsNetl b)]) (by omega)
  have e0 : Kp (eqF (outAs a b) (a.outs.drop 0) (b.outs.drop 0) = eqF (outAs a b) a.outs b.outs) := ⟨by rw [List.drop_zero, List.drop_zero]⟩
  simp only [encNetl, cellsNetl] at t1 t2 k1
  generalize eqF (outAs a b) a.outs b.outs = R at k1 e0 ⊢
  clear hSa hSb ha hb hp hl
  repeat' first
   | (apply z50 (id := 12) (ord := [0, 1, 2, 3, 4, 5, 6, 7, 8, 9, 10, 11, 12, 13, 14, 15, 16, 17, 18, 19, 20, 21, 22, 23, 24, 25, 26, 27, 28, 29, 30, 31, 32, 33, 34, 35, 36, 37]) <;> first | kernel_rfl | skip)
   | (refine zs ?_; repeat' first | apply zs0 | apply zs2 | (intro hc; try have hq := dq hc)) | fail
  refine lp_then (lp_any (c := loopAt Tryz.f108 0) rfl (k1 _ _ ⟨trivial, by (simp only [seval, push_cast, *] <;> rfl), by (simp only [seval, push_cast, *] <;> rfl), by (simp only [seval, push_cast, *] <;> rfl), e0⟩)) ?_
  clear k1
  rintro ex ρ' H' ⟨rfl, ⟨rfl, rfl⟩ | ⟨rfl, h2, rfl⟩⟩ hf
  · clear hf
    repeat' first
     | (apply z50 (id := 12) (ord := [0, 1, 2, 3, 4, 5, 6, 7, 8, 9, 10, 11, 12, 13, 14, 15, 16, 17, 18, 19, 20, 21, 22, 23, 24, 25, 26, 27, 28, 29, 30, 31, 32, 33, 34, 35, 36, 37]) <;> first | kernel_rfl | skip)
     | (refine zs ?_; repeat' first | apply zs0 | apply zs2 | (intro hc; try have hq := dq hc)) | fail
  · clear hf
    repeat' first
     | (apply z50 (id := 12) (ord := [0, 1, 2, 3, 4, 5, 6, 7, 8, 9, 10, 11, 12, 13, 14, 15, 16, 17, 18, 19, 20, 21, 22, 23, 24, 25, 26, 27, 28, 29, 30, 31, 32, 33, 34, 35, 36, 37]) <;> first | kernel_rfl | skip)
     | (refine zs ?_; repeat' first | apply zs0 | apply zs2 | (intro hc; try have hq := dq hc)) | fail

def encTwo (a b : Netl) : V := .agg (cellsNetl a ++ cellsNetl b)
attribute [push_cast] encTwo
theorem la_err (bs : List Nat) (H : Heap) (a b : Netl) (ins : List (List Int)) (hSa : Small a) (hSb : Small b) (hin : ins.length ≤ 1000) (hil : ∀ x ∈ ins, x.length ≤ 100000) : callw X bs 36 [encTwo a b, .list (ins.map encInts)] H = some (.int .i64 (bothErrS a b ins), H) := by
  refine call_at (rs := [.tmp 4]) (N := 18) (fn := Tryz.f36) xk36 xf36 rfl rfl rfl (by simp only [seval, push_cast, List.map_cons, List.map_nil, V.norm, norm1]; rfl) ?_
  have t1 := fun bs H => rf_twoErr bs H a b hSa hSb
  simp only [encNetl, cellsNetl] at t1
  unfold bothErrS
  by_cases h0 : twoErrS a b = 0
  · rw [if_neg (by simpa using h0)]
    have hk : NetOk a := net_ok (by
      unfold twoErrS at h0
      split at h0
      · rename_i h; exact absurd h0 h
      · rename_i h; simpa using h)
    have t2 := fun bs H => rf_listsErr bs H a ins hSa hk hin hil
    simp only [encNetl, cellsNetl] at t2
    rw [h0] at t1
    clear h0 hk hSa hSb hin hil
    all_goals try (refine zs ?_; repeat' first | apply zs0 | apply zs2 | (intro hc; try have hq := dq hc))
  · rw [if_pos h0]
    generalize twoErrS a b = c at t1 h0 ⊢
    clear hSa hSb hin hil
    all_goals try (refine zs ?_; repeat' first | apply zs0 | apply zs2 | (intro hc; try have hq := dq hc))

end Go.E
/- Contracts of the references, in E: which pairs are a proof; the law's guards. Own work. -/
namespace Go.E
open Go.Proofs
set_option maxRecDepth 100000
set_option maxHeartbeats 4000000

def wsum : List Reg → Int
  | [] => 0
  | r :: t => r.width + wsum t
theorem wsum_snoc (l : List Reg) (r : Reg) : wsum (l ++ [r]) = wsum l + r.width := by
  induction l with
  | nil => simp [wsum]
  | cons x t ih => simp only [List.cons_append, wsum, ih]; omega
theorem wsum_bd {l : List Reg} (h : ∀ r ∈ l, 1 ≤ r.width ∧ r.width ≤ 16) : 0 ≤ wsum l ∧ wsum l ≤ 16 * l.length := by
  induction l with
  | nil => simp [wsum]
  | cons x t ih =>
    have h1 := h x (by simp)
    have h2 := ih fun r hr => h r (by simp [hr])
    simp only [wsum, List.length_cons]
    omega
def lightS (a b : Netl) (ins : List (List Int)) : Bool := decide (wsum a.regs + wsum b.regs ≤ 8) && (decide ((ins.length : Int) ≤ 4) && (decide ((a.nodes.length : Int) ≤ 60) && decide ((b.nodes.length : Int) ≤ 60)))
section
variable (a b : Netl) (H : Heap)
theorem li_loop0 (hw : ∀ r ∈ a.regs, 1 ≤ r.width ∧ r.width ≤ 16) (hl : a.regs.length ≤ 1000) (bs : List Nat) : ∀ i ρ H', i ≤ a.regs.length → (H' = H ++ [.cells (cellsNetl a ++ cellsNetl b)] ∧ ρ 2 = .ptr H.length 0 ∧ ρ 5 = .int .i64 (wsum (a.regs.take i)) ∧ ρ 6 = .int .i64 i) →
      Lp X ⟨63, bs⟩ (loopAt Tryz.f37 0) ρ H' fun ex ρ' H' => H' = H ++ [.cells (cellsNetl a ++ cellsNetl b)] ∧ ex = .exit 0 ∧ ρ' 5 = .int .i64 (wsum a.regs) := by
  refine loop_up ?_ ?_
  · rintro i ρ H' hi ⟨rfl, h2, h5, h6⟩
    have hget : a.regs[i]? = some a.regs[i] := by simp [hi]
    have hx := hw _ (List.getElem_mem hi)
    have hb := wsum_bd (l := a.regs.take i) fun r hr => hw r (List.mem_of_mem_take hr)
    have htk : a.regs.take (i + 1) = a.regs.take i ++ [a.regs[i]] := by rw [List.take_add_one, hget]; rfl
    have hs : Kp (wsum (a.regs.take (i + 1)) = wsum (a.regs.take i) + (a.regs[i]).width) := ⟨by rw [htk, wsum_snoc]⟩
    have hlt : (a.regs.take i).length ≤ 1000 := by simp; omega
    generalize a.regs[i] = r at hget hx hs htk
    generalize wsum (a.regs.take i) = s at h5 hb hs
    have hwr : IntKind.i64.wrap (s + r.width) = s + r.width := by rw [wrap64] <;> omega
    have hw1 := add1 i a.regs.length hi (by omega)
    simp only [cellsNetl, List.cons_append, List.nil_append]
    clear hx hb htk hlt hw
    conv => arg 3; whnf
    all_goals try (refine zs ?_; repeat' first | apply zs0 | apply zs2 | (intro hc; try have hq := dq hc))
    exact ⟨by (simp only [seval, push_cast, *] <;> rfl), by (simp only [seval, push_cast, *] <;> rfl), by rw [hs.out]; (simp only [seval, push_cast, *] <;> rfl), by (simp only [seval, push_cast, *] <;> rfl)⟩
  · rintro ρ H' ⟨rfl, h2, h5, h6⟩
    rw [List.take_length] at h5
    simp only [cellsNetl, List.cons_append, List.nil_append]
    clear hw
    conv => arg 3; whnf
    all_goals try (refine zs ?_; repeat' first | apply zs0 | apply zs2 | (intro hc; try have hq := dq hc))
    exact ⟨by (simp only [seval, push_cast, *] <;> rfl), rfl, by (simp only [seval, push_cast, *] <;> rfl)⟩
theorem li_loop1 (hw0 : ∀ r ∈ a.regs, 1 ≤ r.width ∧ r.width ≤ 16) (hl0 : a.regs.length ≤ 1000) (hw : ∀ r ∈ b.regs, 1 ≤ r.width ∧ r.width ≤ 16) (hl : b.regs.length ≤ 1000) (bs : List Nat) : ∀ i ρ H', i ≤ b.regs.length → (H' = H ++ [.cells (cellsNetl a ++ cellsNetl b)] ∧ ρ 2 = .ptr H.length 0 ∧ ρ 5 = .int .i64 (wsum a.regs + wsum (b.regs.take i)) ∧ ρ 7 = .int .i64 i) →
      Lp X ⟨63, bs⟩ (loopAt Tryz.f37 1) ρ H' fun ex ρ' H' => H' = H ++ [.cells (cellsNetl a ++ cellsNetl b)] ∧ ex = .exit 2 ∧ ρ' 5 = .int .i64 (wsum a.regs + wsum b.regs) := by
  have hb0 := wsum_bd hw0
  refine loop_up ?_ ?_
  · rintro i ρ H' hi ⟨rfl, h2, h5, h7⟩
    have hget : b.regs[i]? = some b.regs[i] := by simp [hi]
    have hx := hw _ (List.getElem_mem hi)
    have hb := wsum_bd (l := b.regs.take i) fun r hr => hw r (List.mem_of_mem_take hr)
    have htk : b.regs.take (i + 1) = b.regs.take i ++ [b.regs[i]] := by rw [List.take_add_one, hget]; rfl
    have hs : Kp (wsum a.regs + wsum (b.regs.take (i + 1)) = wsum a.regs + wsum (b.regs.take i) + (b.regs[i]).width) := ⟨by rw [htk, wsum_snoc]; omega⟩
    have hlt : (b.regs.take i).length ≤ 1000 := by simp; omega
    generalize b.regs[i] = r at hget hx hs htk
    have hsb : -1 ≤ wsum a.regs + wsum (b.regs.take i) ∧ wsum a.regs + wsum (b.regs.take i) ≤ 100000 := by omega
    generalize wsum a.regs + wsum (b.regs.take i) = s at h5 hsb hs
    have hwr : IntKind.i64.wrap (s + r.width) = s + r.width := by rw [wrap64] <;> omega
    have hw1 := add1 i b.regs.length hi (by omega)
    simp only [cellsNetl, List.cons_append, List.nil_append]
    clear hx hb htk hlt hw hb0 hw0 hsb
    conv => arg 3; whnf
    all_goals try (refine zs ?_; repeat' first | apply zs0 | apply zs2 | (intro hc; try have hq := dq hc))
    exact ⟨by (simp only [seval, push_cast, *] <;> rfl), by (simp only [seval, push_cast, *] <;> rfl), by rw [hs.out]; (simp only [seval, push_cast, *] <;> rfl), by (simp only [seval, push_cast, *] <;> rfl)⟩
  · rintro ρ H' ⟨rfl, h2, h5, h7⟩
    rw [List.take_length] at h5
    simp only [cellsNetl, List.cons_append, List.nil_append]
    clear hw hb0 hw0
    conv => arg 3; whnf
    all_goals try (refine zs ?_; repeat' first | apply zs0 | apply zs2 | (intro hc; try have hq := dq hc))
    exact ⟨by (simp only [seval, push_cast, *] <;> rfl), rfl, by (simp only [seval, push_cast, *] <;> rfl)⟩
end
theorem regs_w {n : Netl} (hk : NetOk n) : ∀ r ∈ n.regs, 1 ≤ r.width ∧ r.width ≤ 16 := fun r hr => rgW_1 hk r.width (List.mem_map.2 ⟨r, hr, rfl⟩)
theorem la_light (bs : List Nat) (H : Heap) (a b : Netl) (ins : List (List Int)) (hSa : Small a) (hSb : Small b) (hka : NetOk a) (hkb : NetOk b) : callw X bs 37 [encTwo a b, .list (ins.map encInts)] H = some (.bool (lightS a b ins), H) := by
  refine call_at (rs := [.tmp 4]) (N := 63) (fn := Tryz.f37) xk37 xf37 rfl rfl rfl (by simp only [seval, push_cast, List.map_cons, List.map_nil, V.norm, norm1]; rfl) ?_
  have k0 := fun bs ρ => li_loop0 a b H (regs_w hka) hSa.regs bs 0 ρ (H ++ [.cells (cellsNetl a ++ cellsNetl b)]) (by omega)
  have k1 := fun bs ρ => li_loop1 a b H (regs_w hka) hSa.regs (regs_w hkb) hSb.regs bs 0 ρ (H ++ [.cells (cellsNetl a ++ cellsNetl b)]) (by omega)
  have e0 : Kp (wsum (a.regs.take 0) = 0) := ⟨rfl⟩
  have e1 : Kp (wsum a.regs + wsum (b.regs.take 0) = wsum a.regs) := ⟨by show wsum a.regs + 0 = _; omega⟩
  unfold lightS
  simp only [cellsNetl, List.cons_append, List.nil_append] at k0 k1
  rw [e0.out] at k0
  rw [e1.out] at k1
  clear e0 e1 hSa hSb hka hkb
  generalize wsum a.regs + wsum b.regs = s at k1 ⊢
  generalize wsum a.regs = s0 at k0 k1
  all_goals try (refine zs ?_; repeat' first | apply zs0 | apply zs2 | (intro hc; try have hq := dq hc))
  refine lp_then (lp_any (c := loopAt Tryz.f37 0) rfl (k0 _ _ ⟨trivial, by (simp only [seval, push_cast, *] <;> rfl), by (simp only [seval, push_cast, *] <;> rfl), by (simp only [seval, push_cast, *] <;> rfl)⟩)) ?_
  clear k0
  rintro ex ρ' H' ⟨rfl, rfl, h5⟩ hf
  have f1 := hf 1 rfl
  have f2 := hf 2 rfl
  simp only [seval, push_cast] at f1 f2
  clear hf
  all_goals try (refine zs ?_; repeat' first | apply zs0 | apply zs2 | (intro hc; try have hq := dq hc))
  refine lp_then (lp_any (c := loopAt Tryz.f37 1) rfl (k1 _ _ ⟨trivial, by (simp only [seval, push_cast, *] <;> rfl), by (simp only [seval, push_cast, *] <;> rfl), by (simp only [seval, push_cast, *] <;> rfl)⟩)) ?_
  clear k1
  rintro ex ρ'' H' ⟨rfl, rfl, g5⟩ hf
  have g1 := hf 1 rfl
  have g2 := hf 2 rfl
  simp only [seval, push_cast] at g1 g2
  rw [f1] at g1
  rw [f2] at g2
  clear hf f1 f2 h5
  cases c1 : decide (s ≤ 8)
  · all_goals try (refine zs ?_; repeat' first | apply zs0 | apply zs2 | (intro hc; try have hq := dq hc))
  cases c2 : decide ((ins.length : Int) ≤ 4)
  · all_goals try (refine zs ?_; repeat' first | apply zs0 | apply zs2 | (intro hc; try have hq := dq hc))
  cases c3 : decide ((a.nodes.length : Int) ≤ 60)
  · all_goals try (refine zs ?_; repeat' first | apply zs0 | apply zs2 | (intro hc; try have hq := dq hc))
  cases c4 : decide ((b.nodes.length : Int) ≤ 60)
  · all_goals try (refine zs ?_; repeat' first | apply zs0 | apply zs2 | (intro hc; try have hq := dq hc))
  · all_goals try (refine zs ?_; repeat' first | apply zs0 | apply zs2 | (intro hc; try have hq := dq hc))

end Go.E
/- Contracts of the references, in E: all reached states in order; the law's guard. Own work. -/
namespace Go.E
open Go.Proofs
set_option maxRecDepth 100000
set_option maxHeartbeats 4000000
def rfV : Option (List (List Int)) → V
  | none => .tuple [.list [], .bool false]
  | some l => .tuple [.list ((sortL l).map encInts), .bool true]
theorem rf_reached (bs : List Nat) (H : Heap) (n : Netl) (ins : List (List Int)) (hS : Small n) (hk : NetOk n) (hin : ins.length ≤ 1000) (hok : ∀ x ∈ ins, inErrS n x = 0) : callw X bs 44 [encNetl n, .list (ins.map encInts)] H = some (rfV (reachGo n ins 302 0 [resetN n]), H) := by
  refine call_at (rs := [.tmp 4, .tmp 5]) (N := 90) (fn := Tryz.f44) xk44 xf44 rfl rfl rfl (by simp only [seval, push_cast, List.map_cons, List.map_nil, V.norm, norm1]; rfl) ?_
  have h3 : ∀ bs H, callw X bs 17 [encNetl n] H = some (.list ((resetN n).map (.int .i64)), H) := fun bs H => by
    rw [bs_netResets bs H n hS.regs]; simp [resetN]
  have hr : RegOk n (resetN n) := regOk_reset hk
  have k1 := fun a1 bs ρ J => rf_out n H a1 ins hS hk hin hok (reachGo n ins 302 0 [resetN n]) bs ([resetN n], 0) ρ (H ++ .cells (cellsNetl n) :: a1 :: .tok [resetN n].length :: J)
  have e0 : Kp (reachGo n ins (302 - 0) 0 [resetN n] = reachGo n ins 302 0 [resetN n]) := ⟨rfl⟩
  have hr1 : Kp (∀ x ∈ [resetN n], RegOk n x) := ⟨fun x hx => by rw [List.mem_singleton] at hx; exact hx ▸ hr⟩
  have hreg : Kp (∀ l : List (List Int), (∀ x ∈ l, RegOk n x) → ∀ x ∈ l, x.length ≤ 1000000) := ⟨fun l h x hx => by have := reg_len hS (h x hx); omega⟩
  simp only [encNetl, cellsNetl, encInts] at h3 k1
  generalize reachGo n ins 302 0 [resetN n] = R at k1 e0 ⊢
  generalize resetN n = s at h3 k1 e0 hr1
  have r24 : 24 ≤ roomB := by unfold roomB; omega
  clear hS hk hin hok hr
  repeat' first
   | (apply z50 (id := 8) (ord := [0, 1, 2, 3, 4, 5, 6, 7, 8, 9, 10, 11, 12, 13, 14]) <;> first | kernel_rfl | skip)
   | (apply z50 (id := 18) (ord := [0, 1, 2, 3, 4, 5, 6, 7, 8, 9, 10, 11, 12, 13]) <;> first | kernel_rfl | skip)
   | (apply z50 (id := 20) (ord := [0, 1, 2, 3, 4, 5, 6, 7, 8, 9, 10, 11, 12, 13]) <;> first | kernel_rfl | skip)
   | (refine zs ?_; repeat' first | apply zs0 | apply zs2 | (intro hc; try have hq := dq hc)) | fail
  refine lp_then (lp_any (c := loopAt Tryz.f44 0) rfl (k1 _ _ _ [] ⟨[], rfl, by simp, hr1.out, by simp, by simp, by (simp only [seval, push_cast, *] <;> rfl), by (simp only [seval, push_cast, *] <;> rfl), by (simp only [seval, push_cast, *] <;> rfl), by (simp only [seval, push_cast, *] <;> rfl), by first | exact e0 | exact ⟨trivial⟩⟩)) ?_
  clear k1 hr1 e0
  rintro ex ρ' H' ⟨l, J, rfl, ⟨rfl, rfl, g1, g0, g2, q6⟩ | ⟨rfl, rfl, ⟨t, q4⟩, q5⟩⟩ hf
  · have kx := fun a1 bs ρ => rf_ins H J (.cells (cellsNetl n)) a1 l g1 (hreg.out l g2) bs 0 ρ (H ++ .cells (cellsNetl n) :: a1 :: .tok l.length :: (J ++ [.tok 0])) (by omega)
    replace g0 := Kp.mk g0
    have hs : Kp (l.foldl insOne [] = sortL l) := ⟨insAll_sort l⟩
    simp only [rfV, cellsNetl] at kx ⊢
    clear hf g1 g2 hreg r24
    repeat' first
     | (apply z50 (id := 8) (ord := [0, 1, 2, 3, 4, 5, 6, 7, 8, 9, 10, 11, 12, 13, 14]) <;> first | kernel_rfl | skip)
     | (apply z50 (id := 18) (ord := [0, 1, 2, 3, 4, 5, 6, 7, 8, 9, 10, 11, 12, 13]) <;> first | kernel_rfl | skip)
     | (apply z50 (id := 20) (ord := [0, 1, 2, 3, 4, 5, 6, 7, 8, 9, 10, 11, 12, 13]) <;> first | kernel_rfl | skip)
     | (refine zs ?_; repeat' first | apply zs0 | apply zs2 | (intro hc; try have hq := dq hc)) | fail
    refine lp_then (lp_any (c := loopAt Tryz.f44 2) rfl (kx _ _ _ ⟨[], (by first | rfl | trivial), (by first | rfl | trivial), by simp, by (simp only [seval, push_cast, *] <;> rfl), by (simp only [seval, push_cast, *] <;> rfl), .inl ⟨(by first | rfl | trivial), (by first | rfl | trivial), by (simp only [seval, push_cast, *] <;> rfl)⟩⟩)) ?_
    clear kx q6
    rintro ex ρ'' H'' ⟨rfl, os, hos, hol, ⟨h0, -, -⟩ | ⟨h0, u0, ver, J2, rfl, q11⟩⟩ hf
    · have := g0.out; omega
    · rw [hs.out] at hos
      rw [← hos]
      have e1 : List.take os.length (List.map encInts os) = List.map encInts os := List.take_of_length_le (by simp)
      have ep : V.pureL (List.map encInts os) = true := pureL_encInts _
      clear hf g0 hs hos hol h0
      repeat' first
       | (apply z50 (id := 8) (ord := [0, 1, 2, 3, 4, 5, 6, 7, 8, 9, 10, 11, 12, 13, 14]) <;> first | kernel_rfl | skip)
       | (apply z50 (id := 18) (ord := [0, 1, 2, 3, 4, 5, 6, 7, 8, 9, 10, 11, 12, 13]) <;> first | kernel_rfl | skip)
       | (apply z50 (id := 20) (ord := [0, 1, 2, 3, 4, 5, 6, 7, 8, 9, 10, 11, 12, 13]) <;> first | kernel_rfl | skip)
       | (refine zs ?_; repeat' first | apply zs0 | apply zs2 | (intro hc; try have hq := dq hc)) | fail
  · simp only [rfV]
    clear hf hreg
    repeat' first
     | (apply z50 (id := 8) (ord := [0, 1, 2, 3, 4, 5, 6, 7, 8, 9, 10, 11, 12, 13, 14]) <;> first | kernel_rfl | skip)
     | (apply z50 (id := 18) (ord := [0, 1, 2, 3, 4, 5, 6, 7, 8, 9, 10, 11, 12, 13]) <;> first | kernel_rfl | skip)
     | (apply z50 (id := 20) (ord := [0, 1, 2, 3, 4, 5, 6, 7, 8, 9, 10, 11, 12, 13]) <;> first | kernel_rfl | skip)
     | (refine zs ?_; repeat' first | apply zs0 | apply zs2 | (intro hc; try have hq := dq hc)) | fail

end Go.E
/- NetlistReached, in E: the guard. Own work. -/
namespace Go.E
open Go.Proofs
set_option maxRecDepth 100000
set_option maxHeartbeats 4000000
def light1S (a : Netl) (ins : List (List Int)) : Bool := decide (wsum a.regs ≤ 7) && (decide ((ins.length : Int) ≤ 4) && decide ((a.nodes.length : Int) ≤ 40))
theorem l1_loop0 (a : Netl) (H : Heap) (hw : ∀ r ∈ a.regs, 1 ≤ r.width ∧ r.width ≤ 16) (hl : a.regs.length ≤ 1000) (bs : List Nat) : ∀ i ρ H', i ≤ a.regs.length → (H' = H ++ [.cells (cellsNetl a)] ∧ ρ 2 = .ptr H.length 0 ∧ ρ 5 = .int .i64 (wsum (a.regs.take i)) ∧ ρ 6 = .int .i64 i) →
      Lp X ⟨35, bs⟩ (loopAt Tryz.f42 0) ρ H' fun ex ρ' H' => H' = H ++ [.cells (cellsNetl a)] ∧ ex = .exit 0 ∧ ρ' 5 = .int .i64 (wsum a.regs) := by
  refine loop_up ?_ ?_
  · rintro i ρ H' hi ⟨rfl, h2, h5, h6⟩
    have hget : a.regs[i]? = some a.regs[i] := by simp [hi]
    have hx := hw _ (List.getElem_mem hi)
    have hb := wsum_bd (l := a.regs.take i) fun r hr => hw r (List.mem_of_mem_take hr)
    have htk : a.regs.take (i + 1) = a.regs.take i ++ [a.regs[i]] := by rw [List.take_add_one, hget]; rfl
    have hs : Kp (wsum (a.regs.take (i + 1)) = wsum (a.regs.take i) + (a.regs[i]).width) := ⟨by rw [htk, wsum_snoc]⟩
    have hlt : (a.regs.take i).length ≤ 1000 := by simp; omega
    generalize a.regs[i] = r at hget hx hs htk
    generalize wsum (a.regs.take i) = s at h5 hb hs
    have hwr : IntKind.i64.wrap (s + r.width) = s + r.width := by rw [wrap64] <;> omega
    have hw1 := add1 i a.regs.length hi (by omega)
    simp only [cellsNetl, List.cons_append, List.nil_append]
    clear hx hb htk hlt hw
    conv => arg 3; whnf
    all_goals try (refine zs ?_; repeat' first | apply zs0 | apply zs2 | (intro hc; try have hq := dq hc))
    exact ⟨by (simp only [seval, push_cast, *] <;> rfl), by (simp only [seval, push_cast, *] <;> rfl), by rw [hs.out]; (simp only [seval, push_cast, *] <;> rfl), by (simp only [seval, push_cast, *] <;> rfl)⟩
  · rintro ρ H' ⟨rfl, h2, h5, h6⟩
    rw [List.take_length] at h5
    simp only [cellsNetl, List.cons_append, List.nil_append]
    clear hw
    conv => arg 3; whnf
    all_goals try (refine zs ?_; repeat' first | apply zs0 | apply zs2 | (intro hc; try have hq := dq hc))
    exact ⟨by (simp only [seval, push_cast, *] <;> rfl), rfl, by (simp only [seval, push_cast, *] <;> rfl)⟩
theorem la_light1 (bs : List Nat) (H : Heap) (a : Netl) (ins : List (List Int)) (hSa : Small a) (hka : NetOk a) : callw X bs 42 [encNetl a, .list (ins.map encInts)] H = some (.bool (light1S a ins), H) := by
  refine call_at (rs := [.tmp 4]) (N := 35) (fn := Tryz.f42) xk42 xf42 rfl rfl rfl (by simp only [seval, push_cast, List.map_cons, List.map_nil, V.norm, norm1]; rfl) ?_
  have k0 := fun bs ρ => l1_loop0 a H (regs_w hka) hSa.regs bs 0 ρ (H ++ [.cells (cellsNetl a)]) (by omega)
  have e0 : Kp (wsum (a.regs.take 0) = 0) := ⟨rfl⟩
  unfold light1S
  simp only [cellsNetl, List.cons_append, List.nil_append] at k0
  rw [e0.out] at k0
  clear e0 hSa hka
  generalize wsum a.regs = s at k0 ⊢
  all_goals try (refine zs ?_; repeat' first | apply zs0 | apply zs2 | (intro hc; try have hq := dq hc))
  refine lp_then (lp_any (c := loopAt Tryz.f42 0) rfl (k0 _ _ ⟨by first | rfl | trivial, by (simp only [seval, push_cast, *] <;> rfl), by (simp only [seval, push_cast, *] <;> rfl), by (simp only [seval, push_cast, *] <;> rfl)⟩)) ?_
  clear k0
  rintro ex ρ' H' ⟨rfl, rfl, h5⟩ hf
  have f1 := hf 1 rfl
  have f2 := hf 2 rfl
  simp only [seval, push_cast] at f1 f2
  clear hf
  cases c1 : decide (s ≤ 7)
  · all_goals try (refine zs ?_; repeat' first | apply zs0 | apply zs2 | (intro hc; try have hq := dq hc))
  · cases c2 : decide ((ins.length : Int) ≤ 4)
    · all_goals try (refine zs ?_; repeat' first | apply zs0 | apply zs2 | (intro hc; try have hq := dq hc))
    · all_goals try (refine zs ?_; repeat' first | apply zs0 | apply zs2 | (intro hc; try have hq := dq hc))

end Go.E
