/- What 'few' asks. Own work. -/
import Derived.Test.YtbnakdpmjlcneaaGreatP5
import Derived.Test.YtbnakdpmjlcneaaGreatP7
import Derived.Test.YtbnakdpmjlcneaaGreatP9
import Derived.Test.YtbnakdpmjlcneaaGreatP13
import Derived.Test.YtbnakdpmjlcneaaGreatP4
set_option linter.all false
namespace Go.E
theorem small_of {n : Netl} (h : fewSizes n) (ha : fewAll n = true) : Small n := by
  obtain ⟨a1, a2, a3, a4, a5, a6⟩ := h
  simp only [fewAll, Bool.and_eq_true, List.all_eq_true, decide_eq_true_eq] at ha
  obtain ⟨b1, b2, b3, b4⟩ := ha
  exact ⟨by omega, by omega, by omega, by omega, by omega, fun p hp => by have := b2 p hp; omega, fun p hp => by have := b3 p hp; omega, fun p hp => by have := b4 p hp; omega, fun p hp => by have := b1 p hp; omega⟩
end Go.E
/- NetlistProofs, in E: the law answers true. Own work. -/
namespace Go.E
open Go.Proofs
set_option maxRecDepth 100000
set_option maxHeartbeats 8000000
def few45 (p : NPair) : Bool := decide (p.a.length ≤ 45) && decide (p.b.length ≤ 45)
theorem lp_few (l : List NPair) (c : HObj) (hl : l.length ≤ 302) (R : Bool) (bs : List Nat) : ∀ i ρ H', i ≤ l.length → (H' = [c] ∧ ρ 2 = .list (l.map encPair) ∧ ρ 7 = .int .i64 i ∧ Kp ((l.drop i).all few45 = R)) →
      Lp X ⟨113, bs⟩ (loopAt Tryz.f6 0) ρ H' fun ex ρ' H' => H' = [c] ∧ ((ex = .exit 0 ∧ R = true) ∨ (ex = .ret ∧ ρ' 6 = .bool true)) := by
  refine loop_up ?_ ?_
  · rintro i ρ H' hi ⟨rfl, h2, h7, hR⟩
    have hget : l[i]? = some l[i] := by simp [hi]
    replace hR := hR.out
    rw [drop_cons hget, List.all_cons] at hR
    generalize l[i] = p at hget hR
    have hw := add1 i l.length hi (by omega)
    unfold few45 at hR
    by_cases h1 : p.a.length ≤ 45
    · have d1 : decide ((p.a.length : Int) > 45) = false := decide_eq_false (by omega)
      rw [decide_eq_true h1, Bool.true_and] at hR
      by_cases h2' : p.b.length ≤ 45
      · have d2 : decide ((p.b.length : Int) > 45) = false := decide_eq_false (by omega)
        rw [decide_eq_true h2', Bool.true_and] at hR
        have g : Kp ((l.drop (i + 1)).all few45 = R) := ⟨hR⟩
        clear hR h1 h2'
        conv => arg 3; whnf
        repeat' first
         | (apply z51 (id := 10) (ord := [0, 1, 3, 4, 6, 8, 2, 5, 7, 9, 10, 11, 12, 13, 14, 15]) (ps := [(3, 6)]) <;> first | kernel_rfl | skip)
         | (refine zs ?_; repeat' first | apply zs0 | apply zs2 | (intro hc; try have hq := dq hc)) | fail
        exact ⟨rfl, by (simp only [seval, push_cast, *] <;> rfl), by (simp only [seval, push_cast, *] <;> rfl), g⟩
      · have d2 : decide ((p.b.length : Int) > 45) = true := decide_eq_true (by omega)
        clear hR h1 h2'
        conv => arg 3; whnf
        repeat' first
         | (apply z51 (id := 10) (ord := [0, 1, 3, 4, 6, 8, 2, 5, 7, 9, 10, 11, 12, 13, 14, 15]) (ps := [(3, 6)]) <;> first | kernel_rfl | skip)
         | (refine zs ?_; repeat' first | apply zs0 | apply zs2 | (intro hc; try have hq := dq hc)) | fail
        exact ⟨rfl, .inr ⟨rfl, by (simp only [seval, push_cast, *] <;> rfl)⟩⟩
    · have d1 : decide ((p.a.length : Int) > 45) = true := decide_eq_true (by omega)
      clear hR h1
      conv => arg 3; whnf
      repeat' first
       | (apply z51 (id := 10) (ord := [0, 1, 3, 4, 6, 8, 2, 5, 7, 9, 10, 11, 12, 13, 14, 15]) (ps := [(3, 6)]) <;> first | kernel_rfl | skip)
       | (refine zs ?_; repeat' first | apply zs0 | apply zs2 | (intro hc; try have hq := dq hc)) | fail
      exact ⟨rfl, .inr ⟨rfl, by (simp only [seval, push_cast, *] <;> rfl)⟩⟩
  · rintro ρ H' ⟨rfl, h2, h7, hR⟩
    replace hR := hR.out
    rw [List.drop_length, List.all_nil] at hR
    replace hR := Kp.mk hR
    conv => arg 3; whnf
    repeat' first
     | (apply z51 (id := 10) (ord := [0, 1, 3, 4, 6, 8, 2, 5, 7, 9, 10, 11, 12, 13, 14, 15]) (ps := [(3, 6)]) <;> first | kernel_rfl | skip)
     | (refine zs ?_; repeat' first | apply zs0 | apply zs2 | (intro hc; try have hq := dq hc)) | fail
    exact ⟨rfl, .inl ⟨rfl, hR.out.symm⟩⟩

theorem la_proofs (a b : Netl) (ins : List (List Int)) (l : List NPair) : callw X [] 6 [encTwo a b, .list (ins.map encInts), .list (l.map encPair)] [] = some (.bool true, []) := by
  refine call_at (rs := [.tmp 6]) (N := 113) (fn := Tryz.f6) xk6 xf6 rfl rfl rfl (by simp only [seval, push_cast, List.map_cons, List.map_nil, V.norm, norm1]; rfl) ?_
  have t0 := la_awake (cellsNetl a ++ cellsNetl b)
  simp only [cellsNetl, List.cons_append, List.nil_append] at t0
  -- the guards
  by_cases ha : fewSizes a
  case neg =>
    have t1 := fun bs H => la_few_big bs H a ha
    simp only [encNetl, cellsNetl] at t1
    clear ha
    repeat' first
     | (apply z51 (id := 10) (ord := [0, 1, 3, 4, 6, 8, 2, 5, 7, 9, 10, 11, 12, 13, 14, 15]) (ps := [(3, 6)]) <;> first | kernel_rfl | skip)
     | (refine zs ?_; repeat' first | apply zs0 | apply zs2 | (intro hc; try have hq := dq hc)) | fail
  have t1 := fun bs H => la_few bs H a ha
  simp only [encNetl, cellsNetl] at t1
  cases haf : fewAll a with
  | false =>
    rw [haf] at t1
    clear ha haf
    repeat' first
     | (apply z51 (id := 10) (ord := [0, 1, 3, 4, 6, 8, 2, 5, 7, 9, 10, 11, 12, 13, 14, 15]) (ps := [(3, 6)]) <;> first | kernel_rfl | skip)
     | (refine zs ?_; repeat' first | apply zs0 | apply zs2 | (intro hc; try have hq := dq hc)) | fail
  | true =>
  rw [haf] at t1
  have hSa := small_of ha haf
  clear ha haf
  by_cases hb : fewSizes b
  case neg =>
    have t2 := fun bs H => la_few_big bs H b hb
    simp only [encNetl, cellsNetl] at t2
    clear hb hSa
    repeat' first
     | (apply z51 (id := 10) (ord := [0, 1, 3, 4, 6, 8, 2, 5, 7, 9, 10, 11, 12, 13, 14, 15]) (ps := [(3, 6)]) <;> first | kernel_rfl | skip)
     | (refine zs ?_; repeat' first | apply zs0 | apply zs2 | (intro hc; try have hq := dq hc)) | fail
  have t2 := fun bs H => la_few bs H b hb
  simp only [encNetl, cellsNetl] at t2
  cases hbf : fewAll b with
  | false =>
    rw [hbf] at t2
    clear hb hbf hSa
    repeat' first
     | (apply z51 (id := 10) (ord := [0, 1, 3, 4, 6, 8, 2, 5, 7, 9, 10, 11, 12, 13, 14, 15]) (ps := [(3, 6)]) <;> first | kernel_rfl | skip)
     | (refine zs ?_; repeat' first | apply zs0 | apply zs2 | (intro hc; try have hq := dq hc)) | fail
  | true =>
  rw [hbf] at t2
  have hSb := small_of hb hbf
  clear hb hbf
  have u1 := fun bs H => la_fewLists bs H ins 18 (by omega)
  simp only [show ((18 : Nat) : Int) = 18 from rfl] at u1
  by_cases hq : ins.length ≤ 18 ∧ ins.all (fun x => decide (x.length ≤ 45)) = true
  case neg =>
    have hb : (decide (ins.length ≤ 18) && ins.all (fun x => decide (x.length ≤ 45))) = false := by
      cases hh : (decide (ins.length ≤ 18) && ins.all (fun x => decide (x.length ≤ 45))) with
      | false => rfl
      | true => exact absurd ⟨of_decide_eq_true (Bool.and_eq_true_iff.1 hh).1, (Bool.and_eq_true_iff.1 hh).2⟩ hq
    rw [hb] at u1
    clear hSa hSb hq hb
    repeat' first
     | (apply z51 (id := 10) (ord := [0, 1, 3, 4, 6, 8, 2, 5, 7, 9, 10, 11, 12, 13, 14, 15]) (ps := [(3, 6)]) <;> first | kernel_rfl | skip)
     | (refine zs ?_; repeat' first | apply zs0 | apply zs2 | (intro hc; try have hq := dq hc)) | fail
  have hb : (decide (ins.length ≤ 18) && ins.all (fun x => decide (x.length ≤ 45))) = true := by rw [decide_eq_true hq.1, hq.2]; rfl
  rw [hb] at u1
  have hin : ins.length ≤ 18 := hq.1
  have hil : ∀ x ∈ ins, x.length ≤ 100000 := fun x hx => by have : x.length ≤ 45 := of_decide_eq_true (List.all_eq_true.1 hq.2 x hx); omega
  clear hq hb
  by_cases h302 : l.length ≤ 302
  case neg =>
    have d : decide ((l.length : Int) > 302) = true := decide_eq_true (by omega)
    clear hSa hSb hin hil h302
    repeat' first
     | (apply z51 (id := 10) (ord := [0, 1, 3, 4, 6, 8, 2, 5, 7, 9, 10, 11, 12, 13, 14, 15]) (ps := [(3, 6)]) <;> first | kernel_rfl | skip)
     | (refine zs ?_; repeat' first | apply zs0 | apply zs2 | (intro hc; try have hq := dq hc)) | fail
  have d : decide ((l.length : Int) > 302) = false := decide_eq_false (by omega)
  have v1 := fun bs H => la_err bs H a b ins hSa hSb (by omega) hil
  simp only [encTwo, cellsNetl, List.cons_append, List.nil_append] at v1
  have k1 := fun bs ρ H' => lp_few l (.cells (cellsNetl a ++ cellsNetl b)) h302 (l.all few45) bs 0 ρ H' (by omega)
  have e0 : Kp ((l.drop 0).all few45 = l.all few45) := ⟨by rw [List.drop_zero]⟩
  have w1 := fun bs H => bs_copyNet bs H a hSa
  have w2 := fun bs H => bs_copyNet bs H b hSb
  have w3 := fun bs H => bs_copyLists bs H ins (by omega) hil
  have hall : l.all few45 = true → ∀ x ∈ l, PLen x := fun h x hx => by
    have := List.all_eq_true.1 h x hx
    unfold few45 at this
    rw [Bool.and_eq_true, decide_eq_true_eq, decide_eq_true_eq] at this
    exact ⟨by omega, by omega⟩
  have w4 := fun h bs H => rf_copyPairs bs H l (by omega) (hall h)
  have w5 := fun h bs H => nl_checkSame bs H a b ins l hSa hSb (by omega) hil (by omega) (hall h)
  simp only [encNetl, cellsNetl, List.cons_append, List.nil_append] at w1 w2 w5 k1
  by_cases e : bothErrS a b ins = 0
  case neg =>
    have es : sameErrS a b ins l = (0, bothErrS a b ins) := if_pos e
    rw [es] at w5
    generalize bothErrS a b ins = c at v1 w5 e
    generalize l.all few45 = R at k1 e0 w4 w5
    clear hSa hSb hin hil hall es h302
    repeat' first
     | (apply z51 (id := 10) (ord := [0, 1, 3, 4, 6, 8, 2, 5, 7, 9, 10, 11, 12, 13, 14, 15]) (ps := [(3, 6)]) <;> first | kernel_rfl | skip)
     | (refine zs ?_; repeat' first | apply zs0 | apply zs2 | (intro hc; try have hq := dq hc)) | fail
    refine lp_then (lp_any (c := loopAt Tryz.f6 0) rfl (k1 _ _ _ ⟨by first | rfl | trivial, by (simp only [seval, push_cast, *] <;> rfl), by (simp only [seval, push_cast, *] <;> rfl), e0⟩)) ?_
    clear k1 e0
    rintro ex ρ' H' ⟨rfl, ⟨rfl, rfl⟩ | ⟨rfl, g6⟩⟩ hf
    rotate_left
    · clear hf
      repeat' first
       | (apply z51 (id := 10) (ord := [0, 1, 3, 4, 6, 8, 2, 5, 7, 9, 10, 11, 12, 13, 14, 15]) (ps := [(3, 6)]) <;> first | kernel_rfl | skip)
       | (refine zs ?_; repeat' first | apply zs0 | apply zs2 | (intro hc; try have hq := dq hc)) | fail
    have f1 := hf 1 rfl
    have f2 := hf 2 rfl
    have f3 := hf 3 rfl
    simp only [seval, push_cast] at f1 f2 f3
    simp only [forall_const] at w4 w5
    clear hf
    repeat' first
     | (apply z51 (id := 10) (ord := [0, 1, 3, 4, 6, 8, 2, 5, 7, 9, 10, 11, 12, 13, 14, 15]) (ps := [(3, 6)]) <;> first | kernel_rfl | skip)
     | (refine zs ?_; repeat' first | apply zs0 | apply zs2 | (intro hc; try have hq := dq hc)) | fail
  obtain ⟨q1, q2, q3, q4⟩ := both_ok e
  have hka := net_ok q1
  have hkb := net_ok q2
  have v2 := fun bs H => la_light bs H a b ins hSa hSb hka hkb
  simp only [encTwo, cellsNetl, List.cons_append, List.nil_append] at v2
  rw [e] at v1
  cases hlt : lightS a b ins with
  | false =>
    rw [hlt] at v2
    clear hSa hSb hin hil hall h302 w1 w2 w3 w4 w5 k1 e0 e q1 q2 q3 q4 hka hkb hlt
    repeat' first
     | (apply z51 (id := 10) (ord := [0, 1, 3, 4, 6, 8, 2, 5, 7, 9, 10, 11, 12, 13, 14, 15]) (ps := [(3, 6)]) <;> first | kernel_rfl | skip)
     | (refine zs ?_; repeat' first | apply zs0 | apply zs2 | (intro hc; try have hq := dq hc)) | fail
  | true =>
  rw [hlt] at v2
  have es : sameErrS a b ins l = pairsErrS a b ins l := if_neg (by simpa using e)
  have w6 := fun h bs H => rf_checkSame bs H a b ins l hSa hSb hka hkb (lists_in q4) (fun x hx => by rw [clash_in q3]; exact lists_in q4 x hx) (by omega) (by omega) (hall h)
  rw [es] at w5
  simp only [encNetl, cellsNetl, List.cons_append, List.nil_append] at w6
  generalize pairsErrS a b ins l = r at w5 w6
  generalize l.all few45 = R at k1 e0 w4 w5 w6
  clear hSa hSb hin hil hall es h302 e q1 q2 q3 q4 hka hkb hlt
  repeat' first
   | (apply z51 (id := 10) (ord := [0, 1, 3, 4, 6, 8, 2, 5, 7, 9, 10, 11, 12, 13, 14, 15]) (ps := [(3, 6)]) <;> first | kernel_rfl | skip)
   | (refine zs ?_; repeat' first | apply zs0 | apply zs2 | (intro hc; try have hq := dq hc)) | fail
  refine lp_then (lp_any (c := loopAt Tryz.f6 0) rfl (k1 _ _ _ ⟨by first | rfl | trivial, by (simp only [seval, push_cast, *] <;> rfl), by (simp only [seval, push_cast, *] <;> rfl), e0⟩)) ?_
  clear k1 e0
  rintro ex ρ' H' ⟨rfl, ⟨rfl, rfl⟩ | ⟨rfl, g6⟩⟩ hf
  rotate_left
  · clear hf
    repeat' first
     | (apply z51 (id := 10) (ord := [0, 1, 3, 4, 6, 8, 2, 5, 7, 9, 10, 11, 12, 13, 14, 15]) (ps := [(3, 6)]) <;> first | kernel_rfl | skip)
     | (refine zs ?_; repeat' first | apply zs0 | apply zs2 | (intro hc; try have hq := dq hc)) | fail
  have f1 := hf 1 rfl
  have f2 := hf 2 rfl
  have f3 := hf 3 rfl
  simp only [seval, push_cast] at f1 f2 f3
  simp only [forall_const] at w4 w5 w6
  clear hf
  repeat' first
   | (apply z51 (id := 10) (ord := [0, 1, 3, 4, 6, 8, 2, 5, 7, 9, 10, 11, 12, 13, 14, 15]) (ps := [(3, 6)]) <;> first | kernel_rfl | skip)
   | (refine zs ?_; repeat' first | apply zs0 | apply zs2 | (intro hc; try have hq := dq hc)) | fail
end Go.E
/- Two netlists, and pairs of states, as a row reads them. Own work. -/
namespace Go.E
open Go.Proofs
set_option maxRecDepth 100000
theorem dec_pair (n : Nat) (xs : List V) (h : CellsT Tryz.prog (n + 3) 69 xs) : ∃ p : NPair, V.agg xs = encPair p := by
  unfold CellsT at h
  simp only [Tryz.underlying69, FieldsT] at h
  obtain ⟨_, _, rfl, h1, _, _, rfl, h2, rfl⟩ := h
  obtain ⟨a, rfl⟩ := dec_ints n _ h1
  obtain ⟨b, rfl⟩ := dec_ints n _ h2
  exact ⟨⟨a, b⟩, rfl⟩
theorem dec_pairs (n : Nat) (xs : List V) (h : CellsT Tryz.prog (n + 4) 65 xs) : ∃ l : List NPair, xs = [.list (l.map encPair)] :=
  dec_list (f := encPair) Tryz.underlying65 (by rw [Tryz.underlying69]; rfl) (fun ys hy => dec_pair n ys hy) h
theorem dec_two (n : Nat) (xs : List V) (h : CellsT Tryz.prog (n + 6) 64 xs) : ∃ t : Netl × Netl, xs = cellsNetl t.1 ++ cellsNetl t.2 := by
  unfold CellsT at h
  simp only [Tryz.underlying64, FieldsT] at h
  obtain ⟨_, _, rfl, h1, _, _, rfl, h2, rfl⟩ := h
  obtain ⟨a, rfl⟩ := dec_netl n _ h1
  obtain ⟨b, rfl⟩ := dec_netl n _ h2
  exact ⟨(a, b), by simp⟩
theorem la_proofs2 (t : Netl × Netl) (ins : List (List Int)) (l : List NPair) : callw X [] 6 [.agg (cellsNetl t.1 ++ cellsNetl t.2), .list (ins.map encInts), .list (l.map encPair)] [] = some (.bool true, []) := la_proofs t.1 t.2 ins l
end Go.E
/- slices.Clone, in E without what is known: of a list that is not empty. Own work. -/
namespace Go.E
open Go.Proofs
set_option maxRecDepth 100000
set_option maxHeartbeats 4000000
theorem clone_port (bs : List Nat) (H : Heap) (L es : List V) (h0 : binOpV Tryz.prog .eql 22 (.list L) .nilS = some (.bool false)) (h1 : List.mapM (takeElem 2) L = some es) (h2 : es.length * 24 ≤ roomB) (h3 : V.pureL es = true) :
    callw X0 bs 101 [.list L] H = some (.list es, H) := by
  refine call_at (rs := [.tmp 2]) (N := 8) (fn := Tryz.f101) rfl xf101 rfl rfl rfl (by simp only [seval, push_cast, List.map_cons, List.map_nil, V.norm, norm1]; rfl) ?_
  have x1 : X0.P = Tryz.prog := rfl
  all_goals try (refine zs ?_; repeat' first | apply zs0 | apply zs2 | (intro hc; try have hq := dq hc))
end Go.E
