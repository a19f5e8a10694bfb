/- Contracts of the references' base, in E: netlists. Own work. -/
import Derived.Test.YtbnakdpmjlcneaaGreatP6
import Derived.Test.YtbnakdpmjlcneaaGreatP4
import Derived.KernelRfl
import Derived.Test.YtbnakdpmjlcneaaGreatP5
set_option linter.all false
namespace Go.E
open Go.Proofs
set_option maxRecDepth 100000
set_option maxHeartbeats 4000000

theorem ne_dup1 (bs : List Nat) (H : Heap) (n : Netl) (i : Nat) (r : Reg) (a b : Nat) (hr : n.regs[i]? = some r) (hl : n.regs.length ≤ 1000) (hl2 : n.inputs.length ≤ 1000) (hA : H[a]? = some (.cells (cellsNetl n))) (hB : H[b]? = some (.cells [.str r.name, .int .i64 r.width, .int .i64 r.init, .int .i64 r.enable, .int .i64 r.next])) (R : Bool) :
    ∀ j ρ H', j ≤ i → (H' = H ∧ ρ 1 = .ptr a 0 ∧ ρ 7 = .ptr b 0 ∧ ρ 6 = .int .i64 i ∧ ρ 8 = .int .i64 j ∧ Kp (((n.regs.take i).drop j).any (fun q => decide (q.name = r.name)) = R)) →
      Lp X ⟨155, bs⟩ (loopAt Tryz.f15 1) ρ H' fun ex ρ' H' => H' = H ∧ ((ex = .exit 2 ∧ R = false) ∨ (ex = .ret ∧ ρ' 2 = .int .i64 i ∧ ρ' 3 = .int .i64 5 ∧ R = true)) := by
  have hi := (List.getElem?_eq_some_iff.1 hr).1
  simp only [cellsNetl] at hA
  refine loop_up ?_ ?_
  · rintro j ρ H' hj ⟨rfl, h1, h7, h6, h8, hR⟩
    have hget : n.regs[j]? = some n.regs[j] := by simp [show j < n.regs.length by omega]
    have hget2 : (n.regs.take i)[j]? = some n.regs[j] := by rw [List.getElem?_take, if_pos hj]; exact hget
    generalize n.regs[j] = q at hget hget2
    have hw := add1 j i hj (by omega)
    replace hR := hR.out
    rw [drop_cons hget2, List.any_cons] at hR
    replace hR : Kp ((decide (q.name = r.name) || ((n.regs.take i).drop (j + 1)).any (fun q => decide (q.name = r.name))) = R) := ⟨hR⟩
    clear hget2 hr
    have hlt : (j : Int) < (i : Nat) := by omega
    conv => arg 3; whnf
    repeat' first
     | (apply z50 (id := 17) (ord := [0, 1, 2, 3, 4, 5, 6, 7, 8]) <;> first | kernel_rfl | skip)
     | (apply z50 (id := 22) (ord := [0, 1, 2, 3, 4, 5, 6, 7, 8]) <;> first | kernel_rfl | skip)
     | (apply z51 (id := 26) (ord := [0, 2, 3, 1, 4, 5, 6, 7, 8, 9]) (ps := [(2, 3)]) <;> first | kernel_rfl | skip)
     | (apply z50 (id := 35) (ord := [0, 1, 2, 3, 4, 5, 6, 7, 8, 9]) <;> first | kernel_rfl | skip)
     | (refine zs ?_; repeat' first | apply zs0 | apply zs2 | (intro hc; try have hq := dq hc)) | fail
    all_goals replace hR := hR.out
    · rw [hc] at hR
      exact ⟨rfl, .inr ⟨rfl, by (simp only [seval, push_cast, *] <;> rfl), by (simp only [seval, push_cast, *] <;> rfl), by rw [← hR]; rfl⟩⟩
    · rw [hc] at hR
      exact ⟨rfl, by (simp only [seval, push_cast, *] <;> rfl), by (simp only [seval, push_cast, *] <;> rfl), by (simp only [seval, push_cast, *] <;> rfl), by (simp only [seval, push_cast, *] <;> rfl), ⟨by rw [← hR]; rfl⟩⟩
  · rintro ρ H' ⟨rfl, h1, h7, h6, h8, hR⟩
    replace hR := hR.out
    rw [List.drop_of_length_le (by first | (simp; done) | (simp; omega)), List.any_nil] at hR
    replace hR : Kp (false = R) := ⟨hR⟩
    clear hr
    conv => arg 3; whnf
    repeat' first
     | (apply z50 (id := 17) (ord := [0, 1, 2, 3, 4, 5, 6, 7, 8]) <;> first | kernel_rfl | skip)
     | (apply z50 (id := 22) (ord := [0, 1, 2, 3, 4, 5, 6, 7, 8]) <;> first | kernel_rfl | skip)
     | (apply z51 (id := 26) (ord := [0, 2, 3, 1, 4, 5, 6, 7, 8, 9]) (ps := [(2, 3)]) <;> first | kernel_rfl | skip)
     | (apply z50 (id := 35) (ord := [0, 1, 2, 3, 4, 5, 6, 7, 8, 9]) <;> first | kernel_rfl | skip)
     | (refine zs ?_; repeat' first | apply zs0 | apply zs2 | (intro hc; try have hq := dq hc)) | fail
    exact ⟨rfl, .inl ⟨rfl, hR.out.symm⟩⟩

theorem ne_dup2 (bs : List Nat) (H : Heap) (n : Netl) (i : Nat) (r : Reg) (a b : Nat) (hr : n.regs[i]? = some r) (hl : n.regs.length ≤ 1000) (hl2 : n.inputs.length ≤ 1000) (hA : H[a]? = some (.cells (cellsNetl n))) (hB : H[b]? = some (.cells [.str r.name, .int .i64 r.width, .int .i64 r.init, .int .i64 r.enable, .int .i64 r.next])) (R : Bool) :
    ∀ j ρ H', j ≤ n.inputs.length → (H' = H ∧ ρ 1 = .ptr a 0 ∧ ρ 7 = .ptr b 0 ∧ ρ 6 = .int .i64 i ∧ ρ 9 = .int .i64 j ∧ Kp (((n.inputs).drop j).any (fun q => decide (q.name = r.name)) = R)) →
      Lp X ⟨155, bs⟩ (loopAt Tryz.f15 2) ρ H' fun ex ρ' H' => H' = H ∧ ((ex = .exit 4 ∧ R = false) ∨ (ex = .ret ∧ ρ' 2 = .int .i64 i ∧ ρ' 3 = .int .i64 5 ∧ R = true)) := by
  have hi := (List.getElem?_eq_some_iff.1 hr).1
  simp only [cellsNetl] at hA
  refine loop_up ?_ ?_
  · rintro j ρ H' hj ⟨rfl, h1, h7, h6, h8, hR⟩
    have hget : n.inputs[j]? = some n.inputs[j] := by simp [show j < n.inputs.length by omega]
    have hget2 : (n.inputs)[j]? = some n.inputs[j] := by exact hget
    generalize n.inputs[j] = q at hget hget2
    have hw := add1 j n.inputs.length hj (by omega)
    replace hR := hR.out
    rw [drop_cons hget2, List.any_cons] at hR
    replace hR : Kp ((decide (q.name = r.name) || ((n.inputs).drop (j + 1)).any (fun q => decide (q.name = r.name))) = R) := ⟨hR⟩
    clear hget2 hr
    have hlt : (j : Int) < (n.inputs.length : Nat) := by omega
    conv => arg 3; whnf
    repeat' first
     | (apply z50 (id := 17) (ord := [0, 1, 2, 3, 4, 5, 6, 7, 8]) <;> first | kernel_rfl | skip)
     | (apply z50 (id := 22) (ord := [0, 1, 2, 3, 4, 5, 6, 7, 8]) <;> first | kernel_rfl | skip)
     | (apply z51 (id := 26) (ord := [0, 2, 3, 1, 4, 5, 6, 7, 8, 9]) (ps := [(2, 3)]) <;> first | kernel_rfl | skip)
     | (apply z50 (id := 35) (ord := [0, 1, 2, 3, 4, 5, 6, 7, 8, 9]) <;> first | kernel_rfl | skip)
     | (refine zs ?_; repeat' first | apply zs0 | apply zs2 | (intro hc; try have hq := dq hc)) | fail
    all_goals replace hR := hR.out
    · rw [hc] at hR
      exact ⟨rfl, .inr ⟨rfl, by (simp only [seval, push_cast, *] <;> rfl), by (simp only [seval, push_cast, *] <;> rfl), by rw [← hR]; rfl⟩⟩
    · rw [hc] at hR
      exact ⟨rfl, by (simp only [seval, push_cast, *] <;> rfl), by (simp only [seval, push_cast, *] <;> rfl), by (simp only [seval, push_cast, *] <;> rfl), by (simp only [seval, push_cast, *] <;> rfl), ⟨by rw [← hR]; rfl⟩⟩
  · rintro ρ H' ⟨rfl, h1, h7, h6, h8, hR⟩
    replace hR := hR.out
    rw [List.drop_of_length_le (by first | (simp; done) | (simp; omega)), List.any_nil] at hR
    replace hR : Kp (false = R) := ⟨hR⟩
    clear hr
    conv => arg 3; whnf
    repeat' first
     | (apply z50 (id := 17) (ord := [0, 1, 2, 3, 4, 5, 6, 7, 8]) <;> first | kernel_rfl | skip)
     | (apply z50 (id := 22) (ord := [0, 1, 2, 3, 4, 5, 6, 7, 8]) <;> first | kernel_rfl | skip)
     | (apply z51 (id := 26) (ord := [0, 2, 3, 1, 4, 5, 6, 7, 8, 9]) (ps := [(2, 3)]) <;> first | kernel_rfl | skip)
     | (apply z50 (id := 35) (ord := [0, 1, 2, 3, 4, 5, 6, 7, 8, 9]) <;> first | kernel_rfl | skip)
     | (refine zs ?_; repeat' first | apply zs0 | apply zs2 | (intro hc; try have hq := dq hc)) | fail
    exact ⟨rfl, .inl ⟨rfl, hR.out.symm⟩⟩

theorem ne_regs (bs : List Nat) (H : Heap) (n : Netl) (hS : Small n) (R : Int × Int) :
    ∀ i ρ H', i ≤ n.regs.length → (∃ junk, H' = H ++ .cells (cellsNetl n) :: junk ∧ ρ 1 = .ptr H.length 0 ∧ ρ 6 = .int .i64 i ∧ Kp (eachP (regErrR n) i (n.regs.drop i) = R)) →
      Lp X ⟨155, bs⟩ (loopAt Tryz.f15 0) ρ H' fun ex ρ' H' => ∃ junk, H' = H ++ .cells (cellsNetl n) :: junk ∧ ((ex = .exit 0 ∧ R = (0, 0)) ∨ (ex = .ret ∧ ρ' 2 = .int .i64 R.1 ∧ ρ' 3 = .int .i64 R.2 ∧ R.2 ≠ 0)) := by
  have hr := hS.regs
  have hi2 := hS.inputs
  have hs := hS.rgn
  clear hS
  refine loop_up ?_ ?_
  · rintro i ρ H' hi ⟨junk, rfl, h1, h6, hR⟩
    have hget : n.regs[i]? = some n.regs[i] := by simp [hi]
    have hnm := fun bs H => bs_isName bs H n.regs[i].name (by have := hs _ (List.getElem_mem hi); omega)
    have hw := add1 i n.regs.length hi (by omega)
    replace hR := hR.out
    rw [drop_cons hget, eachP] at hR
    have hin1 := fun bs ρ => ne_dup1 bs (H ++ .cells (cellsNetl n) :: (junk ++ [.cells [.str n.regs[i].name, .int .i64 n.regs[i].width, .int .i64 n.regs[i].init, .int .i64 n.regs[i].enable, .int .i64 n.regs[i].next]])) n i n.regs[i] H.length (H.length + (junk.length + 1)) hget hr hi2 (by simp) (by simp) ((n.regs.take i).any (fun q => decide (q.name = n.regs[i].name))) 0 ρ
    have hin2 := fun bs ρ => ne_dup2 bs (H ++ .cells (cellsNetl n) :: (junk ++ [.cells [.str n.regs[i].name, .int .i64 n.regs[i].width, .int .i64 n.regs[i].init, .int .i64 n.regs[i].enable, .int .i64 n.regs[i].next]])) n i n.regs[i] H.length (H.length + (junk.length + 1)) hget hr hi2 (by simp) (by simp) (n.inputs.any (fun q => decide (q.name = n.regs[i].name))) 0 ρ
    generalize n.regs[i] = p at hget hnm hR hin1 hin2
    clear hs
    cases hN : isNameS p.name with
    | false =>
      have he : regErrR n i p = 4 := by unfold regErrR; rw [if_pos hN]
      rw [he, if_pos (by decide)] at hR
      replace hR : Kp (((i : Int), (4 : Int)) = R) := ⟨hR⟩
      clear he hin1 hin2
      conv => arg 3; whnf
      repeat' first
       | (apply z50 (id := 17) (ord := [0, 1, 2, 3, 4, 5, 6, 7, 8]) <;> first | kernel_rfl | skip)
       | (apply z50 (id := 22) (ord := [0, 1, 2, 3, 4, 5, 6, 7, 8]) <;> first | kernel_rfl | skip)
       | (apply z51 (id := 26) (ord := [0, 2, 3, 1, 4, 5, 6, 7, 8, 9]) (ps := [(2, 3)]) <;> first | kernel_rfl | skip)
       | (apply z50 (id := 35) (ord := [0, 1, 2, 3, 4, 5, 6, 7, 8, 9]) <;> first | kernel_rfl | skip)
       | (refine zs ?_; repeat' first | apply zs0 | apply zs2 | (intro hc; try have hq := dq hc)) | fail
      exact ⟨_, rfl, .inr ⟨rfl, by rw [← hR.out]; (simp only [seval, push_cast, *] <;> rfl), by rw [← hR.out]; (simp only [seval, push_cast, *] <;> rfl), by rw [← hR.out]; simp⟩⟩
    | true =>
    replace hR := Kp.mk hR
    conv => arg 3; whnf
    repeat' first
     | (apply z50 (id := 17) (ord := [0, 1, 2, 3, 4, 5, 6, 7, 8]) <;> first | kernel_rfl | skip)
     | (apply z50 (id := 22) (ord := [0, 1, 2, 3, 4, 5, 6, 7, 8]) <;> first | kernel_rfl | skip)
     | (apply z51 (id := 26) (ord := [0, 2, 3, 1, 4, 5, 6, 7, 8, 9]) (ps := [(2, 3)]) <;> first | kernel_rfl | skip)
     | (apply z50 (id := 35) (ord := [0, 1, 2, 3, 4, 5, 6, 7, 8, 9]) <;> first | kernel_rfl | skip)
     | (refine zs ?_; repeat' first | apply zs0 | apply zs2 | (intro hc; try have hq := dq hc)) | fail
    refine lp_then (lp_any (c := loopAt Tryz.f15 1) rfl (hin1 _ _ _ (by omega) ⟨rfl, by (simp only [seval, push_cast, *] <;> rfl), by (simp only [seval, push_cast, *] <;> rfl), by (simp only [seval, push_cast, *] <;> rfl), by (simp only [seval, push_cast, *] <;> rfl), ⟨rfl⟩⟩)) ?_
    clear hin1
    rintro ex ρ' H2 ⟨rfl, ⟨rfl, h2⟩ | ⟨rfl, h2, h3, h9⟩⟩ hf
    case inr =>
      replace hR := hR.out
      have he : regErrR n i p = 5 := by unfold regErrR; rw [if_neg (by simp [hN]), if_pos h9]
      rw [he, if_pos (by decide)] at hR
      replace hR : Kp (((i : Int), (5 : Int)) = R) := ⟨hR⟩
      clear he h9 hin2
      repeat' first
       | (apply z50 (id := 17) (ord := [0, 1, 2, 3, 4, 5, 6, 7, 8]) <;> first | kernel_rfl | skip)
       | (apply z50 (id := 22) (ord := [0, 1, 2, 3, 4, 5, 6, 7, 8]) <;> first | kernel_rfl | skip)
       | (apply z51 (id := 26) (ord := [0, 2, 3, 1, 4, 5, 6, 7, 8, 9]) (ps := [(2, 3)]) <;> first | kernel_rfl | skip)
       | (apply z50 (id := 35) (ord := [0, 1, 2, 3, 4, 5, 6, 7, 8, 9]) <;> first | kernel_rfl | skip)
       | (refine zs ?_; repeat' first | apply zs0 | apply zs2 | (intro hc; try have hq := dq hc)) | fail
      exact ⟨_, rfl, .inr ⟨rfl, by rw [← hR.out]; (simp only [seval, push_cast, *] <;> rfl), by rw [← hR.out]; (simp only [seval, push_cast, *] <;> rfl), by rw [← hR.out]; simp⟩⟩
    have f1 := hf 1 rfl
    have f6 := hf 6 rfl
    have f7 := hf 7 rfl
    simp only [seval, push_cast] at f1 f6 f7
    rw [h1] at f1
    rw [h6] at f6
    clear hf h1 h6
    repeat' first
     | (apply z50 (id := 17) (ord := [0, 1, 2, 3, 4, 5, 6, 7, 8]) <;> first | kernel_rfl | skip)
     | (apply z50 (id := 22) (ord := [0, 1, 2, 3, 4, 5, 6, 7, 8]) <;> first | kernel_rfl | skip)
     | (apply z51 (id := 26) (ord := [0, 2, 3, 1, 4, 5, 6, 7, 8, 9]) (ps := [(2, 3)]) <;> first | kernel_rfl | skip)
     | (apply z50 (id := 35) (ord := [0, 1, 2, 3, 4, 5, 6, 7, 8, 9]) <;> first | kernel_rfl | skip)
     | (refine zs ?_; repeat' first | apply zs0 | apply zs2 | (intro hc; try have hq := dq hc)) | fail
    refine lp_then (lp_any (c := loopAt Tryz.f15 2) rfl (hin2 _ _ _ (by omega) ⟨rfl, by (simp only [seval, push_cast, *] <;> rfl), by (simp only [seval, push_cast, *] <;> rfl), by (simp only [seval, push_cast, *] <;> rfl), by (simp only [seval, push_cast, *] <;> rfl), ⟨rfl⟩⟩)) ?_
    clear hin2
    rintro ex ρ2 H2 ⟨rfl, ⟨rfl, h22⟩ | ⟨rfl, h22, h23, h29⟩⟩ hf
    case inr =>
      replace hR := hR.out
      have he : regErrR n i p = 5 := by unfold regErrR; rw [if_neg (by simp [hN]), if_neg (by simp only [h2]; decide), if_pos h29]
      rw [he, if_pos (by decide)] at hR
      replace hR : Kp (((i : Int), (5 : Int)) = R) := ⟨hR⟩
      clear he h29
      repeat' first
       | (apply z50 (id := 17) (ord := [0, 1, 2, 3, 4, 5, 6, 7, 8]) <;> first | kernel_rfl | skip)
       | (apply z50 (id := 22) (ord := [0, 1, 2, 3, 4, 5, 6, 7, 8]) <;> first | kernel_rfl | skip)
       | (apply z51 (id := 26) (ord := [0, 2, 3, 1, 4, 5, 6, 7, 8, 9]) (ps := [(2, 3)]) <;> first | kernel_rfl | skip)
       | (apply z50 (id := 35) (ord := [0, 1, 2, 3, 4, 5, 6, 7, 8, 9]) <;> first | kernel_rfl | skip)
       | (refine zs ?_; repeat' first | apply zs0 | apply zs2 | (intro hc; try have hq := dq hc)) | fail
      exact ⟨_, rfl, .inr ⟨rfl, by rw [← hR.out]; (simp only [seval, push_cast, *] <;> rfl), by rw [← hR.out]; (simp only [seval, push_cast, *] <;> rfl), by rw [← hR.out]; simp⟩⟩
    have g1 := hf 1 rfl
    have g6 := hf 6 rfl
    have g7 := hf 7 rfl
    simp only [seval, push_cast] at g1 g6 g7
    rw [f1] at g1
    rw [f6] at g6
    rw [f7] at g7
    clear hf f1 f6 f7
    replace hR := hR.out
    cases hW : isW p.width with
    | false =>
      have he : regErrR n i p = 2 := by unfold regErrR; rw [if_neg (by simp [hN]), if_neg (by simp only [h2]; decide), if_neg (by simp only [h22]; decide), hW]; rfl
      rw [he, if_pos (by decide)] at hR
      replace hR : Kp (((i : Int), (2 : Int)) = R) := ⟨hR⟩
      unfold isW at hW
      clear he h2 h22
      repeat' first
       | (apply z50 (id := 17) (ord := [0, 1, 2, 3, 4, 5, 6, 7, 8]) <;> first | kernel_rfl | skip)
       | (apply z50 (id := 22) (ord := [0, 1, 2, 3, 4, 5, 6, 7, 8]) <;> first | kernel_rfl | skip)
       | (apply z51 (id := 26) (ord := [0, 2, 3, 1, 4, 5, 6, 7, 8, 9]) (ps := [(2, 3)]) <;> first | kernel_rfl | skip)
       | (apply z50 (id := 35) (ord := [0, 1, 2, 3, 4, 5, 6, 7, 8, 9]) <;> first | kernel_rfl | skip)
       | (refine zs ?_; repeat' first | apply zs0 | apply zs2 | (intro hc; try have hq := dq hc)) | fail
      exact ⟨_, rfl, .inr ⟨rfl, by rw [← hR.out]; (simp only [seval, push_cast, *] <;> rfl), by rw [← hR.out]; (simp only [seval, push_cast, *] <;> rfl), by rw [← hR.out]; simp⟩⟩
    | true =>
      have hw0 : 0 ≤ p.width := by simp only [isW, Bool.and_eq_true, decide_eq_true_eq] at hW; omega
      have hfit := fun bs H => bs_fits bs H p.init p.width hw0
      cases hF : fitsN p.init p.width with
      | false =>
        have he : regErrR n i p = 2 := by unfold regErrR; rw [if_neg (by simp [hN]), if_neg (by simp only [h2]; decide), if_neg (by simp only [h22]; decide), hW, hF]; rfl
        rw [he, if_pos (by decide)] at hR
        replace hR : Kp (((i : Int), (2 : Int)) = R) := ⟨hR⟩
        unfold isW at hW
        clear he h2 h22
        repeat' first
         | (apply z50 (id := 17) (ord := [0, 1, 2, 3, 4, 5, 6, 7, 8]) <;> first | kernel_rfl | skip)
         | (apply z50 (id := 22) (ord := [0, 1, 2, 3, 4, 5, 6, 7, 8]) <;> first | kernel_rfl | skip)
         | (apply z51 (id := 26) (ord := [0, 2, 3, 1, 4, 5, 6, 7, 8, 9]) (ps := [(2, 3)]) <;> first | kernel_rfl | skip)
         | (apply z50 (id := 35) (ord := [0, 1, 2, 3, 4, 5, 6, 7, 8, 9]) <;> first | kernel_rfl | skip)
         | (refine zs ?_; repeat' first | apply zs0 | apply zs2 | (intro hc; try have hq := dq hc)) | fail
        exact ⟨_, rfl, .inr ⟨rfl, by rw [← hR.out]; (simp only [seval, push_cast, *] <;> rfl), by rw [← hR.out]; (simp only [seval, push_cast, *] <;> rfl), by rw [← hR.out]; simp⟩⟩
      | true =>
        have he : regErrR n i p = 0 := by unfold regErrR; rw [if_neg (by simp [hN]), if_neg (by simp only [h2]; decide), if_neg (by simp only [h22]; decide), hW, hF]; rfl
        rw [he, if_neg (by decide)] at hR
        replace hR := Kp.mk hR
        unfold isW at hW
        clear he h2 h22
        repeat' first
         | (apply z50 (id := 17) (ord := [0, 1, 2, 3, 4, 5, 6, 7, 8]) <;> first | kernel_rfl | skip)
         | (apply z50 (id := 22) (ord := [0, 1, 2, 3, 4, 5, 6, 7, 8]) <;> first | kernel_rfl | skip)
         | (apply z51 (id := 26) (ord := [0, 2, 3, 1, 4, 5, 6, 7, 8, 9]) (ps := [(2, 3)]) <;> first | kernel_rfl | skip)
         | (apply z50 (id := 35) (ord := [0, 1, 2, 3, 4, 5, 6, 7, 8, 9]) <;> first | kernel_rfl | skip)
         | (refine zs ?_; repeat' first | apply zs0 | apply zs2 | (intro hc; try have hq := dq hc)) | fail
        exact ⟨_, rfl, by (simp only [seval, push_cast, *] <;> rfl), by (simp only [seval, push_cast, *] <;> rfl), hR⟩
  · rintro ρ H' ⟨junk, rfl, h1, h6, hR⟩
    replace hR := hR.out
    rw [List.drop_length, eachP] at hR
    replace hR : Kp ((0, 0) = R) := ⟨hR⟩
    clear hs
    conv => arg 3; whnf
    repeat' first
     | (apply z50 (id := 17) (ord := [0, 1, 2, 3, 4, 5, 6, 7, 8]) <;> first | kernel_rfl | skip)
     | (apply z50 (id := 22) (ord := [0, 1, 2, 3, 4, 5, 6, 7, 8]) <;> first | kernel_rfl | skip)
     | (apply z51 (id := 26) (ord := [0, 2, 3, 1, 4, 5, 6, 7, 8, 9]) (ps := [(2, 3)]) <;> first | kernel_rfl | skip)
     | (apply z50 (id := 35) (ord := [0, 1, 2, 3, 4, 5, 6, 7, 8, 9]) <;> first | kernel_rfl | skip)
     | (refine zs ?_; repeat' first | apply zs0 | apply zs2 | (intro hc; try have hq := dq hc)) | fail
    exact ⟨_, rfl, .inl ⟨rfl, hR.out.symm⟩⟩

end Go.E
/- Contracts of the references' base, in E: NetErr. Own work. -/
namespace Go.E
open Go.Proofs
set_option maxRecDepth 100000
set_option maxHeartbeats 4000000

theorem ne_regs2 (bs : List Nat) (H : Heap) (n : Netl) (hS : Small n) (R : Int × Int) :
    ∀ i ρ H', i ≤ n.regs.length → (∃ junk, H' = H ++ .cells (cellsNetl n) :: junk ∧ ρ 1 = .ptr H.length 0 ∧ ρ 12 = .int .i64 i ∧ Kp (eachP (regErr2S n) i (n.regs.drop i) = R)) →
      Lp X ⟨155, bs⟩ (loopAt Tryz.f15 3) ρ H' fun ex ρ' H' => ∃ junk, H' = H ++ .cells (cellsNetl n) :: junk ∧ ((ex = .exit 6 ∧ R = (0, 0) ∧ ρ' 1 = .ptr H.length 0) ∨ (ex = .ret ∧ ρ' 2 = .int .i64 R.1 ∧ ρ' 3 = .int .i64 R.2 ∧ R.2 ≠ 0)) := by
  have hr := hS.regs
  have hn := hS.nodes
  clear hS
  refine loop_up ?_ ?_
  · rintro i ρ H' hi ⟨junk, rfl, h1, h6, hR⟩
    have hget : n.regs[i]? = some n.regs[i] := by simp [hi]
    have hw := add1 i n.regs.length hi (by omega)
    replace hR := hR.out
    rw [drop_cons hget, eachP] at hR
    generalize n.regs[i] = p at hget hR
    have hic := fun bs H => bs_isCond bs H n.nodes p.enable (by omega)
    have hin := fun bs H => bs_isNode bs H n.nodes p.next (by omega)
    have e1 : isNodeN n p.enable = isNodeL n.nodes p.enable := rfl
    have e2 : widthAt n p.enable = widthL n.nodes p.enable := rfl
    have e3 : isNodeN n p.next = isNodeL n.nodes p.next := rfl
    have e4 : widthAt n p.next = widthL n.nodes p.next := rfl
    have fin9 : regErr2S n i p = 9 → (isNodeL n.nodes p.enable && decide (widthL n.nodes p.enable = 1)) = false ∨ isNodeL n.nodes p.next = false →
        Ev X ⟨155, bs⟩ (loopAt Tryz.f15 3) ρ (H ++ .cells (cellsNetl n) :: junk) (roundQ (fun ρ H' => ∃ junk, H' = H ++ .cells (cellsNetl n) :: junk ∧ ρ 1 = .ptr H.length 0 ∧ ρ 12 = .int .i64 ((i + 1 : Nat) : Int) ∧ Kp (eachP (regErr2S n) (i + 1) (n.regs.drop (i + 1)) = R))
          fun ex ρ' H' => ∃ junk, H' = H ++ .cells (cellsNetl n) :: junk ∧ ((ex = .exit 6 ∧ R = (0, 0) ∧ ρ' 1 = .ptr H.length 0) ∨ (ex = .ret ∧ ρ' 2 = .int .i64 R.1 ∧ ρ' 3 = .int .i64 R.2 ∧ R.2 ≠ 0))) := by
      intro he hor
      rw [he, if_pos (by decide)] at hR
      replace hR : Kp (((i : Int), (9 : Int)) = R) := ⟨hR⟩
      clear he e1 e2 e3 e4
      cases hc1 : (isNodeL n.nodes p.enable && decide (widthL n.nodes p.enable = 1)) with
      | false =>
        clear hor
        conv => arg 3; whnf
        repeat' first
         | (apply z50 (id := 17) (ord := [0, 1, 2, 3, 4, 5, 6, 7, 8]) <;> first | kernel_rfl | skip)
         | (apply z50 (id := 22) (ord := [0, 1, 2, 3, 4, 5, 6, 7, 8]) <;> first | kernel_rfl | skip)
         | (apply z51 (id := 26) (ord := [0, 2, 3, 1, 4, 5, 6, 7, 8, 9]) (ps := [(2, 3)]) <;> first | kernel_rfl | skip)
         | (apply z50 (id := 35) (ord := [0, 1, 2, 3, 4, 5, 6, 7, 8, 9]) <;> first | kernel_rfl | skip)
         | (refine zs ?_; repeat' first | apply zs0 | apply zs2 | (intro hc; try have hq := dq hc)) | fail
        exact ⟨_, rfl, .inr ⟨rfl, by rw [← hR.out]; (simp only [seval, push_cast, *] <;> rfl), by rw [← hR.out]; (simp only [seval, push_cast, *] <;> rfl), by rw [← hR.out]; simp⟩⟩
      | true =>
        have hc2 : isNodeL n.nodes p.next = false := hor.resolve_left (by rw [hc1]; simp)
        clear hor
        conv => arg 3; whnf
        repeat' first
         | (apply z50 (id := 17) (ord := [0, 1, 2, 3, 4, 5, 6, 7, 8]) <;> first | kernel_rfl | skip)
         | (apply z50 (id := 22) (ord := [0, 1, 2, 3, 4, 5, 6, 7, 8]) <;> first | kernel_rfl | skip)
         | (apply z51 (id := 26) (ord := [0, 2, 3, 1, 4, 5, 6, 7, 8, 9]) (ps := [(2, 3)]) <;> first | kernel_rfl | skip)
         | (apply z50 (id := 35) (ord := [0, 1, 2, 3, 4, 5, 6, 7, 8, 9]) <;> first | kernel_rfl | skip)
         | (refine zs ?_; repeat' first | apply zs0 | apply zs2 | (intro hc; try have hq := dq hc)) | fail
        exact ⟨_, rfl, .inr ⟨rfl, by rw [← hR.out]; (simp only [seval, push_cast, *] <;> rfl), by rw [← hR.out]; (simp only [seval, push_cast, *] <;> rfl), by rw [← hR.out]; simp⟩⟩
    cases c1 : isNodeL n.nodes p.enable with
    | false => exact fin9 (by unfold regErr2S; rw [e1, c1]; rfl) (.inl (by rw [c1]; rfl))
    | true =>
    by_cases c2 : widthL n.nodes p.enable = 1
    case neg => exact fin9 (by unfold regErr2S; rw [e1, c1, if_neg (by simp), e2, if_pos c2]) (.inl (by rw [c1, decide_eq_false c2]; rfl))
    cases c3 : isNodeL n.nodes p.next with
    | false => exact fin9 (by unfold regErr2S; rw [e1, c1, if_neg (by simp), e2, if_neg (by simpa using c2), e3, c3]; rfl) (.inr c3)
    | true =>
    have hcc : (isNodeL n.nodes p.enable && decide (widthL n.nodes p.enable = 1)) = true := by rw [c1, decide_eq_true c2]; rfl
    rw [hcc] at hic
    rw [c3] at hin
    obtain ⟨m, hm, hlt⟩ : ∃ m : Nat, p.next = m ∧ m < n.nodes.length := by
      simp only [isNodeL, Bool.and_eq_true, decide_eq_true_eq] at c3
      exact ⟨p.next.toNat, by omega, by omega⟩
    have hgm : n.nodes[m]? = some n.nodes[m] := by simp [hlt]
    have hwm : widthL n.nodes p.next = n.nodes[m].width := by simp [widthL, hm, hgm]
    generalize n.nodes[m] = y at hgm hwm
    have he : regErr2S n i p = if y.width = p.width then 0 else 25 := by unfold regErr2S; rw [e1, c1, if_neg (by simp), e2, if_neg (by simpa using c2), e3, c3, if_neg (by simp), e4, hwm]
    rw [hm] at hin
    clear fin9 e1 e2 e3 e4 hcc c1 c2 c3 hwm
    by_cases hy : y.width = p.width
    · rw [he, if_pos hy, if_neg (by decide)] at hR
      replace hR := Kp.mk hR
      clear he
      conv => arg 3; whnf
      repeat' first
       | (apply z50 (id := 17) (ord := [0, 1, 2, 3, 4, 5, 6, 7, 8]) <;> first | kernel_rfl | skip)
       | (apply z50 (id := 22) (ord := [0, 1, 2, 3, 4, 5, 6, 7, 8]) <;> first | kernel_rfl | skip)
       | (apply z51 (id := 26) (ord := [0, 2, 3, 1, 4, 5, 6, 7, 8, 9]) (ps := [(2, 3)]) <;> first | kernel_rfl | skip)
       | (apply z50 (id := 35) (ord := [0, 1, 2, 3, 4, 5, 6, 7, 8, 9]) <;> first | kernel_rfl | skip)
       | (refine zs ?_; repeat' first | apply zs0 | apply zs2 | (intro hc; try have hq := dq hc)) | fail
      exact ⟨_, rfl, by (simp only [seval, push_cast, *] <;> rfl), by (simp only [seval, push_cast, *] <;> rfl), hR⟩
    · rw [he, if_neg hy, if_pos (by decide)] at hR
      replace hR : Kp (((i : Int), (25 : Int)) = R) := ⟨hR⟩
      clear he
      conv => arg 3; whnf
      repeat' first
       | (apply z50 (id := 17) (ord := [0, 1, 2, 3, 4, 5, 6, 7, 8]) <;> first | kernel_rfl | skip)
       | (apply z50 (id := 22) (ord := [0, 1, 2, 3, 4, 5, 6, 7, 8]) <;> first | kernel_rfl | skip)
       | (apply z51 (id := 26) (ord := [0, 2, 3, 1, 4, 5, 6, 7, 8, 9]) (ps := [(2, 3)]) <;> first | kernel_rfl | skip)
       | (apply z50 (id := 35) (ord := [0, 1, 2, 3, 4, 5, 6, 7, 8, 9]) <;> first | kernel_rfl | skip)
       | (refine zs ?_; repeat' first | apply zs0 | apply zs2 | (intro hc; try have hq := dq hc)) | fail
      exact ⟨_, rfl, .inr ⟨rfl, by rw [← hR.out]; (simp only [seval, push_cast, *] <;> rfl), by rw [← hR.out]; (simp only [seval, push_cast, *] <;> rfl), by rw [← hR.out]; simp⟩⟩
  · rintro ρ H' ⟨junk, rfl, h1, h6, hR⟩
    replace hR := hR.out
    rw [List.drop_length, eachP] at hR
    replace hR : Kp ((0, 0) = R) := ⟨hR⟩
    conv => arg 3; whnf
    repeat' first
     | (apply z50 (id := 17) (ord := [0, 1, 2, 3, 4, 5, 6, 7, 8]) <;> first | kernel_rfl | skip)
     | (apply z50 (id := 22) (ord := [0, 1, 2, 3, 4, 5, 6, 7, 8]) <;> first | kernel_rfl | skip)
     | (apply z51 (id := 26) (ord := [0, 2, 3, 1, 4, 5, 6, 7, 8, 9]) (ps := [(2, 3)]) <;> first | kernel_rfl | skip)
     | (apply z50 (id := 35) (ord := [0, 1, 2, 3, 4, 5, 6, 7, 8, 9]) <;> first | kernel_rfl | skip)
     | (refine zs ?_; repeat' first | apply zs0 | apply zs2 | (intro hc; try have hq := dq hc)) | fail
    exact ⟨_, rfl, .inl ⟨rfl, hR.out.symm, by (simp only [seval, push_cast, *] <;> rfl)⟩⟩

theorem bs_netErr (bs : List Nat) (H : Heap) (n : Netl) (hS : Small n) : callw X bs 15 [encNetl n] H = some (.tuple [.int .i64 (netErrR n).1, .int .i64 (netErrR n).2], H) := by
  refine call_at (rs := [.tmp 2, .tmp 3]) (N := 155) (fn := Tryz.f15) xk15 xf15 rfl rfl rfl (by simp only [seval, push_cast, List.map_cons, List.map_nil, V.norm, norm1]; rfl) ?_
  have h1 := fun bs H => bs_isName bs H n.name (by have := hS.name; omega)
  have h2 := fun bs H => bs_portsErr bs H n.inputs (by have := hS.inputs; omega) (fun p hp => by have := hS.inn p hp; omega)
  have h3 := fun bs H => bs_netLeaves bs H n hS.inputs hS.regs
  have h4 := fun bs H => bs_nodesErr bs H (leavesN n) n.nodes (by have := hS.inputs; have := hS.regs; simp [leavesN]; omega) (by have := hS.nodes; omega) (fun x hx => by have := hS.args x hx; omega)
  have h5 := fun bs H => bs_outsErr bs H n.nodes n.outs (by have := hS.nodes; omega) (by have := hS.outs; omega) (fun p hp => by have := hS.otn p hp; omega)
  have l1 := fun bs ρ H' => ne_regs bs H n hS (eachP (regErrR n) 0 n.regs) 0 ρ H' (by omega)
  have l2 := fun bs ρ H' => ne_regs2 bs H n hS (eachP (regErr2S n) 0 n.regs) 0 ρ H' (by omega)
  have hwp : IntKind.i64.wrap ((n.inputs.length : Int) + n.regs.length) = (n.inputs.length : Int) + n.regs.length := by have := hS.inputs; have := hS.regs; rw [wrap64] <;> omega
  simp only [encNetl, cellsNetl] at h3
  clear hS
  unfold netErrR
  cases hN : isNameS n.name with
  | false =>
    rw [if_pos rfl]
    clear l1 l2
    repeat' first
     | (apply z50 (id := 17) (ord := [0, 1, 2, 3, 4, 5, 6, 7, 8]) <;> first | kernel_rfl | skip)
     | (apply z50 (id := 22) (ord := [0, 1, 2, 3, 4, 5, 6, 7, 8]) <;> first | kernel_rfl | skip)
     | (apply z51 (id := 26) (ord := [0, 2, 3, 1, 4, 5, 6, 7, 8, 9]) (ps := [(2, 3)]) <;> first | kernel_rfl | skip)
     | (apply z50 (id := 35) (ord := [0, 1, 2, 3, 4, 5, 6, 7, 8, 9]) <;> first | kernel_rfl | skip)
     | (refine zs ?_; repeat' first | apply zs0 | apply zs2 | (intro hc; try have hq := dq hc)) | fail
  | true =>
  rw [if_neg (by simp)]
  by_cases hP : (portsErrR n.inputs).2 = 0
  case neg =>
    rw [if_pos hP]
    clear l1 l2
    repeat' first
     | (apply z50 (id := 17) (ord := [0, 1, 2, 3, 4, 5, 6, 7, 8]) <;> first | kernel_rfl | skip)
     | (apply z50 (id := 22) (ord := [0, 1, 2, 3, 4, 5, 6, 7, 8]) <;> first | kernel_rfl | skip)
     | (apply z51 (id := 26) (ord := [0, 2, 3, 1, 4, 5, 6, 7, 8, 9]) (ps := [(2, 3)]) <;> first | kernel_rfl | skip)
     | (apply z50 (id := 35) (ord := [0, 1, 2, 3, 4, 5, 6, 7, 8, 9]) <;> first | kernel_rfl | skip)
     | (refine zs ?_; repeat' first | apply zs0 | apply zs2 | (intro hc; try have hq := dq hc)) | fail
  rw [if_neg (by simpa using hP)]
  by_cases h40 : 40 < n.inputs.length + n.regs.length
  case pos =>
    rw [if_pos h40]
    have d : (40 : Int) < (n.inputs.length : Int) + n.regs.length := by omega
    clear l1 l2
    repeat' first
     | (apply z50 (id := 17) (ord := [0, 1, 2, 3, 4, 5, 6, 7, 8]) <;> first | kernel_rfl | skip)
     | (apply z50 (id := 22) (ord := [0, 1, 2, 3, 4, 5, 6, 7, 8]) <;> first | kernel_rfl | skip)
     | (apply z51 (id := 26) (ord := [0, 2, 3, 1, 4, 5, 6, 7, 8, 9]) (ps := [(2, 3)]) <;> first | kernel_rfl | skip)
     | (apply z50 (id := 35) (ord := [0, 1, 2, 3, 4, 5, 6, 7, 8, 9]) <;> first | kernel_rfl | skip)
     | (refine zs ?_; repeat' first | apply zs0 | apply zs2 | (intro hc; try have hq := dq hc)) | fail
  rw [if_neg h40]
  have d : decide ((40 : Int) < (n.inputs.length : Int) + n.regs.length) = false := decide_eq_false (by omega)
  repeat' first
   | (apply z50 (id := 17) (ord := [0, 1, 2, 3, 4, 5, 6, 7, 8]) <;> first | kernel_rfl | skip)
   | (apply z50 (id := 22) (ord := [0, 1, 2, 3, 4, 5, 6, 7, 8]) <;> first | kernel_rfl | skip)
   | (apply z51 (id := 26) (ord := [0, 2, 3, 1, 4, 5, 6, 7, 8, 9]) (ps := [(2, 3)]) <;> first | kernel_rfl | skip)
   | (apply z50 (id := 35) (ord := [0, 1, 2, 3, 4, 5, 6, 7, 8, 9]) <;> first | kernel_rfl | skip)
   | (refine zs ?_; repeat' first | apply zs0 | apply zs2 | (intro hc; try have hq := dq hc)) | fail
  refine lp_then (lp_any (c := loopAt Tryz.f15 0) rfl (l1 _ _ _ ⟨[], rfl, by (simp only [seval, push_cast, *] <;> rfl), by (simp only [seval, push_cast, *] <;> rfl), ⟨rfl⟩⟩)) ?_
  clear l1
  rintro ex ρ' H2 ⟨junk, rfl, ⟨rfl, g2⟩ | ⟨rfl, g2, g3, g4⟩⟩ hf
  case inr =>
    rw [if_pos g4]
    clear l2 g4
    repeat' first
     | (apply z50 (id := 17) (ord := [0, 1, 2, 3, 4, 5, 6, 7, 8]) <;> first | kernel_rfl | skip)
     | (apply z50 (id := 22) (ord := [0, 1, 2, 3, 4, 5, 6, 7, 8]) <;> first | kernel_rfl | skip)
     | (apply z51 (id := 26) (ord := [0, 2, 3, 1, 4, 5, 6, 7, 8, 9]) (ps := [(2, 3)]) <;> first | kernel_rfl | skip)
     | (apply z50 (id := 35) (ord := [0, 1, 2, 3, 4, 5, 6, 7, 8, 9]) <;> first | kernel_rfl | skip)
     | (refine zs ?_; repeat' first | apply zs0 | apply zs2 | (intro hc; try have hq := dq hc)) | fail
  have f1 := hf 1 rfl
  simp only [seval, push_cast] at f1
  rw [g2, if_neg (by decide)]
  clear hf g2
  by_cases hM : (nodesErrR (leavesN n) n.nodes).2 = 0
  case neg =>
    rw [if_pos hM]
    clear l2
    repeat' first
     | (apply z50 (id := 17) (ord := [0, 1, 2, 3, 4, 5, 6, 7, 8]) <;> first | kernel_rfl | skip)
     | (apply z50 (id := 22) (ord := [0, 1, 2, 3, 4, 5, 6, 7, 8]) <;> first | kernel_rfl | skip)
     | (apply z51 (id := 26) (ord := [0, 2, 3, 1, 4, 5, 6, 7, 8, 9]) (ps := [(2, 3)]) <;> first | kernel_rfl | skip)
     | (apply z50 (id := 35) (ord := [0, 1, 2, 3, 4, 5, 6, 7, 8, 9]) <;> first | kernel_rfl | skip)
     | (refine zs ?_; repeat' first | apply zs0 | apply zs2 | (intro hc; try have hq := dq hc)) | fail
  rw [if_neg (by simpa using hM)]
  repeat' first
   | (apply z50 (id := 17) (ord := [0, 1, 2, 3, 4, 5, 6, 7, 8]) <;> first | kernel_rfl | skip)
   | (apply z50 (id := 22) (ord := [0, 1, 2, 3, 4, 5, 6, 7, 8]) <;> first | kernel_rfl | skip)
   | (apply z51 (id := 26) (ord := [0, 2, 3, 1, 4, 5, 6, 7, 8, 9]) (ps := [(2, 3)]) <;> first | kernel_rfl | skip)
   | (apply z50 (id := 35) (ord := [0, 1, 2, 3, 4, 5, 6, 7, 8, 9]) <;> first | kernel_rfl | skip)
   | (refine zs ?_; repeat' first | apply zs0 | apply zs2 | (intro hc; try have hq := dq hc)) | fail
  refine lp_then (lp_any (c := loopAt Tryz.f15 3) rfl (l2 _ _ _ ⟨junk, rfl, by (simp only [seval, push_cast, *] <;> rfl), by (simp only [seval, push_cast, *] <;> rfl), ⟨rfl⟩⟩)) ?_
  clear l2
  rintro ex ρ' H2 ⟨junk, rfl, ⟨rfl, g2, g1⟩ | ⟨rfl, g2, g3, g4⟩⟩ hf
  case inr =>
    rw [if_pos g4]
    clear g4
    repeat' first
     | (apply z50 (id := 17) (ord := [0, 1, 2, 3, 4, 5, 6, 7, 8]) <;> first | kernel_rfl | skip)
     | (apply z50 (id := 22) (ord := [0, 1, 2, 3, 4, 5, 6, 7, 8]) <;> first | kernel_rfl | skip)
     | (apply z51 (id := 26) (ord := [0, 2, 3, 1, 4, 5, 6, 7, 8, 9]) (ps := [(2, 3)]) <;> first | kernel_rfl | skip)
     | (apply z50 (id := 35) (ord := [0, 1, 2, 3, 4, 5, 6, 7, 8, 9]) <;> first | kernel_rfl | skip)
     | (refine zs ?_; repeat' first | apply zs0 | apply zs2 | (intro hc; try have hq := dq hc)) | fail
  rw [g2, if_neg (by decide)]
  clear hf g2
  repeat' first
   | (apply z50 (id := 17) (ord := [0, 1, 2, 3, 4, 5, 6, 7, 8]) <;> first | kernel_rfl | skip)
   | (apply z50 (id := 22) (ord := [0, 1, 2, 3, 4, 5, 6, 7, 8]) <;> first | kernel_rfl | skip)
   | (apply z51 (id := 26) (ord := [0, 2, 3, 1, 4, 5, 6, 7, 8, 9]) (ps := [(2, 3)]) <;> first | kernel_rfl | skip)
   | (apply z50 (id := 35) (ord := [0, 1, 2, 3, 4, 5, 6, 7, 8, 9]) <;> first | kernel_rfl | skip)
   | (refine zs ?_; repeat' first | apply zs0 | apply zs2 | (intro hc; try have hq := dq hc)) | fail

end Go.E
/- Contracts of the references' base, in E: copies, comparisons. Own work. -/
namespace Go.E
open Go.Proofs
set_option maxRecDepth 100000
set_option maxHeartbeats 4000000

theorem bs_copyInts (bs : List Nat) (H : Heap) (l : List Int) (hl : l.length ≤ 1000000) : callw X bs 20 [.list (l.map (.int .i64))] H = some (.list (l.map (.int .i64)), H) := by
  refine call_at (rs := [.tmp 2]) (N := 6) (fn := Tryz.f20) xk20 xf20 rfl rfl rfl (by simp only [seval, push_cast, List.map_cons, List.map_nil, V.norm, norm1]; rfl) ?_
  have h := room_of (k := 8) hl (by omega)
  all_goals try (refine zs ?_; repeat' first | apply zs0 | apply zs2 | (intro hc; try have hq := dq hc))

theorem bs_copyPorts (bs : List Nat) (H : Heap) (l : List Port) (hl : l.length ≤ 1000000) : callw X bs 77 [.list (l.map encPort)] H = some (.list (l.map encPort), H) := by
  refine call_at (rs := [.tmp 2]) (N := 6) (fn := Tryz.f77) xk77 xf77 rfl rfl rfl (by simp only [seval, push_cast, List.map_cons, List.map_nil, V.norm, norm1]; rfl) ?_
  have h := room_of (k := 24) hl (by omega)
  all_goals try (refine zs ?_; repeat' first | apply zs0 | apply zs2 | (intro hc; try have hq := dq hc))

theorem bs_copyOutputs (bs : List Nat) (H : Heap) (l : List Outp) (hl : l.length ≤ 1000000) : callw X bs 79 [.list (l.map encOutp)] H = some (.list (l.map encOutp), H) := by
  refine call_at (rs := [.tmp 2]) (N := 6) (fn := Tryz.f79) xk79 xf79 rfl rfl rfl (by simp only [seval, push_cast, List.map_cons, List.map_nil, V.norm, norm1]; rfl) ?_
  have h := room_of (k := 24) hl (by omega)
  all_goals try (refine zs ?_; repeat' first | apply zs0 | apply zs2 | (intro hc; try have hq := dq hc))

theorem bs_netResets (bs : List Nat) (H : Heap) (n : Netl) (hr : n.regs.length ≤ 1000) : callw X bs 17 [encNetl n] H = some (.list (n.regs.map (fun r : Reg => .int .i64 r.init)), H) := by
  refine call_at (rs := [.tmp 2]) (N := 26) (fn := Tryz.f17) xk17 xf17 rfl rfl rfl (by simp only [seval, push_cast, List.map_cons, List.map_nil, V.norm, norm1]; rfl) ?_
  have key : ∀ (t : HObj) (bs : List Nat) i ρ H', i ≤ n.regs.length → (H' = H ++ [.cells (cellsNetl n), t, .arr (fill (fun r : Reg => .int .i64 r.init) (.int .i64 0) n.regs i) 0] ∧ ρ 1 = .ptr H.length 0 ∧ ρ 3 = .ref 1 (H.length + 2) 0 0 n.regs.length ∧ ρ 4 = .int .i64 i) →
      Lp X ⟨26, bs⟩ (loopAt Tryz.f17 0) ρ H' fun ex ρ' H' => H' = H ++ [.cells (cellsNetl n), t, .arr (n.regs.map (fun r : Reg => .int .i64 r.init)) 0] ∧ ρ' 3 = .ref 1 (H.length + 2) 0 0 n.regs.length ∧ ex = .exit 0 := by
    intro t bs
    refine loop_up ?_ ?_
    · rintro i ρ H' hlt ⟨rfl, h1, h3, h4⟩
      have hget : n.regs[i]? = some n.regs[i] := by simp [hlt]
      have hw := add1 i n.regs.length hlt (by omega)
      have hg := fill_get (fun r : Reg => .int .i64 r.init) (.int .i64 0) n.regs i hlt
      have hs := fill_set (fun r : Reg => .int .i64 r.init) (.int .i64 0) n.regs i n.regs[i] hget
      generalize n.regs[i] = p at hget hs
      conv => arg 3; whnf
      all_goals try (refine zs ?_; repeat' first | apply zs0 | apply zs2 | (intro hc; try have hq := dq hc))
      exact ⟨by simp only [cellsNetl], by (simp only [seval, push_cast, *] <;> rfl), by (simp only [seval, push_cast, *] <;> rfl), by (simp only [seval, push_cast, *] <;> rfl)⟩
    · rintro ρ H' ⟨rfl, h1, h3, h4⟩
      rw [fill_end]
      conv => arg 3; whnf
      all_goals try (refine zs ?_; repeat' first | apply zs0 | apply zs2 | (intro hc; try have hq := dq hc))
      exact ⟨by simp only [cellsNetl], by (simp only [seval, push_cast, *] <;> rfl), rfl⟩
  have h1 := room_of (n := n.regs.length) (k := 8) (by omega) (by omega)
  have h2 := room_int (n := n.regs.length) (by omega)
  have h3 := fill_0 (fun r : Reg => .int .i64 r.init) (.int .i64 0) n.regs
  replace h3 : Kp (fill (fun r : Reg => .int .i64 r.init) (.int .i64 0) n.regs 0 = List.replicate n.regs.length (.int .i64 0)) := ⟨h3⟩
  all_goals try (refine zs ?_; repeat' first | apply zs0 | apply zs2 | (intro hc; try have hq := dq hc))
  refine lp_then (lp_any (c := loopAt Tryz.f17 0) rfl (key _ _ 0 _ _ (by omega) ⟨by rw [h3.out]; rfl, by (simp only [seval, push_cast, *] <;> rfl), by (simp only [seval, push_cast, *] <;> rfl), by (simp only [seval, push_cast, *] <;> rfl)⟩)) ?_
  rintro ex ρ' H' ⟨rfl, f3, rfl⟩ hf
  all_goals try (refine zs ?_; repeat' first | apply zs0 | apply zs2 | (intro hc; try have hq := dq hc))

theorem bs_ints (bs : List Nat) (H : Heap) (a b : List Int) (ha : a.length ≤ 1000000) (hb : b.length ≤ 1000000) : callw X bs 16 [.list (a.map (.int .i64)), .list (b.map (.int .i64))] H = some (.bool (decide (a = b)), H) := by
  refine call_at (rs := [.tmp 4]) (N := 26) (fn := Tryz.f16) xk16 xf16 rfl rfl rfl (by simp only [seval, push_cast, List.map_cons, List.map_nil, V.norm, norm1]; rfl) ?_
  rcases Classical.em (a.length = b.length) with hab | hab
  · have key : ∀ (bs : List Nat) i ρ H', i ≤ a.length → (H' = H ∧ ρ 0 = .list (a.map (.int .i64)) ∧ ρ 1 = .list (b.map (.int .i64)) ∧ ρ 5 = .int .i64 i ∧ Kp (a.take i = b.take i)) →
      Lp X ⟨26, bs⟩ (loopAt Tryz.f16 0) ρ H' fun ex ρ' H' => H' = H ∧ ((a = b ∧ ex = .exit 0) ∨ (a ≠ b ∧ ρ' 4 = .bool false ∧ ex = .ret)) := by
      intro bs
      refine loop_up ?_ ?_
      · rintro i ρ H' hlt ⟨rfl, h0, h1, h5, hk⟩
        have hget : a[i]? = some a[i] := by simp [hlt]
        have hgetb : b[i]? = some b[i] := by simp [hab ▸ hlt]
        have hw := add1 i a.length hlt (by omega)
        have hn := take_step hget hgetb hk.out
        generalize a[i] = x at hget hn
        generalize b[i] = y at hgetb hn
        rcases Classical.em (x = y) with hxy | hxy
        · have hk2 := Kp.mk (hn.1 hxy)
          conv => arg 3; whnf
          repeat' first
           | (apply z50 (id := 6) (ord := [0, 1, 2, 3, 4, 5, 6, 7, 8]) <;> first | kernel_rfl | skip)
           | (refine zs ?_; repeat' first | apply zs0 | apply zs2 | (intro hc; try have hq := dq hc)) | fail
          exact ⟨by (simp only [seval, push_cast, *] <;> rfl), by (simp only [seval, push_cast, *] <;> rfl), by (simp only [seval, push_cast, *] <;> rfl), by (simp only [seval, push_cast, *] <;> rfl), hk2⟩
        · have hk2 := Kp.mk (hn.2 hxy)
          conv => arg 3; whnf
          repeat' first
           | (apply z50 (id := 6) (ord := [0, 1, 2, 3, 4, 5, 6, 7, 8]) <;> first | kernel_rfl | skip)
           | (refine zs ?_; repeat' first | apply zs0 | apply zs2 | (intro hc; try have hq := dq hc)) | fail
          exact ⟨by (simp only [seval, push_cast, *] <;> rfl), .inr ⟨hk2.out, by (simp only [seval, push_cast, *] <;> rfl), rfl⟩⟩
      · rintro ρ H' ⟨rfl, h0, h1, h5, hk⟩
        have hk2 : Kp (a = b) := ⟨by have := hk.out; rw [hab, List.take_length, ← hab, List.take_length] at this; exact this⟩
        conv => arg 3; whnf
        repeat' first
         | (apply z50 (id := 6) (ord := [0, 1, 2, 3, 4, 5, 6, 7, 8]) <;> first | kernel_rfl | skip)
         | (refine zs ?_; repeat' first | apply zs0 | apply zs2 | (intro hc; try have hq := dq hc)) | fail
        exact ⟨by (simp only [seval, push_cast, *] <;> rfl), .inl ⟨hk2.out, rfl⟩⟩
    repeat' first
     | (apply z50 (id := 6) (ord := [0, 1, 2, 3, 4, 5, 6, 7, 8]) <;> first | kernel_rfl | skip)
     | (refine zs ?_; repeat' first | apply zs0 | apply zs2 | (intro hc; try have hq := dq hc)) | fail
    refine lp_then (lp_any (c := loopAt Tryz.f16 0) rfl (key _ 0 _ _ (by omega) ⟨rfl, by (simp only [seval, push_cast, *] <;> rfl), by (simp only [seval, push_cast, *] <;> rfl), by (simp only [seval, push_cast, *] <;> rfl), ⟨rfl⟩⟩)) ?_
    rintro ex ρ' H' ⟨rfl, ⟨he, rfl⟩ | ⟨he, f4, rfl⟩⟩ hf
    · clear key
      repeat' first
       | (apply z50 (id := 6) (ord := [0, 1, 2, 3, 4, 5, 6, 7, 8]) <;> first | kernel_rfl | skip)
       | (refine zs ?_; repeat' first | apply zs0 | apply zs2 | (intro hc; try have hq := dq hc)) | fail
    · clear key
      repeat' first
       | (apply z50 (id := 6) (ord := [0, 1, 2, 3, 4, 5, 6, 7, 8]) <;> first | kernel_rfl | skip)
       | (refine zs ?_; repeat' first | apply zs0 | apply zs2 | (intro hc; try have hq := dq hc)) | fail
  · have hne : ¬ a = b := fun h => hab (h ▸ rfl)
    repeat' first
     | (apply z50 (id := 6) (ord := [0, 1, 2, 3, 4, 5, 6, 7, 8]) <;> first | kernel_rfl | skip)
     | (refine zs ?_; repeat' first | apply zs0 | apply zs2 | (intro hc; try have hq := dq hc)) | fail

end Go.E
/- Contracts of the references' base, in E: whether netlists are the same. Own work. -/
namespace Go.E
open Go.Proofs
set_option maxRecDepth 100000
set_option maxHeartbeats 4000000
deriving instance DecidableEq for Port
deriving instance DecidableEq for Reg
deriving instance DecidableEq for Node
deriving instance DecidableEq for Outp
deriving instance DecidableEq for Netl
theorem eqT_int {P : Program} {d : Nat} {t : TypeId} {k : IntKind} {a b : Int} (h : P.underlying t = some (.int k)) : eqT P (d + 1) t (.int k a) (.int k b) = some (decide (a = b)) := by
  rw [eqT]
  rotate_left 2
  exact h
  simp only [if_true]; rfl
theorem eqT_str {P : Program} {d : Nat} {t : TypeId} {a b : ByteArray} (h : P.underlying t = some .string) : eqT P (d + 1) t (.str a) (.str b) = some (decide (a = b)) := by
  rw [eqT]; exact h
theorem eqT_i (a b : Int) : eqT Tryz.prog 99 3 (.int .i64 a) (.int .i64 b) = some (decide (a = b)) := eqT_int (d := 98) Tryz.underlying3
theorem eqT_s (a b : ByteArray) : eqT Tryz.prog 99 9 (.str a) (.str b) = some (decide (a = b)) := eqT_str (d := 98) Tryz.underlying9
theorem ne_port (x y : Port) : binOpV Tryz.prog .neq 93 (encPort x) (encPort y) = some (.bool (!decide (x = y))) := by
  have hg : Program.eqGuardType Tryz.prog Tryz.prog.depth 93 = false := by kernel_rfl
  have hs : Tryz.prog.stoodInHeld 93 = false := by kernel_rfl
  have e : decide (x = y) = (decide (x.name = y.name) && decide (x.width = y.width)) := by
    obtain ⟨a, b⟩ := x; obtain ⟨c, d⟩ := y
    simp only [Port.mk.injEq, Bool.decide_and]
  rw [e]
  simp only [binOpV, eqlOp, encPort, hg, Bool.false_eq_true, if_false]
  rw [eqT]
  rotate_left 2
  exact Tryz.underlying93
  simp only [hs, Bool.false_eq_true, if_false, List.toList_toArray, List.foldr_cons, List.foldr_nil, partV, ag9, sz9, ag3, sz3, List.getElem?_cons_zero, List.getElem?_cons_succ, Option.bind_some, eqT_i, eqT_s]
  by_cases h1 : x.name = y.name <;> by_cases h2 : x.width = y.width <;> simp [h1, h2]
theorem ne_outp (x y : Outp) : binOpV Tryz.prog .neq 97 (encOutp x) (encOutp y) = some (.bool (!decide (x = y))) := by
  have hg : Program.eqGuardType Tryz.prog Tryz.prog.depth 97 = false := by kernel_rfl
  have hs : Tryz.prog.stoodInHeld 97 = false := by kernel_rfl
  have e : decide (x = y) = (decide (x.name = y.name) && decide (x.node = y.node)) := by
    obtain ⟨a, b⟩ := x; obtain ⟨c, d⟩ := y
    simp only [Outp.mk.injEq, Bool.decide_and]
  rw [e]
  simp only [binOpV, eqlOp, encOutp, hg, Bool.false_eq_true, if_false]
  rw [eqT]
  rotate_left 2
  exact Tryz.underlying97
  simp only [hs, Bool.false_eq_true, if_false, List.toList_toArray, List.foldr_cons, List.foldr_nil, partV, ag9, sz9, ag3, sz3, List.getElem?_cons_zero, List.getElem?_cons_succ, Option.bind_some, eqT_i, eqT_s]
  by_cases h1 : x.name = y.name <;> by_cases h2 : x.node = y.node <;> simp [h1, h2]
theorem ne_reg (x y : Reg) : binOpV Tryz.prog .neq 95 (encReg x) (encReg y) = some (.bool (!decide (x = y))) := by
  have hg : Program.eqGuardType Tryz.prog Tryz.prog.depth 95 = false := by kernel_rfl
  have hs : Tryz.prog.stoodInHeld 95 = false := by kernel_rfl
  have e : decide (x = y) = (decide (x.name = y.name) && (decide (x.width = y.width) && (decide (x.init = y.init) && (decide (x.enable = y.enable) && decide (x.next = y.next))))) := by
    obtain ⟨a, b, c, d, e⟩ := x; obtain ⟨a', b', c', d', e'⟩ := y
    simp only [Reg.mk.injEq, Bool.decide_and]
  rw [e]
  simp only [binOpV, eqlOp, encReg, hg, Bool.false_eq_true, if_false]
  rw [eqT]
  rotate_left 2
  exact Tryz.underlying95
  simp only [hs, Bool.false_eq_true, if_false, List.toList_toArray, List.foldr_cons, List.foldr_nil, partV, ag9, sz9, ag3, sz3, List.getElem?_cons_zero, List.getElem?_cons_succ, Option.bind_some, eqT_i, eqT_s]
  by_cases h1 : x.name = y.name <;> by_cases h2 : x.width = y.width <;> by_cases h3 : x.init = y.init <;> by_cases h4 : x.enable = y.enable <;> by_cases h5 : x.next = y.next <;> simp [h1, h2, h3, h4, h5]

theorem bs_samePorts (bs : List Nat) (H : Heap) (a b : List Port) (ha : a.length ≤ 1000000) (hb : b.length ≤ 1000000) : callw X bs 103 [.list (a.map encPort), .list (b.map encPort)] H = some (.bool (decide (a = b)), H) := by
  refine call_at (rs := [.tmp 4]) (N := 26) (fn := Tryz.f103) xk103 xf103 rfl rfl rfl (by simp only [seval, push_cast, List.map_cons, List.map_nil, V.norm, norm1]; rfl) ?_
  rcases Classical.em (a.length = b.length) with hab | hab
  · have key : ∀ (bs : List Nat) i ρ H', i ≤ a.length → (H' = H ∧ ρ 0 = .list (a.map encPort) ∧ ρ 1 = .list (b.map encPort) ∧ ρ 5 = .int .i64 i ∧ Kp (a.take i = b.take i)) →
      Lp X ⟨26, bs⟩ (loopAt Tryz.f103 0) ρ H' fun ex ρ' H' => H' = H ∧ ((a = b ∧ ex = .exit 0) ∨ (a ≠ b ∧ ρ' 4 = .bool false ∧ ex = .ret)) := by
      intro bs
      refine loop_up ?_ ?_
      · rintro i ρ H' hlt ⟨rfl, h0, h1, h5, hk⟩
        have hget : a[i]? = some a[i] := by simp [hlt]
        have hgetb : b[i]? = some b[i] := by simp [hab ▸ hlt]
        have hw := add1 i a.length hlt (by omega)
        have hn := take_step hget hgetb hk.out
        generalize a[i] = x at hget hn
        generalize b[i] = y at hgetb hn
        have hq := ne_port x y
        simp only [encPort] at hq
        rcases Classical.em (x = y) with hxy | hxy
        · have hk2 := Kp.mk (hn.1 hxy)
          rw [decide_eq_true hxy] at hq
          clear hxy hn
          conv => arg 3; whnf
          repeat' first
           | (apply z50 (id := 6) (ord := [0, 1, 2, 3, 4, 5, 6, 7, 8]) <;> first | kernel_rfl | skip)
           | (refine zs ?_; repeat' first | apply zs0 | apply zs2 | (intro hc; try have hq := dq hc)) | fail
          exact ⟨by (simp only [seval, push_cast, *] <;> rfl), by (simp only [seval, push_cast, *] <;> rfl), by (simp only [seval, push_cast, *] <;> rfl), by (simp only [seval, push_cast, *] <;> rfl), hk2⟩
        · have hk2 := Kp.mk (hn.2 hxy)
          rw [decide_eq_false hxy] at hq
          clear hxy hn
          conv => arg 3; whnf
          repeat' first
           | (apply z50 (id := 6) (ord := [0, 1, 2, 3, 4, 5, 6, 7, 8]) <;> first | kernel_rfl | skip)
           | (refine zs ?_; repeat' first | apply zs0 | apply zs2 | (intro hc; try have hq := dq hc)) | fail
          exact ⟨by (simp only [seval, push_cast, *] <;> rfl), .inr ⟨hk2.out, by (simp only [seval, push_cast, *] <;> rfl), rfl⟩⟩
      · rintro ρ H' ⟨rfl, h0, h1, h5, hk⟩
        have hk2 : Kp (a = b) := ⟨by have := hk.out; rw [hab, List.take_length, ← hab, List.take_length] at this; exact this⟩
        conv => arg 3; whnf
        repeat' first
         | (apply z50 (id := 6) (ord := [0, 1, 2, 3, 4, 5, 6, 7, 8]) <;> first | kernel_rfl | skip)
         | (refine zs ?_; repeat' first | apply zs0 | apply zs2 | (intro hc; try have hq := dq hc)) | fail
        exact ⟨by (simp only [seval, push_cast, *] <;> rfl), .inl ⟨hk2.out, rfl⟩⟩
    repeat' first
     | (apply z50 (id := 6) (ord := [0, 1, 2, 3, 4, 5, 6, 7, 8]) <;> first | kernel_rfl | skip)
     | (refine zs ?_; repeat' first | apply zs0 | apply zs2 | (intro hc; try have hq := dq hc)) | fail
    refine lp_then (lp_any (c := loopAt Tryz.f103 0) rfl (key _ 0 _ _ (by omega) ⟨rfl, by (simp only [seval, push_cast, *] <;> rfl), by (simp only [seval, push_cast, *] <;> rfl), by (simp only [seval, push_cast, *] <;> rfl), ⟨rfl⟩⟩)) ?_
    rintro ex ρ' H' ⟨rfl, ⟨he, rfl⟩ | ⟨he, f4, rfl⟩⟩ hf
    · clear key
      repeat' first
       | (apply z50 (id := 6) (ord := [0, 1, 2, 3, 4, 5, 6, 7, 8]) <;> first | kernel_rfl | skip)
       | (refine zs ?_; repeat' first | apply zs0 | apply zs2 | (intro hc; try have hq := dq hc)) | fail
    · clear key
      repeat' first
       | (apply z50 (id := 6) (ord := [0, 1, 2, 3, 4, 5, 6, 7, 8]) <;> first | kernel_rfl | skip)
       | (refine zs ?_; repeat' first | apply zs0 | apply zs2 | (intro hc; try have hq := dq hc)) | fail
  · have hne : ¬ a = b := fun h => hab (h ▸ rfl)
    repeat' first
     | (apply z50 (id := 6) (ord := [0, 1, 2, 3, 4, 5, 6, 7, 8]) <;> first | kernel_rfl | skip)
     | (refine zs ?_; repeat' first | apply zs0 | apply zs2 | (intro hc; try have hq := dq hc)) | fail

theorem bs_sameOutputs (bs : List Nat) (H : Heap) (a b : List Outp) (ha : a.length ≤ 1000000) (hb : b.length ≤ 1000000) : callw X bs 105 [.list (a.map encOutp), .list (b.map encOutp)] H = some (.bool (decide (a = b)), H) := by
  refine call_at (rs := [.tmp 4]) (N := 26) (fn := Tryz.f105) xk105 xf105 rfl rfl rfl (by simp only [seval, push_cast, List.map_cons, List.map_nil, V.norm, norm1]; rfl) ?_
  rcases Classical.em (a.length = b.length) with hab | hab
  · have key : ∀ (bs : List Nat) i ρ H', i ≤ a.length → (H' = H ∧ ρ 0 = .list (a.map encOutp) ∧ ρ 1 = .list (b.map encOutp) ∧ ρ 5 = .int .i64 i ∧ Kp (a.take i = b.take i)) →
      Lp X ⟨26, bs⟩ (loopAt Tryz.f105 0) ρ H' fun ex ρ' H' => H' = H ∧ ((a = b ∧ ex = .exit 0) ∨ (a ≠ b ∧ ρ' 4 = .bool false ∧ ex = .ret)) := by
      intro bs
      refine loop_up ?_ ?_
      · rintro i ρ H' hlt ⟨rfl, h0, h1, h5, hk⟩
        have hget : a[i]? = some a[i] := by simp [hlt]
        have hgetb : b[i]? = some b[i] := by simp [hab ▸ hlt]
        have hw := add1 i a.length hlt (by omega)
        have hn := take_step hget hgetb hk.out
        generalize a[i] = x at hget hn
        generalize b[i] = y at hgetb hn
        have hq := ne_outp x y
        simp only [encOutp] at hq
        rcases Classical.em (x = y) with hxy | hxy
        · have hk2 := Kp.mk (hn.1 hxy)
          rw [decide_eq_true hxy] at hq
          clear hxy hn
          conv => arg 3; whnf
          repeat' first
           | (apply z50 (id := 6) (ord := [0, 1, 2, 3, 4, 5, 6, 7, 8]) <;> first | kernel_rfl | skip)
           | (refine zs ?_; repeat' first | apply zs0 | apply zs2 | (intro hc; try have hq := dq hc)) | fail
          exact ⟨by (simp only [seval, push_cast, *] <;> rfl), by (simp only [seval, push_cast, *] <;> rfl), by (simp only [seval, push_cast, *] <;> rfl), by (simp only [seval, push_cast, *] <;> rfl), hk2⟩
        · have hk2 := Kp.mk (hn.2 hxy)
          rw [decide_eq_false hxy] at hq
          clear hxy hn
          conv => arg 3; whnf
          repeat' first
           | (apply z50 (id := 6) (ord := [0, 1, 2, 3, 4, 5, 6, 7, 8]) <;> first | kernel_rfl | skip)
           | (refine zs ?_; repeat' first | apply zs0 | apply zs2 | (intro hc; try have hq := dq hc)) | fail
          exact ⟨by (simp only [seval, push_cast, *] <;> rfl), .inr ⟨hk2.out, by (simp only [seval, push_cast, *] <;> rfl), rfl⟩⟩
      · rintro ρ H' ⟨rfl, h0, h1, h5, hk⟩
        have hk2 : Kp (a = b) := ⟨by have := hk.out; rw [hab, List.take_length, ← hab, List.take_length] at this; exact this⟩
        conv => arg 3; whnf
        repeat' first
         | (apply z50 (id := 6) (ord := [0, 1, 2, 3, 4, 5, 6, 7, 8]) <;> first | kernel_rfl | skip)
         | (refine zs ?_; repeat' first | apply zs0 | apply zs2 | (intro hc; try have hq := dq hc)) | fail
        exact ⟨by (simp only [seval, push_cast, *] <;> rfl), .inl ⟨hk2.out, rfl⟩⟩
    repeat' first
     | (apply z50 (id := 6) (ord := [0, 1, 2, 3, 4, 5, 6, 7, 8]) <;> first | kernel_rfl | skip)
     | (refine zs ?_; repeat' first | apply zs0 | apply zs2 | (intro hc; try have hq := dq hc)) | fail
    refine lp_then (lp_any (c := loopAt Tryz.f105 0) rfl (key _ 0 _ _ (by omega) ⟨rfl, by (simp only [seval, push_cast, *] <;> rfl), by (simp only [seval, push_cast, *] <;> rfl), by (simp only [seval, push_cast, *] <;> rfl), ⟨rfl⟩⟩)) ?_
    rintro ex ρ' H' ⟨rfl, ⟨he, rfl⟩ | ⟨he, f4, rfl⟩⟩ hf
    · clear key
      repeat' first
       | (apply z50 (id := 6) (ord := [0, 1, 2, 3, 4, 5, 6, 7, 8]) <;> first | kernel_rfl | skip)
       | (refine zs ?_; repeat' first | apply zs0 | apply zs2 | (intro hc; try have hq := dq hc)) | fail
    · clear key
      repeat' first
       | (apply z50 (id := 6) (ord := [0, 1, 2, 3, 4, 5, 6, 7, 8]) <;> first | kernel_rfl | skip)
       | (refine zs ?_; repeat' first | apply zs0 | apply zs2 | (intro hc; try have hq := dq hc)) | fail
  · have hne : ¬ a = b := fun h => hab (h ▸ rfl)
    repeat' first
     | (apply z50 (id := 6) (ord := [0, 1, 2, 3, 4, 5, 6, 7, 8]) <;> first | kernel_rfl | skip)
     | (refine zs ?_; repeat' first | apply zs0 | apply zs2 | (intro hc; try have hq := dq hc)) | fail

theorem bs_sameNodes (bs : List Nat) (H : Heap) (a b : List Node) (ha : a.length ≤ 1000000) (hb : b.length ≤ 1000000) (haa : ∀ x ∈ a, x.args.length ≤ 1000000) (hbb : ∀ x ∈ b, x.args.length ≤ 1000000) : callw X bs 104 [.list (a.map encNode), .list (b.map encNode)] H = some (.bool (decide (a = b)), H) := by
  refine call_at (rs := [.tmp 4]) (N := 68) (fn := Tryz.f104) xk104 xf104 rfl rfl rfl (by simp only [seval, push_cast, List.map_cons, List.map_nil, V.norm, norm1]; rfl) ?_
  rcases Classical.em (a.length = b.length) with hab | hab
  · have key : ∀ (bs : List Nat) i ρ H', i ≤ a.length → (H' = H ∧ ρ 0 = .list (a.map encNode) ∧ ρ 1 = .list (b.map encNode) ∧ ρ 5 = .int .i64 i ∧ Kp (a.take i = b.take i)) →
      Lp X ⟨68, bs⟩ (loopAt Tryz.f104 0) ρ H' fun ex ρ' H' => H' = H ∧ ((a = b ∧ ex = .exit 0) ∨ (a ≠ b ∧ ρ' 4 = .bool false ∧ ex = .ret)) := by
      intro bs
      refine loop_up ?_ ?_
      · rintro i ρ H' hlt ⟨rfl, h0, g1, h5, hk⟩
        have hget : a[i]? = some a[i] := by simp [hlt]
        have hgetb : b[i]? = some b[i] := by simp [hab ▸ hlt]
        have hw := add1 i a.length hlt (by omega)
        have hn := take_step hget hgetb hk.out
        have hai := fun bs H => bs_ints bs H a[i].args b[i].args (haa _ (List.getElem_mem _)) (hbb _ (List.getElem_mem _))
        generalize a[i] = x at hget hn hai
        generalize b[i] = y at hgetb hn hai
        clear haa hbb
        by_cases h1 : x.op = y.op
        case neg =>
          have hk2 := Kp.mk (hn.2 (fun e => h1 (by rw [e])))
          have d1 : (decide ¬ x.op = y.op) = true := decide_eq_true h1
          clear h1 hn
          conv => arg 3; whnf
          repeat' first
           | (apply z50 (id := 6) (ord := [0, 1, 2, 3, 4, 5, 6, 7, 8, 9, 10, 11, 12, 13, 14, 15, 16, 17, 18, 19, 20, 21, 22, 23, 24, 25, 26, 27, 28, 29, 30, 31, 32, 33, 34, 35, 36, 37, 38, 39, 40, 41, 42, 43, 44, 45, 46, 47, 48, 49, 50]) <;> first | kernel_rfl | skip)
           | (refine zs ?_; repeat' first | apply zs0 | apply zs2 | (intro hc; try have hq := dq hc)) | fail
          exact ⟨by (simp only [seval, push_cast, *] <;> rfl), .inr ⟨hk2.out, by (simp only [seval, push_cast, *] <;> rfl), rfl⟩⟩
        have d1 : (decide ¬ x.op = y.op) = false := decide_eq_false (by simpa using h1)
        by_cases h2 : x.width = y.width
        case neg =>
          have hk2 := Kp.mk (hn.2 (fun e => h2 (by rw [e])))
          have d2 : (decide ¬ x.width = y.width) = true := decide_eq_true h2
          clear h2 hn
          conv => arg 3; whnf
          repeat' first
           | (apply z50 (id := 6) (ord := [0, 1, 2, 3, 4, 5, 6, 7, 8, 9, 10, 11, 12, 13, 14, 15, 16, 17, 18, 19, 20, 21, 22, 23, 24, 25, 26, 27, 28, 29, 30, 31, 32, 33, 34, 35, 36, 37, 38, 39, 40, 41, 42, 43, 44, 45, 46, 47, 48, 49, 50]) <;> first | kernel_rfl | skip)
           | (refine zs ?_; repeat' first | apply zs0 | apply zs2 | (intro hc; try have hq := dq hc)) | fail
          exact ⟨by (simp only [seval, push_cast, *] <;> rfl), .inr ⟨hk2.out, by (simp only [seval, push_cast, *] <;> rfl), rfl⟩⟩
        have d2 : (decide ¬ x.width = y.width) = false := decide_eq_false (by simpa using h2)
        by_cases h3 : x.value = y.value
        case neg =>
          have hk2 := Kp.mk (hn.2 (fun e => h3 (by rw [e])))
          have d3 : (decide ¬ x.value = y.value) = true := decide_eq_true h3
          clear h3 hn
          conv => arg 3; whnf
          repeat' first
           | (apply z50 (id := 6) (ord := [0, 1, 2, 3, 4, 5, 6, 7, 8, 9, 10, 11, 12, 13, 14, 15, 16, 17, 18, 19, 20, 21, 22, 23, 24, 25, 26, 27, 28, 29, 30, 31, 32, 33, 34, 35, 36, 37, 38, 39, 40, 41, 42, 43, 44, 45, 46, 47, 48, 49, 50]) <;> first | kernel_rfl | skip)
           | (refine zs ?_; repeat' first | apply zs0 | apply zs2 | (intro hc; try have hq := dq hc)) | fail
          exact ⟨by (simp only [seval, push_cast, *] <;> rfl), .inr ⟨hk2.out, by (simp only [seval, push_cast, *] <;> rfl), rfl⟩⟩
        have d3 : (decide ¬ x.value = y.value) = false := decide_eq_false (by simpa using h3)
        by_cases h4 : x.args = y.args
        case neg =>
          have hk2 := Kp.mk (hn.2 (fun e => h4 (by rw [e])))
          rw [decide_eq_false h4] at hai
          clear h4 hn h1 h2 h3
          conv => arg 3; whnf
          repeat' first
           | (apply z50 (id := 6) (ord := [0, 1, 2, 3, 4, 5, 6, 7, 8, 9, 10, 11, 12, 13, 14, 15, 16, 17, 18, 19, 20, 21, 22, 23, 24, 25, 26, 27, 28, 29, 30, 31, 32, 33, 34, 35, 36, 37, 38, 39, 40, 41, 42, 43, 44, 45, 46, 47, 48, 49, 50]) <;> first | kernel_rfl | skip)
           | (refine zs ?_; repeat' first | apply zs0 | apply zs2 | (intro hc; try have hq := dq hc)) | fail
          exact ⟨by (simp only [seval, push_cast, *] <;> rfl), .inr ⟨hk2.out, by (simp only [seval, push_cast, *] <;> rfl), rfl⟩⟩
        have hk2 := Kp.mk (hn.1 (by obtain ⟨a1, a2, a3, a4⟩ := x; obtain ⟨b1, b2, b3, b4⟩ := y; simp only at h1 h2 h3 h4; rw [h1, h2, h3, h4]))
        rw [decide_eq_true h4] at hai
        clear h4 hn h1 h2 h3
        conv => arg 3; whnf
        repeat' first
         | (apply z50 (id := 6) (ord := [0, 1, 2, 3, 4, 5, 6, 7, 8, 9, 10, 11, 12, 13, 14, 15, 16, 17, 18, 19, 20, 21, 22, 23, 24, 25, 26, 27, 28, 29, 30, 31, 32, 33, 34, 35, 36, 37, 38, 39, 40, 41, 42, 43, 44, 45, 46, 47, 48, 49, 50]) <;> first | kernel_rfl | skip)
         | (refine zs ?_; repeat' first | apply zs0 | apply zs2 | (intro hc; try have hq := dq hc)) | fail
        exact ⟨by (simp only [seval, push_cast, *] <;> rfl), by (simp only [seval, push_cast, *] <;> rfl), by (simp only [seval, push_cast, *] <;> rfl), by (simp only [seval, push_cast, *] <;> rfl), hk2⟩
      · rintro ρ H' ⟨rfl, h0, h1, h5, hk⟩
        have hk2 : Kp (a = b) := ⟨by have := hk.out; rw [hab, List.take_length, ← hab, List.take_length] at this; exact this⟩
        clear haa hbb
        conv => arg 3; whnf
        repeat' first
         | (apply z50 (id := 6) (ord := [0, 1, 2, 3, 4, 5, 6, 7, 8, 9, 10, 11, 12, 13, 14, 15, 16, 17, 18, 19, 20, 21, 22, 23, 24, 25, 26, 27, 28, 29, 30, 31, 32, 33, 34, 35, 36, 37, 38, 39, 40, 41, 42, 43, 44, 45, 46, 47, 48, 49, 50]) <;> first | kernel_rfl | skip)
         | (refine zs ?_; repeat' first | apply zs0 | apply zs2 | (intro hc; try have hq := dq hc)) | fail
        exact ⟨by (simp only [seval, push_cast, *] <;> rfl), .inl ⟨hk2.out, rfl⟩⟩
    clear haa hbb
    repeat' first
     | (apply z50 (id := 6) (ord := [0, 1, 2, 3, 4, 5, 6, 7, 8, 9, 10, 11, 12, 13, 14, 15, 16, 17, 18, 19, 20, 21, 22, 23, 24, 25, 26, 27, 28, 29, 30, 31, 32, 33, 34, 35, 36, 37, 38, 39, 40, 41, 42, 43, 44, 45, 46, 47, 48, 49, 50]) <;> first | kernel_rfl | skip)
     | (refine zs ?_; repeat' first | apply zs0 | apply zs2 | (intro hc; try have hq := dq hc)) | fail
    refine lp_then (lp_any (c := loopAt Tryz.f104 0) rfl (key _ 0 _ _ (by omega) ⟨rfl, by (simp only [seval, push_cast, *] <;> rfl), by (simp only [seval, push_cast, *] <;> rfl), by (simp only [seval, push_cast, *] <;> rfl), ⟨rfl⟩⟩)) ?_
    rintro ex ρ' H' ⟨rfl, ⟨he, rfl⟩ | ⟨he, f4, rfl⟩⟩ hf
    · clear key
      repeat' first
       | (apply z50 (id := 6) (ord := [0, 1, 2, 3, 4, 5, 6, 7, 8, 9, 10, 11, 12, 13, 14, 15, 16, 17, 18, 19, 20, 21, 22, 23, 24, 25, 26, 27, 28, 29, 30, 31, 32, 33, 34, 35, 36, 37, 38, 39, 40, 41, 42, 43, 44, 45, 46, 47, 48, 49, 50]) <;> first | kernel_rfl | skip)
       | (refine zs ?_; repeat' first | apply zs0 | apply zs2 | (intro hc; try have hq := dq hc)) | fail
    · clear key
      repeat' first
       | (apply z50 (id := 6) (ord := [0, 1, 2, 3, 4, 5, 6, 7, 8, 9, 10, 11, 12, 13, 14, 15, 16, 17, 18, 19, 20, 21, 22, 23, 24, 25, 26, 27, 28, 29, 30, 31, 32, 33, 34, 35, 36, 37, 38, 39, 40, 41, 42, 43, 44, 45, 46, 47, 48, 49, 50]) <;> first | kernel_rfl | skip)
       | (refine zs ?_; repeat' first | apply zs0 | apply zs2 | (intro hc; try have hq := dq hc)) | fail
  · have hne : ¬ a = b := fun h => hab (h ▸ rfl)
    clear haa hbb
    repeat' first
     | (apply z50 (id := 6) (ord := [0, 1, 2, 3, 4, 5, 6, 7, 8, 9, 10, 11, 12, 13, 14, 15, 16, 17, 18, 19, 20, 21, 22, 23, 24, 25, 26, 27, 28, 29, 30, 31, 32, 33, 34, 35, 36, 37, 38, 39, 40, 41, 42, 43, 44, 45, 46, 47, 48, 49, 50]) <;> first | kernel_rfl | skip)
     | (refine zs ?_; repeat' first | apply zs0 | apply zs2 | (intro hc; try have hq := dq hc)) | fail

end Go.E
/- Contracts of the references' base, in E: whether netlists are the same; where a number stands. Own work. -/
namespace Go.E
open Go.Proofs
set_option maxRecDepth 100000
set_option maxHeartbeats 4000000

theorem sn_regs (a b : Netl) (H : Heap) (hab : a.regs.length = b.regs.length) (hl : a.regs.length ≤ 1000) : ∀ (bs : List Nat) i ρ H', i ≤ a.regs.length → (H' = H ++ [.cells (cellsNetl a), .cells (cellsNetl b)] ∧ ρ 2 = .ptr H.length 0 ∧ ρ 3 = .ptr (H.length + 1) 0 ∧ ρ 5 = .int .i64 i ∧ Kp (a.regs.take i = b.regs.take i)) →
      Lp X ⟨62, bs⟩ (loopAt Tryz.f33 0) ρ H' fun ex ρ' H' => H' = H ++ [.cells (cellsNetl a), .cells (cellsNetl b)] ∧ ((a.regs = b.regs ∧ ex = .exit 0) ∨ (a.regs ≠ b.regs ∧ ρ' 4 = .bool false ∧ ex = .ret)) := by
  intro bs
  refine loop_up ?_ ?_
  · rintro i ρ H' hlt ⟨rfl, h0, h1, h5, hk⟩
    have hget : a.regs[i]? = some a.regs[i] := by simp [hlt]
    have hgetb : b.regs[i]? = some b.regs[i] := by simp [hab ▸ hlt]
    have hw := add1 i a.regs.length hlt (by omega)
    have hn := take_step hget hgetb hk.out
    generalize a.regs[i] = x at hget hn
    generalize b.regs[i] = y at hgetb hn
    have hq := ne_reg x y
    simp only [encReg] at hq
    simp only [cellsNetl]
    rcases Classical.em (x = y) with hxy | hxy
    · have hk2 := Kp.mk (hn.1 hxy)
      rw [decide_eq_true hxy] at hq
      clear hxy hn
      conv => arg 3; whnf
      repeat' first
       | (apply z50 (id := 6) (ord := [0, 1, 2, 3, 4, 5, 6, 7, 8, 9, 10]) <;> first | kernel_rfl | skip)
       | (refine zs ?_; repeat' first | apply zs0 | apply zs2 | (intro hc; try have hq := dq hc)) | fail
      exact ⟨rfl, by (simp only [seval, push_cast, *] <;> rfl), by (simp only [seval, push_cast, *] <;> rfl), by (simp only [seval, push_cast, *] <;> rfl), hk2⟩
    · have hk2 := Kp.mk (hn.2 hxy)
      rw [decide_eq_false hxy] at hq
      clear hxy hn
      conv => arg 3; whnf
      repeat' first
       | (apply z50 (id := 6) (ord := [0, 1, 2, 3, 4, 5, 6, 7, 8, 9, 10]) <;> first | kernel_rfl | skip)
       | (refine zs ?_; repeat' first | apply zs0 | apply zs2 | (intro hc; try have hq := dq hc)) | fail
      exact ⟨rfl, .inr ⟨hk2.out, by (simp only [seval, push_cast, *] <;> rfl), rfl⟩⟩
  · rintro ρ H' ⟨rfl, h0, h1, h5, hk⟩
    have hk2 : Kp (a.regs = b.regs) := ⟨by have := hk.out; rw [hab, List.take_length, ← hab, List.take_length] at this; exact this⟩
    simp only [cellsNetl]
    conv => arg 3; whnf
    repeat' first
     | (apply z50 (id := 6) (ord := [0, 1, 2, 3, 4, 5, 6, 7, 8, 9, 10]) <;> first | kernel_rfl | skip)
     | (refine zs ?_; repeat' first | apply zs0 | apply zs2 | (intro hc; try have hq := dq hc)) | fail
    exact ⟨rfl, .inl ⟨hk2.out, rfl⟩⟩
theorem bs_sameNet (bs : List Nat) (H : Heap) (a b : Netl) (hA : Small a) (hB : Small b) : callw X bs 33 [encNetl a, encNetl b] H = some (.bool (decide (a = b)), H) := by
  refine call_at (rs := [.tmp 4]) (N := 62) (fn := Tryz.f33) xk33 xf33 rfl rfl rfl (by simp only [seval, push_cast, List.map_cons, List.map_nil, V.norm, norm1]; rfl) ?_
  have t1 := fun bs H => bs_samePorts bs H a.inputs b.inputs (by have := hA.inputs; omega) (by have := hB.inputs; omega)
  have t2 := fun bs H => bs_sameNodes bs H a.nodes b.nodes (by have := hA.nodes; omega) (by have := hB.nodes; omega) (fun x hx => by have := hA.args x hx; omega) (fun x hx => by have := hB.args x hx; omega)
  have t3 := fun bs H => bs_sameOutputs bs H a.outs b.outs (by have := hA.outs; omega) (by have := hB.outs; omega)
  have e : ∀ {p q : Prop} [Decidable p] [Decidable q], (p ↔ q) → decide p = decide q := fun h => by simp [h]
  by_cases h1 : a.name = b.name
  case neg =>
    have d : (decide (a.name = b.name)) = false := decide_eq_false h1
    rw [decide_eq_false (fun e => h1 (by rw [e]))]
    clear t1 t2 t3 hA hB h1 e
    repeat' first
     | (apply z50 (id := 6) (ord := [0, 1, 2, 3, 4, 5, 6, 7, 8, 9, 10]) <;> first | kernel_rfl | skip)
     | (refine zs ?_; repeat' first | apply zs0 | apply zs2 | (intro hc; try have hq := dq hc)) | fail
  by_cases h2 : a.inputs = b.inputs
  case neg =>
    rw [decide_eq_false h2] at t1
    rw [decide_eq_false (fun e => h2 (by rw [e]))]
    clear t2 t3 hA hB e
    repeat' first
     | (apply z50 (id := 6) (ord := [0, 1, 2, 3, 4, 5, 6, 7, 8, 9, 10]) <;> first | kernel_rfl | skip)
     | (refine zs ?_; repeat' first | apply zs0 | apply zs2 | (intro hc; try have hq := dq hc)) | fail
  by_cases h3 : a.regs.length = b.regs.length
  case neg =>
    have d : (decide ¬ (a.regs.length : Int) = (b.regs.length : Int)) = true := decide_eq_true (by omega)
    rw [decide_eq_true h2] at t1
    rw [decide_eq_false (fun e => h3 (by rw [e]))]
    clear t2 t3 hA hB h2 h3 e
    repeat' first
     | (apply z50 (id := 6) (ord := [0, 1, 2, 3, 4, 5, 6, 7, 8, 9, 10]) <;> first | kernel_rfl | skip)
     | (refine zs ?_; repeat' first | apply zs0 | apply zs2 | (intro hc; try have hq := dq hc)) | fail
  have d3 : (decide ¬ (a.regs.length : Int) = (b.regs.length : Int)) = false := decide_eq_false (by omega)
  by_cases h4 : a.nodes = b.nodes
  case neg =>
    rw [decide_eq_true h2] at t1
    rw [decide_eq_false h4] at t2
    rw [decide_eq_false (fun e => h4 (by rw [e]))]
    clear t3 hA hB h2 h3 e
    repeat' first
     | (apply z50 (id := 6) (ord := [0, 1, 2, 3, 4, 5, 6, 7, 8, 9, 10]) <;> first | kernel_rfl | skip)
     | (refine zs ?_; repeat' first | apply zs0 | apply zs2 | (intro hc; try have hq := dq hc)) | fail
  by_cases h5 : a.outs = b.outs
  case neg =>
    rw [decide_eq_true h2] at t1
    rw [decide_eq_true h4] at t2
    rw [decide_eq_false h5] at t3
    rw [decide_eq_false (fun e => h5 (by rw [e]))]
    clear hA hB h2 h3 h4 e
    repeat' first
     | (apply z50 (id := 6) (ord := [0, 1, 2, 3, 4, 5, 6, 7, 8, 9, 10]) <;> first | kernel_rfl | skip)
     | (refine zs ?_; repeat' first | apply zs0 | apply zs2 | (intro hc; try have hq := dq hc)) | fail
  have key := fun bs ρ => sn_regs a b H h3 hA.regs bs 0 ρ
  rw [decide_eq_true h2] at t1
  rw [decide_eq_true h4] at t2
  rw [decide_eq_true h5] at t3
  have hR : decide (a = b) = decide (a.regs = b.regs) := e ⟨fun h => by rw [h], fun h => by obtain ⟨x1, x2, x3, x4, x5⟩ := a; obtain ⟨y1, y2, y3, y4, y5⟩ := b; simp only at h h1 h2 h4 h5; rw [h, h1, h2, h4, h5]⟩
  rw [hR]
  simp only [cellsNetl] at key
  have d1 : decide (a.name = b.name) = true := decide_eq_true h1
  clear hA hB h1 h2 h3 h4 h5 e hR
  repeat' first
   | (apply z50 (id := 6) (ord := [0, 1, 2, 3, 4, 5, 6, 7, 8, 9, 10]) <;> first | kernel_rfl | skip)
   | (refine zs ?_; repeat' first | apply zs0 | apply zs2 | (intro hc; try have hq := dq hc)) | fail
  refine lp_then (lp_any (c := loopAt Tryz.f33 0) rfl (key _ _ _ (by omega) ⟨rfl, by (simp only [seval, push_cast, *] <;> rfl), by (simp only [seval, push_cast, *] <;> rfl), by (simp only [seval, push_cast, *] <;> rfl), ⟨rfl⟩⟩)) ?_
  rintro ex ρ' H' ⟨rfl, ⟨he, rfl⟩ | ⟨he, f4, rfl⟩⟩ hf
  · clear key
    rw [decide_eq_true he]
    clear he
    repeat' first
     | (apply z50 (id := 6) (ord := [0, 1, 2, 3, 4, 5, 6, 7, 8, 9, 10]) <;> first | kernel_rfl | skip)
     | (refine zs ?_; repeat' first | apply zs0 | apply zs2 | (intro hc; try have hq := dq hc)) | fail
  · clear key
    rw [decide_eq_false he]
    clear he
    repeat' first
     | (apply z50 (id := 6) (ord := [0, 1, 2, 3, 4, 5, 6, 7, 8, 9, 10]) <;> first | kernel_rfl | skip)
     | (refine zs ?_; repeat' first | apply zs0 | apply zs2 | (intro hc; try have hq := dq hc)) | fail

def posL (l : List Int) (n : Int) : Int := idxF (fun x => decide (x = n)) 0 l
theorem bs_position (bs : List Nat) (H : Heap) (l : List Int) (n : Int) (hl : l.length ≤ 1000000) : callw X bs 107 [.list (l.map (.int .i64)), .int .i64 n] H = some (.int .i64 (posL l n), H) := by
  refine call_at (rs := [.tmp 4]) (N := 19) (fn := Tryz.f107) xk107 xf107 rfl rfl rfl (by simp only [seval, push_cast, List.map_cons, List.map_nil, V.norm, norm1]; rfl) ?_
  have key : ∀ (R : Int) (bs : List Nat) i ρ H', i ≤ l.length → (H' = H ∧ ρ 0 = .list (l.map (.int .i64)) ∧ ρ 1 = .int .i64 n ∧ ρ 5 = .int .i64 i ∧ Kp (idxF (fun x => decide (x = n)) i (l.drop i) = R)) →
      Lp X ⟨19, bs⟩ (loopAt Tryz.f107 0) ρ H' fun ex ρ' H' => H' = H ∧ ((ex = .exit 0 ∧ R = -1) ∨ (ex = .ret ∧ ρ' 4 = .int .i64 R)) := by
    intro R bs
    refine loop_up ?_ ?_
    · rintro i ρ H' hi ⟨rfl, h0, h1, h5, hR⟩
      have hget : l[i]? = some l[i] := by simp [hi]
      generalize l[i] = x at hget
      have hw := add1 i l.length hi hl
      replace hR := hR.out
      rw [drop_cons hget, idxF] at hR
      by_cases hx : x = n
      · rw [if_pos (by simpa using hx)] at hR
        have d : decide (x = n) = true := decide_eq_true hx
        replace hR : Kp (_ = _) := ⟨hR⟩
        clear hx
        conv => arg 3; whnf
        all_goals try (refine zs ?_; repeat' first | apply zs0 | apply zs2 | (intro hc; try have hq := dq hc))
        exact ⟨rfl, .inr ⟨rfl, by rw [← hR.out]; simp only [seval, push_cast]⟩⟩
      · rw [if_neg (by simpa using hx)] at hR
        have d : decide (x = n) = false := decide_eq_false hx
        replace hR : Kp (_ = _) := ⟨hR⟩
        clear hx
        conv => arg 3; whnf
        all_goals try (refine zs ?_; repeat' first | apply zs0 | apply zs2 | (intro hc; try have hq := dq hc))
        exact ⟨rfl, by (simp only [seval, push_cast, *] <;> rfl), by (simp only [seval, push_cast, *] <;> rfl), by (simp only [seval, push_cast, *] <;> rfl), ⟨hR.out⟩⟩
    · rintro ρ H' ⟨rfl, h0, h1, h5, hR⟩
      replace hR := hR.out
      rw [List.drop_length, idxF] at hR
      conv => arg 3; whnf
      all_goals try (refine zs ?_; repeat' first | apply zs0 | apply zs2 | (intro hc; try have hq := dq hc))
      exact ⟨rfl, .inl ⟨rfl, hR.symm⟩⟩
  unfold posL
  all_goals try (refine zs ?_; repeat' first | apply zs0 | apply zs2 | (intro hc; try have hq := dq hc))
  refine lp_then (lp_any (c := loopAt Tryz.f107 0) rfl (key (idxF (fun x => decide (x = n)) 0 l) _ 0 _ _ (by omega) ⟨rfl, by (simp only [seval, push_cast, *] <;> rfl), by (simp only [seval, push_cast, *] <;> rfl), by (simp only [seval, push_cast, *] <;> rfl), ⟨rfl⟩⟩)) ?_
  rintro ex ρ' H' ⟨rfl, ⟨rfl, h2⟩ | ⟨rfl, h2⟩⟩ -
  · rw [h2]
    all_goals try (refine zs ?_; repeat' first | apply zs0 | apply zs2 | (intro hc; try have hq := dq hc))
  · all_goals try (refine zs ?_; repeat' first | apply zs0 | apply zs2 | (intro hc; try have hq := dq hc))
theorem sl_index (bs : List Nat) (H : Heap) (l : List Int) (n : Int) (hl : l.length ≤ 1000000) : callw X bs 102 [.list (l.map (.int .i64)), .int .i64 n] H = some (.int .i64 (posL l n), H) := by
  refine call_at (rs := [.tmp 4]) (N := 19) (fn := Tryz.f102) xk102 xf102 rfl rfl rfl (by simp only [seval, push_cast, List.map_cons, List.map_nil, V.norm, norm1]; rfl) ?_
  have key : ∀ (R : Int) (bs : List Nat) i ρ H', i ≤ l.length → (H' = H ∧ ρ 0 = .list (l.map (.int .i64)) ∧ ρ 1 = .int .i64 n ∧ ρ 7 = .int .i64 l.length ∧ ρ 8 = .int .i64 i ∧ Kp (idxF (fun x => decide (x = n)) i (l.drop i) = R)) →
      Lp X ⟨19, bs⟩ (loopAt Tryz.f102 0) ρ H' fun ex ρ' H' => H' = H ∧ ((ex = .exit 0 ∧ R = -1) ∨ (ex = .ret ∧ ρ' 4 = .int .i64 R)) := by
    intro R bs
    refine loop_up ?_ ?_
    · rintro i ρ H' hi ⟨rfl, h0, h1, h7, h8, hR⟩
      have hget : l[i]? = some l[i] := by simp [hi]
      generalize l[i] = x at hget
      have hw := add1 i l.length hi hl
      replace hR := hR.out
      rw [drop_cons hget, idxF] at hR
      by_cases hx : x = n
      · rw [if_pos (by simpa using hx)] at hR
        have d : decide (n = x) = true := decide_eq_true hx.symm
        replace hR : Kp (_ = _) := ⟨hR⟩
        clear hx
        conv => arg 3; whnf
        all_goals try (refine zs ?_; repeat' first | apply zs0 | apply zs2 | (intro hc; try have hq := dq hc))
        exact ⟨rfl, .inr ⟨rfl, by rw [← hR.out]; simp only [seval, push_cast]⟩⟩
      · rw [if_neg (by simpa using hx)] at hR
        have d : decide (n = x) = false := decide_eq_false (Ne.symm hx)
        replace hR : Kp (_ = _) := ⟨hR⟩
        clear hx
        conv => arg 3; whnf
        all_goals try (refine zs ?_; repeat' first | apply zs0 | apply zs2 | (intro hc; try have hq := dq hc))
        exact ⟨rfl, by (simp only [seval, push_cast, *] <;> rfl), by (simp only [seval, push_cast, *] <;> rfl), by (simp only [seval, push_cast, *] <;> rfl), by (simp only [seval, push_cast, *] <;> rfl), ⟨hR.out⟩⟩
    · rintro ρ H' ⟨rfl, h0, h1, h7, h8, hR⟩
      replace hR := hR.out
      rw [List.drop_length, idxF] at hR
      conv => arg 3; whnf
      all_goals try (refine zs ?_; repeat' first | apply zs0 | apply zs2 | (intro hc; try have hq := dq hc))
      exact ⟨rfl, .inl ⟨rfl, hR.symm⟩⟩
  unfold posL
  all_goals try (refine zs ?_; repeat' first | apply zs0 | apply zs2 | (intro hc; try have hq := dq hc))
  refine lp_then (lp_any (c := loopAt Tryz.f102 0) rfl (key (idxF (fun x => decide (x = n)) 0 l) _ 0 _ _ (by omega) ⟨rfl, by (simp only [seval, push_cast, *] <;> rfl), by (simp only [seval, push_cast, *] <;> rfl), by (simp only [seval, push_cast, *] <;> rfl), by (simp only [seval, push_cast, *] <;> rfl), ⟨rfl⟩⟩)) ?_
  rintro ex ρ' H' ⟨rfl, ⟨rfl, h2⟩ | ⟨rfl, h2⟩⟩ -
  · rw [h2]
    all_goals try (refine zs ?_; repeat' first | apply zs0 | apply zs2 | (intro hc; try have hq := dq hc))
  · all_goals try (refine zs ?_; repeat' first | apply zs0 | apply zs2 | (intro hc; try have hq := dq hc))
end Go.E
/- What a reference says is used, in plain Lean and in E: Below. Own work. -/
namespace Go.E
open Go.Proofs
set_option maxRecDepth 100000
set_option maxHeartbeats 4000000

def belowGo (nodes : List Node) : Nat → List Bool → List Bool
  | 0, nb => nb
  | i + 1, nb => belowGo nodes i (match nodes[i]? with | some x => if bAt nb i = true then markAll nb x.args else nb | none => nb)
def belowS (nodes : List Node) (fro : List Int) : List Bool := belowGo nodes nodes.length (markAll (List.replicate nodes.length false) fro)
theorem belowGo_len (nodes : List Node) : ∀ (i : Nat) (nb : List Bool), (belowGo nodes i nb).length = nb.length
  | 0, nb => rfl
  | i + 1, nb => by
    rw [belowGo, belowGo_len nodes i]
    split
    · split
      · exact markAll_len _ _
      · rfl
    · rfl
theorem belowGo_mono (nodes : List Node) : ∀ (i : Nat) {nb : List Bool} {k : Nat}, bAt nb k = true → bAt (belowGo nodes i nb) k = true
  | 0, nb, k, h => h
  | i + 1, nb, k, h => by
    rw [belowGo]
    refine belowGo_mono nodes i ?_
    split
    · split
      · exact markAll_mono _ h
      · exact h
    · exact h
/-- What is marked hangs on what was. -/
theorem belowGo_used {n : Netl} : ∀ (i : Nat) {nb : List Bool}, (∀ k, bAt nb k = true → UsedN n k) → ∀ k, bAt (belowGo n.nodes i nb) k = true → UsedN n k
  | 0, nb, h => h
  | i + 1, nb, h => by
    rw [belowGo]
    refine belowGo_used i ?_
    split
    · rename_i x hx
      split
      · rename_i hb
        intro k hk
        rcases markAll_inv _ hk with hk | ⟨a, ha, rfl⟩
        · exact h k hk
        · exact .arg i x a (h i hb) hx ha
      · exact h
    · exact h
theorem belowGo_closed {n : Netl} (hn : NodesOk n) : ∀ (i : Nat) {nb : List Bool}, nb.length = n.nodes.length → (∀ k, i ≤ k → bAt nb k = true → ∀ x, n.nodes[k]? = some x → ∀ a ∈ x.args, bAt nb a.toNat = true) →
    ∀ k, bAt (belowGo n.nodes i nb) k = true → ∀ x, n.nodes[k]? = some x → ∀ a ∈ x.args, bAt (belowGo n.nodes i nb) a.toNat = true
  | 0, nb, _, h => fun k hk x hx a ha => h k (Nat.zero_le _) hk x hx a ha
  | i + 1, nb, hl, h => by
    rw [belowGo]
    cases hx : n.nodes[i]? with
    | none => 
      refine belowGo_closed hn i hl fun k hk hb y hy => ?_
      rcases Nat.lt_or_eq_of_le hk with h1 | rfl
      · exact h k h1 hb y hy
      · rw [hx] at hy; cases hy
    | some x =>
      simp only
      by_cases hb : bAt nb i = true
      · rw [if_pos hb]
        have hlt := (List.getElem?_eq_some_iff.1 hx).1
        refine belowGo_closed hn i ((markAll_len _ _).trans hl) fun k hk hbk y hy a ha => ?_
        rcases Nat.lt_or_eq_of_le hk with h1 | rfl
        · have hk2 : bAt nb k = true := by
            rcases markAll_inv _ hbk with hq | ⟨b, hb2, rfl⟩
            · exact hq
            · have := hn.args i x hx b hb2; omega
          exact markAll_mono _ (h k h1 hk2 y hy a ha)
        · rw [hx] at hy
          obtain rfl := Option.some.inj hy
          exact markAll_in _ ha (by have := hn.args i x hx a ha; omega)
      · rw [if_neg hb]
        refine belowGo_closed hn i hl fun k hk hbk y hy => ?_
        rcases Nat.lt_or_eq_of_le hk with h1 | rfl
        · exact h k h1 hbk y hy
        · exact absurd hbk hb

section
variable (nodes : List Node) (H : Heap)
theorem bl_from (fro : List Int) (hl : fro.length ≤ 1000000) (hf : ∀ a ∈ fro, 0 ≤ a ∧ a < nodes.length) (bs : List Nat) (t : HObj) : ∀ i ρ H', i ≤ fro.length →
      (H' = H ++ [t, .arr ((markAll (List.replicate nodes.length false) (fro.take i)).map .bool) 0] ∧ ρ 1 = .list (fro.map (.int .i64)) ∧ ρ 5 = .ref 1 (H.length + 1) 0 0 nodes.length ∧ ρ 6 = .int .i64 i) →
      Lp X ⟨58, H.length :: bs⟩ (loopAt Tryz.f106 0) ρ H' fun ex ρ' H' => H' = H ++ [t, .arr ((markAll (List.replicate nodes.length false) fro).map .bool) 0] ∧ ex = .exit 0 := by
  refine loop_up ?_ ?_
  · rintro i ρ H' hi ⟨rfl, h1, h5, h6⟩
    have hget : fro[i]? = some fro[i] := by simp [hi]
    have htk : fro.take (i + 1) = fro.take i ++ [fro[i]] := by rw [List.take_add_one, hget]; rfl
    have hob := hf fro[i] (List.getElem_mem hi)
    generalize fro[i] = a at hget htk hob
    obtain ⟨m, rfl⟩ : ∃ m : Nat, a = m := ⟨a.toNat, by omega⟩
    have hlen : (markAll (List.replicate nodes.length false) (fro.take i)).length = nodes.length := by rw [markAll_len, List.length_replicate]
    have hm : m < nodes.length := by omega
    have hw := add1 i fro.length hi (by omega)
    have hg := bools_get (l := markAll (List.replicate nodes.length false) (fro.take i)) (i := m) (by omega)
    have hs := bools_set (markAll (List.replicate nodes.length false) (fro.take i)) m
    rw [htk, markAll_snoc, Int.toNat_natCast]
    clear htk hob hlen hf
    rw [← hs]
    generalize (markAll (List.replicate nodes.length false) (fro.take i)).map V.bool = A at hg hs ⊢
    clear hs
    conv => arg 3; whnf
    all_goals try (refine zs ?_; repeat' first | apply zs0 | apply zs2 | (intro hc; try have hq := dq hc))
    exact ⟨rfl, by (simp only [seval, push_cast, *] <;> rfl), by (simp only [seval, push_cast, *] <;> rfl), by (simp only [seval, push_cast, *] <;> rfl)⟩
  · rintro ρ H' ⟨rfl, h1, h5, h6⟩
    rw [List.take_length]
    clear hf
    conv => arg 3; whnf
    all_goals try (refine zs ?_; repeat' first | apply zs0 | apply zs2 | (intro hc; try have hq := dq hc))
    exact ⟨rfl, rfl⟩
/-- The arguments of a node that is marked. -/
theorem bl_args (x : Node) (p : Nat) (hp : nodes[p]? = some x) (hal : x.args.length ≤ 1000000) (bs : List Nat) (t : HObj) (nb : List Bool) (hx : ∀ a ∈ x.args, 0 ≤ a ∧ a < nodes.length) (hl : nb.length = nodes.length) (hb : bAt nb p = true) : ∀ i ρ H', i ≤ x.args.length →
      (H' = H ++ [t, .arr ((markAll nb (x.args.take i)).map .bool) 0] ∧ ρ 0 = .list (nodes.map encNode) ∧ ρ 5 = .ref 1 (H.length + 1) 0 0 nodes.length ∧ ρ 7 = .int .i64 p ∧ ρ 8 = .int .i64 i) →
      Lp X ⟨58, H.length :: bs⟩ (loopAt Tryz.f106 2) ρ H' fun ex ρ' H' => H' = H ++ [t, .arr ((markAll nb x.args).map .bool) 0] ∧ ex = .exit 4 := by
  have hpl : p < nodes.length := (List.getElem?_eq_some_iff.1 hp).1
  refine loop_up ?_ ?_
  · rintro i ρ H' hi ⟨rfl, h0, h5, h7, h8⟩
    have hget : x.args[i]? = some x.args[i] := by simp [hi]
    have htk : x.args.take (i + 1) = x.args.take i ++ [x.args[i]] := by rw [List.take_add_one, hget]; rfl
    have hob := hx x.args[i] (List.getElem_mem hi)
    generalize x.args[i] = a at hget htk hob
    obtain ⟨m, rfl⟩ : ∃ m : Nat, a = m := ⟨a.toNat, by omega⟩
    have hlen : (markAll nb (x.args.take i)).length = nodes.length := by rw [markAll_len, hl]
    have hm : m < nodes.length := by omega
    have hw := add1 i x.args.length hi (by omega)
    have hgp := bools_get (l := markAll nb (x.args.take i)) (i := p) (by omega)
    rw [markAll_mono _ hb] at hgp
    have hg := bools_get (l := markAll nb (x.args.take i)) (i := m) (by omega)
    have hs := bools_set (markAll nb (x.args.take i)) m
    rw [htk, markAll_snoc, Int.toNat_natCast]
    have hlt : (i : Int) < x.args.length := by omega
    clear htk hob hlen hl hx hb
    rw [← hs]
    generalize (markAll nb (x.args.take i)).map V.bool = A at hg hs hgp ⊢
    clear hs
    conv => arg 3; whnf
    all_goals try (refine zs ?_; repeat' first | apply zs0 | apply zs2 | (intro hc; try have hq := dq hc))
    exact ⟨rfl, by (simp only [seval, push_cast, *] <;> rfl), by (simp only [seval, push_cast, *] <;> rfl), by (simp only [seval, push_cast, *] <;> rfl), by (simp only [seval, push_cast, *] <;> rfl)⟩
  · rintro ρ H' ⟨rfl, h0, h5, h7, h8⟩
    rw [List.take_length]
    have hgp := bools_get (l := markAll nb x.args) (i := p) (by rw [markAll_len, hl]; omega)
    rw [markAll_mono _ hb] at hgp
    generalize (markAll nb x.args).map V.bool = A at hgp ⊢
    clear hl hx hb
    conv => arg 3; whnf
    all_goals try (refine zs ?_; repeat' first | apply zs0 | apply zs2 | (intro hc; try have hq := dq hc))
    exact ⟨rfl, rfl⟩
theorem bl_not (p : Nat) (bs : List Nat) (t : HObj) (nb : List Bool) (hpl : p < nodes.length) (hl : nb.length = nodes.length) (hb : bAt nb p = false) : ∀ ρ H',
      (H' = H ++ [t, .arr (nb.map .bool) 0] ∧ ρ 0 = .list (nodes.map encNode) ∧ ρ 5 = .ref 1 (H.length + 1) 0 0 nodes.length ∧ ρ 7 = .int .i64 p ∧ ρ 8 = .int .i64 0) →
      Lp X ⟨58, H.length :: bs⟩ (loopAt Tryz.f106 2) ρ H' fun ex ρ' H' => H' = H ++ [t, .arr (nb.map .bool) 0] ∧ ex = .exit 4 := by
  rintro ρ H' ⟨rfl, h0, h5, h7, h8⟩
  have hgp := bools_get (l := nb) (i := p) (by omega)
  rw [hb] at hgp
  clear hl hb
  refine lp_round ?_
  conv => arg 3; whnf
  all_goals try (refine zs ?_; repeat' first | apply zs0 | apply zs2 | (intro hc; try have hq := dq hc))
  exact ⟨rfl, rfl⟩
theorem bl_down (hn : ∀ (i : Nat) x, nodes[i]? = some x → ∀ a ∈ x.args, 0 ≤ a ∧ a < nodes.length) (hal : ∀ x ∈ nodes, x.args.length ≤ 1000000) (hnl : nodes.length ≤ 1000) (bs : List Nat) (t : HObj) (R : List Bool) : ∀ j ρ H', j ≤ nodes.length →
      (∃ nb, Kp (nb.length = nodes.length ∧ belowGo nodes (nodes.length - j) nb = R) ∧ H' = H ++ [t, .arr (nb.map .bool) 0] ∧ ρ 0 = .list (nodes.map encNode) ∧ ρ 5 = .ref 1 (H.length + 1) 0 0 nodes.length ∧ ρ 7 = .int .i64 ((nodes.length : Int) - 1 - j)) →
      Lp X ⟨58, H.length :: bs⟩ (loopAt Tryz.f106 1) ρ H' fun ex ρ' H' => H' = H ++ [t, .arr (R.map .bool) 0] ∧ ex = .exit 2 := by
  refine loop_up ?_ ?_
  · rintro j ρ H' hj ⟨nb, ⟨hl, hR⟩, rfl, h0, h5, h7⟩
    obtain ⟨p, hp⟩ : ∃ p, nodes.length - j = p + 1 := ⟨nodes.length - j - 1, by omega⟩
    have hp7 : (nodes.length : Int) - 1 - j = (p : Int) := by omega
    have hpl : p < nodes.length := by omega
    have hget : nodes[p]? = some nodes[p] := by simp [hpl]
    have hax := hal nodes[p] (List.getElem_mem hpl)
    have hoa := hn p _ hget
    rw [hp, belowGo, hget] at hR
    rw [hp7] at h7
    generalize nodes[p] = x at hget hax hoa hR
    simp only at hR
    have d : decide ((p : Int) ≥ 0) = true := decide_eq_true (by omega)
    have hw : IntKind.i64.wrap ((p : Int) - 1) = (nodes.length : Int) - 1 - ((j + 1 : Nat) : Int) := by rw [wrap64] <;> omega
    have hj1 : nodes.length - (j + 1) = p := by omega
    rw [hj1]
    cases hb : bAt nb p with
    | true =>
      rw [if_pos hb] at hR
      have hin := fun ρ => bl_args nodes H x p hget hax bs t nb hoa hl hb 0 ρ
      have hkk : Kp ((markAll nb x.args).length = nodes.length ∧ belowGo nodes p (markAll nb x.args) = R) := ⟨(markAll_len _ _).trans hl, hR⟩
      clear hR hl hn hal hoa hb hp hp7 hj1
      conv => arg 3; whnf
      all_goals try (refine zs ?_; repeat' first | apply zs0 | apply zs2 | (intro hc; try have hq := dq hc))
      refine lp_then (lp_any (c := loopAt Tryz.f106 2) rfl (hin _ _ (by omega) ⟨rfl, by (simp only [seval, push_cast, *] <;> rfl), by (simp only [seval, push_cast, *] <;> rfl), by (simp only [seval, push_cast, *] <;> rfl), by (simp only [seval, push_cast, *] <;> rfl)⟩)) ?_
      rintro ex ρ' H' ⟨rfl, rfl⟩ hf
      have f0 := hf 0 rfl
      have f5 := hf 5 rfl
      have f7 := hf 7 rfl
      simp only [seval, push_cast, h0, h5, h7] at f0 f5 f7
      clear hf hin
      all_goals try (refine zs ?_; repeat' first | apply zs0 | apply zs2 | (intro hc; try have hq := dq hc))
      exact ⟨_, hkk, rfl, by (simp only [seval, push_cast, *] <;> rfl), by (simp only [seval, push_cast, *] <;> rfl), by (simp only [seval, push_cast, *] <;> rfl)⟩
    | false =>
      rw [if_neg (by rw [hb]; simp)] at hR
      have hin := fun ρ => bl_not nodes H p bs t nb hpl hl hb ρ
      have hkk : Kp (nb.length = nodes.length ∧ belowGo nodes p nb = R) := ⟨hl, hR⟩
      clear hR hl hn hal hoa hb hp hp7 hj1
      conv => arg 3; whnf
      all_goals try (refine zs ?_; repeat' first | apply zs0 | apply zs2 | (intro hc; try have hq := dq hc))
      refine lp_then (lp_any (c := loopAt Tryz.f106 2) rfl (hin _ _ ⟨rfl, by (simp only [seval, push_cast, *] <;> rfl), by (simp only [seval, push_cast, *] <;> rfl), by (simp only [seval, push_cast, *] <;> rfl), by (simp only [seval, push_cast, *] <;> rfl)⟩)) ?_
      rintro ex ρ' H' ⟨rfl, rfl⟩ hf
      have f0 := hf 0 rfl
      have f5 := hf 5 rfl
      have f7 := hf 7 rfl
      simp only [seval, push_cast, h0, h5, h7] at f0 f5 f7
      clear hf hin
      all_goals try (refine zs ?_; repeat' first | apply zs0 | apply zs2 | (intro hc; try have hq := dq hc))
      exact ⟨_, hkk, rfl, by (simp only [seval, push_cast, *] <;> rfl), by (simp only [seval, push_cast, *] <;> rfl), by (simp only [seval, push_cast, *] <;> rfl)⟩
  · rintro ρ H' ⟨nb, ⟨hl, hR⟩, rfl, h0, h5, h7⟩
    rw [Nat.sub_self, belowGo] at hR
    subst hR
    have e7 : (nodes.length : Int) - 1 - nodes.length = -1 := by omega
    rw [e7] at h7
    have d : decide ((-1 : Int) ≥ 0) = false := rfl
    clear hn hal hl e7
    conv => arg 3; whnf
    all_goals try (refine zs ?_; repeat' first | apply zs0 | apply zs2 | (intro hc; try have hq := dq hc))
    exact ⟨rfl, rfl⟩
end
theorem bs_below (bs : List Nat) (H : Heap) (nodes : List Node) (fro : List Int) (hl : fro.length ≤ 1000000) (hf : ∀ a ∈ fro, 0 ≤ a ∧ a < nodes.length) (hn : ∀ (i : Nat) x, nodes[i]? = some x → ∀ a ∈ x.args, 0 ≤ a ∧ a < nodes.length) (hal : ∀ x ∈ nodes, x.args.length ≤ 1000000) (hnl : nodes.length ≤ 1000) : callw X bs 106 [.list (nodes.map encNode), .list (fro.map (.int .i64))] H = some (.list ((belowS nodes fro).map .bool), H) := by
  refine call_at (rs := [.tmp 4]) (N := 58) (fn := Tryz.f106) xk106 xf106 rfl rfl rfl (by simp only [seval, push_cast, List.map_cons, List.map_nil, V.norm, norm1]; rfl) ?_
  have l0 := fun bs t ρ => bl_from nodes H fro hl hf bs t 0 ρ
  have l1 := fun bs t ρ => bl_down nodes H hn hal hnl bs t (belowS nodes fro) 0 ρ
  have r1 : nodes.length ≤ roomB := by unfold roomB; omega
  have r2 := room_int (n := nodes.length) (by omega)
  have m1 : Kp (∀ m, List.replicate m (V.bool false) = (List.replicate m false).map .bool) := ⟨fun m => by rw [List.map_replicate]⟩
  have hw : IntKind.i64.wrap ((nodes.length : Int) - 1) = (nodes.length : Int) - 1 := by rw [wrap64] <;> omega
  have hbl : (belowS nodes fro).length = nodes.length := by rw [belowS, belowGo_len, markAll_len, List.length_replicate]
  have hB : Kp ((markAll (List.replicate nodes.length false) fro).length = nodes.length ∧ belowGo nodes (nodes.length - 0) (markAll (List.replicate nodes.length false) fro) = belowS nodes fro) := ⟨by rw [markAll_len, List.length_replicate], rfl⟩
  clear hf hn hal
  generalize belowS nodes fro = R at l1 hB hbl ⊢
  all_goals try (refine zs ?_; repeat' first | apply zs0 | apply zs2 | (intro hc; try have hq := dq hc))
  rw [m1.out]
  refine lp_then (lp_any (c := loopAt Tryz.f106 0) rfl (l0 _ _ _ _ (by omega) ⟨rfl, by (simp only [seval, push_cast, *] <;> rfl), by (simp only [seval, push_cast, *] <;> rfl), by (simp only [seval, push_cast, *] <;> rfl)⟩)) ?_
  rintro ex ρ' H' ⟨rfl, rfl⟩ hf
  have f0 := hf 0 rfl
  have f5 := hf 5 rfl
  simp only [seval, push_cast] at f0 f5
  clear hf l0 m1
  all_goals try (refine zs ?_; repeat' first | apply zs0 | apply zs2 | (intro hc; try have hq := dq hc))
  refine lp_then (lp_any (c := loopAt Tryz.f106 1) rfl (l1 _ _ _ _ (by omega) ⟨_, hB, rfl, by (simp only [seval, push_cast, *] <;> rfl), by (simp only [seval, push_cast, *] <;> rfl), by simp only [seval, push_cast, *]; simp⟩)) ?_
  rintro ex ρ2 H' ⟨rfl, rfl⟩ hf
  have g5 := hf 5 rfl
  simp only [seval, push_cast, f5] at g5
  rw [← hbl] at g5
  clear hf l1 hB hw r1 r2 hbl
  all_goals try (refine zs ?_; repeat' first | apply zs0 | apply zs2 | (intro hc; try have hq := dq hc))
end Go.E
/- What a reference says is used, in plain Lean and in E. Own work. -/
namespace Go.E
open Go.Proofs
set_option maxRecDepth 100000
set_option maxHeartbeats 4000000

/-- The nodes that used registers hang on. -/
def fromR (regs : List Reg) (rb : List Bool) : Nat → List Int
  | 0 => []
  | i + 1 => fromR regs rb i ++ (match regs[i]? with | some r => if bAt rb i = true then [r.enable, r.next] else [] | none => [])
theorem fromR_len (regs : List Reg) (rb : List Bool) : ∀ i, (fromR regs rb i).length ≤ 2 * i
  | 0 => by simp [fromR]
  | i + 1 => by
    have := fromR_len regs rb i
    rw [fromR, List.length_append]
    split
    · split <;> simp <;> omega
    · simp; omega
theorem fromR_mem {regs : List Reg} {rb : List Bool} {a : Int} : ∀ {i}, a ∈ fromR regs rb i → ∃ k r, regs[k]? = some r ∧ bAt rb k = true ∧ (a = r.enable ∨ a = r.next)
  | 0, h => by simp [fromR] at h
  | i + 1, h => by
    rw [fromR, List.mem_append] at h
    rcases h with h | h
    · exact fromR_mem h
    · split at h
      · rename_i r hr
        split at h
        · rename_i hb
          simp at h
          exact ⟨i, r, hr, hb, h⟩
        · cases h
      · cases h
theorem fromR_in {regs : List Reg} {rb : List Bool} {k : Nat} {r : Reg} (hr : regs[k]? = some r) (hb : bAt rb k = true) : ∀ {i}, k < i → r.enable ∈ fromR regs rb i ∧ r.next ∈ fromR regs rb i
  | i + 1, h => by
    rw [fromR]
    rcases Nat.lt_or_eq_of_le (Nat.le_of_lt_succ h) with h1 | rfl
    · have := fromR_in hr hb h1
      exact ⟨List.mem_append.2 (.inl this.1), List.mem_append.2 (.inl this.2)⟩
    · rw [hr]; simp [hb]
/-- The registers whose leaves are marked. -/
def regTurn (n : Netl) (nb : List Bool) (i : Nat) (x : Node) (s : List Bool × Bool) : List Bool × Bool :=
  if bAt nb i = true ∧ isNewReg n s.1 x = true then (s.1.set (x.value - n.inputs.length).toNat true, true) else s
def turns (n : Netl) (nb rb : List Bool) : Nat → List Bool × Bool
  | 0 => (rb, false)
  | i + 1 => match n.nodes[i]? with | some x => regTurn n nb i x (turns n nb rb i) | none => turns n nb rb i
structure TInv (n : Netl) (nb rb : List Bool) (i : Nat) (s : List Bool × Bool) : Prop where
  len : s.1.length = n.regs.length
  sr : ∀ k, bAt s.1 k = true → UsedR n k
  same : s.2 = false → s.1 = rb ∧ ∀ j, j < i → bAt nb j = true → ∀ x, n.nodes[j]? = some x → x.op = 1 → (n.inputs.length : Int) ≤ x.value → bAt rb (x.value - n.inputs.length).toNat = true
  le : unset s.1 ≤ unset rb
  lt : s.2 = true → unset s.1 < unset rb
theorem turns_inv {n : Netl} (hn : NodesOk n) {nb rb : List Bool} (hl : rb.length = n.regs.length) (hr : ∀ k, bAt rb k = true → UsedR n k) (hu : ∀ i, bAt nb i = true → UsedN n i) : ∀ i, TInv n nb rb i (turns n nb rb i)
  | 0 => ⟨hl, hr, fun _ => ⟨rfl, fun j hj => by omega⟩, Nat.le_refl _, fun h => by cases h⟩
  | i + 1 => by
    have ih := turns_inv hn hl hr hu i
    rw [turns]
    cases hx : n.nodes[i]? with
    | none =>
      simp only
      refine ⟨ih.len, ih.sr, fun h => ⟨(ih.same h).1, fun j hj hb x hx2 => ?_⟩, ih.le, ih.lt⟩
      rcases Nat.lt_or_eq_of_le (Nat.le_of_lt_succ hj) with h1 | rfl
      · exact (ih.same h).2 j h1 hb x hx2
      · rw [hx] at hx2; cases hx2
    | some x =>
      simp only
      generalize turns n nb rb i = s at ih
      unfold regTurn
      by_cases hc : bAt nb i = true ∧ isNewReg n s.1 x = true
      · rw [if_pos hc]
        obtain ⟨hb, hr⟩ := hc
        simp only [isNewReg, Bool.and_eq_true, decide_eq_true_eq, Bool.not_eq_true'] at hr
        obtain ⟨⟨ho, hv⟩, hnb⟩ := hr
        have hleaf := hn.leaf i x hx ho
        have hk : (x.value - (n.inputs.length : Int)).toNat < s.1.length := by rw [ih.len]; omega
        have hus := unset_set hk hnb
        have hle := ih.le
        refine ⟨by simp [ih.len], fun k hk2 => ?_, fun h => (by cases h), by simp only; omega, fun _ => by simp only; omega⟩
        simp only at hk2
        rw [bAt_set hk, Bool.or_eq_true, decide_eq_true_eq] at hk2
        rcases hk2 with rfl | hk2
        · exact ⟨i, x, hu i hb, hx, ho, by omega⟩
        · exact ih.sr k hk2
      · rw [if_neg hc]
        refine ⟨ih.len, ih.sr, fun h => ⟨(ih.same h).1, fun j hj hb y hy ho hv => ?_⟩, ih.le, ih.lt⟩
        rcases Nat.lt_or_eq_of_le (Nat.le_of_lt_succ hj) with h1 | rfl
        · exact (ih.same h).2 j h1 hb y hy ho hv
        · rw [hx] at hy
          obtain rfl := Option.some.inj hy
          rw [← (ih.same h).1]
          cases hq : bAt s.1 (x.value - (n.inputs.length : Int)).toNat with
          | true => rfl
          | false => exact absurd ⟨hb, by unfold isNewReg; rw [hq, ho, decide_eq_true hv]; rfl⟩ hc
def fromN (n : Netl) (rb : List Bool) : List Int := n.outs.map (·.node) ++ fromR n.regs rb n.regs.length
theorem fromN_ok {n : Netl} (hk : NetOk n) (rb : List Bool) : ∀ a ∈ fromN n rb, 0 ≤ a ∧ a < n.nodes.length := fun a ha => by
  rw [fromN, List.mem_append] at ha
  rcases ha with ha | ha
  · obtain ⟨o, ho, rfl⟩ := List.mem_map.1 ha
    exact hk.outs o ho
  · obtain ⟨k, r, h1, _, h2⟩ := fromR_mem ha
    have := hk.regs r (List.mem_of_getElem? h1)
    rcases h2 with rfl | rfl
    · exact this.1
    · exact this.2
theorem below_used {n : Netl} {rb : List Bool} (hr : ∀ k, bAt rb k = true → UsedR n k) : ∀ k, bAt (belowS n.nodes (fromN n rb)) k = true → UsedN n k := by
  refine belowGo_used _ fun k hb => ?_
  rcases markAll_inv _ hb with h | ⟨a, ha, rfl⟩
  · simp [bAt, List.getElem?_replicate] at h
    split at h <;> cases h
  · rw [fromN, List.mem_append] at ha
    rcases ha with ha | ha
    · obtain ⟨o, ho, rfl⟩ := List.mem_map.1 ha
      exact .out o ho
    · obtain ⟨k, r, h1, h2, h3⟩ := fromR_mem ha
      obtain ⟨i, x, g1, g2, g3, g4⟩ := hr k h2
      rcases h3 with rfl | rfl
      · exact .en i k x r g1 g2 g3 g4 h1
      · exact .nx i k x r g1 g2 g3 g4 h1
/-- When nothing changed, all that is used is marked. -/
theorem below_end {n : Netl} (hk : NetOk n) (hn : NodesOk n) {rb : List Bool} (hl : rb.length = n.regs.length) (hr : ∀ k, bAt rb k = true → UsedR n k) (h : (turns n (belowS n.nodes (fromN n rb)) rb n.nodes.length).2 = false) :
    belowS n.nodes (fromN n rb) = usedNb n ∧ rb = usedRb n := by
  have hT := turns_inv hn hl hr (below_used hr) n.nodes.length
  have hm : ∀ a ∈ fromN n rb, bAt (belowS n.nodes (fromN n rb)) a.toNat = true := fun a ha => by
    refine belowGo_mono _ _ (markAll_in _ ha ?_)
    have := fromN_ok hk rb a ha
    simp; omega
  have hc := belowGo_closed hn n.nodes.length (nb := markAll (List.replicate n.nodes.length false) (fromN n rb)) (by rw [markAll_len]; simp) (fun k hk2 hb x hx => by
    rw [List.getElem?_eq_none hk2] at hx; cases hx)
  refine used_end hn (s := ⟨rb, belowS n.nodes (fromN n rb), false⟩) ⟨hl, by rw [belowS, belowGo_len, markAll_len]; simp, below_used hr, hr, fun o ho => hm _ (by rw [fromN]; exact List.mem_append.2 (.inl (List.mem_map.2 ⟨o, ho, rfl⟩))), fun k r hb hg => ?_⟩ fun i hb x hx => ⟨hc i hb x hx, fun ho hv => ?_⟩
  · have := fromR_in hg hb (i := n.regs.length) (List.getElem?_eq_some_iff.1 hg).1
    exact ⟨hm _ (by rw [fromN]; exact List.mem_append.2 (.inr this.1)), hm _ (by rw [fromN]; exact List.mem_append.2 (.inr this.2))⟩
  · exact (hT.same h).2 i (List.getElem?_eq_some_iff.1 hx).1 hb x hx ho hv
section
variable (n : Netl) (H : Heap)
theorem ru_outs (ho : n.outs.length ≤ 1000) (bs : List Nat) (t1 t2 a : HObj) (J : List HObj) : ∀ i ρ H', i ≤ n.outs.length →
      (∃ ws, ws = (n.outs.take i).map (·.node) ∧ H' = H ++ .cells (cellsNetl n) :: t1 :: t2 :: a :: (J ++ [.tok ws.length]) ∧ ρ 1 = .ptr H.length 0 ∧ ρ 7 = .tl (H.length + (J.length + 4)) (ws.map (.int .i64)) ∧ ρ 8 = .int .i64 i) →
      Lp X ⟨141, H.length :: bs⟩ (loopAt Tryz.f34 1) ρ H' fun ex ρ' H' => ∃ ws, ws = n.outs.map (·.node) ∧ H' = H ++ .cells (cellsNetl n) :: t1 :: t2 :: a :: (J ++ [.tok ws.length]) ∧ ρ' 7 = .tl (H.length + (J.length + 4)) (ws.map (.int .i64)) ∧ ex = .exit 2 := by
  refine loop_up ?_ ?_
  · rintro i ρ H' hi ⟨ws, hws, rfl, h1, h7, h8⟩
    have hget : n.outs[i]? = some n.outs[i] := by simp [hi]
    have htk : n.outs.take (i + 1) = n.outs.take i ++ [n.outs[i]] := by rw [List.take_add_one, hget]; rfl
    generalize n.outs[i] = o at hget htk
    have hlen : ws.length = i := by rw [hws]; simp; omega
    have hroom := room8 ws.length (by omega)
    have hw := add1 i n.outs.length hi (by omega)
    have hsn : Kp ((n.outs.take (i + 1)).map (·.node) = ws ++ [o.node]) := ⟨by rw [htk, hws]; simp⟩
    clear hws hlen htk
    conv => arg 3; whnf
    all_goals try (refine zs ?_; repeat' first | apply zs0 | apply zs2 | (intro hc; try have hq := dq hc))
    exact ⟨ws ++ [o.node], hsn.out.symm, by simp only [cellsNetl, List.length_append, List.length_singleton], by (simp only [seval, push_cast, *] <;> rfl), by simp [push_cast], by (simp only [seval, push_cast, *] <;> rfl)⟩
  · rintro ρ H' ⟨ws, hws, rfl, h1, h7, h8⟩
    rw [List.take_length] at hws
    replace hws : Kp _ := ⟨hws⟩
    conv => arg 3; whnf
    all_goals try (refine zs ?_; repeat' first | apply zs0 | apply zs2 | (intro hc; try have hq := dq hc))
    exact ⟨ws, hws.out, by simp only [cellsNetl], by (simp only [seval, push_cast, *] <;> rfl), rfl⟩
end
end Go.E
/- Contracts of the references, in E: what is used. Own work. -/
namespace Go.E
open Go.Proofs
set_option maxRecDepth 100000
set_option maxHeartbeats 4000000

section
variable (n : Netl) (H : Heap)
theorem ru_regs (hr : n.regs.length ≤ 1000) (ho : n.outs.length ≤ 1000) (rb : List Bool) (hl : rb.length = n.regs.length) (bs : List Nat) (t1 t2 : HObj) (J : List HObj) : ∀ i ρ H', i ≤ n.regs.length →
      (∃ ws, ws = n.outs.map (·.node) ++ fromR n.regs rb i ∧ H' = H ++ .cells (cellsNetl n) :: t1 :: t2 :: .arr (rb.map .bool) 0 :: (J ++ [.tok ws.length]) ∧ ρ 1 = .ptr H.length 0 ∧ ρ 4 = .ref 1 (H.length + 3) 0 0 n.regs.length ∧ ρ 7 = .tl (H.length + (J.length + 4)) (ws.map (.int .i64)) ∧ ρ 9 = .int .i64 i) →
      Lp X ⟨141, H.length :: bs⟩ (loopAt Tryz.f34 2) ρ H' fun ex ρ' H' => ∃ ws, ws = fromN n rb ∧ H' = H ++ .cells (cellsNetl n) :: t1 :: t2 :: .arr (rb.map .bool) 0 :: (J ++ [.tok ws.length]) ∧ ρ' 7 = .tl (H.length + (J.length + 4)) (ws.map (.int .i64)) ∧ ex = .exit 4 := by
  refine loop_up ?_ ?_
  · rintro i ρ H' hi ⟨ws, hws, rfl, h1, h4, h7, h9⟩
    have hget : n.regs[i]? = some n.regs[i] := by simp [hi]
    have hfr : fromR n.regs rb (i + 1) = fromR n.regs rb i ++ (if bAt rb i = true then [n.regs[i].enable, n.regs[i].next] else []) := by rw [fromR, hget]
    generalize n.regs[i] = r at hget hfr
    have hlen : ws.length ≤ 5000 := by rw [hws, List.length_append, List.length_map]; have := fromR_len n.regs rb i; omega
    have hroom : (ws.length + 2) * 8 ≤ roomB := by unfold roomB; omega
    have hw := add1 i n.regs.length hi (by omega)
    have hsn : Kp (n.outs.map (·.node) ++ fromR n.regs rb (i + 1) = ws ++ (if bAt rb i = true then [r.enable, r.next] else [])) := ⟨by rw [hfr, hws, List.append_assoc]⟩
    have hg := bools_get (l := rb) (i := i) (by omega)
    clear hws hlen hfr hl
    cases hb : bAt rb i with
    | true =>
      rw [hb] at hg hsn
      clear hb
      conv => arg 3; whnf
      repeat' first
       | (apply z50 (id := 15) (ord := [0, 1, 2, 3, 4, 5, 6, 7, 8, 9, 10, 11, 12, 13, 14, 15]) <;> first | kernel_rfl | skip)
       | (apply z50 (id := 20) (ord := [0, 1, 2, 3, 4, 5, 6, 7, 8, 9, 10]) <;> first | kernel_rfl | skip)
       | (refine zs ?_; repeat' first | apply zs0 | apply zs2 | (intro hc; try have hq := dq hc)) | fail
      exact ⟨ws ++ [r.enable, r.next], by rw [hsn.out]; rfl, by simp only [cellsNetl, List.length_append, List.length_cons, List.length_nil], by (simp only [seval, push_cast, *] <;> rfl), by (simp only [seval, push_cast, *] <;> rfl), by simp [push_cast], by (simp only [seval, push_cast, *] <;> rfl)⟩
    | false =>
      rw [hb] at hg hsn
      clear hb
      conv => arg 3; whnf
      repeat' first
       | (apply z50 (id := 15) (ord := [0, 1, 2, 3, 4, 5, 6, 7, 8, 9, 10, 11, 12, 13, 14, 15]) <;> first | kernel_rfl | skip)
       | (apply z50 (id := 20) (ord := [0, 1, 2, 3, 4, 5, 6, 7, 8, 9, 10]) <;> first | kernel_rfl | skip)
       | (refine zs ?_; repeat' first | apply zs0 | apply zs2 | (intro hc; try have hq := dq hc)) | fail
      exact ⟨ws, by rw [hsn.out]; simp, by simp only [cellsNetl], by (simp only [seval, push_cast, *] <;> rfl), by (simp only [seval, push_cast, *] <;> rfl), by (simp only [seval, push_cast, *] <;> rfl), by (simp only [seval, push_cast, *] <;> rfl)⟩
  · rintro ρ H' ⟨ws, hws, rfl, h1, h4, h7, h9⟩
    replace hws : Kp (ws = fromN n rb) := ⟨hws⟩
    clear hl
    conv => arg 3; whnf
    repeat' first
     | (apply z50 (id := 15) (ord := [0, 1, 2, 3, 4, 5, 6, 7, 8, 9, 10, 11, 12, 13, 14, 15]) <;> first | kernel_rfl | skip)
     | (apply z50 (id := 20) (ord := [0, 1, 2, 3, 4, 5, 6, 7, 8, 9, 10]) <;> first | kernel_rfl | skip)
     | (refine zs ?_; repeat' first | apply zs0 | apply zs2 | (intro hc; try have hq := dq hc)) | fail
    exact ⟨ws, hws.out, by simp only [cellsNetl], by (simp only [seval, push_cast, *] <;> rfl), rfl⟩
theorem ru_nodes (hS : Small n) (hn : NodesOk n) (nb rb : List Bool) (hnb : nb.length = n.nodes.length) (hT : ∀ i, TInv n nb rb i (turns n nb rb i)) (bs : List Nat) (t1 t2 : HObj) (J : List HObj) : ∀ i ρ H', i ≤ n.nodes.length →
      (∃ s, s = turns n nb rb i ∧ H' = H ++ .cells (cellsNetl n) :: t1 :: t2 :: .arr (s.1.map .bool) 0 :: J ∧ ρ 1 = .ptr H.length 0 ∧ ρ 4 = .ref 1 (H.length + 3) 0 0 n.regs.length ∧ ρ 5 = .list (nb.map .bool) ∧ ρ 6 = .bool s.2 ∧ ρ 10 = .int .i64 i) →
      Lp X ⟨141, H.length :: bs⟩ (loopAt Tryz.f34 3) ρ H' fun ex ρ' H' => ∃ s, s = turns n nb rb n.nodes.length ∧ H' = H ++ .cells (cellsNetl n) :: t1 :: t2 :: .arr (s.1.map .bool) 0 :: J ∧ ρ' 6 = .bool s.2 ∧ ex = .exit 6 := by
  refine loop_up ?_ ?_
  · rintro i ρ H' hi ⟨s, hs, rfl, h1, h4, h5, h6, h10⟩
    have hget : n.nodes[i]? = some n.nodes[i] := by simp [hi]
    have htn : turns n nb rb (i + 1) = regTurn n nb i n.nodes[i] s := by rw [turns, hget, hs]
    have hlf := hn.leaf i _ hget
    generalize n.nodes[i] = x at hget htn hlf
    have hti := hT i
    rw [← hs] at hti
    have hsl := hti.len
    have hw := add1 i n.nodes.length hi (by have := hS.nodes; omega)
    have hg := bools_get (l := nb) (i := i) (by omega)
    replace htn : Kp _ := ⟨htn⟩
    have hi1 := hS.inputs
    have hr1 := hS.regs
    clear hs hti hT hn hS hnb
    obtain ⟨rb1, ch⟩ := s
    simp only at hsl h6 htn
    have hsame : ∀ (h : regTurn n nb i x (rb1, ch) = (rb1, ch)), Kp ((rb1, ch) = turns n nb rb (i + 1)) := fun h => ⟨by rw [htn.out, h]⟩
    cases hb : bAt nb i with
    | false =>
      rw [hb] at hg
      have hk2 := hsame (by unfold regTurn; rw [if_neg (by rw [hb]; simp)])
      clear hb hlf hsl hsame htn
      conv => arg 3; whnf
      repeat' first
       | (apply z50 (id := 15) (ord := [0, 1, 2, 3, 4, 5, 6, 7, 8, 9, 10, 11, 12, 13, 14, 15]) <;> first | kernel_rfl | skip)
       | (apply z50 (id := 20) (ord := [0, 1, 2, 3, 4, 5, 6, 7, 8, 9, 10]) <;> first | kernel_rfl | skip)
       | (refine zs ?_; repeat' first | apply zs0 | apply zs2 | (intro hc; try have hq := dq hc)) | fail
      exact ⟨(rb1, ch), hk2.out, by simp only [cellsNetl], by (simp only [seval, push_cast, *] <;> rfl), by (simp only [seval, push_cast, *] <;> rfl), by (simp only [seval, push_cast, *] <;> rfl), by (simp only [seval, push_cast, *] <;> rfl), by (simp only [seval, push_cast, *] <;> rfl)⟩
    | true =>
      rw [hb] at hg
      by_cases ho : x.op = 1
      case neg =>
        have d1 : decide (x.op = 1) = false := decide_eq_false ho
        have hk2 := hsame (by unfold regTurn; rw [if_neg (by simp [isNewReg, ho])])
        clear hb hlf hsl hsame htn ho
        conv => arg 3; whnf
        repeat' first
         | (apply z50 (id := 15) (ord := [0, 1, 2, 3, 4, 5, 6, 7, 8, 9, 10, 11, 12, 13, 14, 15]) <;> first | kernel_rfl | skip)
         | (apply z50 (id := 20) (ord := [0, 1, 2, 3, 4, 5, 6, 7, 8, 9, 10]) <;> first | kernel_rfl | skip)
         | (refine zs ?_; repeat' first | apply zs0 | apply zs2 | (intro hc; try have hq := dq hc)) | fail
        exact ⟨(rb1, ch), hk2.out, by simp only [cellsNetl], by (simp only [seval, push_cast, *] <;> rfl), by (simp only [seval, push_cast, *] <;> rfl), by (simp only [seval, push_cast, *] <;> rfl), by (simp only [seval, push_cast, *] <;> rfl), by (simp only [seval, push_cast, *] <;> rfl)⟩
      have d1 : decide (x.op = 1) = true := decide_eq_true ho
      have hlf2 := hlf ho
      by_cases hv : (n.inputs.length : Int) ≤ x.value
      case neg =>
        have d2 : decide (IntKind.i64.wrap (x.value - (n.inputs.length : Int)) ≥ 0) = false := decide_eq_false (by rw [wrap64] <;> omega)
        have hk2 := hsame (by unfold regTurn; rw [if_neg (by simp [isNewReg, hv])])
        clear hb hlf hsl hsame htn ho hlf2 hv
        conv => arg 3; whnf
        repeat' first
         | (apply z50 (id := 15) (ord := [0, 1, 2, 3, 4, 5, 6, 7, 8, 9, 10, 11, 12, 13, 14, 15]) <;> first | kernel_rfl | skip)
         | (apply z50 (id := 20) (ord := [0, 1, 2, 3, 4, 5, 6, 7, 8, 9, 10]) <;> first | kernel_rfl | skip)
         | (refine zs ?_; repeat' first | apply zs0 | apply zs2 | (intro hc; try have hq := dq hc)) | fail
        exact ⟨(rb1, ch), hk2.out, by simp only [cellsNetl], by (simp only [seval, push_cast, *] <;> rfl), by (simp only [seval, push_cast, *] <;> rfl), by (simp only [seval, push_cast, *] <;> rfl), by (simp only [seval, push_cast, *] <;> rfl), by (simp only [seval, push_cast, *] <;> rfl)⟩
      obtain ⟨k, hkk⟩ : ∃ k : Nat, x.value = (n.inputs.length : Int) + k := ⟨(x.value - n.inputs.length).toNat, by omega⟩
      have hk2 : (x.value - (n.inputs.length : Int)).toNat = k := by omega
      have hkl : k < n.regs.length := by omega
      have hgk := bools_get (l := rb1) (i := k) (by omega)
      have hw2 : IntKind.i64.wrap (x.value - (n.inputs.length : Int)) = (k : Int) := by rw [wrap64] <;> omega
      have d2 : decide ((k : Int) ≥ 0) = true := decide_eq_true (by omega)
      cases hq : bAt rb1 k with
      | true =>
        rw [hq] at hgk
        have hk3 := hsame (by unfold regTurn; rw [if_neg (by simp only [isNewReg, hk2, hq]; simp)])
        clear hb hlf hsl hsame htn ho hlf2 hv hkk hk2 hq
        conv => arg 3; whnf
        repeat' first
         | (apply z50 (id := 15) (ord := [0, 1, 2, 3, 4, 5, 6, 7, 8, 9, 10, 11, 12, 13, 14, 15]) <;> first | kernel_rfl | skip)
         | (apply z50 (id := 20) (ord := [0, 1, 2, 3, 4, 5, 6, 7, 8, 9, 10]) <;> first | kernel_rfl | skip)
         | (refine zs ?_; repeat' first | apply zs0 | apply zs2 | (intro hc; try have hq := dq hc)) | fail
        exact ⟨(rb1, ch), hk3.out, by simp only [cellsNetl], by (simp only [seval, push_cast, *] <;> rfl), by (simp only [seval, push_cast, *] <;> rfl), by (simp only [seval, push_cast, *] <;> rfl), by (simp only [seval, push_cast, *] <;> rfl), by (simp only [seval, push_cast, *] <;> rfl)⟩
      | false =>
        rw [hq] at hgk
        have hk3 : Kp ((rb1.set k true, true) = turns n nb rb (i + 1)) := ⟨by rw [htn.out]; unfold regTurn; rw [if_pos ⟨hb, by unfold isNewReg; simp only [hk2, hq]; rw [ho, decide_eq_true hv]; rfl⟩]; simp only [hk2]⟩
        have g5 := bools_set rb1 k
        clear hb hlf hsl hsame htn ho hlf2 hv hkk hk2 hq
        conv => arg 3; whnf
        repeat' first
         | (apply z50 (id := 15) (ord := [0, 1, 2, 3, 4, 5, 6, 7, 8, 9, 10, 11, 12, 13, 14, 15]) <;> first | kernel_rfl | skip)
         | (apply z50 (id := 20) (ord := [0, 1, 2, 3, 4, 5, 6, 7, 8, 9, 10]) <;> first | kernel_rfl | skip)
         | (refine zs ?_; repeat' first | apply zs0 | apply zs2 | (intro hc; try have hq := dq hc)) | fail
        exact ⟨(rb1.set k true, true), hk3.out, by simp only [cellsNetl], by (simp only [seval, push_cast, *] <;> rfl), by (simp only [seval, push_cast, *] <;> rfl), by (simp only [seval, push_cast, *] <;> rfl), by (simp only [seval, push_cast, *] <;> rfl), by (simp only [seval, push_cast, *] <;> rfl)⟩
  · rintro ρ H' ⟨s, hs, rfl, h1, h4, h5, h6, h10⟩
    replace hs : Kp _ := ⟨hs⟩
    clear hT hn hS hnb
    conv => arg 3; whnf
    repeat' first
     | (apply z50 (id := 15) (ord := [0, 1, 2, 3, 4, 5, 6, 7, 8, 9, 10, 11, 12, 13, 14, 15]) <;> first | kernel_rfl | skip)
     | (apply z50 (id := 20) (ord := [0, 1, 2, 3, 4, 5, 6, 7, 8, 9, 10]) <;> first | kernel_rfl | skip)
     | (refine zs ?_; repeat' first | apply zs0 | apply zs2 | (intro hc; try have hq := dq hc)) | fail
    exact ⟨s, hs.out, by simp only [cellsNetl], by (simp only [seval, push_cast, *] <;> rfl), rfl⟩
end
end Go.E
/- Contracts of the references, in E: Used. Own work. -/
namespace Go.E
open Go.Proofs
set_option maxRecDepth 100000
set_option maxHeartbeats 4000000

section
variable (n : Netl) (H : Heap)
theorem ru_main (hS : Small n) (hk : NetOk n) (bs : List Nat) (t1 t2 : HObj) : ∀ (s : List Bool × Bool) ρ H', (s.1.length = n.regs.length ∧ (∀ k, bAt s.1 k = true → UsedR n k) ∧ (s.2 = false → s.1 = usedRb n ∧ ρ 5 = .list ((usedNb n).map .bool)) ∧
      ∃ J, H' = H ++ .cells (cellsNetl n) :: t1 :: t2 :: .arr (s.1.map .bool) 0 :: J ∧ ρ 1 = .ptr H.length 0 ∧ ρ 4 = .ref 1 (H.length + 3) 0 0 n.regs.length ∧ ρ 6 = .bool s.2) →
      Lp X ⟨141, H.length :: bs⟩ (loopAt Tryz.f34 0) ρ H' fun ex ρ' H' => ∃ J, H' = H ++ .cells (cellsNetl n) :: t1 :: t2 :: .arr ((usedRb n).map .bool) 0 :: J ∧ ρ' 5 = .list ((usedNb n).map .bool) ∧ ex = .exit 0 := by
  have hn := nodes_ok hk
  refine loop_wf (μ := fun s => 2 * unset s.1 + (if s.2 = true then 1 else 0)) ?_
  rintro s ρ H' ⟨hl, hr, he, J, rfl, h1, h4, h6⟩
  obtain ⟨rb, ch⟩ := s
  simp only at hl hr he h6 ⊢
  cases ch with
  | false =>
    obtain ⟨e1, e5⟩ := he rfl
    clear he hl hr hS hk hn
    conv => arg 3; whnf
    repeat' first
     | (apply z50 (id := 15) (ord := [0, 1, 2, 3, 4, 5, 6, 7, 8, 9, 10, 11, 12, 13, 14, 15]) <;> first | kernel_rfl | skip)
     | (apply z50 (id := 20) (ord := [0, 1, 2, 3, 4, 5, 6, 7, 8, 9, 10]) <;> first | kernel_rfl | skip)
     | (refine zs ?_; repeat' first | apply zs0 | apply zs2 | (intro hc; try have hq := dq hc)) | fail
    exact ⟨J, by simp only [cellsNetl], by (simp only [seval, push_cast, *] <;> rfl), rfl⟩
  | true =>
    have so := hS.outs
    have sr := hS.regs
    have sn := hS.nodes
    have q1 := fun ρ => ru_outs n H so bs t1 t2 (.arr (rb.map .bool) 0) J 0 ρ
    have q2 := fun ρ => ru_regs n H sr so rb hl bs t1 t2 J 0 ρ
    have hbu := below_used hr
    have hTa := turns_inv hn hl hr hbu
    have hend := below_end hk hn hl hr
    have q3 := fun bs H => bs_below bs H n.nodes (fromN n rb) (by rw [fromN, List.length_append, List.length_map]; have := fromR_len n.regs rb n.regs.length; omega) (fromN_ok hk rb) (fun i x hx a ha => by have := hn.args i x hx a ha; have := (List.getElem?_eq_some_iff.1 hx).1; omega) (fun x hx => by have := hS.args x hx; omega) sn
    have hbl : (belowS n.nodes (fromN n rb)).length = n.nodes.length := by rw [belowS, belowGo_len, markAll_len, List.length_replicate]
    generalize belowS n.nodes (fromN n rb) = nb at q3 hTa hend hbl hbu
    have q4 := fun J ρ => ru_nodes n H hS hn nb rb hbl hTa bs t1 t2 J 0 ρ
    have hTl := hTa n.nodes.length
    replace hTl : Kp _ := ⟨hTl⟩
    replace hend : Kp _ := ⟨hend⟩
    simp only [cellsNetl] at q1 q2 q4
    clear he hl hr hS hk hn hTa hbu hbl
    conv => arg 3; whnf
    repeat' first
     | (apply z50 (id := 15) (ord := [0, 1, 2, 3, 4, 5, 6, 7, 8, 9, 10, 11, 12, 13, 14, 15]) <;> first | kernel_rfl | skip)
     | (apply z50 (id := 20) (ord := [0, 1, 2, 3, 4, 5, 6, 7, 8, 9, 10]) <;> first | kernel_rfl | skip)
     | (refine zs ?_; repeat' first | apply zs0 | apply zs2 | (intro hc; try have hq := dq hc)) | fail
    refine lp_then (lp_any (c := loopAt Tryz.f34 1) rfl (q1 _ _ (by omega) ⟨[], rfl, rfl, by (simp only [seval, push_cast, *] <;> rfl), by simp only [seval, push_cast], by (simp only [seval, push_cast, *] <;> rfl)⟩)) ?_
    rintro ex ρ1 H' ⟨ws, rfl, rfl, g7, rfl⟩ hf
    have f1 := hf 1 rfl
    have f4 := hf 4 rfl
    have f6 := hf 6 rfl
    simp only [seval, push_cast, h1, h4] at f1 f4 f6
    clear hf q1
    repeat' first
     | (apply z50 (id := 15) (ord := [0, 1, 2, 3, 4, 5, 6, 7, 8, 9, 10, 11, 12, 13, 14, 15]) <;> first | kernel_rfl | skip)
     | (apply z50 (id := 20) (ord := [0, 1, 2, 3, 4, 5, 6, 7, 8, 9, 10]) <;> first | kernel_rfl | skip)
     | (refine zs ?_; repeat' first | apply zs0 | apply zs2 | (intro hc; try have hq := dq hc)) | fail
    refine lp_then (lp_any (c := loopAt Tryz.f34 2) rfl (q2 _ _ (by omega) ⟨n.outs.map (·.node), by simp [fromR], by simp only [List.length_map], by (simp only [seval, push_cast, *] <;> rfl), by (simp only [seval, push_cast, *] <;> rfl), by (simp only [seval, push_cast, *] <;> rfl), by (simp only [seval, push_cast, *] <;> rfl)⟩)) ?_
    rintro ex ρ2 H' ⟨ws, rfl, rfl, k7, rfl⟩ hf
    have k1 := hf 1 rfl
    have k4 := hf 4 rfl
    have k6 := hf 6 rfl
    simp only [seval, push_cast, f1, f4, f6] at k1 k4 k6
    clear hf q2 f1 f4 f6 g7
    repeat' first
     | (apply z50 (id := 15) (ord := [0, 1, 2, 3, 4, 5, 6, 7, 8, 9, 10, 11, 12, 13, 14, 15]) <;> first | kernel_rfl | skip)
     | (apply z50 (id := 20) (ord := [0, 1, 2, 3, 4, 5, 6, 7, 8, 9, 10]) <;> first | kernel_rfl | skip)
     | (refine zs ?_; repeat' first | apply zs0 | apply zs2 | (intro hc; try have hq := dq hc)) | fail
    refine lp_then (lp_any (c := loopAt Tryz.f34 3) rfl (q4 _ _ _ (by omega) ⟨(rb, false), rfl, rfl, by (simp only [seval, push_cast, *] <;> rfl), by (simp only [seval, push_cast, *] <;> rfl), by (simp only [seval, push_cast, *] <;> rfl), by (simp only [seval, push_cast, *] <;> rfl), by (simp only [seval, push_cast, *] <;> rfl)⟩)) ?_
    rintro ex ρ3 H' ⟨s, rfl, rfl, m6, rfl⟩ hf
    have m1 := hf 1 rfl
    have m4 := hf 4 rfl
    have m5 := hf 5 rfl
    simp only [seval, push_cast, k1, k4] at m1 m4 m5
    clear hf q3 q4 k1 k4 k6 k7 h1 h4 h6
    generalize turns n nb rb n.nodes.length = s at hTl hend m6 ⊢
    repeat' first
     | (apply z50 (id := 15) (ord := [0, 1, 2, 3, 4, 5, 6, 7, 8, 9, 10, 11, 12, 13, 14, 15]) <;> first | kernel_rfl | skip)
     | (apply z50 (id := 20) (ord := [0, 1, 2, 3, 4, 5, 6, 7, 8, 9, 10]) <;> first | kernel_rfl | skip)
     | (refine zs ?_; repeat' first | apply zs0 | apply zs2 | (intro hc; try have hq := dq hc)) | fail
    obtain ⟨l1, l2, l3, l4, l5⟩ := hTl.out
    refine ⟨s, ?_, l1, l2, fun h => ?_, _, by simp only [cellsNetl]; rfl, by (simp only [seval, push_cast, *] <;> rfl), by (simp only [seval, push_cast, *] <;> rfl), by (simp only [seval, push_cast, *] <;> rfl)⟩
    · show (2 * unset s.1 + if s.2 = true then 1 else 0) < 2 * unset rb + 1
      cases hs : s.2 with
      | true => have := l5 hs; simp only [if_true]; omega
      | false => simp only [Bool.false_eq_true, if_false]; omega
    · obtain ⟨e1, e2⟩ := hend.out h
      exact ⟨(l3 h).1.trans e2, by rw [← e1]; (simp only [seval, push_cast, *] <;> rfl)⟩
theorem ru_idx1 (rb : List Bool) (hl : rb.length = n.regs.length) (hr : n.regs.length ≤ 1000) (bs : List Nat) (c t1 t2 x : HObj) (J : List HObj) : ∀ i ρ H', i ≤ rb.length →
      (∃ ws, ws = idxB 0 (rb.take i) ∧ H' = H ++ c :: t1 :: t2 :: .arr (rb.map .bool) 0 :: (J ++ [.tok ws.length, x]) ∧ ρ 4 = .ref 1 (H.length + 3) 0 0 n.regs.length ∧ ρ 12 = .tl (H.length + (J.length + 4)) (ws.map (.int .i64)) ∧ ρ 14 = .int .i64 i) →
      Lp X ⟨141, H.length :: bs⟩ (loopAt Tryz.f34 4) ρ H' fun ex ρ' H' => ∃ ws, ws = idxB 0 rb ∧ H' = H ++ c :: t1 :: t2 :: .arr (rb.map .bool) 0 :: (J ++ [.tok ws.length, x]) ∧ ρ' 12 = .tl (H.length + (J.length + 4)) (ws.map (.int .i64)) ∧ ex = .exit 8 := by
  refine loop_up ?_ ?_
  · rintro i ρ H' hi ⟨ws, hws, rfl, h4, h12, h14⟩
    have hget : rb[i]? = some rb[i] := by simp [hi]
    have htk : rb.take (i + 1) = rb.take i ++ [rb[i]] := by rw [List.take_add_one, hget]; rfl
    have hg := bools_get (l := rb) (i := i) (by omega)
    rw [bAt_get hget] at hg
    generalize rb[i] = b at hget htk hg
    have hlen : ws.length ≤ 1000 := by rw [hws]; have := idxB_len (rb.take i) 0; simp at this; omega
    have hroom := room8 ws.length (by omega)
    have hw := add1 i rb.length hi (by omega)
    have hsn : Kp (idxB 0 (rb.take (i + 1)) = ws ++ (if b = true then [(i : Int)] else [])) := ⟨by rw [htk, idxB_snoc, ← hws]; simp [Nat.le_of_lt hi]⟩
    rw [hl] at hi
    clear hws htk hlen hget
    generalize rb.map V.bool = A at hg ⊢
    cases b with
    | true =>
      conv => arg 3; whnf
      repeat' first
       | (apply z50 (id := 15) (ord := [0, 1, 2, 3, 4, 5, 6, 7, 8, 9, 10, 11, 12, 13, 14, 15]) <;> first | kernel_rfl | skip)
       | (apply z50 (id := 20) (ord := [0, 1, 2, 3, 4, 5, 6, 7, 8, 9, 10]) <;> first | kernel_rfl | skip)
       | (refine zs ?_; repeat' first | apply zs0 | apply zs2 | (intro hc; try have hq := dq hc)) | fail
      exact ⟨ws ++ [(i : Int)], hsn.out.symm, by simp only [List.length_append, List.length_singleton], by (simp only [seval, push_cast, *] <;> rfl), by simp [push_cast], by (simp only [seval, push_cast, *] <;> rfl)⟩
    | false =>
      conv => arg 3; whnf
      repeat' first
       | (apply z50 (id := 15) (ord := [0, 1, 2, 3, 4, 5, 6, 7, 8, 9, 10, 11, 12, 13, 14, 15]) <;> first | kernel_rfl | skip)
       | (apply z50 (id := 20) (ord := [0, 1, 2, 3, 4, 5, 6, 7, 8, 9, 10]) <;> first | kernel_rfl | skip)
       | (refine zs ?_; repeat' first | apply zs0 | apply zs2 | (intro hc; try have hq := dq hc)) | fail
      exact ⟨ws, by rw [hsn.out]; simp, rfl, by (simp only [seval, push_cast, *] <;> rfl), by (simp only [seval, push_cast, *] <;> rfl), by (simp only [seval, push_cast, *] <;> rfl)⟩
  · rintro ρ H' ⟨ws, hws, rfl, h4, h12, h14⟩
    rw [List.take_length] at hws
    rw [hl] at h14
    replace hws : Kp _ := ⟨hws⟩
    clear hl
    conv => arg 3; whnf
    repeat' first
     | (apply z50 (id := 15) (ord := [0, 1, 2, 3, 4, 5, 6, 7, 8, 9, 10, 11, 12, 13, 14, 15]) <;> first | kernel_rfl | skip)
     | (apply z50 (id := 20) (ord := [0, 1, 2, 3, 4, 5, 6, 7, 8, 9, 10]) <;> first | kernel_rfl | skip)
     | (refine zs ?_; repeat' first | apply zs0 | apply zs2 | (intro hc; try have hq := dq hc)) | fail
    exact ⟨ws, hws.out, rfl, by (simp only [seval, push_cast, *] <;> rfl), rfl⟩
theorem ru_idx2 (nb : List Bool) (hl : nb.length ≤ 1000) (bs : List Nat) (c t1 t2 a x : HObj) (J : List HObj) : ∀ i ρ H', i ≤ nb.length →
      (∃ ws, ws = idxB 0 (nb.take i) ∧ H' = H ++ c :: t1 :: t2 :: a :: (J ++ [x, .tok ws.length]) ∧ ρ 5 = .list (nb.map .bool) ∧ ρ 13 = .tl (H.length + (J.length + 5)) (ws.map (.int .i64)) ∧ ρ 15 = .int .i64 i) →
      Lp X ⟨141, H.length :: bs⟩ (loopAt Tryz.f34 5) ρ H' fun ex ρ' H' => ∃ ws, ws = idxB 0 nb ∧ H' = H ++ c :: t1 :: t2 :: a :: (J ++ [x, .tok ws.length]) ∧ ρ' 13 = .tl (H.length + (J.length + 5)) (ws.map (.int .i64)) ∧ ex = .exit 10 := by
  refine loop_up ?_ ?_
  · rintro i ρ H' hi ⟨ws, hws, rfl, h5, h13, h15⟩
    have hget : nb[i]? = some nb[i] := by simp [hi]
    have htk : nb.take (i + 1) = nb.take i ++ [nb[i]] := by rw [List.take_add_one, hget]; rfl
    generalize nb[i] = b at hget htk
    have hlen : ws.length ≤ 1000 := by rw [hws]; have := idxB_len (nb.take i) 0; simp at this; omega
    have hroom := room8 ws.length (by omega)
    have hw := add1 i nb.length hi (by omega)
    have hsn : Kp (idxB 0 (nb.take (i + 1)) = ws ++ (if b = true then [(i : Int)] else [])) := ⟨by rw [htk, idxB_snoc, ← hws]; simp [Nat.le_of_lt hi]⟩
    clear hws htk hlen
    cases b with
    | true =>
      conv => arg 3; whnf
      repeat' first
       | (apply z50 (id := 15) (ord := [0, 1, 2, 3, 4, 5, 6, 7, 8, 9, 10, 11, 12, 13, 14, 15]) <;> first | kernel_rfl | skip)
       | (apply z50 (id := 20) (ord := [0, 1, 2, 3, 4, 5, 6, 7, 8, 9, 10]) <;> first | kernel_rfl | skip)
       | (refine zs ?_; repeat' first | apply zs0 | apply zs2 | (intro hc; try have hq := dq hc)) | fail
      exact ⟨ws ++ [(i : Int)], hsn.out.symm, by simp only [List.length_append, List.length_singleton], by (simp only [seval, push_cast, *] <;> rfl), by simp [push_cast], by (simp only [seval, push_cast, *] <;> rfl)⟩
    | false =>
      conv => arg 3; whnf
      repeat' first
       | (apply z50 (id := 15) (ord := [0, 1, 2, 3, 4, 5, 6, 7, 8, 9, 10, 11, 12, 13, 14, 15]) <;> first | kernel_rfl | skip)
       | (apply z50 (id := 20) (ord := [0, 1, 2, 3, 4, 5, 6, 7, 8, 9, 10]) <;> first | kernel_rfl | skip)
       | (refine zs ?_; repeat' first | apply zs0 | apply zs2 | (intro hc; try have hq := dq hc)) | fail
      exact ⟨ws, by rw [hsn.out]; simp, rfl, by (simp only [seval, push_cast, *] <;> rfl), by (simp only [seval, push_cast, *] <;> rfl), by (simp only [seval, push_cast, *] <;> rfl)⟩
  · rintro ρ H' ⟨ws, hws, rfl, h5, h13, h15⟩
    rw [List.take_length] at hws
    replace hws : Kp _ := ⟨hws⟩
    conv => arg 3; whnf
    repeat' first
     | (apply z50 (id := 15) (ord := [0, 1, 2, 3, 4, 5, 6, 7, 8, 9, 10, 11, 12, 13, 14, 15]) <;> first | kernel_rfl | skip)
     | (apply z50 (id := 20) (ord := [0, 1, 2, 3, 4, 5, 6, 7, 8, 9, 10]) <;> first | kernel_rfl | skip)
     | (refine zs ?_; repeat' first | apply zs0 | apply zs2 | (intro hc; try have hq := dq hc)) | fail
    exact ⟨ws, hws.out, rfl, by (simp only [seval, push_cast, *] <;> rfl), rfl⟩
end

theorem rf_used (bs : List Nat) (H : Heap) (n : Netl) (hS : Small n) (hk : NetOk n) : callw X bs 34 [encNetl n] H = some (.tuple [.list ((idxB 0 (usedRb n)).map (.int .i64)), .list ((idxB 0 (usedNb n)).map (.int .i64))], H) := by
  refine call_at (rs := [.tmp 2, .tmp 3]) (N := 141) (fn := Tryz.f34) xk34 xf34 rfl rfl rfl (by simp only [seval, push_cast, List.map_cons, List.map_nil, V.norm, norm1]; rfl) ?_
  have hz : ∀ i, bAt (List.replicate n.regs.length false) i = false := fun i => by simp only [bAt, List.getD_eq_getElem?_getD, List.getElem?_replicate]; split <;> rfl
  have q0 := fun bs t1 t2 ρ H' => ru_main n H hS hk bs t1 t2 (List.replicate n.regs.length false, true) ρ H'
  have sr := hS.regs
  have sn := hS.nodes
  have k1 : (usedRb n).length = n.regs.length := by simp [usedRb]
  have k2 : (usedNb n).length = n.nodes.length := by simp [usedNb]
  have q1 := fun bs c t1 t2 x J ρ => ru_idx1 n H (usedRb n) k1 sr bs c t1 t2 x J 0 ρ
  have q2 := fun bs c t1 t2 a x J ρ => ru_idx2 H (usedNb n) (by omega) bs c t1 t2 a x J 0 ρ
  have r1 : n.regs.length ≤ roomB := by unfold roomB; omega
  have r2 := room_int (n := n.regs.length) (by omega)
  have m1 : Kp (∀ m, List.replicate m (V.bool false) = (List.replicate m false).map .bool) := ⟨fun m => by rw [List.map_replicate]⟩
  replace hz : Kp _ := ⟨hz⟩
  simp only [cellsNetl] at q0
  clear hS hk k1 k2
  generalize usedRb n = rb at q0 q1 ⊢
  generalize usedNb n = nb at q0 q2 ⊢
  repeat' first
   | (apply z50 (id := 15) (ord := [0, 1, 2, 3, 4, 5, 6, 7, 8, 9, 10, 11, 12, 13, 14, 15]) <;> first | kernel_rfl | skip)
   | (apply z50 (id := 20) (ord := [0, 1, 2, 3, 4, 5, 6, 7, 8, 9, 10]) <;> first | kernel_rfl | skip)
   | (refine zs ?_; repeat' first | apply zs0 | apply zs2 | (intro hc; try have hq := dq hc)) | fail
  rw [m1.out]
  refine lp_then (lp_any (c := loopAt Tryz.f34 0) rfl (q0 _ _ _ _ _ ⟨by simp, fun k hb => (by rw [hz.out] at hb; cases hb), fun h => (by cases h), _, rfl, by (simp only [seval, push_cast, *] <;> rfl), by (simp only [seval, push_cast, *] <;> rfl), by (simp only [seval, push_cast, *] <;> rfl)⟩)) ?_
  rintro ex ρ1 H' ⟨J, rfl, g5, rfl⟩ hf
  have f4 := hf 4 rfl
  simp only [seval, push_cast] at f4
  clear hf q0 m1 hz
  repeat' first
   | (apply z50 (id := 15) (ord := [0, 1, 2, 3, 4, 5, 6, 7, 8, 9, 10, 11, 12, 13, 14, 15]) <;> first | kernel_rfl | skip)
   | (apply z50 (id := 20) (ord := [0, 1, 2, 3, 4, 5, 6, 7, 8, 9, 10]) <;> first | kernel_rfl | skip)
   | (refine zs ?_; repeat' first | apply zs0 | apply zs2 | (intro hc; try have hq := dq hc)) | fail
  refine lp_then (lp_any (c := loopAt Tryz.f34 4) rfl (q1 _ _ _ _ (.tok 0) J _ _ (by omega) ⟨[], rfl, rfl, by (simp only [seval, push_cast, *] <;> rfl), by simp only [seval, push_cast], by (simp only [seval, push_cast, *] <;> rfl)⟩)) ?_
  rintro ex ρ2 H' ⟨ws, rfl, rfl, g12, rfl⟩ hf
  have g5b := hf 5 rfl
  have g13 := hf 13 rfl
  simp only [seval, push_cast, g5] at g5b g13
  clear hf q1 f4 g5
  repeat' first
   | (apply z50 (id := 15) (ord := [0, 1, 2, 3, 4, 5, 6, 7, 8, 9, 10, 11, 12, 13, 14, 15]) <;> first | kernel_rfl | skip)
   | (apply z50 (id := 20) (ord := [0, 1, 2, 3, 4, 5, 6, 7, 8, 9, 10]) <;> first | kernel_rfl | skip)
   | (refine zs ?_; repeat' first | apply zs0 | apply zs2 | (intro hc; try have hq := dq hc)) | fail
  refine lp_then (lp_any (c := loopAt Tryz.f34 5) rfl (q2 _ _ _ _ _ _ J _ _ (by omega) ⟨[], rfl, rfl, by (simp only [seval, push_cast, *] <;> rfl), by simp only [seval, push_cast, *], by (simp only [seval, push_cast, *] <;> rfl)⟩)) ?_
  rintro ex ρ3 H' ⟨ws, rfl, rfl, h13, rfl⟩ hf
  have h12 := hf 12 rfl
  simp only [seval, push_cast, g12] at h12
  clear hf q2 g5b g13 g12
  repeat' first
   | (apply z50 (id := 15) (ord := [0, 1, 2, 3, 4, 5, 6, 7, 8, 9, 10, 11, 12, 13, 14, 15]) <;> first | kernel_rfl | skip)
   | (apply z50 (id := 20) (ord := [0, 1, 2, 3, 4, 5, 6, 7, 8, 9, 10]) <;> first | kernel_rfl | skip)
   | (refine zs ?_; repeat' first | apply zs0 | apply zs2 | (intro hc; try have hq := dq hc)) | fail
end Go.E
/- Plain law of chapter 22: a netlist pruned. Own work. -/
namespace Go.E
noncomputable def useN (n : Netl) : List Int := idxB 0 (usedNb n)
noncomputable def useR (n : Netl) : List Int := idxB 0 (usedRb n)
def prNode (n : Netl) (ns rs : List Int) (i : Int) : Node :=
  match n.nodes[i.toNat]? with
  | some x => ⟨x.op, x.width, x.args.map (posL ns), if x.op = 1 ∧ (n.inputs.length : Int) ≤ x.value then (n.inputs.length : Int) + posL rs (x.value - n.inputs.length) else x.value⟩
  | none => ⟨0, 0, [], 0⟩
def prReg (n : Netl) (ns : List Int) (k : Int) : Reg :=
  match n.regs[k.toNat]? with
  | some r => ⟨r.name, r.width, r.init, posL ns r.enable, posL ns r.next⟩
  | none => ⟨ByteArray.empty, 0, 0, 0, 0⟩
def prOut (ns : List Int) (o : Outp) : Outp := ⟨o.name, posL ns o.node⟩
def prunedL (n : Netl) (ns rs : List Int) : Netl := ⟨n.name, n.inputs, rs.map (prReg n ns), ns.map (prNode n ns rs), n.outs.map (prOut ns)⟩
noncomputable def prunedS (n : Netl) : Netl := prunedL n (useN n) (useR n)
/-- A field that is nil as long as nothing was appended. -/
def nlV : List V → V
  | [] => .nilS
  | l => .list l
theorem nlV_norm (l : List V) : norm1 (nlV l) = .list l := by cases l <;> rfl
def encNetN (m : Netl) : V := .agg [.str m.name, .list (m.inputs.map encPort), nlV (m.regs.map encReg), nlV (m.nodes.map encNode), nlV (m.outs.map encOutp)]
theorem encNetN_norm (m : Netl) : (encNetN m).norm = encNetl m := by
  simp only [encNetN, V.norm, encNetl, cellsNetl, List.map_cons, List.map_nil, nlV_norm]; rfl

theorem idxF_range {α : Type} (p : α → Bool) : ∀ (l : List α) (i : Int), idxF p i l = -1 ∨ (i ≤ idxF p i l ∧ idxF p i l < i + l.length)
  | [], i => .inl rfl
  | x :: r, i => by
    rw [idxF]
    split
    · simp; omega
    · rcases idxF_range p r (i + 1) with h | h
      · exact .inl h
      · simp only [List.length_cons]; omega
theorem posL_range (l : List Int) (a : Int) : -1 ≤ posL l a ∧ posL l a < (l.length : Int) + 1 := by
  unfold posL
  rcases idxF_range (fun x => decide (x = a)) l 0 with h | h <;> omega
theorem idxF_at {l : List Int} {a : Int} : ∀ (j : Nat) (i : Int), l[j]? = some a → (∀ k, k < j → l[k]? ≠ some a) → idxF (fun x => decide (x = a)) i l = i + j := by
  induction l with
  | nil => intro j i h; simp at h
  | cons x r ih =>
    intro j i h hk
    rw [idxF]
    cases j with
    | zero => simp at h; simp [h]
    | succ j =>
      have hx : x ≠ a := fun e => hk 0 (by omega) (by simp [e])
      rw [if_neg (by simpa using hx), ih j (i + 1) (by simpa using h) (fun k hlt => by have := hk (k + 1) (by omega); simpa using this)]
      omega
theorem idxB_get : ∀ {l : List Bool} {i j : Nat} {a : Int}, (idxB i l)[j]? = some a → ∃ k, a = ((i + k : Nat) : Int) ∧ l[k]? = some true ∧ j ≤ k
  | b :: r, i, j, a, h => by
    rw [idxB] at h
    split at h
    · rename_i hb
      cases j with
      | zero => simp at h; exact ⟨0, by simp [h], by simp [hb], Nat.le_refl _⟩
      | succ j =>
        simp at h
        obtain ⟨k, h1, h2, h3⟩ := idxB_get h
        exact ⟨k + 1, by rw [h1]; congr 1; omega, by simpa using h2, by omega⟩
    · obtain ⟨k, h1, h2, h3⟩ := idxB_get h
      exact ⟨k + 1, by rw [h1]; congr 1; omega, by simpa using h2, by omega⟩
theorem idxB_mem : ∀ {l : List Bool} {i k : Nat}, l[k]? = some true → ((i + k : Nat) : Int) ∈ idxB i l
  | b :: r, i, k, h => by
    rw [idxB]
    cases k with
    | zero => simp at h; subst h; simp
    | succ k =>
      have := idxB_mem (l := r) (i := i + 1) (k := k) (by simpa using h)
      rw [show i + 1 + k = i + (k + 1) by omega] at this
      split
      · exact List.mem_cons_of_mem _ this
      · exact this
theorem idxB_up : ∀ {l : List Bool} {i j k : Nat} {a b : Int}, (idxB i l)[j]? = some a → (idxB i l)[k]? = some b → j < k → a < b
  | c :: r, i, j, k, a, b, h1, h2, hjk => by
    rw [idxB] at h1 h2
    split at h1
    · rename_i hc
      rw [if_pos hc] at h2
      cases k with
      | zero => omega
      | succ k =>
        simp only [List.getElem?_cons_succ] at h2
        cases j with
        | zero =>
          simp only [List.getElem?_cons_zero, Option.some.injEq] at h1
          obtain ⟨q, h3, _⟩ := idxB_get h2
          omega
        | succ j => exact idxB_up (by simpa using h1) h2 (by omega)
    · rename_i hc
      rw [if_neg hc] at h2
      exact idxB_up h1 h2 hjk
theorem posL_at {l : List Bool} {j : Nat} {a : Int} (h : (idxB 0 l)[j]? = some a) : posL (idxB 0 l) a = j := by
  have := idxF_at (l := idxB 0 l) (a := a) j 0 h (fun k hk e => by have := idxB_up e h hk; omega)
  rw [posL, this]; omega
/-- Those before a place are those that are less. -/
theorem take_lt {l : List Bool} {i j : Nat} {a b : Int} (ha : (idxB 0 l)[j]? = some a) (hb : (idxB 0 l)[i]? = some b) (h : a < b) : j < i := by
  rcases Nat.lt_trichotomy i j with h1 | rfl | h1
  · have := idxB_up hb ha h1; omega
  · rw [ha] at hb; have := Option.some.inj hb; omega
  · exact h1
end Go.E
/- Contracts of the references' base, in E: CopyNodes, CopyNetlist. Own work. -/
namespace Go.E
open Go.Proofs
set_option maxRecDepth 100000
set_option maxHeartbeats 4000000

theorem bs_copyNodes (bs : List Nat) (H : Heap) (l : List Node) (hl : l.length ≤ 1000) (ha : ∀ x ∈ l, x.args.length ≤ 1000000) : callw X bs 78 [.list (l.map encNode)] H = some (.list (l.map encNode), H) := by
  refine call_at (rs := [.tmp 2]) (N := 32) (fn := Tryz.f78) xk78 xf78 rfl rfl rfl (by simp only [seval, push_cast, List.map_cons, List.map_nil, V.norm, norm1]; rfl) ?_
  have key : ∀ (t : HObj) (bs : List Nat) i ρ H', i ≤ l.length → (H' = H ++ [t, .arr (fill encNode (.agg [.int .i64 0, .int .i64 0, .nilS, .int .i64 0]) l i) 0] ∧ ρ 0 = .list (l.map encNode) ∧ ρ 3 = .ref 4 (H.length + 1) 0 0 l.length ∧ ρ 4 = .int .i64 i) →
      Lp X ⟨32, H.length :: bs⟩ (loopAt Tryz.f78 0) ρ H' fun ex ρ' H' => H' = H ++ [t, .arr (l.map encNode) 0] ∧ ρ' 3 = .ref 4 (H.length + 1) 0 0 l.length ∧ ex = .exit 0 := by
    intro t bs
    refine loop_up ?_ ?_
    · rintro i ρ H' hlt ⟨rfl, h0, h3, h4⟩
      have hget : l[i]? = some l[i] := by simp [hlt]
      have hw := add1 i l.length hlt (by omega)
      have hz := fill_get encNode (.agg [.int .i64 0, .int .i64 0, .nilS, .int .i64 0]) l i hlt
      have hs := fill_set encNode (.agg [.int .i64 0, .int .i64 0, .nilS, .int .i64 0]) l i l[i] hget
      have hg1 := fill_get1 encNode (.agg [.int .i64 0, .int .i64 0, .nilS, .int .i64 0]) l i l[i] hget
      have hs1 := fill_set1 encNode (.agg [.int .i64 0, .int .i64 0, .nilS, .int .i64 0]) l i l[i] hget
      have hal := ha l[i] (List.getElem_mem hlt)
      have hc := fun bs H => bs_copyInts bs H l[i].args hal
      generalize l[i] = p at hget hs hg1 hs1 hal hc
      simp only [encNode, encInts] at hs hg1 hs1
      conv => arg 3; whnf
      all_goals try (refine zs ?_; repeat' first | apply zs0 | apply zs2 | (intro hc; try have hq := dq hc))
      exact ⟨by (simp only [seval, push_cast, *] <;> rfl), by (simp only [seval, push_cast, *] <;> rfl), by (simp only [seval, push_cast, *] <;> rfl), by (simp only [seval, push_cast, *] <;> rfl)⟩
    · rintro ρ H' ⟨rfl, h0, h3, h4⟩
      rw [fill_end]
      conv => arg 3; whnf
      all_goals try (refine zs ?_; repeat' first | apply zs0 | apply zs2 | (intro hc; try have hq := dq hc))
      exact ⟨by (simp only [seval, push_cast, *] <;> rfl), by (simp only [seval, push_cast, *] <;> rfl), rfl⟩
  have h1 := room_of (n := l.length) (k := 48) (by omega) (by omega)
  have h2 := room_int (n := l.length) (by omega)
  have h3 : Kp (fill encNode (.agg [.int .i64 0, .int .i64 0, .nilS, .int .i64 0]) l 0 = List.replicate l.length (.agg [.int .i64 0, .int .i64 0, .nilS, .int .i64 0])) := ⟨fill_0 _ _ _⟩
  all_goals try (refine zs ?_; repeat' first | apply zs0 | apply zs2 | (intro hc; try have hq := dq hc))
  refine lp_then (lp_any (c := loopAt Tryz.f78 0) rfl (key _ _ 0 _ _ (by omega) ⟨by rw [h3.out], by (simp only [seval, push_cast, *] <;> rfl), by (simp only [seval, push_cast, *] <;> rfl), by (simp only [seval, push_cast, *] <;> rfl)⟩)) ?_
  rintro ex ρ' H' ⟨rfl, f3, rfl⟩ hf
  all_goals try (refine zs ?_; repeat' first | apply zs0 | apply zs2 | (intro hc; try have hq := dq hc))

theorem bs_copyNet (bs : List Nat) (H : Heap) (n : Netl) (hS : Small n) : callw X bs 13 [encNetl n] H = some (encNetl n, H) := by
  refine call_at (rs := [.cell 2 27]) (N := 21) (fn := Tryz.f13) xk13 xf13 rfl rfl rfl (by simp only [seval, push_cast, List.map_cons, List.map_nil, V.norm, norm1]; rfl) ?_
  obtain ⟨s1, s2, s3, s4, s5, s6, s7, s8, s9⟩ := hS
  have c1 := fun bs H => bs_copyPorts bs H n.inputs (by omega)
  have c2 := fun bs H => bs_copyNodes bs H n.nodes s4 (fun x hx => Nat.le_trans (s9 x hx) (by omega))
  have c3 := fun bs H => bs_copyOutputs bs H n.outs (by omega)
  have h1 := room_of (n := n.regs.length) (k := 48) (by omega) (by omega)
  clear s6 s7 s8 s9
  repeat' first
   | (apply z51 (id := 1) (ord := [0, 1, 3, 4, 6, 7, 2, 9, 5, 8, 10, 11, 12, 13, 14]) (ps := [(3, 6), (5, 6), (5, 8)]) <;> first | kernel_rfl | skip)
   | (refine zs ?_; repeat' first | apply zs0 | apply zs2 | (intro hc; try have hq := dq hc)) | fail

end Go.E
