/- What 'few' asks. Own work. -/
import Derived.Test.YtbnakdpmjlcneaaGreatP6
import Derived.Test.YtbnakdpmjlcneaaGreatP8
import Derived.Test.YtbnakdpmjlcneaaGreatP10
import Derived.Test.YtbnakdpmjlcneaaGreatP14
set_option linter.all false
namespace Go.E
theorem small_of {n : Netl} (h : fewSizes n) (ha : fewAll n = true) : Small n := by
  obtain ⟨a1, a2, a3, a4, a5, a6⟩ := h
  simp only [fewAll, Bool.and_eq_true, List.all_eq_true, decide_eq_true_eq] at ha
  obtain ⟨b1, b2, b3, b4⟩ := ha
  exact ⟨by omega, by omega, by omega, by omega, by omega, fun p hp => by have := b2 p hp; omega, fun p hp => by have := b3 p hp; omega, fun p hp => by have := b4 p hp; omega, fun p hp => by have := b1 p hp; omega⟩
end Go.E
/- NetlistReached, in E: the law answers true. Own work. -/
namespace Go.E
open Go.Proofs
set_option maxRecDepth 100000
set_option maxHeartbeats 8000000
theorem reachIn_ok {n : Netl} {s : List Int} (hk : NetOk n) (hs : RegOk n s) : ∀ {r l m : List (List Int)}, (∀ x ∈ r, inErrS n x = 0) → (∀ x ∈ l, RegOk n x) → reachIn n s r l = some m → ∀ x ∈ m, RegOk n x
  | [], l, m, _, hl, h => by cases h; exact hl
  | x :: r, l, m, hr, hl, h => by
    rw [reachIn] at h
    have hr' : ∀ y ∈ r, inErrS n y = 0 := fun y hy => hr y (List.mem_cons_of_mem _ hy)
    split at h
    · exact reachIn_ok hk hs hr' hl h
    · split at h
      · cases h
      · refine reachIn_ok hk hs hr' (fun y hy => ?_) h
        rcases List.mem_append.1 hy with h1 | h1
        · exact hl y h1
        · rw [List.mem_singleton] at h1; exact h1 ▸ regOk_next hk (hr x List.mem_cons_self) hs
theorem reachGo_ok {n : Netl} {ins : List (List Int)} (hk : NetOk n) (hin : ∀ x ∈ ins, inErrS n x = 0) : ∀ {f i : Nat} {l m : List (List Int)}, l.length ≤ 300 → (∀ x ∈ l, RegOk n x) → reachGo n ins f i l = some m → m.length ≤ 300 ∧ ∀ x ∈ m, RegOk n x
  | 0, _, _, _, _, _, h => by cases h
  | f + 1, i, l, m, h3, hl, h => by
    rw [reachGo] at h
    cases hg : l[i]? with
    | none => rw [hg] at h; cases h; exact ⟨h3, hl⟩
    | some s =>
      rw [hg] at h
      simp only at h
      cases hr : reachIn n s ins l with
      | none => rw [hr] at h; cases h
      | some l2 =>
        rw [hr] at h
        exact reachGo_ok hk hin (reachIn_len hr h3).1 (reachIn_ok hk (hl s (List.mem_of_getElem? hg)) hin hl hr) h
theorem la_reached (n : Netl) (ins : List (List Int)) : callw X [] 7 [encNetl n, .list (ins.map encInts)] [] = some (.bool true, []) := by
  refine call_at (rs := [.tmp 4]) (N := 75) (fn := Tryz.f7) xk7 xf7 rfl rfl rfl (by simp only [seval, push_cast, List.map_cons, List.map_nil, V.norm, norm1]; rfl) ?_
  have t0 := la_awake (cellsNetl n)
  simp only [cellsNetl] at t0
  by_cases ha : fewSizes n
  case neg =>
    have t1 := fun bs H => la_few_big bs H n ha
    simp only [encNetl, cellsNetl] at t1
    clear ha
    all_goals try (refine zs ?_; repeat' first | apply zs0 | apply zs2 | (intro hc; try have hq := dq hc))
  have t1 := fun bs H => la_few bs H n ha
  simp only [encNetl, cellsNetl] at t1
  cases haf : fewAll n with
  | false =>
    rw [haf] at t1
    clear ha haf
    all_goals try (refine zs ?_; repeat' first | apply zs0 | apply zs2 | (intro hc; try have hq := dq hc))
  | true =>
  rw [haf] at t1
  have hS := small_of ha haf
  clear ha haf
  have u1 := fun bs H => la_fewLists bs H ins 18 (by omega)
  simp only [show ((18 : Nat) : Int) = 18 from rfl] at u1
  by_cases hq : ins.length ≤ 18 ∧ ins.all (fun x => decide (x.length ≤ 45)) = true
  case neg =>
    have hb : (decide (ins.length ≤ 18) && ins.all (fun x => decide (x.length ≤ 45))) = false := by
      cases hh : (decide (ins.length ≤ 18) && ins.all (fun x => decide (x.length ≤ 45))) with
      | false => rfl
      | true => exact absurd ⟨of_decide_eq_true (Bool.and_eq_true_iff.1 hh).1, (Bool.and_eq_true_iff.1 hh).2⟩ hq
    rw [hb] at u1
    clear hS hq hb
    all_goals try (refine zs ?_; repeat' first | apply zs0 | apply zs2 | (intro hc; try have hq := dq hc))
  have hb : (decide (ins.length ≤ 18) && ins.all (fun x => decide (x.length ≤ 45))) = true := by rw [decide_eq_true hq.1, hq.2]; rfl
  rw [hb] at u1
  have hin : ins.length ≤ 18 := hq.1
  have hil : ∀ x ∈ ins, x.length ≤ 100000 := fun x hx => by have : x.length ≤ 45 := of_decide_eq_true (List.all_eq_true.1 hq.2 x hx); omega
  clear hq hb
  have hcs : checkNetS n = netErrR n := checkNet_same n
  have v1 := fun bs H => rf_err bs H n hS
  rw [← hcs] at v1
  have w1 := fun bs H => bs_copyNet bs H n hS
  have w3 := fun bs H => bs_copyLists bs H ins (by omega) hil
  simp only [encNetl, cellsNetl] at v1 w1
  clear hcs
  by_cases e : (checkNetS n).2 = 0
  case neg =>
    have x1 := fun bs H => nl_rb_bad bs H n ins hS e
    simp only [encNetl, cellsNetl] at x1
    generalize (checkNetS n).2 = c at v1 x1 e
    clear hS hin hil
    all_goals try (refine zs ?_; repeat' first | apply zs0 | apply zs2 | (intro hc; try have hq := dq hc))
  have hk := net_ok e
  have v2 := fun bs H => rf_listsErr bs H n ins hS hk (by omega) hil
  simp only [encNetl, cellsNetl] at v2
  by_cases el : listsErrS n ins = 0
  case neg =>
    have x1 := fun bs H => nl_rb_lists bs H n ins hS hk (by omega) hil e el
    simp only [encNetl, cellsNetl] at x1
    rw [e] at v1
    generalize listsErrS n ins = c at v2 x1 el
    clear hS hin hil hk e
    all_goals try (refine zs ?_; repeat' first | apply zs0 | apply zs2 | (intro hc; try have hq := dq hc))
  have v3 := fun bs H => la_light1 bs H n ins hS hk
  have x1 := fun bs H => nl_rb_ok bs H n ins hS hk (by omega) hil e el
  have x2 := fun bs H => rf_reached bs H n ins hS hk (by omega) (lists_in el)
  have hr1 : ∀ x ∈ [resetN n], RegOk n x := fun x hx => by rw [List.mem_singleton] at hx; exact hx ▸ regOk_reset hk
  have hgo : ∀ m, reachGo n ins 302 0 [resetN n] = some m → m.length ≤ 300 ∧ ∀ x ∈ m, RegOk n x := fun m hm => reachGo_ok hk (lists_in el) (by simp) hr1 hm
  simp only [encNetl, cellsNetl] at v3 x1 x2
  rw [e] at v1
  rw [el] at v2
  cases hlt : light1S n ins with
  | false =>
    rw [hlt] at v3
    clear hS hin hil hk e el x1 x2 hr1 hgo hlt w1 w3
    all_goals try (refine zs ?_; repeat' first | apply zs0 | apply zs2 | (intro hc; try have hq := dq hc))
  | true =>
  rw [hlt] at v3
  generalize reachGo n ins 302 0 [resetN n] = r at x1 x2 hgo
  cases r with
  | none =>
    simp only [rbV] at x1
    simp only [rfV] at x2
    clear hS hin hil hk e el hr1 hgo hlt
    all_goals try (refine zs ?_; repeat' first | apply zs0 | apply zs2 | (intro hc; try have hq := dq hc))
  | some m =>
    obtain ⟨h3, hr⟩ := hgo m rfl
    simp only [rbV] at x1
    simp only [rfV] at x2
    have hsl : (sortL m).length = m.length := sortL_len m
    have hsm : ∀ x ∈ sortL m, x.length ≤ 1000000 := fun x hx => by
      have := reg_len hS (hr x ((List.mergeSort_perm m _).mem_iff.1 hx)); omega
    have y1 := fun bs H => bs_lists bs H (sortL m) (sortL m) (by omega) (by omega) hsm hsm
    rw [decide_eq_true rfl] at y1
    generalize sortL m = o at x1 x2 y1
    clear hS hin hil hk e el hr1 hgo hlt hsl hsm h3 hr
    all_goals try (refine zs ?_; repeat' first | apply zs0 | apply zs2 | (intro hc; try have hq := dq hc))
end Go.E
