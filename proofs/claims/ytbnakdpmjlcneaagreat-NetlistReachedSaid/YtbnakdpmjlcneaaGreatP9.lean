/- Contracts of the references' base, in E: what operations compute. Own work. -/
import Derived.Test.YtbnakdpmjlcneaaGreatP7
import Derived.Test.YtbnakdpmjlcneaaGreatP5
import Derived.Test.YtbnakdpmjlcneaaGreatP8
import Derived.Test.YtbnakdpmjlcneaaGreatP3
set_option linter.all false
namespace Go.E
open Go.Proofs
set_option maxRecDepth 100000
set_option maxHeartbeats 4000000

theorem rem_ne {x : Int} {k : Nat} : ((2 : Int) ^ k = 0) = False := by simp; have := pow_pos' k; omega
theorem tmod_pow {x : Int} {k : Nat} (h : 0 ≤ x) : x.tmod (2 ^ k) = x % 2 ^ k := Int.tmod_eq_emod_of_nonneg h
theorem tdiv_pow {x : Int} {k : Nat} (h : 0 ≤ x) : x.tdiv (2 ^ k) = x / 2 ^ k := Int.tdiv_eq_ediv_of_nonneg h
theorem pw {bs : List Nat} {H : Heap} (W : Int) (h0 : 0 ≤ W) (h16 : W ≤ 16) : callw X bs 145 [.int .i64 W] H = some (.int .i64 (2 ^ W.toNat), H) := by
  have := bs_power bs H W h0
  rwa [shl1_pow (by omega)] at this
theorem wrx {x : Int} (h : -4398046511104 ≤ x ∧ x ≤ 4398046511104) : IntKind.i64.wrap x = x := by rw [wrap64] <;> omega
theorem pow16 {w : Int} (h : w ≤ 16) : (2 : Int) ^ w.toNat ≤ 65536 := by
  have : (2 : Nat) ^ w.toNat ≤ 2 ^ 16 := Nat.pow_le_pow_right (by omega) (by omega)
  have h3 := Int.ofNat_le.2 this
  have c : ((2 ^ 16 : Nat) : Int) = 65536 := by decide
  rw [c] at h3
  simpa using h3

theorem bs_bit (bs : List Nat) (H : Heap) (b : Bool) : callw X bs 206 [.bool b] H = some (.int .i64 (if b = true then 1 else 0), H) := by
  refine call_at (rs := [.tmp 2]) (N := 4) (fn := Tryz.f206) xk206 xf206 rfl rfl rfl (by simp only [seval, push_cast, List.map_cons, List.map_nil, V.norm, norm1]; rfl) ?_
  cases b
  · all_goals try (refine zs ?_; repeat' first | apply zs0 | apply zs2 | (intro hc; try have hq := dq hc))
  · all_goals try (refine zs ?_; repeat' first | apply zs0 | apply zs2 | (intro hc; try have hq := dq hc))
attribute [push_cast] bs_bit

theorem bs_signed (bs : List Nat) (H : Heap) (n w : Int) (hn : InW n w) (h1 : 1 ≤ w) (h16 : w ≤ 16) : callw X bs 207 [.int .i64 n, .int .i64 w] H = some (.int .i64 (sgn n w), H) := by
  refine call_at (rs := [.tmp 4]) (N := 15) (fn := Tryz.f207) xk207 xf207 rfl rfl rfl (by simp only [seval, push_cast, List.map_cons, List.map_nil, V.norm, norm1]; rfl) ?_
  have e0 : IntKind.i64.wrap (w - 1) = w - 1 := by rw [wrap64] <;> omega
  have e2 : (w - 1).toNat = w.toNat - 1 := by omega
  have t1 := fun bs H => pw (bs := bs) (H := H) (w - 1) (by omega) (by omega)
  have t2 := fun bs H => pw (bs := bs) (H := H) w (by omega) h16
  rw [e2] at t1
  have h2 := pow16 h16
  have h3 := pow_pos' w.toNat
  have e3 := wrx (x := n - 2 ^ w.toNat) (by have := hn.1; have := hn.2; omega)
  unfold sgn
  by_cases hc : 2 ^ (w.toNat - 1) ≤ n
  · have d : decide (n ≥ 2 ^ (w.toNat - 1)) = true := decide_eq_true hc
    rw [if_pos hc]
    clear hc hn h2 h3 e2
    all_goals try (refine zs ?_; repeat' first | apply zs0 | apply zs2 | (intro hc; try have hq := dq hc))
  · have d : decide (n ≥ 2 ^ (w.toNat - 1)) = false := decide_eq_false hc
    rw [if_neg hc]
    clear hc hn h2 h3 e2
    all_goals try (refine zs ?_; repeat' first | apply zs0 | apply zs2 | (intro hc; try have hq := dq hc))

theorem ap_0 (bs : List Nat) (H : Heap) (W v : Int) (ar a w lv : List V) (h0 : 0 ≤ W) (h16 : W ≤ 16) : callw X bs 153 [.agg [.int .i64 0, .int .i64 W, .list ar, .int .i64 v], .list a, .list w, .list lv] H = some (.int .i64 v, H) := by
  refine call_at (rs := [.tmp 8]) (N := 221) (fn := Tryz.f153) xk153 xf153 rfl rfl rfl (by simp only [seval, push_cast, List.map_cons, List.map_nil, V.norm, norm1]; rfl) ?_
  have t1 := fun bs H => pw (bs := bs) (H := H) W h0 h16
  repeat' first
   | (apply z50 (id := 10) (ord := [0, 1, 2, 3, 4, 5, 6, 7]) <;> first | kernel_rfl | skip)
   | (apply z50 (id := 12) (ord := [0, 1, 2, 3, 4, 5, 6, 7]) <;> first | kernel_rfl | skip)
   | (apply z50 (id := 14) (ord := [0, 1, 2, 3, 4, 5, 6, 7]) <;> first | kernel_rfl | skip)
   | (apply z50 (id := 16) (ord := [0, 1, 2, 3, 4, 5, 6, 7, 8, 9]) <;> first | kernel_rfl | skip)
   | (apply z50 (id := 18) (ord := [0, 1, 2, 3, 4, 5, 6, 7, 8, 9, 10, 11]) <;> first | kernel_rfl | skip)
   | (apply z50 (id := 20) (ord := [0, 1, 2, 3, 4, 5, 6, 7, 8, 9]) <;> first | kernel_rfl | skip)
   | (apply z50 (id := 22) (ord := [0, 1, 2, 3, 4, 5, 6, 7, 8]) <;> first | kernel_rfl | skip)
   | (apply z50 (id := 24) (ord := [0, 1, 2, 3, 4, 5, 6, 7, 8]) <;> first | kernel_rfl | skip)
   | (apply z51 (id := 26) (ord := [0, 1, 2, 3, 4, 5, 7, 8, 9, 10, 11, 12, 6, 13, 14, 15, 16]) (ps := [(8, 12), (11, 12)]) <;> first | kernel_rfl | skip)
   | (apply z51 (id := 32) (ord := [0, 1, 2, 3, 4, 5, 8, 9, 10, 6, 7, 11, 12]) (ps := [(2, 9), (8, 9)]) <;> first | kernel_rfl | skip)
   | (apply z51 (id := 34) (ord := [0, 1, 2, 3, 4, 7, 5, 6, 8, 9]) (ps := [(2, 6)]) <;> first | kernel_rfl | skip)
   | (apply z50 (id := 38) (ord := [0, 1, 2, 3, 4, 5, 7, 9, 6, 8, 10, 11]) <;> first | kernel_rfl | skip)
   | (apply z50 (id := 40) (ord := [0, 1, 2, 3, 4, 5]) <;> first | kernel_rfl | skip)
   | (apply z51 (id := 42) (ord := [0, 1, 2, 3, 4, 5, 8, 6, 7, 9, 10]) (ps := [(2, 7)]) <;> first | kernel_rfl | skip)
   | (apply z50 (id := 43) (ord := [0, 1, 2, 3, 4, 5]) <;> first | kernel_rfl | skip)
   | (apply z51 (id := 45) (ord := [0, 1, 2, 3, 4, 5, 6, 7, 8]) (ps := [(2, 6)]) <;> first | kernel_rfl | skip)
   | (refine zs ?_; repeat' first | apply zs0 | apply zs2 | (intro hc; try have hq := dq hc)) | fail

theorem ap_1 (bs : List Nat) (H : Heap) (W : Int) (v : Nat) (z : Int) (ar a w : List V) (lv : List Int) (h0 : 0 ≤ W) (h16 : W ≤ 16) (hg : lv[v]? = some z) : callw X bs 153 [.agg [.int .i64 1, .int .i64 W, .list ar, .int .i64 v], .list a, .list w, .list (lv.map (.int .i64))] H = some (.int .i64 z, H) := by
  refine call_at (rs := [.tmp 8]) (N := 221) (fn := Tryz.f153) xk153 xf153 rfl rfl rfl (by simp only [seval, push_cast, List.map_cons, List.map_nil, V.norm, norm1]; rfl) ?_
  have t1 := fun bs H => pw (bs := bs) (H := H) W h0 h16
  repeat' first
   | (apply z50 (id := 10) (ord := [0, 1, 2, 3, 4, 5, 6, 7]) <;> first | kernel_rfl | skip)
   | (apply z50 (id := 12) (ord := [0, 1, 2, 3, 4, 5, 6, 7]) <;> first | kernel_rfl | skip)
   | (apply z50 (id := 14) (ord := [0, 1, 2, 3, 4, 5, 6, 7]) <;> first | kernel_rfl | skip)
   | (apply z50 (id := 16) (ord := [0, 1, 2, 3, 4, 5, 6, 7, 8, 9]) <;> first | kernel_rfl | skip)
   | (apply z50 (id := 18) (ord := [0, 1, 2, 3, 4, 5, 6, 7, 8, 9, 10, 11]) <;> first | kernel_rfl | skip)
   | (apply z50 (id := 20) (ord := [0, 1, 2, 3, 4, 5, 6, 7, 8, 9]) <;> first | kernel_rfl | skip)
   | (apply z50 (id := 22) (ord := [0, 1, 2, 3, 4, 5, 6, 7, 8]) <;> first | kernel_rfl | skip)
   | (apply z50 (id := 24) (ord := [0, 1, 2, 3, 4, 5, 6, 7, 8]) <;> first | kernel_rfl | skip)
   | (apply z51 (id := 26) (ord := [0, 1, 2, 3, 4, 5, 7, 8, 9, 10, 11, 12, 6, 13, 14, 15, 16]) (ps := [(8, 12), (11, 12)]) <;> first | kernel_rfl | skip)
   | (apply z51 (id := 32) (ord := [0, 1, 2, 3, 4, 5, 8, 9, 10, 6, 7, 11, 12]) (ps := [(2, 9), (8, 9)]) <;> first | kernel_rfl | skip)
   | (apply z51 (id := 34) (ord := [0, 1, 2, 3, 4, 7, 5, 6, 8, 9]) (ps := [(2, 6)]) <;> first | kernel_rfl | skip)
   | (apply z50 (id := 38) (ord := [0, 1, 2, 3, 4, 5, 7, 9, 6, 8, 10, 11]) <;> first | kernel_rfl | skip)
   | (apply z50 (id := 40) (ord := [0, 1, 2, 3, 4, 5]) <;> first | kernel_rfl | skip)
   | (apply z51 (id := 42) (ord := [0, 1, 2, 3, 4, 5, 8, 6, 7, 9, 10]) (ps := [(2, 7)]) <;> first | kernel_rfl | skip)
   | (apply z50 (id := 43) (ord := [0, 1, 2, 3, 4, 5]) <;> first | kernel_rfl | skip)
   | (apply z51 (id := 45) (ord := [0, 1, 2, 3, 4, 5, 6, 7, 8]) (ps := [(2, 6)]) <;> first | kernel_rfl | skip)
   | (refine zs ?_; repeat' first | apply zs0 | apply zs2 | (intro hc; try have hq := dq hc)) | fail

theorem ap_2 (bs : List Nat) (H : Heap) (W v x : Int) (ar w lv : List V) (h0 : 0 ≤ W) (h16 : W ≤ 16) (hx : InW x W) : callw X bs 153 [.agg [.int .i64 2, .int .i64 W, .list ar, .int .i64 v], .list [.int .i64 x], .list w, .list lv] H = some (.int .i64 (2 ^ W.toNat - 1 - x), H) := by
  refine call_at (rs := [.tmp 8]) (N := 221) (fn := Tryz.f153) xk153 xf153 rfl rfl rfl (by simp only [seval, push_cast, List.map_cons, List.map_nil, V.norm, norm1]; rfl) ?_
  have t1 := fun bs H => pw (bs := bs) (H := H) W h0 h16
  have h2 := pow16 h16
  have h3 := pow_pos' W.toNat
  obtain ⟨x0, x1⟩ := hx
  have e1 := wrx (x := 2 ^ W.toNat - 1) (by omega)
  have e2 := wrx (x := 2 ^ W.toNat - 1 - x) (by omega)
  clear x0 x1 h2 h3
  repeat' first
   | (apply z50 (id := 10) (ord := [0, 1, 2, 3, 4, 5, 6, 7]) <;> first | kernel_rfl | skip)
   | (apply z50 (id := 12) (ord := [0, 1, 2, 3, 4, 5, 6, 7]) <;> first | kernel_rfl | skip)
   | (apply z50 (id := 14) (ord := [0, 1, 2, 3, 4, 5, 6, 7]) <;> first | kernel_rfl | skip)
   | (apply z50 (id := 16) (ord := [0, 1, 2, 3, 4, 5, 6, 7, 8, 9]) <;> first | kernel_rfl | skip)
   | (apply z50 (id := 18) (ord := [0, 1, 2, 3, 4, 5, 6, 7, 8, 9, 10, 11]) <;> first | kernel_rfl | skip)
   | (apply z50 (id := 20) (ord := [0, 1, 2, 3, 4, 5, 6, 7, 8, 9]) <;> first | kernel_rfl | skip)
   | (apply z50 (id := 22) (ord := [0, 1, 2, 3, 4, 5, 6, 7, 8]) <;> first | kernel_rfl | skip)
   | (apply z50 (id := 24) (ord := [0, 1, 2, 3, 4, 5, 6, 7, 8]) <;> first | kernel_rfl | skip)
   | (apply z51 (id := 26) (ord := [0, 1, 2, 3, 4, 5, 7, 8, 9, 10, 11, 12, 6, 13, 14, 15, 16]) (ps := [(8, 12), (11, 12)]) <;> first | kernel_rfl | skip)
   | (apply z51 (id := 32) (ord := [0, 1, 2, 3, 4, 5, 8, 9, 10, 6, 7, 11, 12]) (ps := [(2, 9), (8, 9)]) <;> first | kernel_rfl | skip)
   | (apply z51 (id := 34) (ord := [0, 1, 2, 3, 4, 7, 5, 6, 8, 9]) (ps := [(2, 6)]) <;> first | kernel_rfl | skip)
   | (apply z50 (id := 38) (ord := [0, 1, 2, 3, 4, 5, 7, 9, 6, 8, 10, 11]) <;> first | kernel_rfl | skip)
   | (apply z50 (id := 40) (ord := [0, 1, 2, 3, 4, 5]) <;> first | kernel_rfl | skip)
   | (apply z51 (id := 42) (ord := [0, 1, 2, 3, 4, 5, 8, 6, 7, 9, 10]) (ps := [(2, 7)]) <;> first | kernel_rfl | skip)
   | (apply z50 (id := 43) (ord := [0, 1, 2, 3, 4, 5]) <;> first | kernel_rfl | skip)
   | (apply z51 (id := 45) (ord := [0, 1, 2, 3, 4, 5, 6, 7, 8]) (ps := [(2, 6)]) <;> first | kernel_rfl | skip)
   | (refine zs ?_; repeat' first | apply zs0 | apply zs2 | (intro hc; try have hq := dq hc)) | fail

theorem ap_3 (bs : List Nat) (H : Heap) (W v x y : Int) (ar w lv : List V) (h0 : 0 ≤ W) (h16 : W ≤ 16) : callw X bs 153 [.agg [.int .i64 3, .int .i64 W, .list ar, .int .i64 v], .list [.int .i64 x, .int .i64 y], .list w, .list lv] H = some (.int .i64 (bitsI .and .i64 x y), H) := by
  refine call_at (rs := [.tmp 8]) (N := 221) (fn := Tryz.f153) xk153 xf153 rfl rfl rfl (by simp only [seval, push_cast, List.map_cons, List.map_nil, V.norm, norm1]; rfl) ?_
  have t1 := fun bs H => pw (bs := bs) (H := H) W h0 h16
  repeat' first
   | (apply z50 (id := 10) (ord := [0, 1, 2, 3, 4, 5, 6, 7]) <;> first | kernel_rfl | skip)
   | (apply z50 (id := 12) (ord := [0, 1, 2, 3, 4, 5, 6, 7]) <;> first | kernel_rfl | skip)
   | (apply z50 (id := 14) (ord := [0, 1, 2, 3, 4, 5, 6, 7]) <;> first | kernel_rfl | skip)
   | (apply z50 (id := 16) (ord := [0, 1, 2, 3, 4, 5, 6, 7, 8, 9]) <;> first | kernel_rfl | skip)
   | (apply z50 (id := 18) (ord := [0, 1, 2, 3, 4, 5, 6, 7, 8, 9, 10, 11]) <;> first | kernel_rfl | skip)
   | (apply z50 (id := 20) (ord := [0, 1, 2, 3, 4, 5, 6, 7, 8, 9]) <;> first | kernel_rfl | skip)
   | (apply z50 (id := 22) (ord := [0, 1, 2, 3, 4, 5, 6, 7, 8]) <;> first | kernel_rfl | skip)
   | (apply z50 (id := 24) (ord := [0, 1, 2, 3, 4, 5, 6, 7, 8]) <;> first | kernel_rfl | skip)
   | (apply z51 (id := 26) (ord := [0, 1, 2, 3, 4, 5, 7, 8, 9, 10, 11, 12, 6, 13, 14, 15, 16]) (ps := [(8, 12), (11, 12)]) <;> first | kernel_rfl | skip)
   | (apply z51 (id := 32) (ord := [0, 1, 2, 3, 4, 5, 8, 9, 10, 6, 7, 11, 12]) (ps := [(2, 9), (8, 9)]) <;> first | kernel_rfl | skip)
   | (apply z51 (id := 34) (ord := [0, 1, 2, 3, 4, 7, 5, 6, 8, 9]) (ps := [(2, 6)]) <;> first | kernel_rfl | skip)
   | (apply z50 (id := 38) (ord := [0, 1, 2, 3, 4, 5, 7, 9, 6, 8, 10, 11]) <;> first | kernel_rfl | skip)
   | (apply z50 (id := 40) (ord := [0, 1, 2, 3, 4, 5]) <;> first | kernel_rfl | skip)
   | (apply z51 (id := 42) (ord := [0, 1, 2, 3, 4, 5, 8, 6, 7, 9, 10]) (ps := [(2, 7)]) <;> first | kernel_rfl | skip)
   | (apply z50 (id := 43) (ord := [0, 1, 2, 3, 4, 5]) <;> first | kernel_rfl | skip)
   | (apply z51 (id := 45) (ord := [0, 1, 2, 3, 4, 5, 6, 7, 8]) (ps := [(2, 6)]) <;> first | kernel_rfl | skip)
   | (refine zs ?_; repeat' first | apply zs0 | apply zs2 | (intro hc; try have hq := dq hc)) | fail

theorem ap_4 (bs : List Nat) (H : Heap) (W v x y : Int) (ar w lv : List V) (h0 : 0 ≤ W) (h16 : W ≤ 16) : callw X bs 153 [.agg [.int .i64 4, .int .i64 W, .list ar, .int .i64 v], .list [.int .i64 x, .int .i64 y], .list w, .list lv] H = some (.int .i64 (bitsI .or .i64 x y), H) := by
  refine call_at (rs := [.tmp 8]) (N := 221) (fn := Tryz.f153) xk153 xf153 rfl rfl rfl (by simp only [seval, push_cast, List.map_cons, List.map_nil, V.norm, norm1]; rfl) ?_
  have t1 := fun bs H => pw (bs := bs) (H := H) W h0 h16
  repeat' first
   | (apply z50 (id := 10) (ord := [0, 1, 2, 3, 4, 5, 6, 7]) <;> first | kernel_rfl | skip)
   | (apply z50 (id := 12) (ord := [0, 1, 2, 3, 4, 5, 6, 7]) <;> first | kernel_rfl | skip)
   | (apply z50 (id := 14) (ord := [0, 1, 2, 3, 4, 5, 6, 7]) <;> first | kernel_rfl | skip)
   | (apply z50 (id := 16) (ord := [0, 1, 2, 3, 4, 5, 6, 7, 8, 9]) <;> first | kernel_rfl | skip)
   | (apply z50 (id := 18) (ord := [0, 1, 2, 3, 4, 5, 6, 7, 8, 9, 10, 11]) <;> first | kernel_rfl | skip)
   | (apply z50 (id := 20) (ord := [0, 1, 2, 3, 4, 5, 6, 7, 8, 9]) <;> first | kernel_rfl | skip)
   | (apply z50 (id := 22) (ord := [0, 1, 2, 3, 4, 5, 6, 7, 8]) <;> first | kernel_rfl | skip)
   | (apply z50 (id := 24) (ord := [0, 1, 2, 3, 4, 5, 6, 7, 8]) <;> first | kernel_rfl | skip)
   | (apply z51 (id := 26) (ord := [0, 1, 2, 3, 4, 5, 7, 8, 9, 10, 11, 12, 6, 13, 14, 15, 16]) (ps := [(8, 12), (11, 12)]) <;> first | kernel_rfl | skip)
   | (apply z51 (id := 32) (ord := [0, 1, 2, 3, 4, 5, 8, 9, 10, 6, 7, 11, 12]) (ps := [(2, 9), (8, 9)]) <;> first | kernel_rfl | skip)
   | (apply z51 (id := 34) (ord := [0, 1, 2, 3, 4, 7, 5, 6, 8, 9]) (ps := [(2, 6)]) <;> first | kernel_rfl | skip)
   | (apply z50 (id := 38) (ord := [0, 1, 2, 3, 4, 5, 7, 9, 6, 8, 10, 11]) <;> first | kernel_rfl | skip)
   | (apply z50 (id := 40) (ord := [0, 1, 2, 3, 4, 5]) <;> first | kernel_rfl | skip)
   | (apply z51 (id := 42) (ord := [0, 1, 2, 3, 4, 5, 8, 6, 7, 9, 10]) (ps := [(2, 7)]) <;> first | kernel_rfl | skip)
   | (apply z50 (id := 43) (ord := [0, 1, 2, 3, 4, 5]) <;> first | kernel_rfl | skip)
   | (apply z51 (id := 45) (ord := [0, 1, 2, 3, 4, 5, 6, 7, 8]) (ps := [(2, 6)]) <;> first | kernel_rfl | skip)
   | (refine zs ?_; repeat' first | apply zs0 | apply zs2 | (intro hc; try have hq := dq hc)) | fail

theorem ap_5 (bs : List Nat) (H : Heap) (W v x y : Int) (ar w lv : List V) (h0 : 0 ≤ W) (h16 : W ≤ 16) : callw X bs 153 [.agg [.int .i64 5, .int .i64 W, .list ar, .int .i64 v], .list [.int .i64 x, .int .i64 y], .list w, .list lv] H = some (.int .i64 (bitsI .xor .i64 x y), H) := by
  refine call_at (rs := [.tmp 8]) (N := 221) (fn := Tryz.f153) xk153 xf153 rfl rfl rfl (by simp only [seval, push_cast, List.map_cons, List.map_nil, V.norm, norm1]; rfl) ?_
  have t1 := fun bs H => pw (bs := bs) (H := H) W h0 h16
  repeat' first
   | (apply z50 (id := 10) (ord := [0, 1, 2, 3, 4, 5, 6, 7]) <;> first | kernel_rfl | skip)
   | (apply z50 (id := 12) (ord := [0, 1, 2, 3, 4, 5, 6, 7]) <;> first | kernel_rfl | skip)
   | (apply z50 (id := 14) (ord := [0, 1, 2, 3, 4, 5, 6, 7]) <;> first | kernel_rfl | skip)
   | (apply z50 (id := 16) (ord := [0, 1, 2, 3, 4, 5, 6, 7, 8, 9]) <;> first | kernel_rfl | skip)
   | (apply z50 (id := 18) (ord := [0, 1, 2, 3, 4, 5, 6, 7, 8, 9, 10, 11]) <;> first | kernel_rfl | skip)
   | (apply z50 (id := 20) (ord := [0, 1, 2, 3, 4, 5, 6, 7, 8, 9]) <;> first | kernel_rfl | skip)
   | (apply z50 (id := 22) (ord := [0, 1, 2, 3, 4, 5, 6, 7, 8]) <;> first | kernel_rfl | skip)
   | (apply z50 (id := 24) (ord := [0, 1, 2, 3, 4, 5, 6, 7, 8]) <;> first | kernel_rfl | skip)
   | (apply z51 (id := 26) (ord := [0, 1, 2, 3, 4, 5, 7, 8, 9, 10, 11, 12, 6, 13, 14, 15, 16]) (ps := [(8, 12), (11, 12)]) <;> first | kernel_rfl | skip)
   | (apply z51 (id := 32) (ord := [0, 1, 2, 3, 4, 5, 8, 9, 10, 6, 7, 11, 12]) (ps := [(2, 9), (8, 9)]) <;> first | kernel_rfl | skip)
   | (apply z51 (id := 34) (ord := [0, 1, 2, 3, 4, 7, 5, 6, 8, 9]) (ps := [(2, 6)]) <;> first | kernel_rfl | skip)
   | (apply z50 (id := 38) (ord := [0, 1, 2, 3, 4, 5, 7, 9, 6, 8, 10, 11]) <;> first | kernel_rfl | skip)
   | (apply z50 (id := 40) (ord := [0, 1, 2, 3, 4, 5]) <;> first | kernel_rfl | skip)
   | (apply z51 (id := 42) (ord := [0, 1, 2, 3, 4, 5, 8, 6, 7, 9, 10]) (ps := [(2, 7)]) <;> first | kernel_rfl | skip)
   | (apply z50 (id := 43) (ord := [0, 1, 2, 3, 4, 5]) <;> first | kernel_rfl | skip)
   | (apply z51 (id := 45) (ord := [0, 1, 2, 3, 4, 5, 6, 7, 8]) (ps := [(2, 6)]) <;> first | kernel_rfl | skip)
   | (refine zs ?_; repeat' first | apply zs0 | apply zs2 | (intro hc; try have hq := dq hc)) | fail

theorem ap_6 (bs : List Nat) (H : Heap) (W v x y : Int) (ar w lv : List V) (h0 : 0 ≤ W) (h16 : W ≤ 16) (hx : 0 ≤ x ∧ x < 65536) (hy : 0 ≤ y ∧ y < 65536) : callw X bs 153 [.agg [.int .i64 6, .int .i64 W, .list ar, .int .i64 v], .list [.int .i64 x, .int .i64 y], .list w, .list lv] H = some (.int .i64 ((x + y) % 2 ^ W.toNat), H) := by
  refine call_at (rs := [.tmp 8]) (N := 221) (fn := Tryz.f153) xk153 xf153 rfl rfl rfl (by simp only [seval, push_cast, List.map_cons, List.map_nil, V.norm, norm1]; rfl) ?_
  have t1 := fun bs H => pw (bs := bs) (H := H) W h0 h16
  have e1 := wrx (x := x + y) (by omega)
  have e2 := rem_ne (x := 0) (k := W.toNat)
  have e3 := tmod_pow (x := x + y) (k := W.toNat) (by omega)
  clear hx hy
  repeat' first
   | (apply z50 (id := 10) (ord := [0, 1, 2, 3, 4, 5, 6, 7]) <;> first | kernel_rfl | skip)
   | (apply z50 (id := 12) (ord := [0, 1, 2, 3, 4, 5, 6, 7]) <;> first | kernel_rfl | skip)
   | (apply z50 (id := 14) (ord := [0, 1, 2, 3, 4, 5, 6, 7]) <;> first | kernel_rfl | skip)
   | (apply z50 (id := 16) (ord := [0, 1, 2, 3, 4, 5, 6, 7, 8, 9]) <;> first | kernel_rfl | skip)
   | (apply z50 (id := 18) (ord := [0, 1, 2, 3, 4, 5, 6, 7, 8, 9, 10, 11]) <;> first | kernel_rfl | skip)
   | (apply z50 (id := 20) (ord := [0, 1, 2, 3, 4, 5, 6, 7, 8, 9]) <;> first | kernel_rfl | skip)
   | (apply z50 (id := 22) (ord := [0, 1, 2, 3, 4, 5, 6, 7, 8]) <;> first | kernel_rfl | skip)
   | (apply z50 (id := 24) (ord := [0, 1, 2, 3, 4, 5, 6, 7, 8]) <;> first | kernel_rfl | skip)
   | (apply z51 (id := 26) (ord := [0, 1, 2, 3, 4, 5, 7, 8, 9, 10, 11, 12, 6, 13, 14, 15, 16]) (ps := [(8, 12), (11, 12)]) <;> first | kernel_rfl | skip)
   | (apply z51 (id := 32) (ord := [0, 1, 2, 3, 4, 5, 8, 9, 10, 6, 7, 11, 12]) (ps := [(2, 9), (8, 9)]) <;> first | kernel_rfl | skip)
   | (apply z51 (id := 34) (ord := [0, 1, 2, 3, 4, 7, 5, 6, 8, 9]) (ps := [(2, 6)]) <;> first | kernel_rfl | skip)
   | (apply z50 (id := 38) (ord := [0, 1, 2, 3, 4, 5, 7, 9, 6, 8, 10, 11]) <;> first | kernel_rfl | skip)
   | (apply z50 (id := 40) (ord := [0, 1, 2, 3, 4, 5]) <;> first | kernel_rfl | skip)
   | (apply z51 (id := 42) (ord := [0, 1, 2, 3, 4, 5, 8, 6, 7, 9, 10]) (ps := [(2, 7)]) <;> first | kernel_rfl | skip)
   | (apply z50 (id := 43) (ord := [0, 1, 2, 3, 4, 5]) <;> first | kernel_rfl | skip)
   | (apply z51 (id := 45) (ord := [0, 1, 2, 3, 4, 5, 6, 7, 8]) (ps := [(2, 6)]) <;> first | kernel_rfl | skip)
   | (refine zs ?_; repeat' first | apply zs0 | apply zs2 | (intro hc; try have hq := dq hc)) | fail

theorem ap_7 (bs : List Nat) (H : Heap) (W v x y : Int) (ar w lv : List V) (h0 : 0 ≤ W) (h16 : W ≤ 16) (hx : InW x W) (hy : InW y W) : callw X bs 153 [.agg [.int .i64 7, .int .i64 W, .list ar, .int .i64 v], .list [.int .i64 x, .int .i64 y], .list w, .list lv] H = some (.int .i64 ((x - y) % 2 ^ W.toNat), H) := by
  refine call_at (rs := [.tmp 8]) (N := 221) (fn := Tryz.f153) xk153 xf153 rfl rfl rfl (by simp only [seval, push_cast, List.map_cons, List.map_nil, V.norm, norm1]; rfl) ?_
  have t1 := fun bs H => pw (bs := bs) (H := H) W h0 h16
  have h2 := pow16 h16
  obtain ⟨x0, x1⟩ := hx
  obtain ⟨y0, y1⟩ := hy
  have e1 := wrx (x := x - y) (by omega)
  have e4 := wrx (x := x - y + 2 ^ W.toNat) (by omega)
  have e2 := rem_ne (x := 0) (k := W.toNat)
  have e3 := tmod_pow (x := x - y + 2 ^ W.toNat) (k := W.toNat) (by omega)
  rw [Int.add_emod_right] at e3
  clear x0 x1 y0 y1 h2
  repeat' first
   | (apply z50 (id := 10) (ord := [0, 1, 2, 3, 4, 5, 6, 7]) <;> first | kernel_rfl | skip)
   | (apply z50 (id := 12) (ord := [0, 1, 2, 3, 4, 5, 6, 7]) <;> first | kernel_rfl | skip)
   | (apply z50 (id := 14) (ord := [0, 1, 2, 3, 4, 5, 6, 7]) <;> first | kernel_rfl | skip)
   | (apply z50 (id := 16) (ord := [0, 1, 2, 3, 4, 5, 6, 7, 8, 9]) <;> first | kernel_rfl | skip)
   | (apply z50 (id := 18) (ord := [0, 1, 2, 3, 4, 5, 6, 7, 8, 9, 10, 11]) <;> first | kernel_rfl | skip)
   | (apply z50 (id := 20) (ord := [0, 1, 2, 3, 4, 5, 6, 7, 8, 9]) <;> first | kernel_rfl | skip)
   | (apply z50 (id := 22) (ord := [0, 1, 2, 3, 4, 5, 6, 7, 8]) <;> first | kernel_rfl | skip)
   | (apply z50 (id := 24) (ord := [0, 1, 2, 3, 4, 5, 6, 7, 8]) <;> first | kernel_rfl | skip)
   | (apply z51 (id := 26) (ord := [0, 1, 2, 3, 4, 5, 7, 8, 9, 10, 11, 12, 6, 13, 14, 15, 16]) (ps := [(8, 12), (11, 12)]) <;> first | kernel_rfl | skip)
   | (apply z51 (id := 32) (ord := [0, 1, 2, 3, 4, 5, 8, 9, 10, 6, 7, 11, 12]) (ps := [(2, 9), (8, 9)]) <;> first | kernel_rfl | skip)
   | (apply z51 (id := 34) (ord := [0, 1, 2, 3, 4, 7, 5, 6, 8, 9]) (ps := [(2, 6)]) <;> first | kernel_rfl | skip)
   | (apply z50 (id := 38) (ord := [0, 1, 2, 3, 4, 5, 7, 9, 6, 8, 10, 11]) <;> first | kernel_rfl | skip)
   | (apply z50 (id := 40) (ord := [0, 1, 2, 3, 4, 5]) <;> first | kernel_rfl | skip)
   | (apply z51 (id := 42) (ord := [0, 1, 2, 3, 4, 5, 8, 6, 7, 9, 10]) (ps := [(2, 7)]) <;> first | kernel_rfl | skip)
   | (apply z50 (id := 43) (ord := [0, 1, 2, 3, 4, 5]) <;> first | kernel_rfl | skip)
   | (apply z51 (id := 45) (ord := [0, 1, 2, 3, 4, 5, 6, 7, 8]) (ps := [(2, 6)]) <;> first | kernel_rfl | skip)
   | (refine zs ?_; repeat' first | apply zs0 | apply zs2 | (intro hc; try have hq := dq hc)) | fail

theorem ap_8 (bs : List Nat) (H : Heap) (W v x y : Int) (ar w lv : List V) (h0 : 0 ≤ W) (h16 : W ≤ 16) (hx : 0 ≤ x ∧ x < 65536) (hy : 0 ≤ y ∧ y < 65536) : callw X bs 153 [.agg [.int .i64 8, .int .i64 W, .list ar, .int .i64 v], .list [.int .i64 x, .int .i64 y], .list w, .list lv] H = some (.int .i64 (x * y % 2 ^ W.toNat), H) := by
  refine call_at (rs := [.tmp 8]) (N := 221) (fn := Tryz.f153) xk153 xf153 rfl rfl rfl (by simp only [seval, push_cast, List.map_cons, List.map_nil, V.norm, norm1]; rfl) ?_
  have t1 := fun bs H => pw (bs := bs) (H := H) W h0 h16
  have h1 : x * y ≤ 65536 * 65536 := Int.le_trans (Int.mul_le_mul_of_nonneg_right (by omega) hy.1) (Int.mul_le_mul_of_nonneg_left (by omega) (by omega))
  have h2 := Int.mul_nonneg hx.1 hy.1
  have e1 := wrx (x := x * y) (by omega)
  have e2 := rem_ne (x := 0) (k := W.toNat)
  have e3 := tmod_pow (x := x * y) (k := W.toNat) h2
  clear hx hy h1 h2
  repeat' first
   | (apply z50 (id := 10) (ord := [0, 1, 2, 3, 4, 5, 6, 7]) <;> first | kernel_rfl | skip)
   | (apply z50 (id := 12) (ord := [0, 1, 2, 3, 4, 5, 6, 7]) <;> first | kernel_rfl | skip)
   | (apply z50 (id := 14) (ord := [0, 1, 2, 3, 4, 5, 6, 7]) <;> first | kernel_rfl | skip)
   | (apply z50 (id := 16) (ord := [0, 1, 2, 3, 4, 5, 6, 7, 8, 9]) <;> first | kernel_rfl | skip)
   | (apply z50 (id := 18) (ord := [0, 1, 2, 3, 4, 5, 6, 7, 8, 9, 10, 11]) <;> first | kernel_rfl | skip)
   | (apply z50 (id := 20) (ord := [0, 1, 2, 3, 4, 5, 6, 7, 8, 9]) <;> first | kernel_rfl | skip)
   | (apply z50 (id := 22) (ord := [0, 1, 2, 3, 4, 5, 6, 7, 8]) <;> first | kernel_rfl | skip)
   | (apply z50 (id := 24) (ord := [0, 1, 2, 3, 4, 5, 6, 7, 8]) <;> first | kernel_rfl | skip)
   | (apply z51 (id := 26) (ord := [0, 1, 2, 3, 4, 5, 7, 8, 9, 10, 11, 12, 6, 13, 14, 15, 16]) (ps := [(8, 12), (11, 12)]) <;> first | kernel_rfl | skip)
   | (apply z51 (id := 32) (ord := [0, 1, 2, 3, 4, 5, 8, 9, 10, 6, 7, 11, 12]) (ps := [(2, 9), (8, 9)]) <;> first | kernel_rfl | skip)
   | (apply z51 (id := 34) (ord := [0, 1, 2, 3, 4, 7, 5, 6, 8, 9]) (ps := [(2, 6)]) <;> first | kernel_rfl | skip)
   | (apply z50 (id := 38) (ord := [0, 1, 2, 3, 4, 5, 7, 9, 6, 8, 10, 11]) <;> first | kernel_rfl | skip)
   | (apply z50 (id := 40) (ord := [0, 1, 2, 3, 4, 5]) <;> first | kernel_rfl | skip)
   | (apply z51 (id := 42) (ord := [0, 1, 2, 3, 4, 5, 8, 6, 7, 9, 10]) (ps := [(2, 7)]) <;> first | kernel_rfl | skip)
   | (apply z50 (id := 43) (ord := [0, 1, 2, 3, 4, 5]) <;> first | kernel_rfl | skip)
   | (apply z51 (id := 45) (ord := [0, 1, 2, 3, 4, 5, 6, 7, 8]) (ps := [(2, 6)]) <;> first | kernel_rfl | skip)
   | (refine zs ?_; repeat' first | apply zs0 | apply zs2 | (intro hc; try have hq := dq hc)) | fail

theorem ap_9 (bs : List Nat) (H : Heap) (W v x y : Int) (ar w lv : List V) (h0 : 0 ≤ W) (h16 : W ≤ 16) : callw X bs 153 [.agg [.int .i64 9, .int .i64 W, .list ar, .int .i64 v], .list [.int .i64 x, .int .i64 y], .list w, .list lv] H = some (.int .i64 (if decide (x = y) = true then 1 else 0), H) := by
  refine call_at (rs := [.tmp 8]) (N := 221) (fn := Tryz.f153) xk153 xf153 rfl rfl rfl (by simp only [seval, push_cast, List.map_cons, List.map_nil, V.norm, norm1]; rfl) ?_
  have t1 := fun bs H => pw (bs := bs) (H := H) W h0 h16
  repeat' first
   | (apply z50 (id := 10) (ord := [0, 1, 2, 3, 4, 5, 6, 7]) <;> first | kernel_rfl | skip)
   | (apply z50 (id := 12) (ord := [0, 1, 2, 3, 4, 5, 6, 7]) <;> first | kernel_rfl | skip)
   | (apply z50 (id := 14) (ord := [0, 1, 2, 3, 4, 5, 6, 7]) <;> first | kernel_rfl | skip)
   | (apply z50 (id := 16) (ord := [0, 1, 2, 3, 4, 5, 6, 7, 8, 9]) <;> first | kernel_rfl | skip)
   | (apply z50 (id := 18) (ord := [0, 1, 2, 3, 4, 5, 6, 7, 8, 9, 10, 11]) <;> first | kernel_rfl | skip)
   | (apply z50 (id := 20) (ord := [0, 1, 2, 3, 4, 5, 6, 7, 8, 9]) <;> first | kernel_rfl | skip)
   | (apply z50 (id := 22) (ord := [0, 1, 2, 3, 4, 5, 6, 7, 8]) <;> first | kernel_rfl | skip)
   | (apply z50 (id := 24) (ord := [0, 1, 2, 3, 4, 5, 6, 7, 8]) <;> first | kernel_rfl | skip)
   | (apply z51 (id := 26) (ord := [0, 1, 2, 3, 4, 5, 7, 8, 9, 10, 11, 12, 6, 13, 14, 15, 16]) (ps := [(8, 12), (11, 12)]) <;> first | kernel_rfl | skip)
   | (apply z51 (id := 32) (ord := [0, 1, 2, 3, 4, 5, 8, 9, 10, 6, 7, 11, 12]) (ps := [(2, 9), (8, 9)]) <;> first | kernel_rfl | skip)
   | (apply z51 (id := 34) (ord := [0, 1, 2, 3, 4, 7, 5, 6, 8, 9]) (ps := [(2, 6)]) <;> first | kernel_rfl | skip)
   | (apply z50 (id := 38) (ord := [0, 1, 2, 3, 4, 5, 7, 9, 6, 8, 10, 11]) <;> first | kernel_rfl | skip)
   | (apply z50 (id := 40) (ord := [0, 1, 2, 3, 4, 5]) <;> first | kernel_rfl | skip)
   | (apply z51 (id := 42) (ord := [0, 1, 2, 3, 4, 5, 8, 6, 7, 9, 10]) (ps := [(2, 7)]) <;> first | kernel_rfl | skip)
   | (apply z50 (id := 43) (ord := [0, 1, 2, 3, 4, 5]) <;> first | kernel_rfl | skip)
   | (apply z51 (id := 45) (ord := [0, 1, 2, 3, 4, 5, 6, 7, 8]) (ps := [(2, 6)]) <;> first | kernel_rfl | skip)
   | (refine zs ?_; repeat' first | apply zs0 | apply zs2 | (intro hc; try have hq := dq hc)) | fail

theorem ap_10 (bs : List Nat) (H : Heap) (W v x y : Int) (ar w lv : List V) (h0 : 0 ≤ W) (h16 : W ≤ 16) : callw X bs 153 [.agg [.int .i64 10, .int .i64 W, .list ar, .int .i64 v], .list [.int .i64 x, .int .i64 y], .list w, .list lv] H = some (.int .i64 (if decide (x < y) = true then 1 else 0), H) := by
  refine call_at (rs := [.tmp 8]) (N := 221) (fn := Tryz.f153) xk153 xf153 rfl rfl rfl (by simp only [seval, push_cast, List.map_cons, List.map_nil, V.norm, norm1]; rfl) ?_
  have t1 := fun bs H => pw (bs := bs) (H := H) W h0 h16
  repeat' first
   | (apply z50 (id := 10) (ord := [0, 1, 2, 3, 4, 5, 6, 7]) <;> first | kernel_rfl | skip)
   | (apply z50 (id := 12) (ord := [0, 1, 2, 3, 4, 5, 6, 7]) <;> first | kernel_rfl | skip)
   | (apply z50 (id := 14) (ord := [0, 1, 2, 3, 4, 5, 6, 7]) <;> first | kernel_rfl | skip)
   | (apply z50 (id := 16) (ord := [0, 1, 2, 3, 4, 5, 6, 7, 8, 9]) <;> first | kernel_rfl | skip)
   | (apply z50 (id := 18) (ord := [0, 1, 2, 3, 4, 5, 6, 7, 8, 9, 10, 11]) <;> first | kernel_rfl | skip)
   | (apply z50 (id := 20) (ord := [0, 1, 2, 3, 4, 5, 6, 7, 8, 9]) <;> first | kernel_rfl | skip)
   | (apply z50 (id := 22) (ord := [0, 1, 2, 3, 4, 5, 6, 7, 8]) <;> first | kernel_rfl | skip)
   | (apply z50 (id := 24) (ord := [0, 1, 2, 3, 4, 5, 6, 7, 8]) <;> first | kernel_rfl | skip)
   | (apply z51 (id := 26) (ord := [0, 1, 2, 3, 4, 5, 7, 8, 9, 10, 11, 12, 6, 13, 14, 15, 16]) (ps := [(8, 12), (11, 12)]) <;> first | kernel_rfl | skip)
   | (apply z51 (id := 32) (ord := [0, 1, 2, 3, 4, 5, 8, 9, 10, 6, 7, 11, 12]) (ps := [(2, 9), (8, 9)]) <;> first | kernel_rfl | skip)
   | (apply z51 (id := 34) (ord := [0, 1, 2, 3, 4, 7, 5, 6, 8, 9]) (ps := [(2, 6)]) <;> first | kernel_rfl | skip)
   | (apply z50 (id := 38) (ord := [0, 1, 2, 3, 4, 5, 7, 9, 6, 8, 10, 11]) <;> first | kernel_rfl | skip)
   | (apply z50 (id := 40) (ord := [0, 1, 2, 3, 4, 5]) <;> first | kernel_rfl | skip)
   | (apply z51 (id := 42) (ord := [0, 1, 2, 3, 4, 5, 8, 6, 7, 9, 10]) (ps := [(2, 7)]) <;> first | kernel_rfl | skip)
   | (apply z50 (id := 43) (ord := [0, 1, 2, 3, 4, 5]) <;> first | kernel_rfl | skip)
   | (apply z51 (id := 45) (ord := [0, 1, 2, 3, 4, 5, 6, 7, 8]) (ps := [(2, 6)]) <;> first | kernel_rfl | skip)
   | (refine zs ?_; repeat' first | apply zs0 | apply zs2 | (intro hc; try have hq := dq hc)) | fail

theorem ap_11 (bs : List Nat) (H : Heap) (W v x y p : Int) (ar lv : List V) (h0 : 0 ≤ W) (h16 : W ≤ 16) (hx : InW x p) (hy : InW y p) (hp : 1 ≤ p) (hp16 : p ≤ 16) : callw X bs 153 [.agg [.int .i64 11, .int .i64 W, .list ar, .int .i64 v], .list [.int .i64 x, .int .i64 y], .list [.int .i64 p, .int .i64 p], .list lv] H = some (.int .i64 (if decide (sgn x p < sgn y p) = true then 1 else 0), H) := by
  refine call_at (rs := [.tmp 8]) (N := 221) (fn := Tryz.f153) xk153 xf153 rfl rfl rfl (by simp only [seval, push_cast, List.map_cons, List.map_nil, V.norm, norm1]; rfl) ?_
  have t1 := fun bs H => pw (bs := bs) (H := H) W h0 h16
  have t2 := fun bs H => bs_signed bs H x p hx hp hp16
  have t3 := fun bs H => bs_signed bs H y p hy hp hp16
  clear hx hy hp hp16
  repeat' first
   | (apply z50 (id := 10) (ord := [0, 1, 2, 3, 4, 5, 6, 7]) <;> first | kernel_rfl | skip)
   | (apply z50 (id := 12) (ord := [0, 1, 2, 3, 4, 5, 6, 7]) <;> first | kernel_rfl | skip)
   | (apply z50 (id := 14) (ord := [0, 1, 2, 3, 4, 5, 6, 7]) <;> first | kernel_rfl | skip)
   | (apply z50 (id := 16) (ord := [0, 1, 2, 3, 4, 5, 6, 7, 8, 9]) <;> first | kernel_rfl | skip)
   | (apply z50 (id := 18) (ord := [0, 1, 2, 3, 4, 5, 6, 7, 8, 9, 10, 11]) <;> first | kernel_rfl | skip)
   | (apply z50 (id := 20) (ord := [0, 1, 2, 3, 4, 5, 6, 7, 8, 9]) <;> first | kernel_rfl | skip)
   | (apply z50 (id := 22) (ord := [0, 1, 2, 3, 4, 5, 6, 7, 8]) <;> first | kernel_rfl | skip)
   | (apply z50 (id := 24) (ord := [0, 1, 2, 3, 4, 5, 6, 7, 8]) <;> first | kernel_rfl | skip)
   | (apply z51 (id := 26) (ord := [0, 1, 2, 3, 4, 5, 7, 8, 9, 10, 11, 12, 6, 13, 14, 15, 16]) (ps := [(8, 12), (11, 12)]) <;> first | kernel_rfl | skip)
   | (apply z51 (id := 32) (ord := [0, 1, 2, 3, 4, 5, 8, 9, 10, 6, 7, 11, 12]) (ps := [(2, 9), (8, 9)]) <;> first | kernel_rfl | skip)
   | (apply z51 (id := 34) (ord := [0, 1, 2, 3, 4, 7, 5, 6, 8, 9]) (ps := [(2, 6)]) <;> first | kernel_rfl | skip)
   | (apply z50 (id := 38) (ord := [0, 1, 2, 3, 4, 5, 7, 9, 6, 8, 10, 11]) <;> first | kernel_rfl | skip)
   | (apply z50 (id := 40) (ord := [0, 1, 2, 3, 4, 5]) <;> first | kernel_rfl | skip)
   | (apply z51 (id := 42) (ord := [0, 1, 2, 3, 4, 5, 8, 6, 7, 9, 10]) (ps := [(2, 7)]) <;> first | kernel_rfl | skip)
   | (apply z50 (id := 43) (ord := [0, 1, 2, 3, 4, 5]) <;> first | kernel_rfl | skip)
   | (apply z51 (id := 45) (ord := [0, 1, 2, 3, 4, 5, 6, 7, 8]) (ps := [(2, 6)]) <;> first | kernel_rfl | skip)
   | (refine zs ?_; repeat' first | apply zs0 | apply zs2 | (intro hc; try have hq := dq hc)) | fail

theorem ap_12 (bs : List Nat) (H : Heap) (W v x y z : Int) (ar w lv : List V) (h0 : 0 ≤ W) (h16 : W ≤ 16) : callw X bs 153 [.agg [.int .i64 12, .int .i64 W, .list ar, .int .i64 v], .list [.int .i64 x, .int .i64 y, .int .i64 z], .list w, .list lv] H = some (.int .i64 (if x = 1 then y else z), H) := by
  refine call_at (rs := [.tmp 8]) (N := 221) (fn := Tryz.f153) xk153 xf153 rfl rfl rfl (by simp only [seval, push_cast, List.map_cons, List.map_nil, V.norm, norm1]; rfl) ?_
  have t1 := fun bs H => pw (bs := bs) (H := H) W h0 h16
  by_cases h : x = 1
  · have d : decide (x = 1) = true := decide_eq_true h
    rw [if_pos h]
    clear h
    repeat' first
     | (apply z50 (id := 10) (ord := [0, 1, 2, 3, 4, 5, 6, 7]) <;> first | kernel_rfl | skip)
     | (apply z50 (id := 12) (ord := [0, 1, 2, 3, 4, 5, 6, 7]) <;> first | kernel_rfl | skip)
     | (apply z50 (id := 14) (ord := [0, 1, 2, 3, 4, 5, 6, 7]) <;> first | kernel_rfl | skip)
     | (apply z50 (id := 16) (ord := [0, 1, 2, 3, 4, 5, 6, 7, 8, 9]) <;> first | kernel_rfl | skip)
     | (apply z50 (id := 18) (ord := [0, 1, 2, 3, 4, 5, 6, 7, 8, 9, 10, 11]) <;> first | kernel_rfl | skip)
     | (apply z50 (id := 20) (ord := [0, 1, 2, 3, 4, 5, 6, 7, 8, 9]) <;> first | kernel_rfl | skip)
     | (apply z50 (id := 22) (ord := [0, 1, 2, 3, 4, 5, 6, 7, 8]) <;> first | kernel_rfl | skip)
     | (apply z50 (id := 24) (ord := [0, 1, 2, 3, 4, 5, 6, 7, 8]) <;> first | kernel_rfl | skip)
     | (apply z51 (id := 26) (ord := [0, 1, 2, 3, 4, 5, 7, 8, 9, 10, 11, 12, 6, 13, 14, 15, 16]) (ps := [(8, 12), (11, 12)]) <;> first | kernel_rfl | skip)
     | (apply z51 (id := 32) (ord := [0, 1, 2, 3, 4, 5, 8, 9, 10, 6, 7, 11, 12]) (ps := [(2, 9), (8, 9)]) <;> first | kernel_rfl | skip)
     | (apply z51 (id := 34) (ord := [0, 1, 2, 3, 4, 7, 5, 6, 8, 9]) (ps := [(2, 6)]) <;> first | kernel_rfl | skip)
     | (apply z50 (id := 38) (ord := [0, 1, 2, 3, 4, 5, 7, 9, 6, 8, 10, 11]) <;> first | kernel_rfl | skip)
     | (apply z50 (id := 40) (ord := [0, 1, 2, 3, 4, 5]) <;> first | kernel_rfl | skip)
     | (apply z51 (id := 42) (ord := [0, 1, 2, 3, 4, 5, 8, 6, 7, 9, 10]) (ps := [(2, 7)]) <;> first | kernel_rfl | skip)
     | (apply z50 (id := 43) (ord := [0, 1, 2, 3, 4, 5]) <;> first | kernel_rfl | skip)
     | (apply z51 (id := 45) (ord := [0, 1, 2, 3, 4, 5, 6, 7, 8]) (ps := [(2, 6)]) <;> first | kernel_rfl | skip)
     | (refine zs ?_; repeat' first | apply zs0 | apply zs2 | (intro hc; try have hq := dq hc)) | fail
  · have d : decide (x = 1) = false := decide_eq_false h
    rw [if_neg h]
    clear h
    repeat' first
     | (apply z50 (id := 10) (ord := [0, 1, 2, 3, 4, 5, 6, 7]) <;> first | kernel_rfl | skip)
     | (apply z50 (id := 12) (ord := [0, 1, 2, 3, 4, 5, 6, 7]) <;> first | kernel_rfl | skip)
     | (apply z50 (id := 14) (ord := [0, 1, 2, 3, 4, 5, 6, 7]) <;> first | kernel_rfl | skip)
     | (apply z50 (id := 16) (ord := [0, 1, 2, 3, 4, 5, 6, 7, 8, 9]) <;> first | kernel_rfl | skip)
     | (apply z50 (id := 18) (ord := [0, 1, 2, 3, 4, 5, 6, 7, 8, 9, 10, 11]) <;> first | kernel_rfl | skip)
     | (apply z50 (id := 20) (ord := [0, 1, 2, 3, 4, 5, 6, 7, 8, 9]) <;> first | kernel_rfl | skip)
     | (apply z50 (id := 22) (ord := [0, 1, 2, 3, 4, 5, 6, 7, 8]) <;> first | kernel_rfl | skip)
     | (apply z50 (id := 24) (ord := [0, 1, 2, 3, 4, 5, 6, 7, 8]) <;> first | kernel_rfl | skip)
     | (apply z51 (id := 26) (ord := [0, 1, 2, 3, 4, 5, 7, 8, 9, 10, 11, 12, 6, 13, 14, 15, 16]) (ps := [(8, 12), (11, 12)]) <;> first | kernel_rfl | skip)
     | (apply z51 (id := 32) (ord := [0, 1, 2, 3, 4, 5, 8, 9, 10, 6, 7, 11, 12]) (ps := [(2, 9), (8, 9)]) <;> first | kernel_rfl | skip)
     | (apply z51 (id := 34) (ord := [0, 1, 2, 3, 4, 7, 5, 6, 8, 9]) (ps := [(2, 6)]) <;> first | kernel_rfl | skip)
     | (apply z50 (id := 38) (ord := [0, 1, 2, 3, 4, 5, 7, 9, 6, 8, 10, 11]) <;> first | kernel_rfl | skip)
     | (apply z50 (id := 40) (ord := [0, 1, 2, 3, 4, 5]) <;> first | kernel_rfl | skip)
     | (apply z51 (id := 42) (ord := [0, 1, 2, 3, 4, 5, 8, 6, 7, 9, 10]) (ps := [(2, 7)]) <;> first | kernel_rfl | skip)
     | (apply z50 (id := 43) (ord := [0, 1, 2, 3, 4, 5]) <;> first | kernel_rfl | skip)
     | (apply z51 (id := 45) (ord := [0, 1, 2, 3, 4, 5, 6, 7, 8]) (ps := [(2, 6)]) <;> first | kernel_rfl | skip)
     | (refine zs ?_; repeat' first | apply zs0 | apply zs2 | (intro hc; try have hq := dq hc)) | fail

theorem ap_13 (bs : List Nat) (H : Heap) (W v x y p q : Int) (ar lv : List V) (h0 : 0 ≤ W) (h16 : W ≤ 16) (hx : 0 ≤ x ∧ x < 65536) (hy : InW y q) (hq : 0 ≤ q) (hq16 : q ≤ 16) : callw X bs 153 [.agg [.int .i64 13, .int .i64 W, .list ar, .int .i64 v], .list [.int .i64 x, .int .i64 y], .list [.int .i64 p, .int .i64 q], .list lv] H = some (.int .i64 (x * 2 ^ q.toNat + y), H) := by
  refine call_at (rs := [.tmp 8]) (N := 221) (fn := Tryz.f153) xk153 xf153 rfl rfl rfl (by simp only [seval, push_cast, List.map_cons, List.map_nil, V.norm, norm1]; rfl) ?_
  have t1 := fun bs H => pw (bs := bs) (H := H) W h0 h16
  have t2 := fun bs H => pw (bs := bs) (H := H) q hq hq16
  have h2 := pow16 hq16
  have h3 := pow_pos' q.toNat
  obtain ⟨y0, y1⟩ := hy
  have h1 : x * 2 ^ q.toNat ≤ 65536 * 65536 := Int.le_trans (Int.mul_le_mul_of_nonneg_right (by omega) (by omega)) (Int.mul_le_mul_of_nonneg_left h2 (by omega))
  have h4 := Int.mul_nonneg hx.1 (Int.le_of_lt h3)
  have e1 := wrx (x := x * 2 ^ q.toNat) (by omega)
  have e2 := wrx (x := x * 2 ^ q.toNat + y) (by omega)
  clear hx y0 y1 h1 h2 h3 h4 hq hq16
  repeat' first
   | (apply z50 (id := 10) (ord := [0, 1, 2, 3, 4, 5, 6, 7]) <;> first | kernel_rfl | skip)
   | (apply z50 (id := 12) (ord := [0, 1, 2, 3, 4, 5, 6, 7]) <;> first | kernel_rfl | skip)
   | (apply z50 (id := 14) (ord := [0, 1, 2, 3, 4, 5, 6, 7]) <;> first | kernel_rfl | skip)
   | (apply z50 (id := 16) (ord := [0, 1, 2, 3, 4, 5, 6, 7, 8, 9]) <;> first | kernel_rfl | skip)
   | (apply z50 (id := 18) (ord := [0, 1, 2, 3, 4, 5, 6, 7, 8, 9, 10, 11]) <;> first | kernel_rfl | skip)
   | (apply z50 (id := 20) (ord := [0, 1, 2, 3, 4, 5, 6, 7, 8, 9]) <;> first | kernel_rfl | skip)
   | (apply z50 (id := 22) (ord := [0, 1, 2, 3, 4, 5, 6, 7, 8]) <;> first | kernel_rfl | skip)
   | (apply z50 (id := 24) (ord := [0, 1, 2, 3, 4, 5, 6, 7, 8]) <;> first | kernel_rfl | skip)
   | (apply z51 (id := 26) (ord := [0, 1, 2, 3, 4, 5, 7, 8, 9, 10, 11, 12, 6, 13, 14, 15, 16]) (ps := [(8, 12), (11, 12)]) <;> first | kernel_rfl | skip)
   | (apply z51 (id := 32) (ord := [0, 1, 2, 3, 4, 5, 8, 9, 10, 6, 7, 11, 12]) (ps := [(2, 9), (8, 9)]) <;> first | kernel_rfl | skip)
   | (apply z51 (id := 34) (ord := [0, 1, 2, 3, 4, 7, 5, 6, 8, 9]) (ps := [(2, 6)]) <;> first | kernel_rfl | skip)
   | (apply z50 (id := 38) (ord := [0, 1, 2, 3, 4, 5, 7, 9, 6, 8, 10, 11]) <;> first | kernel_rfl | skip)
   | (apply z50 (id := 40) (ord := [0, 1, 2, 3, 4, 5]) <;> first | kernel_rfl | skip)
   | (apply z51 (id := 42) (ord := [0, 1, 2, 3, 4, 5, 8, 6, 7, 9, 10]) (ps := [(2, 7)]) <;> first | kernel_rfl | skip)
   | (apply z50 (id := 43) (ord := [0, 1, 2, 3, 4, 5]) <;> first | kernel_rfl | skip)
   | (apply z51 (id := 45) (ord := [0, 1, 2, 3, 4, 5, 6, 7, 8]) (ps := [(2, 6)]) <;> first | kernel_rfl | skip)
   | (refine zs ?_; repeat' first | apply zs0 | apply zs2 | (intro hc; try have hq := dq hc)) | fail

theorem ap_14 (bs : List Nat) (H : Heap) (W v x : Int) (ar w lv : List V) (h0 : 0 ≤ W) (h16 : W ≤ 16) (hx : 0 ≤ x ∧ x < 65536) (hv : 0 ≤ v) (hv16 : v ≤ 16) : callw X bs 153 [.agg [.int .i64 14, .int .i64 W, .list ar, .int .i64 v], .list [.int .i64 x], .list w, .list lv] H = some (.int .i64 (x / 2 ^ v.toNat % 2 ^ W.toNat), H) := by
  refine call_at (rs := [.tmp 8]) (N := 221) (fn := Tryz.f153) xk153 xf153 rfl rfl rfl (by simp only [seval, push_cast, List.map_cons, List.map_nil, V.norm, norm1]; rfl) ?_
  have t1 := fun bs H => pw (bs := bs) (H := H) W h0 h16
  have t2 := fun bs H => pw (bs := bs) (H := H) v hv hv16
  have e1 := tdiv_pow (x := x) (k := v.toNat) hx.1
  have e2 := rem_ne (x := 0) (k := W.toNat)
  have e4 := rem_ne (x := 0) (k := v.toNat)
  have e3 := tmod_pow (x := x / 2 ^ v.toNat) (k := W.toNat) (Int.ediv_nonneg hx.1 (by have := pow_pos' v.toNat; omega))
  have e5 : IntKind.i64.wrap (x / 2 ^ v.toNat) = x / 2 ^ v.toNat := wrx (by have := Int.ediv_le_self (2 ^ v.toNat) hx.1; have := Int.ediv_nonneg hx.1 (Int.le_of_lt (pow_pos' v.toNat)); omega)
  clear hx hv hv16
  repeat' first
   | (apply z50 (id := 10) (ord := [0, 1, 2, 3, 4, 5, 6, 7]) <;> first | kernel_rfl | skip)
   | (apply z50 (id := 12) (ord := [0, 1, 2, 3, 4, 5, 6, 7]) <;> first | kernel_rfl | skip)
   | (apply z50 (id := 14) (ord := [0, 1, 2, 3, 4, 5, 6, 7]) <;> first | kernel_rfl | skip)
   | (apply z50 (id := 16) (ord := [0, 1, 2, 3, 4, 5, 6, 7, 8, 9]) <;> first | kernel_rfl | skip)
   | (apply z50 (id := 18) (ord := [0, 1, 2, 3, 4, 5, 6, 7, 8, 9, 10, 11]) <;> first | kernel_rfl | skip)
   | (apply z50 (id := 20) (ord := [0, 1, 2, 3, 4, 5, 6, 7, 8, 9]) <;> first | kernel_rfl | skip)
   | (apply z50 (id := 22) (ord := [0, 1, 2, 3, 4, 5, 6, 7, 8]) <;> first | kernel_rfl | skip)
   | (apply z50 (id := 24) (ord := [0, 1, 2, 3, 4, 5, 6, 7, 8]) <;> first | kernel_rfl | skip)
   | (apply z51 (id := 26) (ord := [0, 1, 2, 3, 4, 5, 7, 8, 9, 10, 11, 12, 6, 13, 14, 15, 16]) (ps := [(8, 12), (11, 12)]) <;> first | kernel_rfl | skip)
   | (apply z51 (id := 32) (ord := [0, 1, 2, 3, 4, 5, 8, 9, 10, 6, 7, 11, 12]) (ps := [(2, 9), (8, 9)]) <;> first | kernel_rfl | skip)
   | (apply z51 (id := 34) (ord := [0, 1, 2, 3, 4, 7, 5, 6, 8, 9]) (ps := [(2, 6)]) <;> first | kernel_rfl | skip)
   | (apply z50 (id := 38) (ord := [0, 1, 2, 3, 4, 5, 7, 9, 6, 8, 10, 11]) <;> first | kernel_rfl | skip)
   | (apply z50 (id := 40) (ord := [0, 1, 2, 3, 4, 5]) <;> first | kernel_rfl | skip)
   | (apply z51 (id := 42) (ord := [0, 1, 2, 3, 4, 5, 8, 6, 7, 9, 10]) (ps := [(2, 7)]) <;> first | kernel_rfl | skip)
   | (apply z50 (id := 43) (ord := [0, 1, 2, 3, 4, 5]) <;> first | kernel_rfl | skip)
   | (apply z51 (id := 45) (ord := [0, 1, 2, 3, 4, 5, 6, 7, 8]) (ps := [(2, 6)]) <;> first | kernel_rfl | skip)
   | (refine zs ?_; repeat' first | apply zs0 | apply zs2 | (intro hc; try have hq := dq hc)) | fail

theorem ap_15 (bs : List Nat) (H : Heap) (W v x : Int) (ar w lv : List V) (h0 : 0 ≤ W) (h16 : W ≤ 16) : callw X bs 153 [.agg [.int .i64 15, .int .i64 W, .list ar, .int .i64 v], .list [.int .i64 x], .list w, .list lv] H = some (.int .i64 x, H) := by
  refine call_at (rs := [.tmp 8]) (N := 221) (fn := Tryz.f153) xk153 xf153 rfl rfl rfl (by simp only [seval, push_cast, List.map_cons, List.map_nil, V.norm, norm1]; rfl) ?_
  have t1 := fun bs H => pw (bs := bs) (H := H) W h0 h16
  repeat' first
   | (apply z50 (id := 10) (ord := [0, 1, 2, 3, 4, 5, 6, 7]) <;> first | kernel_rfl | skip)
   | (apply z50 (id := 12) (ord := [0, 1, 2, 3, 4, 5, 6, 7]) <;> first | kernel_rfl | skip)
   | (apply z50 (id := 14) (ord := [0, 1, 2, 3, 4, 5, 6, 7]) <;> first | kernel_rfl | skip)
   | (apply z50 (id := 16) (ord := [0, 1, 2, 3, 4, 5, 6, 7, 8, 9]) <;> first | kernel_rfl | skip)
   | (apply z50 (id := 18) (ord := [0, 1, 2, 3, 4, 5, 6, 7, 8, 9, 10, 11]) <;> first | kernel_rfl | skip)
   | (apply z50 (id := 20) (ord := [0, 1, 2, 3, 4, 5, 6, 7, 8, 9]) <;> first | kernel_rfl | skip)
   | (apply z50 (id := 22) (ord := [0, 1, 2, 3, 4, 5, 6, 7, 8]) <;> first | kernel_rfl | skip)
   | (apply z50 (id := 24) (ord := [0, 1, 2, 3, 4, 5, 6, 7, 8]) <;> first | kernel_rfl | skip)
   | (apply z51 (id := 26) (ord := [0, 1, 2, 3, 4, 5, 7, 8, 9, 10, 11, 12, 6, 13, 14, 15, 16]) (ps := [(8, 12), (11, 12)]) <;> first | kernel_rfl | skip)
   | (apply z51 (id := 32) (ord := [0, 1, 2, 3, 4, 5, 8, 9, 10, 6, 7, 11, 12]) (ps := [(2, 9), (8, 9)]) <;> first | kernel_rfl | skip)
   | (apply z51 (id := 34) (ord := [0, 1, 2, 3, 4, 7, 5, 6, 8, 9]) (ps := [(2, 6)]) <;> first | kernel_rfl | skip)
   | (apply z50 (id := 38) (ord := [0, 1, 2, 3, 4, 5, 7, 9, 6, 8, 10, 11]) <;> first | kernel_rfl | skip)
   | (apply z50 (id := 40) (ord := [0, 1, 2, 3, 4, 5]) <;> first | kernel_rfl | skip)
   | (apply z51 (id := 42) (ord := [0, 1, 2, 3, 4, 5, 8, 6, 7, 9, 10]) (ps := [(2, 7)]) <;> first | kernel_rfl | skip)
   | (apply z50 (id := 43) (ord := [0, 1, 2, 3, 4, 5]) <;> first | kernel_rfl | skip)
   | (apply z51 (id := 45) (ord := [0, 1, 2, 3, 4, 5, 6, 7, 8]) (ps := [(2, 6)]) <;> first | kernel_rfl | skip)
   | (refine zs ?_; repeat' first | apply zs0 | apply zs2 | (intro hc; try have hq := dq hc)) | fail

theorem ap_16 (bs : List Nat) (H : Heap) (W v x p : Int) (ar w lv : List V) (h0 : 0 ≤ W) (h16 : W ≤ 16) (hx : InW x p) (hp : 1 ≤ p) (hpW : p ≤ W) : callw X bs 153 [.agg [.int .i64 16, .int .i64 W, .list ar, .int .i64 v], .list [.int .i64 x], .list (.int .i64 p :: w), .list lv] H = some (.int .i64 (sgn x p % 2 ^ W.toNat), H) := by
  refine call_at (rs := [.tmp 8]) (N := 221) (fn := Tryz.f153) xk153 xf153 rfl rfl rfl (by simp only [seval, push_cast, List.map_cons, List.map_nil, V.norm, norm1]; rfl) ?_
  have t1 := fun bs H => pw (bs := bs) (H := H) W h0 h16
  have t2 := fun bs H => bs_signed bs H x p hx hp (by omega)
  have h1 := sgn_rng hx hp
  have h2 := pow16 h16
  have h3 := pow_two_succ hp
  have h4 := pow_mono hpW
  have h5 := pow_pos' (p.toNat - 1)
  have e1 := wrx (x := sgn x p + 2 ^ W.toNat) (by omega)
  have e2 := rem_ne (x := 0) (k := W.toNat)
  have e3 := tmod_pow (x := sgn x p + 2 ^ W.toNat) (k := W.toNat) (by omega)
  rw [Int.add_emod_right] at e3
  clear h1 h2 h3 h4 h5 hx hp hpW
  repeat' first
   | (apply z50 (id := 10) (ord := [0, 1, 2, 3, 4, 5, 6, 7]) <;> first | kernel_rfl | skip)
   | (apply z50 (id := 12) (ord := [0, 1, 2, 3, 4, 5, 6, 7]) <;> first | kernel_rfl | skip)
   | (apply z50 (id := 14) (ord := [0, 1, 2, 3, 4, 5, 6, 7]) <;> first | kernel_rfl | skip)
   | (apply z50 (id := 16) (ord := [0, 1, 2, 3, 4, 5, 6, 7, 8, 9]) <;> first | kernel_rfl | skip)
   | (apply z50 (id := 18) (ord := [0, 1, 2, 3, 4, 5, 6, 7, 8, 9, 10, 11]) <;> first | kernel_rfl | skip)
   | (apply z50 (id := 20) (ord := [0, 1, 2, 3, 4, 5, 6, 7, 8, 9]) <;> first | kernel_rfl | skip)
   | (apply z50 (id := 22) (ord := [0, 1, 2, 3, 4, 5, 6, 7, 8]) <;> first | kernel_rfl | skip)
   | (apply z50 (id := 24) (ord := [0, 1, 2, 3, 4, 5, 6, 7, 8]) <;> first | kernel_rfl | skip)
   | (apply z51 (id := 26) (ord := [0, 1, 2, 3, 4, 5, 7, 8, 9, 10, 11, 12, 6, 13, 14, 15, 16]) (ps := [(8, 12), (11, 12)]) <;> first | kernel_rfl | skip)
   | (apply z51 (id := 32) (ord := [0, 1, 2, 3, 4, 5, 8, 9, 10, 6, 7, 11, 12]) (ps := [(2, 9), (8, 9)]) <;> first | kernel_rfl | skip)
   | (apply z51 (id := 34) (ord := [0, 1, 2, 3, 4, 7, 5, 6, 8, 9]) (ps := [(2, 6)]) <;> first | kernel_rfl | skip)
   | (apply z50 (id := 38) (ord := [0, 1, 2, 3, 4, 5, 7, 9, 6, 8, 10, 11]) <;> first | kernel_rfl | skip)
   | (apply z50 (id := 40) (ord := [0, 1, 2, 3, 4, 5]) <;> first | kernel_rfl | skip)
   | (apply z51 (id := 42) (ord := [0, 1, 2, 3, 4, 5, 8, 6, 7, 9, 10]) (ps := [(2, 7)]) <;> first | kernel_rfl | skip)
   | (apply z50 (id := 43) (ord := [0, 1, 2, 3, 4, 5]) <;> first | kernel_rfl | skip)
   | (apply z51 (id := 45) (ord := [0, 1, 2, 3, 4, 5, 6, 7, 8]) (ps := [(2, 6)]) <;> first | kernel_rfl | skip)
   | (refine zs ?_; repeat' first | apply zs0 | apply zs2 | (intro hc; try have hq := dq hc)) | fail

theorem ap_17 (bs : List Nat) (H : Heap) (W v x y : Int) (ar w lv : List V) (h0 : 0 ≤ W) (h16 : W ≤ 16) (hx : 0 ≤ x ∧ x < 65536) (hy : 0 ≤ y) : callw X bs 153 [.agg [.int .i64 17, .int .i64 W, .list ar, .int .i64 v], .list [.int .i64 x, .int .i64 y], .list w, .list lv] H = some (.int .i64 (if W ≤ y then 0 else x * 2 ^ y.toNat % 2 ^ W.toNat), H) := by
  refine call_at (rs := [.tmp 8]) (N := 221) (fn := Tryz.f153) xk153 xf153 rfl rfl rfl (by simp only [seval, push_cast, List.map_cons, List.map_nil, V.norm, norm1]; rfl) ?_
  have t1 := fun bs H => pw (bs := bs) (H := H) W h0 h16
  by_cases h : W ≤ y
  · have d : decide (y ≥ W) = true := decide_eq_true h
    rw [if_pos h]
    clear h hx hy
    repeat' first
     | (apply z50 (id := 10) (ord := [0, 1, 2, 3, 4, 5, 6, 7]) <;> first | kernel_rfl | skip)
     | (apply z50 (id := 12) (ord := [0, 1, 2, 3, 4, 5, 6, 7]) <;> first | kernel_rfl | skip)
     | (apply z50 (id := 14) (ord := [0, 1, 2, 3, 4, 5, 6, 7]) <;> first | kernel_rfl | skip)
     | (apply z50 (id := 16) (ord := [0, 1, 2, 3, 4, 5, 6, 7, 8, 9]) <;> first | kernel_rfl | skip)
     | (apply z50 (id := 18) (ord := [0, 1, 2, 3, 4, 5, 6, 7, 8, 9, 10, 11]) <;> first | kernel_rfl | skip)
     | (apply z50 (id := 20) (ord := [0, 1, 2, 3, 4, 5, 6, 7, 8, 9]) <;> first | kernel_rfl | skip)
     | (apply z50 (id := 22) (ord := [0, 1, 2, 3, 4, 5, 6, 7, 8]) <;> first | kernel_rfl | skip)
     | (apply z50 (id := 24) (ord := [0, 1, 2, 3, 4, 5, 6, 7, 8]) <;> first | kernel_rfl | skip)
     | (apply z51 (id := 26) (ord := [0, 1, 2, 3, 4, 5, 7, 8, 9, 10, 11, 12, 6, 13, 14, 15, 16]) (ps := [(8, 12), (11, 12)]) <;> first | kernel_rfl | skip)
     | (apply z51 (id := 32) (ord := [0, 1, 2, 3, 4, 5, 8, 9, 10, 6, 7, 11, 12]) (ps := [(2, 9), (8, 9)]) <;> first | kernel_rfl | skip)
     | (apply z51 (id := 34) (ord := [0, 1, 2, 3, 4, 7, 5, 6, 8, 9]) (ps := [(2, 6)]) <;> first | kernel_rfl | skip)
     | (apply z50 (id := 38) (ord := [0, 1, 2, 3, 4, 5, 7, 9, 6, 8, 10, 11]) <;> first | kernel_rfl | skip)
     | (apply z50 (id := 40) (ord := [0, 1, 2, 3, 4, 5]) <;> first | kernel_rfl | skip)
     | (apply z51 (id := 42) (ord := [0, 1, 2, 3, 4, 5, 8, 6, 7, 9, 10]) (ps := [(2, 7)]) <;> first | kernel_rfl | skip)
     | (apply z50 (id := 43) (ord := [0, 1, 2, 3, 4, 5]) <;> first | kernel_rfl | skip)
     | (apply z51 (id := 45) (ord := [0, 1, 2, 3, 4, 5, 6, 7, 8]) (ps := [(2, 6)]) <;> first | kernel_rfl | skip)
     | (refine zs ?_; repeat' first | apply zs0 | apply zs2 | (intro hc; try have hq := dq hc)) | fail
  · have d : decide (y ≥ W) = false := decide_eq_false h
    have t2 := fun bs H => pw (bs := bs) (H := H) y hy (by omega)
    have h2 := pow16 (by omega : y ≤ 16)
    have h3 := pow_pos' y.toNat
    have h1 : x * 2 ^ y.toNat ≤ 65536 * 65536 := Int.le_trans (Int.mul_le_mul_of_nonneg_right (by omega) (by omega)) (Int.mul_le_mul_of_nonneg_left h2 (by omega))
    have h4 := Int.mul_nonneg hx.1 (Int.le_of_lt h3)
    have e1 := wrx (x := x * 2 ^ y.toNat) (by omega)
    have e2 := rem_ne (x := 0) (k := W.toNat)
    have e3 := tmod_pow (x := x * 2 ^ y.toNat) (k := W.toNat) h4
    rw [if_neg h]
    clear h hx hy h1 h2 h3 h4
    repeat' first
     | (apply z50 (id := 10) (ord := [0, 1, 2, 3, 4, 5, 6, 7]) <;> first | kernel_rfl | skip)
     | (apply z50 (id := 12) (ord := [0, 1, 2, 3, 4, 5, 6, 7]) <;> first | kernel_rfl | skip)
     | (apply z50 (id := 14) (ord := [0, 1, 2, 3, 4, 5, 6, 7]) <;> first | kernel_rfl | skip)
     | (apply z50 (id := 16) (ord := [0, 1, 2, 3, 4, 5, 6, 7, 8, 9]) <;> first | kernel_rfl | skip)
     | (apply z50 (id := 18) (ord := [0, 1, 2, 3, 4, 5, 6, 7, 8, 9, 10, 11]) <;> first | kernel_rfl | skip)
     | (apply z50 (id := 20) (ord := [0, 1, 2, 3, 4, 5, 6, 7, 8, 9]) <;> first | kernel_rfl | skip)
     | (apply z50 (id := 22) (ord := [0, 1, 2, 3, 4, 5, 6, 7, 8]) <;> first | kernel_rfl | skip)
     | (apply z50 (id := 24) (ord := [0, 1, 2, 3, 4, 5, 6, 7, 8]) <;> first | kernel_rfl | skip)
     | (apply z51 (id := 26) (ord := [0, 1, 2, 3, 4, 5, 7, 8, 9, 10, 11, 12, 6, 13, 14, 15, 16]) (ps := [(8, 12), (11, 12)]) <;> first | kernel_rfl | skip)
     | (apply z51 (id := 32) (ord := [0, 1, 2, 3, 4, 5, 8, 9, 10, 6, 7, 11, 12]) (ps := [(2, 9), (8, 9)]) <;> first | kernel_rfl | skip)
     | (apply z51 (id := 34) (ord := [0, 1, 2, 3, 4, 7, 5, 6, 8, 9]) (ps := [(2, 6)]) <;> first | kernel_rfl | skip)
     | (apply z50 (id := 38) (ord := [0, 1, 2, 3, 4, 5, 7, 9, 6, 8, 10, 11]) <;> first | kernel_rfl | skip)
     | (apply z50 (id := 40) (ord := [0, 1, 2, 3, 4, 5]) <;> first | kernel_rfl | skip)
     | (apply z51 (id := 42) (ord := [0, 1, 2, 3, 4, 5, 8, 6, 7, 9, 10]) (ps := [(2, 7)]) <;> first | kernel_rfl | skip)
     | (apply z50 (id := 43) (ord := [0, 1, 2, 3, 4, 5]) <;> first | kernel_rfl | skip)
     | (apply z51 (id := 45) (ord := [0, 1, 2, 3, 4, 5, 6, 7, 8]) (ps := [(2, 6)]) <;> first | kernel_rfl | skip)
     | (refine zs ?_; repeat' first | apply zs0 | apply zs2 | (intro hc; try have hq := dq hc)) | fail

theorem ap_18 (bs : List Nat) (H : Heap) (W v x y : Int) (ar w lv : List V) (h0 : 0 ≤ W) (h16 : W ≤ 16) (hx : 0 ≤ x ∧ x < 65536) (hy : 0 ≤ y) : callw X bs 153 [.agg [.int .i64 18, .int .i64 W, .list ar, .int .i64 v], .list [.int .i64 x, .int .i64 y], .list w, .list lv] H = some (.int .i64 (if W ≤ y then 0 else x / 2 ^ y.toNat), H) := by
  refine call_at (rs := [.tmp 8]) (N := 221) (fn := Tryz.f153) xk153 xf153 rfl rfl rfl (by simp only [seval, push_cast, List.map_cons, List.map_nil, V.norm, norm1]; rfl) ?_
  have t1 := fun bs H => pw (bs := bs) (H := H) W h0 h16
  by_cases h : W ≤ y
  · have d : decide (y ≥ W) = true := decide_eq_true h
    rw [if_pos h]
    clear h hx hy
    repeat' first
     | (apply z50 (id := 10) (ord := [0, 1, 2, 3, 4, 5, 6, 7]) <;> first | kernel_rfl | skip)
     | (apply z50 (id := 12) (ord := [0, 1, 2, 3, 4, 5, 6, 7]) <;> first | kernel_rfl | skip)
     | (apply z50 (id := 14) (ord := [0, 1, 2, 3, 4, 5, 6, 7]) <;> first | kernel_rfl | skip)
     | (apply z50 (id := 16) (ord := [0, 1, 2, 3, 4, 5, 6, 7, 8, 9]) <;> first | kernel_rfl | skip)
     | (apply z50 (id := 18) (ord := [0, 1, 2, 3, 4, 5, 6, 7, 8, 9, 10, 11]) <;> first | kernel_rfl | skip)
     | (apply z50 (id := 20) (ord := [0, 1, 2, 3, 4, 5, 6, 7, 8, 9]) <;> first | kernel_rfl | skip)
     | (apply z50 (id := 22) (ord := [0, 1, 2, 3, 4, 5, 6, 7, 8]) <;> first | kernel_rfl | skip)
     | (apply z50 (id := 24) (ord := [0, 1, 2, 3, 4, 5, 6, 7, 8]) <;> first | kernel_rfl | skip)
     | (apply z51 (id := 26) (ord := [0, 1, 2, 3, 4, 5, 7, 8, 9, 10, 11, 12, 6, 13, 14, 15, 16]) (ps := [(8, 12), (11, 12)]) <;> first | kernel_rfl | skip)
     | (apply z51 (id := 32) (ord := [0, 1, 2, 3, 4, 5, 8, 9, 10, 6, 7, 11, 12]) (ps := [(2, 9), (8, 9)]) <;> first | kernel_rfl | skip)
     | (apply z51 (id := 34) (ord := [0, 1, 2, 3, 4, 7, 5, 6, 8, 9]) (ps := [(2, 6)]) <;> first | kernel_rfl | skip)
     | (apply z50 (id := 38) (ord := [0, 1, 2, 3, 4, 5, 7, 9, 6, 8, 10, 11]) <;> first | kernel_rfl | skip)
     | (apply z50 (id := 40) (ord := [0, 1, 2, 3, 4, 5]) <;> first | kernel_rfl | skip)
     | (apply z51 (id := 42) (ord := [0, 1, 2, 3, 4, 5, 8, 6, 7, 9, 10]) (ps := [(2, 7)]) <;> first | kernel_rfl | skip)
     | (apply z50 (id := 43) (ord := [0, 1, 2, 3, 4, 5]) <;> first | kernel_rfl | skip)
     | (apply z51 (id := 45) (ord := [0, 1, 2, 3, 4, 5, 6, 7, 8]) (ps := [(2, 6)]) <;> first | kernel_rfl | skip)
     | (refine zs ?_; repeat' first | apply zs0 | apply zs2 | (intro hc; try have hq := dq hc)) | fail
  · have d : decide (y ≥ W) = false := decide_eq_false h
    have t2 := fun bs H => pw (bs := bs) (H := H) y hy (by omega)
    have e1 := tdiv_pow (x := x) (k := y.toNat) hx.1
    have e2 := rem_ne (x := 0) (k := y.toNat)
    have e5 : IntKind.i64.wrap (x / 2 ^ y.toNat) = x / 2 ^ y.toNat := wrx (by have := Int.ediv_le_self (2 ^ y.toNat) hx.1; have := Int.ediv_nonneg hx.1 (Int.le_of_lt (pow_pos' y.toNat)); omega)
    rw [if_neg h]
    clear h hx hy
    repeat' first
     | (apply z50 (id := 10) (ord := [0, 1, 2, 3, 4, 5, 6, 7]) <;> first | kernel_rfl | skip)
     | (apply z50 (id := 12) (ord := [0, 1, 2, 3, 4, 5, 6, 7]) <;> first | kernel_rfl | skip)
     | (apply z50 (id := 14) (ord := [0, 1, 2, 3, 4, 5, 6, 7]) <;> first | kernel_rfl | skip)
     | (apply z50 (id := 16) (ord := [0, 1, 2, 3, 4, 5, 6, 7, 8, 9]) <;> first | kernel_rfl | skip)
     | (apply z50 (id := 18) (ord := [0, 1, 2, 3, 4, 5, 6, 7, 8, 9, 10, 11]) <;> first | kernel_rfl | skip)
     | (apply z50 (id := 20) (ord := [0, 1, 2, 3, 4, 5, 6, 7, 8, 9]) <;> first | kernel_rfl | skip)
     | (apply z50 (id := 22) (ord := [0, 1, 2, 3, 4, 5, 6, 7, 8]) <;> first | kernel_rfl | skip)
     | (apply z50 (id := 24) (ord := [0, 1, 2, 3, 4, 5, 6, 7, 8]) <;> first | kernel_rfl | skip)
     | (apply z51 (id := 26) (ord := [0, 1, 2, 3, 4, 5, 7, 8, 9, 10, 11, 12, 6, 13, 14, 15, 16]) (ps := [(8, 12), (11, 12)]) <;> first | kernel_rfl | skip)
     | (apply z51 (id := 32) (ord := [0, 1, 2, 3, 4, 5, 8, 9, 10, 6, 7, 11, 12]) (ps := [(2, 9), (8, 9)]) <;> first | kernel_rfl | skip)
     | (apply z51 (id := 34) (ord := [0, 1, 2, 3, 4, 7, 5, 6, 8, 9]) (ps := [(2, 6)]) <;> first | kernel_rfl | skip)
     | (apply z50 (id := 38) (ord := [0, 1, 2, 3, 4, 5, 7, 9, 6, 8, 10, 11]) <;> first | kernel_rfl | skip)
     | (apply z50 (id := 40) (ord := [0, 1, 2, 3, 4, 5]) <;> first | kernel_rfl | skip)
     | (apply z51 (id := 42) (ord := [0, 1, 2, 3, 4, 5, 8, 6, 7, 9, 10]) (ps := [(2, 7)]) <;> first | kernel_rfl | skip)
     | (apply z50 (id := 43) (ord := [0, 1, 2, 3, 4, 5]) <;> first | kernel_rfl | skip)
     | (apply z51 (id := 45) (ord := [0, 1, 2, 3, 4, 5, 6, 7, 8]) (ps := [(2, 6)]) <;> first | kernel_rfl | skip)
     | (refine zs ?_; repeat' first | apply zs0 | apply zs2 | (intro hc; try have hq := dq hc)) | fail
end Go.E
/- Contracts of the references' base, in E: Apply, whole; the values of nodes. Own work. -/
namespace Go.E
open Go.Proofs
set_option maxRecDepth 100000
set_option maxHeartbeats 4000000

theorem apply_call (bs : List Nat) (H : Heap) (k : Nat) (W v : Int) (ar lv : List V) (a w : List Int) (h : OkArgs k W v a w) (h1 : k ≠ 1) :
    callw X bs 153 [.agg [.int .i64 k, .int .i64 W, .list ar, .int .i64 v], .list (a.map (.int .i64)), .list (w.map (.int .i64)), .list lv] H = some (.int .i64 (applyS k W v a w), H) := by
  obtain ⟨hk, hW1, hW16, hla, hlw, hr, hw, hf, hv, hc⟩ := h
  have hW0 : 0 ≤ W := by omega
  match k, hk, a, hla, w, hlw with
  | 0, _, a, _, w, _ => exact ap_0 bs H W v ar _ _ lv hW0 hW16
  | 1, _, _, _, _, _ => exact absurd rfl h1
  | 2, _, [x], _, [p], _ =>
    have r0 := hr 0 (by decide)
    simp only [fitsS, List.any_cons, List.any_nil, Bool.or_false, Bool.not_eq_true', decide_eq_false_iff_not, Decidable.not_not] at hf
    subst hf
    exact ap_2 bs H p v x ar _ lv hW0 hW16 r0
  | 3, _, [x, y], _, [p, q], _ =>
    have r0 := hr 0 (by decide)
    have r1 := hr 1 (by decide)
    have w0 := hw 0 (by decide)
    have w1 := hw 1 (by decide)
    simp only [at0_cons, at0_1] at r0 r1 w0 w1
    have e := bits_and x.toNat y.toNat (lt_n32 r0 w0.2) (lt_n32 r1 w1.2)
    rw [toNat_of r0.1, toNat_of r1.1] at e
    have := ap_3 bs H W v x y ar [.int .i64 p, .int .i64 q] lv hW0 hW16
    rw [e] at this
    exact this
  | 4, _, [x, y], _, [p, q], _ =>
    have r0 := hr 0 (by decide)
    have r1 := hr 1 (by decide)
    have w0 := hw 0 (by decide)
    have w1 := hw 1 (by decide)
    simp only [at0_cons, at0_1] at r0 r1 w0 w1
    have e := bits_or x.toNat y.toNat (lt_n32 r0 w0.2) (lt_n32 r1 w1.2)
    rw [toNat_of r0.1, toNat_of r1.1] at e
    have := ap_4 bs H W v x y ar [.int .i64 p, .int .i64 q] lv hW0 hW16
    rw [e] at this
    exact this
  | 5, _, [x, y], _, [p, q], _ =>
    have r0 := hr 0 (by decide)
    have r1 := hr 1 (by decide)
    have w0 := hw 0 (by decide)
    have w1 := hw 1 (by decide)
    simp only [at0_cons, at0_1] at r0 r1 w0 w1
    have e := bits_xor x.toNat y.toNat (lt_n32 r0 w0.2) (lt_n32 r1 w1.2)
    rw [toNat_of r0.1, toNat_of r1.1] at e
    have := ap_5 bs H W v x y ar [.int .i64 p, .int .i64 q] lv hW0 hW16
    rw [e] at this
    exact this
  | 6, _, [x, y], _, [p, q], _ =>
    have r0 := hr 0 (by decide)
    have r1 := hr 1 (by decide)
    have w0 := hw 0 (by decide)
    have w1 := hw 1 (by decide)
    simp only [at0_cons, at0_1] at r0 r1 w0 w1
    exact ap_6 bs H W v x y ar _ lv hW0 hW16 (r0.w16 w0.2) (r1.w16 w1.2)
  | 7, _, [x, y], _, [p, q], _ =>
    have r0 := hr 0 (by decide)
    have r1 := hr 1 (by decide)
    simp only [fitsS, List.any_cons, List.any_nil, Bool.or_false, Bool.not_eq_true', Bool.or_eq_false_iff, decide_eq_false_iff_not, Decidable.not_not] at hf
    obtain ⟨rfl, rfl⟩ := hf
    exact ap_7 bs H q v x y ar _ lv hW0 hW16 r0 r1
  | 8, _, [x, y], _, [p, q], _ =>
    have r0 := hr 0 (by decide)
    have r1 := hr 1 (by decide)
    have w0 := hw 0 (by decide)
    have w1 := hw 1 (by decide)
    simp only [at0_cons, at0_1] at r0 r1 w0 w1
    exact ap_8 bs H W v x y ar _ lv hW0 hW16 (r0.w16 w0.2) (r1.w16 w1.2)
  | 9, _, [x, y], _, [p, q], _ =>
    have := ap_9 bs H W v x y ar [.int .i64 p, .int .i64 q] lv hW0 hW16
    simp only [decide_eq_true_eq] at this
    exact this
  | 10, _, [x, y], _, [p, q], _ =>
    have := ap_10 bs H W v x y ar [.int .i64 p, .int .i64 q] lv hW0 hW16
    simp only [decide_eq_true_eq] at this
    exact this
  | 11, _, [x, y], _, [p, q], _ =>
    have r0 := hr 0 (by decide)
    have r1 := hr 1 (by decide)
    have w0 := hw 0 (by decide)
    have hf2 : (decide (W = 1) && decide (p = q)) = true := hf
    rw [Bool.and_eq_true] at hf2
    obtain rfl := of_decide_eq_true hf2.2
    simp only [at0_cons, at0_1] at r0 r1 w0
    have := ap_11 bs H W v x y p ar lv hW0 hW16 r0 r1 w0.1 w0.2
    simp only [decide_eq_true_eq] at this
    exact this
  | 12, _, [x, y, z], _, [p, q, r], _ => exact ap_12 bs H W v x y z ar _ lv hW0 hW16
  | 13, _, [x, y], _, [p, q], _ =>
    have r0 := hr 0 (by decide)
    have r1 := hr 1 (by decide)
    have w0 := hw 0 (by decide)
    have w1 := hw 1 (by decide)
    simp only [at0_cons, at0_1] at r0 r1 w0 w1
    exact ap_13 bs H W v x y p q ar lv hW0 hW16 (r0.w16 w0.2) r1 (by omega) w1.2
  | 14, _, [x], _, [p], _ =>
    have r0 := hr 0 (by decide)
    have w0 := hw 0 (by decide)
    simp only [at0_cons] at r0 w0
    have hv' := hv rfl
    exact ap_14 bs H W v x ar _ lv hW0 hW16 (r0.w16 w0.2) hv'.1 (by omega)
  | 15, _, [x], _, [p], _ => exact ap_15 bs H W v x ar _ lv hW0 hW16
  | 16, _, [x], _, [p], _ =>
    have r0 := hr 0 (by decide)
    have w0 := hw 0 (by decide)
    simp only [at0_cons] at r0 w0
    have hf2 : p ≤ W := of_decide_eq_true hf
    exact ap_16 bs H W v x p ar [] lv hW0 hW16 r0 w0.1 hf2
  | 17, _, [x, y], _, [p, q], _ =>
    have r0 := hr 0 (by decide)
    have r1 := hr 1 (by decide)
    have w0 := hw 0 (by decide)
    simp only [at0_cons, at0_1] at r0 r1 w0
    exact ap_17 bs H W v x y ar _ lv hW0 hW16 (r0.w16 w0.2) r1.1
  | 18, _, [x, y], _, [p, q], _ =>
    have r0 := hr 0 (by decide)
    have r1 := hr 1 (by decide)
    have w0 := hw 0 (by decide)
    simp only [at0_cons, at0_1] at r0 r1 w0
    exact ap_18 bs H W v x y ar _ lv hW0 hW16 (r0.w16 w0.2) r1.1
  | k + 19, hk, _, _, _, _ => omega
end Go.E
/- Contracts of the references' base, in E: the values of nodes. Own work. -/
namespace Go.E
open Go.Proofs
set_option maxRecDepth 100000
set_option maxHeartbeats 4000000

theorem fill_lt {α : Type} (f : α → V) (z : V) (l : List α) (i j : Nat) (x : α) (hj : j < i) (h : l[j]? = some x) : (fill f z l i)[j]? = some (f x) := by
  unfold fill
  have hl := (List.getElem?_eq_some_iff.1 h).1
  rw [List.getElem?_append_left (by simp; omega), List.getElem?_map, List.getElem?_take, if_pos hj, h]; rfl
theorem valsL_pre (nodes : List Node) (lv : List Int) (i : Nat) : ∀ k j, j < i → (valsL nodes lv (i + k))[j]? = (valsL nodes lv i)[j]?
  | 0, j, _ => rfl
  | k + 1, j, h => by
    rw [show i + (k + 1) = (i + k) + 1 by omega, valsL, List.getElem?_append_left (by rw [valsL_len]; omega)]
    exact valsL_pre nodes lv i k j h
theorem nv_inner (bs : List Nat) (G : Heap) (b i : Nat) (A : List V) (nodes : List Node) (x : Node) (done : List Int) (hx : nodes[i]? = some x) (hA : G[b]? = some (.arr A 0)) (hal : x.args.length ≤ 1000000)
    (hget : ∀ n ∈ x.args, 0 ≤ n ∧ n < nodes.length ∧ A[n.toNat]? = some (.int .i64 (at0 done n.toNat))) :
    ∀ k ρ H', k ≤ x.args.length → (∃ vs ws, vs = valsOf done (x.args.take k) ∧ ws = widthsOf nodes (x.args.take k) ∧ H' = G ++ [.tok vs.length, .tok ws.length] ∧ ρ 0 = .list (nodes.map encNode) ∧ ρ 5 = .ref 1 b 0 0 nodes.length ∧ ρ 6 = .int .i64 i ∧
        ρ 7 = .tl G.length (vs.map (.int .i64)) ∧ ρ 8 = .tl (G.length + 1) (ws.map (.int .i64)) ∧ ρ 9 = .int .i64 k) →
      Lp X ⟨70, bs⟩ (loopAt Tryz.f97 1) ρ H' fun ex ρ' H' => H' = G ++ [.tok x.args.length, .tok x.args.length] ∧ ex = .exit 2 ∧ ρ' 7 = .tl G.length ((valsOf done x.args).map (.int .i64)) ∧ ρ' 8 = .tl (G.length + 1) ((widthsOf nodes x.args).map (.int .i64)) := by
  have hA2 := get_app hA
  clear hA
  refine loop_up ?_ ?_
  · rintro k ρ H' hk ⟨vs, ws, hvs, hws, rfl, h0, h5, h6, h7, h8, h9⟩
    have hg : x.args[k]? = some x.args[k] := by simp [hk]
    have hm := hget x.args[k] (List.getElem_mem hk)
    have htk : x.args.take (k + 1) = x.args.take k ++ [x.args[k]] := by rw [List.take_add_one, hg]; rfl
    generalize x.args[k] = n at hg hm htk
    obtain ⟨m, rfl⟩ : ∃ m : Nat, n = m := ⟨n.toNat, by omega⟩
    have hlt : m < nodes.length := by omega
    have hget2 : nodes[m]? = some nodes[m] := by simp [hlt]
    have hgA := hm.2.2
    rw [Int.toNat_natCast] at hgA
    have hsn := widthsOf_snoc nodes (x.args.take k) m nodes[m] (by simp)
    have hsv : valsOf done (x.args.take k ++ [(m : Int)]) = valsOf done (x.args.take k) ++ [at0 done m] := by simp [valsOf]
    generalize nodes[m] = y at hget2 hsn
    generalize at0 done m = z at hgA hsv
    have hlen : ws.length = k := by rw [hws]; simp [widthsOf]; omega
    have hlenv : vs.length = k := by rw [hvs]; simp [valsOf]; omega
    have hroom := room8 ws.length (by omega)
    have hroomv := room8 vs.length (by omega)
    have hw := add1 k x.args.length hk hal
    rw [← hws, ← htk] at hsn
    rw [← hvs, ← htk] at hsv
    replace hws : Kp (ws = widthsOf nodes (x.args.take k)) := ⟨hws⟩
    replace hvs : Kp (vs = valsOf done (x.args.take k)) := ⟨hvs⟩
    replace hsn : Kp (widthsOf nodes (x.args.take (k + 1)) = ws ++ [y.width]) := ⟨hsn⟩
    replace hsv : Kp (valsOf done (x.args.take (k + 1)) = vs ++ [z]) := ⟨hsv⟩
    replace hlen : Kp (ws.length = k) := ⟨hlen⟩
    replace hlenv : Kp (vs.length = k) := ⟨hlenv⟩
    clear htk hm hget
    conv => arg 3; whnf
    repeat' first
     | (apply z51 (id := 9) (ord := [0, 1, 2, 3, 4, 5, 6, 7, 8, 9, 10, 11, 12, 14, 15, 16, 17, 18, 19, 20, 21, 22, 23, 24, 25, 26, 27, 13, 28, 29, 30]) (ps := [(19, 27), (22, 27), (25, 27), (26, 27)]) <;> first | kernel_rfl | skip)
     | (refine zs ?_; repeat' first | apply zs0 | apply zs2 | (intro hc; try have hq := dq hc)) | fail
    exact ⟨vs ++ [z], ws ++ [y.width], hsv.out.symm, hsn.out.symm, by simp, by (simp only [seval, push_cast, *] <;> rfl), by (simp only [seval, push_cast, *] <;> rfl), by (simp only [seval, push_cast, *] <;> rfl), by simp [push_cast], by simp [push_cast], by (simp only [seval, push_cast, *] <;> rfl)⟩
  · rintro ρ H' ⟨vs, ws, hvs, hws, rfl, h0, h5, h6, h7, h8, h9⟩
    rw [List.take_length] at hws hvs
    have hlen : ws.length = x.args.length := by rw [hws]; simp [widthsOf]
    have hlenv : vs.length = x.args.length := by rw [hvs]; simp [valsOf]
    replace hws : Kp (ws = widthsOf nodes x.args) := ⟨hws⟩
    replace hvs : Kp (vs = valsOf done x.args) := ⟨hvs⟩
    replace hlen : Kp (ws.length = x.args.length) := ⟨hlen⟩
    replace hlenv : Kp (vs.length = x.args.length) := ⟨hlenv⟩
    clear hget
    conv => arg 3; whnf
    repeat' first
     | (apply z51 (id := 9) (ord := [0, 1, 2, 3, 4, 5, 6, 7, 8, 9, 10, 11, 12, 14, 15, 16, 17, 18, 19, 20, 21, 22, 23, 24, 25, 26, 27, 13, 28, 29, 30]) (ps := [(19, 27), (22, 27), (25, 27), (26, 27)]) <;> first | kernel_rfl | skip)
     | (refine zs ?_; repeat' first | apply zs0 | apply zs2 | (intro hc; try have hq := dq hc)) | fail
    exact ⟨by rw [hlen.out, hlenv.out], rfl, by rw [← hvs.out]; (simp only [seval, push_cast, *] <;> rfl), by rw [← hws.out]; (simp only [seval, push_cast, *] <;> rfl)⟩

theorem nv_apply {leaves lv : List Int} {nodes : List Node} {i : Nat} {x : Node} (hg : GoodAll leaves nodes) (hl : LeafOk leaves lv) (hx : nodes[i]? = some x) (bs : List Nat) (H : Heap) :
    callw X bs 153 [.agg [.int .i64 x.op, .int .i64 x.width, .list (x.args.map (.int .i64)), .int .i64 x.value], .list ((valsOf (valsL nodes lv i) x.args).map (.int .i64)), .list ((widthsOf nodes x.args).map (.int .i64)), .list (lv.map (.int .i64))] H
      = some (.int .i64 (valN nodes lv (valsL nodes lv i) x), H) := by
  have g := hg i x hx
  have hil := (List.getElem?_eq_some_iff.1 hx).1
  unfold valN
  by_cases h1 : x.op = 1
  · rw [if_pos h1]
    have hva := g.val
    rw [h1] at hva
    obtain ⟨a, b, c⟩ := value_leaf hva
    have hlr := hl.1
    have h2 : x.value.toNat < lv.length := by omega
    have := ap_1 bs H x.width x.value.toNat lv[x.value.toNat] (x.args.map (.int .i64)) ((valsOf (valsL nodes lv i) x.args).map (.int .i64)) ((widthsOf nodes x.args).map (.int .i64)) lv (by have := g.W1; omega) g.W16 (by simp [h2])
    rw [Int.toNat_of_nonneg a] at this
    rw [h1, at0_get (l := lv) (i := x.value.toNat) (v := lv[x.value.toNat]) (by simp [h2])]
    exact this
  · rw [if_neg h1]
    have hok := vals_ok.okArgs hg hl (vals_ok hg hl i (by omega)) hx
    have := apply_call bs H x.op.toNat x.width x.value (x.args.map (.int .i64)) (lv.map (.int .i64)) _ _ hok (by have := g.op0; omega)
    rw [Int.toNat_of_nonneg g.op0] at this
    exact this
theorem nv_outer (bs : List Nat) (H : Heap) (t : HObj) (leaves lv : List Int) (nodes : List Node) (hn : nodes.length ≤ 1000) (hal : ∀ x ∈ nodes, x.args.length ≤ 1000000) (hg : GoodAll leaves nodes) (hl : LeafOk leaves lv) :
    ∀ i ρ H', i ≤ nodes.length → (∃ junk, H' = H ++ t :: .arr (fill (V.int .i64) (.int .i64 0) (valsL nodes lv nodes.length) i) 0 :: junk ∧ ρ 0 = .list (nodes.map encNode) ∧ ρ 1 = .list (lv.map (.int .i64)) ∧ ρ 5 = .ref 1 (H.length + 1) 0 0 nodes.length ∧ ρ 6 = .int .i64 i) →
      Lp X ⟨70, bs⟩ (loopAt Tryz.f97 0) ρ H' fun ex ρ' H' => ∃ junk, H' = H ++ t :: .arr ((valsL nodes lv nodes.length).map (.int .i64)) 0 :: junk ∧ ρ' 5 = .ref 1 (H.length + 1) 0 0 nodes.length ∧ ex = .exit 0 := by
  have hvl := valsL_len nodes lv nodes.length
  refine loop_up ?_ ?_
  · rintro i ρ H' hi ⟨junk, rfl, h0, h1, h5, h6⟩
    have hget : nodes[i]? = some nodes[i] := by simp [hi]
    have hal' := hal nodes[i] (List.getElem_mem hi)
    have g := hg i nodes[i] hget
    have hap := fun bs H => nv_apply hg hl hget bs H
    have hsv := valsL_succ nodes lv i nodes[i] hget
    have hlen := valsL_len nodes lv i
    have hvi : (valsL nodes lv nodes.length)[i]? = some (valN nodes lv (valsL nodes lv i) nodes[i]) := by
      have := valsL_pre nodes lv (i + 1) (nodes.length - (i + 1)) i (by omega)
      rw [show i + 1 + (nodes.length - (i + 1)) = nodes.length by omega] at this
      rw [this, hsv, List.getElem?_append_right (by omega), hlen]; simp
    have hgA : ∀ n ∈ nodes[i].args, 0 ≤ n ∧ n < nodes.length ∧ (fill (V.int .i64) (.int .i64 0) (valsL nodes lv nodes.length) i)[n.toNat]? = some (.int .i64 (at0 (valsL nodes lv i) n.toNat)) := fun n hnm => by
      have h := g.args n hnm
      have hpre := valsL_pre nodes lv i (nodes.length - i) n.toNat (by omega)
      rw [show i + (nodes.length - i) = nodes.length by omega] at hpre
      have h3 : n.toNat < (valsL nodes lv i).length := by omega
      refine ⟨h.1, by omega, ?_⟩
      rw [at0_get (l := valsL nodes lv i) (i := n.toNat) (v := (valsL nodes lv i)[n.toNat]) (by simp [h3])]
      exact fill_lt _ _ _ _ _ _ (by omega) (by rw [hpre]; simp [h3])
    have hs := fill_set (V.int .i64) (.int .i64 0) (valsL nodes lv nodes.length) i _ hvi
    have hz := fill_get (V.int .i64) (.int .i64 0) (valsL nodes lv nodes.length) i (by omega)
    have hw := add1 i nodes.length hi (by omega)
    have hin := fun (bs : List Nat) (ρ : Env) (H' : Heap) => nv_inner bs (H ++ t :: .arr (fill (V.int .i64) (.int .i64 0) (valsL nodes lv nodes.length) i) 0 :: junk) (H.length + 1) i _ nodes nodes[i] (valsL nodes lv i) hget (by simp) hal' hgA 0 ρ H'
    clear hgA hsv hlen hvi g hg hl hal hal'
    generalize nodes[i] = x at hget hap hs hin
    generalize valN nodes lv (valsL nodes lv i) x = z at hap hs
    generalize valsL nodes lv i = dn at hap hin
    generalize hfi : fill (V.int .i64) (.int .i64 0) (valsL nodes lv nodes.length) i = A at hs hz hin ⊢
    replace hfi : Kp (fill (V.int .i64) (.int .i64 0) (valsL nodes lv nodes.length) i = A) := ⟨hfi⟩
    generalize hfj : fill (V.int .i64) (.int .i64 0) (valsL nodes lv nodes.length) (i + 1) = B at hs ⊢
    clear hfi hvl
    conv => arg 3; whnf
    repeat' first
     | (apply z51 (id := 9) (ord := [0, 1, 2, 3, 4, 5, 6, 7, 8, 9, 10, 11, 12, 14, 15, 16, 17, 18, 19, 20, 21, 22, 23, 24, 25, 26, 27, 13, 28, 29, 30]) (ps := [(19, 27), (22, 27), (25, 27), (26, 27)]) <;> first | kernel_rfl | skip)
     | (refine zs ?_; repeat' first | apply zs0 | apply zs2 | (intro hc; try have hq := dq hc)) | fail
    refine lp_then (lp_any (c := loopAt Tryz.f97 1) rfl (hin _ _ _ (by omega) ⟨[], [], rfl, rfl, by simp, by (simp only [seval, push_cast, *] <;> rfl), by (simp only [seval, push_cast, *] <;> rfl), by (simp only [seval, push_cast, *] <;> rfl), by simp [push_cast], by (simp [push_cast]; omega), by (simp only [seval, push_cast, *] <;> rfl)⟩)) ?_
    rintro ex ρ' H' ⟨hH, rfl, h7, h8⟩ hf
    have f0 := hf 0 rfl
    have f1 := hf 1 rfl
    have f5 := hf 5 rfl
    have f6 := hf 6 rfl
    simp only [seval, push_cast, h0, h1, h5, h6] at f0 f1 f5 f6
    rw [List.append_assoc, List.cons_append, List.cons_append] at hH
    subst hH
    clear hin hf
    repeat' first
     | (apply z51 (id := 9) (ord := [0, 1, 2, 3, 4, 5, 6, 7, 8, 9, 10, 11, 12, 14, 15, 16, 17, 18, 19, 20, 21, 22, 23, 24, 25, 26, 27, 13, 28, 29, 30]) (ps := [(19, 27), (22, 27), (25, 27), (26, 27)]) <;> first | kernel_rfl | skip)
     | (refine zs ?_; repeat' first | apply zs0 | apply zs2 | (intro hc; try have hq := dq hc)) | fail
    exact ⟨_, rfl, by (simp only [seval, push_cast, *] <;> rfl), by (simp only [seval, push_cast, *] <;> rfl), by (simp only [seval, push_cast, *] <;> rfl), by (simp only [seval, push_cast, *] <;> rfl)⟩
  · rintro ρ H' ⟨junk, rfl, h0, h1, h5, h6⟩
    rw [show fill (V.int .i64) (.int .i64 0) (valsL nodes lv nodes.length) nodes.length = (valsL nodes lv nodes.length).map (.int .i64) by rw [← fill_end (V.int .i64) (.int .i64 0), hvl]]
    clear hg hl hal
    conv => arg 3; whnf
    repeat' first
     | (apply z51 (id := 9) (ord := [0, 1, 2, 3, 4, 5, 6, 7, 8, 9, 10, 11, 12, 14, 15, 16, 17, 18, 19, 20, 21, 22, 23, 24, 25, 26, 27, 13, 28, 29, 30]) (ps := [(19, 27), (22, 27), (25, 27), (26, 27)]) <;> first | kernel_rfl | skip)
     | (refine zs ?_; repeat' first | apply zs0 | apply zs2 | (intro hc; try have hq := dq hc)) | fail
    exact ⟨junk, rfl, by (simp only [seval, push_cast, *] <;> rfl), rfl⟩

theorem bs_nodeValues (bs : List Nat) (H : Heap) (leaves lv : List Int) (nodes : List Node) (hn : nodes.length ≤ 1000) (hal : ∀ x ∈ nodes, x.args.length ≤ 1000000) (hg : GoodAll leaves nodes) (hl : LeafOk leaves lv) : callw X bs 97 [.list (nodes.map encNode), .list (lv.map (.int .i64))] H = some (.list ((valsL nodes lv nodes.length).map (.int .i64)), H) := by
  refine call_at (rs := [.tmp 4]) (N := 70) (fn := Tryz.f97) xk97 xf97 rfl rfl rfl (by simp only [seval, push_cast, List.map_cons, List.map_nil, V.norm, norm1]; rfl) ?_
  have hloop := fun (bs : List Nat) (t : HObj) (ρ : Env) => nv_outer bs H t leaves lv nodes hn hal hg hl 0 ρ
  have hvl := valsL_len nodes lv nodes.length
  have h1 := room_of (n := nodes.length) (k := 8) (by omega) (by omega)
  have h2 := room_int (n := nodes.length) (by omega)
  have h3 := fill_0 (V.int .i64) (.int .i64 0) (valsL nodes lv nodes.length)
  rw [hvl] at h3
  replace h3 : Kp (fill (V.int .i64) (.int .i64 0) (valsL nodes lv nodes.length) 0 = List.replicate nodes.length (.int .i64 0)) := ⟨h3⟩
  replace hvl : Kp ((valsL nodes lv nodes.length).length = nodes.length) := ⟨hvl⟩
  clear hal hg hl
  repeat' first
   | (apply z51 (id := 9) (ord := [0, 1, 2, 3, 4, 5, 6, 7, 8, 9, 10, 11, 12, 14, 15, 16, 17, 18, 19, 20, 21, 22, 23, 24, 25, 26, 27, 13, 28, 29, 30]) (ps := [(19, 27), (22, 27), (25, 27), (26, 27)]) <;> first | kernel_rfl | skip)
   | (refine zs ?_; repeat' first | apply zs0 | apply zs2 | (intro hc; try have hq := dq hc)) | fail
  refine lp_then (lp_any (c := loopAt Tryz.f97 0) rfl (hloop _ _ _ _ (by omega) ⟨[], by rw [h3.out], by (simp only [seval, push_cast, *] <;> rfl), by (simp only [seval, push_cast, *] <;> rfl), by (simp only [seval, push_cast, *] <;> rfl), by (simp only [seval, push_cast, *] <;> rfl)⟩)) ?_
  rintro ex ρ' H' ⟨junk, rfl, f5, rfl⟩ hf
  rw [← hvl.out] at f5
  clear hloop hvl h1 h2 h3 hf hn
  generalize valsL nodes lv nodes.length = vals at f5 ⊢
  repeat' first
   | (apply z51 (id := 9) (ord := [0, 1, 2, 3, 4, 5, 6, 7, 8, 9, 10, 11, 12, 14, 15, 16, 17, 18, 19, 20, 21, 22, 23, 24, 25, 26, 27, 13, 28, 29, 30]) (ps := [(19, 27), (22, 27), (25, 27), (26, 27)]) <;> first | kernel_rfl | skip)
   | (refine zs ?_; repeat' first | apply zs0 | apply zs2 | (intro hc; try have hq := dq hc)) | fail
end Go.E
/- Contracts of the references' base, in E: a step of a netlist. Own work. -/
namespace Go.E
open Go.Proofs
set_option maxRecDepth 100000
set_option maxHeartbeats 4000000

theorem kn_leaf (bs : List Nat) (H : Heap) (a b : List Int) (h : a.length + b.length ≤ 1000000) :
    callw X bs 98 [.list (a.map (.int .i64)), .list (b.map (.int .i64))] H = some (.list ((a ++ b).map (.int .i64)), H) := by
  refine known_call (fn := Tryz.f98) xf98 rfl rfl ?_
  show joinV [.list (a.map (.int .i64)), .list (b.map (.int .i64))] = _
  simp only [joinV, intsOf_map, Option.bind_some, if_pos h]
theorem fr_ints (a : List Int) (h0 : 0 < a.length) (h : a.length ≤ 1000000) : X.fresh 20 [.list (a.map (.int .i64))] = some (1, a.map (.int .i64)) := by
  show freshI [20] 20 [.list (a.map (.int .i64))] = _
  simp [freshI, intsOf_map, h0, h]
theorem fr_nils : X.fresh 20 [.list []] = none := rfl
def mixL (regs : List Reg) (vals state : List Int) (i : Nat) : List Int := nextL regs vals state i ++ state.drop i
theorem mix_len {regs : List Reg} {vals state : List Int} {i : Nat} (h : i ≤ state.length) : (mixL regs vals state i).length = state.length := by
  simp [mixL, nextL_len]; omega
theorem mix_set {regs : List Reg} {vals state : List Int} {i : Nat} {r : Reg} (hr : regs[i]? = some r) (h : i < state.length) : (mixL regs vals state i).set i (nextV vals state i r) = mixL regs vals state (i + 1) := by
  unfold mixL
  rw [nextL_succ _ _ _ _ _ hr, List.set_append_right _ _ (by rw [nextL_len]; omega), nextL_len, Nat.sub_self, List.drop_eq_getElem_cons h]
  simp only [List.set_cons_zero, List.append_assoc, List.cons_append, List.nil_append]
theorem mix_same {regs : List Reg} {vals state : List Int} {i : Nat} {r : Reg} (hr : regs[i]? = some r) (h : i < state.length) (he : nextV vals state i r = state[i]) : mixL regs vals state i = mixL regs vals state (i + 1) := by
  unfold mixL
  rw [nextL_succ _ _ _ _ _ hr, he, List.drop_eq_getElem_cons h]
  simp
section
variable (n : Netl) (vals state : List Int)
theorem ns_outs (bs : List Nat) (H : Heap) (t1 t2 : HObj) (J : List HObj) (hl : n.outs.length ≤ 1000) (hn : ∀ o ∈ n.outs, 0 ≤ o.node ∧ o.node < vals.length) :
    ∀ i ρ H', i ≤ n.outs.length → (H' = H ++ .cells (cellsNetl n) :: t1 :: t2 :: .arr (fill (fun o : Outp => .int .i64 (at0 vals o.node.toNat)) (.int .i64 0) n.outs i) 0 :: J ∧ ρ 3 = .ptr H.length 0 ∧ ρ 8 = .list (vals.map (.int .i64)) ∧
        ρ 9 = .ref 1 (H.length + 3) 0 0 n.outs.length ∧ ρ 11 = .int .i64 i) →
      Lp X ⟨75, H.length :: bs⟩ (loopAt Tryz.f30 0) ρ H' fun ex ρ' H' => H' = H ++ .cells (cellsNetl n) :: t1 :: t2 :: .arr ((outsS n vals).map (.int .i64)) 0 :: J ∧ ex = .exit 0 := by
  refine loop_up ?_ ?_
  · rintro i ρ H' hi ⟨rfl, h3, h8, h9, h11⟩
    have hget : n.outs[i]? = some n.outs[i] := by simp [hi]
    have hm := hn n.outs[i] (List.getElem_mem hi)
    have hz := fill_get (fun o : Outp => V.int .i64 (at0 vals o.node.toNat)) (.int .i64 0) n.outs i hi
    have hs := fill_set (fun o : Outp => V.int .i64 (at0 vals o.node.toNat)) (.int .i64 0) n.outs i n.outs[i] hget
    generalize n.outs[i] = o at hget hm hs
    obtain ⟨nm, nd⟩ := o
    simp only at hm hs
    obtain ⟨m, rfl⟩ : ∃ m : Nat, nd = m := ⟨nd.toNat, by omega⟩
    have hlt : m < vals.length := by omega
    have hget2 : vals[m]? = some vals[m] := by simp [hlt]
    have hat : at0 vals m = vals[m] := by simp [at0, hlt]
    simp only [Int.toNat_natCast, hat] at hs
    generalize vals[m] = z at hget2 hs
    have hw := add1 i n.outs.length hi (by omega)
    clear hm hlt hn hat
    generalize fill (fun o : Outp => V.int .i64 (at0 vals o.node.toNat)) (.int .i64 0) n.outs i = A at hz hs ⊢
    generalize fill (fun o : Outp => V.int .i64 (at0 vals o.node.toNat)) (.int .i64 0) n.outs (i + 1) = B at hs ⊢
    conv => arg 3; whnf
    all_goals try (refine zs ?_; repeat' first | apply zs0 | apply zs2 | (intro hc; try have hq := dq hc))
    exact ⟨by simp only [cellsNetl], by (simp only [seval, push_cast, *] <;> rfl), by (simp only [seval, push_cast, *] <;> rfl), by (simp only [seval, push_cast, *] <;> rfl), by (simp only [seval, push_cast, *] <;> rfl)⟩
  · rintro ρ H' ⟨rfl, h3, h8, h9, h11⟩
    rw [fill_end]
    clear hn
    conv => arg 3; whnf
    all_goals try (refine zs ?_; repeat' first | apply zs0 | apply zs2 | (intro hc; try have hq := dq hc))
    exact ⟨by simp only [cellsNetl, outsS, List.map_map]; rfl, rfl⟩

theorem ns_regs (bs : List Nat) (H : Heap) (t1 t2 t3 : HObj) (hl : n.regs.length ≤ 1000) (hs : state.length = n.regs.length) (hn : ∀ r ∈ n.regs, (0 ≤ r.enable ∧ r.enable < vals.length) ∧ 0 ≤ r.next ∧ r.next < vals.length) :
    ∀ i ρ H', i ≤ n.regs.length → (H' = H ++ .cells (cellsNetl n) :: t1 :: t2 :: t3 :: [.arr ((mixL n.regs vals state i).map (.int .i64)) 0] ∧ ρ 3 = .ptr H.length 0 ∧ ρ 8 = .list (vals.map (.int .i64)) ∧
        ρ 10 = .ref 1 (H.length + 4) 0 0 n.regs.length ∧ ρ 12 = .int .i64 i) →
      Lp X ⟨75, H.length :: bs⟩ (loopAt Tryz.f30 1) ρ H' fun ex ρ' H' => H' = H ++ .cells (cellsNetl n) :: t1 :: t2 :: t3 :: [.arr ((nextL n.regs vals state n.regs.length).map (.int .i64)) 0] ∧ ex = .exit 2 := by
  refine loop_up ?_ ?_
  · rintro i ρ H' hi ⟨rfl, h3, h8, h10, h12⟩
    have hget : n.regs[i]? = some n.regs[i] := by simp [hi]
    have hm := hn n.regs[i] (List.getElem_mem hi)
    have hst : i < state.length := by omega
    have hset := mix_set (vals := vals) hget hst
    have hsame := mix_same (vals := vals) hget hst
    have hlen := mix_len (regs := n.regs) (vals := vals) (state := state) (i := i) (by omega)
    generalize n.regs[i] = r at hget hm hset hsame
    obtain ⟨nm, wd, ini, en, nx⟩ := r
    simp only at hm
    obtain ⟨e, rfl⟩ : ∃ m : Nat, en = m := ⟨en.toNat, by omega⟩
    obtain ⟨x, rfl⟩ : ∃ m : Nat, nx = m := ⟨nx.toNat, by omega⟩
    have he : e < vals.length := by omega
    have hx : x < vals.length := by omega
    have ge : vals[e]? = some vals[e] := by simp [he]
    have gx : vals[x]? = some vals[x] := by simp [hx]
    have hv : nextV vals state i ⟨nm, wd, ini, e, x⟩ = if vals[e] = 1 then vals[x] else state[i] := by simp [nextV, at0, he, hx, hst]
    rw [hv] at hset hsame
    clear hv
    generalize vals[e] = ve at ge hset hsame
    generalize vals[x] = vx at gx hset hsame
    have hw := add1 i n.regs.length hi (by omega)
    obtain ⟨y, hgA⟩ : ∃ y, ((mixL n.regs vals state i).map (V.int .i64))[i]? = some (.int .i64 y) := ⟨(mixL n.regs vals state i)[i]'(by omega), by simp [show i < (mixL n.regs vals state i).length by omega]⟩
    clear hm he hx hn hs
    by_cases h1 : ve = 1
    · have d : decide (ve = 1) = true := decide_eq_true h1
      rw [if_pos h1] at hset
      have hs2 : ((mixL n.regs vals state i).map (V.int .i64)).set i (.int .i64 vx) = (mixL n.regs vals state (i + 1)).map (.int .i64) := by rw [← hset, List.map_set]
      clear h1 hset hsame hst hlen
      generalize (mixL n.regs vals state i).map (V.int .i64) = A at hgA hs2 ⊢
      generalize (mixL n.regs vals state (i + 1)).map (V.int .i64) = B at hs2 ⊢
      conv => arg 3; whnf
      all_goals try (refine zs ?_; repeat' first | apply zs0 | apply zs2 | (intro hc; try have hq := dq hc))
      exact ⟨by simp only [cellsNetl], by (simp only [seval, push_cast, *] <;> rfl), by (simp only [seval, push_cast, *] <;> rfl), by (simp only [seval, push_cast, *] <;> rfl), by (simp only [seval, push_cast, *] <;> rfl)⟩
    · have d : decide (ve = 1) = false := decide_eq_false h1
      rw [if_neg h1] at hsame
      have hs2 := hsame rfl
      clear h1 hset hsame hst hlen hgA
      rw [hs2]
      generalize (mixL n.regs vals state (i + 1)).map (V.int .i64) = B
      clear hs2
      conv => arg 3; whnf
      all_goals try (refine zs ?_; repeat' first | apply zs0 | apply zs2 | (intro hc; try have hq := dq hc))
      exact ⟨by simp only [cellsNetl], by (simp only [seval, push_cast, *] <;> rfl), by (simp only [seval, push_cast, *] <;> rfl), by (simp only [seval, push_cast, *] <;> rfl), by (simp only [seval, push_cast, *] <;> rfl)⟩
  · rintro ρ H' ⟨rfl, h3, h8, h10, h12⟩
    have hmx : mixL n.regs vals state n.regs.length = nextL n.regs vals state n.regs.length := by simp [mixL, ← hs]
    rw [hmx]
    clear hn hs hmx
    conv => arg 3; whnf
    all_goals try (refine zs ?_; repeat' first | apply zs0 | apply zs2 | (intro hc; try have hq := dq hc))
    exact ⟨by simp only [cellsNetl], rfl⟩
theorem ns_regs0 (bs : List Nat) (H : Heap) (t1 t2 t3 : HObj) (J : List HObj) (h0 : n.regs.length = 0) :
    ∀ i ρ H', i ≤ n.regs.length → (H' = H ++ .cells (cellsNetl n) :: t1 :: t2 :: t3 :: J ∧ ρ 3 = .ptr H.length 0 ∧ ρ 12 = .int .i64 i) →
      Lp X ⟨75, H.length :: bs⟩ (loopAt Tryz.f30 1) ρ H' fun ex ρ' H' => H' = H ++ .cells (cellsNetl n) :: t1 :: t2 :: t3 :: J ∧ ex = .exit 2 := by
  refine loop_up ?_ ?_
  · rintro i ρ H' hi _
    omega
  · rintro ρ H' ⟨rfl, h3, h12⟩
    clear h0
    conv => arg 3; whnf
    all_goals try (refine zs ?_; repeat' first | apply zs0 | apply zs2 | (intro hc; try have hq := dq hc))
    exact ⟨by simp only [cellsNetl], rfl⟩
end

theorem bs_netStep (bs : List Nat) (H : Heap) (n : Netl) (ins state : List Int) (hS : Small n) (hk : NetOk n) (hl : LeafOk (leavesN n) (ins ++ state)) (hst : state.length = n.regs.length) : callw X bs 30 [encNetl n, .list (ins.map (.int .i64)), .list (state.map (.int .i64))] H = some (.tuple [.list ((stepN n ins state).1.map (.int .i64)), .list ((stepN n ins state).2.map (.int .i64))], H) := by
  refine call_at (rs := [.tmp 6, .tmp 7]) (N := 75) (fn := Tryz.f30) xk30 xf30 rfl rfl rfl (by simp only [seval, push_cast, List.map_cons, List.map_nil, V.norm, norm1]; rfl) ?_
  have hvl : (valsN n ins state).length = n.nodes.length := valsL_len _ _ _
  have hlen := hl.1
  rw [widthsL_len, List.length_append] at hlen
  have s1 := hS.inputs
  have s2 := hS.regs
  have s3 := hS.nodes
  have s4 := hS.outs
  have t2 := fun bs H => kn_leaf bs H ins state (by omega)
  have t3 := fun bs H => bs_nodeValues bs H (leavesN n) (ins ++ state) n.nodes (by omega) (fun x hx => Nat.le_trans (hS.args x hx) (by omega)) (goodAll_of hk.nodes) hl
  have l1 := fun (bs : List Nat) (t1 t2 : HObj) (J : List HObj) (ρ : Env) => ns_outs n (valsN n ins state) bs H t1 t2 J s4 (fun o ho => by rw [hvl]; exact hk.outs o ho) 0 ρ
  have l2 := fun (bs : List Nat) (t1 t2 t3 : HObj) (ρ : Env) => ns_regs n (valsN n ins state) state bs H t1 t2 t3 s2 hst (fun r hr => by rw [hvl]; exact hk.regs r hr) 0 ρ
  have r1 := room_of (n := n.outs.length) (k := 8) (by omega) (by omega)
  have r2 := room_int (n := n.outs.length) (by omega)
  have r3 := fill_0 (fun o : Outp => V.int .i64 (at0 (valsN n ins state) o.node.toNat)) (.int .i64 0) n.outs
  replace r3 : Kp (fill (fun o : Outp => V.int .i64 (at0 (valsN n ins state) o.node.toNat)) (.int .i64 0) n.outs 0 = List.replicate n.outs.length (.int .i64 0)) := ⟨r3⟩
  unfold stepN
  have hv : valsL n.nodes (ins ++ state) n.nodes.length = valsN n ins state := rfl
  have ho : (outsS n (valsN n ins state)).length = n.outs.length := by simp [outsS]
  have hnl := nextL_len n.regs (valsN n ins state) state n.regs.length
  rw [hv] at t3
  have hmix : mixL n.regs (valsN n ins state) state 0 = state := by simp [mixL, nextL]
  generalize valsN n ins state = vals at t3 l1 l2 r3 ho hnl hmix ⊢
  replace ho : Kp ((outsS n vals).length = n.outs.length) := ⟨ho⟩
  replace hnl : Kp ((nextL n.regs vals state n.regs.length).length = n.regs.length) := ⟨hnl⟩
  replace hmix : Kp (mixL n.regs vals state 0 = state) := ⟨hmix⟩
  by_cases h0 : 0 < state.length
  · have hfr := fr_ints state h0 (by omega)
    clear hS hk hl hvl hlen s1 s2 s3 s4 hv h0
    replace hst : Kp (state.length = n.regs.length) := ⟨hst⟩
    repeat' first
     | (apply z51 (id := 1) (ord := [0, 1, 2, 3, 4, 5, 6]) (ps := [(1, 4)]) <;> first | kernel_rfl | skip)
     | (apply z51 (id := 2) (ord := [0, 1, 2, 3, 4, 5, 6, 7]) (ps := [(1, 5), (3, 5)]) <;> first | kernel_rfl | skip)
     | (refine zs ?_; repeat' first | apply zs0 | apply zs2 | (intro hc; try have hq := dq hc)) | fail
    refine lp_then (lp_any (c := loopAt Tryz.f30 0) rfl (l1 _ _ _ _ _ _ (by omega) ⟨by rw [r3.out]; rfl, by (simp only [seval, push_cast, *] <;> rfl), by (simp only [seval, push_cast, *] <;> rfl), by (simp only [seval, push_cast, *] <;> rfl), by (simp only [seval, push_cast, *] <;> rfl)⟩)) ?_
    rintro ex ρ' H' ⟨rfl, rfl⟩ hf
    have f3 := hf 3 rfl
    have f8 := hf 8 rfl
    have f9 := hf 9 rfl
    have f10 := hf 10 rfl
    simp only [seval, push_cast] at f3 f8 f9 f10
    rw [hst.out] at f10
    rw [← ho.out] at f9
    clear l1 r3 hf r1 r2
    repeat' first
     | (apply z51 (id := 1) (ord := [0, 1, 2, 3, 4, 5, 6]) (ps := [(1, 4)]) <;> first | kernel_rfl | skip)
     | (apply z51 (id := 2) (ord := [0, 1, 2, 3, 4, 5, 6, 7]) (ps := [(1, 5), (3, 5)]) <;> first | kernel_rfl | skip)
     | (refine zs ?_; repeat' first | apply zs0 | apply zs2 | (intro hc; try have hq := dq hc)) | fail
    refine lp_then (lp_any (c := loopAt Tryz.f30 1) rfl (l2 _ _ _ _ _ _ (by omega) ⟨by rw [hmix.out]; rfl, by (simp only [seval, push_cast, *] <;> rfl), by (simp only [seval, push_cast, *] <;> rfl), by (simp only [seval, push_cast, *] <;> rfl), by (simp only [seval, push_cast, *] <;> rfl)⟩)) ?_
    rintro ex ρ'' H'' ⟨rfl, rfl⟩ hf2
    have g9 := hf2 9 rfl
    have g10 := hf2 10 rfl
    simp only [seval, push_cast] at g9 g10
    rw [f9] at g9
    rw [f10, ← hnl.out] at g10
    clear l2 hf2 f3 f8 f9 f10 hfr hmix
    generalize outsS n vals = A at g9 ⊢
    generalize nextL n.regs vals state n.regs.length = B at g10 ⊢
    repeat' first
     | (apply z51 (id := 1) (ord := [0, 1, 2, 3, 4, 5, 6]) (ps := [(1, 4)]) <;> first | kernel_rfl | skip)
     | (apply z51 (id := 2) (ord := [0, 1, 2, 3, 4, 5, 6, 7]) (ps := [(1, 5), (3, 5)]) <;> first | kernel_rfl | skip)
     | (refine zs ?_; repeat' first | apply zs0 | apply zs2 | (intro hc; try have hq := dq hc)) | fail
  · have hst0 : state = [] := List.eq_nil_of_length_eq_zero (by omega)
    subst hst0
    have hr0 : n.regs.length = 0 := hst.symm
    have hrn : n.regs = [] := List.eq_nil_of_length_eq_zero hr0
    have e0 : nextL n.regs vals [] n.regs.length = [] := by rw [hr0]; rfl
    rw [e0]
    have l3 := fun (bs : List Nat) (t1 t2 t3 : HObj) (J : List HObj) (ρ : Env) => ns_regs0 n bs H t1 t2 t3 J hr0 0 ρ
    have t4 := fun bs H => bs_copyInts bs H [] (by simp)
    have hfr := fr_nils
    simp only [List.map_nil, List.append_nil] at t2 t3 t4 ⊢
    clear hS hk hl hvl hlen s1 s2 s3 s4 hv h0 hst hr0 hrn hmix hnl l2 e0
    repeat' first
     | (apply z51 (id := 1) (ord := [0, 1, 2, 3, 4, 5, 6]) (ps := [(1, 4)]) <;> first | kernel_rfl | skip)
     | (apply z51 (id := 2) (ord := [0, 1, 2, 3, 4, 5, 6, 7]) (ps := [(1, 5), (3, 5)]) <;> first | kernel_rfl | skip)
     | (refine zs ?_; repeat' first | apply zs0 | apply zs2 | (intro hc; try have hq := dq hc)) | fail
    refine lp_then (lp_any (c := loopAt Tryz.f30 0) rfl (l1 _ _ _ _ _ _ (by omega) ⟨by rw [r3.out]; rfl, by (simp only [seval, push_cast, *] <;> rfl), by (simp only [seval, push_cast, *] <;> rfl), by (simp only [seval, push_cast, *] <;> rfl), by (simp only [seval, push_cast, *] <;> rfl)⟩)) ?_
    rintro ex ρ' H' ⟨rfl, rfl⟩ hf
    have f3 := hf 3 rfl
    have f8 := hf 8 rfl
    have f9 := hf 9 rfl
    have f10 := hf 10 rfl
    simp only [seval, push_cast] at f3 f8 f9 f10
    rw [← ho.out] at f9
    clear l1 r3 hf r1 r2
    repeat' first
     | (apply z51 (id := 1) (ord := [0, 1, 2, 3, 4, 5, 6]) (ps := [(1, 4)]) <;> first | kernel_rfl | skip)
     | (apply z51 (id := 2) (ord := [0, 1, 2, 3, 4, 5, 6, 7]) (ps := [(1, 5), (3, 5)]) <;> first | kernel_rfl | skip)
     | (refine zs ?_; repeat' first | apply zs0 | apply zs2 | (intro hc; try have hq := dq hc)) | fail
    refine lp_then (lp_any (c := loopAt Tryz.f30 1) rfl (l3 _ _ _ _ _ _ _ (by omega) ⟨rfl, by (simp only [seval, push_cast, *] <;> rfl), by (simp only [seval, push_cast, *] <;> rfl)⟩)) ?_
    rintro ex ρ'' H'' ⟨rfl, rfl⟩ hf2
    have g9 := hf2 9 rfl
    have g10 := hf2 10 rfl
    simp only [seval, push_cast] at g9 g10
    rw [f9] at g9
    rw [f10] at g10
    clear l3 hf2 f3 f8 f9 f10 hfr
    generalize outsS n vals = A at g9 ⊢
    repeat' first
     | (apply z51 (id := 1) (ord := [0, 1, 2, 3, 4, 5, 6]) (ps := [(1, 4)]) <;> first | kernel_rfl | skip)
     | (apply z51 (id := 2) (ord := [0, 1, 2, 3, 4, 5, 6, 7]) (ps := [(1, 5), (3, 5)]) <;> first | kernel_rfl | skip)
     | (refine zs ?_; repeat' first | apply zs0 | apply zs2 | (intro hc; try have hq := dq hc)) | fail
end Go.E
/- Contracts of chapter 22, in E: pairs of states. Own work. -/
namespace Go.E
open Go.Proofs
set_option maxRecDepth 100000
set_option maxHeartbeats 4000000
def encPair (p : NPair) : V := .agg [encInts p.a, encInts p.b]
attribute [push_cast] encPair
theorem pure_encPair (p : NPair) : (encPair p).pure = true := by simp only [encPair, encInts, V.pure, V.pureL, pureL_int, Bool.and_self]
theorem pureL_encPair (l : List NPair) : V.pureL (l.map encPair) = true := pureL_map pure_encPair
theorem all_encPair (l : List NPair) : (l.map encPair).all (fun e => e.cells.length == 2) = true := all_cells_map fun _ => rfl
attribute [push_cast] pureL_encPair all_encPair
structure PLen (p : NPair) : Prop where
  a : p.a.length ≤ 1000000
  b : p.b.length ≤ 1000000
theorem npair_eq {p q : NPair} : p = q ↔ p.a = q.a ∧ p.b = q.b := by cases p; cases q; simp
def encCouple (a b : Netl) : V := .agg (cellsNetl a ++ cellsNetl b)
attribute [push_cast] encCouple

/-! each[api.NetPair], of values that encPair writes -/
theorem netlist_each_NPair (bs : List Nat) (H : Heap) {S : Type} (HS : S → Heap) (fid : Nat) (caps : List V) (g : Nat → NPair → S → Int × S) (l : List NPair) (hl : l.length ≤ 1000000) (hf : Does X encPair HS fid caps g l) (s : S) (junk : Heap) (hH : Kp (H = HS s ++ junk)) (hsl : ∀ s t, (HS s).length = (HS t).length) : callw X bs 110 [.list (l.map encPair), .func fid caps] H = some (.tuple [.int .i64 (eachL g 0 l s).1.1, .int .i64 (eachL g 0 l s).1.2], HS (eachL g 0 l s).2 ++ junk) := by
  refine call_at (rs := [.tmp 4, .tmp 5]) (N := 25) (fn := Tryz.f110) xk110 xf110 rfl rfl rfl (by simp only [seval, push_cast, List.map_cons, List.map_nil, V.norm, norm1]; rfl) ?_
  have key : ∀ (R : (Int × Int) × S) (bs : List Nat) i ρ H', i ≤ l.length → (∃ s junk2, H' = HS s ++ (junk ++ junk2) ∧ ρ 1 = .func fid caps ∧ ρ 9 = .list (l.map encPair) ∧ ρ 10 = .int .i64 l.length ∧ ρ 11 = .int .i64 i ∧ Kp (eachL g i (l.drop i) s = R)) →
      Lp X ⟨25, bs⟩ (loopAt Tryz.f110 0) ρ H' fun ex ρ' H' => ∃ junk2, H' = HS R.2 ++ (junk ++ junk2) ∧ ((ex = .exit 0 ∧ R.1 = (0, 0)) ∨ (ex = .ret ∧ ρ' 4 = .int .i64 R.1.1 ∧ ρ' 5 = .int .i64 R.1.2)) := by
    intro R bs
    refine loop_up ?_ ?_
    · rintro i ρ H' hi ⟨s, junk2, hH2, h1, h9, h10, h11, hR⟩
      have hget : l[i]? = some l[i] := by simp [hi]
      generalize l[i] = x at hget
      have hw := add1 i l.length hi hl
      replace hR := hR.out
      rw [drop_cons hget, eachL] at hR
      replace hR : Kp ((if (g i x s).1 ≠ 0 then (((i : Int), (g i x s).1), (g i x s).2) else eachL g (i + 1) (l.drop (i + 1)) (g i x s).2) = R) := ⟨hR⟩
      have hcall := fun bs (y : List HObj) => hf bs i x s (junk ++ (junk2 ++ y)) hget
      have e1 : ∀ y : List HObj, HS s ++ (junk ++ (junk2 ++ y)) = H' ++ y := fun y => by rw [hH2]; simp
      simp only [e1, seval, push_cast] at hcall
      replace e1 : Kp (H' = HS s ++ (junk ++ junk2)) := ⟨hH2⟩
      clear hH2 hf hl
      have hcall0 := fun bs => hcall bs []
      simp only [List.append_nil] at hcall0
      conv => arg 3; whnf
      all_goals try (refine zs ?_; repeat' first | apply zs0 | apply zs2 | (intro hc; try have hq := dq hc))
      · have hc : (g i x s).1 ≠ 0 := by simpa using hc
        rw [← hR.out, if_pos hc]
        exact ⟨_, by first | rfl | (simp only [List.append_assoc]; rfl), .inr ⟨rfl, by (simp only [seval, push_cast, *] <;> rfl), by (simp only [seval, push_cast, *] <;> rfl)⟩⟩
      · have hc : (g i x s).1 = 0 := by simpa using hc
        exact ⟨_, _, by first | rfl | (simp only [List.append_assoc]; rfl), by (simp only [seval, push_cast, *] <;> rfl), by (simp only [seval, push_cast, *] <;> rfl), by (simp only [seval, push_cast, *] <;> rfl), by (simp only [seval, push_cast, *] <;> rfl), ⟨by rw [← hR.out, if_neg (by simp [hc])]⟩⟩
    · rintro ρ H' ⟨s, junk2, hH2, h1, h9, h10, h11, hR⟩
      replace hR := hR.out
      rw [List.drop_length, eachL] at hR
      clear hf
      conv => arg 3; whnf
      all_goals try (refine zs ?_; repeat' first | apply zs0 | apply zs2 | (intro hc; try have hq := dq hc))
      rw [← hR]
      exact ⟨junk2, by simp, .inl ⟨rfl, rfl⟩⟩
  have key2 := fun bs ρ => key (eachL g 0 l s) bs 0 ρ H (by omega)
  clear hf
  all_goals try (refine zs ?_; repeat' first | apply zs0 | apply zs2 | (intro hc; try have hq := dq hc))
  refine lp_then (lp_any (c := loopAt Tryz.f110 0) rfl (key2 _ _ ⟨s, [], by simp [hH.out], by (simp only [seval, push_cast, *] <;> rfl), by (simp only [seval, push_cast, *] <;> rfl), by (simp only [seval, push_cast, *] <;> rfl), by (simp only [seval, push_cast, *] <;> rfl), ⟨by simp⟩⟩)) ?_
  have hlen : ∀ t junk2, (HS t ++ (junk ++ junk2)).take H.length = HS t ++ junk := fun t junk2 => by
    rw [← List.append_assoc]; exact List.take_left' (by rw [hH.out]; simp [hsl t s])
  rintro ex ρ' H' ⟨junk2, rfl, ⟨rfl, h2⟩ | ⟨rfl, h2, h3⟩⟩ hf2
  · rw [h2]
    all_goals try (refine zs ?_; repeat' first | apply zs0 | apply zs2 | (intro hc; try have hq := dq hc))
  · all_goals try (refine zs ?_; repeat' first | apply zs0 | apply zs2 | (intro hc; try have hq := dq hc))
theorem netlist_each_NPair_p (bs : List Nat) (H : Heap) (fid : Nat) (caps : List V) (g : Nat → NPair → Int) (l : List NPair) (hl : l.length ≤ 1000000) (hf : ∀ bs (i : Nat) x junk, l[i]? = some x → callw X bs fid (.int .i64 i :: encPair x :: caps) (H ++ junk) = some (.int .i64 (g i x), H ++ junk)) :
    callw X bs 110 [.list (l.map encPair), .func fid caps] H = some (.tuple [.int .i64 (eachP g 0 l).1, .int .i64 (eachP g 0 l).2], H) := by
  have := netlist_each_NPair bs H (S := Unit) (fun _ => H) fid caps (fun i x u => (g i x, u)) l hl (fun bs i x _ junk h => hf bs i x junk h) () [] ⟨by simp⟩ (fun _ _ => rfl)
  rw [eachL_P] at this
  simpa using this

theorem nl_compare (bs : List Nat) (H : Heap) (p q : NPair) (h1 : PLen p) (h2 : PLen q) : callw X bs 112 [encPair p, encPair q] H = some (.int .i64 (cmpP p q), H) := by
  refine call_at (rs := [.tmp 4]) (N := 19) (fn := Tryz.f112) xk112 xf112 rfl rfl rfl (by simp only [seval, push_cast, List.map_cons, List.map_nil, V.norm, norm1]; rfl) ?_
  have t1 := fun bs H => sl_cmpInts bs H p.a q.a h1.a h2.a
  have t2 := fun bs H => sl_cmpInts bs H p.b q.b h1.b h2.b
  unfold cmpP
  generalize cmpL p.a q.a = c at t1 ⊢
  generalize cmpL p.b q.b = d at t2 ⊢
  clear h1 h2
  rcases Classical.em (c = 0) with h | h
  · have dd : (decide ¬ c = 0) = false := by simp [h]
    rw [if_neg (by simp [h])]
    clear h
    all_goals try (refine zs ?_; repeat' first | apply zs0 | apply zs2 | (intro hc; try have hq := dq hc))
  · have dd : (decide ¬ c = 0) = true := by simp [h]
    rw [if_pos h]
    clear h
    all_goals try (refine zs ?_; repeat' first | apply zs0 | apply zs2 | (intro hc; try have hq := dq hc))

theorem rf_samePair (bs : List Nat) (H : Heap) (p q : NPair) (h1 : PLen p) (h2 : PLen q) : callw X bs 132 [encPair p, encPair q] H = some (.bool (decide (p = q)), H) := by
  refine call_at (rs := [.tmp 4]) (N := 17) (fn := Tryz.f132) xk132 xf132 rfl rfl rfl (by simp only [seval, push_cast, List.map_cons, List.map_nil, V.norm, norm1]; rfl) ?_
  have t1 := fun bs H => bs_ints bs H p.a q.a h1.a h2.a
  have t2 := fun bs H => bs_ints bs H p.b q.b h1.b h2.b
  have e : decide (p = q) = (decide (p.a = q.a) && decide (p.b = q.b)) := by rw [← Bool.decide_and]; exact decide_eq_decide.2 npair_eq
  rw [e]
  generalize decide (p.a = q.a) = c at t1 ⊢
  generalize decide (p.b = q.b) = d at t2 ⊢
  clear h1 h2 e
  cases c with
  | true =>
    all_goals try (refine zs ?_; repeat' first | apply zs0 | apply zs2 | (intro hc; try have hq := dq hc))
  | false =>
    all_goals try (refine zs ?_; repeat' first | apply zs0 | apply zs2 | (intro hc; try have hq := dq hc))

theorem rf_before (bs : List Nat) (H : Heap) (p q : NPair) (h1 : PLen p) (h2 : PLen q) : callw X bs 118 [encPair p, encPair q] H = some (.bool (befP p q), H) := by
  refine call_at (rs := [.tmp 4]) (N := 24) (fn := Tryz.f118) xk118 xf118 rfl rfl rfl (by simp only [seval, push_cast, List.map_cons, List.map_nil, V.norm, norm1]; rfl) ?_
  have t1 := fun bs H => bs_ints bs H p.a q.a h1.a h2.a
  have t2 := fun bs H => bs_before bs H p.a q.a h1.a h2.a
  have t3 := fun bs H => bs_before bs H p.b q.b h1.b h2.b
  unfold befP
  generalize decide (p.a = q.a) = c at t1 ⊢
  generalize befL p.a q.a = d at t2 ⊢
  generalize befL p.b q.b = e at t3 ⊢
  clear h1 h2
  cases d with
  | true =>
    all_goals try (refine zs ?_; repeat' first | apply zs0 | apply zs2 | (intro hc; try have hq := dq hc))
  | false =>
    cases c with
    | true =>
      all_goals try (refine zs ?_; repeat' first | apply zs0 | apply zs2 | (intro hc; try have hq := dq hc))
    | false =>
      all_goals try (refine zs ?_; repeat' first | apply zs0 | apply zs2 | (intro hc; try have hq := dq hc))

theorem rf_hasPair (bs : List Nat) (H : Heap) (l : List NPair) (t : NPair) (hl : l.length ≤ 1000000) (hp : ∀ p ∈ l, PLen p) (ht : PLen t) : callw X bs 119 [.list (l.map encPair), encPair t] H = some (.bool (decide (t ∈ l)), H) := by
  refine call_at (rs := [.tmp 4]) (N := 18) (fn := Tryz.f119) xk119 xf119 rfl rfl rfl (by simp only [seval, push_cast, List.map_cons, List.map_nil, V.norm, norm1]; rfl) ?_
  have key : ∀ (R : Bool) (bs : List Nat) i ρ H', i ≤ l.length → (H' = H ++ [.cells [encInts t.a, encInts t.b]] ∧ ρ 0 = .list (l.map encPair) ∧ ρ 3 = .ptr H.length 0 ∧ ρ 5 = .int .i64 i ∧ Kp (decide (t ∈ l.drop i) = R)) →
      Lp X ⟨18, bs⟩ (loopAt Tryz.f119 0) ρ H' fun ex ρ' H' => H' = H ++ [.cells [encInts t.a, encInts t.b]] ∧ ((ex = .exit 0 ∧ R = false) ∨ (ex = .ret ∧ ρ' 4 = .bool true ∧ R = true)) := by
    intro R bs
    refine loop_up ?_ ?_
    · rintro i ρ H' hi ⟨rfl, h0, h3, h5, hR⟩
      have hget : l[i]? = some l[i] := by simp [hi]
      have hpx := hp l[i] (List.getElem_mem hi)
      generalize l[i] = x at hget hpx
      have hw := add1 i l.length hi hl
      have t1 := fun bs H => rf_samePair bs H x t hpx ht
      simp only [encPair, encInts] at t1
      replace hR := hR.out
      rw [drop_cons hget] at hR
      have e : decide (t ∈ x :: l.drop (i + 1)) = (decide (x = t) || decide (t ∈ l.drop (i + 1))) := by rw [← Bool.decide_or]; exact decide_eq_decide.2 (by rw [List.mem_cons, eq_comm])
      rw [e] at hR
      clear e hpx hp ht
      generalize decide (x = t) = c at t1 hR
      cases c with
      | true =>
        replace hR : true = R := hR
        replace hR := Kp.mk hR
        conv => arg 3; whnf
        repeat' first
         | (apply z50 (id := 4) (ord := [0, 1, 2, 3, 4, 5]) <;> first | kernel_rfl | skip)
         | (refine zs ?_; repeat' first | apply zs0 | apply zs2 | (intro hc; try have hq := dq hc)) | fail
        exact ⟨by (simp only [seval, push_cast, *] <;> rfl), .inr ⟨rfl, by (simp only [seval, push_cast, *] <;> rfl), hR.out.symm⟩⟩
      | false =>
        rw [Bool.false_or] at hR
        replace hR := Kp.mk hR
        conv => arg 3; whnf
        repeat' first
         | (apply z50 (id := 4) (ord := [0, 1, 2, 3, 4, 5]) <;> first | kernel_rfl | skip)
         | (refine zs ?_; repeat' first | apply zs0 | apply zs2 | (intro hc; try have hq := dq hc)) | fail
        exact ⟨by (simp only [seval, push_cast, *] <;> rfl), by (simp only [seval, push_cast, *] <;> rfl), by (simp only [seval, push_cast, *] <;> rfl), by (simp only [seval, push_cast, *] <;> rfl), hR⟩
    · rintro ρ H' ⟨rfl, h0, h3, h5, hR⟩
      replace hR := hR.out
      rw [List.drop_length] at hR
      replace hR : Kp (false = R) := ⟨by rw [← hR]; simp⟩
      clear hp ht
      conv => arg 3; whnf
      repeat' first
       | (apply z50 (id := 4) (ord := [0, 1, 2, 3, 4, 5]) <;> first | kernel_rfl | skip)
       | (refine zs ?_; repeat' first | apply zs0 | apply zs2 | (intro hc; try have hq := dq hc)) | fail
      exact ⟨by (simp only [seval, push_cast, *] <;> rfl), .inl ⟨rfl, hR.out.symm⟩⟩
  have k1 := fun bs ρ => key (decide (t ∈ l)) bs 0 ρ (H ++ [.cells [encInts t.a, encInts t.b]]) (by omega)
  have e0 : Kp (decide (t ∈ l.drop 0) = decide (t ∈ l)) := ⟨by rw [List.drop_zero]⟩
  clear key hp ht
  generalize decide (t ∈ l) = R at k1 e0 ⊢
  repeat' first
   | (apply z50 (id := 4) (ord := [0, 1, 2, 3, 4, 5]) <;> first | kernel_rfl | skip)
   | (refine zs ?_; repeat' first | apply zs0 | apply zs2 | (intro hc; try have hq := dq hc)) | fail
  refine lp_then (lp_any (c := loopAt Tryz.f119 0) rfl (k1 _ _ ⟨rfl, by (simp only [seval, push_cast, *] <;> rfl), by (simp only [seval, push_cast, *] <;> rfl), by (simp only [seval, push_cast, *] <;> rfl), e0⟩)) ?_
  clear k1
  rintro ex ρ' H' ⟨rfl, ⟨rfl, rfl⟩ | ⟨rfl, h2, rfl⟩⟩ hf
  · clear hf
    repeat' first
     | (apply z50 (id := 4) (ord := [0, 1, 2, 3, 4, 5]) <;> first | kernel_rfl | skip)
     | (refine zs ?_; repeat' first | apply zs0 | apply zs2 | (intro hc; try have hq := dq hc)) | fail
  · clear hf
    repeat' first
     | (apply z50 (id := 4) (ord := [0, 1, 2, 3, 4, 5]) <;> first | kernel_rfl | skip)
     | (refine zs ?_; repeat' first | apply zs0 | apply zs2 | (intro hc; try have hq := dq hc)) | fail

theorem room48 (n : Nat) (h : n ≤ 1000000) : (n + 1) * 48 ≤ roomB := by unfold roomB; omega
theorem rf_copyPairs (bs : List Nat) (H : Heap) (l : List NPair) (hl : l.length ≤ 1000) (hll : ∀ x ∈ l, PLen x) : callw X bs 39 [.list (l.map encPair)] H = some (.list (l.map encPair), H) := by
  refine call_at (rs := [.tmp 2]) (N := 28) (fn := Tryz.f39) xk39 xf39 rfl rfl rfl (by simp only [seval, push_cast, List.map_cons, List.map_nil, V.norm, norm1]; rfl) ?_
  have key : ∀ (t : HObj) (bs : List Nat) i ρ H', i ≤ l.length → (∃ ls junk, ls = l.take i ∧ H' = H ++ t :: .tok ls.length :: junk ∧ ρ 0 = .list (l.map encPair) ∧ ρ 3 = .tl (H.length + 1) (ls.map encPair) ∧ ρ 4 = .int .i64 i) →
      Lp X ⟨28, bs⟩ (loopAt Tryz.f39 0) ρ H' fun ex ρ' H' => ∃ junk, H' = H ++ t :: .tok l.length :: junk ∧ ex = .exit 0 ∧ ρ' 3 = .tl (H.length + 1) (l.map encPair) := by
    intro t bs
    refine loop_up ?_ ?_
    · rintro i ρ H' hlt ⟨ls, junk, hls, rfl, h0, h3, h4⟩
      have hget : l[i]? = some l[i] := by simp [hlt]
      have hx := hll l[i] (List.getElem_mem hlt)
      have htk : l.take (i + 1) = ls ++ [l[i]] := by rw [List.take_add_one, hget, hls]; rfl
      generalize l[i] = x at hget hx htk
      have t1 := fun bs H => bs_copyInts bs H x.a hx.a
      have t2 := fun bs H => bs_copyInts bs H x.b hx.b
      have hlen : ls.length = i := by rw [hls]; simp; omega
      have hroom := room48 ls.length (by omega)
      have hw := add1 i l.length hlt (by omega)
      replace hls : Kp (ls = l.take i) := ⟨hls⟩
      replace htk : Kp (l.take (i + 1) = ls ++ [x]) := ⟨htk⟩
      replace hlen : Kp (ls.length = i) := ⟨hlen⟩
      clear hx hll
      conv => arg 3; whnf
      repeat' first
       | (apply z51 (id := 5) (ord := [0, 1, 2, 3, 4, 5, 7, 8, 9, 10, 11, 6, 12, 13, 14, 15, 16]) (ps := [(10, 11)]) <;> first | kernel_rfl | skip)
       | (refine zs ?_; repeat' first | apply zs0 | apply zs2 | (intro hc; try have hq := dq hc)) | fail
      exact ⟨ls ++ [x], _, htk.out.symm, by simp only [List.length_append, List.length_singleton]; rfl, by (simp only [seval, push_cast, *] <;> rfl), by simp [push_cast], by (simp only [seval, push_cast, *] <;> rfl)⟩
    · rintro ρ H' ⟨ls, junk, hls, rfl, h0, h3, h4⟩
      rw [List.take_length] at hls
      subst hls
      clear hll
      conv => arg 3; whnf
      repeat' first
       | (apply z51 (id := 5) (ord := [0, 1, 2, 3, 4, 5, 7, 8, 9, 10, 11, 6, 12, 13, 14, 15, 16]) (ps := [(10, 11)]) <;> first | kernel_rfl | skip)
       | (refine zs ?_; repeat' first | apply zs0 | apply zs2 | (intro hc; try have hq := dq hc)) | fail
      exact ⟨junk, rfl, rfl, by (simp only [seval, push_cast, *] <;> rfl)⟩
  clear hll
  repeat' first
   | (apply z51 (id := 5) (ord := [0, 1, 2, 3, 4, 5, 7, 8, 9, 10, 11, 6, 12, 13, 14, 15, 16]) (ps := [(10, 11)]) <;> first | kernel_rfl | skip)
   | (refine zs ?_; repeat' first | apply zs0 | apply zs2 | (intro hc; try have hq := dq hc)) | fail
  refine lp_then (lp_any (c := loopAt Tryz.f39 0) rfl (key _ _ 0 _ _ (by omega) ⟨[], [], rfl, rfl, by (simp only [seval, push_cast, *] <;> rfl), by (simp only [seval, push_cast, *] <;> rfl), by (simp only [seval, push_cast, *] <;> rfl)⟩)) ?_
  rintro ex ρ' H' ⟨junk, rfl, rfl, h3⟩ hf
  clear key hf
  repeat' first
   | (apply z51 (id := 5) (ord := [0, 1, 2, 3, 4, 5, 7, 8, 9, 10, 11, 6, 12, 13, 14, 15, 16]) (ps := [(10, 11)]) <;> first | kernel_rfl | skip)
   | (refine zs ?_; repeat' first | apply zs0 | apply zs2 | (intro hc; try have hq := dq hc)) | fail

/-- What a clock of a netlist wants. -/
structure CkOk (n : Netl) (x st : List Int) : Prop where
  hS : Small n
  hk : NetOk n
  hl : LeafOk (leavesN n) (x ++ st)
  hr : st.length = n.regs.length
theorem outsS_len (n : Netl) (x st : List Int) : (stepN n x st).1.length = n.outs.length := by simp [stepN, outsS]
theorem nextS_len (n : Netl) (x st : List Int) : (stepN n x st).2.length = n.regs.length := nextL_len _ _ _ _

theorem nl_creset (bs : List Nat) (H : Heap) (a b : Netl) (ha : a.regs.length ≤ 1000) (hb : b.regs.length ≤ 1000) : callw X bs 115 [encCouple a b] H = some (encPair (resetP a b), H) := by
  refine call_at (rs := [.cell 2 69]) (N := 10) (fn := Tryz.f115) xk115 xf115 rfl rfl rfl (by simp only [seval, push_cast, List.map_cons, List.map_nil, V.norm, norm1]; rfl) ?_
  have t1 := fun bs H => nl_reset bs H a ha
  have t2 := fun bs H => nl_reset bs H b hb
  unfold resetP
  have e1 : resetN a = a.regs.map (·.init) := rfl
  have e2 : resetN b = b.regs.map (·.init) := rfl
  rw [← e1, ← e2]
  simp only [encNetl, cellsNetl] at t1 t2
  generalize resetN a = r at t1 ⊢
  generalize resetN b = s at t2 ⊢
  clear e1 e2
  repeat' first
   | (apply z51 (id := 1) (ord := [0, 1, 3, 4, 2, 5, 6, 7]) (ps := [(3, 4)]) <;> first | kernel_rfl | skip)
   | (refine zs ?_; repeat' first | apply zs0 | apply zs2 | (intro hc; try have hq := dq hc)) | fail

theorem nl_cclock (bs : List Nat) (H : Heap) (a b : Netl) (x : List Int) (p : NPair) (ha : CkOk a x p.a) (hb : CkOk b x p.b) : callw X bs 117 [encCouple a b, .list (x.map (.int .i64)), encPair p] H = some (.tuple [.bool (decide ((stepN a x p.a).1 = (stepN b x p.b).1)), encPair (nextP a b p x)], H) := by
  refine call_at (rs := [.tmp 6, .cell 7 69]) (N := 36) (fn := Tryz.f117) xk117 xf117 rfl rfl rfl (by simp only [seval, push_cast, List.map_cons, List.map_nil, V.norm, norm1]; rfl) ?_
  have t1 := fun bs H => nl_clock bs H a x p.a ha.hS ha.hk ha.hl ha.hr
  have t2 := fun bs H => nl_clock bs H b x p.b hb.hS hb.hk hb.hl hb.hr
  have t3 := fun bs H => sl_eqInts bs H (stepN a x p.a).1 (stepN b x p.b).1 (by rw [outsS_len]; have := ha.hS.outs; omega) (by rw [outsS_len]; have := hb.hS.outs; omega)
  unfold nextP
  simp only [encNetl, cellsNetl] at t1 t2
  generalize stepN a x p.a = q at t1 t3 ⊢
  generalize stepN b x p.b = r at t2 t3 ⊢
  clear ha hb
  all_goals try (refine zs ?_; repeat' first | apply zs0 | apply zs2 | (intro hc; try have hq := dq hc))

theorem rf_differ (bs : List Nat) (H : Heap) (a b : Netl) (x : List Int) (p : NPair) (ha : CkOk a x p.a) (hb : CkOk b x p.b) : callw X bs 120 [encNetl a, encNetl b, .list (x.map (.int .i64)), encPair p] H = some (.bool (!decide ((stepN a x p.a).1 = (stepN b x p.b).1)), H) := by
  refine call_at (rs := [.tmp 8]) (N := 33) (fn := Tryz.f120) xk120 xf120 rfl rfl rfl (by simp only [seval, push_cast, List.map_cons, List.map_nil, V.norm, norm1]; rfl) ?_
  have t1 := fun bs H => bs_netStep bs H a x p.a ha.hS ha.hk ha.hl ha.hr
  have t2 := fun bs H => bs_netStep bs H b x p.b hb.hS hb.hk hb.hl hb.hr
  have t3 := fun bs H => bs_ints bs H (stepN a x p.a).1 (stepN b x p.b).1 (by rw [outsS_len]; have := ha.hS.outs; omega) (by rw [outsS_len]; have := hb.hS.outs; omega)
  simp only [encNetl, cellsNetl] at t1 t2
  generalize stepN a x p.a = q at t1 t3 ⊢
  generalize stepN b x p.b = r at t2 t3 ⊢
  clear ha hb
  all_goals try (refine zs ?_; repeat' first | apply zs0 | apply zs2 | (intro hc; try have hq := dq hc))

end Go.E
/- Contracts of chapter 22, in E: two netlists. Own work. -/
namespace Go.E
open Go.Proofs
set_option maxRecDepth 100000
set_option maxHeartbeats 4000000

theorem nl_le1 (bs : List Nat) (H : Heap) (n : Netl) (i : Int) (l : List Int) (a : Nat) (hS : Small n) (hk : NetOk n) (hl : l.length ≤ 100000) (hA : H[a]? = some (.cells (cellsNetl n))) : callw X bs 158 [.int .i64 i, .list (l.map (.int .i64)), .ptr a 0] H = some (.int .i64 (inErrS n l), H) := by
  refine call_at (rs := [.tmp 5]) (N := 9) (fn := Tryz.f158) xk158 xf158 rfl rfl rfl (by simp only [seval, push_cast, List.map_cons, List.map_nil, V.norm, norm1]; rfl) ?_
  have t1 := fun bs H => nl_inputsErr bs H n l hS.inputs hS.regs (by omega) (fun w hw => by have := inW_1 hk w hw; omega)
  simp only [encNetl, cellsNetl] at t1 hA
  clear hS hk
  all_goals try (refine zs ?_; repeat' first | apply zs0 | apply zs2 | (intro hc; try have hq := dq hc))

theorem nl_listsErr (bs : List Nat) (H : Heap) (n : Netl) (l : List (List Int)) (hS : Small n) (hk : NetOk n) (hl : l.length ≤ 1000) (hll : ∀ x ∈ l, x.length ≤ 100000) : callw X bs 121 [encNetl n, .list (l.map encInts)] H = some (.int .i64 (listsErrS n l), H) := by
  refine call_at (rs := [.tmp 4]) (N := 28) (fn := Tryz.f121) xk121 xf121 rfl rfl rfl (by simp only [seval, push_cast, List.map_cons, List.map_nil, V.norm, norm1]; rfl) ?_
  unfold listsErrS
  by_cases h0 : l = []
  · subst h0
    clear hS hk hll
    all_goals try (refine zs ?_; repeat' first | apply zs0 | apply zs2 | (intro hc; try have hq := dq hc))
  · have hpos : 0 < l.length := by cases l with | nil => exact absurd rfl h0 | cons x r => simp
    have d1 : decide ((l.length : Int) > 0) = true := decide_eq_true (by omega)
    rw [if_neg h0]
    clear h0 hpos
    by_cases h1 : 16 < l.length
    · have d2 : decide ((l.length : Int) ≤ 16) = false := decide_eq_false (by omega)
      rw [if_pos h1]
      clear h1 hS hk hll
      all_goals try (refine zs ?_; repeat' first | apply zs0 | apply zs2 | (intro hc; try have hq := dq hc))
    · have d2 : decide ((l.length : Int) ≤ 16) = true := decide_eq_true (by omega)
      rw [if_neg h1]
      have t2 := fun (bs : List Nat) (rest : List HObj) => netlist_each_Ints_p bs (H ++ HObj.cells (cellsNetl n) :: rest) 158 [.ptr H.length 0] (fun _ x => inErrS n x) l (by omega)
        (fun bs i x junk hx => nl_le1 bs ((H ++ HObj.cells (cellsNetl n) :: rest) ++ junk) n i x H.length hS hk (hll x (List.mem_of_getElem? hx)) (by simp))
      simp only [cellsNetl] at t2
      generalize eachP (fun _ x => inErrS n x) 0 l = r at t2 ⊢
      clear h1 hS hk hll
      all_goals try (refine zs ?_; repeat' first | apply zs0 | apply zs2 | (intro hc; try have hq := dq hc))

theorem rf_listsErr (bs : List Nat) (H : Heap) (n : Netl) (l : List (List Int)) (hS : Small n) (hk : NetOk n) (hl : l.length ≤ 1000) (hll : ∀ x ∈ l, x.length ≤ 100000) : callw X bs 41 [encNetl n, .list (l.map encInts)] H = some (.int .i64 (listsErrS n l), H) := by
  refine call_at (rs := [.tmp 4]) (N := 14) (fn := Tryz.f41) xk41 xf41 rfl rfl rfl (by simp only [seval, push_cast, List.map_cons, List.map_nil, V.norm, norm1]; rfl) ?_
  unfold listsErrS
  by_cases h0 : l = []
  · subst h0
    clear hS hk hll
    all_goals try (refine zs ?_; repeat' first | apply zs0 | apply zs2 | (intro hc; try have hq := dq hc))
  · have hpos : 0 < l.length := by cases l with | nil => exact absurd rfl h0 | cons x r => simp
    have d1 : decide ((l.length : Int) = 0) = false := decide_eq_false (by omega)
    rw [if_neg h0]
    clear h0 hpos
    by_cases h1 : 16 < l.length
    · have d2 : decide ((l.length : Int) > 16) = true := decide_eq_true (by omega)
      rw [if_pos h1]
      clear h1 hS hk hll
      all_goals try (refine zs ?_; repeat' first | apply zs0 | apply zs2 | (intro hc; try have hq := dq hc))
    · have d2 : decide ((l.length : Int) > 16) = false := decide_eq_false (by omega)
      rw [if_neg h1]
      have t2 := fun bs H => rf_allErr bs H n l hS.inputs hS.regs hl hll (fun w hw => by have := inW_1 hk w hw; omega)
      simp only [encNetl, cellsNetl] at t2
      generalize (eachP (fun _ x => inErrS n x) 0 l).2 = r at t2 ⊢
      clear h1 hS hk hll
      all_goals try (refine zs ?_; repeat' first | apply zs0 | apply zs2 | (intro hc; try have hq := dq hc))

theorem widthAt_get {n : Netl} {m : Nat} {x : Node} (h : n.nodes[m]? = some x) : widthAt n (m : Int) = x.width := by unfold widthAt; rw [Int.toNat_natCast, h]

theorem nl_ob1 (bs : List Nat) (H : Heap) (a b : Netl) (p q : Outp) (ha hb : Nat) (hA : H[ha]? = some (.cells (cellsNetl a))) (hB : H[hb]? = some (.cells (cellsNetl b))) (hp : 0 ≤ p.node ∧ p.node < a.nodes.length) (hq : 0 ≤ q.node ∧ q.node < b.nodes.length) : callw X bs 157 [encOutp p, encOutp q, .ptr ha 0, .ptr hb 0] H = some (.bool (outAs a b p q), H) := by
  refine call_at (rs := [.tmp 6]) (N := 29) (fn := Tryz.f157) xk157 xf157 rfl rfl rfl (by simp only [seval, push_cast, List.map_cons, List.map_nil, V.norm, norm1]; rfl) ?_
  obtain ⟨pn, pd⟩ := p
  obtain ⟨qn, qd⟩ := q
  simp only at hp hq
  obtain ⟨i, rfl⟩ : ∃ m : Nat, pd = m := ⟨pd.toNat, by omega⟩
  obtain ⟨j, rfl⟩ : ∃ m : Nat, qd = m := ⟨qd.toNat, by omega⟩
  have hi : i < a.nodes.length := by omega
  have hj : j < b.nodes.length := by omega
  have g1 : a.nodes[i]? = some a.nodes[i] := by simp [hi]
  have g2 : b.nodes[j]? = some b.nodes[j] := by simp [hj]
  unfold outAs
  simp only [widthAt_get g1, widthAt_get g2]
  generalize a.nodes[i] = x at g1 ⊢
  generalize b.nodes[j] = y at g2 ⊢
  have hA2 := get_app hA
  have hB2 := get_app hB
  simp only [cellsNetl] at hA2 hB2
  clear hp hq hi hj hA hB
  by_cases h : pn = qn
  · rw [decide_eq_true h, Bool.true_and]
    repeat' first
     | (apply z50 (id := 1) (ord := [0, 1, 2, 3, 4, 5, 6, 7, 8, 9, 10, 11, 12, 13, 14, 15, 16, 17, 18, 19, 20, 21, 22]) <;> first | kernel_rfl | skip)
     | (refine zs ?_; repeat' first | apply zs0 | apply zs2 | (intro hc; try have hq := dq hc)) | fail
  · rw [decide_eq_false h, Bool.false_and]
    repeat' first
     | (apply z50 (id := 1) (ord := [0, 1, 2, 3, 4, 5, 6, 7, 8, 9, 10, 11, 12, 13, 14, 15, 16, 17, 18, 19, 20, 21, 22]) <;> first | kernel_rfl | skip)
     | (refine zs ?_; repeat' first | apply zs0 | apply zs2 | (intro hc; try have hq := dq hc)) | fail

theorem sl_eqOuts (bs : List Nat) (H : Heap) (cf : Nat) (caps : List V) (f : Outp → Outp → Bool) (l r : List Outp) (hl : l.length ≤ 1000000) (hr : r.length ≤ 1000000) (hf : ∀ bs J p q, p ∈ l → q ∈ r → callw X bs cf (encOutp p :: encOutp q :: caps) (H ++ J) = some (.bool (f p q), H ++ J)) : callw X bs 156 [.list (l.map encOutp), .list (r.map encOutp), .func cf caps] H = some (.bool (eqF f l r), H) := by
  refine call_at (rs := [.tmp 6]) (N := 32) (fn := Tryz.f156) xk156 xf156 rfl rfl rfl (by simp only [seval, push_cast, List.map_cons, List.map_nil, V.norm, norm1]; rfl) ?_
  rcases Classical.em (l.length = r.length) with hab | hab
  · have key : ∀ (R : Bool) (bs : List Nat) i ρ H', i ≤ l.length → (∃ J, H' = H ++ J ∧ ρ 1 = .list (r.map encOutp) ∧ ρ 2 = .func cf caps ∧ ρ 15 = .list (l.map encOutp) ∧ ρ 16 = .int .i64 l.length ∧ ρ 17 = .int .i64 i ∧ Kp (eqF f (l.drop i) (r.drop i) = R)) →
      Lp X ⟨32, bs⟩ (loopAt Tryz.f156 0) ρ H' fun ex ρ' H' => (∃ J, H' = H ++ J) ∧ ((ex = .exit 0 ∧ R = true) ∨ (ex = .ret ∧ ρ' 6 = .bool false ∧ R = false)) := by
      intro R bs
      refine loop_up ?_ ?_
      · rintro i ρ H' hi ⟨J, rfl, h1, h2, h15, h16, h17, hR⟩
        have hi2 : i < r.length := by omega
        have hget : l[i]? = some l[i] := by simp [hi]
        have hgetb : r[i]? = some r[i] := by simp [hi2]
        have hcf := fun bs J => hf bs J l[i] r[i] (List.getElem_mem _) (List.getElem_mem _)
        generalize l[i] = x at hget hcf
        generalize r[i] = y at hgetb hcf
        have hw := add1 i l.length hi hl
        replace hR := hR.out
        rw [drop_cons hget, drop_cons hgetb, eqF] at hR
        generalize f x y = c at hcf hR
        simp only [encOutp, List.cons_append, List.nil_append] at hcf
        clear hf hi2 hab
        cases c with
        | true =>
          rw [Bool.true_and] at hR
          replace hR := Kp.mk hR
          conv => arg 3; whnf
          all_goals try (refine zs ?_; repeat' first | apply zs0 | apply zs2 | (intro hc; try have hq := dq hc))
          exact ⟨_, rfl, by (simp only [seval, push_cast, *] <;> rfl), by (simp only [seval, push_cast, *] <;> rfl), by (simp only [seval, push_cast, *] <;> rfl), by (simp only [seval, push_cast, *] <;> rfl), by (simp only [seval, push_cast, *] <;> rfl), hR⟩
        | false =>
          replace hR : Kp (false = R) := ⟨hR⟩
          conv => arg 3; whnf
          all_goals try (refine zs ?_; repeat' first | apply zs0 | apply zs2 | (intro hc; try have hq := dq hc))
          exact ⟨⟨_, rfl⟩, .inr ⟨rfl, by (simp only [seval, push_cast, *] <;> rfl), hR.out.symm⟩⟩
      · rintro ρ H' ⟨J, rfl, h1, h2, h15, h16, h17, hR⟩
        replace hR := hR.out
        rw [List.drop_length, hab, List.drop_length] at hR
        replace hR : Kp (true = R) := ⟨hR⟩
        clear hf
        conv => arg 3; whnf
        all_goals try (refine zs ?_; repeat' first | apply zs0 | apply zs2 | (intro hc; try have hq := dq hc))
        exact ⟨⟨_, rfl⟩, .inl ⟨rfl, hR.out.symm⟩⟩
    have k1 := fun bs ρ => key (eqF f l r) bs 0 ρ H (by omega)
    have e0 : Kp (eqF f (l.drop 0) (r.drop 0) = eqF f l r) := ⟨by rw [List.drop_zero, List.drop_zero]⟩
    clear key hf
    generalize eqF f l r = R at k1 e0 ⊢
    all_goals try (refine zs ?_; repeat' first | apply zs0 | apply zs2 | (intro hc; try have hq := dq hc))
    refine lp_then (lp_any (c := loopAt Tryz.f156 0) rfl (k1 _ _ ⟨[], by simp, by (simp only [seval, push_cast, *] <;> rfl), by (simp only [seval, push_cast, *] <;> rfl), by (simp only [seval, push_cast, *] <;> rfl), by (simp only [seval, push_cast, *] <;> rfl), by (simp only [seval, push_cast, *] <;> rfl), e0⟩)) ?_
    clear k1
    rintro ex ρ' H' ⟨⟨J, rfl⟩, ⟨rfl, rfl⟩ | ⟨rfl, h2, rfl⟩⟩ hf
    · clear hf
      all_goals try (refine zs ?_; repeat' first | apply zs0 | apply zs2 | (intro hc; try have hq := dq hc))
    · clear hf
      all_goals try (refine zs ?_; repeat' first | apply zs0 | apply zs2 | (intro hc; try have hq := dq hc))
  · have hne : (decide ¬ (l.length : Int) = (r.length : Int)) = true := decide_eq_true (by omega)
    have hn2 : eqF f l r = false := eqF_len hab
    rw [hn2]
    clear hf hab
    all_goals try (refine zs ?_; repeat' first | apply zs0 | apply zs2 | (intro hc; try have hq := dq hc))

end Go.E
/- Plain law of chapter 22: reached states, and lists put in order one by one. Own work. -/
namespace Go.E
/-- From one state, by all lists. -/
def reachIn (n : Netl) (s : List Int) : List (List Int) → List (List Int) → Option (List (List Int))
  | [], l => some l
  | x :: r, l => if (stepN n x s).2 ∈ l then reachIn n s r l else if l.length = 300 then none else reachIn n s r (l ++ [(stepN n x s).2])
def reachGo (n : Netl) (ins : List (List Int)) : Nat → Nat → List (List Int) → Option (List (List Int))
  | 0, _, _ => none
  | f + 1, i, l => match l[i]? with
    | none => some l
    | some s => (reachIn n s ins l).bind (reachGo n ins f (i + 1))
theorem reachIn_len {n : Netl} {s : List Int} : ∀ {r l m : List (List Int)}, reachIn n s r l = some m → l.length ≤ 300 → m.length ≤ 300 ∧ ∃ t, m = l ++ t
  | [], l, m, h, hl => by cases h; exact ⟨hl, [], by simp⟩
  | x :: r, l, m, h, hl => by
    rw [reachIn] at h
    split at h
    · exact reachIn_len h hl
    · split at h
      · cases h
      · obtain ⟨h1, t, h2⟩ := reachIn_len h (by simp; omega)
        exact ⟨h1, _, by rw [h2, List.append_assoc]⟩
/-! ### Put in order, one by one -/
/-- Where x is put: behind the last one that it does not stand before. -/
def insPos (x : List Int) (out : List (List Int)) : Nat → Nat
  | 0 => 0
  | a + 1 => if befL x (out.getD a []) = true then insPos x out a else a + 1
def insOne (out : List (List Int)) (x : List Int) : List (List Int) := out.take (insPos x out out.length) ++ x :: out.drop (insPos x out out.length)
def insAll (l : List (List Int)) : List (List Int) := l.foldl insOne []
theorem insPos_le (x : List Int) (out : List (List Int)) : ∀ a, insPos x out a ≤ a
  | 0 => Nat.le_refl _
  | a + 1 => by rw [insPos]; split; exact Nat.le_succ_of_le (insPos_le x out a); exact Nat.le_refl _
theorem insPos_hi {x : List Int} {out : List (List Int)} : ∀ {a j}, insPos x out a ≤ j → j < a → befL x (out.getD j []) = true
  | a + 1, j, h, hj => by
    rw [insPos] at h
    split at h
    · rename_i hb
      rcases Nat.lt_or_eq_of_le (Nat.le_of_lt_succ hj) with g | rfl
      · exact insPos_hi h g
      · exact hb
    · omega
theorem insPos_lo {x : List Int} {out : List (List Int)} : ∀ {a}, 0 < insPos x out a → befL x (out.getD (insPos x out a - 1) []) = false
  | a + 1, h => by
    rw [insPos] at h ⊢
    split at h
    · rename_i hb
      rw [if_pos hb]; exact insPos_lo h
    · rename_i hb
      rw [if_neg hb]; simpa using hb
def Asc (l : List (List Int)) : Prop := l.Pairwise fun a b => (!befL b a) = true
theorem asc_get {l : List (List Int)} (h : Asc l) {i j : Nat} (hij : i < j) (hj : j < l.length) : befL (l.getD j []) (l.getD i []) = false := by
  have := (List.pairwise_iff_getElem.1 h) i j (by omega) hj hij
  simpa [List.getD_eq_getElem?_getD, hj, show i < l.length by omega] using this
theorem insOne_asc {out : List (List Int)} (h : Asc out) (x : List Int) : Asc (insOne out x) := by
  unfold insOne
  have hle := insPos_le x out out.length
  have lo : ∀ a ∈ out.take (insPos x out out.length), befL x a = false := fun a ha => by
    obtain ⟨j, hj⟩ := List.getElem?_of_mem ha
    have hj2 := (List.getElem?_eq_some_iff.1 hj).1
    rw [List.length_take] at hj2
    rw [List.getElem?_take, if_pos (by omega)] at hj
    have h1 := insPos_lo (x := x) (out := out) (a := out.length) (by omega)
    have ea : out.getD j [] = a := by rw [List.getD_eq_getElem?_getD, hj]; rfl
    rcases Nat.lt_or_eq_of_le (show j ≤ insPos x out out.length - 1 by omega) with g | g
    · have h2 := asc_get h g (by omega)
      rw [ea] at h2
      exact befL_ntrans _ _ _ h1 h2
    · rw [← g, ea] at h1; exact h1
  have hi : ∀ b ∈ out.drop (insPos x out out.length), befL b x = false := fun b hb => by
    obtain ⟨j, hj⟩ := List.getElem?_of_mem hb
    rw [List.getElem?_drop] at hj
    have hj2 := (List.getElem?_eq_some_iff.1 hj).1
    have h1 := insPos_hi (x := x) (out := out) (a := out.length) (j := insPos x out out.length + j) (by omega) hj2
    rw [List.getD_eq_getElem?_getD, hj] at h1
    exact befL_asym h1
  refine List.pairwise_append.2 ⟨h.sublist (List.take_sublist _ _), List.pairwise_cons.2 ⟨fun b hb => by rw [hi b hb]; rfl, h.sublist (List.drop_sublist _ _)⟩, fun a ha b hb => ?_⟩
  rcases List.mem_cons.1 hb with rfl | hb
  · rw [lo a ha]; rfl
  · rw [befL_ntrans b x a (hi b hb) (lo a ha)]; rfl
theorem insOne_perm (out : List (List Int)) (x : List Int) : (insOne out x).Perm (x :: out) := by
  unfold insOne
  refine List.perm_middle.trans (List.Perm.cons x ?_)
  rw [List.take_append_drop]
theorem insOne_len (out : List (List Int)) (x : List Int) : (insOne out x).length = out.length + 1 := (insOne_perm out x).length_eq
theorem insAll_go : ∀ (l out : List (List Int)), Asc out → Asc (l.foldl insOne out) ∧ (l.foldl insOne out).Perm (out ++ l)
  | [], out, h => ⟨h, by simp⟩
  | x :: r, out, h => by
    obtain ⟨h1, h2⟩ := insAll_go r (insOne out x) (insOne_asc h x)
    refine ⟨h1, h2.trans ?_⟩
    refine (List.Perm.append_right r (insOne_perm out x)).trans ?_
    simp only [List.cons_append]
    exact List.perm_middle.symm
theorem insAll_sort (l : List (List Int)) : insAll l = sortL l := by
  obtain ⟨h1, h2⟩ := insAll_go l [] List.Pairwise.nil
  exact sortL_is (by unfold insAll; simpa using h2) h1
theorem insAll_snoc (l : List (List Int)) (x : List Int) : (l ++ [x]).foldl insOne [] = insOne (l.foldl insOne []) x := by rw [List.foldl_append]; rfl
end Go.E
/- Contracts of chapter 22, in E: reached states of the program. Own work. -/
namespace Go.E
open Go.Proofs
set_option maxRecDepth 100000
set_option maxHeartbeats 4000000
theorem te_encInts (l : List (List Int)) : List.mapM (takeElem 1) (l.map encInts) = some (l.map encInts) := takeElems_map fun x => by
  simp [takeElem, encInts, V.norm, norm1, V.cells, V.pure, V.isCell, pureL_int]
attribute [push_cast] te_encInts
theorem act_call {cx : Cx} {bs : List Nat} {f : Nat} {fn : Func} {c : Code} {args : List V} {H H' : Heap} {v : V} (hf : cx.P.funcs[f]? = some fn) (hb : fn.body = some c) (hk : cx.keep f = true) (hn : cx.known f (args.map V.norm) = none)
    (h : cx.act f (args.map V.norm) H = some (v, H')) : callw cx bs f args H = some (v, H') := by
  refine callw_body ?_
  unfold evBody
  simp only [hf, hb, hk, if_true, hn, h]
theorem kn_sort (bs : List Nat) (H : Heap) (id ver : Nat) (l : List (List Int)) (hH : H[id]? = some (.arr (l.map encInts) ver)) (h0 : 0 < l.length) (h6 : l.length ≤ 1000000) (hx : ∀ x ∈ l, x.length ≤ 1000000) :
    callw X bs 125 [.ref 1 id ver 0 l.length, .func 126 []] H = some (.undef, H.set id (.arr ((sortL l).map encInts) ver)) := by
  refine act_call (fn := Tryz.f125) xf125 rfl rfl rfl ?_
  show sortAct [(125, 126)] 125 [.ref 1 id ver 0 l.length, .func 126 []] H = _
  simp only [sortAct, hH, List.lookup, beq_self_eq_true, List.length_map, h0, h6, and_self, if_true]
  rw [show l.map encInts = l.map encIs from rfl, listsOf_map]
  simp only [Option.bind_some, List.all_eq_true, decide_eq_true_eq]
  rw [if_pos hx]
  rfl

theorem sl_indexR (bs : List Nat) (H : Heap) (l : List (List Int)) (id ver fid : Nat) (caps : List V) (p : List Int → Bool) (hl : l.length ≤ 1000000) (hH : H[id]? = some (.arr (l.map encInts) ver)) (hf : ∀ bs x, x ∈ l → callw X bs fid (encInts x :: caps) H = some (.bool (p x), H)) : callw X bs 159 [.ref 1 id ver 0 l.length, .func fid caps] H = some (.int .i64 (idxF p 0 l), H) := by
  refine call_at (rs := [.tmp 4]) (N := 19) (fn := Tryz.f159) xk159 xf159 rfl rfl rfl (by simp only [seval, push_cast, List.map_cons, List.map_nil, V.norm, norm1]; rfl) ?_
  have key : ∀ (R : Int) (bs : List Nat) i ρ H', i ≤ l.length → (H' = H ∧ ρ 0 = .ref 1 id ver 0 l.length ∧ ρ 1 = .func fid caps ∧ ρ 7 = .int .i64 l.length ∧ ρ 8 = .int .i64 i ∧ Kp (idxF p i (l.drop i) = R)) →
      Lp X ⟨19, bs⟩ (loopAt Tryz.f159 0) ρ H' fun ex ρ' H' => H' = H ∧ ((ex = .exit 0 ∧ R = -1) ∨ (ex = .ret ∧ ρ' 4 = .int .i64 R)) := by
    intro R bs
    refine loop_up ?_ ?_
    · rintro i ρ H' hi ⟨rfl, h0, h1, h7, h8, hR⟩
      have hget : l[i]? = some l[i] := by simp [hi]
      have hcall := fun bs => hf bs l[i] (List.getElem_mem hi)
      generalize l[i] = x at hget hcall
      simp only [encInts] at hcall
      have hw := add1 i l.length hi hl
      replace hR := hR.out
      rw [drop_cons hget, idxF] at hR
      have hlt : i < l.length := hi
      generalize p x = c at hcall hR
      clear hf
      cases c with
      | true =>
        have g : Kp ((i : Int) = R) := ⟨hR⟩
        clear hR
        conv => arg 3; whnf
        all_goals try (refine zs ?_; repeat' first | apply zs0 | apply zs2 | (intro hc; try have hq := dq hc))
        exact ⟨rfl, .inr ⟨rfl, by rw [← g.out]; (simp only [seval, push_cast, *] <;> rfl)⟩⟩
      | false =>
        have g : Kp (idxF p (i + 1) (l.drop (i + 1)) = R) := ⟨by simpa using hR⟩
        clear hR
        conv => arg 3; whnf
        all_goals try (refine zs ?_; repeat' first | apply zs0 | apply zs2 | (intro hc; try have hq := dq hc))
        exact ⟨rfl, by (simp only [seval, push_cast, *] <;> rfl), by (simp only [seval, push_cast, *] <;> rfl), by (simp only [seval, push_cast, *] <;> rfl), by (simp only [seval, push_cast, *] <;> rfl), g⟩
    · rintro ρ H' ⟨rfl, h0, h1, h7, h8, hR⟩
      replace hR := hR.out
      rw [List.drop_length, idxF] at hR
      clear hf
      conv => arg 3; whnf
      all_goals try (refine zs ?_; repeat' first | apply zs0 | apply zs2 | (intro hc; try have hq := dq hc))
      exact ⟨rfl, .inl ⟨rfl, hR.symm⟩⟩
  have k1 := fun bs ρ => key (idxF p 0 l) bs 0 ρ H (by omega)
  clear hf key
  all_goals try (refine zs ?_; repeat' first | apply zs0 | apply zs2 | (intro hc; try have hq := dq hc))
  refine lp_then (lp_any (c := loopAt Tryz.f159 0) rfl (k1 _ _ ⟨rfl, by (simp only [seval, push_cast, *] <;> rfl), by (simp only [seval, push_cast, *] <;> rfl), by (simp only [seval, push_cast, *] <;> rfl), by (simp only [seval, push_cast, *] <;> rfl), ⟨rfl⟩⟩)) ?_
  clear k1
  rintro ex ρ' H' ⟨rfl, ⟨rfl, h2⟩ | ⟨rfl, h2⟩⟩ -
  · rw [h2]
    all_goals try (refine zs ?_; repeat' first | apply zs0 | apply zs2 | (intro hc; try have hq := dq hc))
  · all_goals try (refine zs ?_; repeat' first | apply zs0 | apply zs2 | (intro hc; try have hq := dq hc))

theorem sl_containsR (bs : List Nat) (H : Heap) (l : List (List Int)) (id ver fid : Nat) (caps : List V) (p : List Int → Bool) (hl : l.length ≤ 1000000) (hH : H[id]? = some (.arr (l.map encInts) ver)) (hf : ∀ bs x, x ∈ l → callw X bs fid (encInts x :: caps) H = some (.bool (p x), H)) : callw X bs 122 [.ref 1 id ver 0 l.length, .func fid caps] H = some (.bool (l.any p), H) := by
  refine call_at (rs := [.tmp 4]) (N := 9) (fn := Tryz.f122) xk122 xf122 rfl rfl rfl (by simp only [seval, push_cast, List.map_cons, List.map_nil, V.norm, norm1]; rfl) ?_
  have hcall := fun bs => sl_indexR bs H l id ver fid caps p hl hH hf
  have ha := idxF_any p l 0 (by omega)
  clear hf hH
  all_goals try (refine zs ?_; repeat' first | apply zs0 | apply zs2 | (intro hc; try have hq := dq hc))

theorem nl_rb1 (bs : List Nat) (H : Heap) (x nx : List Int) (a : Nat) (hx : x.length ≤ 1000000) (hn : nx.length ≤ 1000000) (hA : H[a]? = some (.cells [encInts nx])) : callw X bs 123 [encInts x, .ptr a 0] H = some (.bool (decide (x = nx)), H) := by
  refine call_at (rs := [.tmp 3]) (N := 7) (fn := Tryz.f123) xk123 xf123 rfl rfl rfl (by simp only [seval, push_cast, List.map_cons, List.map_nil, V.norm, norm1]; rfl) ?_
  have t := fun bs H => sl_eqInts bs H x nx hx hn
  simp only [encInts] at hA
  all_goals try (refine zs ?_; repeat' first | apply zs0 | apply zs2 | (intro hc; try have hq := dq hc))

theorem rf_has (bs : List Nat) (H : Heap) (l : List (List Int)) (t : List Int) (hl : l.length ≤ 1000000) (hp : ∀ p ∈ l, p.length ≤ 1000000) (ht : t.length ≤ 1000000) : callw X bs 127 [.list (l.map encInts), .list (t.map (.int .i64))] H = some (.bool (decide (t ∈ l)), H) := by
  refine call_at (rs := [.tmp 4]) (N := 18) (fn := Tryz.f127) xk127 xf127 rfl rfl rfl (by simp only [seval, push_cast, List.map_cons, List.map_nil, V.norm, norm1]; rfl) ?_
  have key : ∀ (R : Bool) (bs : List Nat) i ρ H', i ≤ l.length → (H' = H ∧ ρ 0 = .list (l.map encInts) ∧ ρ 1 = .list (t.map (.int .i64)) ∧ ρ 5 = .int .i64 i ∧ Kp (decide (t ∈ l.drop i) = R)) →
      Lp X ⟨18, bs⟩ (loopAt Tryz.f127 0) ρ H' fun ex ρ' H' => H' = H ∧ ((ex = .exit 0 ∧ R = false) ∨ (ex = .ret ∧ ρ' 4 = .bool true ∧ R = true)) := by
    intro R bs
    refine loop_up ?_ ?_
    · rintro i ρ H' hi ⟨rfl, h0, h1, h5, hR⟩
      have hget : l[i]? = some l[i] := by simp [hi]
      have hpx := hp l[i] (List.getElem_mem hi)
      generalize l[i] = x at hget hpx
      have hw := add1 i l.length hi hl
      have t1 := fun bs H => bs_ints bs H x t hpx ht
      replace hR := hR.out
      rw [drop_cons hget] at hR
      have e : decide (t ∈ x :: l.drop (i + 1)) = (decide (x = t) || decide (t ∈ l.drop (i + 1))) := by rw [← Bool.decide_or]; exact decide_eq_decide.2 (by rw [List.mem_cons, eq_comm])
      rw [e] at hR
      clear e hpx hp ht
      generalize decide (x = t) = c at t1 hR
      cases c with
      | true =>
        replace hR : true = R := hR
        replace hR := Kp.mk hR
        conv => arg 3; whnf
        all_goals try (refine zs ?_; repeat' first | apply zs0 | apply zs2 | (intro hc; try have hq := dq hc))
        exact ⟨by (simp only [seval, push_cast, *] <;> rfl), .inr ⟨rfl, by (simp only [seval, push_cast, *] <;> rfl), hR.out.symm⟩⟩
      | false =>
        rw [Bool.false_or] at hR
        replace hR := Kp.mk hR
        conv => arg 3; whnf
        all_goals try (refine zs ?_; repeat' first | apply zs0 | apply zs2 | (intro hc; try have hq := dq hc))
        exact ⟨by (simp only [seval, push_cast, *] <;> rfl), by (simp only [seval, push_cast, *] <;> rfl), by (simp only [seval, push_cast, *] <;> rfl), by (simp only [seval, push_cast, *] <;> rfl), hR⟩
    · rintro ρ H' ⟨rfl, h0, h1, h5, hR⟩
      replace hR := hR.out
      rw [List.drop_length] at hR
      replace hR : Kp (false = R) := ⟨by rw [← hR]; simp⟩
      clear hp ht
      conv => arg 3; whnf
      all_goals try (refine zs ?_; repeat' first | apply zs0 | apply zs2 | (intro hc; try have hq := dq hc))
      exact ⟨by (simp only [seval, push_cast, *] <;> rfl), .inl ⟨rfl, hR.out.symm⟩⟩
  have k1 := fun bs ρ => key (decide (t ∈ l)) bs 0 ρ H (by omega)
  have e0 : Kp (decide (t ∈ l.drop 0) = decide (t ∈ l)) := ⟨by rw [List.drop_zero]⟩
  clear key hp ht
  generalize decide (t ∈ l) = R at k1 e0 ⊢
  all_goals try (refine zs ?_; repeat' first | apply zs0 | apply zs2 | (intro hc; try have hq := dq hc))
  refine lp_then (lp_any (c := loopAt Tryz.f127 0) rfl (k1 _ _ ⟨rfl, by (simp only [seval, push_cast, *] <;> rfl), by (simp only [seval, push_cast, *] <;> rfl), by (simp only [seval, push_cast, *] <;> rfl), e0⟩)) ?_
  clear k1
  rintro ex ρ' H' ⟨rfl, ⟨rfl, rfl⟩ | ⟨rfl, h2, rfl⟩⟩ hf
  · clear hf
    all_goals try (refine zs ?_; repeat' first | apply zs0 | apply zs2 | (intro hc; try have hq := dq hc))
  · clear hf
    all_goals try (refine zs ?_; repeat' first | apply zs0 | apply zs2 | (intro hc; try have hq := dq hc))

end Go.E
/- Contracts of the package netlist, in E: all reached states. Own work. -/
namespace Go.E
open Go.Proofs
set_option maxRecDepth 100000
set_option maxHeartbeats 4000000
theorem reg_len {n : Netl} (hS : Small n) {s : List Int} (h : RegOk n s) : s.length ≤ 1000 := by have := h.1; have := hS.regs; omega
section
variable (n : Netl) (H : Heap) (a0 a1 : HObj)
def RbHeap (l : List (List Int)) (ver : Nat) (J : Heap) : Heap := H ++ a0 :: a1 :: .cells (cellsNetl n) :: .arr (l.map encInts) ver :: J
theorem rb_in (ins : List (List Int)) (s : List Int) (i : Nat) (hS : Small n) (hk : NetOk n) (hin : ins.length ≤ 1000) (hok : ∀ x ∈ ins, inErrS n x = 0) (hs : RegOk n s) : ∀ (R : Option (List (List Int))) (bs : List Nat) j ρ H', j ≤ ins.length →
      (∃ l ver J, H' = H ++ a0 :: a1 :: .cells (cellsNetl n) :: .arr (l.map encInts) ver :: J ∧ l.length ≤ 300 ∧ (∀ x ∈ l, RegOk n x) ∧ l[i]? = some s ∧ ρ 6 = .ptr (H.length + 2) 0 ∧ ρ 8 = .ref 1 (H.length + 3) ver 0 l.length ∧ ρ 9 = .int .i64 i ∧ ρ 36 = .list (ins.map encInts) ∧ ρ 37 = .int .i64 ins.length ∧ ρ 38 = .int .i64 j ∧ Kp (reachIn n s (ins.drop j) l = R)) →
      Lp X ⟨66, bs⟩ (loopAt Tryz.f43 1) ρ H' fun ex ρ' H' => ∃ l ver J, H' = H ++ a0 :: a1 :: .cells (cellsNetl n) :: .arr (l.map encInts) ver :: J ∧ ((ex = .exit 2 ∧ R = some l ∧ l.length ≤ 300 ∧ (∀ x ∈ l, RegOk n x) ∧ ρ' 6 = .ptr (H.length + 2) 0 ∧ ρ' 8 = .ref 1 (H.length + 3) ver 0 l.length ∧ ρ' 9 = .int .i64 i) ∨ (ex = .ret ∧ R = none ∧ (∃ t, ρ' 4 = .tl t []) ∧ ρ' 5 = .int .i64 16)) := by
  intro R bs
  refine loop_up ?_ ?_
  · rintro j ρ H' hj ⟨l, ver, J, rfl, hl3, hlr, hls, h6, h8, h9, h36, h37, h38, hR⟩
    have hget : ins[j]? = some ins[j] := by simp [hj]
    have hx := hok ins[j] (List.getElem_mem hj)
    replace hR := hR.out
    rw [drop_cons hget, reachIn] at hR
    generalize ins[j] = x at hget hx hR
    have t1 := fun bs H => nl_clock bs H n x s hS hk (leafOk_of hk hx hs) hs.1
    have hnx := regOk_next hk hx hs
    have hnl := reg_len hS hnx
    generalize (stepN n x s).2 = nx at t1 hnx hnl hR
    generalize (stepN n x s).1 = o at t1
    have hw := add1 j ins.length hj (by omega)
    have hll : ∀ y ∈ l, y.length ≤ 1000000 := fun y hy => by have := reg_len hS (hlr y hy); omega
    have t2 := fun bs => sl_containsR bs (H ++ a0 :: a1 :: .cells (cellsNetl n) :: .arr (l.map encInts) ver :: (J ++ [.cells [encInts nx]])) l (H.length + 3) ver 123 [.ptr (H.length + (J.length + 4)) 0] (fun y => decide (y = nx)) (by omega) (by simp)
      (fun bs y hy => nl_rb1 bs _ y nx (H.length + (J.length + 4)) (hll y hy) (by omega) (by simp))
    have e : l.any (fun y => decide (y = nx)) = decide (nx ∈ l) := by
      rw [Bool.eq_iff_iff]; simp
    rw [e] at t2
    have hlt : j < ins.length := hj
    have hil : i < l.length := (List.getElem?_eq_some_iff.1 hls).1
    clear e hll hok hx hs
    by_cases hm : nx ∈ l
    · rw [if_pos hm] at hR
      rw [decide_eq_true hm] at t2
      replace hR := Kp.mk hR
      replace hlr := Kp.mk hlr
      have g3 := Kp.mk hl3
      simp only [encNetl, cellsNetl] at t1
      simp only [cellsNetl, encInts] at t2
      simp only [cellsNetl]
      clear hm hnx hj hl3
      conv => arg 3; whnf
      repeat' first
       | (apply z51 (id := 13) (ord := [0, 1, 2, 3, 4, 5, 10, 6, 7, 8, 9, 11, 12]) (ps := [(6, 7)]) <;> first | kernel_rfl | skip)
       | (refine zs ?_; repeat' first | apply zs0 | apply zs2 | (intro hc; try have hq := dq hc)) | fail
      exact ⟨l, ver, J ++ [.cells [encInts nx]], by (simp only [seval, push_cast, *] <;> rfl), g3.out, hlr.out, hls, by (simp only [seval, push_cast, *] <;> rfl), by (simp only [seval, push_cast, *] <;> rfl), by (simp only [seval, push_cast, *] <;> rfl), by (simp only [seval, push_cast, *] <;> rfl), by (simp only [seval, push_cast, *] <;> rfl), by (simp only [seval, push_cast, *] <;> rfl), hR⟩
    · rw [if_neg hm] at hR
      rw [decide_eq_false hm] at t2
      simp only [encNetl, cellsNetl] at t1
      simp only [cellsNetl, encInts] at t2
      simp only [cellsNetl]
      by_cases hf : l.length = 300
      · rw [if_pos hf] at hR
        replace hR := Kp.mk hR
        have d : decide ((l.length : Int) = 300) = true := decide_eq_true (by omega)
        clear hm hnx hj hl3 hlr hf
        conv => arg 3; whnf
        repeat' first
         | (apply z51 (id := 13) (ord := [0, 1, 2, 3, 4, 5, 10, 6, 7, 8, 9, 11, 12]) (ps := [(6, 7)]) <;> first | kernel_rfl | skip)
         | (refine zs ?_; repeat' first | apply zs0 | apply zs2 | (intro hc; try have hq := dq hc)) | fail
        exact ⟨l, ver, J ++ [.cells [encInts nx], .tok 0], by first | rfl | simp [encInts], .inr ⟨rfl, hR.out.symm, ⟨_, by (simp only [seval, push_cast, *] <;> rfl)⟩, by (simp only [seval, push_cast, *] <;> rfl)⟩⟩
      · rw [if_neg hf] at hR
        replace hR := Kp.mk hR
        have d : decide ((l.length : Int) = 300) = false := decide_eq_false (by omega)
        have g3 : Kp ((l ++ [nx]).length ≤ 300 ∧ (∀ x ∈ l ++ [nx], RegOk n x) ∧ (l ++ [nx])[i]? = some s) := ⟨by simp; omega, fun y hy => by
          rcases List.mem_append.1 hy with h | h
          · exact hlr y h
          · rw [List.mem_singleton] at h; exact h ▸ hnx, by rw [List.getElem?_append_left hil]; exact hls⟩
        have e1 : List.take l.length (List.map encInts l) = List.map encInts l := List.take_of_length_le (by simp)
        have e2 : (l.length + 1) * 24 ≤ roomB := by unfold roomB; omega
        clear hm hnx hj hlr hf
        conv => arg 3; whnf
        repeat' first
         | (apply z51 (id := 13) (ord := [0, 1, 2, 3, 4, 5, 10, 6, 7, 8, 9, 11, 12]) (ps := [(6, 7)]) <;> first | kernel_rfl | skip)
         | (refine zs ?_; repeat' first | apply zs0 | apply zs2 | (intro hc; try have hq := dq hc)) | fail
        exact ⟨l ++ [nx], ver + 1, J ++ [.cells [encInts nx], .tok 1], by simp [encInts], g3.out.1, g3.out.2.1, g3.out.2.2, by (simp only [seval, push_cast, *] <;> rfl), by (simp only [seval, push_cast, *] <;> rfl), by (simp only [seval, push_cast, *] <;> rfl), by (simp only [seval, push_cast, *] <;> rfl), by (simp only [seval, push_cast, *] <;> rfl), by (simp only [seval, push_cast, *] <;> rfl), hR⟩
  · rintro ρ H' ⟨l, ver, J, rfl, hl3, hlr, hls, h6, h8, h9, h36, h37, h38, hR⟩
    replace hR := hR.out
    rw [List.drop_length, reachIn] at hR
    replace hR := Kp.mk hR
    have g3 := Kp.mk hl3
    replace hlr := Kp.mk hlr
    clear hl3 hok
    simp only [cellsNetl]
    conv => arg 3; whnf
    repeat' first
     | (apply z51 (id := 13) (ord := [0, 1, 2, 3, 4, 5, 10, 6, 7, 8, 9, 11, 12]) (ps := [(6, 7)]) <;> first | kernel_rfl | skip)
     | (refine zs ?_; repeat' first | apply zs0 | apply zs2 | (intro hc; try have hq := dq hc)) | fail
    exact ⟨l, ver, J, by (simp only [seval, push_cast, *] <;> rfl), .inl ⟨rfl, hR.out.symm, g3.out, hlr.out, by (simp only [seval, push_cast, *] <;> rfl), by (simp only [seval, push_cast, *] <;> rfl), by (simp only [seval, push_cast, *] <;> rfl)⟩⟩
end
end Go.E
