/- Chapter 15: the examples hold, in E. Own work. -/
import Derived.Test.YtoljdokffnjapaaGreatP3
import Derived.Test.YtoljdokffnjapaaGreatP5
import Derived.Test.YtoljdokffnjapaaGreatP2
import Derived.Test.YtoljdokffnjapaaGreatP4
set_option linter.all false
namespace Go.E
open Go.Proofs
set_option maxRecDepth 100000
set_option maxHeartbeats 4000000
theorem lz {x : Int} {k : Nat} : ((2 : Int) ^ k = 0) = False := by simp; have := pow_pos' k; omega
theorem kO {x : Int} {k : Nat} (h : 0 ≤ x) : x.tmod (2 ^ k) = x % 2 ^ k := Int.tmod_eq_emod_of_nonneg h
theorem wY {x : Int} {k : Nat} (h : 0 ≤ x) : x.tdiv (2 ^ k) = x / 2 ^ k := Int.tdiv_eq_ediv_of_nonneg h
theorem pw {bs : List Nat} {H : Heap} (W : Int) (h0 : 0 ≤ W) (h16 : W ≤ 16) : callw X bs 188 [.int .i64 W] H = some (.int .i64 (2 ^ W.toNat), H) := by
 have := wI bs H W h0
 rwa [mT (by omega)] at this
theorem wrx {x : Int} (h : -4398046511104 ≤ x ∧ x ≤ 4398046511104) : IntKind.i64.wrap x = x := by rw [bi] <;> omega
theorem rt {w : Int} (h : w ≤ 16) : (2 : Int) ^ w.toNat ≤ 65536 := by
 have : (2 : Nat) ^ w.toNat ≤ 2 ^ 16 := Nat.pow_le_pow_right (by omega) (by omega)
 have h3 := Int.ofNat_le.2 this
 have c : ((2 ^ 16 : Nat) : Int) = 65536 := by decide
 rw [c] at h3
 simpa using h3
theorem H8 (bs : List Nat) (H : Heap) (b : Bool) : callw X bs 189 [.bool b] H = some (.int .i64 (if b = true then 1 else 0), H) := by
 refine yw2 (rs := [.tmp 2]) (N := 4) (fn := Tryz.f189) DW Tryz.func189 ?_
 cases b
 ·all_goals try (refine zs ?_; repeat' first | apply zs0 | apply zs2 | (intro hc; try have hq := dq hc))
 ·all_goals try (refine zs ?_; repeat' first | apply zs0 | apply zs2 | (intro hc; try have hq := dq hc))
attribute [push_cast] H8
theorem qN (bs : List Nat) (H : Heap) (n w : Int) (hn : InW n w) (h1 : 1 ≤ w) (h16 : w ≤ 16) : callw X bs 190 [.int .i64 n, .int .i64 w] H = some (.int .i64 (sgn n w), H) := by
 refine yw2 (rs := [.tmp 4]) (N := 15) (fn := Tryz.f190) DX Tryz.func190 ?_
 have e0 : IntKind.i64.wrap (w - 1) = w - 1 := by rw [bi] <;> omega
 have e2 : (w - 1).toNat = w.toNat - 1 := by omega
 have t1 := fun bs H => pw (bs := bs) (H := H) (w - 1) (by omega) (by omega)
 have t2 := fun bs H => pw (bs := bs) (H := H) w (by omega) h16
 rw [e2] at t1
 have h2 := rt h16
 have h3 := pow_pos' w.toNat
 have e3 := wrx (x := n - 2 ^ w.toNat) (by have := hn.1; have := hn.2; omega)
 unfold sgn
 by_cases hc : 2 ^ (w.toNat - 1) ≤ n
 ·have d : decide (n ≥ 2 ^ (w.toNat - 1)) = true := decide_eq_true hc
  rw [if_pos hc]
  clear hc hn h2 h3 e2
  all_goals try (refine zs ?_; repeat' first | apply zs0 | apply zs2 | (intro hc; try have hq := dq hc))
 ·have d : decide (n ≥ 2 ^ (w.toNat - 1)) = false := decide_eq_false hc
  rw [if_neg hc]
  clear hc hn h2 h3 e2
  all_goals try (refine zs ?_; repeat' first | apply zs0 | apply zs2 | (intro hc; try have hq := dq hc))
theorem ap_0 (bs : List Nat) (H : Heap) (W v : Int) (ar a w lv : List V) (h0 : 0 ≤ W) (h16 : W ≤ 16) : callw X bs 157 [.agg [.int .i64 0, .int .i64 W, .list ar, .int .i64 v], .list a, .list w, .list lv] H = some (.int .i64 v, H) := by
 refine yw2 (rs := [.tmp 8]) (N := 221) (fn := Tryz.f157) fD Tryz.func157 ?_
 have t1 := fun bs H => pw (bs := bs) (H := H) W h0 h16
 repeat' first
  | (refine yw0 (id := 10) oz0 ?_)
  | (refine yw0 (id := 12) oz0 ?_)
  | (refine yw0 (id := 14) oz0 ?_)
  | (refine yw0 (id := 16) oz2 ?_)
  | (refine yw0 (id := 18) oz6 ?_)
  | (refine yw0 (id := 20) oz2 ?_)
  | (refine yw0 (id := 22) oz1 ?_)
  | (refine yw0 (id := 24) oz1 ?_)
  | (refine yw1 (id := 26) oz7 oz8 ?_)
  | (refine yw1 (id := 32) oz9 oz10 ?_)
  | (refine yw1 (id := 34) oz11 oz3 ?_)
  | (refine yw0 (id := 38) oz12 ?_)
  | (refine yw0 (id := 40) oz4 ?_)
  | (refine yw1 (id := 42) oz13 oz14 ?_)
  | (refine yw0 (id := 43) oz4 ?_)
  | (refine yw1 (id := 45) oz1 oz3 ?_)
  | (refine zs ?_; repeat' first | apply zs0 | apply zs2 | (intro hc; try have hq := dq hc)) | fail
theorem ap_1 (bs : List Nat) (H : Heap) (W : Int) (v : Nat) (z : Int) (ar a w : List V) (lv : List Int) (h0 : 0 ≤ W) (h16 : W ≤ 16) (hg : lv[v]? = some z) : callw X bs 157 [.agg [.int .i64 1, .int .i64 W, .list ar, .int .i64 v], .list a, .list w, .list (lv.map (.int .i64))] H = some (.int .i64 z, H) := by
 refine yw2 (rs := [.tmp 8]) (N := 221) (fn := Tryz.f157) fD Tryz.func157 ?_
 have t1 := fun bs H => pw (bs := bs) (H := H) W h0 h16
 repeat' first
  | (refine yw0 (id := 10) oz0 ?_)
  | (refine yw0 (id := 12) oz0 ?_)
  | (refine yw0 (id := 14) oz0 ?_)
  | (refine yw0 (id := 16) oz2 ?_)
  | (refine yw0 (id := 18) oz6 ?_)
  | (refine yw0 (id := 20) oz2 ?_)
  | (refine yw0 (id := 22) oz1 ?_)
  | (refine yw0 (id := 24) oz1 ?_)
  | (refine yw1 (id := 26) oz7 oz8 ?_)
  | (refine yw1 (id := 32) oz9 oz10 ?_)
  | (refine yw1 (id := 34) oz11 oz3 ?_)
  | (refine yw0 (id := 38) oz12 ?_)
  | (refine yw0 (id := 40) oz4 ?_)
  | (refine yw1 (id := 42) oz13 oz14 ?_)
  | (refine yw0 (id := 43) oz4 ?_)
  | (refine yw1 (id := 45) oz1 oz3 ?_)
  | (refine zs ?_; repeat' first | apply zs0 | apply zs2 | (intro hc; try have hq := dq hc)) | fail
theorem ap_2 (bs : List Nat) (H : Heap) (W v x : Int) (ar w lv : List V) (h0 : 0 ≤ W) (h16 : W ≤ 16) (hx : InW x W) : callw X bs 157 [.agg [.int .i64 2, .int .i64 W, .list ar, .int .i64 v], .list [.int .i64 x], .list w, .list lv] H = some (.int .i64 (2 ^ W.toNat - 1 - x), H) := by
 refine yw2 (rs := [.tmp 8]) (N := 221) (fn := Tryz.f157) fD Tryz.func157 ?_
 have t1 := fun bs H => pw (bs := bs) (H := H) W h0 h16
 have h2 := rt h16
 have h3 := pow_pos' W.toNat
 obtain ⟨x0, x1⟩ := hx
 have e1 := wrx (x := 2 ^ W.toNat - 1) (by omega)
 have e2 := wrx (x := 2 ^ W.toNat - 1 - x) (by omega)
 clear x0 x1 h2 h3
 repeat' first
  | (refine yw0 (id := 10) oz0 ?_)
  | (refine yw0 (id := 12) oz0 ?_)
  | (refine yw0 (id := 14) oz0 ?_)
  | (refine yw0 (id := 16) oz2 ?_)
  | (refine yw0 (id := 18) oz6 ?_)
  | (refine yw0 (id := 20) oz2 ?_)
  | (refine yw0 (id := 22) oz1 ?_)
  | (refine yw0 (id := 24) oz1 ?_)
  | (refine yw1 (id := 26) oz7 oz8 ?_)
  | (refine yw1 (id := 32) oz9 oz10 ?_)
  | (refine yw1 (id := 34) oz11 oz3 ?_)
  | (refine yw0 (id := 38) oz12 ?_)
  | (refine yw0 (id := 40) oz4 ?_)
  | (refine yw1 (id := 42) oz13 oz14 ?_)
  | (refine yw0 (id := 43) oz4 ?_)
  | (refine yw1 (id := 45) oz1 oz3 ?_)
  | (refine zs ?_; repeat' first | apply zs0 | apply zs2 | (intro hc; try have hq := dq hc)) | fail
theorem ap_3 (bs : List Nat) (H : Heap) (W v x y : Int) (ar w lv : List V) (h0 : 0 ≤ W) (h16 : W ≤ 16) : callw X bs 157 [.agg [.int .i64 3, .int .i64 W, .list ar, .int .i64 v], .list [.int .i64 x, .int .i64 y], .list w, .list lv] H = some (.int .i64 (bitsI .and .i64 x y), H) := by
 refine yw2 (rs := [.tmp 8]) (N := 221) (fn := Tryz.f157) fD Tryz.func157 ?_
 have t1 := fun bs H => pw (bs := bs) (H := H) W h0 h16
 repeat' first
  | (refine yw0 (id := 10) oz0 ?_)
  | (refine yw0 (id := 12) oz0 ?_)
  | (refine yw0 (id := 14) oz0 ?_)
  | (refine yw0 (id := 16) oz2 ?_)
  | (refine yw0 (id := 18) oz6 ?_)
  | (refine yw0 (id := 20) oz2 ?_)
  | (refine yw0 (id := 22) oz1 ?_)
  | (refine yw0 (id := 24) oz1 ?_)
  | (refine yw1 (id := 26) oz7 oz8 ?_)
  | (refine yw1 (id := 32) oz9 oz10 ?_)
  | (refine yw1 (id := 34) oz11 oz3 ?_)
  | (refine yw0 (id := 38) oz12 ?_)
  | (refine yw0 (id := 40) oz4 ?_)
  | (refine yw1 (id := 42) oz13 oz14 ?_)
  | (refine yw0 (id := 43) oz4 ?_)
  | (refine yw1 (id := 45) oz1 oz3 ?_)
  | (refine zs ?_; repeat' first | apply zs0 | apply zs2 | (intro hc; try have hq := dq hc)) | fail
theorem ap_4 (bs : List Nat) (H : Heap) (W v x y : Int) (ar w lv : List V) (h0 : 0 ≤ W) (h16 : W ≤ 16) : callw X bs 157 [.agg [.int .i64 4, .int .i64 W, .list ar, .int .i64 v], .list [.int .i64 x, .int .i64 y], .list w, .list lv] H = some (.int .i64 (bitsI .or .i64 x y), H) := by
 refine yw2 (rs := [.tmp 8]) (N := 221) (fn := Tryz.f157) fD Tryz.func157 ?_
 have t1 := fun bs H => pw (bs := bs) (H := H) W h0 h16
 repeat' first
  | (refine yw0 (id := 10) oz0 ?_)
  | (refine yw0 (id := 12) oz0 ?_)
  | (refine yw0 (id := 14) oz0 ?_)
  | (refine yw0 (id := 16) oz2 ?_)
  | (refine yw0 (id := 18) oz6 ?_)
  | (refine yw0 (id := 20) oz2 ?_)
  | (refine yw0 (id := 22) oz1 ?_)
  | (refine yw0 (id := 24) oz1 ?_)
  | (refine yw1 (id := 26) oz7 oz8 ?_)
  | (refine yw1 (id := 32) oz9 oz10 ?_)
  | (refine yw1 (id := 34) oz11 oz3 ?_)
  | (refine yw0 (id := 38) oz12 ?_)
  | (refine yw0 (id := 40) oz4 ?_)
  | (refine yw1 (id := 42) oz13 oz14 ?_)
  | (refine yw0 (id := 43) oz4 ?_)
  | (refine yw1 (id := 45) oz1 oz3 ?_)
  | (refine zs ?_; repeat' first | apply zs0 | apply zs2 | (intro hc; try have hq := dq hc)) | fail
theorem ap_5 (bs : List Nat) (H : Heap) (W v x y : Int) (ar w lv : List V) (h0 : 0 ≤ W) (h16 : W ≤ 16) : callw X bs 157 [.agg [.int .i64 5, .int .i64 W, .list ar, .int .i64 v], .list [.int .i64 x, .int .i64 y], .list w, .list lv] H = some (.int .i64 (bitsI .xor .i64 x y), H) := by
 refine yw2 (rs := [.tmp 8]) (N := 221) (fn := Tryz.f157) fD Tryz.func157 ?_
 have t1 := fun bs H => pw (bs := bs) (H := H) W h0 h16
 repeat' first
  | (refine yw0 (id := 10) oz0 ?_)
  | (refine yw0 (id := 12) oz0 ?_)
  | (refine yw0 (id := 14) oz0 ?_)
  | (refine yw0 (id := 16) oz2 ?_)
  | (refine yw0 (id := 18) oz6 ?_)
  | (refine yw0 (id := 20) oz2 ?_)
  | (refine yw0 (id := 22) oz1 ?_)
  | (refine yw0 (id := 24) oz1 ?_)
  | (refine yw1 (id := 26) oz7 oz8 ?_)
  | (refine yw1 (id := 32) oz9 oz10 ?_)
  | (refine yw1 (id := 34) oz11 oz3 ?_)
  | (refine yw0 (id := 38) oz12 ?_)
  | (refine yw0 (id := 40) oz4 ?_)
  | (refine yw1 (id := 42) oz13 oz14 ?_)
  | (refine yw0 (id := 43) oz4 ?_)
  | (refine yw1 (id := 45) oz1 oz3 ?_)
  | (refine zs ?_; repeat' first | apply zs0 | apply zs2 | (intro hc; try have hq := dq hc)) | fail
theorem ap_6 (bs : List Nat) (H : Heap) (W v x y : Int) (ar w lv : List V) (h0 : 0 ≤ W) (h16 : W ≤ 16) (hx : 0 ≤ x ∧ x < 65536) (hy : 0 ≤ y ∧ y < 65536) : callw X bs 157 [.agg [.int .i64 6, .int .i64 W, .list ar, .int .i64 v], .list [.int .i64 x, .int .i64 y], .list w, .list lv] H = some (.int .i64 ((x + y) % 2 ^ W.toNat), H) := by
 refine yw2 (rs := [.tmp 8]) (N := 221) (fn := Tryz.f157) fD Tryz.func157 ?_
 have t1 := fun bs H => pw (bs := bs) (H := H) W h0 h16
 have e1 := wrx (x := x + y) (by omega)
 have e2 := lz (x := 0) (k := W.toNat)
 have e3 := kO (x := x + y) (k := W.toNat) (by omega)
 clear hx hy
 repeat' first
  | (refine yw0 (id := 10) oz0 ?_)
  | (refine yw0 (id := 12) oz0 ?_)
  | (refine yw0 (id := 14) oz0 ?_)
  | (refine yw0 (id := 16) oz2 ?_)
  | (refine yw0 (id := 18) oz6 ?_)
  | (refine yw0 (id := 20) oz2 ?_)
  | (refine yw0 (id := 22) oz1 ?_)
  | (refine yw0 (id := 24) oz1 ?_)
  | (refine yw1 (id := 26) oz7 oz8 ?_)
  | (refine yw1 (id := 32) oz9 oz10 ?_)
  | (refine yw1 (id := 34) oz11 oz3 ?_)
  | (refine yw0 (id := 38) oz12 ?_)
  | (refine yw0 (id := 40) oz4 ?_)
  | (refine yw1 (id := 42) oz13 oz14 ?_)
  | (refine yw0 (id := 43) oz4 ?_)
  | (refine yw1 (id := 45) oz1 oz3 ?_)
  | (refine zs ?_; repeat' first | apply zs0 | apply zs2 | (intro hc; try have hq := dq hc)) | fail
theorem ap_7 (bs : List Nat) (H : Heap) (W v x y : Int) (ar w lv : List V) (h0 : 0 ≤ W) (h16 : W ≤ 16) (hx : InW x W) (hy : InW y W) : callw X bs 157 [.agg [.int .i64 7, .int .i64 W, .list ar, .int .i64 v], .list [.int .i64 x, .int .i64 y], .list w, .list lv] H = some (.int .i64 ((x - y) % 2 ^ W.toNat), H) := by
 refine yw2 (rs := [.tmp 8]) (N := 221) (fn := Tryz.f157) fD Tryz.func157 ?_
 have t1 := fun bs H => pw (bs := bs) (H := H) W h0 h16
 have h2 := rt h16
 obtain ⟨x0, x1⟩ := hx
 obtain ⟨y0, y1⟩ := hy
 have e1 := wrx (x := x - y) (by omega)
 have e4 := wrx (x := x - y + 2 ^ W.toNat) (by omega)
 have e2 := lz (x := 0) (k := W.toNat)
 have e3 := kO (x := x - y + 2 ^ W.toNat) (k := W.toNat) (by omega)
 rw [Int.add_emod_right] at e3
 clear x0 x1 y0 y1 h2
 repeat' first
  | (refine yw0 (id := 10) oz0 ?_)
  | (refine yw0 (id := 12) oz0 ?_)
  | (refine yw0 (id := 14) oz0 ?_)
  | (refine yw0 (id := 16) oz2 ?_)
  | (refine yw0 (id := 18) oz6 ?_)
  | (refine yw0 (id := 20) oz2 ?_)
  | (refine yw0 (id := 22) oz1 ?_)
  | (refine yw0 (id := 24) oz1 ?_)
  | (refine yw1 (id := 26) oz7 oz8 ?_)
  | (refine yw1 (id := 32) oz9 oz10 ?_)
  | (refine yw1 (id := 34) oz11 oz3 ?_)
  | (refine yw0 (id := 38) oz12 ?_)
  | (refine yw0 (id := 40) oz4 ?_)
  | (refine yw1 (id := 42) oz13 oz14 ?_)
  | (refine yw0 (id := 43) oz4 ?_)
  | (refine yw1 (id := 45) oz1 oz3 ?_)
  | (refine zs ?_; repeat' first | apply zs0 | apply zs2 | (intro hc; try have hq := dq hc)) | fail
theorem ap_8 (bs : List Nat) (H : Heap) (W v x y : Int) (ar w lv : List V) (h0 : 0 ≤ W) (h16 : W ≤ 16) (hx : 0 ≤ x ∧ x < 65536) (hy : 0 ≤ y ∧ y < 65536) : callw X bs 157 [.agg [.int .i64 8, .int .i64 W, .list ar, .int .i64 v], .list [.int .i64 x, .int .i64 y], .list w, .list lv] H = some (.int .i64 (x * y % 2 ^ W.toNat), H) := by
 refine yw2 (rs := [.tmp 8]) (N := 221) (fn := Tryz.f157) fD Tryz.func157 ?_
 have t1 := fun bs H => pw (bs := bs) (H := H) W h0 h16
 have h1 : x * y ≤ 65536 * 65536 := Int.le_trans (Int.mul_le_mul_of_nonneg_right (by omega) hy.1) (Int.mul_le_mul_of_nonneg_left (by omega) (by omega))
 have h2 := Int.mul_nonneg hx.1 hy.1
 have e1 := wrx (x := x * y) (by omega)
 have e2 := lz (x := 0) (k := W.toNat)
 have e3 := kO (x := x * y) (k := W.toNat) h2
 clear hx hy h1 h2
 repeat' first
  | (refine yw0 (id := 10) oz0 ?_)
  | (refine yw0 (id := 12) oz0 ?_)
  | (refine yw0 (id := 14) oz0 ?_)
  | (refine yw0 (id := 16) oz2 ?_)
  | (refine yw0 (id := 18) oz6 ?_)
  | (refine yw0 (id := 20) oz2 ?_)
  | (refine yw0 (id := 22) oz1 ?_)
  | (refine yw0 (id := 24) oz1 ?_)
  | (refine yw1 (id := 26) oz7 oz8 ?_)
  | (refine yw1 (id := 32) oz9 oz10 ?_)
  | (refine yw1 (id := 34) oz11 oz3 ?_)
  | (refine yw0 (id := 38) oz12 ?_)
  | (refine yw0 (id := 40) oz4 ?_)
  | (refine yw1 (id := 42) oz13 oz14 ?_)
  | (refine yw0 (id := 43) oz4 ?_)
  | (refine yw1 (id := 45) oz1 oz3 ?_)
  | (refine zs ?_; repeat' first | apply zs0 | apply zs2 | (intro hc; try have hq := dq hc)) | fail
theorem ap_9 (bs : List Nat) (H : Heap) (W v x y : Int) (ar w lv : List V) (h0 : 0 ≤ W) (h16 : W ≤ 16) : callw X bs 157 [.agg [.int .i64 9, .int .i64 W, .list ar, .int .i64 v], .list [.int .i64 x, .int .i64 y], .list w, .list lv] H = some (.int .i64 (if decide (x = y) = true then 1 else 0), H) := by
 refine yw2 (rs := [.tmp 8]) (N := 221) (fn := Tryz.f157) fD Tryz.func157 ?_
 have t1 := fun bs H => pw (bs := bs) (H := H) W h0 h16
 repeat' first
  | (refine yw0 (id := 10) oz0 ?_)
  | (refine yw0 (id := 12) oz0 ?_)
  | (refine yw0 (id := 14) oz0 ?_)
  | (refine yw0 (id := 16) oz2 ?_)
  | (refine yw0 (id := 18) oz6 ?_)
  | (refine yw0 (id := 20) oz2 ?_)
  | (refine yw0 (id := 22) oz1 ?_)
  | (refine yw0 (id := 24) oz1 ?_)
  | (refine yw1 (id := 26) oz7 oz8 ?_)
  | (refine yw1 (id := 32) oz9 oz10 ?_)
  | (refine yw1 (id := 34) oz11 oz3 ?_)
  | (refine yw0 (id := 38) oz12 ?_)
  | (refine yw0 (id := 40) oz4 ?_)
  | (refine yw1 (id := 42) oz13 oz14 ?_)
  | (refine yw0 (id := 43) oz4 ?_)
  | (refine yw1 (id := 45) oz1 oz3 ?_)
  | (refine zs ?_; repeat' first | apply zs0 | apply zs2 | (intro hc; try have hq := dq hc)) | fail
theorem Nk (bs : List Nat) (H : Heap) (W v x y : Int) (ar w lv : List V) (h0 : 0 ≤ W) (h16 : W ≤ 16) : callw X bs 157 [.agg [.int .i64 10, .int .i64 W, .list ar, .int .i64 v], .list [.int .i64 x, .int .i64 y], .list w, .list lv] H = some (.int .i64 (if decide (x < y) = true then 1 else 0), H) := by
 refine yw2 (rs := [.tmp 8]) (N := 221) (fn := Tryz.f157) fD Tryz.func157 ?_
 have t1 := fun bs H => pw (bs := bs) (H := H) W h0 h16
 repeat' first
  | (refine yw0 (id := 10) oz0 ?_)
  | (refine yw0 (id := 12) oz0 ?_)
  | (refine yw0 (id := 14) oz0 ?_)
  | (refine yw0 (id := 16) oz2 ?_)
  | (refine yw0 (id := 18) oz6 ?_)
  | (refine yw0 (id := 20) oz2 ?_)
  | (refine yw0 (id := 22) oz1 ?_)
  | (refine yw0 (id := 24) oz1 ?_)
  | (refine yw1 (id := 26) oz7 oz8 ?_)
  | (refine yw1 (id := 32) oz9 oz10 ?_)
  | (refine yw1 (id := 34) oz11 oz3 ?_)
  | (refine yw0 (id := 38) oz12 ?_)
  | (refine yw0 (id := 40) oz4 ?_)
  | (refine yw1 (id := 42) oz13 oz14 ?_)
  | (refine yw0 (id := 43) oz4 ?_)
  | (refine yw1 (id := 45) oz1 oz3 ?_)
  | (refine zs ?_; repeat' first | apply zs0 | apply zs2 | (intro hc; try have hq := dq hc)) | fail
theorem Nl (bs : List Nat) (H : Heap) (W v x y p : Int) (ar lv : List V) (h0 : 0 ≤ W) (h16 : W ≤ 16) (hx : InW x p) (hy : InW y p) (hp : 1 ≤ p) (hp16 : p ≤ 16) : callw X bs 157 [.agg [.int .i64 11, .int .i64 W, .list ar, .int .i64 v], .list [.int .i64 x, .int .i64 y], .list [.int .i64 p, .int .i64 p], .list lv] H = some (.int .i64 (if decide (sgn x p < sgn y p) = true then 1 else 0), H) := by
 refine yw2 (rs := [.tmp 8]) (N := 221) (fn := Tryz.f157) fD Tryz.func157 ?_
 have t1 := fun bs H => pw (bs := bs) (H := H) W h0 h16
 have t2 := fun bs H => qN bs H x p hx hp hp16
 have t3 := fun bs H => qN bs H y p hy hp hp16
 clear hx hy hp hp16
 repeat' first
  | (refine yw0 (id := 10) oz0 ?_)
  | (refine yw0 (id := 12) oz0 ?_)
  | (refine yw0 (id := 14) oz0 ?_)
  | (refine yw0 (id := 16) oz2 ?_)
  | (refine yw0 (id := 18) oz6 ?_)
  | (refine yw0 (id := 20) oz2 ?_)
  | (refine yw0 (id := 22) oz1 ?_)
  | (refine yw0 (id := 24) oz1 ?_)
  | (refine yw1 (id := 26) oz7 oz8 ?_)
  | (refine yw1 (id := 32) oz9 oz10 ?_)
  | (refine yw1 (id := 34) oz11 oz3 ?_)
  | (refine yw0 (id := 38) oz12 ?_)
  | (refine yw0 (id := 40) oz4 ?_)
  | (refine yw1 (id := 42) oz13 oz14 ?_)
  | (refine yw0 (id := 43) oz4 ?_)
  | (refine yw1 (id := 45) oz1 oz3 ?_)
  | (refine zs ?_; repeat' first | apply zs0 | apply zs2 | (intro hc; try have hq := dq hc)) | fail
theorem Nm (bs : List Nat) (H : Heap) (W v x y z : Int) (ar w lv : List V) (h0 : 0 ≤ W) (h16 : W ≤ 16) : callw X bs 157 [.agg [.int .i64 12, .int .i64 W, .list ar, .int .i64 v], .list [.int .i64 x, .int .i64 y, .int .i64 z], .list w, .list lv] H = some (.int .i64 (if x = 1 then y else z), H) := by
 refine yw2 (rs := [.tmp 8]) (N := 221) (fn := Tryz.f157) fD Tryz.func157 ?_
 have t1 := fun bs H => pw (bs := bs) (H := H) W h0 h16
 by_cases h : x = 1
 ·have d : decide (x = 1) = true := decide_eq_true h
  rw [if_pos h]
  clear h
  repeat' first
   | (refine yw0 (id := 10) oz0 ?_)
   | (refine yw0 (id := 12) oz0 ?_)
   | (refine yw0 (id := 14) oz0 ?_)
   | (refine yw0 (id := 16) oz2 ?_)
   | (refine yw0 (id := 18) oz6 ?_)
   | (refine yw0 (id := 20) oz2 ?_)
   | (refine yw0 (id := 22) oz1 ?_)
   | (refine yw0 (id := 24) oz1 ?_)
   | (refine yw1 (id := 26) oz7 oz8 ?_)
   | (refine yw1 (id := 32) oz9 oz10 ?_)
   | (refine yw1 (id := 34) oz11 oz3 ?_)
   | (refine yw0 (id := 38) oz12 ?_)
   | (refine yw0 (id := 40) oz4 ?_)
   | (refine yw1 (id := 42) oz13 oz14 ?_)
   | (refine yw0 (id := 43) oz4 ?_)
   | (refine yw1 (id := 45) oz1 oz3 ?_)
   | (refine zs ?_; repeat' first | apply zs0 | apply zs2 | (intro hc; try have hq := dq hc)) | fail
 ·have d : decide (x = 1) = false := decide_eq_false h
  rw [if_neg h]
  clear h
  repeat' first
   | (refine yw0 (id := 10) oz0 ?_)
   | (refine yw0 (id := 12) oz0 ?_)
   | (refine yw0 (id := 14) oz0 ?_)
   | (refine yw0 (id := 16) oz2 ?_)
   | (refine yw0 (id := 18) oz6 ?_)
   | (refine yw0 (id := 20) oz2 ?_)
   | (refine yw0 (id := 22) oz1 ?_)
   | (refine yw0 (id := 24) oz1 ?_)
   | (refine yw1 (id := 26) oz7 oz8 ?_)
   | (refine yw1 (id := 32) oz9 oz10 ?_)
   | (refine yw1 (id := 34) oz11 oz3 ?_)
   | (refine yw0 (id := 38) oz12 ?_)
   | (refine yw0 (id := 40) oz4 ?_)
   | (refine yw1 (id := 42) oz13 oz14 ?_)
   | (refine yw0 (id := 43) oz4 ?_)
   | (refine yw1 (id := 45) oz1 oz3 ?_)
   | (refine zs ?_; repeat' first | apply zs0 | apply zs2 | (intro hc; try have hq := dq hc)) | fail
theorem Nn (bs : List Nat) (H : Heap) (W v x y p q : Int) (ar lv : List V) (h0 : 0 ≤ W) (h16 : W ≤ 16) (hx : 0 ≤ x ∧ x < 65536) (hy : InW y q) (hq : 0 ≤ q) (hq16 : q ≤ 16) : callw X bs 157 [.agg [.int .i64 13, .int .i64 W, .list ar, .int .i64 v], .list [.int .i64 x, .int .i64 y], .list [.int .i64 p, .int .i64 q], .list lv] H = some (.int .i64 (x * 2 ^ q.toNat + y), H) := by
 refine yw2 (rs := [.tmp 8]) (N := 221) (fn := Tryz.f157) fD Tryz.func157 ?_
 have t1 := fun bs H => pw (bs := bs) (H := H) W h0 h16
 have t2 := fun bs H => pw (bs := bs) (H := H) q hq hq16
 have h2 := rt hq16
 have h3 := pow_pos' q.toNat
 obtain ⟨y0, y1⟩ := hy
 have h1 : x * 2 ^ q.toNat ≤ 65536 * 65536 := Int.le_trans (Int.mul_le_mul_of_nonneg_right (by omega) (by omega)) (Int.mul_le_mul_of_nonneg_left h2 (by omega))
 have h4 := Int.mul_nonneg hx.1 (Int.le_of_lt h3)
 have e1 := wrx (x := x * 2 ^ q.toNat) (by omega)
 have e2 := wrx (x := x * 2 ^ q.toNat + y) (by omega)
 clear hx y0 y1 h1 h2 h3 h4 hq hq16
 repeat' first
  | (refine yw0 (id := 10) oz0 ?_)
  | (refine yw0 (id := 12) oz0 ?_)
  | (refine yw0 (id := 14) oz0 ?_)
  | (refine yw0 (id := 16) oz2 ?_)
  | (refine yw0 (id := 18) oz6 ?_)
  | (refine yw0 (id := 20) oz2 ?_)
  | (refine yw0 (id := 22) oz1 ?_)
  | (refine yw0 (id := 24) oz1 ?_)
  | (refine yw1 (id := 26) oz7 oz8 ?_)
  | (refine yw1 (id := 32) oz9 oz10 ?_)
  | (refine yw1 (id := 34) oz11 oz3 ?_)
  | (refine yw0 (id := 38) oz12 ?_)
  | (refine yw0 (id := 40) oz4 ?_)
  | (refine yw1 (id := 42) oz13 oz14 ?_)
  | (refine yw0 (id := 43) oz4 ?_)
  | (refine yw1 (id := 45) oz1 oz3 ?_)
  | (refine zs ?_; repeat' first | apply zs0 | apply zs2 | (intro hc; try have hq := dq hc)) | fail
theorem No (bs : List Nat) (H : Heap) (W v x : Int) (ar w lv : List V) (h0 : 0 ≤ W) (h16 : W ≤ 16) (hx : 0 ≤ x ∧ x < 65536) (hv : 0 ≤ v) (hv16 : v ≤ 16) : callw X bs 157 [.agg [.int .i64 14, .int .i64 W, .list ar, .int .i64 v], .list [.int .i64 x], .list w, .list lv] H = some (.int .i64 (x / 2 ^ v.toNat % 2 ^ W.toNat), H) := by
 refine yw2 (rs := [.tmp 8]) (N := 221) (fn := Tryz.f157) fD Tryz.func157 ?_
 have t1 := fun bs H => pw (bs := bs) (H := H) W h0 h16
 have t2 := fun bs H => pw (bs := bs) (H := H) v hv hv16
 have e1 := wY (x := x) (k := v.toNat) hx.1
 have e2 := lz (x := 0) (k := W.toNat)
 have e4 := lz (x := 0) (k := v.toNat)
 have e3 := kO (x := x / 2 ^ v.toNat) (k := W.toNat) (Int.ediv_nonneg hx.1 (by have := pow_pos' v.toNat; omega))
 have e5 : IntKind.i64.wrap (x / 2 ^ v.toNat) = x / 2 ^ v.toNat := wrx (by have := Int.ediv_le_self (2 ^ v.toNat) hx.1; have := Int.ediv_nonneg hx.1 (Int.le_of_lt (pow_pos' v.toNat)); omega)
 clear hx hv hv16
 repeat' first
  | (refine yw0 (id := 10) oz0 ?_)
  | (refine yw0 (id := 12) oz0 ?_)
  | (refine yw0 (id := 14) oz0 ?_)
  | (refine yw0 (id := 16) oz2 ?_)
  | (refine yw0 (id := 18) oz6 ?_)
  | (refine yw0 (id := 20) oz2 ?_)
  | (refine yw0 (id := 22) oz1 ?_)
  | (refine yw0 (id := 24) oz1 ?_)
  | (refine yw1 (id := 26) oz7 oz8 ?_)
  | (refine yw1 (id := 32) oz9 oz10 ?_)
  | (refine yw1 (id := 34) oz11 oz3 ?_)
  | (refine yw0 (id := 38) oz12 ?_)
  | (refine yw0 (id := 40) oz4 ?_)
  | (refine yw1 (id := 42) oz13 oz14 ?_)
  | (refine yw0 (id := 43) oz4 ?_)
  | (refine yw1 (id := 45) oz1 oz3 ?_)
  | (refine zs ?_; repeat' first | apply zs0 | apply zs2 | (intro hc; try have hq := dq hc)) | fail
theorem Np (bs : List Nat) (H : Heap) (W v x : Int) (ar w lv : List V) (h0 : 0 ≤ W) (h16 : W ≤ 16) : callw X bs 157 [.agg [.int .i64 15, .int .i64 W, .list ar, .int .i64 v], .list [.int .i64 x], .list w, .list lv] H = some (.int .i64 x, H) := by
 refine yw2 (rs := [.tmp 8]) (N := 221) (fn := Tryz.f157) fD Tryz.func157 ?_
 have t1 := fun bs H => pw (bs := bs) (H := H) W h0 h16
 repeat' first
  | (refine yw0 (id := 10) oz0 ?_)
  | (refine yw0 (id := 12) oz0 ?_)
  | (refine yw0 (id := 14) oz0 ?_)
  | (refine yw0 (id := 16) oz2 ?_)
  | (refine yw0 (id := 18) oz6 ?_)
  | (refine yw0 (id := 20) oz2 ?_)
  | (refine yw0 (id := 22) oz1 ?_)
  | (refine yw0 (id := 24) oz1 ?_)
  | (refine yw1 (id := 26) oz7 oz8 ?_)
  | (refine yw1 (id := 32) oz9 oz10 ?_)
  | (refine yw1 (id := 34) oz11 oz3 ?_)
  | (refine yw0 (id := 38) oz12 ?_)
  | (refine yw0 (id := 40) oz4 ?_)
  | (refine yw1 (id := 42) oz13 oz14 ?_)
  | (refine yw0 (id := 43) oz4 ?_)
  | (refine yw1 (id := 45) oz1 oz3 ?_)
  | (refine zs ?_; repeat' first | apply zs0 | apply zs2 | (intro hc; try have hq := dq hc)) | fail
theorem Nq (bs : List Nat) (H : Heap) (W v x p : Int) (ar w lv : List V) (h0 : 0 ≤ W) (h16 : W ≤ 16) (hx : InW x p) (hp : 1 ≤ p) (hpW : p ≤ W) : callw X bs 157 [.agg [.int .i64 16, .int .i64 W, .list ar, .int .i64 v], .list [.int .i64 x], .list (.int .i64 p :: w), .list lv] H = some (.int .i64 (sgn x p % 2 ^ W.toNat), H) := by
 refine yw2 (rs := [.tmp 8]) (N := 221) (fn := Tryz.f157) fD Tryz.func157 ?_
 have t1 := fun bs H => pw (bs := bs) (H := H) W h0 h16
 have t2 := fun bs H => qN bs H x p hx hp (by omega)
 have h1 := Gc hx hp
 have h2 := rt h16
 have h3 := ke hp
 have h4 := wM hpW
 have h5 := pow_pos' (p.toNat - 1)
 have e1 := wrx (x := sgn x p + 2 ^ W.toNat) (by omega)
 have e2 := lz (x := 0) (k := W.toNat)
 have e3 := kO (x := sgn x p + 2 ^ W.toNat) (k := W.toNat) (by omega)
 rw [Int.add_emod_right] at e3
 clear h1 h2 h3 h4 h5 hx hp hpW
 repeat' first
  | (refine yw0 (id := 10) oz0 ?_)
  | (refine yw0 (id := 12) oz0 ?_)
  | (refine yw0 (id := 14) oz0 ?_)
  | (refine yw0 (id := 16) oz2 ?_)
  | (refine yw0 (id := 18) oz6 ?_)
  | (refine yw0 (id := 20) oz2 ?_)
  | (refine yw0 (id := 22) oz1 ?_)
  | (refine yw0 (id := 24) oz1 ?_)
  | (refine yw1 (id := 26) oz7 oz8 ?_)
  | (refine yw1 (id := 32) oz9 oz10 ?_)
  | (refine yw1 (id := 34) oz11 oz3 ?_)
  | (refine yw0 (id := 38) oz12 ?_)
  | (refine yw0 (id := 40) oz4 ?_)
  | (refine yw1 (id := 42) oz13 oz14 ?_)
  | (refine yw0 (id := 43) oz4 ?_)
  | (refine yw1 (id := 45) oz1 oz3 ?_)
  | (refine zs ?_; repeat' first | apply zs0 | apply zs2 | (intro hc; try have hq := dq hc)) | fail
theorem Nr (bs : List Nat) (H : Heap) (W v x y : Int) (ar w lv : List V) (h0 : 0 ≤ W) (h16 : W ≤ 16) (hx : 0 ≤ x ∧ x < 65536) (hy : 0 ≤ y) : callw X bs 157 [.agg [.int .i64 17, .int .i64 W, .list ar, .int .i64 v], .list [.int .i64 x, .int .i64 y], .list w, .list lv] H = some (.int .i64 (if W ≤ y then 0 else x * 2 ^ y.toNat % 2 ^ W.toNat), H) := by
 refine yw2 (rs := [.tmp 8]) (N := 221) (fn := Tryz.f157) fD Tryz.func157 ?_
 have t1 := fun bs H => pw (bs := bs) (H := H) W h0 h16
 by_cases h : W ≤ y
 ·have d : decide (y ≥ W) = true := decide_eq_true h
  rw [if_pos h]
  clear h hx hy
  repeat' first
   | (refine yw0 (id := 10) oz0 ?_)
   | (refine yw0 (id := 12) oz0 ?_)
   | (refine yw0 (id := 14) oz0 ?_)
   | (refine yw0 (id := 16) oz2 ?_)
   | (refine yw0 (id := 18) oz6 ?_)
   | (refine yw0 (id := 20) oz2 ?_)
   | (refine yw0 (id := 22) oz1 ?_)
   | (refine yw0 (id := 24) oz1 ?_)
   | (refine yw1 (id := 26) oz7 oz8 ?_)
   | (refine yw1 (id := 32) oz9 oz10 ?_)
   | (refine yw1 (id := 34) oz11 oz3 ?_)
   | (refine yw0 (id := 38) oz12 ?_)
   | (refine yw0 (id := 40) oz4 ?_)
   | (refine yw1 (id := 42) oz13 oz14 ?_)
   | (refine yw0 (id := 43) oz4 ?_)
   | (refine yw1 (id := 45) oz1 oz3 ?_)
   | (refine zs ?_; repeat' first | apply zs0 | apply zs2 | (intro hc; try have hq := dq hc)) | fail
 ·have d : decide (y ≥ W) = false := decide_eq_false h
  have t2 := fun bs H => pw (bs := bs) (H := H) y hy (by omega)
  have h2 := rt (by omega : y ≤ 16)
  have h3 := pow_pos' y.toNat
  have h1 : x * 2 ^ y.toNat ≤ 65536 * 65536 := Int.le_trans (Int.mul_le_mul_of_nonneg_right (by omega) (by omega)) (Int.mul_le_mul_of_nonneg_left h2 (by omega))
  have h4 := Int.mul_nonneg hx.1 (Int.le_of_lt h3)
  have e1 := wrx (x := x * 2 ^ y.toNat) (by omega)
  have e2 := lz (x := 0) (k := W.toNat)
  have e3 := kO (x := x * 2 ^ y.toNat) (k := W.toNat) h4
  rw [if_neg h]
  clear h hx hy h1 h2 h3 h4
  repeat' first
   | (refine yw0 (id := 10) oz0 ?_)
   | (refine yw0 (id := 12) oz0 ?_)
   | (refine yw0 (id := 14) oz0 ?_)
   | (refine yw0 (id := 16) oz2 ?_)
   | (refine yw0 (id := 18) oz6 ?_)
   | (refine yw0 (id := 20) oz2 ?_)
   | (refine yw0 (id := 22) oz1 ?_)
   | (refine yw0 (id := 24) oz1 ?_)
   | (refine yw1 (id := 26) oz7 oz8 ?_)
   | (refine yw1 (id := 32) oz9 oz10 ?_)
   | (refine yw1 (id := 34) oz11 oz3 ?_)
   | (refine yw0 (id := 38) oz12 ?_)
   | (refine yw0 (id := 40) oz4 ?_)
   | (refine yw1 (id := 42) oz13 oz14 ?_)
   | (refine yw0 (id := 43) oz4 ?_)
   | (refine yw1 (id := 45) oz1 oz3 ?_)
   | (refine zs ?_; repeat' first | apply zs0 | apply zs2 | (intro hc; try have hq := dq hc)) | fail
theorem Ns (bs : List Nat) (H : Heap) (W v x y : Int) (ar w lv : List V) (h0 : 0 ≤ W) (h16 : W ≤ 16) (hx : 0 ≤ x ∧ x < 65536) (hy : 0 ≤ y) : callw X bs 157 [.agg [.int .i64 18, .int .i64 W, .list ar, .int .i64 v], .list [.int .i64 x, .int .i64 y], .list w, .list lv] H = some (.int .i64 (if W ≤ y then 0 else x / 2 ^ y.toNat), H) := by
 refine yw2 (rs := [.tmp 8]) (N := 221) (fn := Tryz.f157) fD Tryz.func157 ?_
 have t1 := fun bs H => pw (bs := bs) (H := H) W h0 h16
 by_cases h : W ≤ y
 ·have d : decide (y ≥ W) = true := decide_eq_true h
  rw [if_pos h]
  clear h hx hy
  repeat' first
   | (refine yw0 (id := 10) oz0 ?_)
   | (refine yw0 (id := 12) oz0 ?_)
   | (refine yw0 (id := 14) oz0 ?_)
   | (refine yw0 (id := 16) oz2 ?_)
   | (refine yw0 (id := 18) oz6 ?_)
   | (refine yw0 (id := 20) oz2 ?_)
   | (refine yw0 (id := 22) oz1 ?_)
   | (refine yw0 (id := 24) oz1 ?_)
   | (refine yw1 (id := 26) oz7 oz8 ?_)
   | (refine yw1 (id := 32) oz9 oz10 ?_)
   | (refine yw1 (id := 34) oz11 oz3 ?_)
   | (refine yw0 (id := 38) oz12 ?_)
   | (refine yw0 (id := 40) oz4 ?_)
   | (refine yw1 (id := 42) oz13 oz14 ?_)
   | (refine yw0 (id := 43) oz4 ?_)
   | (refine yw1 (id := 45) oz1 oz3 ?_)
   | (refine zs ?_; repeat' first | apply zs0 | apply zs2 | (intro hc; try have hq := dq hc)) | fail
 ·have d : decide (y ≥ W) = false := decide_eq_false h
  have t2 := fun bs H => pw (bs := bs) (H := H) y hy (by omega)
  have e1 := wY (x := x) (k := y.toNat) hx.1
  have e2 := lz (x := 0) (k := y.toNat)
  have e5 : IntKind.i64.wrap (x / 2 ^ y.toNat) = x / 2 ^ y.toNat := wrx (by have := Int.ediv_le_self (2 ^ y.toNat) hx.1; have := Int.ediv_nonneg hx.1 (Int.le_of_lt (pow_pos' y.toNat)); omega)
  rw [if_neg h]
  clear h hx hy
  repeat' first
   | (refine yw0 (id := 10) oz0 ?_)
   | (refine yw0 (id := 12) oz0 ?_)
   | (refine yw0 (id := 14) oz0 ?_)
   | (refine yw0 (id := 16) oz2 ?_)
   | (refine yw0 (id := 18) oz6 ?_)
   | (refine yw0 (id := 20) oz2 ?_)
   | (refine yw0 (id := 22) oz1 ?_)
   | (refine yw0 (id := 24) oz1 ?_)
   | (refine yw1 (id := 26) oz7 oz8 ?_)
   | (refine yw1 (id := 32) oz9 oz10 ?_)
   | (refine yw1 (id := 34) oz11 oz3 ?_)
   | (refine yw0 (id := 38) oz12 ?_)
   | (refine yw0 (id := 40) oz4 ?_)
   | (refine yw1 (id := 42) oz13 oz14 ?_)
   | (refine yw0 (id := 43) oz4 ?_)
   | (refine yw1 (id := 45) oz1 oz3 ?_)
   | (refine zs ?_; repeat' first | apply zs0 | apply zs2 | (intro hc; try have hq := dq hc)) | fail
end Go.E
namespace Go.E
open Go.Proofs
set_option maxRecDepth 100000
set_option maxHeartbeats 4000000
theorem zH (bs : List Nat) (H : Heap) (k : Nat) (W v : Int) (ar lv : List V) (a w : List Int) (h : OkArgs k W v a w) (h1 : k ≠ 1) :
  callw X bs 157 [.agg [.int .i64 k, .int .i64 W, .list ar, .int .i64 v], .list (a.map (.int .i64)), .list (w.map (.int .i64)), .list lv] H = some (.int .i64 (applyS k W v a w), H) := by
 obtain ⟨hk, hW1, hW16, hla, hlw, hr, hw, hf, hv, hc⟩ := h
 have hW0 : 0 ≤ W := by omega
 match k, hk, a, hla, w, hlw with
 | 0, _, a, _, w, _ => exact ap_0 bs H W v ar _ _ lv hW0 hW16
 | 1, _, _, _, _, _ => exact absurd rfl h1
 | 2, _, [x], _, [p], _ =>
  have r0 := hr 0 (by decide)
  simp only [fitsS, List.any_cons, List.any_nil, Bool.or_false, Bool.not_eq_true', decide_eq_false_iff_not, Decidable.not_not] at hf
  subst hf
  exact ap_2 bs H p v x ar _ lv hW0 hW16 r0
 | 3, _, [x, y], _, [p, q], _ =>
  have r0 := hr 0 (by decide)
  have r1 := hr 1 (by decide)
  have w0 := hw 0 (by decide)
  have w1 := hw 1 (by decide)
  simp only [aC, dW] at r0 r1 w0 w1
  have e := pq x.toNat y.toNat (ii r0 w0.2) (ii r1 w1.2)
  rw [fH r0.1, fH r1.1] at e
  have := ap_3 bs H W v x y ar [.int .i64 p, .int .i64 q] lv hW0 hW16
  rw [e] at this
  exact this
 | 4, _, [x, y], _, [p, q], _ =>
  have r0 := hr 0 (by decide)
  have r1 := hr 1 (by decide)
  have w0 := hw 0 (by decide)
  have w1 := hw 1 (by decide)
  simp only [aC, dW] at r0 r1 w0 w1
  have e := uc x.toNat y.toNat (ii r0 w0.2) (ii r1 w1.2)
  rw [fH r0.1, fH r1.1] at e
  have := ap_4 bs H W v x y ar [.int .i64 p, .int .i64 q] lv hW0 hW16
  rw [e] at this
  exact this
 | 5, _, [x, y], _, [p, q], _ =>
  have r0 := hr 0 (by decide)
  have r1 := hr 1 (by decide)
  have w0 := hw 0 (by decide)
  have w1 := hw 1 (by decide)
  simp only [aC, dW] at r0 r1 w0 w1
  have e := wL x.toNat y.toNat (ii r0 w0.2) (ii r1 w1.2)
  rw [fH r0.1, fH r1.1] at e
  have := ap_5 bs H W v x y ar [.int .i64 p, .int .i64 q] lv hW0 hW16
  rw [e] at this
  exact this
 | 6, _, [x, y], _, [p, q], _ =>
  have r0 := hr 0 (by decide)
  have r1 := hr 1 (by decide)
  have w0 := hw 0 (by decide)
  have w1 := hw 1 (by decide)
  simp only [aC, dW] at r0 r1 w0 w1
  exact ap_6 bs H W v x y ar _ lv hW0 hW16 (r0.w16 w0.2) (r1.w16 w1.2)
 | 7, _, [x, y], _, [p, q], _ =>
  have r0 := hr 0 (by decide)
  have r1 := hr 1 (by decide)
  simp only [fitsS, List.any_cons, List.any_nil, Bool.or_false, Bool.not_eq_true', Bool.or_eq_false_iff, decide_eq_false_iff_not, Decidable.not_not] at hf
  obtain ⟨rfl, rfl⟩ := hf
  exact ap_7 bs H q v x y ar _ lv hW0 hW16 r0 r1
 | 8, _, [x, y], _, [p, q], _ =>
  have r0 := hr 0 (by decide)
  have r1 := hr 1 (by decide)
  have w0 := hw 0 (by decide)
  have w1 := hw 1 (by decide)
  simp only [aC, dW] at r0 r1 w0 w1
  exact ap_8 bs H W v x y ar _ lv hW0 hW16 (r0.w16 w0.2) (r1.w16 w1.2)
 | 9, _, [x, y], _, [p, q], _ =>
  have := ap_9 bs H W v x y ar [.int .i64 p, .int .i64 q] lv hW0 hW16
  simp only [decide_eq_true_eq] at this
  exact this
 | 10, _, [x, y], _, [p, q], _ =>
  have := Nk bs H W v x y ar [.int .i64 p, .int .i64 q] lv hW0 hW16
  simp only [decide_eq_true_eq] at this
  exact this
 | 11, _, [x, y], _, [p, q], _ =>
  have r0 := hr 0 (by decide)
  have r1 := hr 1 (by decide)
  have w0 := hw 0 (by decide)
  have hf2 : (decide (W = 1) && decide (p = q)) = true := hf
  rw [Bool.and_eq_true] at hf2
  obtain rfl := of_decide_eq_true hf2.2
  simp only [aC, dW] at r0 r1 w0
  have := Nl bs H W v x y p ar lv hW0 hW16 r0 r1 w0.1 w0.2
  simp only [decide_eq_true_eq] at this
  exact this
 | 12, _, [x, y, z], _, [p, q, r], _ => exact Nm bs H W v x y z ar _ lv hW0 hW16
 | 13, _, [x, y], _, [p, q], _ =>
  have r0 := hr 0 (by decide)
  have r1 := hr 1 (by decide)
  have w0 := hw 0 (by decide)
  have w1 := hw 1 (by decide)
  simp only [aC, dW] at r0 r1 w0 w1
  exact Nn bs H W v x y p q ar lv hW0 hW16 (r0.w16 w0.2) r1 (by omega) w1.2
 | 14, _, [x], _, [p], _ =>
  have r0 := hr 0 (by decide)
  have w0 := hw 0 (by decide)
  simp only [aC] at r0 w0
  have hv' := hv rfl
  exact No bs H W v x ar _ lv hW0 hW16 (r0.w16 w0.2) hv'.1 (by omega)
 | 15, _, [x], _, [p], _ => exact Np bs H W v x ar _ lv hW0 hW16
 | 16, _, [x], _, [p], _ =>
  have r0 := hr 0 (by decide)
  have w0 := hw 0 (by decide)
  simp only [aC] at r0 w0
  have hf2 : p ≤ W := of_decide_eq_true hf
  exact Nq bs H W v x p ar [] lv hW0 hW16 r0 w0.1 hf2
 | 17, _, [x, y], _, [p, q], _ =>
  have r0 := hr 0 (by decide)
  have r1 := hr 1 (by decide)
  have w0 := hw 0 (by decide)
  simp only [aC, dW] at r0 r1 w0
  exact Nr bs H W v x y ar _ lv hW0 hW16 (r0.w16 w0.2) r1.1
 | 18, _, [x, y], _, [p, q], _ =>
  have r0 := hr 0 (by decide)
  have r1 := hr 1 (by decide)
  have w0 := hw 0 (by decide)
  simp only [aC, dW] at r0 r1 w0
  exact Ns bs H W v x y ar _ lv hW0 hW16 (r0.w16 w0.2) r1.1
 | k + 19, hk, _, _, _, _ => omega
end Go.E
namespace Go.E
open Go.Proofs
set_option maxRecDepth 100000
set_option maxHeartbeats 4000000
theorem Gy {α : Type} (f : α → V) (z : V) (l : List α) (i j : Nat) (x : α) (hj : j < i) (h : l[j]? = some x) : (fill f z l i)[j]? = some (f x) := by
 unfold fill
 have hl := (List.getElem?_eq_some_iff.1 h).1
 rw [List.getElem?_append_left (by simp; omega), List.getElem?_map, List.getElem?_take, if_pos hj, h]; rfl
theorem qO (nodes : List Node) (lv : List Int) (i : Nat) : ∀ k j, j < i → (valsL nodes lv (i + k))[j]? = (valsL nodes lv i)[j]?
 | 0, j, _ => rfl
 | k + 1, j, h => by
  rw [show i + (k + 1) = (i + k) + 1 by omega, valsL, List.getElem?_append_left (by rw [gV]; omega)]
  exact qO nodes lv i k j h
theorem Cr (bs : List Nat) (G : Heap) (b i : Nat) (A : List V) (nodes : List Node) (x : Node) (done : List Int) (hx : nodes[i]? = some x) (hA : G[b]? = some (.arr A 0)) (hal : x.args.length ≤ 1000000)
  (hget : ∀ n ∈ x.args, 0 ≤ n ∧ n < nodes.length ∧ A[n.toNat]? = some (.int .i64 (at0 done n.toNat))) :
  ∀ k ρ H', k ≤ x.args.length → (∃ vs ws, vs = valsOf done (x.args.take k) ∧ ws = widthsOf nodes (x.args.take k) ∧ H' = G ++ [.tok vs.length, .tok ws.length] ∧ ρ 0 = .list (nodes.map encNode) ∧ ρ 5 = .ref 1 b 0 0 nodes.length ∧ ρ 6 = .int .i64 i ∧
    ρ 7 = .tl G.length (vs.map (.int .i64)) ∧ ρ 8 = .tl (G.length + 1) (ws.map (.int .i64)) ∧ ρ 9 = .int .i64 k) →
   Lp X ⟨70, bs⟩ (loopAt Tryz.f76 1) ρ H' fun ex ρ' H' => H' = G ++ [.tok x.args.length, .tok x.args.length] ∧ ex = .exit 2 ∧ ρ' 7 = .tl G.length ((valsOf done x.args).map (.int .i64)) ∧ ρ' 8 = .tl (G.length + 1) ((widthsOf nodes x.args).map (.int .i64)) := by
 have hA2 := iQ hA
 clear hA
 refine dO ?_ ?_
 ·rintro k ρ H' hk ⟨vs, ws, hvs, hws, rfl, h0, h5, h6, h7, h8, h9⟩
  have hg : x.args[k]? = some x.args[k] := by simp [hk]
  have hm := hget x.args[k] (List.getElem_mem hk)
  have htk : x.args.take (k + 1) = x.args.take k ++ [x.args[k]] := by rw [List.take_add_one, hg]; rfl
  generalize x.args[k] = n at hg hm htk
  obtain ⟨m, rfl⟩ : ∃ m : Nat, n = m := ⟨n.toNat, by omega⟩
  have hlt : m < nodes.length := by omega
  have hget2 : nodes[m]? = some nodes[m] := by simp [hlt]
  have hgA := hm.2.2
  rw [Int.toNat_natCast] at hgA
  have hsn := jv nodes (x.args.take k) m nodes[m] (by simp)
  have hsv : valsOf done (x.args.take k ++ [(m : Int)]) = valsOf done (x.args.take k) ++ [at0 done m] := by simp [valsOf]
  generalize nodes[m] = y at hget2 hsn
  generalize at0 done m = z at hgA hsv
  have hlen : ws.length = k := by rw [hws]; simp [widthsOf]; omega
  have hlenv : vs.length = k := by rw [hvs]; simp [valsOf]; omega
  have hroom := pm ws.length (by omega)
  have hroomv := pm vs.length (by omega)
  have hw := add1 k x.args.length hk hal
  rw [← hws, ← htk] at hsn
  rw [← hvs, ← htk] at hsv
  replace hws : Kp (ws = widthsOf nodes (x.args.take k)) := ⟨hws⟩
  replace hvs : Kp (vs = valsOf done (x.args.take k)) := ⟨hvs⟩
  replace hsn : Kp (widthsOf nodes (x.args.take (k + 1)) = ws ++ [y.width]) := ⟨hsn⟩
  replace hsv : Kp (valsOf done (x.args.take (k + 1)) = vs ++ [z]) := ⟨hsv⟩
  replace hlen : Kp (ws.length = k) := ⟨hlen⟩
  replace hlenv : Kp (vs.length = k) := ⟨hlenv⟩
  clear htk hm hget
  conv => arg 3; whnf
  repeat' first
   | (refine yw1 (id := 9) oz30 oz31 ?_)
   | (refine zs ?_; repeat' first | apply zs0 | apply zs2 | (intro hc; try have hq := dq hc)) | fail
  exact ⟨vs ++ [z], ws ++ [y.width], hsv.out.symm, hsn.out.symm, by simp, yw3, yw3, yw3, by simp [push_cast], by simp [push_cast], yw3⟩
 ·rintro ρ H' ⟨vs, ws, hvs, hws, rfl, h0, h5, h6, h7, h8, h9⟩
  rw [List.take_length] at hws hvs
  have hlen : ws.length = x.args.length := by rw [hws]; simp [widthsOf]
  have hlenv : vs.length = x.args.length := by rw [hvs]; simp [valsOf]
  replace hws : Kp (ws = widthsOf nodes x.args) := ⟨hws⟩
  replace hvs : Kp (vs = valsOf done x.args) := ⟨hvs⟩
  replace hlen : Kp (ws.length = x.args.length) := ⟨hlen⟩
  replace hlenv : Kp (vs.length = x.args.length) := ⟨hlenv⟩
  clear hget
  conv => arg 3; whnf
  repeat' first
   | (refine yw1 (id := 9) oz30 oz31 ?_)
   | (refine zs ?_; repeat' first | apply zs0 | apply zs2 | (intro hc; try have hq := dq hc)) | fail
  exact ⟨by rw [hlen.out, hlenv.out], rfl, by rw [← hvs.out]; (simp only [seval, push_cast, *] <;> rfl), by rw [← hws.out]; (simp only [seval, push_cast, *] <;> rfl)⟩
theorem Cs {leaves lv : List Int} {nodes : List Node} {i : Nat} {x : Node} (hg : GoodAll leaves nodes) (hl : LeafOk leaves lv) (hx : nodes[i]? = some x) (bs : List Nat) (H : Heap) :
  callw X bs 157 [.agg [.int .i64 x.op, .int .i64 x.width, .list (x.args.map (.int .i64)), .int .i64 x.value], .list ((valsOf (valsL nodes lv i) x.args).map (.int .i64)), .list ((widthsOf nodes x.args).map (.int .i64)), .list (lv.map (.int .i64))] H
   = some (.int .i64 (valN nodes lv (valsL nodes lv i) x), H) := by
 have g := hg i x hx
 have hil := (List.getElem?_eq_some_iff.1 hx).1
 unfold valN
 by_cases h1 : x.op = 1
 ·rw [if_pos h1]
  have hva := g.val
  rw [h1] at hva
  obtain ⟨a, b, c⟩ := pt hva
  have hlr := hl.1
  have h2 : x.value.toNat < lv.length := by omega
  have := ap_1 bs H x.width x.value.toNat lv[x.value.toNat] (x.args.map (.int .i64)) ((valsOf (valsL nodes lv i) x.args).map (.int .i64)) ((widthsOf nodes x.args).map (.int .i64)) lv (by have := g.W1; omega) g.W16 (by simp [h2])
  rw [Int.toNat_of_nonneg a] at this
  rw [h1, fW (l := lv) (i := x.value.toNat) (v := lv[x.value.toNat]) (by simp [h2])]
  exact this
 ·rw [if_neg h1]
  have hok := oE.okArgs hg hl (oE hg hl i (by omega)) hx
  have := zH bs H x.op.toNat x.width x.value (x.args.map (.int .i64)) (lv.map (.int .i64)) _ _ hok (by have := g.op0; omega)
  rw [Int.toNat_of_nonneg g.op0] at this
  exact this
theorem Ct (bs : List Nat) (H : Heap) (t : HObj) (leaves lv : List Int) (nodes : List Node) (hn : nodes.length ≤ 1000) (hal : ∀ x ∈ nodes, x.args.length ≤ 1000000) (hg : GoodAll leaves nodes) (hl : LeafOk leaves lv) :
  ∀ i ρ H', i ≤ nodes.length → (∃ junk, H' = H ++ t :: .arr (fill (V.int .i64) (.int .i64 0) (valsL nodes lv nodes.length) i) 0 :: junk ∧ ρ 0 = .list (nodes.map encNode) ∧ ρ 1 = .list (lv.map (.int .i64)) ∧ ρ 5 = .ref 1 (H.length + 1) 0 0 nodes.length ∧ ρ 6 = .int .i64 i) →
   Lp X ⟨70, bs⟩ (loopAt Tryz.f76 0) ρ H' fun ex ρ' H' => ∃ junk, H' = H ++ t :: .arr ((valsL nodes lv nodes.length).map (.int .i64)) 0 :: junk ∧ ρ' 5 = .ref 1 (H.length + 1) 0 0 nodes.length ∧ ex = .exit 0 := by
 have hvl := gV nodes lv nodes.length
 refine dO ?_ ?_
 ·rintro i ρ H' hi ⟨junk, rfl, h0, h1, h5, h6⟩
  have hget : nodes[i]? = some nodes[i] := by simp [hi]
  have hal' := hal nodes[i] (List.getElem_mem hi)
  have g := hg i nodes[i] hget
  have hap := fun bs H => Cs hg hl hget bs H
  have hsv := tx nodes lv i nodes[i] hget
  have hlen := gV nodes lv i
  have hvi : (valsL nodes lv nodes.length)[i]? = some (valN nodes lv (valsL nodes lv i) nodes[i]) := by
   have := qO nodes lv (i + 1) (nodes.length - (i + 1)) i (by omega)
   rw [show i + 1 + (nodes.length - (i + 1)) = nodes.length by omega] at this
   rw [this, hsv, List.getElem?_append_right (by omega), hlen]; simp
  have hgA : ∀ n ∈ nodes[i].args, 0 ≤ n ∧ n < nodes.length ∧ (fill (V.int .i64) (.int .i64 0) (valsL nodes lv nodes.length) i)[n.toNat]? = some (.int .i64 (at0 (valsL nodes lv i) n.toNat)) := fun n hnm => by
   have h := g.args n hnm
   have hpre := qO nodes lv i (nodes.length - i) n.toNat (by omega)
   rw [show i + (nodes.length - i) = nodes.length by omega] at hpre
   have h3 : n.toNat < (valsL nodes lv i).length := by omega
   refine ⟨h.1, by omega, ?_⟩
   rw [fW (l := valsL nodes lv i) (i := n.toNat) (v := (valsL nodes lv i)[n.toNat]) (by simp [h3])]
   exact Gy _ _ _ _ _ _ (by omega) (by rw [hpre]; simp [h3])
  have hs := kM (V.int .i64) (.int .i64 0) (valsL nodes lv nodes.length) i _ hvi
  have hz := pn (V.int .i64) (.int .i64 0) (valsL nodes lv nodes.length) i (by omega)
  have hw := add1 i nodes.length hi (by omega)
  have hin := fun (bs : List Nat) (ρ : Env) (H' : Heap) => Cr bs (H ++ t :: .arr (fill (V.int .i64) (.int .i64 0) (valsL nodes lv nodes.length) i) 0 :: junk) (H.length + 1) i _ nodes nodes[i] (valsL nodes lv i) hget (by simp) hal' hgA 0 ρ H'
  clear hgA hsv hlen hvi g hg hl hal hal'
  generalize nodes[i] = x at hget hap hs hin
  generalize valN nodes lv (valsL nodes lv i) x = z at hap hs
  generalize valsL nodes lv i = dn at hap hin
  generalize hfi : fill (V.int .i64) (.int .i64 0) (valsL nodes lv nodes.length) i = A at hs hz hin ⊢
  replace hfi : Kp (fill (V.int .i64) (.int .i64 0) (valsL nodes lv nodes.length) i = A) := ⟨hfi⟩
  generalize hfj : fill (V.int .i64) (.int .i64 0) (valsL nodes lv nodes.length) (i + 1) = B at hs ⊢
  clear hfi hvl
  conv => arg 3; whnf
  repeat' first
   | (refine yw1 (id := 9) oz30 oz31 ?_)
   | (refine zs ?_; repeat' first | apply zs0 | apply zs2 | (intro hc; try have hq := dq hc)) | fail
  refine ab (af (c := loopAt Tryz.f76 1) rfl (hin _ _ _ (by omega) ⟨[], [], rfl, rfl, by simp, yw3, yw3, yw3, by simp [push_cast], by (simp [push_cast]; omega), yw3⟩)) ?_
  rintro ex ρ' H' ⟨hH, rfl, h7, h8⟩ hf
  have f0 := hf 0 rfl
  have f1 := hf 1 rfl
  have f5 := hf 5 rfl
  have f6 := hf 6 rfl
  simp only [seval, push_cast, h0, h1, h5, h6] at f0 f1 f5 f6
  rw [List.append_assoc, List.cons_append, List.cons_append] at hH
  subst hH
  clear hin hf
  repeat' first
   | (refine yw1 (id := 9) oz30 oz31 ?_)
   | (refine zs ?_; repeat' first | apply zs0 | apply zs2 | (intro hc; try have hq := dq hc)) | fail
  exact ⟨_, rfl, yw3, yw3, yw3, yw3⟩
 ·rintro ρ H' ⟨junk, rfl, h0, h1, h5, h6⟩
  rw [show fill (V.int .i64) (.int .i64 0) (valsL nodes lv nodes.length) nodes.length = (valsL nodes lv nodes.length).map (.int .i64) by rw [← po (V.int .i64) (.int .i64 0), hvl]]
  clear hg hl hal
  conv => arg 3; whnf
  repeat' first
   | (refine yw1 (id := 9) oz30 oz31 ?_)
   | (refine zs ?_; repeat' first | apply zs0 | apply zs2 | (intro hc; try have hq := dq hc)) | fail
  exact ⟨junk, rfl, yw3, rfl⟩
theorem lF (bs : List Nat) (H : Heap) (leaves lv : List Int) (nodes : List Node) (hn : nodes.length ≤ 1000) (hal : ∀ x ∈ nodes, x.args.length ≤ 1000000) (hg : GoodAll leaves nodes) (hl : LeafOk leaves lv) : callw X bs 76 [.list (nodes.map encNode), .list (lv.map (.int .i64))] H = some (.list ((valsL nodes lv nodes.length).map (.int .i64)), H) := by
 refine yw2 (rs := [.tmp 4]) (N := 70) (fn := Tryz.f76) xk76 Tryz.func76 ?_
 have hloop := fun (bs : List Nat) (t : HObj) (ρ : Env) => Ct bs H t leaves lv nodes hn hal hg hl 0 ρ
 have hvl := gV nodes lv nodes.length
 have h1 := jG (n := nodes.length) (k := 8) (by omega) (by omega)
 have h2 := pp (n := nodes.length) (by omega)
 have h3 := tt (V.int .i64) (.int .i64 0) (valsL nodes lv nodes.length)
 rw [hvl] at h3
 replace h3 : Kp (fill (V.int .i64) (.int .i64 0) (valsL nodes lv nodes.length) 0 = List.replicate nodes.length (.int .i64 0)) := ⟨h3⟩
 replace hvl : Kp ((valsL nodes lv nodes.length).length = nodes.length) := ⟨hvl⟩
 clear hal hg hl
 repeat' first
  | (refine yw1 (id := 9) oz30 oz31 ?_)
  | (refine zs ?_; repeat' first | apply zs0 | apply zs2 | (intro hc; try have hq := dq hc)) | fail
 refine ab (af (c := loopAt Tryz.f76 0) rfl (hloop _ _ _ _ (by omega) ⟨[], by rw [h3.out], yw3, yw3, yw3, yw3⟩)) ?_
 rintro ex ρ' H' ⟨junk, rfl, f5, rfl⟩ hf
 rw [← hvl.out] at f5
 clear hloop hvl h1 h2 h3 hf hn
 generalize valsL nodes lv nodes.length = vals at f5 ⊢
 repeat' first
  | (refine yw1 (id := 9) oz30 oz31 ?_)
  | (refine zs ?_; repeat' first | apply zs0 | apply zs2 | (intro hc; try have hq := dq hc)) | fail
end Go.E
namespace Go.E
open Go.Proofs Classical
set_option maxRecDepth 100000
set_option maxHeartbeats 4000000
noncomputable section
def eL (F : Nat) (a : List Int) (b : List Int) : Nat → Nat → Option (Oc (Bool) (Unit))
 | 0, _ => none
 | k + 1, s2 => (if (decide ((s2 : Int) < (a.length : Int))) = true then ((a[s2]?).bind fun x5 => ((b[s2]?).bind fun x6 => (if (decide (¬x5 = x6)) = true then some (.a false) else (if inI ((s2 : Int) + 1) then eL F a b k (s2 + 1) else none)))) else some (.b ()))
theorem rC (bs : List Nat) (H : Heap) (F : Nat) (a : List Int) (b : List Int) : ∀ k s r ρ H', (∃ J3, H' = H ++ J3 ∧ ρ 0 = .list (a.map (V.int .i64)) ∧ ρ 1 = .list (b.map (V.int .i64)) ∧ ρ 5 = .int .i64 (s : Int)) → eL F a b k s = some r → Lp X ⟨26, H.length :: bs⟩ (loopAt Tryz.f26 0) ρ H' ((fun r ex ρ H' => match r with | .a r => ∃ J3, H' = H ++ J3 ∧ ex = .ret ∧ ρ 4 = .bool r | .b r => ∃ J3, H' = H ++ J3 ∧ ex = .exit 0) r) := by
 refine ae (fun _ => rfl) ?_
 rintro k s2 r ρ H' ⟨J3, hH, h0, h1, h5⟩ hR
 skip
 subst hH
 rw [eL] at hR
 conv => arg 3; whnf
 try refine zw ?_
 rcases iteE hR with ⟨c4, hR⟩ | ⟨c4, hR⟩
 ·obtain ⟨x5, x5_e, hR⟩ := bindE hR
  obtain ⟨x6, x6_e, hR⟩ := bindE hR
  try refine zu ?_
  (refine yw0 (id := 6) oz1 ?_)
  try refine zw ?_
  rcases iteE hR with ⟨c7, hR⟩ | ⟨c7, hR⟩
  ·obtain rfl := someE hR
   refine zu ?_
   exact ⟨_, hq, rfl, sl⟩
  ·obtain ⟨g8, hR⟩ := grdE hR
   have g8_w := ac g8
   refine zu ?_
   exact ⟨(s2 + 1), ⟨_, hq, sl, sl, sl⟩, hR.out⟩
 ·obtain rfl := someE hR
  refine zu ?_
  exact ⟨_, hq, rfl⟩
def eP (F : Nat) (a : List Int) (b : List Int) : List Int → Nat → Unit → Option (Oc (Bool) (Unit))
 | [], s2, _ => some (.b ())
 | x_ :: r_, s2, _ => ((b[s2]?).bind fun x6 => (if (decide (¬x_ = x6)) = true then some (.a false) else eP F a b r_ (s2 + 1) ()))
theorem lA (F : Nat) (a : List Int) (b : List Int) (hl_ : a.length ≤ 1000000) : ∀ r_ i_ k_ (o_ : Unit), a.drop i_ = r_ → r_.length < k_ → eL F a b k_ i_ = eP F a b r_ i_ o_
 | _, _, 0, _, _, hk => absurd hk (Nat.not_lt_zero _)
 | [], i_, k_ + 1, _, hd, _ => by rw [eL, eP]; simp only [ai hd, Bool.false_eq_true, if_false]
 | x_ :: r_, i_, k_ + 1, _, hd, hk => by
  have ih := lA F a b hl_ r_ (i_ + 1) k_ () (ah hd) (Nat.lt_of_succ_lt_succ hk)
  rw [eL, eP]; simp only [aq hd, ak hd, if_pos (av hd hl_), Option.bind_some, if_true, ih]
def cq (F : Nat) (a : List Int) (b : List Int) : Option (Bool) := (if (decide (¬(a.length : Int) = (b.length : Int))) = true then some false else ((eL F a b F 0).bind fun o9 => match o9 with | .a o10 => some o10 | .b o12 => some true))
theorem iT (bs : List Nat) (H : Heap) (F : Nat) (a : List Int) (b : List Int) (R : Bool) (hR0 : cq F a b = some R) : callw X bs 26 [.list (a.map (V.int .i64)), .list (b.map (V.int .i64))] H = some (.bool R, H) := by
 refine yw2 (rs := [.tmp 4]) (N := 26) (fn := Tryz.f26) xk26 Tryz.func26 ?_
 have hR := Kp.mk hR0
 clear hR0
 rw [cq] at hR
 try refine zw ?_
 rcases iteE hR with ⟨c1, hR⟩ | ⟨c1, hR⟩
 ·obtain rfl := someE hR
  exact zv
 ·obtain ⟨o9, o9_e, hR⟩ := bindE hR
  refine zu ?_
  refine ab (af (c := (loopAt Tryz.f26 0)) rfl (rC _ H F a b _ 0 o9 _ _ ⟨[], by simp, sl, sl, sl⟩ o9_e)) ?_
  rcases o9 with o10 | o12
  ·rintro ex ρ' H' ⟨J11, rfl, rfl, q4_o10⟩ hf
   clear hf
   obtain rfl := someE hR
   exact zv
  ·rintro ex ρ' H' ⟨J13, rfl, rfl⟩ hf
   clear hf
   obtain rfl := someE hR
   exact zv
def dZ (F : Nat) (a : List (List Int)) (b : List (List Int)) : Nat → Nat → Option (Oc (Bool) (Unit))
 | 0, _ => none
 | k + 1, s2 => (if (decide ((s2 : Int) < (a.length : Int))) = true then ((a[s2]?).bind fun x5 => ((b[s2]?).bind fun x6 => ((cq F x5 x6).bind fun y7 => (if y7 = true then (if inI ((s2 : Int) + 1) then dZ F a b k (s2 + 1) else none) else some (.a false))))) else some (.b ()))
theorem qP (bs : List Nat) (H : Heap) (F : Nat) (a : List (List Int)) (b : List (List Int)) : ∀ k s r ρ H', (∃ J3, H' = H ++ J3 ∧ ρ 0 = .list (a.map encInts) ∧ ρ 1 = .list (b.map encInts) ∧ ρ 5 = .int .i64 (s : Int)) → dZ F a b k s = some r → Lp X ⟨27, H.length :: bs⟩ (loopAt Tryz.f24 0) ρ H' ((fun r ex ρ H' => match r with | .a r => ∃ J3, H' = H ++ J3 ∧ ex = .ret ∧ ρ 4 = .bool r | .b r => ∃ J3, H' = H ++ J3 ∧ ex = .exit 0) r) := by
 refine ae (fun _ => rfl) ?_
 rintro k s2 r ρ H' ⟨J3, hH, h0, h1, h5⟩ hR
 skip
 subst hH
 rw [dZ] at hR
 conv => arg 3; whnf
 try refine zw ?_
 rcases iteE hR with ⟨c4, hR⟩ | ⟨c4, hR⟩
 ·obtain ⟨x5, x5_e, hR⟩ := bindE hR
  obtain ⟨x6, x6_e, hR⟩ := bindE hR
  obtain ⟨y7, y7_e, hR⟩ := bindE hR
  have y7_k := fun bs H => iT bs H F x5 x6 y7 y7_e
  try refine zu ?_
  (refine yw0 (id := 6) oz2 ?_)
  try refine zw ?_
  clear y7_k
  rcases iteE hR with ⟨c8, hR⟩ | ⟨c8, hR⟩
  ·obtain ⟨g9, hR⟩ := grdE hR
   have g9_w := ac g9
   refine zu ?_
   exact ⟨(s2 + 1), ⟨_, hq, sl, sl, sl⟩, hR.out⟩
  ·obtain rfl := someE hR
   refine zu ?_
   exact ⟨_, hq, rfl, sl⟩
 ·obtain rfl := someE hR
  refine zu ?_
  exact ⟨_, hq, rfl⟩
def fy (F : Nat) (a : List (List Int)) (b : List (List Int)) : List (List Int) → Nat → Unit → Option (Oc (Bool) (Unit))
 | [], s2, _ => some (.b ())
 | x_ :: r_, s2, _ => ((b[s2]?).bind fun x6 => ((cq F x_ x6).bind fun y7 => (if y7 = true then fy F a b r_ (s2 + 1) () else some (.a false))))
theorem kC (F : Nat) (a : List (List Int)) (b : List (List Int)) (hl_ : a.length ≤ 1000000) : ∀ r_ i_ k_ (o_ : Unit), a.drop i_ = r_ → r_.length < k_ → dZ F a b k_ i_ = fy F a b r_ i_ o_
 | _, _, 0, _, _, hk => absurd hk (Nat.not_lt_zero _)
 | [], i_, k_ + 1, _, hd, _ => by rw [dZ, fy]; simp only [ai hd, Bool.false_eq_true, if_false]
 | x_ :: r_, i_, k_ + 1, _, hd, hk => by
  have ih := kC F a b hl_ r_ (i_ + 1) k_ () (ah hd) (Nat.lt_of_succ_lt_succ hk)
  rw [dZ, fy]; simp only [aq hd, ak hd, if_pos (av hd hl_), Option.bind_some, if_true, ih]
def iq (F : Nat) (a : List (List Int)) (b : List (List Int)) : Option (Bool) := (if (decide (¬(a.length : Int) = (b.length : Int))) = true then some false else ((dZ F a b F 0).bind fun o10 => match o10 with | .a o11 => some o11 | .b o13 => some true))
theorem tI (bs : List Nat) (H : Heap) (F : Nat) (a : List (List Int)) (b : List (List Int)) (R : Bool) (hR0 : iq F a b = some R) : callw X bs 24 [.list (a.map encInts), .list (b.map encInts)] H = some (.bool R, H) := by
 refine yw2 (rs := [.tmp 4]) (N := 27) (fn := Tryz.f24) xk24 Tryz.func24 ?_
 have hR := Kp.mk hR0
 clear hR0
 rw [iq] at hR
 try refine zw ?_
 rcases iteE hR with ⟨c1, hR⟩ | ⟨c1, hR⟩
 ·obtain rfl := someE hR
  exact zv
 ·obtain ⟨o10, o10_e, hR⟩ := bindE hR
  refine zu ?_
  refine ab (af (c := (loopAt Tryz.f24 0)) rfl (qP _ H F a b _ 0 o10 _ _ ⟨[], by simp, sl, sl, sl⟩ o10_e)) ?_
  rcases o10 with o11 | o13
  ·rintro ex ρ' H' ⟨J12, rfl, rfl, q4_o11⟩ hf
   clear hf
   obtain rfl := someE hR
   exact zv
  ·rintro ex ρ' H' ⟨J14, rfl, rfl⟩ hf
   clear hf
   obtain rfl := someE hR
   exact zv
def dI (F : Nat) (d : Desg) : Nat → (Nat × (List Int)) → Option ((List Int))
 | 0, _ => none
 | k + 1, (s8, s9) => (if (decide ((s8 : Int) < (d.elements.length : Int))) = true then ((d.elements[s8]?).bind fun x12 => ((s9[s8]?).bind fun x13 => (if inI ((s8 : Int) + 1) then dI F d k ((s8 + 1), (s9.set s8 x12.init)) else none))) else some s9)
theorem qj (bs : List Nat) (H : Heap) (F : Nat) (d : Desg) : ∀ k s r ρ H', (∃ J10, H' = H ++ .cells [.str d.name, .list (d.inputs.map encPort), .list (d.elements.map encElem), .list (d.nodes.map encNode), .list (d.rules.map encRul), .list (d.outs.map encOutp), .list (d.attrs.map encAttr)] :: .tok 0 :: .arr (s.2.map (V.int .i64)) 0 :: J10 ∧ ρ 1 = .ptr H.length 0 ∧ ρ 3 = .ref 1 (H.length + 2) 0 0 d.elements.length ∧ ρ 4 = .int .i64 (s.1 : Int) ∧ Kp (s.2.length = d.elements.length)) → dI F d k s = some r → Lp X ⟨26, H.length :: bs⟩ (loopAt Tryz.f44 0) ρ H' ((fun r ex ρ H' => ∃ J10, H' = H ++ .cells [.str d.name, .list (d.inputs.map encPort), .list (d.elements.map encElem), .list (d.nodes.map encNode), .list (d.rules.map encRul), .list (d.outs.map encOutp), .list (d.attrs.map encAttr)] :: .tok 0 :: .arr (r.map (V.int .i64)) 0 :: J10 ∧ ex = .exit 0 ∧ Kp (r.length = d.elements.length)) r) := by
 refine ae (fun _ => rfl) ?_
 rintro k ⟨s8, s9⟩ r ρ H' ⟨J10, hH, h1, h3, h4, hl0⟩ hR
 simp only at hH h1 h3 h4 hl0
 subst hH
 rw [dI] at hR
 conv => arg 3; whnf
 try refine zw ?_
 rcases iteE hR with ⟨c11, hR⟩ | ⟨c11, hR⟩
 ·obtain ⟨x12, x12_e, hR⟩ := bindE hR
  obtain ⟨x13, x13_e, hR⟩ := bindE hR
  have x13_l : s8 < d.elements.length := Nat.lt_of_lt_of_eq (aa x13_e) hl0.out
  obtain ⟨g14, hR⟩ := grdE hR
  have g14_w := ac g14
  refine zu ?_
  exact ⟨((s8 + 1), (s9.set s8 x12.init)), ⟨_, hq, sl, sl, sl, ⟨(List.length_set.trans hl0.out)⟩⟩, hR.out⟩
 ·obtain rfl := someE hR
  refine zu ?_
  exact ⟨_, hq, rfl, ⟨hl0.out⟩⟩
def cE (F : Nat) (d : Desg) : List Elem → Nat → (List Int) → Option ((List Int))
 | [], s8, s9 => some s9
 | x_ :: r_, s8, s9 => ((s9[s8]?).bind fun x13 => cE F d r_ (s8 + 1) (s9.set s8 x_.init))
theorem ko (F : Nat) (d : Desg) (hl_ : d.elements.length ≤ 1000000) : ∀ r_ i_ k_ (o_ : (List Int)), d.elements.drop i_ = r_ → r_.length < k_ → dI F d k_ (i_, o_) = cE F d r_ i_ o_
 | _, _, 0, _, _, hk => absurd hk (Nat.not_lt_zero _)
 | [], i_, k_ + 1, s9, hd, _ => by rw [dI, cE]; simp only [ai hd, Bool.false_eq_true, if_false]
 | x_ :: r_, i_, k_ + 1, s9, hd, hk => by
  have ih := fun o_ => ko F d hl_ r_ (i_ + 1) k_ o_ (ah hd) (Nat.lt_of_succ_lt_succ hk)
  rw [dI, cE]; simp only [aq hd, ak hd, if_pos (av hd hl_), Option.bind_some, if_true, ih]
def gO (F : Nat) (d : Desg) : Option ((List Int)) := (if d.elements.length ≤ 1000000 then ((dI F d F (0, (List.replicate d.elements.length 0))).bind fun o16 => some o16) else none)
theorem sF (bs : List Nat) (H : Heap) (F : Nat) (d : Desg) (R : (List Int)) (hR0 : gO F d = some R) : callw X bs 44 [(encDesg d)] H = some (.list (R.map (V.int .i64)), H) := by
 refine yw2 (rs := [.tmp 2]) (N := 26) (fn := Tryz.f44) xk44 Tryz.func44 ?_
 have hR := Kp.mk hR0
 clear hR0
 rw [gO] at hR
 (try simp only [cellsDesg, encDesg, encInts])
 obtain ⟨g1, hR⟩ := grdE hR
 have g1_r := ka (n := d.elements.length) (k := 8) g1 (by omega)
 have g1_i := Hc (n := d.elements.length) g1
 obtain ⟨o16, o16_e, hR⟩ := bindE hR
 refine zu ?_
 refine ab (af (c := (loopAt Tryz.f44 0)) rfl (qj _ H F d _ (0, (List.replicate d.elements.length 0)) o16 _ _ ⟨_, hq, sl, sl, sl, ⟨List.length_replicate⟩⟩ o16_e)) ?_
 rintro ex ρ' H' ⟨J17, rfl, rfl, hl_o16_0⟩ hf
 have q3_o16 : ρ' 3 = .ref 1 (H.length + 2) 0 0 d.elements.length := (hf 3 rfl).trans (sl)
 clear hf
 obtain rfl := someE hR
 have rt0 := ic (V.int .i64) (l := o16) (n := d.elements.length) hl_o16_0.out
 have rt1 := kb (l := o16) (n := d.elements.length) hl_o16_0.out
 exact zv
def ec (F : Nat) (d : Desg) : Nat → (Nat × (List Int)) → Option ((List Int))
 | 0, _ => none
 | k + 1, (s11, s12) => (if (decide ((s11 : Int) < (d.elements.length : Int))) = true then ((d.elements[s11]?).bind fun x15 => (if (decide (x15.kind = 1)) = true then ((s12[s11]?).bind fun x18 => (if inI ((s11 : Int) + 1) then ec F d k ((s11 + 1), (s12.set s11 x15.init)) else none)) else (if inI ((s11 : Int) + 1) then ec F d k ((s11 + 1), s12) else none))) else some s12)
theorem qQ (bs : List Nat) (H : Heap) (F : Nat) (d : Desg) (state : List Int) : ∀ k s r ρ H', (∃ J13, H' = H ++ .cells [.str d.name, .list (d.inputs.map encPort), .list (d.elements.map encElem), .list (d.nodes.map encNode), .list (d.rules.map encRul), .list (d.outs.map encOutp), .list (d.attrs.map encAttr)] :: .tok 0 :: .arr (s.2.map (V.int .i64)) 0 :: J13 ∧ ρ 2 = .ptr H.length 0 ∧ ρ 5 = .ref 1 (H.length + 2) 0 0 state.length ∧ ρ 6 = .int .i64 (s.1 : Int) ∧ Kp (s.2.length = state.length)) → ec F d k s = some r → Lp X ⟨33, H.length :: bs⟩ (loopAt Tryz.f45 0) ρ H' ((fun r ex ρ H' => ∃ J13, H' = H ++ .cells [.str d.name, .list (d.inputs.map encPort), .list (d.elements.map encElem), .list (d.nodes.map encNode), .list (d.rules.map encRul), .list (d.outs.map encOutp), .list (d.attrs.map encAttr)] :: .tok 0 :: .arr (r.map (V.int .i64)) 0 :: J13 ∧ ex = .exit 0 ∧ Kp (r.length = state.length)) r) := by
 refine ae (fun _ => rfl) ?_
 rintro k ⟨s11, s12⟩ r ρ H' ⟨J13, hH, h2, h5, h6, hl0⟩ hR
 simp only at hH h2 h5 h6 hl0
 subst hH
 rw [ec] at hR
 conv => arg 3; whnf
 try refine zw ?_
 rcases iteE hR with ⟨c14, hR⟩ | ⟨c14, hR⟩
 ·obtain ⟨x15, x15_e, hR⟩ := bindE hR
  try refine zw ?_
  rcases iteE hR with ⟨c16, hR⟩ | ⟨c16, hR⟩
  ·obtain ⟨x18, x18_e, hR⟩ := bindE hR
   have x18_l : s11 < state.length := Nat.lt_of_lt_of_eq (aa x18_e) hl0.out
   obtain ⟨g19, hR⟩ := grdE hR
   have g19_w := ac g19
   refine zu ?_
   exact ⟨((s11 + 1), (s12.set s11 x15.init)), ⟨_, hq, sl, sl, sl, ⟨(List.length_set.trans hl0.out)⟩⟩, hR.out⟩
  ·obtain ⟨g20, hR⟩ := grdE hR
   have g20_w := ac g20
   refine zu ?_
   exact ⟨((s11 + 1), s12), ⟨_, hq, sl, sl, sl, ⟨hl0.out⟩⟩, hR.out⟩
 ·obtain rfl := someE hR
  refine zu ?_
  exact ⟨_, hq, rfl, ⟨hl0.out⟩⟩
def ep (F : Nat) (d : Desg) (state : List Int) : Nat → Nat → Option (Unit)
 | 0, _ => none
 | k + 1, s24 => (if (decide ((s24 : Int) < (d.elements.length : Int))) = true then ((d.elements[s24]?).bind fun x27 => (if (decide (x27.kind = 1)) = true then ((state[s24]?).bind fun x30 => none) else (if inI ((s24 : Int) + 1) then ep F d state k (s24 + 1) else none))) else some ())
theorem pL (bs : List Nat) (H : Heap) (F : Nat) (d : Desg) (state : List Int) : ∀ k s r ρ H', (∃ J25, H' = H ++ .cells [.str d.name, .list (d.inputs.map encPort), .list (d.elements.map encElem), .list (d.nodes.map encNode), .list (d.rules.map encRul), .list (d.outs.map encOutp), .list (d.attrs.map encAttr)] :: .tok 0 :: J25 ∧ ρ 2 = .ptr H.length 0 ∧ ρ 5 = .list (state.map (V.int .i64)) ∧ ρ 6 = .int .i64 (s : Int)) → ep F d state k s = some r → Lp X ⟨33, H.length :: bs⟩ (loopAt Tryz.f45 0) ρ H' ((fun r ex ρ H' => ∃ J25, H' = H ++ .cells [.str d.name, .list (d.inputs.map encPort), .list (d.elements.map encElem), .list (d.nodes.map encNode), .list (d.rules.map encRul), .list (d.outs.map encOutp), .list (d.attrs.map encAttr)] :: .tok 0 :: J25 ∧ ex = .exit 0) r) := by
 refine ae (fun _ => rfl) ?_
 rintro k s24 r ρ H' ⟨J25, hH, h2, h5, h6⟩ hR
 skip
 subst hH
 rw [ep] at hR
 conv => arg 3; whnf
 try refine zw ?_
 rcases iteE hR with ⟨c26, hR⟩ | ⟨c26, hR⟩
 ·obtain ⟨x27, x27_e, hR⟩ := bindE hR
  try refine zw ?_
  rcases iteE hR with ⟨c28, hR⟩ | ⟨c28, hR⟩
  ·obtain ⟨x30, x30_e, hR⟩ := bindE hR
   exact nomatch hR.out
  ·obtain ⟨g31, hR⟩ := grdE hR
   have g31_w := ac g31
   refine zu ?_
   exact ⟨(s24 + 1), ⟨_, hq, sl, sl, sl⟩, hR.out⟩
 ·obtain rfl := someE hR
  refine zu ?_
  exact ⟨_, hq, rfl⟩
def dX (F : Nat) (d : Desg) (state : List Int) : Option ((List Int)) := (if state.length ≤ 1000000 then (if (decide (0 < state.length)) = true then ((ec F d F (0, state)).bind fun o22 => some o22) else ((ep F d state F 0).bind fun o33 => some state)) else none)
theorem kq (bs : List Nat) (H : Heap) (F : Nat) (d : Desg) (state : List Int) (R : (List Int)) (hR0 : dX F d state = some R) : callw X bs 45 [(encDesg d), .list (state.map (V.int .i64))] H = some (.list (R.map (V.int .i64)), H) := by
 refine yw2 (rs := [.tmp 4]) (N := 33) (fn := Tryz.f45) xk45 Tryz.func45 ?_
 have hR := Kp.mk hR0
 clear hR0
 rw [dX] at hR
 (try simp only [cellsDesg, encDesg, encInts])
 obtain ⟨g1, hR⟩ := grdE hR
 rcases iteE hR with ⟨c2, hR⟩ | ⟨c2, hR⟩
 ·have c2_p := uS state (of_decide_eq_true c2) g1
  obtain ⟨o22, o22_e, hR⟩ := bindE hR
  refine zu ?_
  refine ab (af (c := (loopAt Tryz.f45 0)) rfl (qQ _ H F d state _ (0, state) o22 _ _ ⟨_, hq, sl, sl, sl, ⟨rfl⟩⟩ o22_e)) ?_
  rintro ex ρ' H' ⟨J23, rfl, rfl, hl_o22_0⟩ hf
  have q5_o22 : ρ' 5 = .ref 1 (H.length + 2) 0 0 state.length := (hf 5 rfl).trans (sl)
  clear hf
  obtain rfl := someE hR
  have rt0 := ic (V.int .i64) (l := o22) (n := state.length) hl_o22_0.out
  have rt1 := kb (l := o22) (n := state.length) hl_o22_0.out
  exact zv
 ·have c2_p := uT state (of_decide_eq_false c2)
  have c2_k := fun bs H => lc bs H state g1
  obtain ⟨o33, o33_e, hR⟩ := bindE hR
  refine zu ?_
  refine ab (af (c := (loopAt Tryz.f45 0)) rfl (pL _ H F d state _ 0 o33 _ _ ⟨_, hq, sl, sl, sl⟩ o33_e)) ?_
  clear c2_k
  rintro ex ρ' H' ⟨J34, rfl, rfl⟩ hf
  have q5_o33 : ρ' 5 = .list (state.map (V.int .i64)) := (hf 5 rfl).trans (sl)
  clear hf
  obtain rfl := someE hR
  exact zv
def gB (F : Nat) (d : Desg) (rule : Int) (inputs : List Int) (state : List Int) : Option (Bool) := ((idxI d.rules rule).bind fun x1 => (if inputs.length + state.length ≤ 1000000 then (if d.nodes.length ≤ 1000 then (if ∀ x ∈ d.nodes, x.args.length ≤ 1000000 then (if ∃ ws, GoodAll ws d.nodes ∧ LeafOk ws (inputs ++ state) then ((idxI (valsL d.nodes (inputs ++ state) d.nodes.length) x1.guard).bind fun x8 => some (decide (x8 = 1))) else none) else none) else none) else none))
theorem rD (bs : List Nat) (H : Heap) (F : Nat) (d : Desg) (rule : Int) (inputs : List Int) (state : List Int) (R : Bool) (hR0 : gB F d rule inputs state = some R) : callw X bs 25 [(encDesg d), .int .i64 rule, .list (inputs.map (V.int .i64)), .list (state.map (V.int .i64))] H = some (.bool R, H) := by
 refine yw2 (rs := [.tmp 8]) (N := 24) (fn := Tryz.f25) xk25 Tryz.func25 ?_
 have hR := Kp.mk hR0
 clear hR0
 rw [gB] at hR
 (try simp only [cellsDesg, encDesg, encInts])
 obtain ⟨x1, x1_e, hR⟩ := bindE hR
 obtain ⟨x1_p, x1_e⟩ := idxE x1_e
 obtain ⟨g2, hR⟩ := grdE hR
 have k3_k := fun bs H => tW bs H inputs state g2
 obtain ⟨g4, hR⟩ := grdE hR
 obtain ⟨g5, hR⟩ := grdE hR
 obtain ⟨g6, hR⟩ := grdE hR
 have k7_k := fun bs H => lF bs H _ (inputs ++ state) d.nodes g4 g5 (Classical.choose_spec g6).1 (Classical.choose_spec g6).2
 obtain ⟨x8, x8_e, hR⟩ := bindE hR
 obtain ⟨x8_p, x8_e⟩ := idxE x8_e
 obtain rfl := someE hR
 try refine zu ?_
 (refine yw1 (id := 1) [0, 1, 2, 3, 6, 7, 8, 9, 10, 11, 4, 5, 12, 13, 14, 15] [(1, 10), (5, 10), (5, 11), (9, 10), (9, 11)] ?_)
 exact zv
def cF (F : Nat) (d : Desg) (inputs : List Int) (state : List Int) (x9 : Rul) : Nat → (Nat × (List Int)) → Option ((List Int))
 | 0, _ => none
 | k + 1, (s22, s24) => (if (decide ((s22 : Int) < (x9.writes.length : Int))) = true then ((x9.writes[s22]?).bind fun x27 => ((idxI (valsL d.nodes (inputs ++ state) d.nodes.length) x27.cond).bind fun x28 => (if (decide (x28 = 1)) = true then ((idxI (valsL d.nodes (inputs ++ state) d.nodes.length) x27.value).bind fun x32 => ((idxI s24 x27.element).bind fun x33 => (if inI ((s22 : Int) + 1) then cF F d inputs state x9 k ((s22 + 1), (s24.set x27.element.toNat x32)) else none))) else (if inI ((s22 : Int) + 1) then cF F d inputs state x9 k ((s22 + 1), s24) else none)))) else some s24)
theorem oL (bs : List Nat) (H : Heap) (F : Nat) (d : Desg) (inputs : List Int) (state : List Int) (x9 : Rul) (a23 : HObj) : ∀ k s r ρ H', (∃ J25, H' = H ++ a23 :: .tok 0 :: .arr (s.2.map (V.int .i64)) 0 :: J25 ∧ ρ 9 = .list ((valsL d.nodes (inputs ++ state) d.nodes.length).map (V.int .i64)) ∧ ρ 10 = .ref 1 (H.length + 2) 0 0 state.length ∧ ρ 11 = .list (x9.writes.map encWri) ∧ ρ 12 = .int .i64 (s.1 : Int) ∧ Kp (s.2.length = state.length)) → cF F d inputs state x9 k s = some r → Lp X ⟨58, H.length :: bs⟩ (loopAt Tryz.f27 0) ρ H' ((fun r ex ρ H' => ∃ J25, H' = H ++ a23 :: .tok 0 :: .arr (r.map (V.int .i64)) 0 :: J25 ∧ ex = .exit 0 ∧ Kp (r.length = state.length)) r) := by
 refine ae (fun _ => rfl) ?_
 rintro k ⟨s22, s24⟩ r ρ H' ⟨J25, hH, h9, h10, h11, h12, hl0⟩ hR
 simp only at hH h9 h10 h11 h12 hl0
 subst hH
 rw [cF] at hR
 conv => arg 3; whnf
 try refine zw ?_
 rcases iteE hR with ⟨c26, hR⟩ | ⟨c26, hR⟩
 ·obtain ⟨x27, x27_e, hR⟩ := bindE hR
  obtain ⟨x28, x28_e, hR⟩ := bindE hR
  obtain ⟨x28_p, x28_e⟩ := idxE x28_e
  try refine zw ?_
  rcases iteE hR with ⟨c29, hR⟩ | ⟨c29, hR⟩
  ·obtain ⟨x32, x32_e, hR⟩ := bindE hR
   obtain ⟨x32_p, x32_e⟩ := idxE x32_e
   obtain ⟨x33, x33_e, hR⟩ := bindE hR
   obtain ⟨x33_p, x33_e⟩ := idxE x33_e
   have x33_l : x27.element.toNat < state.length := Nat.lt_of_lt_of_eq (aa x33_e) hl0.out
   obtain ⟨g34, hR⟩ := grdE hR
   have g34_w := ac g34
   try refine zu ?_
   (refine yw0 (id := 8) oz53 ?_)
   try refine zu ?_
   exact ⟨((s22 + 1), (s24.set x27.element.toNat x32)), ⟨_, hq, sl, sl, sl, sl, ⟨(List.length_set.trans hl0.out)⟩⟩, hR.out⟩
  ·obtain ⟨g35, hR⟩ := grdE hR
   have g35_w := ac g35
   refine zu ?_
   exact ⟨((s22 + 1), s24), ⟨_, hq, sl, sl, sl, sl, ⟨hl0.out⟩⟩, hR.out⟩
 ·obtain rfl := someE hR
  refine zu ?_
  exact ⟨_, hq, rfl, ⟨hl0.out⟩⟩
def cY (F : Nat) (d : Desg) (inputs : List Int) (state : List Int) (x39 : Rul) : Nat → Nat → Option (Unit)
 | 0, _ => none
 | k + 1, s40 => (if (decide ((s40 : Int) < (x39.writes.length : Int))) = true then ((x39.writes[s40]?).bind fun x44 => ((idxI (valsL d.nodes (inputs ++ state) d.nodes.length) x44.cond).bind fun x45 => (if (decide (x45 = 1)) = true then ((idxI (valsL d.nodes (inputs ++ state) d.nodes.length) x44.value).bind fun x49 => ((idxI state x44.element).bind fun x50 => none)) else (if inI ((s40 : Int) + 1) then cY F d inputs state x39 k (s40 + 1) else none)))) else some ())
theorem nr (bs : List Nat) (H : Heap) (F : Nat) (d : Desg) (inputs : List Int) (state : List Int) (x39 : Rul) (a41 : HObj) : ∀ k s r ρ H', (∃ J42, H' = H ++ a41 :: .tok 0 :: J42 ∧ ρ 9 = .list ((valsL d.nodes (inputs ++ state) d.nodes.length).map (V.int .i64)) ∧ ρ 10 = .list (state.map (V.int .i64)) ∧ ρ 11 = .list (x39.writes.map encWri) ∧ ρ 12 = .int .i64 (s : Int)) → cY F d inputs state x39 k s = some r → Lp X ⟨58, H.length :: bs⟩ (loopAt Tryz.f27 0) ρ H' ((fun r ex ρ H' => ∃ J42, H' = H ++ a41 :: .tok 0 :: J42 ∧ ex = .exit 0) r) := by
 refine ae (fun _ => rfl) ?_
 rintro k s40 r ρ H' ⟨J42, hH, h9, h10, h11, h12⟩ hR
 skip
 subst hH
 rw [cY] at hR
 conv => arg 3; whnf
 try refine zw ?_
 rcases iteE hR with ⟨c43, hR⟩ | ⟨c43, hR⟩
 ·obtain ⟨x44, x44_e, hR⟩ := bindE hR
  obtain ⟨x45, x45_e, hR⟩ := bindE hR
  obtain ⟨x45_p, x45_e⟩ := idxE x45_e
  try refine zw ?_
  rcases iteE hR with ⟨c46, hR⟩ | ⟨c46, hR⟩
  ·obtain ⟨x49, x49_e, hR⟩ := bindE hR
   obtain ⟨x49_p, x49_e⟩ := idxE x49_e
   obtain ⟨x50, x50_e, hR⟩ := bindE hR
   obtain ⟨x50_p, x50_e⟩ := idxE x50_e
   exact nomatch hR.out
  ·obtain ⟨g51, hR⟩ := grdE hR
   have g51_w := ac g51
   refine zu ?_
   exact ⟨(s40 + 1), ⟨_, hq, sl, sl, sl, sl⟩, hR.out⟩
 ·obtain rfl := someE hR
  refine zu ?_
  exact ⟨_, hq, rfl⟩
def ff (F : Nat) (d : Desg) (rule : Int) (inputs : List Int) (state : List Int) : Option ((List Int)) := (if inputs.length + state.length ≤ 1000000 then (if d.nodes.length ≤ 1000 then (if ∀ x ∈ d.nodes, x.args.length ≤ 1000000 then (if ∃ ws, GoodAll ws d.nodes ∧ LeafOk ws (inputs ++ state) then (if state.length ≤ 1000000 then (if (decide (0 < state.length)) = true then ((idxI d.rules rule).bind fun x9 => ((cF F d inputs state x9 F (0, state)).bind fun o37 => some o37)) else ((idxI d.rules rule).bind fun x39 => ((cY F d inputs state x39 F 0).bind fun o53 => some state))) else none) else none) else none) else none) else none)
theorem qR (bs : List Nat) (H : Heap) (F : Nat) (d : Desg) (rule : Int) (inputs : List Int) (state : List Int) (R : (List Int)) (hR0 : ff F d rule inputs state = some R) : callw X bs 27 [(encDesg d), .int .i64 rule, .list (inputs.map (V.int .i64)), .list (state.map (V.int .i64))] H = some (.list (R.map (V.int .i64)), H) := by
 refine yw2 (rs := [.tmp 8]) (N := 58) (fn := Tryz.f27) xk27 Tryz.func27 ?_
 have hR := Kp.mk hR0
 clear hR0
 rw [ff] at hR
 (try simp only [cellsDesg, encDesg, encInts])
 obtain ⟨g1, hR⟩ := grdE hR
 have k2_k := fun bs H => tW bs H inputs state g1
 obtain ⟨g3, hR⟩ := grdE hR
 obtain ⟨g4, hR⟩ := grdE hR
 obtain ⟨g5, hR⟩ := grdE hR
 have k6_k := fun bs H => lF bs H _ (inputs ++ state) d.nodes g3 g4 (Classical.choose_spec g5).1 (Classical.choose_spec g5).2
 obtain ⟨g7, hR⟩ := grdE hR
 rcases iteE hR with ⟨c8, hR⟩ | ⟨c8, hR⟩
 ·have c8_p := uS state (of_decide_eq_true c8) g7
  obtain ⟨x9, x9_e, hR⟩ := bindE hR
  obtain ⟨x9_p, x9_e⟩ := idxE x9_e
  obtain ⟨o37, o37_e, hR⟩ := bindE hR
  try refine zu ?_
  (refine yw1 (id := 1) oz5 [(1, 4)] ?_)
  try refine zu ?_
  refine ab (af (c := (loopAt Tryz.f27 0)) rfl (oL _ H F d inputs state x9 _ _ (0, state) o37 _ _ ⟨_, hq, sl, sl, sl, sl, ⟨rfl⟩⟩ o37_e)) ?_
  clear k2_k k6_k
  rintro ex ρ' H' ⟨J38, rfl, rfl, hl_o37_0⟩ hf
  have q10_o37 : ρ' 10 = .ref 1 (H.length + 2) 0 0 state.length := (hf 10 rfl).trans (sl)
  clear hf
  obtain rfl := someE hR
  have rt0 := ic (V.int .i64) (l := o37) (n := state.length) hl_o37_0.out
  have rt1 := kb (l := o37) (n := state.length) hl_o37_0.out
  exact zv
 ·have c8_p := uT state (of_decide_eq_false c8)
  have c8_k := fun bs H => lc bs H state g7
  obtain ⟨x39, x39_e, hR⟩ := bindE hR
  obtain ⟨x39_p, x39_e⟩ := idxE x39_e
  obtain ⟨o53, o53_e, hR⟩ := bindE hR
  try refine zu ?_
  (refine yw1 (id := 1) oz5 [(1, 4)] ?_)
  try refine zu ?_
  refine ab (af (c := (loopAt Tryz.f27 0)) rfl (nr _ H F d inputs state x39 _ _ 0 o53 _ _ ⟨_, hq, sl, sl, sl, sl⟩ o53_e)) ?_
  clear k2_k k6_k c8_k
  rintro ex ρ' H' ⟨J54, rfl, rfl⟩ hf
  have q10_o53 : ρ' 10 = .list (state.map (V.int .i64)) := (hf 10 rfl).trans (sl)
  clear hf
  obtain rfl := someE hR
  exact zv
def cG (F : Nat) (widths : List Int) (values : List Int) : Nat → Nat → Option (Oc (Bool) (Unit))
 | 0, _ => none
 | k + 1, s2 => (if (decide ((s2 : Int) < (values.length : Int))) = true then ((values[s2]?).bind fun x5 => ((widths[s2]?).bind fun x6 => (if 0 ≤ x6 then (if (fitsN x5 x6) = true then (if inI ((s2 : Int) + 1) then cG F widths values k (s2 + 1) else none) else some (.a false)) else none))) else some (.b ()))
theorem oM (bs : List Nat) (H : Heap) (F : Nat) (widths : List Int) (values : List Int) : ∀ k s r ρ H', (∃ J3, H' = H ++ J3 ∧ ρ 0 = .list (widths.map (V.int .i64)) ∧ ρ 1 = .list (values.map (V.int .i64)) ∧ ρ 5 = .int .i64 (s : Int)) → cG F widths values k s = some r → Lp X ⟨27, H.length :: bs⟩ (loopAt Tryz.f156 0) ρ H' ((fun r ex ρ H' => match r with | .a r => ∃ J3, H' = H ++ J3 ∧ ex = .ret ∧ ρ 4 = .bool r | .b r => ∃ J3, H' = H ++ J3 ∧ ex = .exit 0) r) := by
 refine ae (fun _ => rfl) ?_
 rintro k s2 r ρ H' ⟨J3, hH, h0, h1, h5⟩ hR
 skip
 subst hH
 rw [cG] at hR
 conv => arg 3; whnf
 try refine zw ?_
 rcases iteE hR with ⟨c4, hR⟩ | ⟨c4, hR⟩
 ·obtain ⟨x5, x5_e, hR⟩ := bindE hR
  obtain ⟨x6, x6_e, hR⟩ := bindE hR
  obtain ⟨g7, hR⟩ := grdE hR
  have k8_k := fun bs H => tZ bs H x5 x6 g7
  try refine zu ?_
  (refine yw0 (id := 6) oz2 ?_)
  try refine zw ?_
  clear k8_k
  rcases iteE hR with ⟨c9, hR⟩ | ⟨c9, hR⟩
  ·obtain ⟨g10, hR⟩ := grdE hR
   have g10_w := ac g10
   refine zu ?_
   exact ⟨(s2 + 1), ⟨_, hq, sl, sl, sl⟩, hR.out⟩
  ·obtain rfl := someE hR
   refine zu ?_
   exact ⟨_, hq, rfl, sl⟩
 ·obtain rfl := someE hR
  refine zu ?_
  exact ⟨_, hq, rfl⟩
def cZ (F : Nat) (widths : List Int) (values : List Int) : List Int → Nat → Unit → Option (Oc (Bool) (Unit))
 | [], s2, _ => some (.b ())
 | x_ :: r_, s2, _ => ((widths[s2]?).bind fun x6 => (if 0 ≤ x6 then (if (fitsN x_ x6) = true then cZ F widths values r_ (s2 + 1) () else some (.a false)) else none))
theorem jm (F : Nat) (widths : List Int) (values : List Int) (hl_ : values.length ≤ 1000000) : ∀ r_ i_ k_ (o_ : Unit), values.drop i_ = r_ → r_.length < k_ → cG F widths values k_ i_ = cZ F widths values r_ i_ o_
 | _, _, 0, _, _, hk => absurd hk (Nat.not_lt_zero _)
 | [], i_, k_ + 1, _, hd, _ => by rw [cG, cZ]; simp only [ai hd, Bool.false_eq_true, if_false]
 | x_ :: r_, i_, k_ + 1, _, hd, hk => by
  have ih := jm F widths values hl_ r_ (i_ + 1) k_ () (ah hd) (Nat.lt_of_succ_lt_succ hk)
  rw [cG, cZ]; simp only [aq hd, ak hd, if_pos (av hd hl_), Option.bind_some, if_true, ih]
def ie (F : Nat) (widths : List Int) (values : List Int) : Option (Bool) := (if (decide (¬(widths.length : Int) = (values.length : Int))) = true then some false else ((cG F widths values F 0).bind fun o11 => match o11 with | .a o12 => some o12 | .b o14 => some true))
theorem qS (bs : List Nat) (H : Heap) (F : Nat) (widths : List Int) (values : List Int) (R : Bool) (hR0 : ie F widths values = some R) : callw X bs 156 [.list (widths.map (V.int .i64)), .list (values.map (V.int .i64))] H = some (.bool R, H) := by
 refine yw2 (rs := [.tmp 4]) (N := 27) (fn := Tryz.f156) Dw Tryz.func156 ?_
 have hR := Kp.mk hR0
 clear hR0
 rw [ie] at hR
 try refine zw ?_
 rcases iteE hR with ⟨c1, hR⟩ | ⟨c1, hR⟩
 ·obtain rfl := someE hR
  exact zv
 ·obtain ⟨o11, o11_e, hR⟩ := bindE hR
  refine zu ?_
  refine ab (af (c := (loopAt Tryz.f156 0)) rfl (oM _ H F widths values _ 0 o11 _ _ ⟨[], by simp, sl, sl, sl⟩ o11_e)) ?_
  rcases o11 with o12 | o14
  ·rintro ex ρ' H' ⟨J13, rfl, rfl, q4_o12⟩ hf
   clear hf
   obtain rfl := someE hR
   exact zv
  ·rintro ex ρ' H' ⟨J15, rfl, rfl⟩ hf
   clear hf
   obtain rfl := someE hR
   exact zv
def er (F : Nat) (leaves : List Int) (values : List Int) : Option (Int) := (if (decide (¬(leaves.length : Int) = (values.length : Int))) = true then some 10 else ((ie F leaves values).bind fun y2 => (if y2 = true then some 0 else some 2)))
theorem kr (bs : List Nat) (H : Heap) (F : Nat) (leaves : List Int) (values : List Int) (R : Int) (hR0 : er F leaves values = some R) : callw X bs 74 [.list (leaves.map (V.int .i64)), .list (values.map (V.int .i64))] H = some (.int .i64 R, H) := by
 refine yw2 (rs := [.tmp 4]) (N := 14) (fn := Tryz.f74) xk74 Tryz.func74 ?_
 have hR := Kp.mk hR0
 clear hR0
 rw [er] at hR
 try refine zw ?_
 rcases iteE hR with ⟨c1, hR⟩ | ⟨c1, hR⟩
 ·obtain rfl := someE hR
  exact zv
 ·obtain ⟨y2, y2_e, hR⟩ := bindE hR
  have y2_k := fun bs H => qS bs H F leaves values y2 y2_e
  try refine zw ?_
  clear y2_k
  rcases iteE hR with ⟨c3, hR⟩ | ⟨c3, hR⟩
  ·obtain rfl := someE hR
   exact zv
  ·obtain rfl := someE hR
   exact zv
def dk (F : Nat) (d : Desg) (inputs : List Int) : Option (Int) := ((fd F d).bind fun y1 => (if 0 ≤ d.inputs.length ∧ d.inputs.length ≤ y1.length then ((er F (y1.take d.inputs.length) inputs).bind fun y3 => some y3) else none))
theorem pM (bs : List Nat) (H : Heap) (F : Nat) (d : Desg) (inputs : List Int) (R : Int) (hR0 : dk F d inputs = some R) : callw X bs 20 [(encDesg d), .list (inputs.map (V.int .i64))] H = some (.int .i64 R, H) := by
 refine yw2 (rs := [.tmp 4]) (N := 13) (fn := Tryz.f20) xk20 Tryz.func20 ?_
 have hR := Kp.mk hR0
 clear hR0
 rw [dk] at hR
 (try simp only [cellsDesg, encDesg, encInts])
 obtain ⟨y1, y1_e, hR⟩ := bindE hR
 have y1_k := fun bs H => jB bs H F d y1 y1_e
 (try simp only [cellsDesg, encDesg, encInts] at y1_k)
 obtain ⟨g2, hR⟩ := grdE hR
 obtain ⟨g2_a, g2_b⟩ := g2
 have g2_s := cutV (P := Tryz.prog) (V.int .i64) Tryz.underlying30 sz3 (fun _ => rfl) y1 none (some (.int .i64 (d.inputs.length : Int))) 0 d.inputs.length rfl boundN g2_a g2_b
 simp only [List.drop_zero, List.take_length] at g2_s
 obtain ⟨y3, y3_e, hR⟩ := bindE hR
 have y3_k := fun bs H => kr bs H F (y1.take d.inputs.length) inputs y3 y3_e
 obtain rfl := someE hR
 try refine zu ?_
 (refine yw1 (id := 1) [0, 2, 3, 4, 6, 1, 5, 7, 8] [(2, 5)] ?_)
 exact zv
def eQ (F : Nat) (d : Desg) (state : List Int) : Option (Int) := ((fd F d).bind fun y1 => (if d.inputs.length ≤ y1.length ∧ y1.length ≤ y1.length then ((er F (y1.drop d.inputs.length) state).bind fun y3 => some y3) else none))
theorem qk (bs : List Nat) (H : Heap) (F : Nat) (d : Desg) (state : List Int) (R : Int) (hR0 : eQ F d state = some R) : callw X bs 21 [(encDesg d), .list (state.map (V.int .i64))] H = some (.int .i64 R, H) := by
 refine yw2 (rs := [.tmp 4]) (N := 13) (fn := Tryz.f21) xk21 Tryz.func21 ?_
 have hR := Kp.mk hR0
 clear hR0
 rw [eQ] at hR
 (try simp only [cellsDesg, encDesg, encInts])
 obtain ⟨y1, y1_e, hR⟩ := bindE hR
 have y1_k := fun bs H => jB bs H F d y1 y1_e
 (try simp only [cellsDesg, encDesg, encInts] at y1_k)
 obtain ⟨g2, hR⟩ := grdE hR
 obtain ⟨g2_a, g2_b⟩ := g2
 have g2_s := cutV (P := Tryz.prog) (V.int .i64) Tryz.underlying30 sz3 (fun _ => rfl) y1 (some (.int .i64 (d.inputs.length : Int))) none d.inputs.length y1.length boundN rfl g2_a g2_b
 simp only [List.drop_zero, List.take_length] at g2_s
 obtain ⟨y3, y3_e, hR⟩ := bindE hR
 have y3_k := fun bs H => kr bs H F (y1.drop d.inputs.length) state y3 y3_e
 obtain rfl := someE hR
 try refine zu ?_
 (refine yw1 (id := 1) [0, 2, 3, 4, 6, 1, 5, 7, 8] [(2, 5)] ?_)
 exact zv
def jD (F : Nat) (d : Desg) (rule : Int) : Option (Int) := (if inI ((d.rules.length : Int) - 1) then (if (decide ((0 : Int) ≤ rule) && decide (rule ≤ ((d.rules.length : Int) - 1))) = true then some 0 else some 6) else none)
theorem qT (bs : List Nat) (H : Heap) (F : Nat) (d : Desg) (rule : Int) (R : Int) (hR0 : jD F d rule = some R) : callw X bs 19 [(encDesg d), .int .i64 rule] H = some (.int .i64 R, H) := by
 refine yw2 (rs := [.tmp 4]) (N := 12) (fn := Tryz.f19) xk19 Tryz.func19 ?_
 have hR := Kp.mk hR0
 clear hR0
 rw [jD] at hR
 (try simp only [cellsDesg, encDesg, encInts])
 obtain ⟨g1, hR⟩ := grdE hR
 have g1_w := ac g1
 try refine zw ?_
 rcases iteE hR with ⟨c2, hR⟩ | ⟨c2, hR⟩
 ·obtain ⟨c2_1, c2_2⟩ := ed c2
  obtain rfl := someE hR
  exact zv
 ·obtain rfl := someE hR
  exact zv
def gP (F : Nat) (d : Desg) : Option (Int) := ((fN F d).bind fun y1 => some y1.2)
theorem oN (bs : List Nat) (H : Heap) (F : Nat) (d : Desg) (R : Int) (hR0 : gP F d = some R) : callw X bs 17 [(encDesg d)] H = some (.int .i64 R, H) := by
 refine yw2 (rs := [.tmp 2]) (N := 11) (fn := Tryz.f17) xk17 Tryz.func17 ?_
 have hR := Kp.mk hR0
 clear hR0
 rw [gP] at hR
 (try simp only [cellsDesg, encDesg, encInts])
 obtain ⟨y1, y1_e, hR⟩ := bindE hR
 have y1_k := fun bs H => qi bs H F d y1 y1_e
 (try simp only [cellsDesg, encDesg, encInts] at y1_k)
 obtain rfl := someE hR
 exact zv
end
end Go.E
namespace Go.E
open Classical
theorem oO {α : Type} {L : Nat → Nat → Option (Oc Nat Unit)} (l : List α) (n m : Nat) (nm : α → ByteArray) (s : ByteArray) (hn : n ≤ l.length) (hl : l.length ≤ 1000000)
  (step : ∀ k i x, i < n → l[i]? = some x → L (k + 1) i = if (decide (nm x = s)) = true then some (.a m) else if inI ((i : Int) + 1) then L k (i + 1) else none) (last : ∀ k, L (k + 1) n = some (.b ())) (k : Nat) (hk : n < k) :
  L k 0 = some (if (l.take n).any (fun q => decide (nm q = s)) = true then .a m else .b ()) := by
 rw [HJ (L := L) n (fun i => match l[i]? with | some x => decide (nm x = s) | none => false) m (fun k i hi => by
  have hg := aS (l := l) (i := i) (by omega)
  rw [step k i _ hi hg, if_pos (in_1 (by omega))]
  simp only [hg]) last k hk]
 rw [B9 l (fun q => decide (nm q = s)) _ n hn (fun i x _ hx => by simp only [hx])]
variable {F : Nat} (hF : 1000000 < F)
include hF in
theorem Cu (l : List Port) (hl : l.length ≤ 1000000) (hn : ∀ p ∈ l, p.name.size ≤ 1000000) :
  fc F l = some (if 12 < l.length then (0, 8) else eachP (namedR (fun p : Port => p.name) (fun _ => false) (fun p => if isW p.width = true then 0 else 2) l) 0 l) := by
 unfold fc
 by_cases h12 : 12 < l.length
 ·rw [if_pos (decide_eq_true (by omega)), if_pos h12]
 rw [if_neg (by simp; omega), if_neg h12]
 have h1 : bH F l F 0 = _ := jl F l hl l 0 F () rfl (by omega)
 obtain ⟨o, h2, h3⟩ := tC (L := cX F l) ocN (namedR (fun p : Port => p.name) (fun _ => false) (fun p => if isW p.width = true then 0 else 2) l) l (fun i => ⟨_, rfl, rfl⟩) (fun x r i hx => by
  have hlt := aa hx
  have hd := oO (L := bG F l i) l i i (fun p => p.name) x.name (by omega) hl (fun k j y hj hy => by
   rw [bG, lt_n j i hj]; simp only [hy, hx, Option.bind_some, if_true]) (fun k => by rw [bG, pD]; rfl) F (by omega)
  have hp := hn x (List.mem_of_getElem? hx)
  simp only [cX, namedR, hd, dN, rn, if_pos hp, Option.bind_some, Bool.or_false]
  rcases bb (isNameS x.name) with a1 | a1 <;> rcases bb ((l.take i).any fun q => decide (q.name = x.name)) with a2 | a2 <;> rcases bb (isW x.width) with a3 | a3 <;> simp only [a1, a2, a3] <;> simp [ocN]) l 0 rfl
 rw [h1, h2, ← h3]
 cases o <;> rfl
include hF in
theorem Cv (d : Desg) (h1 : d.inputs.length ≤ 1000) (h2 : d.elements.length ≤ 1000) (hn : ∀ p ∈ d.elements, p.name.size ≤ 1000000) :
  eZ F d.inputs d.elements = some (if 40 < d.inputs.length + d.elements.length then (0, 8) else elemsR d) := by
 unfold eZ
 rw [if_pos (by unfold inI; omega)]
 by_cases h40 : 40 < d.inputs.length + d.elements.length
 ·rw [if_pos (decide_eq_true (by omega)), if_pos h40]
 rw [if_neg (by simp; omega), if_neg h40]
 have e1 : bf F d.inputs d.elements F 0 = _ := iC F d.inputs d.elements (by omega) d.elements 0 F () rfl (by omega)
 obtain ⟨o, e2, e3⟩ := tC (L := bS F d.inputs d.elements) ocN (namedR (fun p : Elem => p.name) (fun s => d.inputs.any fun q => decide (q.name = s)) elemTail d.elements) d.elements (fun i => ⟨_, rfl, rfl⟩) (fun x r i hx => by
  have hlt := aa hx
  have hd := oO (L := bd F d.elements i) d.elements i i (fun p => p.name) x.name (by omega) (by omega) (fun k j y hj hy => by
   rw [bd, lt_n j i hj]; simp only [hy, hx, Option.bind_some, if_true]) (fun k => by rw [bd, pD]; rfl) F (by omega)
  have hd2 := oO (L := be F d.inputs d.elements i) d.inputs d.inputs.length i (fun p => p.name) x.name (by omega) (by omega) (fun k j y hj hy => by
   rw [be, lt_n j _ hj]; simp only [hy, hx, Option.bind_some, if_true]) (fun k => by rw [be, pD]; rfl) F (by omega)
  rw [List.take_length] at hd2
  have hp := hn x (List.mem_of_getElem? hx)
  have hk : (decide ((0 : Int) ≤ x.kind) && decide (x.kind ≤ 1)) = kindOk x.kind := rfl
  have hc : (decide ((0 : Int) ≤ x.clk) && decide (x.clk ≤ 3)) = clkOk x.clk := rfl
  have h5 : isW x.width = true → 0 ≤ x.width := fun h4 => by unfold isW at h4; simp at h4; omega
  simp only [bS, namedR, hd, hd2, dN, rn, hk, hc, if_pos hp, Option.bind_some, elemTail]
  rcases bb (isNameS x.name) with a1 | a1
  case inr => simp only [a1]; simp [ocN]
  rcases bb ((d.elements.take i).any fun q => decide (q.name = x.name)) with a2 | a2
  ·simp only [a1, a2]; simp [ocN]
  rcases bb (d.inputs.any fun q => decide (q.name = x.name)) with a3 | a3
  ·simp only [a1, a2, a3]; simp [ocN]
  rcases bb (kindOk x.kind) with a4 | a4
  case inr => simp only [a1, a2, a3, a4]; simp [ocN]
  rcases bb (isW x.width) with a5 | a5
  case inr => simp only [a1, a2, a3, a4, a5]; simp [ocN]
  rcases bb (fitsN x.init x.width) with a6 | a6 <;> rcases bb (clkOk x.clk) with a7 | a7 <;> simp only [a1, a2, a3, a4, a5, a6, a7, if_pos (h5 a5)] <;> simp [ocN]) d.elements 0 rfl
 rw [e1, e2, elemsR, ← e3]
 cases o <;> rfl
include hF in
theorem qU (d : Desg) (h1 : d.inputs.length ≤ 1000) (h2 : d.elements.length ≤ 1000) : fd F d = some (leavesD d) := by
 have k1 : ∀ (r : List Port) (i : Nat) (o : List Int), o.length + r.length ≤ 1000000 → cC F d r i o = some (o ++ r.map (·.width)) := by
  intro r
  induction r with
  | nil => intro i o _; simp [cC]
  | cons x r ih => intro i o h; simp only [List.length_cons] at h; rw [cC, if_pos (by omega), ih _ _ (by simp; omega)]; simp
 have k2 : ∀ (r : List Elem) (i : Nat) (o : List Int), o.length + r.length ≤ 1000000 → cD F d r i o = some (o ++ r.map (·.width)) := by
  intro r
  induction r with
  | nil => intro i o _; simp [cD]
  | cons x r ih => intro i o h; simp only [List.length_cons] at h; rw [cD, if_pos (by omega), ih _ _ (by simp; omega)]; simp
 have e1 : cz F d F ([], 0) = _ := km F d (by omega) d.inputs 0 F [] rfl (by omega)
 have e2 : cA F d F (d.inputs.map (·.width), 0) = _ := kn F d (by omega) d.elements 0 F (d.inputs.map (·.width)) rfl (by omega)
 unfold fd
 rw [e1, k1 _ _ _ (by simp; omega), Option.bind_some, List.nil_append, e2, k2 _ _ _ (by simp; omega), Option.bind_some]
 rfl
theorem qV (nodes : List Node) (n : Int) (h : nodes.length ≤ 1000) : dy F nodes n = some (isNodeL nodes n) := by
 unfold dy; rw [if_pos (in_m (by omega))]; rfl
theorem vc (nodes : List Node) (n : Int) (h : nodes.length ≤ 1000) : bI F nodes n = some (condL nodes n) := by
 unfold bI condL
 rw [qV nodes n h, Option.bind_some]
 rcases bb (isNodeL nodes n) with hn | hn
 ·obtain ⟨x, h1, h2⟩ := nL hn; simp [h1, h2, hn]
 ·simp [hn]
def ocW : Oc Nat Unit → Int × Int
 | .a e => (0, (e : Int))
 | .b _ => (0, 0)
include hF in
theorem Bc (d : Desg) (l : List Wri) (hl : l.length ≤ 1000000) (h : d.nodes.length ≤ 1000) (he : d.elements.length ≤ 1000) : eO F d.elements d.nodes l = some (writesErrR d l) := by
  unfold eO writesErrR
  by_cases h16 : 16 < l.length
  · rw [if_pos (decide_eq_true (by omega)), if_pos h16]
  rw [if_neg (by simp; omega), if_neg h16]
  have e1 : bz F d.elements d.nodes l F 0 = _ := iU F d.elements d.nodes l hl l 0 F () rfl (by omega)
  have k : ∀ (r : List Wri) (i : Nat), ∃ o, cr F d.elements d.nodes l r i () = some o ∧ (ocW o).2 = (eachP (fun _ w => writeErrR d w) i r).2 := by
    intro r
    induction r with
    | nil => intro i; exact ⟨_, rfl, rfl⟩
    | cons x r ih =>
      intro i
      have hi : (decide ((0 : Int) ≤ x.element) && decide (x.element ≤ (d.elements.length : Int) - 1)) = inLen d.elements.length x.element := rfl
      simp only [cr, if_pos (in_m (show d.elements.length ≤ 1000000 by omega)), hi, vc d.nodes _ h, qV d.nodes _ h, Option.bind_some, eachP]
      rcases bb (inLen d.elements.length x.element) with a1 | a1
      case inr => have ex : writeErrR d x = 6 := by simp [writeErrR, a1]
                  simp only [a1]; simp [ocW, ex]
      rcases bb (condL d.nodes x.cond) with a2 | a2
      case inr => have ex : writeErrR d x = 9 := by simp [writeErrR, a1, a2]
                  simp only [a1, a2]; simp [ocW, ex]
      rcases bb (isNodeL d.nodes x.value) with a3 | a3
      case inr => have ex : writeErrR d x = 9 := by simp [writeErrR, a1, a2, a3]
                  simp only [a1, a2, a3]; simp [ocW, ex]
      obtain ⟨y, h4, h5⟩ := nL a3
      obtain ⟨z, h6, h7⟩ := wQ a1
      simp only [a1, a2, a3, h4, h5, h6, h7, Option.bind_some]
      by_cases a4 : widthL d.nodes x.value = elemW d x.element
      · have ex : writeErrR d x = 0 := by simp [writeErrR, a1, a2, a3, a4]
        simpa [a4, ex] using ih (i + 1)
      · have ex : writeErrR d x = 25 := by simp [writeErrR, a1, a2, a3, a4]
        simp [a4, ocW, ex]
  obtain ⟨o, e2, e3⟩ := k l 0
  rw [e1, e2, ← e3]
  cases o <;> rfl
include hF in
theorem Gz (d : Desg) (l : List Outp) (hl : l.length ≤ 1000000) (hn : ∀ p ∈ l, p.name.size ≤ 1000000) (h : d.nodes.length ≤ 1000) :
  ek F d.nodes l = some (if 12 < l.length then (0, 8) else eachP (namedR (fun p : Outp => p.name) (fun _ => false) (fun p => if isNodeL d.nodes p.node = true then 0 else 9) l) 0 l) := by
 unfold ek
 by_cases h12 : 12 < l.length
 ·rw [if_pos (decide_eq_true (by omega)), if_pos h12]
 rw [if_neg (by simp; omega), if_neg h12]
 have h1 : bq F d.nodes l F 0 = _ := iL F d.nodes l hl l 0 F () rfl (by omega)
 obtain ⟨o, h2, h3⟩ := tC (L := cf F d.nodes l) ocN (namedR (fun p : Outp => p.name) (fun _ => false) (fun p => if isNodeL d.nodes p.node = true then 0 else 9) l) l (fun i => ⟨_, rfl, rfl⟩) (fun x r i hx => by
  have hlt := aa hx
  have hd := oO (L := bp F l i) l i i (fun p => p.name) x.name (by omega) hl (fun k j y hj hy => by
   rw [bp, lt_n j i hj]; simp only [hy, hx, Option.bind_some, if_true]) (fun k => by rw [bp, pD]; rfl) F (by omega)
  have hp := hn x (List.mem_of_getElem? hx)
  simp only [cf, namedR, hd, qV d.nodes _ h, if_pos hp, Option.bind_some, Bool.or_false]
  rcases bb (isNameS x.name) with a1 | a1 <;> rcases bb ((l.take i).any fun q => decide (q.name = x.name)) with a2 | a2 <;> rcases bb (isNodeL d.nodes x.node) with a3 | a3 <;> simp only [a1, a2, a3] <;> simp [ocN]) l 0 rfl
 rw [h1, h2, ← h3]
 cases o <;> rfl
include hF in
theorem H9 (l : List Int) (n : Int) (hl : l.length ≤ 1000000) : iz F l n = some (l.any fun m => decide (m = n)) := by
 have k : ∀ (r : List Int) (i : Nat), fe F l n r i () = some (if (r.any fun m => decide (m = n)) = true then .a true else .b ()) := by
  intro r
  induction r with
  | nil => intro i; rfl
  | cons x r ih =>
   intro i
   simp only [fe, List.any_cons, ih]
   by_cases h : x = n <;> simp [h]
 have h1 : eo F l n F 0 = _ := lQ F l n hl l 0 F () rfl (by omega)
 unfold iz
 rw [h1, k]
 rcases bb (l.any fun m => decide (m = n)) with a | a <;> rw [a] <;> rfl
def ocQ : Oc (Nat × Int) Unit → Int × Int
 | .a o => ((o.1 : Int), o.2)
 | .b _ => (0, 0)
include hF in
theorem Cw (d : Desg) (hS : FewD d) : ∃ o, aZ F d F 0 = some o ∧ ocQ o = rulesR d ∧ ((rulesR d).2 = 0 → o = .b ()) := by
 obtain ⟨n1, n2, n3, n4, n5, n6, n7, n8, n9, n10, n11, n12, n13, n14⟩ := hS
 have h1 : aZ F d F 0 = _ := iV F d (by omega) d.rules 0 F () rfl (by omega)
 rw [h1]
 refine wP (L := ct F d) ocQ (namedR (fun p : Rul => p.name) (fun _ => false) (ruleTail d) d.rules) d.rules (.b ()) (fun i => rfl) rfl (fun x r i hx => ?_) d.rules 0 rfl
 have hlt := aa hx
 have hd := oO (L := bA F d i x) d.rules i i (fun p => p.name) x.name (by omega) (by omega) (fun k j y hj hy => by
  rw [bA, lt_n j i hj]; simp only [hy, Option.bind_some, if_true]) (fun k => by rw [bA, pD]; rfl) F (by omega)
 have hp := n10 x (List.mem_of_getElem? hx)
 have hw := n13 x (List.mem_of_getElem? hx)
 simp only [ct, namedR, hd, vc d.nodes _ n4, Bc hF d x.writes (by omega) n4 n3, if_pos (show x.name.size ≤ 1000000 by omega), Option.bind_some, Bool.or_false, ruleTail]
 rcases bb (isNameS x.name) with a1 | a1
 case inr => simp only [a1]; simp [ocQ]
 rcases bb ((d.rules.take i).any fun q => decide (q.name = x.name)) with a2 | a2
 ·simp only [a1, a2]; simp [ocQ]
 rcases bb (condL d.nodes x.guard) with a3 | a3
 case inr => simp only [a1, a2, a3]; simp [ocQ]
 by_cases a4 : writesErrR d x.writes = 0 <;> simp only [a1, a2, a3] <;> simp [ocQ, a4]
include hF in
theorem Cy (d : Desg) (hS : FewD d) : ∃ o, bc F d F 0 = some o ∧ ocN o = attrsR d ∧ ((attrsR d).2 = 0 → o = .b ()) := by
 obtain ⟨n1, n2, n3, n4, n5, n6, n7, n8, n9, n10, n11, n12, n13, n14⟩ := hS
 have h1 : bc F d F 0 = _ := iX F d (by omega) d.attrs 0 F () rfl (by omega)
 rw [h1]
 refine wP (L := cv F d) ocN (fun _ a => attrErrR d a) d.attrs (.b ()) (fun i => rfl) rfl (fun x r i hx => ?_) d.attrs 0 rfl
 have hl := n14 x (List.mem_of_getElem? hx)
 have e1 : ba F d i x F 0 = _ := iW F d i x (by omega) x.rules 0 F () rfl (by omega)
 have k : ∀ (r : List Int) (j : Nat), x.rules.drop j = r → ∃ o, cu F d i x r j () = some o ∧ (match o with | .a o => o.1 = i ∧ (o.2 : Int) = (eachP (attrItem d x.rules) j r).2 ∧ o.2 ≠ 0 | .b _ => (eachP (attrItem d x.rules) j r).2 = 0) := by
  intro r
  induction r with
  | nil => intro j _; exact ⟨_, rfl, rfl⟩
  | cons y r ih =>
   intro j hd
   have hj := gm hd
   have hi : (decide ((0 : Int) ≤ y) && decide (y ≤ (d.rules.length : Int) - 1)) = inLen d.rules.length y := rfl
   simp only [cu, if_pos (in_m (show d.rules.length ≤ 1000000 by omega)), hi, if_pos (show 0 ≤ j ∧ j ≤ x.rules.length by omega), H9 hF (x.rules.take j) y (by simp; omega), Option.bind_some, eachP, attrItem]
   rcases bb (inLen d.rules.length y) with a1 | a1
   case inr => simp only [a1]; simp
   rcases bb ((x.rules.take j).any fun m => decide (m = y)) with a2 | a2
   ·simp only [a1, a2]; simp
   ·simp only [a1, a2]; simpa using ih (j + 1) (ah hd)
 obtain ⟨o, e2, e3⟩ := k x.rules 0 rfl
 have h16 : decide ((16 : Int) < (x.rules.length : Int)) = decide (16 < x.rules.length) := by generalize x.rules.length = n; rw [Bool.eq_iff_iff]; simp; omega
 have h00 : decide ((x.rules.length : Int) = 0) = decide (x.rules.length = 0) := by generalize x.rules.length = n; rw [Bool.eq_iff_iff]; simp
 simp only [cv, e1, e2, attrErrR, Option.bind_some, h16, h00]
 rcases bb (decide ((0 : Int) ≤ x.kind) && decide (x.kind ≤ 3)) with a1 | a1
 case inr => simp only [a1]; simp [ocN]
 by_cases a2 : x.rules.length = 0
 ·simp only [a1, a2]; simp [ocN]
 by_cases a3 : 16 < x.rules.length
 ·simp only [a1, a2, a3]; simp [ocN]
 simp only [a1, a2, a3]
 cases o with
 | a o =>
  obtain ⟨b1, b2, b3⟩ := e3
  have b4 : (eachP (attrItem d x.rules) 0 x.rules).2 ≠ 0 := by rw [← b2]; omega
  refine ⟨fun h => absurd (by simpa using h) b4, fun _ => ⟨_, rfl, ?_⟩⟩
  simp [ocN, b1, b2]
 | b o =>
  have e3 : (eachP (attrItem d x.rules) 0 x.rules).2 = 0 := e3
  refine ⟨fun _ => rfl, fun h => absurd (by simpa using e3) h⟩
include hF in
theorem Bd {d : Desg} (hS : FewD d) : fN F d = some (designErrR d) := by
 have b1 := Cw hF d hS
 have b2 := Cy hF d hS
 obtain ⟨n1, n2, n3, n4, n5, n6, n7, n8, n9, n10, n11, n12, n13, n14⟩ := hS
 have a1 := Cu hF d.inputs (by omega) (fun p hp => by have := n8 p hp; omega)
 have a2 := Cv hF d n2 n3 (fun p hp => by have := n9 p hp; omega)
 have a3 := qU hF d n2 n3
 have a4 := Gz hF d d.outs (by omega) (fun p hp => by have := n11 p hp; omega) n4
 replace a1 : fc F d.inputs = some (if 12 < d.inputs.length then (0, 8) else portsR d) := a1
 replace a4 : ek F d.nodes d.outs = some (if 12 < d.outs.length then (0, 8) else outsR d) := a4
 unfold fN designErrR
 have hl : (leavesD d).length ≤ 1000000 := by simp [leavesD]; omega
 have hm : d.nodes.length ≤ 1000000 := by omega
 have ha : ∀ x ∈ d.nodes, x.args.length ≤ 1000000 := fun x hx => by have := n12 x hx; omega
 obtain ⟨o1, b1, b3, b5⟩ := b1
 obtain ⟨o2, b2, b4, b6⟩ := b2
 have h16 : decide ((16 : Int) < (d.rules.length : Int)) = decide (16 < d.rules.length) := by rw [Bool.eq_iff_iff]; simp; omega
 have h17 : decide ((16 : Int) < (d.attrs.length : Int)) = decide (16 < d.attrs.length) := by rw [Bool.eq_iff_iff]; simp; omega
 simp only [a1, a2, a3, a4, b1, b2, if_pos (show d.name.size ≤ 1000000 by omega), Option.bind_some, if_pos hl, if_pos hm, if_pos ha, h16, h17]
 rcases bb (isNameS d.name) with hN | hN
 case inr => simp [hN, firstP]
 by_cases h12 : 12 < d.inputs.length
 ·simp [hN, h12, firstP]
 by_cases hP : (portsR d).2 = 0
 case neg => simp [hN, h12, hP, firstP]
 by_cases h40 : 40 < d.inputs.length + d.elements.length
 ·simp [hN, h12, hP, h40, firstP]
 by_cases hE : (elemsR d).2 = 0
 case neg => simp [hN, h12, hP, h40, hE, firstP]
 by_cases hM : (nodesErrR (leavesD d) d.nodes).2 = 0
 case neg => simp [hN, h12, hP, h40, hE, hM, firstP]
 by_cases h16 : 16 < d.rules.length
 ·simp [hN, h12, hP, h40, hE, hM, h16, firstP]
 by_cases hR : (rulesR d).2 = 0
 case neg =>
  cases o1 with
  | b u => exact absurd (by rw [← b3]; rfl) hR
  | a o => simp [hN, h12, hP, h40, hE, hM, h16, firstP, ← b3, ocQ] at hR ⊢; simp [hR]
 obtain rfl := b5 hR
 by_cases h13 : 12 < d.outs.length
 ·simp [hN, h12, hP, h40, hE, hM, h16, hR, h13, firstP]
 by_cases hO : (outsR d).2 = 0
 case neg => simp [hN, h12, hP, h40, hE, hM, h16, hR, h13, hO, firstP]
 by_cases h17 : 16 < d.attrs.length
 ·simp [hN, h12, hP, h40, hE, hM, h16, hR, h13, hO, h17, firstP]
 by_cases hA : (attrsR d).2 = 0
 ·obtain rfl := b6 hA
  simp [hN, h12, hP, h40, hE, hM, h16, hR, h13, hO, h17, hA, firstP]
 ·cases o2 with
  | b u => exact absurd (by rw [← b4]; rfl) hA
  | a o => simp [hN, h12, hP, h40, hE, hM, h16, hR, h13, hO, h17, firstP, ← b4, ocN] at hA ⊢; simp [hA]
end Go.E
namespace Go.E
open Classical
variable {F : Nat} (hF : 1000000 < F)
include hF in
theorem wZ {d : Desg} (h : FewD d) : fI F d = some (d, (designErrR d).2) := by
 unfold fI; rw [Cg hF h]; rfl
include hF in
theorem ui {d : Desg} (h : OkD d) (l : List Int) (hl : l.length ≤ 1000000) : aK F d l = some (valErrS (inWs d) l) := by
 unfold aK valErrS
 by_cases hn : l.length = d.inputs.length
 case neg => rw [if_pos (decide_eq_true (by omega)), if_neg (by simpa [inWs] using hn)]
 rw [if_neg (by simp; omega), if_pos (by simpa [inWs] using hn)]
 have e := jP F l d hl l 0 F () rfl (by omega)
 have k := ji (L := eJ F l d) (fun i n => bg F d (i : Int) n) (fun i n => if fitsN n (at0 (inWs d) i) = true then (0 : Int) else 2) (fun i s => rfl) (fun x r i s => rfl) l 0 (fun j x hj => by
  have hlt := aa hj
  have hg : d.inputs[j]? = some (d.inputs[j]'(by omega)) := aS (by omega)
  generalize d.inputs[j]'(by omega) = y at hg
  have hw := h.inW y.width (List.mem_map.2 ⟨_, List.mem_of_getElem? hg, rfl⟩)
  have ha : at0 (inWs d) j = y.width := fW (by unfold inWs; rw [List.getElem?_map, hg]; rfl)
  unfold bg
  rw [Nat.zero_add, gb, hg, Option.bind_some, decide_eq_true (show (0 : Int) ≤ y.width by omega), Bool.true_and, ha]
  split <;> rfl)
 unfold iA
 rw [e, k, ← jw]
 generalize ocP _ 0 l = o
 cases o <;> rfl
include hF in
theorem uj {d : Desg} (h : OkD d) (l : List Int) (hl : l.length ≤ 1000000) : aO F d l = some (valErrS (elWs d) l) := by
 unfold aO valErrS
 by_cases hn : l.length = d.elements.length
 case neg => rw [if_pos (decide_eq_true (by omega)), if_neg (by simpa [elWs] using hn)]
 rw [if_neg (by simp; omega), if_pos (by simpa [elWs] using hn)]
 have e := jQ F l d hl l 0 F () rfl (by omega)
 have k := ji (L := eK F l d) (fun i n => bo F d (i : Int) n) (fun i n => if fitsN n (at0 (elWs d) i) = true then (0 : Int) else 2) (fun i s => rfl) (fun x r i s => rfl) l 0 (fun j x hj => by
  have hlt := aa hj
  have hg : d.elements[j]? = some (d.elements[j]'(by omega)) := aS (by omega)
  generalize d.elements[j]'(by omega) = y at hg
  have hw := h.elW y.width (List.mem_map.2 ⟨_, List.mem_of_getElem? hg, rfl⟩)
  have ha : at0 (elWs d) j = y.width := fW (by unfold elWs; rw [List.getElem?_map, hg]; rfl)
  unfold bo
  rw [Nat.zero_add, gb, hg, Option.bind_some, decide_eq_true (show (0 : Int) ≤ y.width by omega), Bool.true_and, ha]
  split <;> rfl)
 unfold iB
 rw [e, k, ← jw]
 generalize ocP _ 0 l = o
 cases o <;> rfl
theorem tJ {ws l : List Int} (h : valErrS ws l = 0) : l.length = ws.length := by
 unfold valErrS at h; split at h
 ·assumption
 ·omega
def enAt (d : Desg) (v : List Int) (i : Nat) : Bool := match d.rules[i]? with | some x => enD v x | none => false
def ruleErrR (d : Desg) (r : Int) : Int := if inLen d.rules.length r = true then 0 else 6
theorem vd {d : Desg} (h : FewD d) (r : Int) : bQ F d r = some (ruleErrR d r) := by
 have := h.rules
 unfold bQ ruleErrR inLen
 rw [if_pos (in_m (by omega))]
 split <;> rfl
theorem ru {d : Desg} {r : Int} (h : ruleErrR d r = 0) : ∃ x, d.rules[r.toNat]? = some x ∧ r = (r.toNat : Int) := by
 unfold ruleErrR inLen at h
 split at h
 ·rename_i h1
  simp only [Bool.and_eq_true, decide_eq_true_eq] at h1
  exact ⟨_, aS (show r.toNat < d.rules.length by omega), by omega⟩
 ·omega
def hapErrR (d : Desg) (r : Int) (l s : List Int) : Int := if (designErrR d).2 = 0 then (if ruleErrR d r = 0 then (if valErrS (inWs d) l = 0 then valErrS (elWs d) s else valErrS (inWs d) l) else ruleErrR d r) else (designErrR d).2
def hapD (d : Desg) (r : Int) (l s : List Int) : List Int := match d.rules[r.toNat]? with | some x => hapL x.writes (valsD d l s) s | none => []
def happenedR (d : Desg) (r : Int) (l s : List Int) : List Int × Int :=
 if hapErrR d r l s = 0 then (if enAt d (valsD d l s) r.toNat = true then (hapD d r l s, 0) else ([], 24)) else ([], hapErrR d r l s)
theorem dn_en' {d : Desg} (ok : OkD d) {r : Int} (hr : ruleErrR d r = 0) (l s : List Int) : aA F d r (valsD d l s) = some (enAt d (valsD d l s) r.toNat) := by
 obtain ⟨x, hx, e⟩ := ru hr
 have := tF (F := F) ok (jR d l s) hx
 rw [← e] at this
 rw [this]; simp only [enAt, hx]
include hF in
theorem dn_hap' {d : Desg} (ok : OkD d) {r : Int} (hr : ruleErrR d r = 0) {l s : List Int} (hs : LeafOk (elWs d) s) : ap F d r (valsD d l s) s = some (hapD d r l s) := by
 obtain ⟨x, hx, e⟩ := ru hr
 have := rW hF ok (jR d l s) (s := s) (by rw [hs.1]; simp [elWs]) hx
 rw [← e] at this
 rw [this]; simp only [hapD, hx]
theorem yH {d : Desg} (ok : OkD d) {r : Int} (hr : ruleErrR d r = 0) {l s : List Int} (hl : LeafOk (inWs d) l) (hs : LeafOk (elWs d) s) : LeafOk (elWs d) (hapD d r l s) := by
 obtain ⟨x, hx, e⟩ := ru hr
 simp only [hapD, hx]
 exact wR ok hl hs (ok.rule (List.mem_of_getElem? hx)).2 hs
include hF in
theorem zI {d : Desg} (h : FewD d) (r : Int) (l s : List Int) (hl : l.length ≤ 1000000) (hs : s.length ≤ 1000000) : fM F d r l s = some (happenedR d r l s) := by
 unfold fM happenedR
 rw [wZ hF h, Option.bind_some]
 by_cases he : (designErrR d).2 = 0
 case neg =>
  have e : hapErrR d r l s = (designErrR d).2 := by simp [hapErrR, he]
  rw [if_neg (by simp [he]), if_pos (by simpa using he), e, if_neg he]
 have ok : OkD d := ⟨h, he⟩
 rw [if_pos (by simp [he]), vd h, ui hF ok l hl, uj hF ok s hs, Option.bind_some, Option.bind_some, Option.bind_some]
 by_cases h1 : ruleErrR d r = 0
 case neg =>
  have e : hapErrR d r l s = ruleErrR d r := by simp [hapErrR, he, h1]
  rw [if_pos (by simpa using h1), e, if_neg h1]
 by_cases h2 : valErrS (inWs d) l = 0
 case neg =>
  have e : hapErrR d r l s = valErrS (inWs d) l := by simp [hapErrR, he, h1, h2]
  rw [if_neg (by simp [h1]), if_pos (by simpa using h2), e, if_neg h2]
 by_cases h3 : valErrS (elWs d) s = 0
 case neg =>
  have e : hapErrR d r l s = valErrS (elWs d) s := by simp [hapErrR, he, h1, h2]
  rw [if_neg (by simp [h1]), if_neg (by simp [h2]), if_pos (by simpa using h3), e, if_neg h3]
 have e : hapErrR d r l s = 0 := by simp [hapErrR, he, h1, h2, h3]
 have hl' := (fw ok.inW).1 h2
 have hs' := (fw ok.elW).1 h3
 rw [if_neg (by simp [h1]), if_neg (by simp [h2]), if_neg (by simp [h3]), e, if_pos rfl, nO hF ok hl' hs', Option.bind_some, dn_en' ok h1, Option.bind_some]
 cases enAt d (valsD d l s) r.toNat
 ·rfl
 ·simp only [if_true]; rw [dn_hap' hF ok h1 hs']; rfl
def runGo (d : Desg) (l : List Int) : List Int → Nat → List Int → List (List Int) → List (List Int) × Nat
 | [], i, _, out => (out, i)
 | r :: rs, i, s, out => if enAt d (valsD d l s) r.toNat = true then runGo d l rs (i + 1) (hapD d r l s) (out ++ [hapD d r l s]) else (out, i)
def runR (d : Desg) (rules l s : List Int) : List (List Int) × Nat := runGo d l rules 0 (begL d.elements s) [begL d.elements s]
def runErrR (d : Desg) (rules l s : List Int) : Int :=
 if (designErrR d).2 = 0 then (if 60 < rules.length then 8 else if (eachP (fun _ r => ruleErrR d r) 0 rules).2 = 0 then (if valErrS (inWs d) l = 0 then valErrS (elWs d) s else valErrS (inWs d) l) else (eachP (fun _ r => ruleErrR d r) 0 rules).2) else (designErrR d).2
def runOfR (d : Desg) (rules l s : List Int) : List (List Int) × Int × Int := if runErrR d rules l s = 0 then ((runR d rules l s).1, ((runR d rules l s).2 : Int), 0) else ([], 0, runErrR d rules l s)
def ocRun : Oc (List (List Int) × Nat) (List (List Int)) → Nat → List (List Int) × Nat
 | .a o, _ => o
 | .b o, n => (o, n)
include hF in
theorem xa {d : Desg} (ok : OkD d) {l : List Int} (hl : LeafOk (inWs d) l) (rules : List Int) (e : Int) (hr : rules.length ≤ 1000) : ∀ (rs : List Int) (i : Nat) (s : List Int) (out : List (List Int)), rules.drop i = rs → i ≤ rules.length → (∀ r ∈ rs, ruleErrR d r = 0) → LeafOk (elWs d) s → out.length = i + 1 →
  ∃ o, dR F rules l (d, e) rs i (s, out) = some o ∧ ocRun o rules.length = runGo d l rs i s out
 | [], i, s, out, hd, hi, _, hs, ho => by
  have : rules.length ≤ i := by simpa using hd
  obtain rfl : i = rules.length := by omega
  exact ⟨_, rfl, rfl⟩
 | r :: rs, i, s, out, hd, hi, hrs, hs, ho => by
  have h1 := hrs r (by simp)
  have hlt := gm hd
  simp only [dR, runGo]
  rw [nO hF ok hl hs, Option.bind_some, dn_en' ok h1, Option.bind_some]
  cases enAt d (valsD d l s) r.toNat
  ·exact ⟨_, rfl, rfl⟩
  ·simp only [if_true]
   rw [dn_hap' hF ok h1 hs, Option.bind_some, if_pos (by omega)]
   exact xa ok hl rules e hr rs (i + 1) _ _ (ah hd) hlt (fun x hx => hrs x (by simp [hx])) (yH ok h1 hl hs) (by simp; omega)
include hF in
theorem zJ {d : Desg} (h : FewD d) (l : List Int) (hl : l.length ≤ 1000000) : gg F d l = some (eachP (fun _ r => ruleErrR d r) 0 l) := by
 have e := jk F l d hl l 0 F () rfl (by omega)
 have k := ji (L := ei F l d) (fun i n => fa F d (i : Int) n) (fun _ r => ruleErrR d r) (fun i s => rfl) (fun x r i s => rfl) l 0 (fun j x hj => by
  unfold fa
  rw [vd h]; rfl)
 unfold gg
 rw [e, k, ← jw]
 generalize ocP _ 0 l = o
 cases o <;> rfl
include hF in
theorem GA {d : Desg} (h : FewD d) (rules l s : List Int) (hr : rules.length ≤ 1000) (hl : l.length ≤ 1000000) (hs : s.length ≤ 1000000) : gN F d rules l s = some (runOfR d rules l s) := by
 unfold gN runOfR
 rw [wZ hF h, Option.bind_some]
 by_cases he : (designErrR d).2 = 0
 case neg =>
  have e : runErrR d rules l s = (designErrR d).2 := by simp [runErrR, he]
  rw [if_neg (by simp [he]), if_pos (by simpa using he), e, if_neg he]
 have ok : OkD d := ⟨h, he⟩
 rw [if_pos (by simp [he]), zJ hF h rules (by omega), ui hF ok l hl, uj hF ok s hs, Option.bind_some, Option.bind_some, Option.bind_some, Option.bind_some, Option.bind_some]
 by_cases h0 : 60 < rules.length
 ·have e : runErrR d rules l s = 8 := by simp [runErrR, he, h0]
  rw [if_neg (by simp; omega), e]; rfl
 rw [if_pos (decide_eq_true (by omega))]
 by_cases h1 : (eachP (fun _ r => ruleErrR d r) 0 rules).2 = 0
 case neg =>
  have e : runErrR d rules l s = (eachP (fun _ r => ruleErrR d r) 0 rules).2 := by simp [runErrR, he, h0, h1]
  rw [if_pos (by simpa using h1), e, if_neg h1]
 by_cases h2 : valErrS (inWs d) l = 0
 case neg =>
  have e : runErrR d rules l s = valErrS (inWs d) l := by simp [runErrR, he, h0, h1, h2]
  rw [if_neg (by simp [h1]), if_pos (by simpa using h2), e, if_neg h2]
 by_cases h3 : valErrS (elWs d) s = 0
 case neg =>
  have e : runErrR d rules l s = valErrS (elWs d) s := by simp [runErrR, he, h0, h1, h2]
  rw [if_neg (by simp [h1]), if_neg (by simp [h2]), if_pos (by simpa using h3), e, if_neg h3]
 have e : runErrR d rules l s = 0 := by simp [runErrR, he, h0, h1, h2, h3]
 have hl' := (fw ok.inW).1 h2
 have hs' := (fw ok.elW).1 h3
 have hb := wS ok hs'
 have e1 : bJ F rules l (d, (designErrR d).2) F (begL d.elements s, [begL d.elements s], 0) = _ := kl F rules l (d, (designErrR d).2) (by omega) rules 0 F (begL d.elements s, [begL d.elements s]) rfl (by omega)
 obtain ⟨o, e2, e3⟩ := xa hF ok hl' rules (designErrR d).2 hr rules 0 (begL d.elements s) [begL d.elements s] rfl (by omega) (fun r hr => qJ (fun r => ruleErrR d r) rules h1 r hr) hb rfl
 rw [if_neg (by simp [h1]), if_neg (by simp [h2]), if_neg (by simp [h3]), e, if_pos rfl, kN hF h.elements (by rw [hs'.1]; simp [elWs]), Option.bind_some, e1, e2, Option.bind_some]
 unfold runR
 rw [← e3]
 cases o <;> rfl
end Go.E
namespace Go.E
open Go.Proofs Classical
set_option maxRecDepth 100000
set_option maxHeartbeats 20000000
noncomputable section
theorem Ia (bs : List Nat) (H : Heap) (a : Nat) : callw X bs 86 [.tl a []] H = some (.undef, H) := by
 refine yw2 (rs := []) (N := 28) (fn := Tryz.f86) xk86 Tryz.func86 ?_
 repeat' first
  | (refine yw0 (id := 3) oz53 ?_)
  | (refine zs ?_; repeat' first | apply zs0 | apply zs2 | (intro hc; try have hq := dq hc)) | fail
 all_goals try (refine dg ?_)
 repeat' first
  | (refine yw0 (id := 3) oz53 ?_)
  | (refine zs ?_; repeat' first | apply zs0 | apply zs2 | (intro hc; try have hq := dq hc)) | fail
 exact CK (fun _ h_ => by cases h_) rfl (by simp)
def dz (F : Nat) (cv0 : Desg) (a0_ : Int) (l : List Int) : Option (Int) := ((aK F cv0 l).bind fun y1 => some y1)
theorem jn (bs : List Nat) (H : Heap) (F : Nat) (ca0 : Nat) (cv0 : Desg) (hca0 : H[ca0]? = some (.cells [.str cv0.name, .list (cv0.inputs.map encPort), .list (cv0.elements.map encElem), .list (cv0.nodes.map encNode), .list (cv0.rules.map encRul), .list (cv0.outs.map encOutp), .list (cv0.attrs.map encAttr)])) (a0_ : Int) (l : List Int) (R : Int) (hR0 : dz F cv0 a0_ l = some R) : callw X bs 158 [.int .i64 a0_, .list (l.map (V.int .i64)), .ptr ca0 0] H = some (.int .i64 R, H) := by
 refine yw2 (rs := [.tmp 5]) (N := 9) (fn := Tryz.f158) Dx Tryz.func158 ?_
 have hca0_l := aa hca0
 have hca0_a := get_app' hca0
 have hR := Kp.mk hR0
 clear hR0
 rw [dz] at hR
 obtain ⟨y1, y1_e, hR⟩ := bindE hR
 have y1_k := fun bs H => dw bs H F cv0 l y1 y1_e
 (try simp only [cellsDesg, encDesg, encInts] at y1_k)
 obtain rfl := someE hR
 exact zv
def cH (F : Nat) (l : List (List Int)) (cv0 : Desg) : Nat → Nat → Option (Oc (Nat × Int) (Unit))
 | 0, _ => none
 | k + 1, s1 => (if (decide ((s1 : Int) < (l.length : Int))) = true then ((l[s1]?).bind fun x4 => ((dz F cv0 (s1 : Int) x4).bind fun y5 => (if (decide (¬y5 = 0)) = true then some (.a (s1, y5)) else (if inI ((s1 : Int) + 1) then cH F l cv0 k (s1 + 1) else none)))) else some (.b ()))
theorem oP (bs : List Nat) (H : Heap) (F : Nat) (ca0 : Nat) (cv0 : Desg) (hca0 : H[ca0]? = some (.cells [.str cv0.name, .list (cv0.inputs.map encPort), .list (cv0.elements.map encElem), .list (cv0.nodes.map encNode), .list (cv0.rules.map encRul), .list (cv0.outs.map encOutp), .list (cv0.attrs.map encAttr)])) (l : List (List Int)) : ∀ k s r ρ H', (∃ J2, H' = H ++ J2 ∧ ρ 1 = .func 158 [.ptr ca0 0] ∧ ρ 9 = .list (l.map encInts) ∧ ρ 10 = .int .i64 (l.length : Int) ∧ ρ 11 = .int .i64 (s : Int)) → cH F l cv0 k s = some r → Lp X ⟨25, H.length :: bs⟩ (loopAt Tryz.f134 0) ρ H' ((fun r ex ρ H' => match r with | .a r => ∃ J2, H' = H ++ J2 ∧ ex = .ret ∧ ρ 4 = .int .i64 (r.1 : Int) ∧ ρ 5 = .int .i64 r.2 | .b r => ∃ J2, H' = H ++ J2 ∧ ex = .exit 0) r) := by
 refine ae (fun _ => rfl) ?_
 rintro k s1 r ρ H' ⟨J2, hH, h1, h9, h10, h11⟩ hR
 skip
 subst hH
 rw [cH] at hR
 have hca0_l := aa hca0
 have hca0_a := get_app' hca0
 conv => arg 3; whnf
 try refine zw ?_
 rcases iteE hR with ⟨c3, hR⟩ | ⟨c3, hR⟩
 ·obtain ⟨x4, x4_e, hR⟩ := bindE hR
  obtain ⟨y5, y5_e, hR⟩ := bindE hR
  have y5_k := fun (bs : List Nat) (l : Heap) => jn bs (H ++ l) F ca0 cv0 gt (s1 : Int) x4 y5 y5_e
  have y5_k0 := fun (bs : List Nat) => jn bs H F ca0 cv0 gt (s1 : Int) x4 y5 y5_e
  try refine zw ?_
  clear y5_k y5_k0
  rcases iteE hR with ⟨c6, hR⟩ | ⟨c6, hR⟩
  ·obtain rfl := someE hR
   refine zu ?_
   exact ⟨_, hq, rfl, sl, sl⟩
  ·obtain ⟨g7, hR⟩ := grdE hR
   have g7_w := ac g7
   refine zu ?_
   exact ⟨(s1 + 1), ⟨_, hq, sl, sl, sl, sl⟩, hR.out⟩
 ·obtain rfl := someE hR
  refine zu ?_
  exact ⟨_, hq, rfl⟩
def eu (F : Nat) (l : List (List Int)) (cv0 : Desg) : List (List Int) → Nat → Unit → Option (Oc (Nat × Int) (Unit))
 | [], s1, _ => some (.b ())
 | x_ :: r_, s1, _ => ((dz F cv0 (s1 : Int) x_).bind fun y5 => (if (decide (¬y5 = 0)) = true then some (.a (s1, y5)) else eu F l cv0 r_ (s1 + 1) ()))
theorem jo (F : Nat) (l : List (List Int)) (cv0 : Desg) (hl_ : l.length ≤ 1000000) : ∀ r_ i_ k_ (o_ : Unit), l.drop i_ = r_ → r_.length < k_ → cH F l cv0 k_ i_ = eu F l cv0 r_ i_ o_
 | _, _, 0, _, _, hk => absurd hk (Nat.not_lt_zero _)
 | [], i_, k_ + 1, _, hd, _ => by rw [cH, eu]; simp only [ai hd, Bool.false_eq_true, if_false]
 | x_ :: r_, i_, k_ + 1, _, hd, hk => by
  have ih := jo F l cv0 hl_ r_ (i_ + 1) k_ () (ah hd) (Nat.lt_of_succ_lt_succ hk)
  rw [cH, eu]; simp only [aq hd, ak hd, if_pos (av hd hl_), Option.bind_some, if_true, ih]
def gh (F : Nat) (cv0 : Desg) (l : List (List Int)) : Option (Int × Int) := ((cH F l cv0 F 0).bind fun o8 => match o8 with | .a o9 => some ((o9.1 : Int), o9.2) | .b o11 => some (0, 0))
theorem qW (bs : List Nat) (H : Heap) (F : Nat) (ca0 : Nat) (cv0 : Desg) (hca0 : H[ca0]? = some (.cells [.str cv0.name, .list (cv0.inputs.map encPort), .list (cv0.elements.map encElem), .list (cv0.nodes.map encNode), .list (cv0.rules.map encRul), .list (cv0.outs.map encOutp), .list (cv0.attrs.map encAttr)])) (l : List (List Int)) (R : Int × Int) (hR0 : gh F cv0 l = some R) : callw X bs 134 [.list (l.map encInts), .func 158 [.ptr ca0 0]] H = some (.tuple [.int .i64 R.1, .int .i64 R.2], H) := by
 refine yw2 (rs := [.tmp 4, .tmp 5]) (N := 25) (fn := Tryz.f134) vH Tryz.func134 ?_
 have hca0_l := aa hca0
 have hca0_a := get_app' hca0
 have hR := Kp.mk hR0
 clear hR0
 rw [gh] at hR
 obtain ⟨o8, o8_e, hR⟩ := bindE hR
 refine zu ?_
 refine ab (af (c := (loopAt Tryz.f134 0)) rfl (oP _ H F ca0 cv0 hca0 l _ 0 o8 _ _ ⟨[], by simp, sl, sl, sl, sl⟩ o8_e)) ?_
 rcases o8 with o9 | o11
 ·rintro ex ρ' H' ⟨J10, rfl, rfl, q4_o9, q5_o9⟩ hf
  clear hf
  obtain rfl := someE hR
  exact zv
 ·rintro ex ρ' H' ⟨J12, rfl, rfl⟩ hf
  clear hf
  obtain rfl := someE hR
  exact zv
def ev (F : Nat) (d : Desg) (inputs : List (List Int)) : Option (Desg × Int) := ((fI F d).bind fun y1 => (if (decide (¬y1.2 = 0)) = true then some (y1.1, y1.2) else ((gh F y1.1 inputs).bind fun y3 => (if (decide ((0 : Int) < (inputs.length : Int))) = true then (if (decide ((inputs.length : Int) ≤ 16)) = true then (if (decide (¬y3.2 = 0)) = true then some (y1.1, y3.2) else some (y1.1, 0)) else some (y1.1, 8)) else (if (decide ((inputs.length : Int) ≤ 16)) = true then some (y1.1, 10) else some (y1.1, 10))))))
theorem ks (bs : List Nat) (H : Heap) (F : Nat) (d : Desg) (inputs : List (List Int)) (R : Desg × Int) (hR0 : ev F d inputs = some R) : callw X bs 79 [(encDesg d), .list (inputs.map encInts)] H = some (.tuple [(encDesg R.1), .int .i64 R.2], H) := by
 refine yw2 (rs := [.cell 4 114, .tmp 5]) (N := 37) (fn := Tryz.f79) xk79 Tryz.func79 ?_
 have hR := Kp.mk hR0
 clear hR0
 rw [ev] at hR
 (try simp only [cellsDesg, encDesg, encInts])
 obtain ⟨y1, y1_e, hR⟩ := bindE hR
 have y1_k := fun bs H => kg bs H F d y1 y1_e
 (try simp only [cellsDesg, encDesg, encInts] at y1_k)
 try refine zw ?_
 clear y1_k
 rcases iteE hR with ⟨c2, hR⟩ | ⟨c2, hR⟩
 ·obtain rfl := someE hR
  exact zv
 ·obtain ⟨y3, y3_e, hR⟩ := bindE hR
  have y3_k := fun (bs : List Nat) (u0 u1 : HObj) (J : Heap) => qW bs (H ++ u0 :: u1 :: .cells [.str y1.1.name, .list (y1.1.inputs.map encPort), .list (y1.1.elements.map encElem), .list (y1.1.nodes.map encNode), .list (y1.1.rules.map encRul), .list (y1.1.outs.map encOutp), .list (y1.1.attrs.map encAttr)] :: J) F (H.length + 2) y1.1 gt inputs y3 y3_e
  rcases iteE hR with ⟨c4, hR⟩ | ⟨c4, hR⟩
  ·rcases iteE hR with ⟨c5, hR⟩ | ⟨c5, hR⟩
   ·rcases iteE hR with ⟨c6, hR⟩ | ⟨c6, hR⟩
    ·have c6_p := of_decide_eq_true c6
     obtain rfl := someE hR
     try refine zu ?_
     (refine yw1 (id := 5) oz43 oz44 ?_)
     exact zv
    ·have c6_p := Decidable.not_not.1 (of_decide_eq_false c6)
     obtain rfl := someE hR
     try refine zu ?_
     (refine yw1 (id := 5) oz43 oz44 ?_)
     exact zv
   ·obtain rfl := someE hR
    try refine zu ?_
    (refine yw1 (id := 5) oz43 oz44 ?_)
    exact zv
  ·rcases iteE hR with ⟨c7, hR⟩ | ⟨c7, hR⟩
   ·obtain rfl := someE hR
    try refine zu ?_
    (refine yw1 (id := 5) oz43 oz44 ?_)
    exact zv
   ·obtain rfl := someE hR
    try refine zu ?_
    (refine yw1 (id := 5) oz43 oz44 ?_)
    exact zv
def da (F : Nat) (cv0 : Desg) (cv1 : DVisit) (cv2 : Int) (a0_ : List Int) : Option (Bool) := ((aN F cv0 a0_ cv1.state).bind fun y1 => ((idxI y1 cv2).bind fun x2 => some (decide (x2 = 0))))
theorem iY (bs : List Nat) (H : Heap) (F : Nat) (ca0 : Nat) (ca1 : Nat) (ca2 : Nat) (cv0 : Desg) (cv1 : DVisit) (cv2 : Int) (hca0 : H[ca0]? = some (.cells [.str cv0.name, .list (cv0.inputs.map encPort), .list (cv0.elements.map encElem), .list (cv0.nodes.map encNode), .list (cv0.rules.map encRul), .list (cv0.outs.map encOutp), .list (cv0.attrs.map encAttr)])) (hca1 : H[ca1]? = some (.cells [.list (cv1.state.map (V.int .i64)), .int .i64 cv1.prev, .int .i64 cv1.step.inputs, .int .i64 cv1.step.rule])) (hca2 : H[ca2]? = some (.cells [.int .i64 cv2])) (a0_ : List Int) (R : Bool) (hR0 : da F cv0 cv1 cv2 a0_ = some R) : callw X bs 85 [.list (a0_.map (V.int .i64)), .ptr ca0 0, .ptr ca1 0, .ptr ca2 0] H = some (.bool R, H) := by
 refine yw2 (rs := [.tmp 5]) (N := 15) (fn := Tryz.f85) xk85 Tryz.func85 ?_
 have hca0_l := aa hca0
 have hca0_a := get_app' hca0
 have hca1_l := aa hca1
 have hca1_a := get_app' hca1
 have hca2_l := aa hca2
 have hca2_a := get_app' hca2
 have hR := Kp.mk hR0
 clear hR0
 rw [da] at hR
 obtain ⟨y1, y1_e, hR⟩ := bindE hR
 have y1_k := fun bs H => cO bs H F cv0 a0_ cv1.state y1 y1_e
 (try simp only [cellsDesg, encDesg, encInts] at y1_k)
 obtain ⟨x2, x2_e, hR⟩ := bindE hR
 obtain ⟨x2_p, x2_e⟩ := idxE x2_e
 obtain rfl := someE hR
 try refine zu ?_
 (refine yw1 (id := 1) [0, 1, 2, 3, 5, 4, 6, 7, 8, 9] [(4, 5)] ?_)
 exact zv
def br (F : Nat) (s_ : List (List Int)) (cv0 : Desg) (cv1 : DVisit) (cv2 : Int) : Nat → Nat → Option (Oc (Nat) (Unit))
 | 0, _ => none
 | k + 1, s1 => (if (decide ((s1 : Int) < (s_.length : Int))) = true then ((s_[s1]?).bind fun x4 => ((da F cv0 cv1 cv2 x4).bind fun y5 => (if y5 = true then some (.a s1) else (if inI ((s1 : Int) + 1) then br F s_ cv0 cv1 cv2 k (s1 + 1) else none)))) else some (.b ()))
theorem mt (bs : List Nat) (H : Heap) (F : Nat) (ca0 : Nat) (ca1 : Nat) (ca2 : Nat) (cv0 : Desg) (cv1 : DVisit) (cv2 : Int) (hca0 : H[ca0]? = some (.cells [.str cv0.name, .list (cv0.inputs.map encPort), .list (cv0.elements.map encElem), .list (cv0.nodes.map encNode), .list (cv0.rules.map encRul), .list (cv0.outs.map encOutp), .list (cv0.attrs.map encAttr)])) (hca1 : H[ca1]? = some (.cells [.list (cv1.state.map (V.int .i64)), .int .i64 cv1.prev, .int .i64 cv1.step.inputs, .int .i64 cv1.step.rule])) (hca2 : H[ca2]? = some (.cells [.int .i64 cv2])) (s_ : List (List Int)) : ∀ k s r ρ H', (∃ J2, H' = H ++ J2 ∧ ρ 0 = .list (s_.map encInts) ∧ ρ 1 = .func 85 [.ptr ca0 0, .ptr ca1 0, .ptr ca2 0] ∧ ρ 7 = .int .i64 (s_.length : Int) ∧ ρ 8 = .int .i64 (s : Int)) → br F s_ cv0 cv1 cv2 k s = some r → Lp X ⟨19, H.length :: bs⟩ (loopAt Tryz.f161 0) ρ H' ((fun r ex ρ H' => match r with | .a r => ∃ J2, H' = H ++ J2 ∧ ex = .ret ∧ ρ 4 = .int .i64 (r : Int) | .b r => ∃ J2, H' = H ++ J2 ∧ ex = .exit 0) r) := by
 refine ae (fun _ => rfl) ?_
 rintro k s1 r ρ H' ⟨J2, hH, h0, h1, h7, h8⟩ hR
 skip
 subst hH
 rw [br] at hR
 have hca0_l := aa hca0
 have hca0_a := get_app' hca0
 have hca1_l := aa hca1
 have hca1_a := get_app' hca1
 have hca2_l := aa hca2
 have hca2_a := get_app' hca2
 conv => arg 3; whnf
 try refine zw ?_
 rcases iteE hR with ⟨c3, hR⟩ | ⟨c3, hR⟩
 ·obtain ⟨x4, x4_e, hR⟩ := bindE hR
  obtain ⟨y5, y5_e, hR⟩ := bindE hR
  have y5_k := fun (bs : List Nat) (l : Heap) => iY bs (H ++ l) F ca0 ca1 ca2 cv0 cv1 cv2 gt gt gt x4 y5 y5_e
  have y5_k0 := fun (bs : List Nat) => iY bs H F ca0 ca1 ca2 cv0 cv1 cv2 gt gt gt x4 y5 y5_e
  try refine zw ?_
  clear y5_k y5_k0
  rcases iteE hR with ⟨c6, hR⟩ | ⟨c6, hR⟩
  ·obtain rfl := someE hR
   refine zu ?_
   exact ⟨_, hq, rfl, sl⟩
  ·obtain ⟨g7, hR⟩ := grdE hR
   have g7_w := ac g7
   refine zu ?_
   exact ⟨(s1 + 1), ⟨_, hq, sl, sl, sl, sl⟩, hR.out⟩
 ·obtain rfl := someE hR
  refine zu ?_
  exact ⟨_, hq, rfl⟩
def cV (F : Nat) (s_ : List (List Int)) (cv0 : Desg) (cv1 : DVisit) (cv2 : Int) : List (List Int) → Nat → Unit → Option (Oc (Nat) (Unit))
 | [], s1, _ => some (.b ())
 | x_ :: r_, s1, _ => ((da F cv0 cv1 cv2 x_).bind fun y5 => (if y5 = true then some (.a s1) else cV F s_ cv0 cv1 cv2 r_ (s1 + 1) ()))
theorem ir (F : Nat) (s_ : List (List Int)) (cv0 : Desg) (cv1 : DVisit) (cv2 : Int) (hl_ : s_.length ≤ 1000000) : ∀ r_ i_ k_ (o_ : Unit), s_.drop i_ = r_ → r_.length < k_ → br F s_ cv0 cv1 cv2 k_ i_ = cV F s_ cv0 cv1 cv2 r_ i_ o_
 | _, _, 0, _, _, hk => absurd hk (Nat.not_lt_zero _)
 | [], i_, k_ + 1, _, hd, _ => by rw [br, cV]; simp only [ai hd, Bool.false_eq_true, if_false]
 | x_ :: r_, i_, k_ + 1, _, hd, hk => by
  have ih := ir F s_ cv0 cv1 cv2 hl_ r_ (i_ + 1) k_ () (ah hd) (Nat.lt_of_succ_lt_succ hk)
  rw [br, cV]; simp only [aq hd, ak hd, if_pos (av hd hl_), Option.bind_some, if_true, ih]
def fR (F : Nat) (cv0 : Desg) (cv1 : DVisit) (cv2 : Int) (s_ : List (List Int)) : Option (Int) := ((br F s_ cv0 cv1 cv2 F 0).bind fun o8 => match o8 with | .a o9 => some (o9 : Int) | .b o11 => some (-1))
theorem jp (bs : List Nat) (H : Heap) (F : Nat) (ca0 : Nat) (ca1 : Nat) (ca2 : Nat) (cv0 : Desg) (cv1 : DVisit) (cv2 : Int) (hca0 : H[ca0]? = some (.cells [.str cv0.name, .list (cv0.inputs.map encPort), .list (cv0.elements.map encElem), .list (cv0.nodes.map encNode), .list (cv0.rules.map encRul), .list (cv0.outs.map encOutp), .list (cv0.attrs.map encAttr)])) (hca1 : H[ca1]? = some (.cells [.list (cv1.state.map (V.int .i64)), .int .i64 cv1.prev, .int .i64 cv1.step.inputs, .int .i64 cv1.step.rule])) (hca2 : H[ca2]? = some (.cells [.int .i64 cv2])) (s_ : List (List Int)) (R : Int) (hR0 : fR F cv0 cv1 cv2 s_ = some R) : callw X bs 161 [.list (s_.map encInts), .func 85 [.ptr ca0 0, .ptr ca1 0, .ptr ca2 0]] H = some (.int .i64 R, H) := by
 refine yw2 (rs := [.tmp 4]) (N := 19) (fn := Tryz.f161) DA Tryz.func161 ?_
 have hca0_l := aa hca0
 have hca0_a := get_app' hca0
 have hca1_l := aa hca1
 have hca1_a := get_app' hca1
 have hca2_l := aa hca2
 have hca2_a := get_app' hca2
 have hR := Kp.mk hR0
 clear hR0
 rw [fR] at hR
 obtain ⟨o8, o8_e, hR⟩ := bindE hR
 refine zu ?_
 refine ab (af (c := (loopAt Tryz.f161 0)) rfl (mt _ H F ca0 ca1 ca2 cv0 cv1 cv2 hca0 hca1 hca2 s_ _ 0 o8 _ _ ⟨[], by simp, sl, sl, sl, sl⟩ o8_e)) ?_
 rcases o8 with o9 | o11
 ·rintro ex ρ' H' ⟨J10, rfl, rfl, q4_o9⟩ hf
  clear hf
  obtain rfl := someE hR
  exact zv
 ·rintro ex ρ' H' ⟨J12, rfl, rfl⟩ hf
  clear hf
  obtain rfl := someE hR
  exact zv
def fF (F : Nat) (cv0 : Desg) (cv1 : DVisit) (cv2 : Int) (s_ : List (List Int)) : Option (Bool) := ((fR F cv0 cv1 cv2 s_).bind fun y1 => some (decide ((0 : Int) ≤ y1)))
theorem nt (bs : List Nat) (H : Heap) (F : Nat) (ca0 : Nat) (ca1 : Nat) (ca2 : Nat) (cv0 : Desg) (cv1 : DVisit) (cv2 : Int) (hca0 : H[ca0]? = some (.cells [.str cv0.name, .list (cv0.inputs.map encPort), .list (cv0.elements.map encElem), .list (cv0.nodes.map encNode), .list (cv0.rules.map encRul), .list (cv0.outs.map encOutp), .list (cv0.attrs.map encAttr)])) (hca1 : H[ca1]? = some (.cells [.list (cv1.state.map (V.int .i64)), .int .i64 cv1.prev, .int .i64 cv1.step.inputs, .int .i64 cv1.step.rule])) (hca2 : H[ca2]? = some (.cells [.int .i64 cv2])) (s_ : List (List Int)) (R : Bool) (hR0 : fF F cv0 cv1 cv2 s_ = some R) : callw X bs 84 [.list (s_.map encInts), .func 85 [.ptr ca0 0, .ptr ca1 0, .ptr ca2 0]] H = some (.bool R, H) := by
 refine yw2 (rs := [.tmp 4]) (N := 9) (fn := Tryz.f84) xk84 Tryz.func84 ?_
 have hca0_l := aa hca0
 have hca0_a := get_app' hca0
 have hca1_l := aa hca1
 have hca1_a := get_app' hca1
 have hca2_l := aa hca2
 have hca2_a := get_app' hca2
 have hR := Kp.mk hR0
 clear hR0
 rw [fF] at hR
 obtain ⟨y1, y1_e, hR⟩ := bindE hR
 have y1_k := fun (bs : List Nat) (l : Heap) => jp bs (H ++ l) F ca0 ca1 ca2 cv0 cv1 cv2 gt gt gt s_ y1 y1_e
 have y1_k0 := fun (bs : List Nat) => jp bs H F ca0 ca1 ca2 cv0 cv1 cv2 gt gt gt s_ y1 y1_e
 obtain rfl := someE hR
 exact zv
def cI (F : Nat) (cv0 : List (List Int)) (cv1 : Desg) (cv2 : Int) (v : DVisit) : Option (Bool) := ((fF F cv1 v cv2 cv0).bind fun y1 => some y1)
theorem jT (bs : List Nat) (H : Heap) (F : Nat) (ca0 : Nat) (ca1 : Nat) (ca2 : Nat) (cv0 : List (List Int)) (cv1 : Desg) (cv2 : Int) (hca0 : H[ca0]? = some (.cells [.list (cv0.map encInts)])) (hca1 : H[ca1]? = some (.cells [.str cv1.name, .list (cv1.inputs.map encPort), .list (cv1.elements.map encElem), .list (cv1.nodes.map encNode), .list (cv1.rules.map encRul), .list (cv1.outs.map encOutp), .list (cv1.attrs.map encAttr)])) (hca2 : H[ca2]? = some (.cells [.int .i64 cv2])) (v : DVisit) (R : Bool) (hR0 : cI F cv0 cv1 cv2 v = some R) : callw X bs 83 [(encDVisit v), .ptr ca0 0, .ptr ca1 0, .ptr ca2 0] H = some (.bool R, H) := by
 refine yw2 (rs := [.tmp 5]) (N := 9) (fn := Tryz.f83) xk83 Tryz.func83 ?_
 have hca0_l := aa hca0
 have hca0_a := get_app' hca0
 have hca1_l := aa hca1
 have hca1_a := get_app' hca1
 have hca2_l := aa hca2
 have hca2_a := get_app' hca2
 have hR := Kp.mk hR0
 clear hR0
 rw [cI] at hR
 (try simp only [cellsDStep, cellsDVisit, encDStep, encDVisit, encInts])
 obtain ⟨y1, y1_e, hR⟩ := bindE hR
 have y1_k := fun (bs : List Nat) (J : Heap) => nt bs (H ++ .cells [.list (v.state.map (V.int .i64)), .int .i64 v.prev, .int .i64 v.step.inputs, .int .i64 v.step.rule] :: J) F ca1 H.length ca2 cv1 v cv2 gt gt gt cv0 y1 y1_e
 obtain rfl := someE hR
 exact zv
def bt (F : Nat) (s_ : List DVisit) (cv0 : List (List Int)) (cv1 : Desg) (cv2 : Int) : Nat → Nat → Option (Oc (Nat) (Unit))
 | 0, _ => none
 | k + 1, s1 => (if (decide ((s1 : Int) < (s_.length : Int))) = true then ((s_[s1]?).bind fun x4 => ((cI F cv0 cv1 cv2 x4).bind fun y5 => (if y5 = true then some (.a s1) else (if inI ((s1 : Int) + 1) then bt F s_ cv0 cv1 cv2 k (s1 + 1) else none)))) else some (.b ()))
theorem mu (bs : List Nat) (H : Heap) (F : Nat) (ca0 : Nat) (ca1 : Nat) (ca2 : Nat) (cv0 : List (List Int)) (cv1 : Desg) (cv2 : Int) (hca0 : H[ca0]? = some (.cells [.list (cv0.map encInts)])) (hca1 : H[ca1]? = some (.cells [.str cv1.name, .list (cv1.inputs.map encPort), .list (cv1.elements.map encElem), .list (cv1.nodes.map encNode), .list (cv1.rules.map encRul), .list (cv1.outs.map encOutp), .list (cv1.attrs.map encAttr)])) (hca2 : H[ca2]? = some (.cells [.int .i64 cv2])) (s_ : List DVisit) : ∀ k s r ρ H', (∃ J2, H' = H ++ J2 ∧ ρ 0 = .list (s_.map encDVisit) ∧ ρ 1 = .func 83 [.ptr ca0 0, .ptr ca1 0, .ptr ca2 0] ∧ ρ 7 = .int .i64 (s_.length : Int) ∧ ρ 8 = .int .i64 (s : Int)) → bt F s_ cv0 cv1 cv2 k s = some r → Lp X ⟨19, H.length :: bs⟩ (loopAt Tryz.f82 0) ρ H' ((fun r ex ρ H' => match r with | .a r => ∃ J2, H' = H ++ J2 ∧ ex = .ret ∧ ρ 4 = .int .i64 (r : Int) | .b r => ∃ J2, H' = H ++ J2 ∧ ex = .exit 0) r) := by
 refine ae (fun _ => rfl) ?_
 rintro k s1 r ρ H' ⟨J2, hH, h0, h1, h7, h8⟩ hR
 skip
 subst hH
 rw [bt] at hR
 have hca0_l := aa hca0
 have hca0_a := get_app' hca0
 have hca1_l := aa hca1
 have hca1_a := get_app' hca1
 have hca2_l := aa hca2
 have hca2_a := get_app' hca2
 conv => arg 3; whnf
 try refine zw ?_
 rcases iteE hR with ⟨c3, hR⟩ | ⟨c3, hR⟩
 ·obtain ⟨x4, x4_e, hR⟩ := bindE hR
  obtain ⟨y5, y5_e, hR⟩ := bindE hR
  have y5_k := fun (bs : List Nat) (l : Heap) => jT bs (H ++ l) F ca0 ca1 ca2 cv0 cv1 cv2 gt gt gt x4 y5 y5_e
  (try simp only [cellsDStep, cellsDVisit, encDStep, encDVisit, encInts] at y5_k)
  have y5_k0 := fun (bs : List Nat) => jT bs H F ca0 ca1 ca2 cv0 cv1 cv2 gt gt gt x4 y5 y5_e
  (try simp only [cellsDStep, cellsDVisit, encDStep, encDVisit, encInts] at y5_k0)
  try refine zw ?_
  clear y5_k y5_k0
  rcases iteE hR with ⟨c6, hR⟩ | ⟨c6, hR⟩
  ·obtain rfl := someE hR
   refine zu ?_
   exact ⟨_, hq, rfl, sl⟩
  ·obtain ⟨g7, hR⟩ := grdE hR
   have g7_w := ac g7
   refine zu ?_
   exact ⟨(s1 + 1), ⟨_, hq, sl, sl, sl, sl⟩, hR.out⟩
 ·obtain rfl := someE hR
  refine zu ?_
  exact ⟨_, hq, rfl⟩
def cW (F : Nat) (s_ : List DVisit) (cv0 : List (List Int)) (cv1 : Desg) (cv2 : Int) : List DVisit → Nat → Unit → Option (Oc (Nat) (Unit))
 | [], s1, _ => some (.b ())
 | x_ :: r_, s1, _ => ((cI F cv0 cv1 cv2 x_).bind fun y5 => (if y5 = true then some (.a s1) else cW F s_ cv0 cv1 cv2 r_ (s1 + 1) ()))
theorem iu (F : Nat) (s_ : List DVisit) (cv0 : List (List Int)) (cv1 : Desg) (cv2 : Int) (hl_ : s_.length ≤ 1000000) : ∀ r_ i_ k_ (o_ : Unit), s_.drop i_ = r_ → r_.length < k_ → bt F s_ cv0 cv1 cv2 k_ i_ = cW F s_ cv0 cv1 cv2 r_ i_ o_
 | _, _, 0, _, _, hk => absurd hk (Nat.not_lt_zero _)
 | [], i_, k_ + 1, _, hd, _ => by rw [bt, cW]; simp only [ai hd, Bool.false_eq_true, if_false]
 | x_ :: r_, i_, k_ + 1, _, hd, hk => by
  have ih := iu F s_ cv0 cv1 cv2 hl_ r_ (i_ + 1) k_ () (ah hd) (Nat.lt_of_succ_lt_succ hk)
  rw [bt, cW]; simp only [aq hd, ak hd, if_pos (av hd hl_), Option.bind_some, if_true, ih]
def fS (F : Nat) (cv0 : List (List Int)) (cv1 : Desg) (cv2 : Int) (s_ : List DVisit) : Option (Int) := ((bt F s_ cv0 cv1 cv2 F 0).bind fun o8 => match o8 with | .a o9 => some (o9 : Int) | .b o11 => some (-1))
theorem og (bs : List Nat) (H : Heap) (F : Nat) (ca0 : Nat) (ca1 : Nat) (ca2 : Nat) (cv0 : List (List Int)) (cv1 : Desg) (cv2 : Int) (hca0 : H[ca0]? = some (.cells [.list (cv0.map encInts)])) (hca1 : H[ca1]? = some (.cells [.str cv1.name, .list (cv1.inputs.map encPort), .list (cv1.elements.map encElem), .list (cv1.nodes.map encNode), .list (cv1.rules.map encRul), .list (cv1.outs.map encOutp), .list (cv1.attrs.map encAttr)])) (hca2 : H[ca2]? = some (.cells [.int .i64 cv2])) (s_ : List DVisit) (R : Int) (hR0 : fS F cv0 cv1 cv2 s_ = some R) : callw X bs 82 [.list (s_.map encDVisit), .func 83 [.ptr ca0 0, .ptr ca1 0, .ptr ca2 0]] H = some (.int .i64 R, H) := by
 refine yw2 (rs := [.tmp 4]) (N := 19) (fn := Tryz.f82) xk82 Tryz.func82 ?_
 have hca0_l := aa hca0
 have hca0_a := get_app' hca0
 have hca1_l := aa hca1
 have hca1_a := get_app' hca1
 have hca2_l := aa hca2
 have hca2_a := get_app' hca2
 have hR := Kp.mk hR0
 clear hR0
 rw [fS] at hR
 obtain ⟨o8, o8_e, hR⟩ := bindE hR
 refine zu ?_
 refine ab (af (c := (loopAt Tryz.f82 0)) rfl (mu _ H F ca0 ca1 ca2 cv0 cv1 cv2 hca0 hca1 hca2 s_ _ 0 o8 _ _ ⟨[], by simp, sl, sl, sl, sl⟩ o8_e)) ?_
 rcases o8 with o9 | o11
 ·rintro ex ρ' H' ⟨J10, rfl, rfl, q4_o9⟩ hf
  clear hf
  obtain rfl := someE hR
  exact zv
 ·rintro ex ρ' H' ⟨J12, rfl, rfl⟩ hf
  clear hf
  obtain rfl := someE hR
  exact zv
def cJ (F : Nat) : Nat → (Nat × Int × (List DStep)) → Option ((List DStep))
 | 0, _ => none
 | k + 1, (s14, s15, s16) => (if (decide ((s14 : Int) < s15)) = true then ((idxI s16 s15).bind fun x19 => ((s16[s14]?).bind fun x20 => ((idxI (s16.set s14 x19) s15).bind fun x23 => (if inI ((s14 : Int) + 1) then (if inI (s15 - 1) then cJ F k ((s14 + 1), (s15 - 1), ((s16.set s14 x19).set s15.toNat x20)) else none) else none)))) else some s16)
theorem oQ (bs : List Nat) (H : Heap) (F : Nat) (ca0 : Nat) (cv0 : List DStep) (vv0 : Nat) (lv0 : Nat) (hca0 : ca0 < H.length) (hl_ca0 : cv0.length = lv0) : ∀ k s r ρ H', (∃ J17, H' = (H.set ca0 (.arr (s.2.2.map encDStep) vv0)) ++ J17 ∧ ρ 0 = .ref 2 ca0 vv0 0 lv0 ∧ ρ 2 = .int .i64 (s.1 : Int) ∧ ρ 3 = .int .i64 s.2.1 ∧ Kp (s.2.2.length = lv0)) → cJ F k s = some r → Lp X ⟨28, H.length :: bs⟩ (loopAt Tryz.f86 0) ρ H' ((fun r ex ρ H' => ∃ J17, H' = (H.set ca0 (.arr (r.map encDStep) vv0)) ++ J17 ∧ ex = .exit 0 ∧ Kp (r.length = lv0)) r) := by
 refine ae (fun _ => rfl) ?_
 rintro k ⟨s14, s15, s16⟩ r ρ H' ⟨J17, hH, h0, h2, h3, hl0⟩ hR
 simp only at hH h0 h2 h3 hl0
 subst hH
 rw [cJ] at hR
 have hca0_a := @gr H (h := hca0)
 have hca0_b := @ef H (h := hca0)
 have hca0_s := @gc H (h := hca0)
 conv => arg 3; whnf
 try refine zw ?_
 rcases iteE hR with ⟨c18, hR⟩ | ⟨c18, hR⟩
 ·obtain ⟨x19, x19_e, hR⟩ := bindE hR
  obtain ⟨x19_p, x19_e⟩ := idxE x19_e
  have x19_l : s15.toNat < lv0 := Nat.lt_of_lt_of_eq (aa x19_e) hl0.out
  obtain ⟨x20, x20_e, hR⟩ := bindE hR
  have x20_l : s14 < lv0 := Nat.lt_of_lt_of_eq (aa x20_e) hl0.out
  have ms22 := (List.map_set (f := encDStep) (l := s16) (i := s14) (a := x19)).symm
  simp only [cellsDStep, encDStep, encInts] at ms22
  obtain ⟨x23, x23_e, hR⟩ := bindE hR
  obtain ⟨x23_p, x23_e⟩ := idxE x23_e
  have x23_l : s15.toNat < lv0 := Nat.lt_of_lt_of_eq (aa x23_e) (List.length_set.trans hl0.out)
  have ms24 := (List.map_set (f := encDStep) (l := (s16.set s14 x19)) (i := s15.toNat) (a := x20)).symm
  simp only [cellsDStep, encDStep, encInts] at ms24
  obtain ⟨g25, hR⟩ := grdE hR
  have g25_w := ac g25
  obtain ⟨g26, hR⟩ := grdE hR
  have g26_w := ac g26
  try refine zu ?_
  (refine yw0 (id := 3) oz53 ?_)
  try refine zu ?_
  exact ⟨((s14 + 1), (s15 - 1), ((s16.set s14 x19).set s15.toNat x20)), ⟨_, hq, sl, sl, sl, ⟨(List.length_set.trans (List.length_set.trans hl0.out))⟩⟩, hR.out⟩
 ·obtain rfl := someE hR
  refine zu ?_
  exact ⟨_, hq, rfl, ⟨hl0.out⟩⟩
def gi (F : Nat) (cv0 : List DStep) (lv0 : Nat) : Option ((List DStep)) := (if inI ((lv0 : Int) - 1) then ((cJ F F (0, ((lv0 : Int) - 1), cv0)).bind fun o28 => some o28) else none)
theorem qX (bs : List Nat) (H : Heap) (F : Nat) (ca0 : Nat) (cv0 : List DStep) (vv0 : Nat) (lv0 : Nat) (hca0 : ca0 < H.length) (hl_ca0 : cv0.length = lv0) (R : (List DStep)) (hR0 : gi F cv0 lv0 = some R) : callw X bs 86 [.ref 2 ca0 vv0 0 lv0] (H.set ca0 (.arr (cv0.map encDStep) vv0)) = some (.undef, (H.set ca0 (.arr (R.map encDStep) vv0))) := by
 refine yw2 (rs := []) (N := 28) (fn := Tryz.f86) xk86 Tryz.func86 ?_
 simp only [List.length_set]
 have hca0_a := @gr H (h := hca0)
 have hca0_b := @ef H (h := hca0)
 have hca0_s := @gc H (h := hca0)
 have hR := Kp.mk hR0
 clear hR0
 rw [gi] at hR
 obtain ⟨g1, hR⟩ := grdE hR
 have g1_w := ac g1
 obtain ⟨o28, o28_e, hR⟩ := bindE hR
 refine zu ?_
 refine ab (af (c := (loopAt Tryz.f86 0)) rfl (oQ _ H F ca0 cv0 vv0 lv0 hca0 hl_ca0 _ (0, ((lv0 : Int) - 1), cv0) o28 _ _ ⟨[], by simp, sl, sl, sl, ⟨hl_ca0⟩⟩ o28_e)) ?_
 rintro ex ρ' H' ⟨J29, rfl, rfl, hl_o28_0⟩ hf
 clear hf
 obtain rfl := someE hR
 refine zu ?_
 all_goals exact CK (fun _ h_ => by cases h_) rfl (by first | exact List.take_left' (by simp only [List.length_set]) | exact List.take_of_length_le (by simp only [List.length_set, Nat.le_refl]) | simp)
def cw (F : Nat) (inputs : List (List Int)) (y1 : Desg × Int) : Nat → (Int × (List DStep) × Nat) → Option ((List DStep) × Nat)
 | 0, _ => none
 | k + 1, (s53, s60, s61) => ((idxI ((searchD y1.1 inputs).1) s53).bind fun x63 => (if (decide ((0 : Int) ≤ x63.prev)) = true then (if (s60.length + 1) ≤ 1000000 then cw F inputs y1 k (x63.prev, (s60 ++ [x63.step]), (s61 + 1)) else none) else some (s60, s61)))
theorem no (bs : List Nat) (H : Heap) (F : Nat) (inputs : List (List Int)) (y1 : Desg × Int) (a54 : HObj) (a55 : HObj) (a56 : HObj) (a57 : HObj) (a58 : HObj) (a59 : HObj) : ∀ k s r ρ H', (∃ J62, H' = H ++ a54 :: a55 :: a56 :: .tok 0 :: a57 :: a58 :: a59 :: .arr (s.2.1.map encDStep) s.2.2 :: J62 ∧ ρ 10 = .list (((searchD y1.1 inputs).1).map encDVisit) ∧ ρ 11 = .int .i64 s.1 ∧ ρ 12 = .ref 2 (H.length + 7) s.2.2 0 s.2.1.length) → cw F inputs y1 k s = some r → Lp X2 ⟨65, H.length :: bs⟩ (loopAt Tryz.f30 0) ρ H' ((fun r ex ρ H' => ∃ J62, H' = H ++ a54 :: a55 :: a56 :: .tok 0 :: a57 :: a58 :: a59 :: .arr (r.1.map encDStep) r.2 :: J62 ∧ ex = .exit 0 ∧ ρ 12 = .ref 2 (H.length + 7) r.2 0 r.1.length) r) := by
 refine ae (fun _ => rfl) ?_
 rintro k ⟨s53, s60, s61⟩ r ρ H' ⟨J62, hH, h10, h11, h12⟩ hR
 simp only at hH h10 h11 h12
 subst hH
 rw [cw] at hR
 conv => arg 3; whnf
 obtain ⟨x63, x63_e, hR⟩ := bindE hR
 obtain ⟨x63_p, x63_e⟩ := idxE x63_e
 try refine zw ?_
 rcases iteE hR with ⟨c64, hR⟩ | ⟨c64, hR⟩
 ·obtain ⟨g66, hR⟩ := grdE hR
  have g66_r := ka (n := (s60.length + 1)) (k := 16) g66 (by omega)
  have g66_t := ic encDStep (l := s60) (n := s60.length) rfl
  have g66_u := kb (l := s60) (n := s60.length) rfl
  have g66_m := (List.map_append (f := encDStep) (l₁ := s60) (l₂ := [x63.step])).symm
  simp only [cellsDStep, encDStep, encInts, List.map_cons, List.map_nil] at g66_m
  refine zu ?_
  exact ⟨(x63.prev, (s60 ++ [x63.step]), (s61 + 1)), ⟨_, hq, sl, sl, sl⟩, hR.out⟩
 ·obtain rfl := someE hR
  refine zu ?_
  exact ⟨_, hq, rfl, sl⟩
def fO (F : Nat) (d : Desg) (inputs : List (List Int)) (node : Int) : Option ((List DStep) × Int) := ((ev F d inputs).bind fun y1 => ((aY F d node).bind fun y2 => (if y2 = true then (if (decide (¬y1.2 = 0)) = true then some ([], y1.2) else (if OkD y1.1 then (if inputs.length ≤ 1000000 then (if ∀ l ∈ inputs, LeafOk (inWs y1.1) l then (if (decide (¬(searchD y1.1 inputs).2 = 0)) = true then some ([], 16) else ((fS F inputs y1.1 node ((searchD y1.1 inputs).1)).bind fun y10 => (if (decide (y10 < 0)) = true then some ([], 12) else ((idxI ((searchD y1.1 inputs).1) y10).bind fun x22 => (if (decide ((0 : Int) ≤ x22.prev)) = true then ((cw F inputs y1 F (x22.prev, [x22.step], 0)).bind fun o69 => ((gi F o69.1 o69.1.length).bind fun y71 => (if y71.length = o69.1.length then some (y71, 0) else none))) else some ([], 0)))))) else none) else none) else none)) else (if (decide (¬y1.2 = 0)) = true then some ([], y1.2) else some ([], 9)))))
theorem ql (bs : List Nat) (H : Heap) (F : Nat) (d : Desg) (inputs : List (List Int)) (node : Int) (R : (List DStep) × Int) (hR0 : fO F d inputs node = some R) : callw X2 bs 30 [(encDesg d), .list (inputs.map encInts), .int .i64 node] H = some (.tuple [.list (R.1.map encDStep), .int .i64 R.2], H) := by
 refine yw2 (rs := [.tmp 6, .tmp 7]) (N := 65) (fn := Tryz.f30) xk30 Tryz.func30 ?_
 have hR := Kp.mk hR0
 clear hR0
 rw [fO] at hR
 (try simp only [cellsDesg, encDesg, encInts])
 obtain ⟨y1, y1_e, hR⟩ := bindE hR
 have y1_k := fun bs H => bF (ks bs H F d inputs y1 y1_e)
 (try simp only [cellsDesg, encDesg, encInts] at y1_k)
 obtain ⟨y2, y2_e, hR⟩ := bindE hR
 have y2_k := fun bs H => bF (fp bs H F d node y2 y2_e)
 (try simp only [cellsDesg, encDesg, encInts] at y2_k)
 rcases iteE hR with ⟨c3, hR⟩ | ⟨c3, hR⟩
 ·rcases iteE hR with ⟨c4, hR⟩ | ⟨c4, hR⟩
  ·have c4_p := of_decide_eq_true c4
   obtain rfl := someE hR
   exact zv
  ·have c4_p := Decidable.not_not.1 (of_decide_eq_false c4)
   obtain ⟨g5, hR⟩ := grdE hR
   obtain ⟨g6, hR⟩ := grdE hR
   obtain ⟨g7, hR⟩ := grdE hR
   rcases iteE hR with ⟨c9, hR⟩ | ⟨c9, hR⟩
   ·have c8_k := fun bs H => Gw bs H y1.1 inputs g5 g6 g7 (of_decide_eq_true c9)
    (try simp only [cellsDStep, cellsDVisit, cellsDesg, encDStep, encDVisit, encDesg, encInts] at c8_k)
    obtain rfl := someE hR
    exact zv
   ·have c8_k := fun bs H => Gx bs H y1.1 inputs g5 g6 g7 (Decidable.not_not.1 (of_decide_eq_false c9))
    (try simp only [cellsDStep, cellsDVisit, cellsDesg, encDStep, encDVisit, encDesg, encInts] at c8_k)
    obtain ⟨y10, y10_e, hR⟩ := bindE hR
    have y10_k := fun (bs : List Nat) (u0 u1 : HObj) (J : Heap) => bF (og bs (H ++ u0 :: .cells [.list (inputs.map encInts)] :: .cells [.int .i64 node] :: u1 :: .cells [.str y1.1.name, .list (y1.1.inputs.map encPort), .list (y1.1.elements.map encElem), .list (y1.1.nodes.map encNode), .list (y1.1.rules.map encRul), .list (y1.1.outs.map encOutp), .list (y1.1.attrs.map encAttr)] :: J) F (H.length + 1) (H.length + 4) (H.length + 2) inputs y1.1 node gt gt gt ((searchD y1.1 inputs).1) y10 y10_e)
    try refine zw ?_
    clear y1_k y2_k c8_k y10_k
    rcases iteE hR with ⟨c11, hR⟩ | ⟨c11, hR⟩
    ·obtain rfl := someE hR
     exact zv
    ·refine zu ?_
     refine dg ?_
     obtain ⟨x22, x22_e, hR⟩ := bindE hR
     obtain ⟨x22_p, x22_e⟩ := idxE x22_e
     try refine zw ?_
     rcases iteE hR with ⟨c23, hR⟩ | ⟨c23, hR⟩
     ·have rm16 : 16 ≤ roomB := by unfold roomB; omega
      obtain ⟨o69, o69_e, hR⟩ := bindE hR
      refine zu ?_
      refine ab (af (c := (loopAt Tryz.f30 0)) rfl (no _ H F inputs y1 _ _ _ _ _ _ _ (x22.prev, [x22.step], 0) o69 _ _ ⟨_, hq, sl, sl, sl⟩ o69_e)) ?_
      rintro ex ρ' H' ⟨J70, rfl, rfl, q12_o69⟩ hf
      clear hf
      obtain ⟨y71, y71_e, hR⟩ := bindE hR
      have y71_k := fun (bs : List Nat) (u0 u1 u2 u3 u4 u5 u6 : HObj) (J : Heap) => by
       have h_ := bF (qX bs (H ++ u0 :: u1 :: u2 :: u3 :: u4 :: u5 :: u6 :: .arr (o69.1.map encDStep) o69.2 :: J) F (H.length + 7) o69.1 o69.2 o69.1.length ln rfl y71 y71_e)
       (try simp only [ax, an, aX, aJ, aM, az, List.set_cons_succ, List.set_cons_zero, List.set_set, aj] at h_)
       exact h_
      obtain ⟨g72, hR⟩ := grdE hR
      obtain rfl := someE hR
      have rt0 := ic encDStep (l := y71) (n := o69.1.length) g72
      have rt1 := kb (l := y71) (n := o69.1.length) g72
      exact zv
     ·have rv73_k := fun bs H_ => bF (Ia bs H_ ((H.length + 5)))
      obtain rfl := someE hR
      exact zv
 ·rcases iteE hR with ⟨c74, hR⟩ | ⟨c74, hR⟩
  ·have c74_p := of_decide_eq_true c74
   obtain rfl := someE hR
   exact zv
  ·have c74_p := Decidable.not_not.1 (of_decide_eq_false c74)
   obtain rfl := someE hR
   exact zv
end
end Go.E
namespace Go.E
open Classical
def idxO {α : Type} (p : α → Bool) : Nat → List α → Oc Nat Unit
 | _, [] => .b ()
 | i, x :: r => if p x = true then .a i else idxO p (i + 1) r
theorem Be {α : Type} (p : α → Bool) : ∀ (l : List α) (i j : Nat), idxO p i l = .a j → i ≤ j ∧ ∃ x, l[j - i]? = some x ∧ p x = true
 | [], i, j, h => by cases h
 | x :: r, i, j, h => by
  unfold idxO at h
  by_cases hp : p x = true
  ·rw [if_pos hp] at h; cases h; exact ⟨Nat.le_refl _, x, by simp, hp⟩
  ·rw [if_neg hp] at h
   obtain ⟨h1, y, h2, h3⟩ := Be p r (i + 1) j h
   refine ⟨by omega, y, ?_, h3⟩
   rw [show j - i = (j - (i + 1)) + 1 by omega]; simpa using h2
theorem xb {α : Type} (p : α → Bool) : ∀ (l : List α) (i : Nat), (match idxO p i l with | .a _ => true | .b _ => false) = l.any p
 | [], i => rfl
 | x :: r, i => by
  unfold idxO
  rw [List.any_cons]
  by_cases hp : p x = true
  ·simp [hp]
  ·rw [if_neg hp, xb p r (i + 1)]; simp [hp]
theorem sG {α : Type} {L : List α → Nat → Unit → Option (Oc Nat Unit)} (f : α → Option Bool) (g : α → Bool) (h0 : ∀ i s, L [] i s = some (.b ()))
  (h1 : ∀ x r i s, L (x :: r) i s = (f x).bind fun y => if y = true then some (.a i) else L r (i + 1) ()) : ∀ (r : List α) (i : Nat), (∀ x ∈ r, f x = some (g x)) → L r i () = some (idxO g i r)
 | [], i, _ => h0 i ()
 | x :: r, i, hf => by
  rw [h1, hf x (by simp), Option.bind_some, idxO, sG f g h0 h1 r (i + 1) (fun y hy => hf y (by simp [hy]))]
  cases g x <;> simp
def OrdV (l : List DVisit) : Prop := ∀ (j : Nat) v, l[j]? = some v → -1 ≤ v.prev ∧ v.prev < (j : Int)
theorem pN (i : Nat) : ∀ {xs : List (DStep × List Int)} {l l' : List DVisit}, i < l.length → OrdV l → reachR i xs l = some (.a l') → OrdV l' ∧ l.length ≤ l'.length
 | [], l, l', _, hv, h => by cases h; exact ⟨hv, Nat.le_refl _⟩
 | x :: xs, l, l', hi, hv, h => by
  unfold reachR at h
  split at h
  ·exact pN i hi hv h
  ·split at h
   ·cases h
   ·have := pN i (l := l ++ [⟨x.2, (i : Int), x.1⟩]) (by simp; omega) (fun j v hj => by
     rcases Nat.lt_or_ge j l.length with h1 | h1
     ·rw [List.getElem?_append_left h1] at hj; exact hv j v hj
     ·rw [List.getElem?_append_right h1] at hj
      rcases hq : j - l.length with _ | q
      ·rw [hq] at hj; cases hj; simp only; omega
      ·rw [hq] at hj; simp at hj) h
    exact ⟨this.1, by have h5 := this.2; simp at h5; omega⟩
theorem tK {d : Desg} {inputs : List (List Int)} (P : List DVisit → Prop) (hstep : ∀ i v l l', l[i]? = some v → P l → reachR i (stepsFrom d v.state inputs 0) l = some (.a l') → P l') :
  ∀ k i l l', P l → reachF d inputs k (i, l) = some (.a l') → P l'
 | 0, i, l, l', _, h => by cases h
 | k + 1, i, l, l', hp, h => by
  unfold reachF at h
  split at h
  ·cases h; exact hp
  ·rename_i v hvi
   obtain ⟨o, ho, h⟩ := Option.bind_eq_some_iff.1 h
   cases o with
   | b u => cases h
   | a l2 => exact tK P hstep k (i + 1) l2 l' (hstep i v l l2 hvi hp ho) h
theorem Bf {d : Desg} (h : OkD d) {inputs : List (List Int)} (hi : ∀ x ∈ inputs, LeafOk (inWs d) x) (he : (searchD d inputs).2 = 0) : VisOk d (searchD d inputs).1 ∧ OrdV (searchD d inputs).1 ∧ reachF d inputs 302 (0, startD d) = some (.a (searchD d inputs).1) := by
 obtain ⟨o, ho⟩ := kV h hi 302 0 (startD d) (ni h) (by omega) (by omega)
 cases o with
 | b u =>
  have : searchD d inputs = ([], 16) := by unfold searchD; rw [ho]
  rw [this] at he; exact absurd he (by decide)
 | a l =>
  have e : searchD d inputs = (l, 0) := by unfold searchD; rw [ho]
  rw [e]
  have := tK (fun l => VisOk d l ∧ OrdV l) (fun i v l l' hv hp hr => ⟨(lj i (kj h (hp.1.st v (List.mem_of_getElem? hv)) inputs 0 hi) hp.1 hr).1, (pN i (aa hv) hp.2 hr).1⟩) 302 0 (startD d) l
   ⟨ni h, fun j v hj => by
    rcases j with _ | j
    ·cases hj; simp only; omega
    ·simp [startD] at hj⟩ ho
  exact ⟨this.1, this.2, ho⟩
def trail (l : List DVisit) : Nat → Int → List DStep
 | 0, _ => []
 | k + 1, i => match l[i.toNat]? with
  | some v => if 0 ≤ v.prev then v.step :: trail l k v.prev else []
  | none => []
theorem pO {l : List DVisit} (ho : OrdV l) : ∀ (k m i : Nat), i < k → i < m → trail l k i = trail l m i
 | 0, m, i, h, _ => by omega
 | k + 1, 0, i, _, h => by omega
 | k + 1, m + 1, i, h1, h2 => by
  unfold trail
  rw [Int.toNat_natCast]
  cases hv : l[i]? with
  | none => rfl
  | some v =>
   have := ho i v hv
   simp only
   by_cases hp : 0 ≤ v.prev
   ·rw [if_pos hp, if_pos hp]
    have e : v.prev = (v.prev.toNat : Int) := by omega
    rw [e, pO ho k m v.prev.toNat (by omega) (by omega)]
   ·rw [if_neg hp, if_neg hp]
theorem ve (l : List DVisit) : ∀ k i, (trail l k i).length ≤ k
 | 0, i => by simp [trail]
 | k + 1, i => by
  unfold trail
  split
  ·split
   ·have := ve l k (by assumption : DVisit).prev; simp; omega
   ·simp
  ·simp
variable {F : Nat} (hF : 1000000 < F)
theorem xc {α : Type} (l : List α) (i : Nat) (h : i < l.length) : l.reverse[i]? = l[l.length - 1 - i]? := by rw [List.getElem?_reverse h]
def revAt {α : Type} (l : List α) (i : Nat) : List α := l.reverse.take i ++ (l.drop i).take (l.length - 2 * i) ++ (l.reverse).drop (l.length - i)
theorem lB {α : Type} (l : List α) (i j : Nat) (hi : 2 * i ≤ l.length) (hi2 : i ≤ l.length) (hj : j < l.length) : (revAt l i)[j]? = if j < i ∨ l.length - i ≤ j then l.reverse[j]? else l[j]? := by
 unfold revAt
 rw [List.append_assoc]
 rcases Nat.lt_or_ge j i with h1 | h1
 ·rw [List.getElem?_append_left (by simp; omega), List.getElem?_take_of_lt h1, if_pos (.inl h1)]
 ·rw [List.getElem?_append_right (by simp; omega)]
  simp only [List.length_take, List.length_reverse]
  rw [Nat.min_eq_left hi2]
  rcases Nat.lt_or_ge j (l.length - i) with h2 | h2
  ·rw [if_neg (by omega), List.getElem?_append_left (by simp; omega), List.getElem?_take_of_lt (by omega), List.getElem?_drop]
   congr 1; omega
  ·rw [if_pos (.inr h2), List.getElem?_append_right (by simp; omega)]
   simp only [List.length_take, List.length_drop, List.getElem?_drop]
   congr 1; omega
theorem nQ {α : Type} (l : List α) (i : Nat) (hi : 2 * i ≤ l.length) (hi2 : i ≤ l.length) : (revAt l i).length = l.length := by
 unfold revAt; simp; omega
theorem GB {α : Type} (l : List α) : revAt l 0 = l := by simp [revAt]
theorem Bg {α : Type} (l : List α) (i : Nat) (h1 : l.length ≤ 2 * i + 1) (hi : 2 * i ≤ l.length) (hi2 : i ≤ l.length) : revAt l i = l.reverse := by
 refine List.ext_getElem? fun j => ?_
 rcases Nat.lt_or_ge j l.length with hj | hj
 ·rw [lB l i j hi hi2 hj]
  split
  ·rfl
  ·rw [xc l j hj]; congr 1; omega
 ·rw [List.getElem?_eq_none (by rw [nQ l i hi hi2]; exact hj), List.getElem?_eq_none (by simpa using hj)]
theorem zK {α : Type} (l : List α) (i : Nat) (x y : α) (h : 2 * i + 1 < l.length) (hx : l[i]? = some x) (hy : l[l.length - 1 - i]? = some y) :
  ((revAt l i).set i y).set (l.length - 1 - i) x = revAt l (i + 1) := by
 refine List.ext_getElem? fun j => ?_
 have hl := nQ l i (by omega) (by omega)
 rcases Nat.lt_or_ge j l.length with hj | hj
 ·rw [lB l (i + 1) j (by omega) (by omega) hj]
  by_cases e1 : l.length - 1 - i = j
  ·subst e1
   rw [List.getElem?_set_self (by simp [hl]; omega), if_pos (.inr (by omega)), xc l _ hj, show l.length - 1 - (l.length - 1 - i) = i by omega, hx]
  ·rw [List.getElem?_set_ne e1]
   by_cases e2 : i = j
   ·subst e2
    rw [List.getElem?_set_self (by rw [hl]; omega), if_pos (.inl (by omega)), xc l _ hj, hy]
   ·rw [List.getElem?_set_ne e2, lB l i j (by omega) (by omega) hj]
    by_cases c : j < i ∨ l.length - i ≤ j
    ·rw [if_pos c, if_pos (by omega)]
    ·rw [if_neg c, if_neg (by omega)]
 ·rw [List.getElem?_eq_none (by simp [hl]; exact hj), List.getElem?_eq_none (by rw [nQ l _ (by omega) (by omega)]; exact hj)]
theorem xd {α : Type} {L : Nat → (Nat × Int × List α) → Option (List α)} (l : List α) (hl : l.length ≤ 1000000)
  (step : ∀ k (i : Nat) (j : Int) (s : List α), (i : Int) < j → L (k + 1) (i, j, s) = (idxI s j).bind fun x => (s[i]?).bind fun y => (idxI (s.set i x) j).bind fun _ => if inI ((i : Int) + 1) then (if inI (j - 1) then L k (i + 1, j - 1, (s.set i x).set j.toNat y) else none) else none)
  (last : ∀ k (i : Nat) (j : Int) (s : List α), ¬(i : Int) < j → L (k + 1) (i, j, s) = some s) :
  ∀ (n i k : Nat), l.length ≤ 2 * i + n → 2 * i ≤ l.length → i ≤ l.length → n < k → L k (i, (l.length : Int) - 1 - i, revAt l i) = some l.reverse
 | n, i, 0, _, _, _, h => by omega
 | n, i, k + 1, h1, h2, h3, h4 => by
  by_cases hlt : (i : Int) < (l.length : Int) - 1 - i
  ·have hi : i < l.length := by omega
   have hj : l.length - 1 - i < l.length := by omega
   have en : ((l.length : Int) - 1 - i).toNat = l.length - 1 - i := by omega
   have hx : l[i]? = some l[i] := aS hi
   have hy : l[l.length - 1 - i]? = some l[l.length - 1 - i] := aS hj
   have a1 : idxI (revAt l i) ((l.length : Int) - 1 - i) = some l[l.length - 1 - i] := by
    unfold idxI; rw [if_pos (by omega), en, lB l i _ h2 h3 hj, if_neg (by omega), hy]
   have a2 : (revAt l i)[i]? = some l[i] := by rw [lB l i _ h2 h3 hi, if_neg (by omega), hx]
   have a3 : ∃ z, idxI ((revAt l i).set i l[l.length - 1 - i]) ((l.length : Int) - 1 - i) = some z := by
    obtain ⟨z, hz, _⟩ := lf (l := (revAt l i).set i l[l.length - 1 - i]) (i := (l.length : Int) - 1 - i) (by omega) (by simp [nQ l i h2 h3]; omega)
    exact ⟨z, hz⟩
   obtain ⟨z, a3⟩ := a3
   rw [step k i _ _ hlt, a1, Option.bind_some, a2, Option.bind_some, a3, Option.bind_some, if_pos (in_1 (by omega)), if_pos (by unfold inI; omega), en, zK l i _ _ (by omega) hx hy]
   have := xd l hl step last (n - 2) (i + 1) k (by omega) (by omega) (by omega) (by omega)
   rwa [show (l.length : Int) - 1 - (i + 1 : Nat) = (l.length : Int) - 1 - i - 1 by omega] at this
  ·rw [last k i _ _ hlt, Bg l i (by omega) h2 h3]
include hF in
theorem Bh (l : List DStep) (hl : l.length ≤ 1000000) : gi F l l.length = some l.reverse := by
 unfold gi
 have := xd (L := cJ F) l hl (fun k i j s h => by rw [cJ, if_pos (decide_eq_true h)]) (fun k i j s h => by rw [cJ, if_neg (by simpa using h)]) l.length 0 F (by omega) (by omega) (by omega) (by omega)
 rw [GB, show (l.length : Int) - 1 - (0 : Nat) = (l.length : Int) - 1 by omega] at this
 rw [if_pos (in_m (by omega)), this]; rfl
def listsErrR (d : Desg) (inputs : List (List Int)) : Int := if (designErrR d).2 = 0 then (if inputs.length = 0 then 10 else if 16 < inputs.length then 8 else (eachP (fun _ l => valErrS (inWs d) l) 0 inputs).2) else (designErrR d).2
include hF in
theorem rY {d : Desg} (h : FewD d) (inputs : List (List Int)) (hl : inputs.length ≤ 1000000) (hi : ∀ l ∈ inputs, l.length ≤ 1000000) : ev F d inputs = some (d, listsErrR d inputs) := by
 unfold ev listsErrR
 rw [wZ hF h, Option.bind_some]
 by_cases he : (designErrR d).2 = 0
 case neg => rw [if_pos (by simpa using he), if_neg he]
 have ok : OkD d := ⟨h, he⟩
 have e := jo F inputs d hl inputs 0 F () rfl (by omega)
 have k := ji (L := eu F inputs d) (fun i n => dz F d (i : Int) n) (fun _ l => valErrS (inWs d) l) (fun i s => rfl) (fun x r i s => rfl) inputs 0 (fun j x hj => by
  unfold dz
  rw [ui hF ok x (hi x (List.mem_of_getElem? hj))]; rfl)
 have k2 : gh F d inputs = some (eachP (fun _ l => valErrS (inWs d) l) 0 inputs) := by
  unfold gh
  rw [e, k, ← jw]
  generalize ocP _ 0 inputs = o
  cases o <;> rfl
 rw [if_neg (by simp [he]), if_pos he, k2, Option.bind_some]
 by_cases h0 : inputs.length = 0
 ·rw [if_neg (by simp [h0]), if_pos h0]; simp [h0]
 rw [if_pos (decide_eq_true (by omega)), if_neg h0]
 by_cases h1 : 16 < inputs.length
 ·rw [if_neg (by simp; omega), if_pos h1]
 rw [if_pos (decide_eq_true (by omega)), if_neg h1]
 by_cases h2 : (eachP (fun _ l => valErrS (inWs d) l) 0 inputs).2 = 0
 ·rw [if_neg (by simp [h2]), h2]
 ·rw [if_pos (by simpa using h2)]
theorem sH {d : Desg} (h : FewD d) {inputs : List (List Int)} (he : listsErrR d inputs = 0) : OkD d ∧ 0 < inputs.length ∧ inputs.length ≤ 16 ∧ ∀ l ∈ inputs, LeafOk (inWs d) l := by
 unfold listsErrR at he
 split at he
 case isFalse h1 => exact absurd he h1
 rename_i h1
 have ok : OkD d := ⟨h, h1⟩
 split at he
 ·omega
 split at he
 ·omega
 exact ⟨ok, by omega, by omega, fun l hl => (fw ok.inW).1 (qJ (fun l => valErrS (inWs d) l) inputs he l hl)⟩
def brokenV (d : Desg) (inputs : List (List Int)) (node : Int) (s : List Int) : Bool := inputs.any fun x => decide (at0 (valsD d x s) node.toNat = 0)
def brokenByR (d : Desg) (inputs : List (List Int)) (node : Int) : List DStep × Int :=
 if listsErrR d inputs = 0 then
  if condL d.nodes node = true then
   if (searchD d inputs).2 = 0 then
    match idxO (fun v => brokenV d inputs node v.state) 0 (searchD d inputs).1 with
    | .a i => ((trail (searchD d inputs).1 (i + 1) i).reverse, 0)
    | .b _ => ([], 12)
   else ([], 16)
  else ([], 9)
 else ([], listsErrR d inputs)
include hF in
theorem Bi {d : Desg} (ok : OkD d) {inputs : List (List Int)} (hi : ∀ l ∈ inputs, LeafOk (inWs d) l) (hl : inputs.length ≤ 1000) {node : Int} (hn : condL d.nodes node = true) {v : DVisit} (hv : LeafOk (elWs d) v.state) :
  cI F inputs d node v = some (brokenV d inputs node v.state) := by
 unfold cI fF fR
 have e := ir F inputs d v node (by omega) inputs 0 F () rfl (by omega)
 have k := sG (L := cV F inputs d v node) (fun x => da F d v node x) (fun x => decide (at0 (valsD d x v.state) node.toNat = 0)) (fun _ _ => rfl) (fun _ _ _ _ => rfl) inputs 0 (fun x hx => by
  unfold da
  rw [nO hF ok (hi x hx) hv, Option.bind_some, (mG (nN hn) (jR d x v.state)).1]; rfl)
 rw [e, k, brokenV, ← xb _ inputs 0]
 cases idxO _ 0 inputs <;> simp
theorem tL {d : Desg} {inputs : List (List Int)} (e : Int) (ho : OrdV (searchD d inputs).1) (hl : (searchD d inputs).1.length ≤ 1000) : ∀ (k i : Nat) (acc : List DStep) (ver : Nat), i < k → i < (searchD d inputs).1.length → acc.length + i ≤ 10000 →
  ∃ v2, cw F inputs (d, e) k ((i : Int), acc, ver) = some (acc ++ trail (searchD d inputs).1 (i + 1) i, v2)
 | 0, i, acc, ver, h, _, _ => by omega
 | k + 1, i, acc, ver, h, hi, ha => by
  rw [cw, trail]
  simp only [gb, Int.toNat_natCast]
  have hg := aS hi
  have hp := ho i _ hg
  rw [hg, Option.bind_some]
  by_cases h0 : 0 ≤ (searchD d inputs).1[i].prev
  ·rw [if_pos (decide_eq_true h0), if_pos (by omega)]
   simp only [if_pos h0]
   have e1 : (searchD d inputs).1[i].prev = ((searchD d inputs).1[i].prev.toNat : Int) := by omega
   obtain ⟨v2, h2⟩ := tL e ho hl k (searchD d inputs).1[i].prev.toNat (acc ++ [(searchD d inputs).1[i].step]) (ver + 1) (by omega) (by omega) (by simp; omega)
   refine ⟨v2, ?_⟩
   rw [← e1] at h2
   rw [h2, List.append_assoc]
   have := pO ho i ((searchD d inputs).1[i].prev.toNat + 1) (searchD d inputs).1[i].prev.toNat (by omega) (by omega)
   rw [← e1] at this
   rw [this]; rfl
  ·rw [if_neg (by simpa using h0)]
   simp only [if_neg h0, List.append_nil]
   exact ⟨ver, rfl⟩
include hF in
theorem zL {d : Desg} (h : FewD d) (inputs : List (List Int)) (node : Int) (hl : inputs.length ≤ 1000) (hi : ∀ l ∈ inputs, l.length ≤ 1000000) : fO F d inputs node = some (brokenByR d inputs node) := by
 unfold fO brokenByR
 rw [rY hF h inputs (by omega) hi, Option.bind_some]
 have hc : aY F d node = some (condL d.nodes node) := qI d node h.nodes
 rw [hc, Option.bind_some]
 by_cases he : listsErrR d inputs = 0
 case neg =>
  rw [if_neg he]
  cases condL d.nodes node
  ·rw [if_neg (by simp), if_pos (by simpa using he)]
  ·rw [if_pos rfl, if_pos (by simpa using he)]
 obtain ⟨ok, h1, h2, h3⟩ := sH h he
 rw [if_pos he]
 rcases bb (condL d.nodes node) with hn | hn
 case inr => rw [hn, if_neg (by simp), if_neg (by simp [he]), if_neg (by simp)]
 rw [hn, if_pos rfl, if_neg (by simp [he]), if_pos rfl, if_pos ok, if_pos (by omega), if_pos h3]
 by_cases hs : (searchD d inputs).2 = 0
 case neg => rw [if_pos (by simpa using hs), if_neg hs]
 rw [if_neg (by simp [hs]), if_pos hs]
 obtain ⟨hv, ho, _⟩ := Bf ok h3 hs
 have hlen := hv.len
 have e := iu F (searchD d inputs).1 inputs d node (by omega) (searchD d inputs).1 0 F () rfl (by omega)
 have k := sG (L := cW F (searchD d inputs).1 inputs d node) (fun v => cI F inputs d node v) (fun v => brokenV d inputs node v.state) (fun _ _ => rfl) (fun _ _ _ _ => rfl) (searchD d inputs).1 0 (fun v hm => Bi hF ok h3 hl hn (hv.st v hm))
 unfold fS
 rw [e, k, Option.bind_some]
 cases hx : idxO (fun v => brokenV d inputs node v.state) 0 (searchD d inputs).1 with
 | b u => rfl
 | a i =>
  obtain ⟨_, v, hvi, hb⟩ := Be _ _ _ _ hx
  rw [Nat.sub_zero] at hvi
  have hlt := aa hvi
  simp only [Option.bind_some]
  rw [if_neg (by simp), gb, hvi, Option.bind_some]
  have hp := ho i v hvi
  by_cases h0 : 0 ≤ v.prev
  ·have e1 : v.prev = (v.prev.toNat : Int) := by omega
   obtain ⟨v2, h2⟩ := tL (F := F) (listsErrR d inputs) ho (by omega) F v.prev.toNat [v.step] 0 (by omega) (by omega) (by simp; omega)
   rw [← e1] at h2
   have htr : trail (searchD d inputs).1 (i + 1) i = [v.step] ++ trail (searchD d inputs).1 (v.prev.toNat + 1) v.prev := by
    rw [trail, Int.toNat_natCast, hvi]
    simp only [if_pos h0]
    have := pO ho i (v.prev.toNat + 1) v.prev.toNat (by omega) (by omega)
    rw [← e1] at this
    rw [this]; rfl
   rw [if_pos (decide_eq_true h0), h2, Option.bind_some, ← htr]
   have hle := ve (searchD d inputs).1 (i + 1) i
   simp only
   rw [Bh hF _ (by omega), Option.bind_some, if_pos (by simp)]
  ·rw [if_neg (by simpa using h0), trail, Int.toNat_natCast, hvi]
   simp [h0]
end Go.E
namespace Go.E
open Go.Proofs Classical
set_option maxRecDepth 100000
set_option maxHeartbeats 1000000
noncomputable section
def iN (F : Nat) (d : Desg) (rules : List Int) : Nat → Nat → Option (Oc (Int) (Unit))
 | 0, _ => none
 | k + 1, s2 => (if (decide ((s2 : Int) < (rules.length : Int))) = true then ((rules[s2]?).bind fun x5 => ((jD F d x5).bind fun y6 => (if (decide (¬y6 = 0)) = true then some (.a y6) else (if inI ((s2 : Int) + 1) then iN F d rules k (s2 + 1) else none)))) else some (.b ()))
theorem zM (bs : List Nat) (H : Heap) (F : Nat) (d : Desg) (rules : List Int) (inputs : List Int) (state : List Int) : ∀ k s r ρ H', (∃ J3, H' = H ++ .cells [.str d.name, .list (d.inputs.map encPort), .list (d.elements.map encElem), .list (d.nodes.map encNode), .list (d.rules.map encRul), .list (d.outs.map encOutp), .list (d.attrs.map encAttr)] :: J3 ∧ ρ 1 = .list (rules.map (V.int .i64)) ∧ ρ 2 = .list (inputs.map (V.int .i64)) ∧ ρ 3 = .list (state.map (V.int .i64)) ∧ ρ 4 = .ptr H.length 0 ∧ ρ 9 = .int .i64 (s : Int)) → iN F d rules k s = some r → Lp X ⟨39, H.length :: bs⟩ (loopAt Tryz.f22 0) ρ H' ((fun r ex ρ H' => match r with | .a r => ∃ J3, H' = H ++ .cells [.str d.name, .list (d.inputs.map encPort), .list (d.elements.map encElem), .list (d.nodes.map encNode), .list (d.rules.map encRul), .list (d.outs.map encOutp), .list (d.attrs.map encAttr)] :: J3 ∧ ex = .ret ∧ ρ 8 = .int .i64 r | .b r => ∃ J3, H' = H ++ .cells [.str d.name, .list (d.inputs.map encPort), .list (d.elements.map encElem), .list (d.nodes.map encNode), .list (d.rules.map encRul), .list (d.outs.map encOutp), .list (d.attrs.map encAttr)] :: J3 ∧ ex = .exit 0) r) := by
 refine ae (fun _ => rfl) ?_
 rintro k s2 r ρ H' ⟨J3, hH, h1, h2, h3, h4, h9⟩ hR
 skip
 subst hH
 rw [iN] at hR
 conv => arg 3; whnf
 try refine zw ?_
 rcases iteE hR with ⟨c4, hR⟩ | ⟨c4, hR⟩
 ·obtain ⟨x5, x5_e, hR⟩ := bindE hR
  obtain ⟨y6, y6_e, hR⟩ := bindE hR
  have y6_k := fun bs H => qT bs H F d x5 y6 y6_e
  (try simp only [cellsDesg, encDesg, encInts] at y6_k)
  try refine zu ?_
  (refine yw0 (id := 6) oz5 ?_)
  try refine zw ?_
  clear y6_k
  rcases iteE hR with ⟨c7, hR⟩ | ⟨c7, hR⟩
  ·obtain rfl := someE hR
   refine zu ?_
   exact ⟨_, hq, rfl, sl⟩
  ·obtain ⟨g8, hR⟩ := grdE hR
   have g8_w := ac g8
   refine zu ?_
   exact ⟨(s2 + 1), ⟨_, hq, sl, sl, sl, sl, sl⟩, hR.out⟩
 ·obtain rfl := someE hR
  refine zu ?_
  exact ⟨_, hq, rfl⟩
def bB (F : Nat) (d : Desg) (l : List (List Int)) : Nat → Nat → Option (Oc (Int) (Unit))
 | 0, _ => none
 | k + 1, s3 => (if (decide ((s3 : Int) < (l.length : Int))) = true then ((l[s3]?).bind fun x6 => ((dk F d x6).bind fun y7 => (if (decide (¬y7 = 0)) = true then some (.a y7) else (if inI ((s3 : Int) + 1) then bB F d l k (s3 + 1) else none)))) else some (.b ()))
theorem oh (bs : List Nat) (H : Heap) (F : Nat) (d : Desg) (l : List (List Int)) : ∀ k s r ρ H', (∃ J4, H' = H ++ .cells [.str d.name, .list (d.inputs.map encPort), .list (d.elements.map encElem), .list (d.nodes.map encNode), .list (d.rules.map encRul), .list (d.outs.map encOutp), .list (d.attrs.map encAttr)] :: J4 ∧ ρ 1 = .list (l.map encInts) ∧ ρ 2 = .ptr H.length 0 ∧ ρ 5 = .int .i64 (s : Int)) → bB F d l k s = some r → Lp X ⟨28, H.length :: bs⟩ (loopAt Tryz.f78 0) ρ H' ((fun r ex ρ H' => match r with | .a r => ∃ J4, H' = H ++ .cells [.str d.name, .list (d.inputs.map encPort), .list (d.elements.map encElem), .list (d.nodes.map encNode), .list (d.rules.map encRul), .list (d.outs.map encOutp), .list (d.attrs.map encAttr)] :: J4 ∧ ex = .ret ∧ ρ 4 = .int .i64 r | .b r => ∃ J4, H' = H ++ .cells [.str d.name, .list (d.inputs.map encPort), .list (d.elements.map encElem), .list (d.nodes.map encNode), .list (d.rules.map encRul), .list (d.outs.map encOutp), .list (d.attrs.map encAttr)] :: J4 ∧ ex = .exit 0) r) := by
 refine ae (fun _ => rfl) ?_
 rintro k s3 r ρ H' ⟨J4, hH, h1, h2, h5⟩ hR
 skip
 subst hH
 rw [bB] at hR
 conv => arg 3; whnf
 try refine zw ?_
 rcases iteE hR with ⟨c5, hR⟩ | ⟨c5, hR⟩
 ·obtain ⟨x6, x6_e, hR⟩ := bindE hR
  obtain ⟨y7, y7_e, hR⟩ := bindE hR
  have y7_k := fun bs H => pM bs H F d x6 y7 y7_e
  (try simp only [cellsDesg, encDesg, encInts] at y7_k)
  try refine zu ?_
  (refine yw0 (id := 8) oz5 ?_)
  try refine zw ?_
  clear y7_k
  rcases iteE hR with ⟨c8, hR⟩ | ⟨c8, hR⟩
  ·obtain rfl := someE hR
   refine zu ?_
   exact ⟨_, hq, rfl, sl⟩
  ·obtain ⟨g9, hR⟩ := grdE hR
   have g9_w := ac g9
   refine zu ?_
   exact ⟨(s3 + 1), ⟨_, hq, sl, sl, sl⟩, hR.out⟩
 ·obtain rfl := someE hR
  refine zu ?_
  exact ⟨_, hq, rfl⟩
def dU (F : Nat) (d : Desg) (l : List (List Int)) : List (List Int) → Nat → Unit → Option (Oc (Int) (Unit))
 | [], s3, _ => some (.b ())
 | x_ :: r_, s3, _ => ((dk F d x_).bind fun y7 => (if (decide (¬y7 = 0)) = true then some (.a y7) else dU F d l r_ (s3 + 1) ()))
theorem iZ (F : Nat) (d : Desg) (l : List (List Int)) (hl_ : l.length ≤ 1000000) : ∀ r_ i_ k_ (o_ : Unit), l.drop i_ = r_ → r_.length < k_ → bB F d l k_ i_ = dU F d l r_ i_ o_
 | _, _, 0, _, _, hk => absurd hk (Nat.not_lt_zero _)
 | [], i_, k_ + 1, _, hd, _ => by rw [bB, dU]; simp only [ai hd, Bool.false_eq_true, if_false]
 | x_ :: r_, i_, k_ + 1, _, hd, hk => by
  have ih := iZ F d l hl_ r_ (i_ + 1) k_ () (ah hd) (Nat.lt_of_succ_lt_succ hk)
  rw [bB, dU]; simp only [aq hd, ak hd, if_pos (av hd hl_), Option.bind_some, if_true, ih]
def eR (F : Nat) (d : Desg) (l : List (List Int)) : Option (Int) := (if (decide ((l.length : Int) = 0)) = true then some 10 else (if (decide ((16 : Int) < (l.length : Int))) = true then some 8 else ((bB F d l F 0).bind fun o10 => match o10 with | .a o11 => some o11 | .b o13 => some 0)))
theorem kD (bs : List Nat) (H : Heap) (F : Nat) (d : Desg) (l : List (List Int)) (R : Int) (hR0 : eR F d l = some R) : callw X bs 78 [(encDesg d), .list (l.map encInts)] H = some (.int .i64 R, H) := by
 refine yw2 (rs := [.tmp 4]) (N := 28) (fn := Tryz.f78) xk78 Tryz.func78 ?_
 have hR := Kp.mk hR0
 clear hR0
 rw [eR] at hR
 (try simp only [cellsDesg, encDesg, encInts])
 try refine zw ?_
 rcases iteE hR with ⟨c1, hR⟩ | ⟨c1, hR⟩
 ·obtain rfl := someE hR
  exact zv
 ·try refine zw ?_
  rcases iteE hR with ⟨c2, hR⟩ | ⟨c2, hR⟩
  ·obtain rfl := someE hR
   exact zv
  ·obtain ⟨o10, o10_e, hR⟩ := bindE hR
   refine zu ?_
   refine ab (af (c := (loopAt Tryz.f78 0)) rfl (oh _ H F d l _ 0 o10 _ _ ⟨_, hq, sl, sl, sl⟩ o10_e)) ?_
   rcases o10 with o11 | o13
   ·rintro ex ρ' H' ⟨J12, rfl, rfl, q4_o11⟩ hf
    clear hf
    obtain rfl := someE hR
    exact zv
   ·rintro ex ρ' H' ⟨J14, rfl, rfl⟩ hf
    clear hf
    obtain rfl := someE hR
    exact zv
def iv (F : Nat) (d : Desg) (inputs : List (List Int)) (x : DStep) (state : List Int) : Option ((List Int) × Bool) := ((dX F d state).bind fun y1 => ((idxI inputs x.inputs).bind fun x2 => ((gB F d x.rule x2 y1).bind fun y3 => (if y3 = true then ((ff F d x.rule x2 y1).bind fun y6 => ((dX F d y6).bind fun y7 => some (y7, true))) else some ([], false)))))
theorem tM (bs : List Nat) (H : Heap) (F : Nat) (d : Desg) (inputs : List (List Int)) (x : DStep) (state : List Int) (R : (List Int) × Bool) (hR0 : iv F d inputs x state = some R) : callw X bs 146 [(encDesg d), .list (inputs.map encInts), (encDStep x), .list (state.map (V.int .i64))] H = some (.tuple [.list (R.1.map (V.int .i64)), .bool R.2], H) := by
 refine yw2 (rs := [.tmp 8, .tmp 9]) (N := 37) (fn := Tryz.f146) Ds Tryz.func146 ?_
 have hR := Kp.mk hR0
 clear hR0
 rw [iv] at hR
 (try simp only [cellsDStep, cellsDesg, encDStep, encDesg, encInts])
 obtain ⟨y1, y1_e, hR⟩ := bindE hR
 have y1_k := fun bs H => kq bs H F d state y1 y1_e
 (try simp only [cellsDesg, encDesg, encInts] at y1_k)
 obtain ⟨x2, x2_e, hR⟩ := bindE hR
 obtain ⟨x2_p, x2_e⟩ := idxE x2_e
 obtain ⟨y3, y3_e, hR⟩ := bindE hR
 have y3_k := fun bs H => rD bs H F d x.rule x2 y1 y3 y3_e
 (try simp only [cellsDesg, encDesg, encInts] at y3_k)
 try refine zu ?_
 (refine yw0 (id := 2) oz20 ?_)
 try refine zw ?_
 clear y1_k y3_k
 rcases iteE hR with ⟨c4, hR⟩ | ⟨c4, hR⟩
 ·obtain ⟨y6, y6_e, hR⟩ := bindE hR
  have y6_k := fun bs H => qR bs H F d x.rule x2 y1 y6 y6_e
  (try simp only [cellsDesg, encDesg, encInts] at y6_k)
  obtain ⟨y7, y7_e, hR⟩ := bindE hR
  have y7_k := fun bs H => kq bs H F d y6 y7 y7_e
  (try simp only [cellsDesg, encDesg, encInts] at y7_k)
  obtain rfl := someE hR
  try refine zu ?_
  (refine yw1 (id := 4) oz54 [(0, 10)] ?_)
  exact zv
 ·obtain rfl := someE hR
  exact zv
def ig (F : Nat) (d : Desg) (inputs : List (List Int)) (node : Int) (state : List Int) : Nat → Nat → Option (Oc (Bool) (Unit))
 | 0, _ => none
 | k + 1, s1 => (if (decide ((s1 : Int) < (inputs.length : Int))) = true then ((inputs[s1]?).bind fun x4 => (if x4.length + state.length ≤ 1000000 then (if d.nodes.length ≤ 1000 then (if ∀ x ∈ d.nodes, x.args.length ≤ 1000000 then (if ∃ ws, GoodAll ws d.nodes ∧ LeafOk ws (x4 ++ state) then ((idxI (valsL d.nodes (x4 ++ state) d.nodes.length) node).bind fun x11 => (if (decide (x11 = 0)) = true then some (.a true) else (if inI ((s1 : Int) + 1) then ig F d inputs node state k (s1 + 1) else none))) else none) else none) else none) else none)) else some (.b ()))
theorem xX (bs : List Nat) (H : Heap) (F : Nat) (d : Desg) (inputs : List (List Int)) (node : Int) (state : List Int) : ∀ k s r ρ H', (∃ J2, H' = H ++ .cells [.str d.name, .list (d.inputs.map encPort), .list (d.elements.map encElem), .list (d.nodes.map encNode), .list (d.rules.map encRul), .list (d.outs.map encOutp), .list (d.attrs.map encAttr)] :: J2 ∧ ρ 1 = .list (inputs.map encInts) ∧ ρ 2 = .int .i64 node ∧ ρ 3 = .list (state.map (V.int .i64)) ∧ ρ 4 = .ptr H.length 0 ∧ ρ 9 = .int .i64 (s : Int)) → ig F d inputs node state k s = some r → Lp X ⟨29, H.length :: bs⟩ (loopAt Tryz.f55 0) ρ H' ((fun r ex ρ H' => match r with | .a r => ∃ J2, H' = H ++ .cells [.str d.name, .list (d.inputs.map encPort), .list (d.elements.map encElem), .list (d.nodes.map encNode), .list (d.rules.map encRul), .list (d.outs.map encOutp), .list (d.attrs.map encAttr)] :: J2 ∧ ex = .ret ∧ ρ 8 = .bool r | .b r => ∃ J2, H' = H ++ .cells [.str d.name, .list (d.inputs.map encPort), .list (d.elements.map encElem), .list (d.nodes.map encNode), .list (d.rules.map encRul), .list (d.outs.map encOutp), .list (d.attrs.map encAttr)] :: J2 ∧ ex = .exit 0) r) := by
 refine ae (fun _ => rfl) ?_
 rintro k s1 r ρ H' ⟨J2, hH, h1, h2, h3, h4, h9⟩ hR
 skip
 subst hH
 rw [ig] at hR
 conv => arg 3; whnf
 try refine zw ?_
 rcases iteE hR with ⟨c3, hR⟩ | ⟨c3, hR⟩
 ·obtain ⟨x4, x4_e, hR⟩ := bindE hR
  obtain ⟨g5, hR⟩ := grdE hR
  have k6_k := fun bs H => tW bs H x4 state g5
  obtain ⟨g7, hR⟩ := grdE hR
  obtain ⟨g8, hR⟩ := grdE hR
  obtain ⟨g9, hR⟩ := grdE hR
  have k10_k := fun bs H => lF bs H _ (x4 ++ state) d.nodes g7 g8 (Classical.choose_spec g9).1 (Classical.choose_spec g9).2
  obtain ⟨x11, x11_e, hR⟩ := bindE hR
  obtain ⟨x11_p, x11_e⟩ := idxE x11_e
  try refine zu ?_
  (refine yw1 (id := 4) [0, 1, 2, 3, 4, 5, 6, 9, 7, 8, 10, 11, 12] [(1, 8)] ?_)
  try refine zw ?_
  clear k6_k k10_k
  rcases iteE hR with ⟨c12, hR⟩ | ⟨c12, hR⟩
  ·obtain rfl := someE hR
   refine zu ?_
   exact ⟨_, hq, rfl, sl⟩
  ·obtain ⟨g13, hR⟩ := grdE hR
   have g13_w := ac g13
   refine zu ?_
   exact ⟨(s1 + 1), ⟨_, hq, sl, sl, sl, sl, sl⟩, hR.out⟩
 ·obtain rfl := someE hR
  refine zu ?_
  exact ⟨_, hq, rfl⟩
def cn (F : Nat) (l : List (List Int)) : Nat → Nat → Option (Oc (Bool) (Unit))
 | 0, _ => none
 | k + 1, s2 => (if (decide ((s2 : Int) < (l.length : Int))) = true then ((l[s2]?).bind fun x5 => (if (decide ((45 : Int) < (x5.length : Int))) = true then some (.a false) else (if inI ((s2 : Int) + 1) then cn F l k (s2 + 1) else none))) else some (.b ()))
theorem oi (bs : List Nat) (H : Heap) (F : Nat) (l : List (List Int)) : ∀ k s r ρ H', (∃ J3, H' = H ++ J3 ∧ ρ 0 = .list (l.map encInts) ∧ ρ 5 = .int .i64 (s : Int)) → cn F l k s = some r → Lp X ⟨22, H.length :: bs⟩ (loopAt Tryz.f28 0) ρ H' ((fun r ex ρ H' => match r with | .a r => ∃ J3, H' = H ++ J3 ∧ ex = .ret ∧ ρ 4 = .bool r | .b r => ∃ J3, H' = H ++ J3 ∧ ex = .exit 0) r) := by
 refine ae (fun _ => rfl) ?_
 rintro k s2 r ρ H' ⟨J3, hH, h0, h5⟩ hR
 skip
 subst hH
 rw [cn] at hR
 conv => arg 3; whnf
 try refine zw ?_
 rcases iteE hR with ⟨c4, hR⟩ | ⟨c4, hR⟩
 ·obtain ⟨x5, x5_e, hR⟩ := bindE hR
  try refine zw ?_
  rcases iteE hR with ⟨c6, hR⟩ | ⟨c6, hR⟩
  ·obtain rfl := someE hR
   refine zu ?_
   exact ⟨_, hq, rfl, sl⟩
  ·obtain ⟨g7, hR⟩ := grdE hR
   have g7_w := ac g7
   refine zu ?_
   exact ⟨(s2 + 1), ⟨_, hq, sl, sl⟩, hR.out⟩
 ·obtain rfl := someE hR
  refine zu ?_
  exact ⟨_, hq, rfl⟩
def bD (F : Nat) (l : List (List Int)) : List (List Int) → Nat → Unit → Option (Oc (Bool) (Unit))
 | [], s2, _ => some (.b ())
 | x_ :: r_, s2, _ => (if (decide ((45 : Int) < (x_.length : Int))) = true then some (.a false) else bD F l r_ (s2 + 1) ())
theorem ja (F : Nat) (l : List (List Int)) (hl_ : l.length ≤ 1000000) : ∀ r_ i_ k_ (o_ : Unit), l.drop i_ = r_ → r_.length < k_ → cn F l k_ i_ = bD F l r_ i_ o_
 | _, _, 0, _, _, hk => absurd hk (Nat.not_lt_zero _)
 | [], i_, k_ + 1, _, hd, _ => by rw [cn, bD]; simp only [ai hd, Bool.false_eq_true, if_false]
 | x_ :: r_, i_, k_ + 1, _, hd, hk => by
  have ih := ja F l hl_ r_ (i_ + 1) k_ () (ah hd) (Nat.lt_of_succ_lt_succ hk)
  rw [cn, bD]; simp only [aq hd, ak hd, if_pos (av hd hl_), Option.bind_some, if_true, ih]
def eS (F : Nat) (l : List (List Int)) (most : Int) : Option (Bool) := (if (decide (most < (l.length : Int))) = true then some false else ((cn F l F 0).bind fun o8 => match o8 with | .a o9 => some o9 | .b o11 => some true))
theorem kE (bs : List Nat) (H : Heap) (F : Nat) (l : List (List Int)) (most : Int) (R : Bool) (hR0 : eS F l most = some R) : callw X bs 28 [.list (l.map encInts), .int .i64 most] H = some (.bool R, H) := by
 refine yw2 (rs := [.tmp 4]) (N := 22) (fn := Tryz.f28) xk28 Tryz.func28 ?_
 have hR := Kp.mk hR0
 clear hR0
 rw [eS] at hR
 try refine zw ?_
 rcases iteE hR with ⟨c1, hR⟩ | ⟨c1, hR⟩
 ·obtain rfl := someE hR
  exact zv
 ·obtain ⟨o8, o8_e, hR⟩ := bindE hR
  refine zu ?_
  refine ab (af (c := (loopAt Tryz.f28 0)) rfl (oi _ H F l _ 0 o8 _ _ ⟨[], by simp, sl, sl⟩ o8_e)) ?_
  rcases o8 with o9 | o11
  ·rintro ex ρ' H' ⟨J10, rfl, rfl, q4_o9⟩ hf
   clear hf
   obtain rfl := someE hR
   exact zv
  ·rintro ex ρ' H' ⟨J12, rfl, rfl⟩ hf
   clear hf
   obtain rfl := someE hR
   exact zv
def fP (F : Nat) (d : Desg) (inputs : List (List Int)) : Option (Int) := ((gP F d).bind fun y1 => (if (decide (y1 = 0)) = true then ((eR F d inputs).bind fun y3 => some y3) else some y1))
theorem qm (bs : List Nat) (H : Heap) (F : Nat) (d : Desg) (inputs : List (List Int)) (R : Int) (hR0 : fP F d inputs = some R) : callw X bs 32 [(encDesg d), .list (inputs.map encInts)] H = some (.int .i64 R, H) := by
 refine yw2 (rs := [.tmp 4]) (N := 14) (fn := Tryz.f32) xk32 Tryz.func32 ?_
 have hR := Kp.mk hR0
 clear hR0
 rw [fP] at hR
 (try simp only [cellsDesg, encDesg, encInts])
 obtain ⟨y1, y1_e, hR⟩ := bindE hR
 have y1_k := fun bs H => oN bs H F d y1 y1_e
 (try simp only [cellsDesg, encDesg, encInts] at y1_k)
 try refine zw ?_
 clear y1_k
 rcases iteE hR with ⟨c2, hR⟩ | ⟨c2, hR⟩
 ·obtain ⟨y3, y3_e, hR⟩ := bindE hR
  have y3_k := fun bs H => kD bs H F d inputs y3 y3_e
  (try simp only [cellsDesg, encDesg, encInts] at y3_k)
  obtain rfl := someE hR
  exact zv
 ·obtain rfl := someE hR
  exact zv
def bK (F : Nat) (d : Desg) : Nat → (Int × Nat) → Option (Int)
 | 0, _ => none
 | k + 1, (s10, s11) => (if (decide ((s11 : Int) < (d.elements.length : Int))) = true then ((d.elements[s11]?).bind fun x14 => (if (decide (x14.kind = 0)) = true then (if inI (s10 + x14.width) then (if inI ((s11 : Int) + 1) then bK F d k ((s10 + x14.width), (s11 + 1)) else none) else none) else (if inI ((s11 : Int) + 1) then bK F d k (s10, (s11 + 1)) else none))) else some s10)
theorem qn (bs : List Nat) (H : Heap) (F : Nat) (d : Desg) (inputs : List (List Int)) : ∀ k s r ρ H', (∃ J12, H' = H ++ .cells [.str d.name, .list (d.inputs.map encPort), .list (d.elements.map encElem), .list (d.nodes.map encNode), .list (d.rules.map encRul), .list (d.outs.map encOutp), .list (d.attrs.map encAttr)] :: J12 ∧ ρ 1 = .list (inputs.map encInts) ∧ ρ 2 = .ptr H.length 0 ∧ ρ 5 = .int .i64 s.1 ∧ ρ 6 = .int .i64 (s.2 : Int)) → bK F d k s = some r → Lp X ⟨42, H.length :: bs⟩ (loopAt Tryz.f54 0) ρ H' ((fun r ex ρ H' => ∃ J12, H' = H ++ .cells [.str d.name, .list (d.inputs.map encPort), .list (d.elements.map encElem), .list (d.nodes.map encNode), .list (d.rules.map encRul), .list (d.outs.map encOutp), .list (d.attrs.map encAttr)] :: J12 ∧ ex = .exit 0 ∧ ρ 5 = .int .i64 r) r) := by
 refine ae (fun _ => rfl) ?_
 rintro k ⟨s10, s11⟩ r ρ H' ⟨J12, hH, h1, h2, h5, h6⟩ hR
 simp only at hH h1 h2 h5 h6
 subst hH
 rw [bK] at hR
 conv => arg 3; whnf
 try refine zw ?_
 rcases iteE hR with ⟨c13, hR⟩ | ⟨c13, hR⟩
 ·obtain ⟨x14, x14_e, hR⟩ := bindE hR
  try refine zw ?_
  rcases iteE hR with ⟨c15, hR⟩ | ⟨c15, hR⟩
  ·obtain ⟨g17, hR⟩ := grdE hR
   have g17_w := ac g17
   obtain ⟨g18, hR⟩ := grdE hR
   have g18_w := ac g18
   refine zu ?_
   exact ⟨((s10 + x14.width), (s11 + 1)), ⟨_, hq, sl, sl, sl, sl⟩, hR.out⟩
  ·obtain ⟨g19, hR⟩ := grdE hR
   have g19_w := ac g19
   refine zu ?_
   exact ⟨(s10, (s11 + 1)), ⟨_, hq, sl, sl, sl, sl⟩, hR.out⟩
 ·obtain rfl := someE hR
  refine zu ?_
  exact ⟨_, hq, rfl, sl⟩
def cK (F : Nat) (d : Desg) : List Elem → Nat → Int → Option (Int)
 | [], s11, s10 => some s10
 | x_ :: r_, s11, s10 => (if (decide (x_.kind = 0)) = true then (if inI (s10 + x_.width) then cK F d r_ (s11 + 1) (s10 + x_.width) else none) else cK F d r_ (s11 + 1) s10)
theorem ku (F : Nat) (d : Desg) (hl_ : d.elements.length ≤ 1000000) : ∀ r_ i_ k_ (o_ : Int), d.elements.drop i_ = r_ → r_.length < k_ → bK F d k_ (o_, i_) = cK F d r_ i_ o_
 | _, _, 0, _, _, hk => absurd hk (Nat.not_lt_zero _)
 | [], i_, k_ + 1, s10, hd, _ => by rw [bK, cK]; simp only [ai hd, Bool.false_eq_true, if_false]
 | x_ :: r_, i_, k_ + 1, s10, hd, hk => by
  have ih := fun o_ => ku F d hl_ r_ (i_ + 1) k_ o_ (ah hd) (Nat.lt_of_succ_lt_succ hk)
  rw [bK, cK]; simp only [aq hd, ak hd, if_pos (av hd hl_), Option.bind_some, if_true, ih]
def gQ (F : Nat) (d : Desg) (inputs : List (List Int)) : Option (Bool) := ((bK F d F (0, 0)).bind fun o21 => (if (decide (o21 ≤ 7)) = true then (if (decide ((inputs.length : Int) ≤ 4)) = true then some (decide ((d.nodes.length : Int) ≤ 40)) else some false) else some false))
theorem sI (bs : List Nat) (H : Heap) (F : Nat) (d : Desg) (inputs : List (List Int)) (R : Bool) (hR0 : gQ F d inputs = some R) : callw X bs 54 [(encDesg d), .list (inputs.map encInts)] H = some (.bool R, H) := by
 refine yw2 (rs := [.tmp 4]) (N := 42) (fn := Tryz.f54) xk54 Tryz.func54 ?_
 have hR := Kp.mk hR0
 clear hR0
 rw [gQ] at hR
 (try simp only [cellsDesg, encDesg, encInts])
 obtain ⟨o21, o21_e, hR⟩ := bindE hR
 refine zu ?_
 refine ab (af (c := (loopAt Tryz.f54 0)) rfl (qn _ H F d inputs _ (0, 0) o21 _ _ ⟨_, hq, sl, sl, sl, sl⟩ o21_e)) ?_
 rintro ex ρ' H' ⟨J22, rfl, rfl, q5_o21⟩ hf
 have q1_o21 : ρ' 1 = .list (inputs.map encInts) := (hf 1 rfl).trans (sl)
 have q2_o21 : ρ' 2 = .ptr H.length 0 := (hf 2 rfl).trans (sl)
 clear hf
 try refine zw ?_
 rcases iteE hR with ⟨c23, hR⟩ | ⟨c23, hR⟩
 ·try refine zw ?_
  rcases iteE hR with ⟨c24, hR⟩ | ⟨c24, hR⟩
  ·obtain rfl := someE hR
   exact zv
  ·obtain rfl := someE hR
   exact zv
 ·obtain rfl := someE hR
  exact zv
def gR (F : Nat) (d : Desg) (inputs : List (List Int)) : Option (Bool) := ((gP F d).bind fun y1 => (if (decide (y1 = 0)) = true then ((eR F d inputs).bind fun y3 => (if (decide (y3 = 0)) = true then ((gQ F d inputs).bind fun y5 => some (!y5)) else some false)) else some false))
theorem sJ (bs : List Nat) (H : Heap) (F : Nat) (d : Desg) (inputs : List (List Int)) (R : Bool) (hR0 : gR F d inputs = some R) : callw X bs 29 [(encDesg d), .list (inputs.map encInts)] H = some (.bool R, H) := by
 refine yw2 (rs := [.tmp 4]) (N := 20) (fn := Tryz.f29) xk29 Tryz.func29 ?_
 have hR := Kp.mk hR0
 clear hR0
 rw [gR] at hR
 (try simp only [cellsDesg, encDesg, encInts])
 obtain ⟨y1, y1_e, hR⟩ := bindE hR
 have y1_k := fun bs H => oN bs H F d y1 y1_e
 (try simp only [cellsDesg, encDesg, encInts] at y1_k)
 try refine zw ?_
 clear y1_k
 rcases iteE hR with ⟨c2, hR⟩ | ⟨c2, hR⟩
 ·obtain ⟨y3, y3_e, hR⟩ := bindE hR
  have y3_k := fun bs H => kD bs H F d inputs y3 y3_e
  (try simp only [cellsDesg, encDesg, encInts] at y3_k)
  try refine zw ?_
  clear y3_k
  rcases iteE hR with ⟨c4, hR⟩ | ⟨c4, hR⟩
  ·obtain ⟨y5, y5_e, hR⟩ := bindE hR
   have y5_k := fun bs H => sI bs H F d inputs y5 y5_e
   (try simp only [cellsDesg, encDesg, encInts] at y5_k)
   obtain rfl := someE hR
   exact zv
  ·obtain rfl := someE hR
   exact zv
 ·obtain rfl := someE hR
  exact zv
end
end Go.E
namespace Go.E
open Go.Proofs Classical
set_option maxRecDepth 100000
set_option maxHeartbeats 400000
noncomputable section
def bT (F : Nat) (a : List DStep) (b : List DStep) : Nat → Nat → Option (Oc (Bool) (Unit))
 | 0, _ => none
 | k + 1, s2 => (if (decide ((s2 : Int) < (a.length : Int))) = true then ((a[s2]?).bind fun x5 => ((b[s2]?).bind fun x6 => (if (decide (x5 = x6)) = true then (if inI ((s2 : Int) + 1) then bT F a b k (s2 + 1) else none) else some (.a false)))) else some (.b ()))
theorem nu (bs : List Nat) (H : Heap) (F : Nat) (a : List DStep) (b : List DStep) : ∀ k s r ρ H', (∃ J3, H' = H ++ J3 ∧ ρ 0 = .list (a.map encDStep) ∧ ρ 1 = .list (b.map encDStep) ∧ ρ 5 = .int .i64 (s : Int)) → bT F a b k s = some r → Lp X ⟨26, H.length :: bs⟩ (loopAt Tryz.f35 0) ρ H' ((fun r ex ρ H' => match r with | .a r => ∃ J3, H' = H ++ J3 ∧ ex = .ret ∧ ρ 4 = .bool r | .b r => ∃ J3, H' = H ++ J3 ∧ ex = .exit 0) r) := by
 refine ae (fun _ => rfl) ?_
 rintro k s2 r ρ H' ⟨J3, hH, h0, h1, h5⟩ hR
 skip
 subst hH
 rw [bT] at hR
 conv => arg 3; whnf
 try refine zw ?_
 rcases iteE hR with ⟨c4, hR⟩ | ⟨c4, hR⟩
 ·obtain ⟨x5, x5_e, hR⟩ := bindE hR
  obtain ⟨x6, x6_e, hR⟩ := bindE hR
  have q7 := B3 x5 x6
  simp only [cellsDStep, encDStep, encInts] at q7
  try refine zu ?_
  (refine yw0 (id := 6) oz1 ?_)
  try refine zw ?_
  rcases iteE hR with ⟨c8, hR⟩ | ⟨c8, hR⟩
  ·obtain ⟨g9, hR⟩ := grdE hR
   have g9_w := ac g9
   refine zu ?_
   exact ⟨(s2 + 1), ⟨_, hq, sl, sl, sl⟩, hR.out⟩
  ·obtain rfl := someE hR
   refine zu ?_
   exact ⟨_, hq, rfl, sl⟩
 ·obtain rfl := someE hR
  refine zu ?_
  exact ⟨_, hq, rfl⟩
def dA (F : Nat) (a : List DStep) (b : List DStep) : List DStep → Nat → Unit → Option (Oc (Bool) (Unit))
 | [], s2, _ => some (.b ())
 | x_ :: r_, s2, _ => ((b[s2]?).bind fun x6 => (if (decide (x_ = x6)) = true then dA F a b r_ (s2 + 1) () else some (.a false)))
theorem iO (F : Nat) (a : List DStep) (b : List DStep) (hl_ : a.length ≤ 1000000) : ∀ r_ i_ k_ (o_ : Unit), a.drop i_ = r_ → r_.length < k_ → bT F a b k_ i_ = dA F a b r_ i_ o_
 | _, _, 0, _, _, hk => absurd hk (Nat.not_lt_zero _)
 | [], i_, k_ + 1, _, hd, _ => by rw [bT, dA]; simp only [ai hd, Bool.false_eq_true, if_false]
 | x_ :: r_, i_, k_ + 1, _, hd, hk => by
  have ih := iO F a b hl_ r_ (i_ + 1) k_ () (ah hd) (Nat.lt_of_succ_lt_succ hk)
  rw [bT, dA]; simp only [aq hd, ak hd, if_pos (av hd hl_), Option.bind_some, if_true, ih]
def fz (F : Nat) (a : List DStep) (b : List DStep) : Option (Bool) := (if (decide (¬(a.length : Int) = (b.length : Int))) = true then some false else ((bT F a b F 0).bind fun o10 => match o10 with | .a o11 => some o11 | .b o13 => some true))
theorem pP (bs : List Nat) (H : Heap) (F : Nat) (a : List DStep) (b : List DStep) (R : Bool) (hR0 : fz F a b = some R) : callw X bs 35 [.list (a.map encDStep), .list (b.map encDStep)] H = some (.bool R, H) := by
 refine yw2 (rs := [.tmp 4]) (N := 26) (fn := Tryz.f35) xk35 Tryz.func35 ?_
 have hR := Kp.mk hR0
 clear hR0
 rw [fz] at hR
 try refine zw ?_
 rcases iteE hR with ⟨c1, hR⟩ | ⟨c1, hR⟩
 ·obtain rfl := someE hR
  exact zv
 ·obtain ⟨o10, o10_e, hR⟩ := bindE hR
  refine zu ?_
  refine ab (af (c := (loopAt Tryz.f35 0)) rfl (nu _ H F a b _ 0 o10 _ _ ⟨[], by simp, sl, sl, sl⟩ o10_e)) ?_
  rcases o10 with o11 | o13
  ·rintro ex ρ' H' ⟨J12, rfl, rfl, q4_o11⟩ hf
   clear hf
   obtain rfl := someE hR
   exact zv
  ·rintro ex ρ' H' ⟨J14, rfl, rfl⟩ hf
   clear hf
   obtain rfl := someE hR
   exact zv
def exD : Desg := ⟨⟨#[115, 119, 97, 112]⟩, [⟨⟨#[103, 111]⟩, 1⟩], [⟨⟨#[120]⟩, 0, 4, 3, 0⟩, ⟨⟨#[121]⟩, 0, 4, 9, 0⟩, ⟨⟨#[119]⟩, 1, 1, 0, 0⟩],
 [⟨1, 1, [], 0⟩, ⟨1, 4, [], 1⟩, ⟨1, 4, [], 2⟩, ⟨10, 1, [1, 2], 0⟩, ⟨3, 1, [0, 3], 0⟩, ⟨0, 4, [], 1⟩, ⟨6, 4, [1, 5], 0⟩, ⟨0, 1, [], 1⟩, ⟨1, 1, [], 3⟩],
 [⟨⟨#[101, 120, 99, 104, 97, 110, 103, 101]⟩, 4, [⟨0, 7, 2⟩, ⟨1, 7, 1⟩]⟩, ⟨⟨#[99, 111, 117, 110, 116]⟩, 7, [⟨0, 7, 6⟩, ⟨2, 7, 7⟩]⟩], [⟨⟨#[98, 105, 103]⟩, 3⟩], []⟩
def exV : V := .agg [.str exD.name, .list (exD.inputs.map encPort), .list (exD.elements.map encElem), .list (exD.nodes.map encNode), .list (exD.rules.map encRul), .list (exD.outs.map encOutp), .nilS]
theorem Bj (bs : List Nat) (H : Heap)  : callw X bs 57 [] H = some (exV, H) := by
 refine yw2 (rs := [.cell 0 29]) (N := 32) (fn := Tryz.f57) xk57 Tryz.func57 ?_
 all_goals try (refine zs ?_; repeat' first | apply zs0 | apply zs2 | (intro hc; try have hq := dq hc))
 apply rf
 ·simp
 ·(simp only [seval, push_cast, *] <;> rfl)
 ·rw [bL rfl]; rfl
 ·simp only [seval, push_cast]
theorem cn2 {f : Nat} {args args' : List V} {H : Heap} {bs : List Nat} {r : Option (V × Heap)} (h : callw X2 bs f args' H = r) (hk : X2.keep f = false) (hn : args.map V.norm = args'.map V.norm) : callw X2 bs f args H = r := (jZ hk hn).trans h
theorem GC (bs : List Nat) (H : Heap) (F : Nat) (h1 : fM F exD 0 [1] [3, 9, 0] = some ([9, 3, 0], 0)) (h2 : gN F exD [1, 1] [0] [3, 9, 1] = some ([[3, 9, 0], [4, 9, 1], [5, 9, 1]], 2, 0)) (h3 : fO F exD [[0], [1]] 3 = some ([⟨1, 0⟩], 0)) (h4 : cq F [9, 3, 0] [9, 3, 0] = some true) (h5 : iq F [[3, 9, 0], [4, 9, 1], [5, 9, 1]] [[3, 9, 0], [4, 9, 1], [5, 9, 1]] = some true) (h6 : fz F [⟨1, 0⟩] [⟨1, 0⟩] = some true) : callw X2 bs 11 [] H = some (.bool true, H) := by
 refine yw2 (rs := [.tmp 0]) (N := 65) (fn := Tryz.f11) rfl Tryz.func11 ?_
 have y0 := fun bs H => bF (Bj bs H)
 have y1 : ∀ bs H, callw X2 bs 13 [exV, .int .i64 0, .list [.int .i64 1], .list [.int .i64 3, .int .i64 9, .int .i64 0]] H = some (.tuple [.list [.int .i64 9, .int .i64 3, .int .i64 0], .int .i64 0], H) := fun bs H => cn2 (bF (qe bs H F exD 0 [1] [3, 9, 0] _ h1)) rfl rfl
 have y2 : ∀ bs H, callw X2 bs 16 [exV, .list [.int .i64 1, .int .i64 1], .list [.int .i64 0], .list [.int .i64 3, .int .i64 9, .int .i64 1]] H = some (.tuple [.list [.list [.int .i64 3, .int .i64 9, .int .i64 0], .list [.int .i64 4, .int .i64 9, .int .i64 1], .list [.int .i64 5, .int .i64 9, .int .i64 1]], .int .i64 2, .int .i64 0], H) := fun bs H => cn2 (bF (sD bs H F exD [1, 1] [0] [3, 9, 1] _ h2)) rfl rfl
 have y3 : ∀ bs H t, callw X2 bs 30 [exV, .tl t [.list [.int .i64 0], .list [.int .i64 1]], .int .i64 3] H = some (.tuple [.list [.agg [.int .i64 1, .int .i64 0]], .int .i64 0], H) := fun bs H t => cn2 (ql bs H F exD [[0], [1]] 3 _ h3) rfl rfl
 have y4 : ∀ bs H, callw X2 bs 26 [.list [.int .i64 9, .int .i64 3, .int .i64 0], .list [.int .i64 9, .int .i64 3, .int .i64 0]] H = some (.bool true, H) := fun bs H => bF (iT bs H F [9, 3, 0] [9, 3, 0] _ h4)
 have y5 : ∀ bs H t, callw X2 bs 24 [.list [.list [.int .i64 3, .int .i64 9, .int .i64 0], .list [.int .i64 4, .int .i64 9, .int .i64 1], .list [.int .i64 5, .int .i64 9, .int .i64 1]], .tl t [.list [.int .i64 3, .int .i64 9, .int .i64 0], .list [.int .i64 4, .int .i64 9, .int .i64 1], .list [.int .i64 5, .int .i64 9, .int .i64 1]]] H = some (.bool true, H) := fun bs H t => cn2 (bF (tI bs H F [[3, 9, 0], [4, 9, 1], [5, 9, 1]] [[3, 9, 0], [4, 9, 1], [5, 9, 1]] _ h5)) rfl rfl
 have y6 : ∀ bs H t, callw X2 bs 35 [.list [.agg [.int .i64 1, .int .i64 0]], .tl t [.agg [.int .i64 1, .int .i64 0]]] H = some (.bool true, H) := fun bs H t => cn2 (bF (pP bs H F [⟨1, 0⟩] [⟨1, 0⟩] _ h6)) rfl rfl
 clear h1 h2 h3 h4 h5 h6
 all_goals try (refine zs ?_; repeat' first | apply zs0 | apply zs2 | (intro hc; try have hq := dq hc))
end
end Go.E
