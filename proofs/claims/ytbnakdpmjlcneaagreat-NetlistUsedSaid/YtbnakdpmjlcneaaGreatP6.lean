/- Contracts of the package graph, in E: what operations compute. Own work. -/
import Derived.Test.YtbnakdpmjlcneaaGreatP5
import Derived.Test.YtbnakdpmjlcneaaGreatP4
set_option linter.all false
namespace Go.E
open Go.Proofs
set_option maxRecDepth 100000
set_option maxHeartbeats 4000000

theorem bin_shr {P : Program} {t : TypeId} {k k' : IntKind} {a b : Int} (h : 0 ≤ b) : binOpV P .shr t (.int k a) (.int k' b) = some (.int k (a.fdiv (2 ^ (min b.toNat k.bits)))) := by
  simp [binOpV, shiftOp, Int.not_lt.2 h]
attribute [push_cast] bin_shr
theorem un_xor {n : Int} : unOpV .xor (.int .i64 n) = some (.int .i64 (bitsI .xor .i64 (-1) n)) := rfl
attribute [push_cast] un_xor
theorem shl_wrap {w : Int} (h : w ≤ 32) : IntKind.i64.wrap (1 * 2 ^ (min w.toNat IntKind.i64.bits)) = 2 ^ w.toNat := shl1_pow h
theorem min_bits {n : Nat} (h : n ≤ 64) : min n IntKind.i64.bits = n := Nat.min_eq_left h

theorem gr_mask (bs : List Nat) (H : Heap) (n width : Int) (h0 : 0 ≤ width) (h : width ≤ 16) : callw X bs 171 [.int .i64 n, .int .i64 width] H = some (.int .i64 (n % 2 ^ width.toNat), H) := by
  refine call_at (rs := [.tmp 4]) (N := 10) (fn := Tryz.f171) xk171 xf171 rfl rfl rfl (by simp only [seval, push_cast, List.map_cons, List.map_nil, V.norm, norm1]; rfl) ?_
  have hs := shl_wrap (w := width) (by omega)
  have h1 := pow_le (k := width.toNat) (by omega)
  have h2 := pow_pos' width.toNat
  have hw : IntKind.i64.wrap ((2 : Int) ^ width.toNat - 1) = 2 ^ width.toNat - 1 := by rw [wrap64] <;> omega
  have hm := bits_mask n width.toNat (by omega)
  clear h1 h2
  all_goals try (refine zs ?_; repeat' first | apply zs0 | apply zs2 | (intro hc; try have hq := dq hc))

theorem gr_truth (bs : List Nat) (H : Heap) (b : Bool) : callw X bs 234 [.bool b] H = some (.int .i64 (if b = true then 1 else 0), H) := by
  refine call_at (rs := [.tmp 2]) (N := 4) (fn := Tryz.f234) xk234 xf234 rfl rfl rfl (by simp only [seval, push_cast, List.map_cons, List.map_nil, V.norm, norm1]; rfl) ?_
  cases b
  · all_goals try (refine zs ?_; repeat' first | apply zs0 | apply zs2 | (intro hc; try have hq := dq hc))
  · all_goals try (refine zs ?_; repeat' first | apply zs0 | apply zs2 | (intro hc; try have hq := dq hc))
attribute [push_cast] gr_truth

theorem bits_11 : bitsI .and .i64 1 1 = 1 := by
  have := bits_and 1 1 (by decide) (by decide)
  simpa using this
theorem bits_01 : bitsI .and .i64 0 1 = 0 := by
  have := bits_and 0 1 (by decide) (by decide)
  simpa using this
theorem gr_signed (bs : List Nat) (H : Heap) (n w : Int) (hn : InW n w) (h1 : 1 ≤ w) (h16 : w ≤ 16) : callw X bs 183 [.int .i64 n, .int .i64 w] H = some (.int .i64 (sgn n w), H) := by
  refine call_at (rs := [.tmp 4]) (N := 16) (fn := Tryz.f183) xk183 xf183 rfl rfl rfl (by simp only [seval, push_cast, List.map_cons, List.map_nil, V.norm, norm1]; rfl) ?_
  obtain ⟨n0, n1⟩ := hn
  have e0 : IntKind.i64.wrap (w - 1) = w - 1 := by rw [wrap64] <;> omega
  have e1 : (0 : Int) ≤ w - 1 := by omega
  have e7 : (0 : Int) ≤ w := by omega
  have e2 : min (w - 1).toNat IntKind.i64.bits = w.toNat - 1 := by rw [min_bits (by omega)]; omega
  have hp := pow_pos' (w.toNat - 1)
  have hps := pow_two_succ h1
  have hs := shl_wrap (w := w) (by omega)
  have hle := pow_le (k := w.toNat) (by omega)
  unfold sgn
  by_cases hc : 2 ^ (w.toNat - 1) ≤ n
  · have e3 : n.fdiv (2 ^ (w.toNat - 1)) = 1 := by
      rw [Int.fdiv_eq_ediv_of_nonneg _ (by omega)]
      have a1 : 1 ≤ n / 2 ^ (w.toNat - 1) := (Int.le_ediv_iff_mul_le hp).2 (by omega)
      have a2 : n / 2 ^ (w.toNat - 1) < 2 := (Int.ediv_lt_iff_lt_mul hp).2 (by omega)
      omega
    have e4 : bitsI .and .i64 1 1 = 1 := bits_11
    have e5 : IntKind.i64.wrap (n - 2 ^ w.toNat) = n - 2 ^ w.toNat := by rw [wrap64] <;> omega
    rw [if_pos hc]
    clear hc hp hps hle n0 n1
    all_goals try (refine zs ?_; repeat' first | apply zs0 | apply zs2 | (intro hc; try have hq := dq hc))
  · have e3 : n.fdiv (2 ^ (w.toNat - 1)) = 0 := by
      rw [Int.fdiv_eq_ediv_of_nonneg _ (by omega)]
      exact Int.ediv_eq_zero_of_lt n0 (by omega)
    have e4 : bitsI .and .i64 0 1 = 0 := bits_01
    rw [if_neg hc]
    clear hc hp hps hle n0 n1 hs
    all_goals try (refine zs ?_; repeat' first | apply zs0 | apply zs2 | (intro hc; try have hq := dq hc))

theorem gr_and (bs : List Nat) (H : Heap) (x y : Int) : callw X bs 173 [.int .i64 x, .int .i64 y] H = some (.int .i64 (bitsI .and .i64 x y), H) := by
  refine call_at (rs := [.tmp 4]) (N := 8) (fn := Tryz.f173) xk173 xf173 rfl rfl rfl (by simp only [seval, push_cast, List.map_cons, List.map_nil, V.norm, norm1]; rfl) ?_
  all_goals try (refine zs ?_; repeat' first | apply zs0 | apply zs2 | (intro hc; try have hq := dq hc))
attribute [push_cast] gr_and

theorem gr_or (bs : List Nat) (H : Heap) (x y : Int) : callw X bs 174 [.int .i64 x, .int .i64 y] H = some (.int .i64 (bitsI .or .i64 x y), H) := by
  refine call_at (rs := [.tmp 4]) (N := 8) (fn := Tryz.f174) xk174 xf174 rfl rfl rfl (by simp only [seval, push_cast, List.map_cons, List.map_nil, V.norm, norm1]; rfl) ?_
  all_goals try (refine zs ?_; repeat' first | apply zs0 | apply zs2 | (intro hc; try have hq := dq hc))
attribute [push_cast] gr_or

theorem gr_xor (bs : List Nat) (H : Heap) (x y : Int) : callw X bs 175 [.int .i64 x, .int .i64 y] H = some (.int .i64 (bitsI .xor .i64 x y), H) := by
  refine call_at (rs := [.tmp 4]) (N := 8) (fn := Tryz.f175) xk175 xf175 rfl rfl rfl (by simp only [seval, push_cast, List.map_cons, List.map_nil, V.norm, norm1]; rfl) ?_
  all_goals try (refine zs ?_; repeat' first | apply zs0 | apply zs2 | (intro hc; try have hq := dq hc))
attribute [push_cast] gr_xor

theorem gr_add (bs : List Nat) (H : Heap) (x y : Int) : callw X bs 176 [.int .i64 x, .int .i64 y] H = some (.int .i64 (IntKind.i64.wrap (x + y)), H) := by
  refine call_at (rs := [.tmp 4]) (N := 8) (fn := Tryz.f176) xk176 xf176 rfl rfl rfl (by simp only [seval, push_cast, List.map_cons, List.map_nil, V.norm, norm1]; rfl) ?_
  all_goals try (refine zs ?_; repeat' first | apply zs0 | apply zs2 | (intro hc; try have hq := dq hc))
attribute [push_cast] gr_add

theorem gr_sub (bs : List Nat) (H : Heap) (x y : Int) : callw X bs 177 [.int .i64 x, .int .i64 y] H = some (.int .i64 (IntKind.i64.wrap (x - y)), H) := by
  refine call_at (rs := [.tmp 4]) (N := 8) (fn := Tryz.f177) xk177 xf177 rfl rfl rfl (by simp only [seval, push_cast, List.map_cons, List.map_nil, V.norm, norm1]; rfl) ?_
  all_goals try (refine zs ?_; repeat' first | apply zs0 | apply zs2 | (intro hc; try have hq := dq hc))
attribute [push_cast] gr_sub

theorem gr_mul (bs : List Nat) (H : Heap) (x y : Int) : callw X bs 178 [.int .i64 x, .int .i64 y] H = some (.int .i64 (IntKind.i64.wrap (x * y)), H) := by
  refine call_at (rs := [.tmp 4]) (N := 8) (fn := Tryz.f178) xk178 xf178 rfl rfl rfl (by simp only [seval, push_cast, List.map_cons, List.map_nil, V.norm, norm1]; rfl) ?_
  all_goals try (refine zs ?_; repeat' first | apply zs0 | apply zs2 | (intro hc; try have hq := dq hc))
attribute [push_cast] gr_mul

theorem gr_eq (bs : List Nat) (H : Heap) (x y w : Int) : callw X bs 180 [.int .i64 x, .int .i64 y, .int .i64 w] H = some (.bool (decide (x = y)), H) := by
  refine call_at (rs := [.tmp 6]) (N := 10) (fn := Tryz.f180) xk180 xf180 rfl rfl rfl (by simp only [seval, push_cast, List.map_cons, List.map_nil, V.norm, norm1]; rfl) ?_
  all_goals try (refine zs ?_; repeat' first | apply zs0 | apply zs2 | (intro hc; try have hq := dq hc))
attribute [push_cast] gr_eq

theorem gr_lt (bs : List Nat) (H : Heap) (x y w : Int) : callw X bs 181 [.int .i64 x, .int .i64 y, .int .i64 w] H = some (.bool (decide (x < y)), H) := by
  refine call_at (rs := [.tmp 6]) (N := 10) (fn := Tryz.f181) xk181 xf181 rfl rfl rfl (by simp only [seval, push_cast, List.map_cons, List.map_nil, V.norm, norm1]; rfl) ?_
  all_goals try (refine zs ?_; repeat' first | apply zs0 | apply zs2 | (intro hc; try have hq := dq hc))
attribute [push_cast] gr_lt

theorem gr_slt (bs : List Nat) (H : Heap) (x y w : Int) (hx : InW x w) (hy : InW y w) (h1 : 1 ≤ w) (h16 : w ≤ 16) : callw X bs 182 [.int .i64 x, .int .i64 y, .int .i64 w] H = some (.bool (decide (sgn x w < sgn y w)), H) := by
  refine call_at (rs := [.tmp 6]) (N := 14) (fn := Tryz.f182) xk182 xf182 rfl rfl rfl (by simp only [seval, push_cast, List.map_cons, List.map_nil, V.norm, norm1]; rfl) ?_
  have t1 := fun bs H => gr_signed bs H x w hx h1 h16
  have t2 := fun bs H => gr_signed bs H y w hy h1 h16
  clear hx hy
  all_goals try (refine zs ?_; repeat' first | apply zs0 | apply zs2 | (intro hc; try have hq := dq hc))

theorem gr_bin (bs : List Nat) (H : Heap) (op W v : Int) (ar w : List V) (f : Nat) (p q r : Int) (h0 : 0 ≤ W) (h16 : W ≤ 16) (hf : ∀ bs H, callw X bs f [.int .i64 p, .int .i64 q] H = some (.int .i64 r, H)) : callw X bs 231 [.agg [.int .i64 op, .int .i64 W, .list ar, .int .i64 v], .list w, .list [.int .i64 p, .int .i64 q], .eptr [.func f []] 0] H = some (.int .i64 (r % 2 ^ W.toNat), H) := by
  refine call_at (rs := [.tmp 7]) (N := 19) (fn := Tryz.f231) xk231 xf231 rfl rfl rfl (by simp only [seval, push_cast, List.map_cons, List.map_nil, V.norm, norm1]; rfl) ?_
  have t1 := fun bs H => gr_mask bs H r W h0 h16
  repeat' first
   | (apply z51 (id := 1) (ord := [0, 1, 2, 3, 4, 5, 6, 8, 9, 7, 10, 11]) (ps := [(8, 9)]) <;> first | kernel_rfl | skip)
   | (refine zs ?_; repeat' first | apply zs0 | apply zs2 | (intro hc; try have hq := dq hc)) | fail

theorem gr_rel (bs : List Nat) (H : Heap) (op W v : Int) (ar w : List V) (f : Nat) (p q s : Int) (b : Bool) (hf : ∀ bs H, callw X bs f [.int .i64 p, .int .i64 q, .int .i64 s] H = some (.bool b, H)) : callw X bs 233 [.agg [.int .i64 op, .int .i64 W, .list ar, .int .i64 v], .list (.int .i64 s :: w), .list [.int .i64 p, .int .i64 q], .eptr [.func f []] 0] H = some (.int .i64 (if b = true then 1 else 0), H) := by
  refine call_at (rs := [.tmp 7]) (N := 20) (fn := Tryz.f233) xk233 xf233 rfl rfl rfl (by simp only [seval, push_cast, List.map_cons, List.map_nil, V.norm, norm1]; rfl) ?_
  repeat' first
   | (apply z50 (id := 1) (ord := [0, 1, 2, 3, 4, 5, 6, 7, 8, 9, 10, 11, 12]) <;> first | kernel_rfl | skip)
   | (refine zs ?_; repeat' first | apply zs0 | apply zs2 | (intro hc; try have hq := dq hc)) | fail

theorem gr_r0 (bs : List Nat) (H : Heap) (op W v : Int) (ar w a : List V) : callw X bs 167 [.agg [.int .i64 op, .int .i64 W, .list ar, .int .i64 v], .list w, .list a] H = some (.int .i64 v, H) := by
  refine call_at (rs := [.tmp 6]) (N := 9) (fn := Tryz.f167) xk167 xf167 rfl rfl rfl (by simp only [seval, push_cast, List.map_cons, List.map_nil, V.norm, norm1]; rfl) ?_
  all_goals try (refine zs ?_; repeat' first | apply zs0 | apply zs2 | (intro hc; try have hq := dq hc))

theorem gr_r2 (bs : List Nat) (H : Heap) (op W v x : Int) (ar w : List V) (hx : InW x W) (h1 : 1 ≤ W) (h16 : W ≤ 16) : callw X bs 170 [.agg [.int .i64 op, .int .i64 W, .list ar, .int .i64 v], .list w, .list [.int .i64 x]] H = some (.int .i64 (2 ^ W.toNat - 1 - x), H) := by
  refine call_at (rs := [.tmp 6]) (N := 14) (fn := Tryz.f170) xk170 xf170 rfl rfl rfl (by simp only [seval, push_cast, List.map_cons, List.map_nil, V.norm, norm1]; rfl) ?_
  obtain ⟨a1, a2⟩ := hx
  have hp := pow_le (k := W.toNat) (by omega)
  obtain ⟨m, rfl⟩ : ∃ m : Nat, x = m := ⟨x.toNat, by omega⟩
  have e1 : bitsI .xor .i64 (-1) m = -1 - (m : Int) := bits_not m (by
    have : (2 : Nat) ^ 32 = 4294967296 := by decide
    omega)
  have e2 : (-1 - (m : Int)) % 2 ^ W.toNat = 2 ^ W.toNat - 1 - m := by
    rw [← Int.add_emod_right, Int.emod_eq_of_lt (by omega) (by omega)]; omega
  have t1 := fun bs H => gr_mask bs H (-1 - (m : Int)) W (by omega) h16
  rw [e2] at t1
  clear e2 hp a1 a2 h1 h16
  repeat' first
   | (apply z50 (id := 1) (ord := [0, 1, 2, 3, 4, 5, 6, 7]) <;> first | kernel_rfl | skip)
   | (refine zs ?_; repeat' first | apply zs0 | apply zs2 | (intro hc; try have hq := dq hc)) | fail

theorem gr_r12 (bs : List Nat) (H : Heap) (op W v x y z : Int) (ar w : List V) : callw X bs 185 [.agg [.int .i64 op, .int .i64 W, .list ar, .int .i64 v], .list w, .list [.int .i64 x, .int .i64 y, .int .i64 z]] H = some (.int .i64 (if x = 1 then y else z), H) := by
  refine call_at (rs := [.tmp 6]) (N := 17) (fn := Tryz.f185) xk185 xf185 rfl rfl rfl (by simp only [seval, push_cast, List.map_cons, List.map_nil, V.norm, norm1]; rfl) ?_
  by_cases h : x = 1
  · have d : decide (x = 1) = true := decide_eq_true h
    rw [if_pos h]
    clear h
    all_goals try (refine zs ?_; repeat' first | apply zs0 | apply zs2 | (intro hc; try have hq := dq hc))
  · have d : decide (x = 1) = false := decide_eq_false h
    rw [if_neg h]
    clear h
    all_goals try (refine zs ?_; repeat' first | apply zs0 | apply zs2 | (intro hc; try have hq := dq hc))

theorem shl_small {x q : Int} (hx : 0 ≤ x ∧ x < 65536) (h0 : 0 ≤ q) (h : q ≤ 16) : IntKind.i64.wrap (x * 2 ^ (min q.toNat IntKind.i64.bits)) = x * 2 ^ q.toNat := by
  rw [min_bits (by omega)]
  have h1 := pow_le (k := q.toNat) (by omega)
  have h2 := pow_pos' q.toNat
  have h3 : x * 2 ^ q.toNat ≤ 65536 * 4294967296 := Int.le_trans (Int.mul_le_mul_of_nonneg_right (by omega) (by omega)) (Int.mul_le_mul_of_nonneg_left h1 (by omega))
  have h4 := Int.mul_nonneg hx.1 (Int.le_of_lt h2)
  rw [wrap64] <;> omega
theorem or_add {x y q : Int} (hx : 0 ≤ x ∧ x < 65536) (h0 : 0 ≤ q) (h : q ≤ 16) (hy : InW y q) : bitsI .or .i64 (x * 2 ^ q.toNat) y = x * 2 ^ q.toNat + y := by
  obtain ⟨y1, y2⟩ := hy
  obtain ⟨a, rfl⟩ : ∃ a : Nat, x = a := ⟨x.toNat, by omega⟩
  obtain ⟨b, rfl⟩ : ∃ b : Nat, y = b := ⟨y.toNat, by omega⟩
  have hb : b < 2 ^ q.toNat := by rw [← pow_nat] at y2; omega
  have h3 : 2 ^ q.toNat ≤ 2 ^ 16 := Nat.pow_le_pow_right (by omega) (by omega)
  have c16 : (2 : Nat) ^ 16 = 65536 := by decide
  have c32 : (2 : Nat) ^ 32 = 4294967296 := by decide
  have h4 : a * 2 ^ q.toNat ≤ 65535 * 65536 := Nat.mul_le_mul (by omega) (by omega)
  have e : ((a : Int) * 2 ^ q.toNat) = ((a * 2 ^ q.toNat : Nat) : Int) := by simp
  rw [e, bits_or _ _ (by omega) (by omega)]
  have := Nat.shiftLeft_add_eq_or_of_lt hb a
  rw [Nat.shiftLeft_eq] at this
  rw [← this]; simp
theorem gr_r13 (bs : List Nat) (H : Heap) (op W v x y s q : Int) (ar w : List V) (hx : 0 ≤ x ∧ x < 65536) (hq0 : 0 ≤ q) (hq : q ≤ 16) (hy : InW y q) : callw X bs 187 [.agg [.int .i64 op, .int .i64 W, .list ar, .int .i64 v], .list (.int .i64 s :: .int .i64 q :: w), .list [.int .i64 x, .int .i64 y]] H = some (.int .i64 (x * 2 ^ q.toNat + y), H) := by
  refine call_at (rs := [.tmp 6]) (N := 18) (fn := Tryz.f187) xk187 xf187 rfl rfl rfl (by simp only [seval, push_cast, List.map_cons, List.map_nil, V.norm, norm1]; rfl) ?_
  have e1 := shl_small hx hq0 hq
  have e2 := or_add hx hq0 hq hy
  clear hx hq hy
  repeat' first
   | (apply z50 (id := 1) (ord := [0, 1, 2, 3, 4, 5, 6, 7, 8, 9, 10, 11]) <;> first | kernel_rfl | skip)
   | (refine zs ?_; repeat' first | apply zs0 | apply zs2 | (intro hc; try have hq := dq hc)) | fail

theorem shr_div {x v : Int} (h0 : 0 ≤ v) (h : v ≤ 64) : x.fdiv (2 ^ (min v.toNat IntKind.i64.bits)) = x / 2 ^ v.toNat := by
  rw [min_bits (by omega), Int.fdiv_eq_ediv_of_nonneg _ (Int.le_of_lt (pow_pos' _))]
theorem gr_r14 (bs : List Nat) (H : Heap) (op W v x : Int) (ar w : List V) (hv0 : 0 ≤ v) (hv : v ≤ 15) (h0 : 0 ≤ W) (h16 : W ≤ 16) : callw X bs 189 [.agg [.int .i64 op, .int .i64 W, .list ar, .int .i64 v], .list w, .list [.int .i64 x]] H = some (.int .i64 (x / 2 ^ v.toNat % 2 ^ W.toNat), H) := by
  refine call_at (rs := [.tmp 6]) (N := 16) (fn := Tryz.f189) xk189 xf189 rfl rfl rfl (by simp only [seval, push_cast, List.map_cons, List.map_nil, V.norm, norm1]; rfl) ?_
  have e1 := shr_div (x := x) hv0 (by omega)
  have t1 := fun bs H => gr_mask bs H (x / 2 ^ v.toNat) W h0 h16
  clear hv h0 h16
  repeat' first
   | (apply z50 (id := 1) (ord := [0, 1, 2, 3, 4, 5, 6, 7, 8, 9]) <;> first | kernel_rfl | skip)
   | (refine zs ?_; repeat' first | apply zs0 | apply zs2 | (intro hc; try have hq := dq hc)) | fail

theorem gr_r15 (bs : List Nat) (H : Heap) (op W v x : Int) (ar w : List V) : callw X bs 191 [.agg [.int .i64 op, .int .i64 W, .list ar, .int .i64 v], .list w, .list [.int .i64 x]] H = some (.int .i64 x, H) := by
  refine call_at (rs := [.tmp 6]) (N := 10) (fn := Tryz.f191) xk191 xf191 rfl rfl rfl (by simp only [seval, push_cast, List.map_cons, List.map_nil, V.norm, norm1]; rfl) ?_
  all_goals try (refine zs ?_; repeat' first | apply zs0 | apply zs2 | (intro hc; try have hq := dq hc))

theorem gr_r16 (bs : List Nat) (H : Heap) (op W v x s : Int) (ar w : List V) (hx : InW x s) (hs1 : 1 ≤ s) (hs16 : s ≤ 16) (h0 : 0 ≤ W) (h16 : W ≤ 16) : callw X bs 192 [.agg [.int .i64 op, .int .i64 W, .list ar, .int .i64 v], .list (.int .i64 s :: w), .list [.int .i64 x]] H = some (.int .i64 (sgn x s % 2 ^ W.toNat), H) := by
  refine call_at (rs := [.tmp 6]) (N := 17) (fn := Tryz.f192) xk192 xf192 rfl rfl rfl (by simp only [seval, push_cast, List.map_cons, List.map_nil, V.norm, norm1]; rfl) ?_
  have t0 := fun bs H => gr_signed bs H x s hx hs1 hs16
  have t1 := fun bs H => gr_mask bs H (sgn x s) W h0 h16
  clear hx hs1 hs16 h0 h16
  repeat' first
   | (apply z51 (id := 1) (ord := [0, 1, 2, 3, 4, 5, 7, 8, 6, 9, 10]) (ps := [(7, 8)]) <;> first | kernel_rfl | skip)
   | (refine zs ?_; repeat' first | apply zs0 | apply zs2 | (intro hc; try have hq := dq hc)) | fail

theorem min_lt {a b : Int} (h : a < b) : (if b < a then b else a) = a := if_neg (by omega)
theorem mul_mod_pow (x : Int) (k : Nat) : x * 2 ^ k % 2 ^ k = 0 := Int.mul_emod_left _ _
theorem gr_r17 (bs : List Nat) (H : Heap) (op W v x y : Int) (ar w : List V) (hx : 0 ≤ x ∧ x < 65536) (hy : 0 ≤ y) (h0 : 0 ≤ W) (h16 : W ≤ 16) : callw X bs 194 [.agg [.int .i64 op, .int .i64 W, .list ar, .int .i64 v], .list w, .list [.int .i64 x, .int .i64 y]] H = some (.int .i64 (if W ≤ y then 0 else x * 2 ^ y.toNat % 2 ^ W.toNat), H) := by
  refine call_at (rs := [.tmp 6]) (N := 20) (fn := Tryz.f194) xk194 xf194 rfl rfl rfl (by simp only [seval, push_cast, List.map_cons, List.map_nil, V.norm, norm1]; rfl) ?_
  by_cases h : W ≤ y
  · have e1 := shl_small hx h0 h16
    have e2 : (if y < W then y else W) = W := if_neg (by omega)
    have e3 : (if W < y then W else y) = W := by split <;> omega
    have t1 := fun bs H => gr_mask bs H (x * 2 ^ W.toNat) W h0 h16
    rw [mul_mod_pow] at t1
    rw [if_pos h]
    clear hx hy h h16
    repeat' first
     | (apply z50 (id := 1) (ord := [0, 1, 2, 3, 4, 5, 6, 7, 8, 9, 10, 11, 12, 13]) <;> first | kernel_rfl | skip)
     | (refine zs ?_; repeat' first | apply zs0 | apply zs2 | (intro hc; try have hq := dq hc)) | fail
  · have e1 := shl_small hx hy (by omega : y ≤ 16)
    have e2 : (if y < W then y else W) = y := if_pos (by omega)
    have e3 : (if W < y then W else y) = y := if_neg (by omega)
    have t1 := fun bs H => gr_mask bs H (x * 2 ^ y.toNat) W h0 h16
    rw [if_neg h]
    clear hx h h0 h16
    repeat' first
     | (apply z50 (id := 1) (ord := [0, 1, 2, 3, 4, 5, 6, 7, 8, 9, 10, 11, 12, 13]) <;> first | kernel_rfl | skip)
     | (refine zs ?_; repeat' first | apply zs0 | apply zs2 | (intro hc; try have hq := dq hc)) | fail

theorem gr_r18 (bs : List Nat) (H : Heap) (op W v x y : Int) (ar w : List V) (hx : InW x W) (hy : 0 ≤ y) (h0 : 0 ≤ W) (h16 : W ≤ 16) : callw X bs 195 [.agg [.int .i64 op, .int .i64 W, .list ar, .int .i64 v], .list w, .list [.int .i64 x, .int .i64 y]] H = some (.int .i64 (if W ≤ y then 0 else x / 2 ^ y.toNat), H) := by
  refine call_at (rs := [.tmp 6]) (N := 17) (fn := Tryz.f195) xk195 xf195 rfl rfl rfl (by simp only [seval, push_cast, List.map_cons, List.map_nil, V.norm, norm1]; rfl) ?_
  by_cases h : W ≤ y
  · have e1 := shr_div (x := x) h0 (by omega)
    have e4 : x / 2 ^ W.toNat = 0 := Int.ediv_eq_zero_of_lt hx.1 hx.2
    have e2 : (if y < W then y else W) = W := if_neg (by omega)
    have e3 : (if W < y then W else y) = W := by split <;> omega
    rw [if_pos h]
    rw [e4] at e1
    clear hx hy h h16 e4
    repeat' first
     | (apply z50 (id := 1) (ord := [0, 1, 2, 3, 4, 5, 6, 7, 8, 9, 10]) <;> first | kernel_rfl | skip)
     | (refine zs ?_; repeat' first | apply zs0 | apply zs2 | (intro hc; try have hq := dq hc)) | fail
  · have e1 := shr_div (x := x) hy (by omega)
    have e2 : (if y < W then y else W) = y := if_pos (by omega)
    have e3 : (if W < y then W else y) = y := if_neg (by omega)
    rw [if_neg h]
    clear hx h h0 h16
    repeat' first
     | (apply z50 (id := 1) (ord := [0, 1, 2, 3, 4, 5, 6, 7, 8, 9, 10]) <;> first | kernel_rfl | skip)
     | (refine zs ?_; repeat' first | apply zs0 | apply zs2 | (intro hc; try have hq := dq hc)) | fail
end Go.E
/- Contracts of the package graph, in E: ValuesOf. Own work. -/
namespace Go.E
open Go.Proofs
set_option maxRecDepth 100000
set_option maxHeartbeats 4000000

theorem xk_run : ∀ k, X.keep (runF k) = false
  | 0 | 1 | 2 | 3 | 4 | 5 | 6 | 7 | 8 | 9 | 10 | 11 | 12 | 13 | 14 | 15 | 16 | 17 | 18 => rfl
  | _ + 19 => rfl
theorem InW.w16 {n w : Int} (h : InW n w) (hw : w ≤ 16) : 0 ≤ n ∧ n < 65536 := ⟨h.1, h.lt32 hw⟩
theorem toNat_of {x : Int} (h : 0 ≤ x) : ((x.toNat : Nat) : Int) = x := Int.toNat_of_nonneg h
theorem lt_n32 {n w : Int} (h : InW n w) (hw : w ≤ 16) : n.toNat < 2 ^ 32 := by
  have := h.lt32 hw
  have c : (2 : Nat) ^ 32 = 4294967296 := by decide
  omega
theorem wrap_mul {x y : Int} (hx : 0 ≤ x ∧ x < 65536) (hy : 0 ≤ y ∧ y < 65536) : IntKind.i64.wrap (x * y) = x * y := by
  have h1 : x * y ≤ 65536 * 65536 := Int.le_trans (Int.mul_le_mul_of_nonneg_right (by omega) hy.1) (Int.mul_le_mul_of_nonneg_left (by omega) (by omega))
  have h2 := Int.mul_nonneg hx.1 hy.1
  rw [wrap64] <;> omega
theorem run_call (bs : List Nat) (H : Heap) (k : Nat) (op W v : Int) (ar : List V) (a w : List Int) (h : OkArgs k W v a w) (h1 : k ≠ 1) :
    callw X bs (runF k) (.agg [.int .i64 op, .int .i64 W, .list ar, .int .i64 v] :: .list (w.map (.int .i64)) :: .list (a.map (.int .i64)) :: runC k) H = some (.int .i64 (applyS k W v a w), H) := by
  obtain ⟨hk, hW1, hW16, hla, hlw, hr, hw, hf, hv, hc⟩ := h
  have hW0 : 0 ≤ W := by omega
  match k, hk, a, hla, w, hlw with
  | 0, _, a, _, w, _ => exact gr_r0 bs H op W v ar _ _
  | 1, _, _, _, _, _ => exact absurd rfl h1
  | 2, _, [x], _, [p], _ =>
    have r0 := hr 0 (by decide)
    simp only [fitsS, List.any_cons, List.any_nil, Bool.or_false, Bool.not_eq_true', decide_eq_false_iff_not, Decidable.not_not] at hf
    subst hf
    exact gr_r2 bs H op p v x ar _ r0 hW1 hW16
  | 3, _, [x, y], _, [p, q], _ =>
    have r0 := hr 0 (by decide)
    have r1 := hr 1 (by decide)
    simp only [fitsS, List.any_cons, List.any_nil, Bool.or_false, Bool.not_eq_true', Bool.or_eq_false_iff, decide_eq_false_iff_not, Decidable.not_not] at hf
    obtain ⟨rfl, rfl⟩ := hf
    simp only [at0_cons, at0_1] at r0 r1
    have e := bits_and x.toNat y.toNat (lt_n32 r0 hW16) (lt_n32 r1 hW16)
    rw [toNat_of r0.1, toNat_of r1.1] at e
    have hres := nat_rng (Nat.lt_of_le_of_lt (Nat.and_le_left (m := y.toNat)) (nat_lt r0))
    have := gr_bin bs H op q v ar [.int .i64 q, .int .i64 q] 173 x y _ hW0 hW16 (fun bs H => gr_and bs H x y)
    rw [e, Int.emod_eq_of_lt hres.1 hres.2] at this
    exact this
  | 4, _, [x, y], _, [p, q], _ =>
    have r0 := hr 0 (by decide)
    have r1 := hr 1 (by decide)
    simp only [fitsS, List.any_cons, List.any_nil, Bool.or_false, Bool.not_eq_true', Bool.or_eq_false_iff, decide_eq_false_iff_not, Decidable.not_not] at hf
    obtain ⟨rfl, rfl⟩ := hf
    simp only [at0_cons, at0_1] at r0 r1
    have e := bits_or x.toNat y.toNat (lt_n32 r0 hW16) (lt_n32 r1 hW16)
    rw [toNat_of r0.1, toNat_of r1.1] at e
    have hres := nat_rng (Nat.or_lt_two_pow (nat_lt r0) (nat_lt r1))
    have := gr_bin bs H op q v ar [.int .i64 q, .int .i64 q] 174 x y _ hW0 hW16 (fun bs H => gr_or bs H x y)
    rw [e, Int.emod_eq_of_lt hres.1 hres.2] at this
    exact this
  | 5, _, [x, y], _, [p, q], _ =>
    have r0 := hr 0 (by decide)
    have r1 := hr 1 (by decide)
    simp only [fitsS, List.any_cons, List.any_nil, Bool.or_false, Bool.not_eq_true', Bool.or_eq_false_iff, decide_eq_false_iff_not, Decidable.not_not] at hf
    obtain ⟨rfl, rfl⟩ := hf
    simp only [at0_cons, at0_1] at r0 r1
    have e := bits_xor x.toNat y.toNat (lt_n32 r0 hW16) (lt_n32 r1 hW16)
    rw [toNat_of r0.1, toNat_of r1.1] at e
    have hres := nat_rng (Nat.xor_lt_two_pow (nat_lt r0) (nat_lt r1))
    have := gr_bin bs H op q v ar [.int .i64 q, .int .i64 q] 175 x y _ hW0 hW16 (fun bs H => gr_xor bs H x y)
    rw [e, Int.emod_eq_of_lt hres.1 hres.2] at this
    exact this
  | 6, _, [x, y], _, [p, q], _ =>
    have r0 := hr 0 (by decide)
    have r1 := hr 1 (by decide)
    simp only [fitsS, List.any_cons, List.any_nil, Bool.or_false, Bool.not_eq_true', Bool.or_eq_false_iff, decide_eq_false_iff_not, Decidable.not_not] at hf
    obtain ⟨rfl, rfl⟩ := hf
    simp only [at0_cons, at0_1] at r0 r1
    have b0 := r0.w16 hW16
    have b1 := r1.w16 hW16
    have e : IntKind.i64.wrap (x + y) = x + y := by rw [wrap64] <;> omega
    have := gr_bin bs H op q v ar [.int .i64 q, .int .i64 q] 176 x y _ hW0 hW16 (fun bs H => gr_add bs H x y)
    rw [e] at this
    exact this
  | 7, _, [x, y], _, [p, q], _ =>
    have r0 := hr 0 (by decide)
    have r1 := hr 1 (by decide)
    simp only [fitsS, List.any_cons, List.any_nil, Bool.or_false, Bool.not_eq_true', Bool.or_eq_false_iff, decide_eq_false_iff_not, Decidable.not_not] at hf
    obtain ⟨rfl, rfl⟩ := hf
    simp only [at0_cons, at0_1] at r0 r1
    have b0 := r0.w16 hW16
    have b1 := r1.w16 hW16
    have e : IntKind.i64.wrap (x - y) = x - y := by rw [wrap64] <;> omega
    have := gr_bin bs H op q v ar [.int .i64 q, .int .i64 q] 177 x y _ hW0 hW16 (fun bs H => gr_sub bs H x y)
    rw [e] at this
    exact this
  | 8, _, [x, y], _, [p, q], _ =>
    have r0 := hr 0 (by decide)
    have r1 := hr 1 (by decide)
    simp only [fitsS, List.any_cons, List.any_nil, Bool.or_false, Bool.not_eq_true', Bool.or_eq_false_iff, decide_eq_false_iff_not, Decidable.not_not] at hf
    obtain ⟨rfl, rfl⟩ := hf
    simp only [at0_cons, at0_1] at r0 r1
    have b0 := r0.w16 hW16
    have b1 := r1.w16 hW16
    have e : IntKind.i64.wrap (x * y) = x * y := wrap_mul b0 b1
    have := gr_bin bs H op q v ar [.int .i64 q, .int .i64 q] 178 x y _ hW0 hW16 (fun bs H => gr_mul bs H x y)
    rw [e] at this
    exact this
  | 9, _, [x, y], _, [p, q], _ =>
    have := gr_rel bs H op W v ar [.int .i64 q] 180 x y p _ (fun bs H => gr_eq bs H x y p)
    simp only [decide_eq_true_eq] at this
    exact this
  | 10, _, [x, y], _, [p, q], _ =>
    have := gr_rel bs H op W v ar [.int .i64 q] 181 x y p _ (fun bs H => gr_lt bs H x y p)
    simp only [decide_eq_true_eq] at this
    exact this
  | 11, _, [x, y], _, [p, q], _ =>
    have r0 := hr 0 (by decide)
    have r1 := hr 1 (by decide)
    have w0 := hw 0 (by decide)
    have hf2 : (decide (W = 1) && decide (p = q)) = true := hf
    rw [Bool.and_eq_true] at hf2
    obtain rfl := of_decide_eq_true hf2.2
    simp only [at0_cons, at0_1] at r0 r1 w0
    have := gr_rel bs H op W v ar [.int .i64 p] 182 x y p _ (fun bs H => gr_slt bs H x y p r0 r1 w0.1 w0.2)
    simp only [decide_eq_true_eq] at this
    exact this
  | 12, _, [x, y, z], _, [p, q, r], _ => exact gr_r12 bs H op W v x y z ar _
  | 13, _, [x, y], _, [p, q], _ =>
    have r0 := hr 0 (by decide)
    have r1 := hr 1 (by decide)
    have w0 := hw 0 (by decide)
    have w1 := hw 1 (by decide)
    simp only [at0_cons, at0_1] at r0 r1 w0 w1
    exact gr_r13 bs H op W v x y p q ar [] (r0.w16 w0.2) (by omega) w1.2 r1
  | 14, _, [x], _, [p], _ => exact gr_r14 bs H op W v x ar _ (hv rfl).1 (hv rfl).2 hW0 hW16
  | 15, _, [x], _, [p], _ => exact gr_r15 bs H op W v x ar _
  | 16, _, [x], _, [p], _ =>
    have r0 := hr 0 (by decide)
    have w0 := hw 0 (by decide)
    simp only [at0_cons] at r0 w0
    exact gr_r16 bs H op W v x p ar [] r0 w0.1 w0.2 hW0 hW16
  | 17, _, [x, y], _, [p, q], _ =>
    have r0 := hr 0 (by decide)
    have r1 := hr 1 (by decide)
    have w0 := hw 0 (by decide)
    simp only [at0_cons, at0_1] at r0 r1 w0
    exact gr_r17 bs H op W v x y ar _ (r0.w16 w0.2) r1.1 hW0 hW16
  | 18, _, [x, y], _, [p, q], _ =>
    have r0 := hr 0 (by decide)
    have r1 := hr 1 (by decide)
    obtain rfl : p = W := of_decide_eq_true hf
    simp only [at0_cons, at0_1] at r0 r1
    exact gr_r18 bs H op p v x y ar _ r0 r1.1 hW0 hW16
  | k + 19, hk, _, _, _, _ => omega

section
variable {cx : Cx} {bs : List Nat} {f t : Nat} {a b : V} {es r : List V} {H : Heap}
theorem cn_t1 (hk : cx.keep f = false) : callw cx bs f (a :: .tl t es :: r) H = callw cx bs f (a :: .list es :: r) H := callw_norm hk rfl
theorem cn_t2 (hk : cx.keep f = false) : callw cx bs f (a :: b :: .tl t es :: r) H = callw cx bs f (a :: b :: .list es :: r) H := callw_norm hk rfl
end
attribute [push_cast] cn_t1 cn_t2 xk_run
theorem opsAll_run : ∀ k, k < 19 → opsAll[k * 5 + 4]? = some (.func (runF k) (runC k)) := by
  intro k hk
  match k, hk with
  | 0, _ | 1, _ | 2, _ | 3, _ | 4, _ | 5, _ | 6, _ | 7, _ | 8, _ | 9, _ | 10, _ | 11, _ | 12, _ | 13, _ | 14, _ | 15, _ | 16, _ | 17, _ | 18, _ => rfl
  | k + 19, hk => omega
theorem valsOf_snoc (vals a : List Int) (n v : Int) (h : vals[n.toNat]? = some v) : valsOf vals (a ++ [n]) = valsOf vals a ++ [v] := by simp [valsOf, at0, h]
/-- The loop that collects widths and values. -/
theorem ap_loop (bs : List Nat) (H : Heap) (cx : HObj) (nodes : List Node) (vals args : List Int) (hl : args.length ≤ 1000000) (hargs : ∀ n ∈ args, 0 ≤ n ∧ n < nodes.length ∧ n < vals.length) :
    ∀ i ρ H', i ≤ args.length → (∃ ws vs, ws = widthsOf nodes (args.take i) ∧ vs = valsOf vals (args.take i) ∧ H' = H ++ [cx, .tok ws.length, .tok vs.length] ∧ ρ 1 = .list (nodes.map encNode) ∧ ρ 3 = .list (vals.map (.int .i64)) ∧
        ρ 9 = .tl (H.length + 1) (ws.map (.int .i64)) ∧ ρ 10 = .tl (H.length + 2) (vs.map (.int .i64)) ∧ ρ 14 = .list (args.map (.int .i64)) ∧ ρ 15 = .int .i64 args.length ∧ ρ 16 = .int .i64 i) →
      Lp X ⟨47, bs⟩ (loopAt Tryz.f235 0) ρ H' fun ex ρ' H' => H' = H ++ [cx, .tok args.length, .tok args.length] ∧ ex = .exit 0 ∧ ρ' 9 = .tl (H.length + 1) ((widthsOf nodes args).map (.int .i64)) ∧ ρ' 10 = .tl (H.length + 2) ((valsOf vals args).map (.int .i64)) := by
  refine loop_up ?_ ?_
  · rintro i ρ H' hi ⟨ws, vs, hws, hvs, rfl, h1, h3, h9, h10, h14, h15, h16⟩
    have hget : args[i]? = some args[i] := by simp [hi]
    have hm := hargs args[i] (List.getElem_mem hi)
    have htk : args.take (i + 1) = args.take i ++ [args[i]] := by rw [List.take_add_one, hget]; rfl
    generalize args[i] = n at hget hm htk
    obtain ⟨m, rfl⟩ : ∃ m : Nat, n = m := ⟨n.toNat, by omega⟩
    have hlt : m < nodes.length := by omega
    have hltv : m < vals.length := by omega
    have hget2 : nodes[m]? = some nodes[m] := by simp [hlt]
    have hget3 : vals[m]? = some vals[m] := by simp [hltv]
    have hsn := widthsOf_snoc nodes (args.take i) m nodes[m] (by simp)
    have hsv := valsOf_snoc vals (args.take i) m vals[m] (by simp)
    generalize nodes[m] = y at hget2 hsn
    generalize vals[m] = z at hget3 hsv
    have hlen : ws.length = i := by rw [hws]; simp [widthsOf]; omega
    have hlenv : vs.length = i := by rw [hvs]; simp [valsOf]; omega
    have hroom := room8 ws.length (by omega)
    have hroomv := room8 vs.length (by omega)
    have hw := add1 i args.length hi hl
    rw [← hws, ← htk] at hsn
    rw [← hvs, ← htk] at hsv
    replace hws : Kp (ws = widthsOf nodes (args.take i)) := ⟨hws⟩
    replace hvs : Kp (vs = valsOf vals (args.take i)) := ⟨hvs⟩
    replace hsn : Kp (widthsOf nodes (args.take (i + 1)) = ws ++ [y.width]) := ⟨hsn⟩
    replace hsv : Kp (valsOf vals (args.take (i + 1)) = vs ++ [z]) := ⟨hsv⟩
    replace hlen : Kp (ws.length = i) := ⟨hlen⟩
    replace hlenv : Kp (vs.length = i) := ⟨hlenv⟩
    clear htk hm hlt hltv hargs
    conv => arg 3; whnf
    repeat' first
     | (apply z51 (id := 5) (ord := [0, 1, 2, 3, 4, 5, 6, 8, 9, 10, 11, 12, 13, 7, 14, 15, 16]) (ps := [(11, 13), (12, 13)]) <;> first | kernel_rfl | skip)
     | (apply z50 (id := 7) (ord := [0, 1, 2, 3, 4, 5, 6, 7, 8, 9, 10, 11]) <;> first | kernel_rfl | skip)
     | (refine zs ?_; repeat' first | apply zs0 | apply zs2 | (intro hc; try have hq := dq hc)) | fail
    exact ⟨ws ++ [y.width], vs ++ [z], hsn.out.symm, hsv.out.symm, by simp, by (simp only [seval, push_cast, *] <;> rfl), by (simp only [seval, push_cast, *] <;> rfl), by simp [push_cast], by simp [push_cast], by (simp only [seval, push_cast, *] <;> rfl), by (simp only [seval, push_cast, *] <;> rfl), by (simp only [seval, push_cast, *] <;> rfl)⟩
  · rintro ρ H' ⟨ws, vs, hws, hvs, rfl, h1, h3, h9, h10, h14, h15, h16⟩
    rw [List.take_length] at hws hvs
    have hlen : ws.length = args.length := by rw [hws]; simp [widthsOf]
    have hlenv : vs.length = args.length := by rw [hvs]; simp [valsOf]
    replace hws : Kp (ws = widthsOf nodes args) := ⟨hws⟩
    replace hvs : Kp (vs = valsOf vals args) := ⟨hvs⟩
    replace hlen : Kp (ws.length = args.length) := ⟨hlen⟩
    replace hlenv : Kp (vs.length = args.length) := ⟨hlenv⟩
    clear hargs
    conv => arg 3; whnf
    repeat' first
     | (apply z51 (id := 5) (ord := [0, 1, 2, 3, 4, 5, 6, 8, 9, 10, 11, 12, 13, 7, 14, 15, 16]) (ps := [(11, 13), (12, 13)]) <;> first | kernel_rfl | skip)
     | (apply z50 (id := 7) (ord := [0, 1, 2, 3, 4, 5, 6, 7, 8, 9, 10, 11]) <;> first | kernel_rfl | skip)
     | (refine zs ?_; repeat' first | apply zs0 | apply zs2 | (intro hc; try have hq := dq hc)) | fail
    exact ⟨by rw [hlen.out, hlenv.out], rfl, by rw [← hws.out]; (simp only [seval, push_cast, *] <;> rfl), by rw [← hvs.out]; (simp only [seval, push_cast, *] <;> rfl)⟩
end Go.E
/- Contracts of the package graph, in E: ValuesOf, whole. Own work. -/
namespace Go.E
open Go.Proofs
set_option maxRecDepth 100000
set_option maxHeartbeats 4000000

theorem gr_applied (bs : List Nat) (H : Heap) (nodes : List Node) (x : Node) (vals : List Int) (b : Nat) (hB : H[b]? = some (.cells opsAll)) (hal : x.args.length ≤ 1000000) (h0 : 0 ≤ x.op) (h1 : x.op ≠ 1) (hargs : ∀ n ∈ x.args, 0 ≤ n ∧ n < nodes.length ∧ n < vals.length) (hok : OkArgs x.op.toNat x.width x.value (valsOf vals x.args) (widthsOf nodes x.args)) : callw X bs 235 [.ptr b 0, .list (nodes.map encNode), encNode x, .list (vals.map (.int .i64))] H = some (.int .i64 (applyS x.op.toNat x.width x.value (valsOf vals x.args) (widthsOf nodes x.args)), H) := by
  refine call_at (rs := [.tmp 8]) (N := 47) (fn := Tryz.f235) xk235 xf235 rfl rfl rfl (by simp only [seval, push_cast, List.map_cons, List.map_nil, V.norm, norm1]; rfl) ?_
  have hB2 := get_app hB
  have hrun := fun bs H => run_call bs H x.op.toNat x.op x.width x.value (x.args.map (.int .i64)) _ _ hok (by omega)
  have hk19 := hok.k19
  obtain ⟨k, hk⟩ : ∃ k : Nat, x.op = k := ⟨x.op.toNat, by omega⟩
  rw [hk, Int.toNat_natCast] at hrun hk19
  rw [hk, Int.toNat_natCast]
  have hat := opsAll_run k hk19
  have h95 : k * 5 + 5 ≤ 95 := by omega
  have hlen95 := opsAll_len
  have hloop := fun (bs : List Nat) (cx : HObj) (ρ : Env) => ap_loop bs H cx nodes vals x.args hal hargs 0 ρ
  clear hargs hok hB
  repeat' first
   | (apply z51 (id := 5) (ord := [0, 1, 2, 3, 4, 5, 6, 8, 9, 10, 11, 12, 13, 7, 14, 15, 16]) (ps := [(11, 13), (12, 13)]) <;> first | kernel_rfl | skip)
   | (apply z50 (id := 7) (ord := [0, 1, 2, 3, 4, 5, 6, 7, 8, 9, 10, 11]) <;> first | kernel_rfl | skip)
   | (refine zs ?_; repeat' first | apply zs0 | apply zs2 | (intro hc; try have hq := dq hc)) | fail
  refine lp_then (lp_any (c := loopAt Tryz.f235 0) rfl (hloop _ _ _ _ (by omega) ⟨[], [], rfl, rfl, rfl, by (simp only [seval, push_cast, *] <;> rfl), by (simp only [seval, push_cast, *] <;> rfl), by (simp only [seval, push_cast, *] <;> rfl), by (simp only [seval, push_cast, *] <;> rfl), by (simp only [seval, push_cast, *] <;> rfl), by (simp only [seval, push_cast, *] <;> rfl), by (simp only [seval, push_cast, *] <;> rfl)⟩)) ?_
  rintro ex ρ' H' ⟨rfl, rfl, h9, h10⟩ hf
  have f0 := hf 0 rfl
  have f6 := hf 6 rfl
  simp only [seval, push_cast] at f0 f6
  clear hloop
  repeat' first
   | (apply z51 (id := 5) (ord := [0, 1, 2, 3, 4, 5, 6, 8, 9, 10, 11, 12, 13, 7, 14, 15, 16]) (ps := [(11, 13), (12, 13)]) <;> first | kernel_rfl | skip)
   | (apply z50 (id := 7) (ord := [0, 1, 2, 3, 4, 5, 6, 7, 8, 9, 10, 11]) <;> first | kernel_rfl | skip)
   | (refine zs ?_; repeat' first | apply zs0 | apply zs2 | (intro hc; try have hq := dq hc)) | fail

theorem valsL_succ (nodes : List Node) (lv : List Int) (i : Nat) (x : Node) (h : nodes[i]? = some x) : valsL nodes lv (i + 1) = valsL nodes lv i ++ [valN nodes lv (valsL nodes lv i) x] := by simp only [valsL, h]
theorem va_loop (bs : List Nat) (H : Heap) (t : HObj) (leaves lv : List Int) (nodes : List Node) (hn : nodes.length ≤ 1000000) (hal : ∀ x ∈ nodes, x.args.length ≤ 1000000) (hg : GoodAll leaves nodes) (hl : LeafOk leaves lv) :
    ∀ i ρ H', i ≤ nodes.length → (∃ vs junk, vs = valsL nodes lv i ∧ H' = H ++ t :: .cells opsAll :: .tok vs.length :: junk ∧ ρ 0 = .list (nodes.map encNode) ∧ ρ 1 = .list (lv.map (.int .i64)) ∧ ρ 5 = .ptr (H.length + 1) 0 ∧
        ρ 6 = .tl (H.length + 2) (vs.map (.int .i64)) ∧ ρ 11 = .list (nodes.map encNode) ∧ ρ 12 = .int .i64 nodes.length ∧ ρ 13 = .int .i64 i) →
      Lp X ⟨38, bs⟩ (loopAt Tryz.f204 0) ρ H' fun ex ρ' H' => ∃ vs junk, vs = valsL nodes lv nodes.length ∧ H' = H ++ t :: .cells opsAll :: .tok vs.length :: junk ∧ ex = .exit 0 ∧ ρ' 6 = .tl (H.length + 2) (vs.map (.int .i64)) := by
  refine loop_up ?_ ?_
  · rintro i ρ H' hi ⟨vs, junk, hvs, rfl, h0, h1, h5, h6, h11, h12, h13⟩
    have hget : nodes[i]? = some nodes[i] := by simp [hi]
    have hal' := hal nodes[i] (List.getElem_mem hi)
    have g := hg i nodes[i] hget
    have hok := vals_ok.okArgs hg hl (vals_ok hg hl i (by omega)) hget
    have hsv := valsL_succ nodes lv i nodes[i] hget
    generalize nodes[i] = x at hget hal' g hok hsv
    have hlen : vs.length = i := by rw [hvs]; exact valsL_len nodes lv i
    have hroom := room8 vs.length (by omega)
    have hw := add1 i nodes.length hi hn
    rw [← hvs] at hsv hok
    have hlr : lv.length = leaves.length := hl.1
    clear hg hl hal
    by_cases h1' : x.op = 1
    · have d : decide (x.op = 1) = true := decide_eq_true h1'
      have hva := g.val
      rw [h1'] at hva
      obtain ⟨a, b, c⟩ := value_leaf hva
      obtain ⟨m, hm⟩ : ∃ m : Nat, x.value = m := ⟨x.value.toNat, by omega⟩
      have hlt : m < lv.length := by omega
      have hget2 : lv[m]? = some lv[m] := by simp [hlt]
      have hv : valN nodes lv vs x = lv[m] := by unfold valN; rw [if_pos h1', hm, Int.toNat_natCast]; exact at0_get hget2
      rw [hv] at hsv
      generalize lv[m] = z at hget2 hsv hv
      replace hvs : Kp (vs = valsL nodes lv i) := ⟨hvs⟩
      replace hsv : Kp (valsL nodes lv (i + 1) = vs ++ [z]) := ⟨hsv⟩
      replace hlen : Kp (vs.length = i) := ⟨hlen⟩
      clear hv hva a b c hlt h1' g hok hlr
      conv => arg 3; whnf
      all_goals try (refine zs ?_; repeat' first | apply zs0 | apply zs2 | (intro hc; try have hq := dq hc))
      exact ⟨vs ++ [z], _, hsv.out.symm, by simp only [List.length_append, List.length_singleton]; rfl, by (simp only [seval, push_cast, *] <;> rfl), by (simp only [seval, push_cast, *] <;> rfl), by (simp only [seval, push_cast, *] <;> rfl), by simp [push_cast], by (simp only [seval, push_cast, *] <;> rfl), by (simp only [seval, push_cast, *] <;> rfl), by (simp only [seval, push_cast, *] <;> rfl)⟩
    · have d : decide (x.op = 1) = false := decide_eq_false h1'
      have hv : valN nodes lv vs x = applyS x.op.toNat x.width x.value (valsOf vs x.args) (widthsOf nodes x.args) := by unfold valN; rw [if_neg h1']
      rw [hv] at hsv
      have hap := fun bs rest => gr_applied bs (H ++ t :: .cells opsAll :: rest) nodes x vs (H.length + 1) (by simp) hal' g.op0 h1' (fun n hn => by have := g.args n hn; omega) hok
      simp only [encNode, encInts] at hap
      generalize applyS x.op.toNat x.width x.value (valsOf vs x.args) (widthsOf nodes x.args) = z at hsv hap
      replace hvs : Kp (vs = valsL nodes lv i) := ⟨hvs⟩
      replace hsv : Kp (valsL nodes lv (i + 1) = vs ++ [z]) := ⟨hsv⟩
      replace hlen : Kp (vs.length = i) := ⟨hlen⟩
      clear hv h1' g hok hlr
      conv => arg 3; whnf
      all_goals try (refine zs ?_; repeat' first | apply zs0 | apply zs2 | (intro hc; try have hq := dq hc))
      exact ⟨vs ++ [z], _, hsv.out.symm, by simp only [List.length_append, List.length_singleton]; rfl, by (simp only [seval, push_cast, *] <;> rfl), by (simp only [seval, push_cast, *] <;> rfl), by (simp only [seval, push_cast, *] <;> rfl), by simp [push_cast], by (simp only [seval, push_cast, *] <;> rfl), by (simp only [seval, push_cast, *] <;> rfl), by (simp only [seval, push_cast, *] <;> rfl)⟩
  · rintro ρ H' ⟨vs, junk, hvs, rfl, h0, h1, h5, h6, h11, h12, h13⟩
    replace hvs : Kp (vs = valsL nodes lv nodes.length) := ⟨hvs⟩
    clear hal hg hl
    conv => arg 3; whnf
    all_goals try (refine zs ?_; repeat' first | apply zs0 | apply zs2 | (intro hc; try have hq := dq hc))
    exact ⟨vs, junk, hvs.out, rfl, rfl, by (simp only [seval, push_cast, *] <;> rfl)⟩

theorem gr_valued (bs : List Nat) (H : Heap) (leaves lv : List Int) (nodes : List Node) (hn : nodes.length ≤ 1000000) (hal : ∀ x ∈ nodes, x.args.length ≤ 1000000) (hg : GoodAll leaves nodes) (hl : LeafOk leaves lv) : callw X bs 204 [.list (nodes.map encNode), .list (lv.map (.int .i64))] H = some (.list ((valsL nodes lv nodes.length).map (.int .i64)), H) := by
  refine call_at (rs := [.tmp 4]) (N := 38) (fn := Tryz.f204) xk204 xf204 rfl rfl rfl (by simp only [seval, push_cast, List.map_cons, List.map_nil, V.norm, norm1]; rfl) ?_
  have hloop := fun (bs : List Nat) (t : HObj) (ρ : Env) => va_loop bs H t leaves lv nodes hn hal hg hl 0 ρ
  have hp := opsAll_pure
  have hlen := opsAll_len
  have hc := opsAll_cell
  clear hal hg hl
  all_goals try (refine zs ?_; repeat' first | apply zs0 | apply zs2 | (intro hc; try have hq := dq hc))
  refine lp_then (lp_any (c := loopAt Tryz.f204 0) rfl (hloop _ _ _ _ (by omega) ⟨[], [], rfl, rfl, by (simp only [seval, push_cast, *] <;> rfl), by (simp only [seval, push_cast, *] <;> rfl), by (simp only [seval, push_cast, *] <;> rfl), by (simp only [seval, push_cast, *] <;> rfl), by (simp only [seval, push_cast, *] <;> rfl), by (simp only [seval, push_cast, *] <;> rfl), by (simp only [seval, push_cast, *] <;> rfl)⟩)) ?_
  rintro ex ρ' H' ⟨vs, junk, hvs, rfl, rfl, h6⟩ hf
  rw [← hvs]
  clear hloop hvs
  all_goals try (refine zs ?_; repeat' first | apply zs0 | apply zs2 | (intro hc; try have hq := dq hc))
end Go.E
/- Contracts of the package graph, in E: ValuesOf. Own work. -/
namespace Go.E
open Go.Proofs
set_option maxRecDepth 100000
set_option maxHeartbeats 4000000

theorem eachP_none {α : Type} (g : Nat → α → Int) : ∀ (l : List α) (i : Nat), (∀ j x, l[j]? = some x → g (i + j) x = 0) → eachP g i l = (0, 0)
  | [], _, _ => rfl
  | y :: r, i, h => by
    unfold eachP
    rw [if_neg (by simpa using h 0 y rfl)]
    exact eachP_none g r (i + 1) (fun j x hx => by have := h (j + 1) x hx; rwa [show i + (j + 1) = i + 1 + j by omega] at this)
theorem fitsG_in {n w : Int} (h1 : 1 ≤ w) (h16 : w ≤ 16) (h : InW n w) : fitsG n w = true := by
  unfold fitsG
  rw [shl1_pow (by omega)]
  have h3 := pow_le (k := w.toNat) (by omega)
  have h4 := pow_pos' w.toNat
  rw [wrap64 (by omega) (by omega)]
  obtain ⟨a, b⟩ := h
  rw [Bool.and_eq_true, Bool.and_eq_true, decide_eq_true_eq, decide_eq_true_eq, decide_eq_true_eq]
  omega
theorem fitsN_in {n w : Int} (h1 : 1 ≤ w) (h16 : w ≤ 16) : fitsN n w = true ↔ InW n w := by
  unfold fitsN
  rw [shl1_pow (by omega)]
  have h3 := pow_le (k := w.toNat) (by omega)
  have h4 := pow_pos' w.toNat
  rw [wrap64 (by omega) (by omega)]
  rw [Bool.and_eq_true, decide_eq_true_eq, decide_eq_true_eq]
  unfold InW
  omega

theorem gr_graphErr (bs : List Nat) (H : Heap) (leaves : List Int) (nodes : List Node) (hl : leaves.length ≤ 1000000) (hn : nodes.length ≤ 1000000) (hal : ∀ x ∈ nodes, x.args.length ≤ 1000000) : callw X bs 202 [.list (leaves.map (.int .i64)), .list (nodes.map encNode)] H = some (.int .i64 (checkNodesS leaves nodes).2, H) := by
  refine call_at (rs := [.tmp 4]) (N := 14) (fn := Tryz.f202) xk202 xf202 rfl rfl rfl (by simp only [seval, push_cast, List.map_cons, List.map_nil, V.norm, norm1]; rfl) ?_
  have t := fun bs H => gr_checkNodes bs H leaves nodes hl hn hal
  clear hal
  all_goals try (refine zs ?_; repeat' first | apply zs0 | apply zs2 | (intro hc; try have hq := dq hc))

theorem gr_vo1 (bs : List Nat) (H : Heap) (leaves : List Int) (i : Nat) (n w : Int) (a : Nat) (hi : leaves[i]? = some w) (hA : H[a]? = some (.cells [.list (leaves.map (.int .i64))])) : callw X bs 203 [.int .i64 i, .int .i64 n, .ptr a 0] H = some (.int .i64 (if fitsG n w = true then 0 else 2), H) := by
  refine call_at (rs := [.tmp 5]) (N := 13) (fn := Tryz.f203) xk203 xf203 rfl rfl rfl (by simp only [seval, push_cast, List.map_cons, List.map_nil, V.norm, norm1]; rfl) ?_
  all_goals try (refine zs ?_; repeat' first | apply zs0 | apply zs2 | (intro hc; try have hq := dq hc))

theorem gr_valuesOf (bs : List Nat) (H : Heap) (leaves lv : List Int) (nodes : List Node) (hll : leaves.length ≤ 1000000) (hn : nodes.length ≤ 1000000) (hal : ∀ x ∈ nodes, x.args.length ≤ 1000000) (hc : (checkNodesS leaves nodes).2 = 0) (hl : LeafOk leaves lv) : callw X bs 148 [.list (leaves.map (.int .i64)), .list (nodes.map encNode), .list (lv.map (.int .i64))] H = some (.tuple [.list ((valsL nodes lv nodes.length).map (.int .i64)), .int .i64 0], H) := by
  refine call_at (rs := [.tmp 6, .tmp 7]) (N := 37) (fn := Tryz.f148) xk148 xf148 rfl rfl rfl (by simp only [seval, push_cast, List.map_cons, List.map_nil, V.norm, norm1]; rfl) ?_
  have t1 := fun bs H => gr_graphErr bs H leaves nodes hll hn hal
  rw [hc] at t1
  have hlen := hl.1
  have d : decide ((lv.length : Int) = (leaves.length : Int)) = true := decide_eq_true (by omega)
  have hw := leaves_of hc
  have t2 := fun (bs : List Nat) rest => graph_each_Int_p bs (H ++ .cells [.list (leaves.map (.int .i64))] :: rest) 203 [.ptr H.length 0] (fun i n => if fitsG n (at0 leaves i) = true then 0 else 2) lv (by omega)
    (fun bs i x junk hx => by
      have hi : i < leaves.length := by rw [← hlen]; exact (List.getElem?_eq_some_iff.1 hx).1
      have hg : leaves[i]? = some leaves[i] := by simp [hi]
      have := gr_vo1 bs ((H ++ .cells [.list (leaves.map (.int .i64))] :: rest) ++ junk) leaves i x leaves[i] H.length hg (by simp)
      rw [at0_get hg]
      exact this)
  rw [eachP_none _ lv 0 (fun j x hx => by
    have hi : j < leaves.length := by rw [← hlen]; exact (List.getElem?_eq_some_iff.1 hx).1
    have hg : leaves[j]? = some leaves[j] := by simp [hi]
    rw [Nat.zero_add, at0_get hg, if_pos]
    exact fitsG_in (hw j _ hg).1 (hw j _ hg).2 (hl.2 j _ _ hg hx))] at t2
  simp only [show encInt = V.int .i64 from rfl] at t2
  have t3 := fun bs H => gr_valued bs H leaves lv nodes hn hal (goodAll_of hc) hl
  clear hal hl hw hc
  repeat' first
   | (apply z51 (id := 1) (ord := [0, 1, 3, 4, 5, 6, 7, 2, 8, 9, 10, 11]) (ps := [(4, 7)]) <;> first | kernel_rfl | skip)
   | (refine zs ?_; repeat' first | apply zs0 | apply zs2 | (intro hc; try have hq := dq hc)) | fail
end Go.E
/- Contracts of the package netlist, in E: a clock. Own work. -/
namespace Go.E
open Go.Proofs
set_option maxRecDepth 100000
set_option maxHeartbeats 4000000

theorem known_call {cx : Cx} {bs : List Nat} {f : Nat} {fn : Func} {c : Code} {args : List V} {H : Heap} {v : V} (hf : cx.P.funcs[f]? = some fn) (hb : fn.body = some c) (hk : cx.keep f = true) (h : cx.known f (args.map V.norm) = some v) :
    callw cx bs f args H = some (v, H) := by
  refine callw_body ?_
  unfold evBody
  simp only [hf, hb, hk, if_true, h, Option.map_some]
theorem all_ints1 (l : List Int) : (l.map (V.int .i64)).all (fun e => e.cells.length == 1 && e.cells.all V.isCell) = true := by
  rw [List.all_eq_true]
  intro e he
  obtain ⟨i, _, rfl⟩ := List.mem_map.1 he
  rfl
theorem kn_concat (bs : List Nat) (H : Heap) (a b : List Int) (t : Nat) (h : a.length + b.length ≤ 1000000) :
    callw X bs 149 [.tl t [.list (a.map (.int .i64)), .list (b.map (.int .i64))]] H = some (.list ((a ++ b).map (.int .i64)), H) := by
  refine known_call (fn := Tryz.f149) xf149 rfl rfl ?_
  show concatV 1 [.list [.list (a.map (.int .i64)), .list (b.map (.int .i64))]] = _
  have hp : V.pureL ((a ++ b).map (V.int .i64)) = true := pureL_int _ _
  have ha := all_ints1 (a ++ b)
  simp only [concatV, concatL, Option.map_some, Option.bind_some, List.append_nil, ← List.map_append]
  rw [if_pos ⟨by simpa using h, by simp, hp, ha⟩]

section
variable (n : Netl) (vals state : List Int)
theorem ck_outs (bs : List Nat) (H : Heap) (c t2 t3 : HObj) (hl : n.outs.length ≤ 1000) (hn : ∀ o ∈ n.outs, 0 ≤ o.node ∧ o.node < vals.length) :
    ∀ i ρ H', i ≤ n.outs.length → (∃ os junk, os = (n.outs.take i).map (fun o => at0 vals o.node.toNat) ∧ H' = H ++ c :: .tok os.length :: t2 :: t3 :: junk ∧ ρ 6 = .tl (H.length + 1) (os.map (.int .i64)) ∧ ρ 8 = .list (vals.map (.int .i64)) ∧
        ρ 31 = .list (n.outs.map encOutp) ∧ ρ 32 = .int .i64 n.outs.length ∧ ρ 33 = .int .i64 i) →
      Lp X ⟨77, bs⟩ (loopAt Tryz.f93 0) ρ H' fun ex ρ' H' => ∃ os junk, os = outsS n vals ∧ H' = H ++ c :: .tok os.length :: t2 :: t3 :: junk ∧ ex = .exit 0 ∧ ρ' 6 = .tl (H.length + 1) (os.map (.int .i64)) := by
  refine loop_up ?_ ?_
  · rintro i ρ H' hi ⟨os, junk, hos, rfl, h6, h8, h31, h32, h33⟩
    have hget : n.outs[i]? = some n.outs[i] := by simp [hi]
    have hm := hn n.outs[i] (List.getElem_mem hi)
    have htk : n.outs.take (i + 1) = n.outs.take i ++ [n.outs[i]] := by rw [List.take_add_one, hget]; rfl
    generalize n.outs[i] = o at hget hm htk
    obtain ⟨nm, nd⟩ := o
    simp only at hm htk
    obtain ⟨m, rfl⟩ : ∃ m : Nat, nd = m := ⟨nd.toNat, by omega⟩
    have hlt : m < vals.length := by omega
    have hget2 : vals[m]? = some vals[m] := by simp [hlt]
    have hsn : (n.outs.take (i + 1)).map (fun o => at0 vals o.node.toNat) = os ++ [vals[m]] := by
      rw [htk, List.map_append, ← hos]; simp [at0, hlt]
    generalize vals[m] = z at hget2 hsn
    have hlen : os.length = i := by rw [hos]; simp; omega
    have hroom := room8 os.length (by omega)
    have hw := add1 i n.outs.length hi (by omega)
    replace hos : Kp (os = (n.outs.take i).map (fun o => at0 vals o.node.toNat)) := ⟨hos⟩
    replace hsn : Kp ((n.outs.take (i + 1)).map (fun o => at0 vals o.node.toNat) = os ++ [z]) := ⟨hsn⟩
    replace hlen : Kp (os.length = i) := ⟨hlen⟩
    clear htk hm hlt hn
    conv => arg 3; whnf
    repeat' first
     | (apply z51 (id := 1) (ord := [0, 1, 3, 4, 5, 6, 7, 8, 2, 9, 10, 11, 12, 13, 14, 15]) (ps := [(4, 8), (4, 9), (7, 8)]) <;> first | kernel_rfl | skip)
     | (refine zs ?_; repeat' first | apply zs0 | apply zs2 | (intro hc; try have hq := dq hc)) | fail
    exact ⟨os ++ [z], _, hsn.out.symm, by simp only [List.length_append, List.length_singleton]; rfl, by simp [push_cast], by (simp only [seval, push_cast, *] <;> rfl), by (simp only [seval, push_cast, *] <;> rfl), by (simp only [seval, push_cast, *] <;> rfl), by (simp only [seval, push_cast, *] <;> rfl)⟩
  · rintro ρ H' ⟨os, junk, hos, rfl, h6, h8, h31, h32, h33⟩
    rw [List.take_length] at hos
    replace hos : Kp (os = n.outs.map (fun o => at0 vals o.node.toNat)) := ⟨hos⟩
    clear hn
    conv => arg 3; whnf
    repeat' first
     | (apply z51 (id := 1) (ord := [0, 1, 3, 4, 5, 6, 7, 8, 2, 9, 10, 11, 12, 13, 14, 15]) (ps := [(4, 8), (4, 9), (7, 8)]) <;> first | kernel_rfl | skip)
     | (refine zs ?_; repeat' first | apply zs0 | apply zs2 | (intro hc; try have hq := dq hc)) | fail
    exact ⟨os, junk, hos.out, rfl, rfl, by (simp only [seval, push_cast, *] <;> rfl)⟩

theorem ck_regs (bs : List Nat) (H : Heap) (c t1 t3 : HObj) (hl : n.regs.length ≤ 1000) (hs : state.length = n.regs.length) (hn : ∀ r ∈ n.regs, (0 ≤ r.enable ∧ r.enable < vals.length) ∧ 0 ≤ r.next ∧ r.next < vals.length) :
    ∀ i ρ H', i ≤ n.regs.length → (∃ ns junk, ns = nextL n.regs vals state i ∧ H' = H ++ c :: t1 :: .tok ns.length :: t3 :: junk ∧ ρ 2 = .list (state.map (.int .i64)) ∧ ρ 7 = .tl (H.length + 2) (ns.map (.int .i64)) ∧ ρ 8 = .list (vals.map (.int .i64)) ∧
        ρ 48 = .list (n.regs.map encReg) ∧ ρ 49 = .int .i64 n.regs.length ∧ ρ 50 = .int .i64 i) →
      Lp X ⟨77, bs⟩ (loopAt Tryz.f93 1) ρ H' fun ex ρ' H' => ∃ ns junk, ns = nextL n.regs vals state n.regs.length ∧ H' = H ++ c :: t1 :: .tok ns.length :: t3 :: junk ∧ ex = .exit 2 ∧ ρ' 7 = .tl (H.length + 2) (ns.map (.int .i64)) := by
  refine loop_up ?_ ?_
  · rintro i ρ H' hi ⟨ns, junk, hns, rfl, h2, h7, h8, h48, h49, h50⟩
    have hget : n.regs[i]? = some n.regs[i] := by simp [hi]
    have hm := hn n.regs[i] (List.getElem_mem hi)
    have hsn := nextL_succ n.regs vals state i n.regs[i] hget
    generalize n.regs[i] = r at hget hm hsn
    obtain ⟨nm, wd, ini, en, nx⟩ := r
    simp only at hm
    obtain ⟨e, rfl⟩ : ∃ m : Nat, en = m := ⟨en.toNat, by omega⟩
    obtain ⟨x, rfl⟩ : ∃ m : Nat, nx = m := ⟨nx.toNat, by omega⟩
    have he : e < vals.length := by omega
    have hx : x < vals.length := by omega
    have hst : i < state.length := by omega
    have ge : vals[e]? = some vals[e] := by simp [he]
    have gx : vals[x]? = some vals[x] := by simp [hx]
    have gs : state[i]? = some state[i] := by simp [hst]
    have hv : nextV vals state i ⟨nm, wd, ini, e, x⟩ = if vals[e] = 1 then vals[x] else state[i] := by simp [nextV, at0, he, hx, hst]
    rw [hv, ← hns] at hsn
    clear hv
    generalize vals[e] = ve at ge hsn
    generalize vals[x] = vx at gx hsn
    generalize state[i] = si at gs hsn
    have hlen : ns.length = i := by rw [hns]; exact nextL_len _ _ _ i
    have hroom := room8 ns.length (by omega)
    have hw := add1 i n.regs.length hi (by omega)
    replace hns : Kp (ns = nextL n.regs vals state i) := ⟨hns⟩
    replace hlen : Kp (ns.length = i) := ⟨hlen⟩
    clear hm he hx hst hn hs
    by_cases h1 : ve = 1
    · have d : decide (ve = 1) = true := decide_eq_true h1
      rw [if_pos h1] at hsn
      replace hsn : Kp (nextL n.regs vals state (i + 1) = ns ++ [vx]) := ⟨hsn⟩
      clear h1
      conv => arg 3; whnf
      repeat' first
       | (apply z51 (id := 1) (ord := [0, 1, 3, 4, 5, 6, 7, 8, 2, 9, 10, 11, 12, 13, 14, 15]) (ps := [(4, 8), (4, 9), (7, 8)]) <;> first | kernel_rfl | skip)
       | (refine zs ?_; repeat' first | apply zs0 | apply zs2 | (intro hc; try have hq := dq hc)) | fail
      exact ⟨ns ++ [vx], _, hsn.out.symm, by simp only [List.length_append, List.length_singleton]; rfl, by (simp only [seval, push_cast, *] <;> rfl), by simp [push_cast], by (simp only [seval, push_cast, *] <;> rfl), by (simp only [seval, push_cast, *] <;> rfl), by (simp only [seval, push_cast, *] <;> rfl), by (simp only [seval, push_cast, *] <;> rfl)⟩
    · have d : decide (ve = 1) = false := decide_eq_false h1
      rw [if_neg h1] at hsn
      replace hsn : Kp (nextL n.regs vals state (i + 1) = ns ++ [si]) := ⟨hsn⟩
      clear h1
      conv => arg 3; whnf
      repeat' first
       | (apply z51 (id := 1) (ord := [0, 1, 3, 4, 5, 6, 7, 8, 2, 9, 10, 11, 12, 13, 14, 15]) (ps := [(4, 8), (4, 9), (7, 8)]) <;> first | kernel_rfl | skip)
       | (refine zs ?_; repeat' first | apply zs0 | apply zs2 | (intro hc; try have hq := dq hc)) | fail
      exact ⟨ns ++ [si], _, hsn.out.symm, by simp only [List.length_append, List.length_singleton]; rfl, by (simp only [seval, push_cast, *] <;> rfl), by simp [push_cast], by (simp only [seval, push_cast, *] <;> rfl), by (simp only [seval, push_cast, *] <;> rfl), by (simp only [seval, push_cast, *] <;> rfl), by (simp only [seval, push_cast, *] <;> rfl)⟩
  · rintro ρ H' ⟨ns, junk, hns, rfl, h2, h7, h8, h48, h49, h50⟩
    replace hns : Kp (ns = nextL n.regs vals state n.regs.length) := ⟨hns⟩
    clear hn hs
    conv => arg 3; whnf
    repeat' first
     | (apply z51 (id := 1) (ord := [0, 1, 3, 4, 5, 6, 7, 8, 2, 9, 10, 11, 12, 13, 14, 15]) (ps := [(4, 8), (4, 9), (7, 8)]) <;> first | kernel_rfl | skip)
     | (refine zs ?_; repeat' first | apply zs0 | apply zs2 | (intro hc; try have hq := dq hc)) | fail
    exact ⟨ns, junk, hns.out, rfl, rfl, by (simp only [seval, push_cast, *] <;> rfl)⟩
end
theorem widthsL_len (n : Netl) : (leavesN n).length = n.inputs.length + n.regs.length := by simp [leavesN]

theorem nl_clock (bs : List Nat) (H : Heap) (n : Netl) (ins state : List Int) (hS : Small n) (hk : NetOk n) (hl : LeafOk (leavesN n) (ins ++ state)) (hst : state.length = n.regs.length) : callw X bs 93 [encNetl n, .list (ins.map (.int .i64)), .list (state.map (.int .i64))] H = some (.tuple [.list ((stepN n ins state).1.map (.int .i64)), .list ((stepN n ins state).2.map (.int .i64))], H) := by
  refine call_at (rs := [.tmp 6, .tmp 7]) (N := 77) (fn := Tryz.f93) xk93 xf93 rfl rfl rfl (by simp only [seval, push_cast, List.map_cons, List.map_nil, V.norm, norm1]; rfl) ?_
  have hvl : (valsN n ins state).length = n.nodes.length := valsL_len _ _ _
  have hlen := hl.1
  rw [widthsL_len, List.length_append] at hlen
  have s1 := hS.inputs
  have s2 := hS.regs
  have s3 := hS.nodes
  have s4 := hS.outs
  have t1 := fun bs H => nl_leaves bs H n s1 s2
  have t2 := fun bs H t => kn_concat bs H ins state t (by omega)
  have t3 := fun bs H => gr_valuesOf bs H (leavesN n) (ins ++ state) n.nodes (by rw [widthsL_len]; omega) (by omega) (fun x hx => Nat.le_trans (hS.args x hx) (by omega)) hk.nodes hl
  have l1 := fun (bs : List Nat) (c t2 t3 : HObj) (ρ : Env) => ck_outs n (valsN n ins state) bs H c t2 t3 s4 (fun o ho => by rw [hvl]; exact hk.outs o ho) 0 ρ
  have l2 := fun (bs : List Nat) (c t1 t3 : HObj) (ρ : Env) => ck_regs n (valsN n ins state) state bs H c t1 t3 s2 hst (fun r hr => by rw [hvl]; exact hk.regs r hr) 0 ρ
  simp only [encNetl, cellsNetl] at t1
  unfold stepN
  have hv : valsL n.nodes (ins ++ state) n.nodes.length = valsN n ins state := rfl
  rw [hv] at t3
  generalize valsN n ins state = vals at t3 l1 l2
  generalize leavesN n = lvs at t1 t3
  clear hS hk hl hst hvl hlen s1 s2 s3 s4 hv
  repeat' first
   | (apply z51 (id := 1) (ord := [0, 1, 3, 4, 5, 6, 7, 8, 2, 9, 10, 11, 12, 13, 14, 15]) (ps := [(4, 8), (4, 9), (7, 8)]) <;> first | kernel_rfl | skip)
   | (refine zs ?_; repeat' first | apply zs0 | apply zs2 | (intro hc; try have hq := dq hc)) | fail
  refine lp_then (lp_any (c := loopAt Tryz.f93 0) rfl (l1 _ _ _ _ _ _ (by omega) ⟨[], [], rfl, rfl, by (simp only [seval, push_cast, *] <;> rfl), by (simp only [seval, push_cast, *] <;> rfl), by (simp only [seval, push_cast, *] <;> rfl), by (simp only [seval, push_cast, *] <;> rfl), by (simp only [seval, push_cast, *] <;> rfl)⟩)) ?_
  rintro ex ρ' H' ⟨os, junk, hos, rfl, rfl, h6⟩ hf
  have f2 := hf 2 rfl
  have f3 := hf 3 rfl
  have f7 := hf 7 rfl
  have f8 := hf 8 rfl
  simp only [seval, push_cast] at f2 f3 f7 f8
  rw [← hos]
  clear l1 hos
  repeat' first
   | (apply z51 (id := 1) (ord := [0, 1, 3, 4, 5, 6, 7, 8, 2, 9, 10, 11, 12, 13, 14, 15]) (ps := [(4, 8), (4, 9), (7, 8)]) <;> first | kernel_rfl | skip)
   | (refine zs ?_; repeat' first | apply zs0 | apply zs2 | (intro hc; try have hq := dq hc)) | fail
  refine lp_then (lp_any (c := loopAt Tryz.f93 1) rfl (l2 _ _ _ _ _ _ (by omega) ⟨[], _, rfl, rfl, by (simp only [seval, push_cast, *] <;> rfl), by (simp only [seval, push_cast, *] <;> rfl), by (simp only [seval, push_cast, *] <;> rfl), by (simp only [seval, push_cast, *] <;> rfl), by (simp only [seval, push_cast, *] <;> rfl), by (simp only [seval, push_cast, *] <;> rfl)⟩)) ?_
  rintro ex ρ'' H'' ⟨ns, junk2, hns, rfl, rfl, h7⟩ hf2
  have f6 := hf2 6 rfl
  simp only [seval, push_cast] at f6
  rw [← hns]
  clear l2 hns
  repeat' first
   | (apply z51 (id := 1) (ord := [0, 1, 3, 4, 5, 6, 7, 8, 2, 9, 10, 11, 12, 13, 14, 15]) (ps := [(4, 8), (4, 9), (7, 8)]) <;> first | kernel_rfl | skip)
   | (refine zs ?_; repeat' first | apply zs0 | apply zs2 | (intro hc; try have hq := dq hc)) | fail
end Go.E
/- Errors of values, sequences of clocks, in plain Lean. Own work. -/
namespace Go.E
def valErrS (ws l : List Int) : Int := if l.length = ws.length then (eachP (fun i n => if fitsN n (at0 ws i) = true then (0 : Int) else 2) 0 l).2 else 10
def inErrS (n : Netl) (l : List Int) : Int := valErrS (n.inputs.map (·.width)) l
def stErrS (n : Netl) (l : List Int) : Int := valErrS (n.regs.map (·.width)) l
def stepErrS (n : Netl) (ins st : List Int) : Int := if (checkNetS n).2 = 0 then firstL [inErrS n ins, stErrS n st] else (checkNetS n).2
def runErrS (n : Netl) (l : List (List Int)) : Int :=
  if (checkNetS n).2 = 0 then (if l.length ≤ 60 then (eachP (fun _ x => inErrS n x) 0 l).2 else 8) else (checkNetS n).2
def stAt (n : Netl) (l : List (List Int)) : Nat → List Int
  | 0 => n.regs.map (·.init)
  | i + 1 => (stepN n (l.getD i []) (stAt n l i)).2
def trAt (n : Netl) (l : List (List Int)) (i : Nat) : List Int := (stepN n (l.getD i []) (stAt n l i)).1
def trL (n : Netl) (l : List (List Int)) : Nat → List (List Int)
  | 0 => []
  | k + 1 => trL n l k ++ [trAt n l k]
def stL (n : Netl) (l : List (List Int)) : Nat → List (List Int)
  | 0 => [stAt n l 0]
  | k + 1 => stL n l k ++ [stAt n l (k + 1)]
theorem trL_len (n : Netl) (l : List (List Int)) : ∀ k, (trL n l k).length = k
  | 0 => rfl
  | k + 1 => by rw [trL, List.length_append, trL_len n l k]; rfl
theorem stL_len (n : Netl) (l : List (List Int)) : ∀ k, (stL n l k).length = k + 1
  | 0 => rfl
  | k + 1 => by rw [stL, List.length_append, stL_len n l k]; rfl
theorem stL_last (n : Netl) (l : List (List Int)) : ∀ k, (stL n l k)[k]? = some (stAt n l k)
  | 0 => rfl
  | k + 1 => by rw [stL, List.getElem?_append_right (by rw [stL_len]; omega), stL_len]; simp
theorem widths_1 {n : Netl} (hk : NetOk n) (j : Nat) (w : Int) (h : (leavesN n)[j]? = some w) : 1 ≤ w ∧ w ≤ 16 := leaves_of hk.nodes j w h
theorem inW_1 {n : Netl} (hk : NetOk n) (w : Int) (h : w ∈ n.inputs.map (·.width)) : 1 ≤ w ∧ w ≤ 16 := by
  obtain ⟨j, hj⟩ := List.getElem?_of_mem (List.mem_append_left (n.regs.map (·.width)) h)
  exact widths_1 hk j w hj
theorem rgW_1 {n : Netl} (hk : NetOk n) (w : Int) (h : w ∈ n.regs.map (·.width)) : 1 ≤ w ∧ w ≤ 16 := by
  obtain ⟨j, hj⟩ := List.getElem?_of_mem (List.mem_append_right (n.inputs.map (·.width)) h)
  exact widths_1 hk j w hj
theorem fitsN_iff {n w : Int} (h1 : 1 ≤ w) (h16 : w ≤ 16) : fitsN n w = true ↔ InW n w := by
  unfold fitsN
  rw [shl1_pow (by omega)]
  have h3 := pow_le (k := w.toNat) (by omega)
  have h4 := pow_pos' w.toNat
  rw [wrap64 (by omega) (by omega)]
  rw [Bool.and_eq_true, decide_eq_true_eq, decide_eq_true_eq]
  unfold InW
  omega
theorem valErr_ok {ws l : List Int} (hw : ∀ w ∈ ws, 1 ≤ w ∧ w ≤ 16) (h : valErrS ws l = 0) : l.length = ws.length ∧ ∀ (j : Nat) w v, ws[j]? = some w → l[j]? = some v → InW v w := by
  unfold valErrS at h
  split at h
  case isFalse => omega
  rename_i hlen
  refine ⟨hlen, fun j w v h1 h2 => ?_⟩
  have := eachP_ok _ l 0 h j v h2
  simp only [Nat.zero_add, at0_get h1] at this
  have h3 := hw w (List.mem_of_getElem? h1)
  split at this
  · rename_i hf; exact (fitsN_iff h3.1 h3.2).1 hf
  · omega
def RegOk (n : Netl) (st : List Int) : Prop := st.length = n.regs.length ∧ ∀ (j : Nat) r v, n.regs[j]? = some r → st[j]? = some v → InW v r.width
theorem regOk_of {n : Netl} (hk : NetOk n) {st : List Int} (h : stErrS n st = 0) : RegOk n st := by
  obtain ⟨h1, h2⟩ := valErr_ok (rgW_1 hk) h
  exact ⟨by simpa using h1, fun j r v hr hv => h2 j r.width v (by simp [hr]) hv⟩
theorem leafOk_of {n : Netl} (hk : NetOk n) {ins st : List Int} (h : inErrS n ins = 0) (hr : RegOk n st) : LeafOk (leavesN n) (ins ++ st) := by
  obtain ⟨h1, h2⟩ := valErr_ok (inW_1 hk) h
  rw [List.length_map] at h1
  refine ⟨by simp [leavesN, h1, hr.1], fun j w v hw hv => ?_⟩
  unfold leavesN at hw
  by_cases hj : j < n.inputs.length
  · rw [List.getElem?_append_left (by simpa using hj)] at hw
    rw [List.getElem?_append_left (by omega)] at hv
    exact h2 j w v hw hv
  · rw [List.getElem?_append_right (by simpa using hj)] at hw
    rw [List.getElem?_append_right (by omega)] at hv
    simp only [List.length_map, List.getElem?_map] at hw
    rw [h1] at hv
    cases hq : n.regs[j - n.inputs.length]? with
    | none => rw [hq] at hw; simp at hw
    | some r =>
      rw [hq] at hw
      simp at hw
      subst hw
      exact hr.2 _ r v hq hv
theorem regOk_reset {n : Netl} (hk : NetOk n) : RegOk n (n.regs.map (·.init)) := by
  refine ⟨by simp, fun j r v hr hv => ?_⟩
  simp [hr] at hv
  subst hv
  have hm := List.mem_of_getElem? hr
  have h3 := rgW_1 hk r.width (List.mem_map_of_mem hm)
  exact (fitsN_iff h3.1 h3.2).1 (hk.init r hm)
theorem nextL_at (regs : List Reg) (vals state : List Int) (k : Nat) : ∀ (j : Nat) r, j < k → regs[j]? = some r → (nextL regs vals state k)[j]? = some (nextV vals state j r) := by
  induction k with
  | zero => intro j r hj; omega
  | succ k ih =>
    intro j r hj hr
    rw [nextL]
    by_cases hjk : j < k
    · rw [List.getElem?_append_left (by rw [nextL_len]; exact hjk)]; exact ih j r hjk hr
    · obtain rfl : j = k := by omega
      rw [List.getElem?_append_right (by rw [nextL_len]; omega), nextL_len, hr]; simp
theorem regOk_next {n : Netl} (hk : NetOk n) {ins st : List Int} (h : inErrS n ins = 0) (hr : RegOk n st) : RegOk n (stepN n ins st).2 := by
  have hl := leafOk_of hk h hr
  refine ⟨nextL_len _ _ _ _, fun j r v hj hv => ?_⟩
  have hjl : j < n.regs.length := (List.getElem?_eq_some_iff.1 hj).1
  have e := nextL_at n.regs (valsN n ins st) st n.regs.length j r hjl hj
  simp only [stepN] at hv
  rw [e] at hv
  cases hv
  have hm := List.mem_of_getElem? hj
  unfold nextV
  split
  · obtain ⟨_, a, b⟩ := hk.regs r hm
    have h2 : r.next.toNat < n.nodes.length := by omega
    have h3 := vals_ok (goodAll_of hk.nodes) hl n.nodes.length (Nat.le_refl _) r.next.toNat n.nodes[r.next.toNat] h2 (by simp [h2])
    have h4 := hk.next r hm
    unfold widthAt at h4
    rw [List.getElem?_eq_getElem h2] at h4
    simp only at h4
    rw [h4] at h3
    exact h3
  · have hs : j < st.length := by rw [hr.1]; exact hjl
    rw [at0_get (l := st) (i := j) (v := st[j]) (by simp [hs])]
    exact hr.2 j r _ hj (by simp [hs])
theorem run_ok {n : Netl} (hk : NetOk n) {l : List (List Int)} (h : (eachP (fun _ x => inErrS n x) 0 l).2 = 0) : ∀ i, i ≤ l.length → RegOk n (stAt n l i) := by
  intro i
  induction i with
  | zero => intro _; exact regOk_reset hk
  | succ i ih =>
    intro hi
    have hx : l[i]? = some l[i] := by simp [show i < l.length by omega]
    have e : l.getD i [] = l[i] := by simp [List.getD, hx]
    have := eachP_ok _ l 0 h i _ hx
    rw [stAt, e]
    exact regOk_next hk this (ih (by omega))
end Go.E
/- Contracts of the package netlist, in E: errors of values, a clock with its errors. Own work. -/
namespace Go.E
open Go.Proofs
set_option maxRecDepth 100000
set_option maxHeartbeats 4000000

theorem z43 {cx : Cx} {n0 : Nat} {H' : Heap} {ρ : Env} {H1 : Heap} {r1 r2 r3 : ResultVar} {u1 u2 u3 v1 v2 v3 : V} (h1 : resV cx.P ρ H1 r1 = some u1) (h2 : resV cx.P ρ H1 r2 = some u2) (h3 : resV cx.P ρ H1 r3 = some u3)
    (k1 : frz 6 n0 H1 u1 = some v1) (k2 : frz 6 n0 H1 u2 = some v2) (k3 : frz 6 n0 H1 u3 = some v3) (hh : H1.take n0 = H') : Leaf cx [r1, r2, r3] n0 (.tuple [v1, v2, v3]) H' .ret ρ H1 :=
  by unfold Leaf; exact ⟨trivial, [u1, u2, u3], [v1, v2, v3], by simp [h1, h2, h3], by simp [k1, k2, k3], rfl, hh⟩
theorem slice_hi (l : List Int) (k : Nat) (hk : k ≤ l.length) : sliceV Tryz.prog 34 (.list (l.map (.int .i64))) none (some (.int .i64 (k : Int))) none = some (.list ((l.take k).map (.int .i64))) := by
  simp [sliceV, Tryz.underlying34, sz3, boundV, idxV, hk, List.map_take]
  exact fun x _ => rfl
theorem slice_lo (l : List Int) (k : Nat) (hk : k ≤ l.length) : sliceV Tryz.prog 34 (.list (l.map (.int .i64))) (some (.int .i64 (k : Int))) none none = some (.list ((l.drop k).map (.int .i64))) := by
  simp [sliceV, Tryz.underlying34, sz3, boundV, idxV, hk, List.map_drop]
  exact ⟨fun x _ => rfl, by rw [List.take_of_length_le (by simp)]⟩

theorem nl_ve1 (bs : List Nat) (H : Heap) (ws : List Int) (i : Nat) (n w : Int) (a : Nat) (hi : ws[i]? = some w) (hw : 0 ≤ w) (hA : H[a]? = some (.cells [.list (ws.map (.int .i64))])) : callw X bs 201 [.int .i64 i, .int .i64 n, .ptr a 0] H = some (.int .i64 (if fitsN n w = true then 0 else 2), H) := by
  refine call_at (rs := [.tmp 5]) (N := 13) (fn := Tryz.f201) xk201 xf201 rfl rfl rfl (by simp only [seval, push_cast, List.map_cons, List.map_nil, V.norm, norm1]; rfl) ?_
  have t := fun bs H => nl_fits bs H n w hw
  clear hw
  all_goals try (refine zs ?_; repeat' first | apply zs0 | apply zs2 | (intro hc; try have hq := dq hc))

theorem nl_valuesErr (bs : List Nat) (H : Heap) (ws l : List Int) (hws : ws.length ≤ 1000000) (hl : l.length ≤ 1000000) (hw : ∀ w ∈ ws, 0 ≤ w) : callw X bs 147 [.list (ws.map (.int .i64)), .list (l.map (.int .i64))] H = some (.int .i64 (valErrS ws l), H) := by
  refine call_at (rs := [.tmp 4]) (N := 19) (fn := Tryz.f147) xk147 xf147 rfl rfl rfl (by simp only [seval, push_cast, List.map_cons, List.map_nil, V.norm, norm1]; rfl) ?_
  unfold valErrS
  by_cases h : l.length = ws.length
  · have d : (decide ¬ (l.length : Int) = (ws.length : Int)) = false := decide_eq_false (by omega)
    have t2 := fun (bs : List Nat) rest => netlist_each_Int_p bs (H ++ .cells [.list (ws.map (.int .i64))] :: rest) 201 [.ptr H.length 0] (fun i n => if fitsN n (at0 ws i) = true then (0 : Int) else 2) l (by omega)
      (fun bs i x junk hx => by
        have hi : i < ws.length := by rw [← h]; exact (List.getElem?_eq_some_iff.1 hx).1
        have hg : ws[i]? = some ws[i] := by simp [hi]
        have := nl_ve1 bs ((H ++ .cells [.list (ws.map (.int .i64))] :: rest) ++ junk) ws i x ws[i] H.length hg (hw _ (List.getElem_mem hi)) (by simp)
        simp only [at0_get hg]
        exact this)
    simp only [show encInt = V.int .i64 from rfl] at t2
    rw [if_pos h]
    generalize eachP (fun i n => if fitsN n (at0 ws i) = true then (0 : Int) else 2) 0 l = r at t2 ⊢
    clear hw h
    all_goals try (refine zs ?_; repeat' first | apply zs0 | apply zs2 | (intro hc; try have hq := dq hc))
  · have d : (decide ¬ (l.length : Int) = (ws.length : Int)) = true := decide_eq_true (by omega)
    rw [if_neg h]
    clear hw h
    all_goals try (refine zs ?_; repeat' first | apply zs0 | apply zs2 | (intro hc; try have hq := dq hc))

theorem in_take (n : Netl) : (leavesN n).take n.inputs.length = n.inputs.map (·.width) := by
  unfold leavesN; rw [List.take_left' (by simp)]
theorem in_drop (n : Netl) : (leavesN n).drop n.inputs.length = n.regs.map (·.width) := by
  unfold leavesN; rw [List.drop_left' (by simp)]
theorem nl_inputsErr (bs : List Nat) (H : Heap) (n : Netl) (l : List Int) (hi : n.inputs.length ≤ 1000) (hr : n.regs.length ≤ 1000) (hl : l.length ≤ 1000000) (hw : ∀ w ∈ n.inputs.map (·.width), 0 ≤ w) : callw X bs 91 [encNetl n, .list (l.map (.int .i64))] H = some (.int .i64 (inErrS n l), H) := by
  refine call_at (rs := [.tmp 4]) (N := 15) (fn := Tryz.f91) xk91 xf91 rfl rfl rfl (by simp only [seval, push_cast, List.map_cons, List.map_nil, V.norm, norm1]; rfl) ?_
  have t1 := fun bs H => nl_leaves bs H n hi hr
  have t2 := slice_hi (leavesN n) n.inputs.length (by simp [leavesN])
  rw [in_take] at t2
  have t3 := fun bs H => nl_valuesErr bs H (n.inputs.map (·.width)) l (by simp; omega) hl hw
  simp only [encNetl, cellsNetl] at t1
  unfold inErrS
  generalize n.inputs.map (fun p : Port => p.width) = ws at t2 t3 ⊢
  generalize leavesN n = lvs at t1 t2
  clear hw
  repeat' first
   | (apply z51 (id := 1) (ord := [0, 1, 3, 4, 5, 6, 8, 2, 7, 9, 10]) (ps := [(4, 7)]) <;> first | kernel_rfl | skip)
   | (refine zs ?_; repeat' first | apply zs0 | apply zs2 | (intro hc; try have hq := dq hc)) | fail

theorem nl_stateErr (bs : List Nat) (H : Heap) (n : Netl) (l : List Int) (hi : n.inputs.length ≤ 1000) (hr : n.regs.length ≤ 1000) (hl : l.length ≤ 1000000) (hw : ∀ w ∈ n.regs.map (·.width), 0 ≤ w) : callw X bs 92 [encNetl n, .list (l.map (.int .i64))] H = some (.int .i64 (stErrS n l), H) := by
  refine call_at (rs := [.tmp 4]) (N := 15) (fn := Tryz.f92) xk92 xf92 rfl rfl rfl (by simp only [seval, push_cast, List.map_cons, List.map_nil, V.norm, norm1]; rfl) ?_
  have t1 := fun bs H => nl_leaves bs H n hi hr
  have t2 := slice_lo (leavesN n) n.inputs.length (by simp [leavesN])
  rw [in_drop] at t2
  have t3 := fun bs H => nl_valuesErr bs H (n.regs.map (·.width)) l (by simp; omega) hl hw
  simp only [encNetl, cellsNetl] at t1
  unfold stErrS
  generalize n.regs.map (fun p : Reg => p.width) = ws at t2 t3 ⊢
  generalize leavesN n = lvs at t1 t2
  clear hw
  repeat' first
   | (apply z51 (id := 1) (ord := [0, 1, 3, 4, 5, 6, 8, 2, 7, 9, 10]) (ps := [(4, 7)]) <;> first | kernel_rfl | skip)
   | (refine zs ?_; repeat' first | apply zs0 | apply zs2 | (intro hc; try have hq := dq hc)) | fail

theorem nl_stepOf (bs : List Nat) (H : Heap) (n : Netl) (ins st : List Int) (hS : Small n) (hi : ins.length ≤ 100000) (hs : st.length ≤ 100000) : callw X bs 19 [encNetl n, .list (ins.map (.int .i64)), .list (st.map (.int .i64))] H = some (.tuple [.list (if stepErrS n ins st = 0 then (stepN n ins st).1.map (.int .i64) else []), .list (if stepErrS n ins st = 0 then (stepN n ins st).2.map (.int .i64) else []), .int .i64 (stepErrS n ins st)], H) := by
  refine call_at (rs := [.tmp 6, .tmp 7, .tmp 8]) (N := 40) (fn := Tryz.f19) xk19 xf19 rfl rfl rfl (by simp only [seval, push_cast, List.map_cons, List.map_nil, V.norm, norm1]; rfl) ?_
  have h1 := fun bs H => nl_open bs H n hS
  simp only [encNetl, cellsNetl] at h1
  by_cases hc : (checkNetS n).2 = 0
  · have hk := net_ok hc
    have t1 := fun bs H => nl_inputsErr bs H n ins hS.inputs hS.regs (by omega) (fun w hw => by have := inW_1 hk w hw; omega)
    have t2 := fun bs H => nl_stateErr bs H n st hS.inputs hS.regs (by omega) (fun w hw => by have := rgW_1 hk w hw; omega)
    simp only [encNetl, cellsNetl] at t1 t2
    have he : stepErrS n ins st = firstL [inErrS n ins, stErrS n st] := if_pos hc
    by_cases h0 : firstL [inErrS n ins, stErrS n st] = 0
    · have z1 : inErrS n ins = 0 := by
        rw [firstL_2] at h0; split at h0
        · rename_i a; exact absurd h0 a
        · rename_i a; simpa using a
      have z2 : stErrS n st = 0 := by rw [firstL_2, z1] at h0; simpa using h0
      have hr := regOk_of hk z2
      have t3 := fun bs H => nl_clock bs H n ins st hS hk (leafOk_of hk z1 hr) hr.1
      simp only [encNetl, cellsNetl] at t3
      rw [he, h0]
      simp only [z1, z2, hc, if_true] at t1 t2 h1 ⊢
      clear hk hr hS h0 he z1 z2
      repeat' first
       | (apply z51 (id := 3) (ord := [0, 1, 3, 4, 2, 5, 6, 7, 8]) (ps := [(2, 4)]) <;> first | kernel_rfl | skip)
       | (refine zs ?_; repeat' first | apply zs0 | apply zs2 | (intro hc; try have hq := dq hc)) | fail
      all_goals (apply z43; (simp only [seval, push_cast, *]; with_reducible rfl); (simp only [seval, push_cast, *]; with_reducible rfl); (simp only [seval, push_cast, *]; with_reducible rfl); all_goals (first | (simp only [seval, push_cast, *] <;> fail) | (simp only [seval, push_cast] <;> fail) | (rw [frz_pure rfl] <;> (simp [*] <;> fail))))
    · rw [he]
      simp only [if_neg h0, hc] at h1 ⊢
      rw [firstL_2] at h0 ⊢
      generalize inErrS n ins = a at t1 h0 ⊢
      generalize stErrS n st = b at t2 h0 ⊢
      clear hk hS he
      by_cases ha : a = 0
      · subst ha
        have hb : ¬ b = 0 := by simpa using h0
        simp only [ne_eq, not_true_eq_false, if_false] at h0 ⊢
        repeat' first
         | (apply z51 (id := 3) (ord := [0, 1, 3, 4, 2, 5, 6, 7, 8]) (ps := [(2, 4)]) <;> first | kernel_rfl | skip)
         | (refine zs ?_; repeat' first | apply zs0 | apply zs2 | (intro hc; try have hq := dq hc)) | fail
        all_goals (apply z43; (simp only [seval, push_cast, *]; with_reducible rfl); (simp only [seval, push_cast, *]; with_reducible rfl); (simp only [seval, push_cast, *]; with_reducible rfl); all_goals (first | (simp only [seval, push_cast, *] <;> fail) | (simp only [seval, push_cast] <;> fail) | (rw [frz_pure rfl] <;> (simp [*] <;> fail))))
      · simp only [ne_eq, ha, not_false_eq_true, if_true] at h0 ⊢
        repeat' first
         | (apply z51 (id := 3) (ord := [0, 1, 3, 4, 2, 5, 6, 7, 8]) (ps := [(2, 4)]) <;> first | kernel_rfl | skip)
         | (refine zs ?_; repeat' first | apply zs0 | apply zs2 | (intro hc; try have hq := dq hc)) | fail
        all_goals (apply z43; (simp only [seval, push_cast, *]; with_reducible rfl); (simp only [seval, push_cast, *]; with_reducible rfl); (simp only [seval, push_cast, *]; with_reducible rfl); all_goals (first | (simp only [seval, push_cast, *] <;> fail) | (simp only [seval, push_cast] <;> fail) | (rw [frz_pure rfl] <;> (simp [*] <;> fail))))
  · have he : stepErrS n ins st = (checkNetS n).2 := if_neg hc
    rw [he]
    simp only [if_neg hc]
    clear hS he
    repeat' first
     | (apply z51 (id := 3) (ord := [0, 1, 3, 4, 2, 5, 6, 7, 8]) (ps := [(2, 4)]) <;> first | kernel_rfl | skip)
     | (refine zs ?_; repeat' first | apply zs0 | apply zs2 | (intro hc; try have hq := dq hc)) | fail
    all_goals (apply z43; (simp only [seval, push_cast, *]; with_reducible rfl); (simp only [seval, push_cast, *]; with_reducible rfl); (simp only [seval, push_cast, *]; with_reducible rfl); all_goals (first | (simp only [seval, push_cast, *] <;> fail) | (simp only [seval, push_cast] <;> fail) | (rw [frz_pure rfl] <;> (simp [*] <;> fail))))
end Go.E
/- Contracts of the package netlist, in E: used, UsedIn. Own work. -/
namespace Go.E
open Go.Proofs
set_option maxRecDepth 100000
set_option maxHeartbeats 4000000

theorem nl_used (bs : List Nat) (H : Heap) (n : Netl) (hS : Small n) (hk : NetOk n) : callw X bs 99 [encNetl n] H = some (.tuple [.list ((usedRb n).map .bool), .list ((usedNb n).map .bool)], H) := by
  refine call_at (rs := [.cell 2 134, .cell 3 134]) (N := 103) (fn := Tryz.f99) xk99 xf99 rfl rfl rfl (by simp only [seval, push_cast, List.map_cons, List.map_nil, V.norm, norm1]; rfl) ?_
  have h0 : UInv n ⟨List.replicate n.regs.length false, markAll (List.replicate n.nodes.length false) (n.outs.map (·.node)), true⟩ := by
    have hz : ∀ (m i : Nat), bAt (List.replicate m false) i = false := fun m i => by simp only [bAt, List.getD_eq_getElem?_getD, List.getElem?_replicate]; split <;> rfl
    refine ⟨by simp, by simp [markAll_len], fun i hi => ?_, fun k hi => ?_, fun o ho => markAll_in _ (List.mem_map.2 ⟨o, ho, rfl⟩) (by have := hk.outs o ho; simp; omega), fun k r hi => ?_⟩
    · rcases markAll_inv _ hi with h | ⟨a, ha, rfl⟩
      · rw [hz] at h; cases h
      · obtain ⟨o, ho, rfl⟩ := List.mem_map.1 ha
        exact .out o ho
    · rw [hz] at hi; cases hi
    · rw [hz] at hi; cases hi
  have l0 := fun bs r1 ra ρ => us_outs n H hk bs r1 ra (List.replicate n.nodes.length false) (by simp) (by have := hS.outs; omega) 0 ρ
  have l1 := fun bs ρ H' => us_pass n H hS hk bs ⟨List.replicate n.regs.length false, markAll (List.replicate n.nodes.length false) (n.outs.map (·.node)), true⟩ ρ H'
  have s1 := hS.regs
  have s2 := hS.nodes
  simp only [cellsNetl] at l0
  replace h0 : Kp _ := ⟨h0⟩
  have r1 : n.regs.length ≤ roomB := by unfold roomB; omega
  have r2 := room_int (n := n.regs.length) (by omega)
  have r3 : n.nodes.length ≤ roomB := by unfold roomB; omega
  have r4 := room_int (n := n.nodes.length) (by omega)
  have m1 : Kp (∀ m, List.replicate m (V.bool false) = (List.replicate m false).map .bool) := ⟨fun m => by rw [List.map_replicate]⟩
  clear hS hk
  repeat' first
   | (apply z51 (id := 1) (ord := [0, 1, 2, 3, 4, 5, 6, 7, 8, 9, 10, 11]) (ps := [(7, 10), (9, 10)]) <;> first | kernel_rfl | skip)
   | (apply z51 (id := 22) (ord := [0, 1, 2, 3, 4, 5, 6, 7, 8, 9, 10, 11, 12, 13, 14, 15, 16, 17, 18, 19]) (ps := [(8, 17)]) <;> first | kernel_rfl | skip)
   | (apply z51 (id := 25) (ord := [0, 1, 2, 3]) (ps := [(1, 2)]) <;> first | kernel_rfl | skip)
   | (refine zs ?_; repeat' first | apply zs0 | apply zs2 | (intro hc; try have hq := dq hc)) | fail
  rw [m1.out, m1.out]
  refine lp_then (lp_any (c := loopAt Tryz.f99 0) rfl (l0 _ _ _ _ _ (by omega) ⟨List.replicate n.nodes.length false, [], rfl, rfl, by (simp only [seval, push_cast, *] <;> rfl), by (simp only [seval, push_cast, *] <;> rfl), by (simp only [seval, push_cast, *] <;> rfl), by (simp only [seval, push_cast, *] <;> rfl)⟩)) ?_
  rintro ex ρ' H' ⟨nb, J, rfl, rfl, rfl⟩ hf
  have f1 := hf 1 rfl
  have f2 := hf 2 rfl
  have f3 := hf 3 rfl
  simp only [seval, push_cast] at f1 f2 f3
  clear hf l0 m1
  repeat' first
   | (apply z51 (id := 1) (ord := [0, 1, 2, 3, 4, 5, 6, 7, 8, 9, 10, 11]) (ps := [(7, 10), (9, 10)]) <;> first | kernel_rfl | skip)
   | (apply z51 (id := 22) (ord := [0, 1, 2, 3, 4, 5, 6, 7, 8, 9, 10, 11, 12, 13, 14, 15, 16, 17, 18, 19]) (ps := [(8, 17)]) <;> first | kernel_rfl | skip)
   | (apply z51 (id := 25) (ord := [0, 1, 2, 3]) (ps := [(1, 2)]) <;> first | kernel_rfl | skip)
   | (refine zs ?_; repeat' first | apply zs0 | apply zs2 | (intro hc; try have hq := dq hc)) | fail
  refine lp_then (lp_any (c := loopAt Tryz.f99 1) rfl (l1 _ _ _ ⟨h0.out, fun h => (by cases h), J, by simp only [usHeap, cellsNetl], by (simp only [seval, push_cast, *] <;> rfl), by (simp only [seval, push_cast, *] <;> rfl), by (simp only [seval, push_cast, *] <;> rfl), by simp only [seval, push_cast]⟩)) ?_
  rintro ex ρ2 H' ⟨s, J2, e1, e2, rfl, rfl⟩ hf
  have g1 := hf 1 rfl
  have g2 := hf 2 rfl
  have g3 := hf 3 rfl
  simp only [seval, push_cast, f1, f2, f3] at g1 g2 g3
  have k1 : (usedRb n).length = n.regs.length := by simp [usedRb]
  have k2 : (usedNb n).length = n.nodes.length := by simp [usedNb]
  unfold usHeap
  rw [e1, e2, ← k1, ← k2]
  clear hf l1 h0 f1 f2 f3 k1 k2 e1 e2
  repeat' first
   | (apply z51 (id := 1) (ord := [0, 1, 2, 3, 4, 5, 6, 7, 8, 9, 10, 11]) (ps := [(7, 10), (9, 10)]) <;> first | kernel_rfl | skip)
   | (apply z51 (id := 22) (ord := [0, 1, 2, 3, 4, 5, 6, 7, 8, 9, 10, 11, 12, 13, 14, 15, 16, 17, 18, 19]) (ps := [(8, 17)]) <;> first | kernel_rfl | skip)
   | (apply z51 (id := 25) (ord := [0, 1, 2, 3]) (ps := [(1, 2)]) <;> first | kernel_rfl | skip)
   | (refine zs ?_; repeat' first | apply zs0 | apply zs2 | (intro hc; try have hq := dq hc)) | fail

def idxB : Nat → List Bool → List Int
  | _, [] => []
  | i, b :: r => if b = true then (i : Int) :: idxB (i + 1) r else idxB (i + 1) r
theorem idxB_snoc (b : Bool) : ∀ (l : List Bool) (i : Nat), idxB i (l ++ [b]) = idxB i l ++ (if b = true then [((i + l.length : Nat) : Int)] else [])
  | [], i => by cases b <;> simp [idxB]
  | c :: r, i => by
    simp only [List.cons_append, idxB, idxB_snoc b r (i + 1), List.length_cons]
    have e : i + 1 + r.length = i + (r.length + 1) := by omega
    cases c <;> simp [e]
theorem idxB_len : ∀ (l : List Bool) (i : Nat), (idxB i l).length ≤ l.length
  | [], i => by simp [idxB]
  | c :: r, i => by
    have := idxB_len r (i + 1)
    simp only [idxB, List.length_cons]
    split <;> simp <;> omega
theorem nl_indexes (bs : List Nat) (H : Heap) (l : List Bool) (hl : l.length ≤ 1000) : callw X bs 100 [.list (l.map .bool)] H = some (.list ((idxB 0 l).map (.int .i64)), H) := by
  refine call_at (rs := [.tmp 2]) (N := 20) (fn := Tryz.f100) xk100 xf100 rfl rfl rfl (by simp only [seval, push_cast, List.map_cons, List.map_nil, V.norm, norm1]; rfl) ?_
  have key : ∀ (t : HObj) (bs : List Nat) i ρ H', i ≤ l.length → (∃ ws junk, ws = idxB 0 (l.take i) ∧ H' = H ++ t :: .tok ws.length :: junk ∧ ρ 3 = .tl (H.length + 1) (ws.map (.int .i64)) ∧ ρ 6 = .list (l.map .bool) ∧ ρ 7 = .int .i64 l.length ∧ ρ 8 = .int .i64 i) →
      Lp X ⟨20, bs⟩ (loopAt Tryz.f100 0) ρ H' fun ex ρ' H' => ∃ ws junk, ws = idxB 0 l ∧ H' = H ++ t :: .tok ws.length :: junk ∧ ρ' 3 = .tl (H.length + 1) (ws.map (.int .i64)) ∧ ex = .exit 0 := by
    intro t bs
    refine loop_up ?_ ?_
    · rintro i ρ H' hi ⟨ws, junk, hws, rfl, h3, h6, h7, h8⟩
      have hget : l[i]? = some l[i] := by simp [hi]
      have htk : l.take (i + 1) = l.take i ++ [l[i]] := by rw [List.take_add_one, hget]; rfl
      generalize l[i] = b at hget htk
      have hlen : ws.length ≤ 1000 := by rw [hws]; have := idxB_len (l.take i) 0; simp at this; omega
      have hroom := room8 ws.length (by omega)
      have hw := add1 i l.length hi (by omega)
      have hsn : Kp (idxB 0 (l.take (i + 1)) = ws ++ (if b = true then [(i : Int)] else [])) := ⟨by rw [htk, idxB_snoc, ← hws]; simp [Nat.le_of_lt hi]⟩
      clear hws htk hlen
      cases b with
      | true =>
        conv => arg 3; whnf
        all_goals try (refine zs ?_; repeat' first | apply zs0 | apply zs2 | (intro hc; try have hq := dq hc))
        exact ⟨ws ++ [(i : Int)], _, hsn.out.symm, by simp only [List.length_append, List.length_singleton]; rfl, by simp [push_cast], by (simp only [seval, push_cast, *] <;> rfl), by (simp only [seval, push_cast, *] <;> rfl), by (simp only [seval, push_cast, *] <;> rfl)⟩
      | false =>
        conv => arg 3; whnf
        all_goals try (refine zs ?_; repeat' first | apply zs0 | apply zs2 | (intro hc; try have hq := dq hc))
        exact ⟨ws, _, by rw [hsn.out]; simp, rfl, by (simp only [seval, push_cast, *] <;> rfl), by (simp only [seval, push_cast, *] <;> rfl), by (simp only [seval, push_cast, *] <;> rfl), by (simp only [seval, push_cast, *] <;> rfl)⟩
    · rintro ρ H' ⟨ws, junk, hws, rfl, h3, h6, h7, h8⟩
      rw [List.take_length] at hws
      replace hws : Kp _ := ⟨hws⟩
      conv => arg 3; whnf
      all_goals try (refine zs ?_; repeat' first | apply zs0 | apply zs2 | (intro hc; try have hq := dq hc))
      exact ⟨ws, junk, hws.out, rfl, by (simp only [seval, push_cast, *] <;> rfl), rfl⟩
  all_goals try (refine zs ?_; repeat' first | apply zs0 | apply zs2 | (intro hc; try have hq := dq hc))
  refine lp_then (lp_any (c := loopAt Tryz.f100 0) rfl (key _ _ 0 _ _ (by omega) ⟨[], [], rfl, rfl, by (simp only [seval, push_cast, *] <;> rfl), by (simp only [seval, push_cast, *] <;> rfl), by (simp only [seval, push_cast, *] <;> rfl), by (simp only [seval, push_cast, *] <;> rfl)⟩)) ?_
  rintro ex ρ' H' ⟨ws, junk, rfl, rfl, h3, rfl⟩ -
  clear key
  all_goals try (refine zs ?_; repeat' first | apply zs0 | apply zs2 | (intro hc; try have hq := dq hc))

theorem nl_usedIn (bs : List Nat) (H : Heap) (n : Netl) (hS : Small n) : callw X bs 31 [encNetl n] H = some (.tuple [.list (if (checkNetS n).2 = 0 then (idxB 0 (usedRb n)).map (.int .i64) else []), .list (if (checkNetS n).2 = 0 then (idxB 0 (usedNb n)).map (.int .i64) else []), .int .i64 (checkNetS n).2], H) := by
  refine call_at (rs := [.tmp 2, .tmp 3, .tmp 4]) (N := 26) (fn := Tryz.f31) xk31 xf31 rfl rfl rfl (by simp only [seval, push_cast, List.map_cons, List.map_nil, V.norm, norm1]; rfl) ?_
  have h1 := fun bs H => nl_open bs H n hS
  by_cases hc : (checkNetS n).2 = 0
  case neg =>
    simp only [encNetl, cellsNetl] at h1
    simp only [if_neg hc]
    generalize (checkNetS n).2 = e at h1 hc ⊢
    clear hS
    all_goals try (refine zs ?_; repeat' first | apply zs0 | apply zs2 | (intro hc; try have hq := dq hc))
    all_goals (apply z43; (simp only [seval, push_cast, *]; with_reducible rfl); (simp only [seval, push_cast, *]; with_reducible rfl); (simp only [seval, push_cast, *]; with_reducible rfl); all_goals (first | (simp only [seval, push_cast, *] <;> fail) | (simp only [seval, push_cast] <;> fail) | (rw [frz_pure rfl] <;> (simp [*] <;> fail))))
  have h2 := fun bs H => nl_used bs H n hS (net_ok hc)
  have s1 := hS.regs
  have s2 := hS.nodes
  have k1 : (usedRb n).length = n.regs.length := by simp [usedRb]
  have k2 : (usedNb n).length = n.nodes.length := by simp [usedNb]
  have h3 := fun bs H => nl_indexes bs H (usedRb n) (by omega)
  have h4 := fun bs H => nl_indexes bs H (usedNb n) (by omega)
  simp only [encNetl, cellsNetl] at h1 h2
  rw [hc] at h1
  simp only [hc, if_true]
  generalize usedRb n = rb at h2 h3 k1 ⊢
  generalize usedNb n = nb at h2 h4 k2 ⊢
  clear hS hc
  all_goals try (refine zs ?_; repeat' first | apply zs0 | apply zs2 | (intro hc; try have hq := dq hc))
  all_goals (apply z43; (simp only [seval, push_cast, *]; with_reducible rfl); (simp only [seval, push_cast, *]; with_reducible rfl); (simp only [seval, push_cast, *]; with_reducible rfl); all_goals (first | (simp only [seval, push_cast, *] <;> fail) | (simp only [seval, push_cast] <;> fail) | (rw [frz_pure rfl] <;> (simp [*] <;> fail))))
end Go.E
/- Contracts of the references' base, in E: numbers, names, nodes. Own work. -/
namespace Go.E
open Go.Proofs
set_option maxRecDepth 100000
set_option maxHeartbeats 4000000

theorem or19 {k : Nat} (h : k < 19) : k = 0 ∨ k = 1 ∨ k = 2 ∨ k = 3 ∨ k = 4 ∨ k = 5 ∨ k = 6 ∨ k = 7 ∨ k = 8 ∨ k = 9 ∨ k = 10 ∨ k = 11 ∨ k = 12 ∨ k = 13 ∨ k = 14 ∨ k = 15 ∨ k = 16 ∨ k = 17 ∨ k = 18 := by omega
theorem argC0 : argC 0 = 0 := rfl
theorem argC1 : argC 1 = 0 := rfl
theorem argC2 : argC 2 = 1 := rfl
theorem argC3 : argC 3 = 2 := rfl
theorem argC4 : argC 4 = 2 := rfl
theorem argC5 : argC 5 = 2 := rfl
theorem argC6 : argC 6 = 2 := rfl
theorem argC7 : argC 7 = 2 := rfl
theorem argC8 : argC 8 = 2 := rfl
theorem argC9 : argC 9 = 2 := rfl
theorem argC10 : argC 10 = 2 := rfl
theorem argC11 : argC 11 = 2 := rfl
theorem argC12 : argC 12 = 3 := rfl
theorem argC13 : argC 13 = 2 := rfl
theorem argC14 : argC 14 = 1 := rfl
theorem argC15 : argC 15 = 1 := rfl
theorem argC16 : argC 16 = 1 := rfl
theorem argC17 : argC 17 = 2 := rfl
theorem argC18 : argC 18 = 2 := rfl
attribute [push_cast] argC0 argC1 argC2 argC3 argC4 argC5 argC6 argC7 argC8 argC9 argC10 argC11 argC12 argC13 argC14 argC15 argC16 argC17 argC18
theorem bs_argCount0 (bs : List Nat) (H : Heap) (k : Nat) (n : Int) (h : k < 19) (hn : n = (k : Int)) : callw X bs 198 [.int .i64 n] H = some (.int .i64 (argC k : Nat), H) := by
  refine call_at (rs := [.tmp 2]) (N := 14) (fn := Tryz.f198) xk198 xf198 rfl rfl rfl (by simp only [seval, push_cast, List.map_cons, List.map_nil, V.norm, norm1]; rfl) ?_
  rcases or19 h with rfl | rfl | rfl | rfl | rfl | rfl | rfl | rfl | rfl | rfl | rfl | rfl | rfl | rfl | rfl | rfl | rfl | rfl | rfl
  all_goals clear h
  all_goals try (refine zs ?_; repeat' first | apply zs0 | apply zs2 | (intro hc; try have hq := dq hc))

end Go.E
/- Contracts of the references' base, in E: nodes. Own work. -/
namespace Go.E
open Go.Proofs
set_option maxRecDepth 100000
set_option maxHeartbeats 4000000

theorem bs_widths (bs : List Nat) (H : Heap) (x : Node) (nodes : List Node) (hl : x.args.length ≤ 1000000) (hargs : ∀ n ∈ x.args, 0 ≤ n ∧ n < nodes.length) :
    ∀ i ρ H', i ≤ x.args.length → (∃ ws, ws = widthsOf nodes (x.args.take i) ∧ H' = H ++ [.cells [.int .i64 x.op, .int .i64 x.width, .list (x.args.map (.int .i64)), .int .i64 x.value], .tok ws.length] ∧ ρ 0 = .list (nodes.map encNode) ∧ ρ 3 = .ptr H.length 0 ∧ ρ 5 = .tl (H.length + 1) (ws.map (.int .i64)) ∧ ρ 6 = .int .i64 i) →
      Lp X ⟨133, bs⟩ (loopAt Tryz.f199 0) ρ H' fun ex ρ' H' => H' = H ++ [.cells [.int .i64 x.op, .int .i64 x.width, .list (x.args.map (.int .i64)), .int .i64 x.value], .tok x.args.length] ∧ ex = .exit 0 ∧ ρ' 5 = .tl (H.length + 1) ((widthsOf nodes x.args).map (.int .i64)) := by
  refine loop_up ?_ ?_
  · rintro i ρ H' hi ⟨ws, hws, rfl, h0, h3, h5, h6⟩
    have hget : x.args[i]? = some x.args[i] := by simp [hi]
    have hm := hargs x.args[i] (List.getElem_mem hi)
    have htk : x.args.take (i + 1) = x.args.take i ++ [x.args[i]] := by rw [List.take_add_one, hget]; rfl
    generalize x.args[i] = n at hget hm htk
    obtain ⟨m, rfl⟩ : ∃ m : Nat, n = m := ⟨n.toNat, by omega⟩
    have hlt : m < nodes.length := by omega
    have hget2 : nodes[m]? = some nodes[m] := by simp [hlt]
    have hsn := widthsOf_snoc nodes (x.args.take i) m nodes[m] (by simp)
    generalize nodes[m] = y at hget2 hsn
    have hlen : ws.length = i := by rw [hws]; simp [widthsOf]; omega
    have hroom := room8 ws.length (by omega)
    have hw := add1 i x.args.length hi hl
    rw [← hws, ← htk] at hsn
    replace hsn : Kp (widthsOf nodes (x.args.take (i + 1)) = ws ++ [y.width]) := ⟨hsn⟩
    clear htk hm hws hlen hargs
    conv => arg 3; whnf
    repeat' first
     | (apply z50 (id := 8) (ord := [0, 1, 2, 3, 4, 5, 6]) <;> first | kernel_rfl | skip)
     | (apply z50 (id := 15) (ord := [0, 1, 2, 3, 4, 5, 6, 7, 8, 9, 10, 11, 12, 13, 14]) <;> first | kernel_rfl | skip)
     | (apply z50 (id := 19) (ord := [0, 1, 2, 3, 4, 5, 6, 7, 8, 9, 10, 11, 12]) <;> first | kernel_rfl | skip)
     | (apply z50 (id := 21) (ord := [0, 1, 2, 3, 4, 5, 6, 7, 8, 9, 10, 11, 12, 13, 14, 15, 16, 17, 18, 19, 20]) <;> first | kernel_rfl | skip)
     | (apply z50 (id := 23) (ord := [0, 1, 2, 3, 4, 5, 6, 7, 8, 9, 10]) <;> first | kernel_rfl | skip)
     | (apply z50 (id := 25) (ord := [0, 1, 2, 3, 4, 5, 6, 7, 8, 9]) <;> first | kernel_rfl | skip)
     | (apply z50 (id := 28) (ord := [0, 1, 2, 3, 4, 5, 6]) <;> first | kernel_rfl | skip)
     | (apply z50 (id := 29) (ord := [0, 1, 2, 3, 4, 5, 6]) <;> first | kernel_rfl | skip)
     | (refine zs ?_; repeat' first | apply zs0 | apply zs2 | (intro hc; try have hq := dq hc)) | fail
    exact ⟨ws ++ [y.width], hsn.out.symm, by simp, by (simp only [seval, push_cast, *] <;> rfl), by (simp only [seval, push_cast, *] <;> rfl), by simp [push_cast], by (simp only [seval, push_cast, *] <;> rfl)⟩
  · rintro ρ H' ⟨ws, hws, rfl, h0, h3, h5, h6⟩
    rw [List.take_length] at hws
    have hlen : ws.length = x.args.length := by rw [hws]; simp [widthsOf]
    replace hws : Kp (ws = widthsOf nodes x.args) := ⟨hws⟩
    replace hlen : Kp (ws.length = x.args.length) := ⟨hlen⟩
    clear hargs
    conv => arg 3; whnf
    repeat' first
     | (apply z50 (id := 8) (ord := [0, 1, 2, 3, 4, 5, 6]) <;> first | kernel_rfl | skip)
     | (apply z50 (id := 15) (ord := [0, 1, 2, 3, 4, 5, 6, 7, 8, 9, 10, 11, 12, 13, 14]) <;> first | kernel_rfl | skip)
     | (apply z50 (id := 19) (ord := [0, 1, 2, 3, 4, 5, 6, 7, 8, 9, 10, 11, 12]) <;> first | kernel_rfl | skip)
     | (apply z50 (id := 21) (ord := [0, 1, 2, 3, 4, 5, 6, 7, 8, 9, 10, 11, 12, 13, 14, 15, 16, 17, 18, 19, 20]) <;> first | kernel_rfl | skip)
     | (apply z50 (id := 23) (ord := [0, 1, 2, 3, 4, 5, 6, 7, 8, 9, 10]) <;> first | kernel_rfl | skip)
     | (apply z50 (id := 25) (ord := [0, 1, 2, 3, 4, 5, 6, 7, 8, 9]) <;> first | kernel_rfl | skip)
     | (apply z50 (id := 28) (ord := [0, 1, 2, 3, 4, 5, 6]) <;> first | kernel_rfl | skip)
     | (apply z50 (id := 29) (ord := [0, 1, 2, 3, 4, 5, 6]) <;> first | kernel_rfl | skip)
     | (refine zs ?_; repeat' first | apply zs0 | apply zs2 | (intro hc; try have hq := dq hc)) | fail
    exact ⟨by rw [hlen.out], rfl, by rw [← hws.out]; (simp only [seval, push_cast, *] <;> rfl)⟩

theorem len1 {l : List Int} (h : l.length = 1) : ∃ a, l = [a] := by match l, h with | [a], _ => exact ⟨a, rfl⟩
theorem len2 {l : List Int} (h : l.length = 2) : ∃ a b, l = [a, b] := by match l, h with | [a, b], _ => exact ⟨a, b, rfl⟩
theorem len3 {l : List Int} (h : l.length = 3) : ∃ a b c, l = [a, b, c] := by match l, h with | [a, b, c], _ => exact ⟨a, b, c, rfl⟩
theorem bs_widthsFit (bs : List Nat) (H : Heap) (x : Node) (nodes : List Node) (k : Nat) (hk : x.op = (k : Int)) (hk19 : k < 19) (hk2 : 2 ≤ k) (ha : x.args.length = argC k) (hargs : ∀ n ∈ x.args, 0 ≤ n ∧ n < nodes.length) : callw X bs 199 [.list (nodes.map encNode), encNode x] H = some (.bool (fitsS k x.width (widthsOf nodes x.args) x.value), H) := by
  refine call_at (rs := [.tmp 4]) (N := 133) (fn := Tryz.f199) xk199 xf199 rfl rfl rfl (by simp only [seval, push_cast, List.map_cons, List.map_nil, V.norm, norm1]; rfl) ?_
  have hloop := fun bs ρ => bs_widths bs H x nodes (by rw [ha]; have := argC_le k; omega) hargs 0 ρ
  have hwl : (widthsOf nodes x.args).length = argC k := by simpa [widthsOf] using ha
  generalize hg : widthsOf nodes x.args = ws at hwl
  rw [hg] at hloop
  rw [hk] at hloop
  clear hargs ha
  rcases or19 hk19 with rfl | rfl | rfl | rfl | rfl | rfl | rfl | rfl | rfl | rfl | rfl | rfl | rfl | rfl | rfl | rfl | rfl | rfl | rfl
  all_goals try (exfalso; omega)
  all_goals clear hk19 hk2
  repeat' first
   | (apply z50 (id := 8) (ord := [0, 1, 2, 3, 4, 5, 6]) <;> first | kernel_rfl | skip)
   | (apply z50 (id := 15) (ord := [0, 1, 2, 3, 4, 5, 6, 7, 8, 9, 10, 11, 12, 13, 14]) <;> first | kernel_rfl | skip)
   | (apply z50 (id := 19) (ord := [0, 1, 2, 3, 4, 5, 6, 7, 8, 9, 10, 11, 12]) <;> first | kernel_rfl | skip)
   | (apply z50 (id := 21) (ord := [0, 1, 2, 3, 4, 5, 6, 7, 8, 9, 10, 11, 12, 13, 14, 15, 16, 17, 18, 19, 20]) <;> first | kernel_rfl | skip)
   | (apply z50 (id := 23) (ord := [0, 1, 2, 3, 4, 5, 6, 7, 8, 9, 10]) <;> first | kernel_rfl | skip)
   | (apply z50 (id := 25) (ord := [0, 1, 2, 3, 4, 5, 6, 7, 8, 9]) <;> first | kernel_rfl | skip)
   | (apply z50 (id := 28) (ord := [0, 1, 2, 3, 4, 5, 6]) <;> first | kernel_rfl | skip)
   | (apply z50 (id := 29) (ord := [0, 1, 2, 3, 4, 5, 6]) <;> first | kernel_rfl | skip)
   | (refine zs ?_; repeat' first | apply zs0 | apply zs2 | (intro hc; try have hq := dq hc)) | fail
  all_goals refine lp_then (lp_any (c := loopAt Tryz.f199 0) rfl (hloop _ _ _ (by omega) ⟨[], rfl, rfl, by (simp only [seval, push_cast, *] <;> rfl), by (simp only [seval, push_cast, *] <;> rfl), by (simp only [seval, push_cast, *] <;> rfl), by (simp only [seval, push_cast, *] <;> rfl)⟩)) ?_
  all_goals clear hloop
  all_goals rintro ex ρ' H' ⟨rfl, rfl, h5⟩ hf
  all_goals have f3 := hf 3 rfl
  all_goals simp only [seval, push_cast] at f3
  all_goals clear hf hg
  all_goals first | (obtain ⟨w0, rfl⟩ := len1 hwl) | (obtain ⟨w0, w1, rfl⟩ := len2 hwl) | (obtain ⟨w0, w1, w2, rfl⟩ := len3 hwl)
  all_goals clear hwl
  all_goals simp only [fitsS, at0, List.getD_cons_zero, List.getD_cons_succ, List.any_cons, List.any_nil, Bool.or_false]
  all_goals try clear hk
  repeat' first
   | (apply z50 (id := 8) (ord := [0, 1, 2, 3, 4, 5, 6]) <;> first | kernel_rfl | skip)
   | (apply z50 (id := 15) (ord := [0, 1, 2, 3, 4, 5, 6, 7, 8, 9, 10, 11, 12, 13, 14]) <;> first | kernel_rfl | skip)
   | (apply z50 (id := 19) (ord := [0, 1, 2, 3, 4, 5, 6, 7, 8, 9, 10, 11, 12]) <;> first | kernel_rfl | skip)
   | (apply z50 (id := 21) (ord := [0, 1, 2, 3, 4, 5, 6, 7, 8, 9, 10, 11, 12, 13, 14, 15, 16, 17, 18, 19, 20]) <;> first | kernel_rfl | skip)
   | (apply z50 (id := 23) (ord := [0, 1, 2, 3, 4, 5, 6, 7, 8, 9, 10]) <;> first | kernel_rfl | skip)
   | (apply z50 (id := 25) (ord := [0, 1, 2, 3, 4, 5, 6, 7, 8, 9]) <;> first | kernel_rfl | skip)
   | (apply z50 (id := 28) (ord := [0, 1, 2, 3, 4, 5, 6]) <;> first | kernel_rfl | skip)
   | (apply z50 (id := 29) (ord := [0, 1, 2, 3, 4, 5, 6]) <;> first | kernel_rfl | skip)
   | (refine zs ?_; repeat' first | apply zs0 | apply zs2 | (intro hc; try have hq := dq hc)) | fail

end Go.E
/- Contracts of the references' base, in E: errors of nodes. Own work. -/
namespace Go.E
open Go.Proofs
set_option maxRecDepth 100000
set_option maxHeartbeats 4000000

def oddP (i : Nat) (n : Int) : Bool := !(decide (0 ≤ n) && decide (n ≤ (i : Int) - 1))
theorem bs_odd (bs : List Nat) (H : Heap) (x : Node) (i : Nat) (hl : x.args.length ≤ 1000000) (hi : i ≤ 1000000) (R : Bool) :
    ∀ j ρ H', j ≤ x.args.length → (H' = H ++ [.cells [.int .i64 x.op, .int .i64 x.width, .list (x.args.map (.int .i64)), .int .i64 x.value]] ∧ ρ 2 = .int .i64 i ∧ ρ 7 = .ptr H.length 0 ∧ ρ 8 = .int .i64 j ∧ Kp ((x.args.drop j).any (oddP i) = R)) →
      Lp X ⟨84, bs⟩ (loopAt Tryz.f146 0) ρ H' fun ex ρ' H' => H' = H ++ [.cells [.int .i64 x.op, .int .i64 x.width, .list (x.args.map (.int .i64)), .int .i64 x.value]] ∧ ((ex = .exit 0 ∧ R = false) ∨ (ex = .ret ∧ ρ' 6 = .int .i64 9 ∧ R = true)) := by
  have hi1 := sub1 i hi
  refine loop_up ?_ ?_
  · rintro j ρ H' hj ⟨rfl, h2, h7, h8, hR⟩
    have hget : x.args[j]? = some x.args[j] := by simp [hj]
    generalize x.args[j] = n at hget
    have hw := add1 j x.args.length hj hl
    replace hR := hR.out
    rw [drop_cons hget, List.any_cons] at hR
    replace hR : Kp ((oddP i n || (x.args.drop (j + 1)).any (oddP i)) = R) := ⟨hR⟩
    conv => arg 3; whnf
    repeat' first
     | (apply z51 (id := 6) (ord := [0, 1, 2, 3, 4, 5, 6]) (ps := [(1, 5)]) <;> first | kernel_rfl | skip)
     | (apply z50 (id := 23) (ord := [0, 1, 2, 3, 4, 5, 6, 7]) <;> first | kernel_rfl | skip)
     | (refine zs ?_; repeat' first | apply zs0 | apply zs2 | (intro hc; try have hq := dq hc)) | fail
    all_goals replace hR := hR.out
    all_goals unfold oddP at hR
    · rw [hc] at hR
      exact ⟨rfl, .inr ⟨rfl, by (simp only [seval, push_cast, *] <;> rfl), by rw [← hR]; rfl⟩⟩
    · rw [hc] at hR
      exact ⟨rfl, by (simp only [seval, push_cast, *] <;> rfl), by (simp only [seval, push_cast, *] <;> rfl), by (simp only [seval, push_cast, *] <;> rfl), ⟨by rw [← hR]; rfl⟩⟩
  · rintro ρ H' ⟨rfl, h2, h7, h8, hR⟩
    replace hR := hR.out
    rw [List.drop_length, List.any_nil] at hR
    replace hR : Kp (false = R) := ⟨hR⟩
    conv => arg 3; whnf
    repeat' first
     | (apply z51 (id := 6) (ord := [0, 1, 2, 3, 4, 5, 6]) (ps := [(1, 5)]) <;> first | kernel_rfl | skip)
     | (apply z50 (id := 23) (ord := [0, 1, 2, 3, 4, 5, 6, 7]) <;> first | kernel_rfl | skip)
     | (refine zs ?_; repeat' first | apply zs0 | apply zs2 | (intro hc; try have hq := dq hc)) | fail
    exact ⟨rfl, .inl ⟨rfl, hR.out.symm⟩⟩

theorem bs_nodeErr (bs : List Nat) (H : Heap) (leaves : List Int) (nodes : List Node) (i : Nat) (x : Node) (hx : nodes[i]? = some x) (hl : leaves.length ≤ 1000000) (hn : nodes.length ≤ 1000000) (hal : x.args.length ≤ 1000000) : callw X bs 146 [.list (leaves.map (.int .i64)), .list (nodes.map encNode), .int .i64 i] H = some (.int .i64 (nodeErrS leaves nodes i x), H) := by
  refine call_at (rs := [.tmp 6]) (N := 84) (fn := Tryz.f146) xk146 xf146 rfl rfl rfl (by simp only [seval, push_cast, List.map_cons, List.map_nil, V.norm, norm1]; rfl) ?_
  have hi : i < nodes.length := (List.getElem?_eq_some_iff.1 hx).1
  unfold nodeErrS
  by_cases hop : 0 ≤ x.op ∧ x.op ≤ 18
  case neg =>
    have hb : (decide (0 ≤ x.op) && decide (x.op ≤ 18)) = false := by rw [Bool.and_eq_false_iff, decide_eq_false_iff_not, decide_eq_false_iff_not]; omega
    rw [if_pos hop]
    clear hop
    repeat' first
     | (apply z51 (id := 6) (ord := [0, 1, 2, 3, 4, 5, 6]) (ps := [(1, 5)]) <;> first | kernel_rfl | skip)
     | (apply z50 (id := 23) (ord := [0, 1, 2, 3, 4, 5, 6, 7]) <;> first | kernel_rfl | skip)
     | (refine zs ?_; repeat' first | apply zs0 | apply zs2 | (intro hc; try have hq := dq hc)) | fail
  rw [if_neg (by simpa using hop)]
  obtain ⟨k, hk⟩ : ∃ k : Nat, x.op = k := ⟨x.op.toNat, by omega⟩
  have hk19 : k < 19 := by omega
  have hk18 : (k : Int) ≤ 18 := by omega
  rw [hk, Int.toNat_natCast]
  have hac := fun bs H => bs_argCount0 bs H k x.op hk19 hk
  rw [hk] at hac
  cases hw : isW x.width with
  | false =>
    rw [if_pos rfl]
    unfold isW at hw
    clear hop
    repeat' first
     | (apply z51 (id := 6) (ord := [0, 1, 2, 3, 4, 5, 6]) (ps := [(1, 5)]) <;> first | kernel_rfl | skip)
     | (apply z50 (id := 23) (ord := [0, 1, 2, 3, 4, 5, 6, 7]) <;> first | kernel_rfl | skip)
     | (refine zs ?_; repeat' first | apply zs0 | apply zs2 | (intro hc; try have hq := dq hc)) | fail
  | true =>
  rw [if_neg (by simp)]
  have hw0 : 0 ≤ x.width := by simp only [isW, Bool.and_eq_true, decide_eq_true_eq] at hw; omega
  unfold isW at hw
  by_cases hlen : x.args.length = argC k
  case neg =>
    have dl : ¬ ((x.args.length : Int) = ((argC k : Nat) : Int)) := by omega
    rw [if_pos hlen]
    clear hop hlen
    repeat' first
     | (apply z51 (id := 6) (ord := [0, 1, 2, 3, 4, 5, 6]) (ps := [(1, 5)]) <;> first | kernel_rfl | skip)
     | (apply z50 (id := 23) (ord := [0, 1, 2, 3, 4, 5, 6, 7]) <;> first | kernel_rfl | skip)
     | (refine zs ?_; repeat' first | apply zs0 | apply zs2 | (intro hc; try have hq := dq hc)) | fail
  rw [if_neg (by simpa using hlen)]
  have dl : (x.args.length : Int) = ((argC k : Nat) : Int) := by omega
  have hloop := fun bs ρ => bs_odd bs H x i hal (by omega) (x.args.any (oddP i)) 0 ρ
  rw [hk] at hloop
  have hodd : x.args.any (fun n => !(decide (0 ≤ n) && decide (n ≤ (i : Int) - 1))) = x.args.any (oddP i) := rfl
  rw [hodd]
  have dl2 : Kp ((x.args.length : Int) = ((argC k : Nat) : Int)) := ⟨dl⟩
  have dl3 : decide ((x.args.length : Int) = ((argC k : Nat) : Int)) = true := decide_eq_true dl
  clear hop hodd dl
  repeat' first
   | (apply z51 (id := 6) (ord := [0, 1, 2, 3, 4, 5, 6]) (ps := [(1, 5)]) <;> first | kernel_rfl | skip)
   | (apply z50 (id := 23) (ord := [0, 1, 2, 3, 4, 5, 6, 7]) <;> first | kernel_rfl | skip)
   | (refine zs ?_; repeat' first | apply zs0 | apply zs2 | (intro hc; try have hq := dq hc)) | fail
  refine lp_then (lp_any (c := loopAt Tryz.f146 0) rfl (hloop _ _ _ (by omega) ⟨rfl, by (simp only [seval, push_cast, *] <;> rfl), by (simp only [seval, push_cast, *] <;> rfl), by (simp only [seval, push_cast, *] <;> rfl), ⟨rfl⟩⟩)) ?_
  clear hloop
  rintro ex ρ' H' ⟨rfl, ⟨rfl, ho⟩ | ⟨rfl, h6, ho⟩⟩ hf
  case inr =>
    rw [ho, if_pos rfl]
    repeat' first
     | (apply z51 (id := 6) (ord := [0, 1, 2, 3, 4, 5, 6]) (ps := [(1, 5)]) <;> first | kernel_rfl | skip)
     | (apply z50 (id := 23) (ord := [0, 1, 2, 3, 4, 5, 6, 7]) <;> first | kernel_rfl | skip)
     | (refine zs ?_; repeat' first | apply zs0 | apply zs2 | (intro hc; try have hq := dq hc)) | fail
  rw [ho, if_neg (by simp)]
  have f7 := hf 7 rfl
  have f0 := hf 0 rfl
  have f1 := hf 1 rfl
  simp only [seval, push_cast] at f7 f0 f1
  clear hf
  have hargs : ∀ n ∈ x.args, 0 ≤ n ∧ n < nodes.length := fun n hnm => by
    rw [List.any_eq_false] at ho
    have := ho n hnm
    simp only [oddP, Bool.not_eq_true', Bool.and_eq_false_iff, decide_eq_false_iff_not, not_or, Decidable.not_not] at this
    omega
  have hlen : x.args.length = argC k := by have := dl2.out; omega
  have hwf := fun bs H (h2 : 2 ≤ k) => bs_widthsFit bs H x nodes k hk hk19 h2 hlen hargs
  have hfits := fun bs H => bs_fits bs H x.value x.width hw0
  simp only [encNode, encInts, hk] at hwf
  clear hargs ho hlen hac dl3
  by_cases h0 : k = 0
  · subst h0
    have hG : fitsG x.value x.width = fitsN x.value x.width := by unfold fitsG fitsN; rw [decide_eq_true hw0]; rfl
    simp only [valueErrS, if_true, hG, fitsS]
    clear hwf hG
    cases hv : fitsN x.value x.width
    · simp only [Bool.false_eq_true, if_false]
      repeat' first
       | (apply z51 (id := 6) (ord := [0, 1, 2, 3, 4, 5, 6]) (ps := [(1, 5)]) <;> first | kernel_rfl | skip)
       | (apply z50 (id := 23) (ord := [0, 1, 2, 3, 4, 5, 6, 7]) <;> first | kernel_rfl | skip)
       | (refine zs ?_; repeat' first | apply zs0 | apply zs2 | (intro hc; try have hq := dq hc)) | fail
    · simp only [if_true]
      repeat' first
       | (apply z51 (id := 6) (ord := [0, 1, 2, 3, 4, 5, 6]) (ps := [(1, 5)]) <;> first | kernel_rfl | skip)
       | (apply z50 (id := 23) (ord := [0, 1, 2, 3, 4, 5, 6, 7]) <;> first | kernel_rfl | skip)
       | (refine zs ?_; repeat' first | apply zs0 | apply zs2 | (intro hc; try have hq := dq hc)) | fail
  have d0 : decide ((k : Int) = 0) = false := nat0 k 0 h0
  by_cases h1 : k = 1
  · subst h1
    have hw := sub1 leaves.length hl
    clear hwf hfits
    simp only [valueErrS, if_true, if_neg h0, fitsS]
    by_cases hv : 0 ≤ x.value ∧ x.value < leaves.length
    · obtain ⟨v, hvv⟩ : ∃ v : Nat, x.value = v := ⟨x.value.toNat, by omega⟩
      have hlt : v < leaves.length := by omega
      have hget : leaves[v]? = some leaves[v] := by simp [hlt]
      have hat : at0 leaves v = leaves[v] := by simp [at0, List.getD, hget]
      rw [if_pos hv, hvv, Int.toNat_natCast, hat]
      have hb : (decide (0 ≤ (v : Int)) && decide ((v : Int) ≤ (leaves.length : Int) - 1)) = true := by rw [Bool.and_eq_true, decide_eq_true_eq, decide_eq_true_eq]; omega
      have hle : (v : Int) ≤ (leaves.length : Int) - 1 := by omega
      clear hv hat
      generalize leaves[v] = y at hget
      by_cases hy : y = x.width
      · rw [if_pos hy]
        repeat' first
         | (apply z51 (id := 6) (ord := [0, 1, 2, 3, 4, 5, 6]) (ps := [(1, 5)]) <;> first | kernel_rfl | skip)
         | (apply z50 (id := 23) (ord := [0, 1, 2, 3, 4, 5, 6, 7]) <;> first | kernel_rfl | skip)
         | (refine zs ?_; repeat' first | apply zs0 | apply zs2 | (intro hc; try have hq := dq hc)) | fail
      · rw [if_neg hy]
        repeat' first
         | (apply z51 (id := 6) (ord := [0, 1, 2, 3, 4, 5, 6]) (ps := [(1, 5)]) <;> first | kernel_rfl | skip)
         | (apply z50 (id := 23) (ord := [0, 1, 2, 3, 4, 5, 6, 7]) <;> first | kernel_rfl | skip)
         | (refine zs ?_; repeat' first | apply zs0 | apply zs2 | (intro hc; try have hq := dq hc)) | fail
    · have hb : (decide (0 ≤ x.value) && decide (x.value ≤ (leaves.length : Int) - 1)) = false := by
        rw [Bool.and_eq_false_iff, decide_eq_false_iff_not, decide_eq_false_iff_not]; omega
      rw [if_neg hv]
      clear hv
      repeat' first
       | (apply z51 (id := 6) (ord := [0, 1, 2, 3, 4, 5, 6]) (ps := [(1, 5)]) <;> first | kernel_rfl | skip)
       | (apply z50 (id := 23) (ord := [0, 1, 2, 3, 4, 5, 6, 7]) <;> first | kernel_rfl | skip)
       | (refine zs ?_; repeat' first | apply zs0 | apply zs2 | (intro hc; try have hq := dq hc)) | fail
  have d1 : decide ((k : Int) = 1) = false := nat0 k 1 h1
  replace hwf := fun bs H => hwf bs H (by omega)
  clear hfits
  generalize hg : fitsS k x.width (widthsOf nodes x.args) x.value = fb at hwf
  by_cases h2 : k = 14
  · subst h2
    clear hg
    have e14 : ((14 : Nat) : Int) = 14 := rfl
    rw [e14] at hwf
    simp only [valueErrS, if_true, if_neg h0, if_neg h1]
    cases hv : (decide (0 ≤ x.value) && decide (x.value ≤ 15))
    · simp only [Bool.false_eq_true, if_false]
      repeat' first
       | (apply z51 (id := 6) (ord := [0, 1, 2, 3, 4, 5, 6]) (ps := [(1, 5)]) <;> first | kernel_rfl | skip)
       | (apply z50 (id := 23) (ord := [0, 1, 2, 3, 4, 5, 6, 7]) <;> first | kernel_rfl | skip)
       | (refine zs ?_; repeat' first | apply zs0 | apply zs2 | (intro hc; try have hq := dq hc)) | fail
    · simp only [if_true]
      cases fb
      · repeat' first
         | (apply z51 (id := 6) (ord := [0, 1, 2, 3, 4, 5, 6]) (ps := [(1, 5)]) <;> first | kernel_rfl | skip)
         | (apply z50 (id := 23) (ord := [0, 1, 2, 3, 4, 5, 6, 7]) <;> first | kernel_rfl | skip)
         | (refine zs ?_; repeat' first | apply zs0 | apply zs2 | (intro hc; try have hq := dq hc)) | fail
      · repeat' first
         | (apply z51 (id := 6) (ord := [0, 1, 2, 3, 4, 5, 6]) (ps := [(1, 5)]) <;> first | kernel_rfl | skip)
         | (apply z50 (id := 23) (ord := [0, 1, 2, 3, 4, 5, 6, 7]) <;> first | kernel_rfl | skip)
         | (refine zs ?_; repeat' first | apply zs0 | apply zs2 | (intro hc; try have hq := dq hc)) | fail
  have d2 : decide ((k : Int) = 14) = false := nat0 k 14 h2
  have hhv : hasV k = false := by
    rcases or19 hk19 with rfl | rfl | rfl | rfl | rfl | rfl | rfl | rfl | rfl | rfl | rfl | rfl | rfl | rfl | rfl | rfl | rfl | rfl | rfl <;> first | rfl | (exfalso; omega)
  simp only [valueErrS, if_neg h0, if_neg h1, if_neg h2, hhv]
  clear h0 h1 h2 hg
  by_cases hv : x.value = 0
  · rw [hv] at hwf
    cases fb
    · repeat' first
       | (apply z51 (id := 6) (ord := [0, 1, 2, 3, 4, 5, 6]) (ps := [(1, 5)]) <;> first | kernel_rfl | skip)
       | (apply z50 (id := 23) (ord := [0, 1, 2, 3, 4, 5, 6, 7]) <;> first | kernel_rfl | skip)
       | (refine zs ?_; repeat' first | apply zs0 | apply zs2 | (intro hc; try have hq := dq hc)) | fail
    · repeat' first
       | (apply z51 (id := 6) (ord := [0, 1, 2, 3, 4, 5, 6]) (ps := [(1, 5)]) <;> first | kernel_rfl | skip)
       | (apply z50 (id := 23) (ord := [0, 1, 2, 3, 4, 5, 6, 7]) <;> first | kernel_rfl | skip)
       | (refine zs ?_; repeat' first | apply zs0 | apply zs2 | (intro hc; try have hq := dq hc)) | fail
  · cases fb
    · repeat' first
       | (apply z51 (id := 6) (ord := [0, 1, 2, 3, 4, 5, 6]) (ps := [(1, 5)]) <;> first | kernel_rfl | skip)
       | (apply z50 (id := 23) (ord := [0, 1, 2, 3, 4, 5, 6, 7]) <;> first | kernel_rfl | skip)
       | (refine zs ?_; repeat' first | apply zs0 | apply zs2 | (intro hc; try have hq := dq hc)) | fail
    · repeat' first
       | (apply z51 (id := 6) (ord := [0, 1, 2, 3, 4, 5, 6]) (ps := [(1, 5)]) <;> first | kernel_rfl | skip)
       | (apply z50 (id := 23) (ord := [0, 1, 2, 3, 4, 5, 6, 7]) <;> first | kernel_rfl | skip)
       | (refine zs ?_; repeat' first | apply zs0 | apply zs2 | (intro hc; try have hq := dq hc)) | fail

end Go.E
/- Contracts of the references' base, in E: ports, outputs. Own work. -/
namespace Go.E
open Go.Proofs
set_option maxRecDepth 100000
set_option maxHeartbeats 4000000

theorem bs_nodesErr (bs : List Nat) (H : Heap) (leaves : List Int) (nodes : List Node) (hl : leaves.length ≤ 1000000) (hn : nodes.length ≤ 1000000) (hal : ∀ x ∈ nodes, x.args.length ≤ 1000000) : callw X bs 86 [.list (leaves.map (.int .i64)), .list (nodes.map encNode)] H = some (.tuple [.int .i64 (nodesErrR leaves nodes).1, .int .i64 (nodesErrR leaves nodes).2], H) := by
  refine call_at (rs := [.tmp 4, .tmp 5]) (N := 25) (fn := Tryz.f86) xk86 xf86 rfl rfl rfl (by simp only [seval, push_cast, List.map_cons, List.map_nil, V.norm, norm1]; rfl) ?_
  have key : ∀ (R : Int × Int) (bs : List Nat) i ρ H', i ≤ nodes.length → (H' = H ∧ ρ 0 = .list (leaves.map (.int .i64)) ∧ ρ 1 = .list (nodes.map encNode) ∧ ρ 6 = .int .i64 i ∧ Kp (eachP (nodeErrS leaves nodes) i (nodes.drop i) = R)) →
      Lp X ⟨25, bs⟩ (loopAt Tryz.f86 0) ρ H' fun ex ρ' H' => H' = H ∧ ((ex = .exit 0 ∧ R = (0, 0)) ∨ (ex = .ret ∧ ρ' 4 = .int .i64 R.1 ∧ ρ' 5 = .int .i64 R.2)) := by
    intro R bs
    refine loop_up ?_ ?_
    · rintro i ρ H' hi ⟨rfl, h0, h1, h6, hR⟩
      have hget : nodes[i]? = some nodes[i] := by simp [hi]
      have hne := fun bs H => bs_nodeErr bs H leaves nodes i nodes[i] hget hl hn (hal _ (List.getElem_mem hi))
      have hw := add1 i nodes.length hi hn
      replace hR := hR.out
      rw [drop_cons hget, eachP] at hR
      generalize nodeErrS leaves nodes i nodes[i] = e at hne hR
      replace hR : Kp ((if e ≠ 0 then ((i : Int), e) else eachP (nodeErrS leaves nodes) (i + 1) (nodes.drop (i + 1))) = R) := ⟨hR⟩
      clear hget hal
      conv => arg 3; whnf
      all_goals try (refine zs ?_; repeat' first | apply zs0 | apply zs2 | (intro hc; try have hq := dq hc))
      · have hc : e ≠ 0 := by simpa using hc
        rw [← hR.out, if_pos hc]
        exact ⟨rfl, .inr ⟨rfl, by (simp only [seval, push_cast, *] <;> rfl), by (simp only [seval, push_cast, *] <;> rfl)⟩⟩
      · have hc : e = 0 := by simpa using hc
        exact ⟨rfl, by (simp only [seval, push_cast, *] <;> rfl), by (simp only [seval, push_cast, *] <;> rfl), by (simp only [seval, push_cast, *] <;> rfl), ⟨by rw [← hR.out, if_neg (by simp [hc])]⟩⟩
    · rintro ρ H' ⟨rfl, h0, h1, h6, hR⟩
      replace hR := hR.out
      rw [List.drop_length, eachP] at hR
      replace hR : Kp ((0, 0) = R) := ⟨hR⟩
      clear hal
      conv => arg 3; whnf
      all_goals try (refine zs ?_; repeat' first | apply zs0 | apply zs2 | (intro hc; try have hq := dq hc))
      exact ⟨rfl, .inl ⟨rfl, hR.out.symm⟩⟩
  clear hal
  unfold nodesErrR
  by_cases h : 400 < nodes.length
  · rw [if_pos h]
    have d : (400 : Int) < nodes.length := by omega
    clear key
    all_goals try (refine zs ?_; repeat' first | apply zs0 | apply zs2 | (intro hc; try have hq := dq hc))
  rw [if_neg h]
  have d : decide ((400 : Int) < nodes.length) = false := decide_eq_false (by omega)
  all_goals try (refine zs ?_; repeat' first | apply zs0 | apply zs2 | (intro hc; try have hq := dq hc))
  refine lp_then (lp_any (c := loopAt Tryz.f86 0) rfl (key (eachP (nodeErrS leaves nodes) 0 nodes) _ 0 _ _ (by omega) ⟨rfl, by (simp only [seval, push_cast, *] <;> rfl), by (simp only [seval, push_cast, *] <;> rfl), by (simp only [seval, push_cast, *] <;> rfl), ⟨rfl⟩⟩)) ?_
  clear key
  rintro ex ρ' H' ⟨rfl, ⟨rfl, h2⟩ | ⟨rfl, h2, h3⟩⟩ -
  · rw [h2]
    all_goals try (refine zs ?_; repeat' first | apply zs0 | apply zs2 | (intro hc; try have hq := dq hc))
  · all_goals try (refine zs ?_; repeat' first | apply zs0 | apply zs2 | (intro hc; try have hq := dq hc))

/-- Whether an earlier one has this name (bs_portDup). -/
theorem bs_portDup (bs : List Nat) (H : Heap) (l : List Port) (i : Nat) (p : Port) (hp : l[i]? = some p) (hl : l.length ≤ 1000000) (R : Bool) :
    ∀ j ρ H', j ≤ i → (H' = H ∧ ρ 0 = .list (l.map encPort) ∧ ρ 4 = .int .i64 i ∧ ρ 5 = .int .i64 j ∧ Kp (((l.take i).drop j).any (fun q => decide (q.name = p.name)) = R)) →
      Lp X ⟨48, bs⟩ (loopAt Tryz.f83 1) ρ H' fun ex ρ' H' => H' = H ∧ ((ex = .exit 2 ∧ R = false) ∨ (ex = .ret ∧ ρ' 2 = .int .i64 i ∧ ρ' 3 = .int .i64 5 ∧ R = true)) := by
  have hi := (List.getElem?_eq_some_iff.1 hp).1
  refine loop_up ?_ ?_
  · rintro j ρ H' hj ⟨rfl, h0, h4, h5, hR⟩
    have hget : l[j]? = some l[j] := by simp [show j < l.length by omega]
    have hget2 : (l.take i)[j]? = some l[j] := by rw [List.getElem?_take, if_pos hj]; exact hget
    generalize l[j] = q at hget hget2
    have hw := add1 j i hj (by omega)
    replace hR := hR.out
    rw [drop_cons hget2, List.any_cons] at hR
    replace hR : Kp ((decide (q.name = p.name) || ((l.take i).drop (j + 1)).any (fun q => decide (q.name = p.name))) = R) := ⟨hR⟩
    clear hget2
    have hlt : (j : Int) < i := by omega
    conv => arg 3; whnf
    repeat' first
     | (apply z50 (id := 11) (ord := [0, 1, 2, 3, 4, 5, 6, 7, 8, 9, 10]) <;> first | kernel_rfl | skip)
     | (refine zs ?_; repeat' first | apply zs0 | apply zs2 | (intro hc; try have hq := dq hc)) | fail
    all_goals replace hR := hR.out
    · rw [hc] at hR
      exact ⟨rfl, .inr ⟨rfl, by (simp only [seval, push_cast, *] <;> rfl), by (simp only [seval, push_cast, *] <;> rfl), by rw [← hR]; rfl⟩⟩
    · rw [hc] at hR
      exact ⟨rfl, by (simp only [seval, push_cast, *] <;> rfl), by (simp only [seval, push_cast, *] <;> rfl), by (simp only [seval, push_cast, *] <;> rfl), ⟨by rw [← hR]; rfl⟩⟩
  · rintro ρ H' ⟨rfl, h0, h4, h5, hR⟩
    replace hR := hR.out
    rw [List.drop_of_length_le (by rw [List.length_take]; omega), List.any_nil] at hR
    replace hR : Kp (false = R) := ⟨hR⟩
    conv => arg 3; whnf
    repeat' first
     | (apply z50 (id := 11) (ord := [0, 1, 2, 3, 4, 5, 6, 7, 8, 9, 10]) <;> first | kernel_rfl | skip)
     | (refine zs ?_; repeat' first | apply zs0 | apply zs2 | (intro hc; try have hq := dq hc)) | fail
    exact ⟨rfl, .inl ⟨rfl, hR.out.symm⟩⟩

/-- Whether an earlier one has this name (bs_outDup). -/
theorem bs_outDup (bs : List Nat) (H : Heap) (l : List Outp) (i : Nat) (p : Outp) (hp : l[i]? = some p) (hl : l.length ≤ 1000000) (R : Bool) :
    ∀ j ρ H', j ≤ i → (H' = H ∧ ρ 1 = .list (l.map encOutp) ∧ ρ 6 = .int .i64 i ∧ ρ 7 = .int .i64 j ∧ Kp (((l.take i).drop j).any (fun q => decide (q.name = p.name)) = R)) →
      Lp X ⟨51, bs⟩ (loopAt Tryz.f90 1) ρ H' fun ex ρ' H' => H' = H ∧ ((ex = .exit 2 ∧ R = false) ∨ (ex = .ret ∧ ρ' 4 = .int .i64 i ∧ ρ' 5 = .int .i64 5 ∧ R = true)) := by
  have hi := (List.getElem?_eq_some_iff.1 hp).1
  refine loop_up ?_ ?_
  · rintro j ρ H' hj ⟨rfl, h0, h4, h5, hR⟩
    have hget : l[j]? = some l[j] := by simp [show j < l.length by omega]
    have hget2 : (l.take i)[j]? = some l[j] := by rw [List.getElem?_take, if_pos hj]; exact hget
    generalize l[j] = q at hget hget2
    have hw := add1 j i hj (by omega)
    replace hR := hR.out
    rw [drop_cons hget2, List.any_cons] at hR
    replace hR : Kp ((decide (q.name = p.name) || ((l.take i).drop (j + 1)).any (fun q => decide (q.name = p.name))) = R) := ⟨hR⟩
    clear hget2
    have hlt : (j : Int) < i := by omega
    conv => arg 3; whnf
    repeat' first
     | (apply z50 (id := 11) (ord := [0, 1, 2, 3, 4, 5, 6, 7, 8, 9, 10]) <;> first | kernel_rfl | skip)
     | (refine zs ?_; repeat' first | apply zs0 | apply zs2 | (intro hc; try have hq := dq hc)) | fail
    all_goals replace hR := hR.out
    · rw [hc] at hR
      exact ⟨rfl, .inr ⟨rfl, by (simp only [seval, push_cast, *] <;> rfl), by (simp only [seval, push_cast, *] <;> rfl), by rw [← hR]; rfl⟩⟩
    · rw [hc] at hR
      exact ⟨rfl, by (simp only [seval, push_cast, *] <;> rfl), by (simp only [seval, push_cast, *] <;> rfl), by (simp only [seval, push_cast, *] <;> rfl), ⟨by rw [← hR]; rfl⟩⟩
  · rintro ρ H' ⟨rfl, h0, h4, h5, hR⟩
    replace hR := hR.out
    rw [List.drop_of_length_le (by rw [List.length_take]; omega), List.any_nil] at hR
    replace hR : Kp (false = R) := ⟨hR⟩
    conv => arg 3; whnf
    repeat' first
     | (apply z50 (id := 11) (ord := [0, 1, 2, 3, 4, 5, 6, 7, 8, 9, 10]) <;> first | kernel_rfl | skip)
     | (refine zs ?_; repeat' first | apply zs0 | apply zs2 | (intro hc; try have hq := dq hc)) | fail
    exact ⟨rfl, .inl ⟨rfl, hR.out.symm⟩⟩

end Go.E
/- Contracts of the references' base, in E: ports, outputs, leaves. Own work. -/
namespace Go.E
open Go.Proofs
set_option maxRecDepth 100000
set_option maxHeartbeats 4000000

theorem imp4 {b c d : Bool} (e1 e2 e3 : Int) : (if b = false then e1 else if c = true then e2 else if d = false then e3 else (0 : Int)) = if b = true then (if c = false then (if d = true then 0 else e3) else e2) else e1 := by
  cases b <;> cases c <;> cases d <;> rfl

theorem bs_isNode (bs : List Nat) (H : Heap) (nodes : List Node) (i : Int) (hn : nodes.length ≤ 1000000) : callw X bs 89 [.list (nodes.map encNode), .int .i64 i] H = some (.bool (isNodeL nodes i), H) := by
  refine call_at (rs := [.tmp 4]) (N := 10) (fn := Tryz.f89) xk89 xf89 rfl rfl rfl (by simp only [seval, push_cast, List.map_cons, List.map_nil, V.norm, norm1]; rfl) ?_
  have hw := sub1 nodes.length hn
  unfold isNodeL
  all_goals try (refine zs ?_; repeat' first | apply zs0 | apply zs2 | (intro hc; try have hq := dq hc))
attribute [push_cast] bs_isNode

theorem bs_portsErr (bs : List Nat) (H : Heap) (l : List Port) (hl : l.length ≤ 1000000) (hs : ∀ p ∈ l, p.name.size ≤ 1000000) : callw X bs 83 [.list (l.map encPort)] H = some (.tuple [.int .i64 (portsErrR l).1, .int .i64 (portsErrR l).2], H) := by
  refine call_at (rs := [.tmp 2, .tmp 3]) (N := 48) (fn := Tryz.f83) xk83 xf83 rfl rfl rfl (by simp only [seval, push_cast, List.map_cons, List.map_nil, V.norm, norm1]; rfl) ?_
  have key : ∀ (R : Int × Int) (bs : List Nat) i ρ H', i ≤ l.length → (H' = H ∧ ρ 0 = .list (l.map encPort) ∧ ρ 4 = .int .i64 i ∧ Kp (eachP (portErrR l) i (l.drop i) = R)) →
      Lp X ⟨48, bs⟩ (loopAt Tryz.f83 0) ρ H' fun ex ρ' H' => H' = H ∧ ((ex = .exit 0 ∧ R = (0, 0)) ∨ (ex = .ret ∧ ρ' 2 = .int .i64 R.1 ∧ ρ' 3 = .int .i64 R.2)) := by
    intro R bs
    refine loop_up ?_ ?_
    · rintro i ρ H' hi ⟨rfl, h0, h4, hR⟩
      have hget : l[i]? = some l[i] := by simp [hi]
      have hnm := fun bs H => bs_isName bs H l[i].name (hs _ (List.getElem_mem hi))
      have hw := add1 i l.length hi hl
      replace hR := hR.out
      rw [drop_cons hget, eachP] at hR
      have hin := fun bs ρ => bs_portDup bs H' l i l[i] hget hl ((l.take i).any (fun q => decide (q.name = l[i].name))) 0 ρ
      generalize l[i] = p at hget hnm hR hin
      clear hs
      cases hN : isNameS p.name with
      | false =>
        have he : portErrR l i p = 4 := by unfold portErrR; rw [if_pos hN]
        rw [he, if_pos (by decide)] at hR
        replace hR : Kp (((i : Int), (4 : Int)) = R) := ⟨hR⟩
        clear he
        clear hin
        conv => arg 3; whnf
        repeat' first
         | (apply z50 (id := 11) (ord := [0, 1, 2, 3, 4, 5, 6, 7, 8, 9, 10]) <;> first | kernel_rfl | skip)
         | (refine zs ?_; repeat' first | apply zs0 | apply zs2 | (intro hc; try have hq := dq hc)) | fail
        exact ⟨rfl, .inr ⟨rfl, by rw [← hR.out]; (simp only [seval, push_cast, *] <;> rfl), by rw [← hR.out]; (simp only [seval, push_cast, *] <;> rfl)⟩⟩
      | true =>
      replace hR := Kp.mk hR
      conv => arg 3; whnf
      repeat' first
       | (apply z50 (id := 11) (ord := [0, 1, 2, 3, 4, 5, 6, 7, 8, 9, 10]) <;> first | kernel_rfl | skip)
       | (refine zs ?_; repeat' first | apply zs0 | apply zs2 | (intro hc; try have hq := dq hc)) | fail
      refine lp_then (lp_any (c := loopAt Tryz.f83 1) rfl (hin _ _ _ (by omega) ⟨rfl, by (simp only [seval, push_cast, *] <;> rfl), by (simp only [seval, push_cast, *] <;> rfl), by (simp only [seval, push_cast, *] <;> rfl), ⟨rfl⟩⟩)) ?_
      clear hin
      rintro ex ρ' H2 ⟨rfl, ⟨rfl, h2⟩ | ⟨rfl, h2, h3, h9⟩⟩ hf
      · have f0 := hf 0 rfl
        have f4 := hf 4 rfl
        simp only [seval, push_cast] at f0 f4
        rw [h0] at f0
        rw [h4] at f4
        replace hR := hR.out
        clear hf h0 h4
        cases hW : isW p.width with
        | false =>
          have he : portErrR l i p = 2 := by unfold portErrR; rw [if_neg (by simp [hN]), if_neg (by simp only [h2]; decide), if_pos hW]
          rw [he, if_pos (by decide)] at hR
          replace hR : Kp (((i : Int), (2 : Int)) = R) := ⟨hR⟩
          clear he h2
          unfold isW at hW
          repeat' first
           | (apply z50 (id := 11) (ord := [0, 1, 2, 3, 4, 5, 6, 7, 8, 9, 10]) <;> first | kernel_rfl | skip)
           | (refine zs ?_; repeat' first | apply zs0 | apply zs2 | (intro hc; try have hq := dq hc)) | fail
          exact ⟨rfl, .inr ⟨rfl, by rw [← hR.out]; (simp only [seval, push_cast, *] <;> rfl), by rw [← hR.out]; (simp only [seval, push_cast, *] <;> rfl)⟩⟩
        | true =>
          have he : portErrR l i p = 0 := by unfold portErrR; rw [if_neg (by simp [hN]), if_neg (by simp only [h2]; decide), if_neg (by simp [hW])]
          rw [he, if_neg (by decide)] at hR
          replace hR := Kp.mk hR
          clear he h2
          unfold isW at hW
          repeat' first
           | (apply z50 (id := 11) (ord := [0, 1, 2, 3, 4, 5, 6, 7, 8, 9, 10]) <;> first | kernel_rfl | skip)
           | (refine zs ?_; repeat' first | apply zs0 | apply zs2 | (intro hc; try have hq := dq hc)) | fail
          exact ⟨rfl, by (simp only [seval, push_cast, *] <;> rfl), by (simp only [seval, push_cast, *] <;> rfl), hR⟩
      · replace hR := hR.out
        have he : portErrR l i p = 5 := by unfold portErrR; rw [if_neg (by simp [hN]), if_pos h9]
        rw [he, if_pos (by decide)] at hR
        replace hR : Kp (((i : Int), (5 : Int)) = R) := ⟨hR⟩
        clear he h9
        repeat' first
         | (apply z50 (id := 11) (ord := [0, 1, 2, 3, 4, 5, 6, 7, 8, 9, 10]) <;> first | kernel_rfl | skip)
         | (refine zs ?_; repeat' first | apply zs0 | apply zs2 | (intro hc; try have hq := dq hc)) | fail
        exact ⟨rfl, .inr ⟨rfl, by rw [← hR.out]; (simp only [seval, push_cast, *] <;> rfl), by rw [← hR.out]; (simp only [seval, push_cast, *] <;> rfl)⟩⟩
    · rintro ρ H' ⟨rfl, h0, h4, hR⟩
      replace hR := hR.out
      rw [List.drop_length, eachP] at hR
      replace hR : Kp ((0, 0) = R) := ⟨hR⟩
      clear hs
      conv => arg 3; whnf
      repeat' first
       | (apply z50 (id := 11) (ord := [0, 1, 2, 3, 4, 5, 6, 7, 8, 9, 10]) <;> first | kernel_rfl | skip)
       | (refine zs ?_; repeat' first | apply zs0 | apply zs2 | (intro hc; try have hq := dq hc)) | fail
      exact ⟨rfl, .inl ⟨rfl, hR.out.symm⟩⟩
  clear hs
  unfold portsErrR
  by_cases h : 12 < l.length
  · rw [if_pos h]
    have d : (12 : Int) < l.length := by omega
    clear key
    repeat' first
     | (apply z50 (id := 11) (ord := [0, 1, 2, 3, 4, 5, 6, 7, 8, 9, 10]) <;> first | kernel_rfl | skip)
     | (refine zs ?_; repeat' first | apply zs0 | apply zs2 | (intro hc; try have hq := dq hc)) | fail
  rw [if_neg h]
  have d : decide ((12 : Int) < l.length) = false := decide_eq_false (by omega)
  repeat' first
   | (apply z50 (id := 11) (ord := [0, 1, 2, 3, 4, 5, 6, 7, 8, 9, 10]) <;> first | kernel_rfl | skip)
   | (refine zs ?_; repeat' first | apply zs0 | apply zs2 | (intro hc; try have hq := dq hc)) | fail
  refine lp_then (lp_any (c := loopAt Tryz.f83 0) rfl (key (eachP (portErrR l) 0 l) _ 0 _ _ (by omega) ⟨rfl, by (simp only [seval, push_cast, *] <;> rfl), by (simp only [seval, push_cast, *] <;> rfl), ⟨rfl⟩⟩)) ?_
  clear key
  rintro ex ρ' H' ⟨rfl, ⟨rfl, h2⟩ | ⟨rfl, h2, h3⟩⟩ -
  · rw [h2]
    repeat' first
     | (apply z50 (id := 11) (ord := [0, 1, 2, 3, 4, 5, 6, 7, 8, 9, 10]) <;> first | kernel_rfl | skip)
     | (refine zs ?_; repeat' first | apply zs0 | apply zs2 | (intro hc; try have hq := dq hc)) | fail
  · repeat' first
     | (apply z50 (id := 11) (ord := [0, 1, 2, 3, 4, 5, 6, 7, 8, 9, 10]) <;> first | kernel_rfl | skip)
     | (refine zs ?_; repeat' first | apply zs0 | apply zs2 | (intro hc; try have hq := dq hc)) | fail

end Go.E
/- Contracts of the references' base, in E: outputs, leaves. Own work. -/
namespace Go.E
open Go.Proofs
set_option maxRecDepth 100000
set_option maxHeartbeats 4000000

theorem bs_outsErr (bs : List Nat) (H : Heap) (nodes : List Node) (l : List Outp) (hn : nodes.length ≤ 1000000) (hl : l.length ≤ 1000000) (hs : ∀ p ∈ l, p.name.size ≤ 1000000) : callw X bs 90 [.list (nodes.map encNode), .list (l.map encOutp)] H = some (.tuple [.int .i64 (outsErrR nodes l).1, .int .i64 (outsErrR nodes l).2], H) := by
  refine call_at (rs := [.tmp 4, .tmp 5]) (N := 51) (fn := Tryz.f90) xk90 xf90 rfl rfl rfl (by simp only [seval, push_cast, List.map_cons, List.map_nil, V.norm, norm1]; rfl) ?_
  have key : ∀ (R : Int × Int) (bs : List Nat) i ρ H', i ≤ l.length → (H' = H ∧ ρ 0 = .list (nodes.map encNode) ∧ ρ 1 = .list (l.map encOutp) ∧ ρ 6 = .int .i64 i ∧ Kp (eachP (outErrR nodes l) i (l.drop i) = R)) →
      Lp X ⟨51, bs⟩ (loopAt Tryz.f90 0) ρ H' fun ex ρ' H' => H' = H ∧ ((ex = .exit 0 ∧ R = (0, 0)) ∨ (ex = .ret ∧ ρ' 4 = .int .i64 R.1 ∧ ρ' 5 = .int .i64 R.2)) := by
    intro R bs
    refine loop_up ?_ ?_
    · rintro i ρ H' hi ⟨rfl, h0, h1, h6, hR⟩
      have hget : l[i]? = some l[i] := by simp [hi]
      have hnm := fun bs H => bs_isName bs H l[i].name (hs _ (List.getElem_mem hi))
      have hw := add1 i l.length hi hl
      replace hR := hR.out
      rw [drop_cons hget, eachP] at hR
      have hin := fun bs ρ => bs_outDup bs H' l i l[i] hget hl ((l.take i).any (fun q => decide (q.name = l[i].name))) 0 ρ
      generalize l[i] = p at hget hnm hR hin
      clear hs
      cases hN : isNameS p.name with
      | false =>
        have he : outErrR nodes l i p = 4 := by unfold outErrR; rw [if_pos hN]
        rw [he, if_pos (by decide)] at hR
        replace hR : Kp (((i : Int), (4 : Int)) = R) := ⟨hR⟩
        clear he
        clear hin
        conv => arg 3; whnf
        repeat' first
         | (apply z50 (id := 11) (ord := [0, 1, 2, 3, 4, 5, 6, 7, 8, 9, 10]) <;> first | kernel_rfl | skip)
         | (refine zs ?_; repeat' first | apply zs0 | apply zs2 | (intro hc; try have hq := dq hc)) | fail
        exact ⟨rfl, .inr ⟨rfl, by rw [← hR.out]; (simp only [seval, push_cast, *] <;> rfl), by rw [← hR.out]; (simp only [seval, push_cast, *] <;> rfl)⟩⟩
      | true =>
      replace hR := Kp.mk hR
      conv => arg 3; whnf
      repeat' first
       | (apply z50 (id := 11) (ord := [0, 1, 2, 3, 4, 5, 6, 7, 8, 9, 10]) <;> first | kernel_rfl | skip)
       | (refine zs ?_; repeat' first | apply zs0 | apply zs2 | (intro hc; try have hq := dq hc)) | fail
      refine lp_then (lp_any (c := loopAt Tryz.f90 1) rfl (hin _ _ _ (by omega) ⟨rfl, by (simp only [seval, push_cast, *] <;> rfl), by (simp only [seval, push_cast, *] <;> rfl), by (simp only [seval, push_cast, *] <;> rfl), ⟨rfl⟩⟩)) ?_
      clear hin
      rintro ex ρ' H2 ⟨rfl, ⟨rfl, h2⟩ | ⟨rfl, h2, h3, h9⟩⟩ hf
      · have f0 := hf 0 rfl
        have f1 := hf 1 rfl
        have f6 := hf 6 rfl
        simp only [seval, push_cast] at f0 f1 f6
        rw [h0] at f0
        rw [h1] at f1
        rw [h6] at f6
        replace hR := hR.out
        clear hf h0 h1 h6
        cases hW : isNodeL nodes p.node with
        | false =>
          have he : outErrR nodes l i p = 9 := by unfold outErrR; rw [if_neg (by simp [hN]), if_neg (by simp only [h2]; decide), if_pos hW]
          rw [he, if_pos (by decide)] at hR
          replace hR : Kp (((i : Int), (9 : Int)) = R) := ⟨hR⟩
          clear he h2
          repeat' first
           | (apply z50 (id := 11) (ord := [0, 1, 2, 3, 4, 5, 6, 7, 8, 9, 10]) <;> first | kernel_rfl | skip)
           | (refine zs ?_; repeat' first | apply zs0 | apply zs2 | (intro hc; try have hq := dq hc)) | fail
          exact ⟨rfl, .inr ⟨rfl, by rw [← hR.out]; (simp only [seval, push_cast, *] <;> rfl), by rw [← hR.out]; (simp only [seval, push_cast, *] <;> rfl)⟩⟩
        | true =>
          have he : outErrR nodes l i p = 0 := by unfold outErrR; rw [if_neg (by simp [hN]), if_neg (by simp only [h2]; decide), if_neg (by simp [hW])]
          rw [he, if_neg (by decide)] at hR
          replace hR := Kp.mk hR
          clear he h2
          repeat' first
           | (apply z50 (id := 11) (ord := [0, 1, 2, 3, 4, 5, 6, 7, 8, 9, 10]) <;> first | kernel_rfl | skip)
           | (refine zs ?_; repeat' first | apply zs0 | apply zs2 | (intro hc; try have hq := dq hc)) | fail
          exact ⟨rfl, by (simp only [seval, push_cast, *] <;> rfl), by (simp only [seval, push_cast, *] <;> rfl), by (simp only [seval, push_cast, *] <;> rfl), hR⟩
      · replace hR := hR.out
        have he : outErrR nodes l i p = 5 := by unfold outErrR; rw [if_neg (by simp [hN]), if_pos h9]
        rw [he, if_pos (by decide)] at hR
        replace hR : Kp (((i : Int), (5 : Int)) = R) := ⟨hR⟩
        clear he h9
        repeat' first
         | (apply z50 (id := 11) (ord := [0, 1, 2, 3, 4, 5, 6, 7, 8, 9, 10]) <;> first | kernel_rfl | skip)
         | (refine zs ?_; repeat' first | apply zs0 | apply zs2 | (intro hc; try have hq := dq hc)) | fail
        exact ⟨rfl, .inr ⟨rfl, by rw [← hR.out]; (simp only [seval, push_cast, *] <;> rfl), by rw [← hR.out]; (simp only [seval, push_cast, *] <;> rfl)⟩⟩
    · rintro ρ H' ⟨rfl, h0, h1, h6, hR⟩
      replace hR := hR.out
      rw [List.drop_length, eachP] at hR
      replace hR : Kp ((0, 0) = R) := ⟨hR⟩
      clear hs
      conv => arg 3; whnf
      repeat' first
       | (apply z50 (id := 11) (ord := [0, 1, 2, 3, 4, 5, 6, 7, 8, 9, 10]) <;> first | kernel_rfl | skip)
       | (refine zs ?_; repeat' first | apply zs0 | apply zs2 | (intro hc; try have hq := dq hc)) | fail
      exact ⟨rfl, .inl ⟨rfl, hR.out.symm⟩⟩
  clear hs
  unfold outsErrR
  by_cases h : 12 < l.length
  · rw [if_pos h]
    have d : (12 : Int) < l.length := by omega
    clear key
    repeat' first
     | (apply z50 (id := 11) (ord := [0, 1, 2, 3, 4, 5, 6, 7, 8, 9, 10]) <;> first | kernel_rfl | skip)
     | (refine zs ?_; repeat' first | apply zs0 | apply zs2 | (intro hc; try have hq := dq hc)) | fail
  rw [if_neg h]
  have d : decide ((12 : Int) < l.length) = false := decide_eq_false (by omega)
  repeat' first
   | (apply z50 (id := 11) (ord := [0, 1, 2, 3, 4, 5, 6, 7, 8, 9, 10]) <;> first | kernel_rfl | skip)
   | (refine zs ?_; repeat' first | apply zs0 | apply zs2 | (intro hc; try have hq := dq hc)) | fail
  refine lp_then (lp_any (c := loopAt Tryz.f90 0) rfl (key (eachP (outErrR nodes l) 0 l) _ 0 _ _ (by omega) ⟨rfl, by (simp only [seval, push_cast, *] <;> rfl), by (simp only [seval, push_cast, *] <;> rfl), by (simp only [seval, push_cast, *] <;> rfl), ⟨rfl⟩⟩)) ?_
  clear key
  rintro ex ρ' H' ⟨rfl, ⟨rfl, h2⟩ | ⟨rfl, h2, h3⟩⟩ -
  · rw [h2]
    repeat' first
     | (apply z50 (id := 11) (ord := [0, 1, 2, 3, 4, 5, 6, 7, 8, 9, 10]) <;> first | kernel_rfl | skip)
     | (refine zs ?_; repeat' first | apply zs0 | apply zs2 | (intro hc; try have hq := dq hc)) | fail
  · repeat' first
     | (apply z50 (id := 11) (ord := [0, 1, 2, 3, 4, 5, 6, 7, 8, 9, 10]) <;> first | kernel_rfl | skip)
     | (refine zs ?_; repeat' first | apply zs0 | apply zs2 | (intro hc; try have hq := dq hc)) | fail

end Go.E
/- Contracts of the references' base, in E: leaves, conditions. Own work. -/
namespace Go.E
open Go.Proofs
set_option maxRecDepth 100000
set_option maxHeartbeats 4000000

theorem bs_netLeaves (bs : List Nat) (H : Heap) (n : Netl) (hi : n.inputs.length ≤ 1000) (hr : n.regs.length ≤ 1000) : callw X bs 87 [encNetl n] H = some (.list ((leavesN n).map (.int .i64)), H) := by
  refine call_at (rs := [.tmp 2]) (N := 39) (fn := Tryz.f87) xk87 xf87 rfl rfl rfl (by simp only [seval, push_cast, List.map_cons, List.map_nil, V.norm, norm1]; rfl) ?_
  have key0 : ∀ (t : HObj) (bs : List Nat) i ρ H', i ≤ n.inputs.length → (∃ ws, ws = (n.inputs.take i).map (·.width) ∧ H' = H ++ [.cells (cellsNetl n), t, .tok ws.length] ∧ ρ 1 = .ptr H.length 0 ∧ ρ 3 = .tl (H.length + 2) (ws.map (.int .i64)) ∧ ρ 4 = .int .i64 i) →
      Lp X ⟨39, bs⟩ (loopAt Tryz.f87 0) ρ H' fun ex ρ' H' => ∃ ws, ws = n.inputs.map (·.width) ∧ H' = H ++ [.cells (cellsNetl n), t, .tok ws.length] ∧ ρ' 3 = .tl (H.length + 2) (ws.map (.int .i64)) ∧ ex = .exit 0 := by
    intro t bs
    refine loop_up ?_ ?_
    · rintro i ρ H' hlt ⟨ws, hws, rfl, h1, h3, h11⟩
      have hget : n.inputs[i]? = some n.inputs[i] := by simp [hlt]
      have htk : n.inputs.take (i + 1) = n.inputs.take i ++ [n.inputs[i]] := by rw [List.take_add_one, hget]; rfl
      generalize n.inputs[i] = p at hget htk
      have hlen : ws.length ≤ 2000 := by rw [hws]; simp; omega
      have hroom := room8 ws.length (by omega)
      have hw := add1 i n.inputs.length hlt (by omega)
      have hsn : Kp ((n.inputs.take (i + 1)).map (·.width) = ws ++ [p.width]) := ⟨by rw [htk, hws]; simp⟩
      clear hws hlen htk
      conv => arg 3; whnf
      all_goals try (refine zs ?_; repeat' first | apply zs0 | apply zs2 | (intro hc; try have hq := dq hc))
      exact ⟨ws ++ [p.width], hsn.out.symm, by simp only [List.length_append, List.length_singleton, cellsNetl], by (simp only [seval, push_cast, *] <;> rfl), by simp [push_cast], by (simp only [seval, push_cast, *] <;> rfl)⟩
    · rintro ρ H' ⟨ws, hws, rfl, h1, h3, h11⟩
      rw [List.take_length] at hws
      replace hws : Kp (ws = n.inputs.map (·.width)) := ⟨hws⟩
      conv => arg 3; whnf
      all_goals try (refine zs ?_; repeat' first | apply zs0 | apply zs2 | (intro hc; try have hq := dq hc))
      exact ⟨ws, hws.out, by simp only [cellsNetl], by (simp only [seval, push_cast, *] <;> rfl), rfl⟩
  have key1 : ∀ (t : HObj) (bs : List Nat) i ρ H', i ≤ n.regs.length → (∃ ws, ws = n.inputs.map (·.width) ++ (n.regs.take i).map (·.width) ∧ H' = H ++ [.cells (cellsNetl n), t, .tok ws.length] ∧ ρ 1 = .ptr H.length 0 ∧ ρ 3 = .tl (H.length + 2) (ws.map (.int .i64)) ∧ ρ 5 = .int .i64 i) →
      Lp X ⟨39, bs⟩ (loopAt Tryz.f87 1) ρ H' fun ex ρ' H' => ∃ ws, ws = leavesN n ∧ H' = H ++ [.cells (cellsNetl n), t, .tok ws.length] ∧ ρ' 3 = .tl (H.length + 2) (ws.map (.int .i64)) ∧ ex = .exit 2 := by
    intro t bs
    refine loop_up ?_ ?_
    · rintro i ρ H' hlt ⟨ws, hws, rfl, h1, h3, h11⟩
      have hget : n.regs[i]? = some n.regs[i] := by simp [hlt]
      have htk : n.regs.take (i + 1) = n.regs.take i ++ [n.regs[i]] := by rw [List.take_add_one, hget]; rfl
      generalize n.regs[i] = p at hget htk
      have hlen : ws.length ≤ 2000 := by rw [hws]; simp; omega
      have hroom := room8 ws.length (by omega)
      have hw := add1 i n.regs.length hlt (by omega)
      have hsn : Kp (n.inputs.map (·.width) ++ (n.regs.take (i + 1)).map (·.width) = ws ++ [p.width]) := ⟨by rw [htk, hws]; simp⟩
      clear hws hlen htk
      conv => arg 3; whnf
      all_goals try (refine zs ?_; repeat' first | apply zs0 | apply zs2 | (intro hc; try have hq := dq hc))
      exact ⟨ws ++ [p.width], hsn.out.symm, by simp only [List.length_append, List.length_singleton, cellsNetl], by (simp only [seval, push_cast, *] <;> rfl), by simp [push_cast], by (simp only [seval, push_cast, *] <;> rfl)⟩
    · rintro ρ H' ⟨ws, hws, rfl, h1, h3, h11⟩
      rw [List.take_length] at hws
      replace hws : Kp (ws = n.inputs.map (·.width) ++ n.regs.map (·.width)) := ⟨hws⟩
      conv => arg 3; whnf
      all_goals try (refine zs ?_; repeat' first | apply zs0 | apply zs2 | (intro hc; try have hq := dq hc))
      exact ⟨ws, hws.out, by simp only [cellsNetl], by (simp only [seval, push_cast, *] <;> rfl), rfl⟩
  all_goals try (refine zs ?_; repeat' first | apply zs0 | apply zs2 | (intro hc; try have hq := dq hc))
  refine lp_then (lp_any (c := loopAt Tryz.f87 0) rfl (key0 _ _ 0 _ _ (by omega) ⟨[], rfl, rfl, by (simp only [seval, push_cast, *] <;> rfl), by (simp only [seval, push_cast, *] <;> rfl), by (simp only [seval, push_cast, *] <;> rfl)⟩)) ?_
  rintro ex ρ' H' ⟨ws, hws, rfl, h3, rfl⟩ hf
  have f1 := hf 1 rfl
  simp only [seval, push_cast] at f1
  clear key0 hf
  replace hws : Kp (ws = n.inputs.map (·.width)) := ⟨hws⟩
  all_goals try (refine zs ?_; repeat' first | apply zs0 | apply zs2 | (intro hc; try have hq := dq hc))
  refine lp_then (lp_any (c := loopAt Tryz.f87 1) rfl (key1 _ _ 0 _ _ (by omega) ⟨ws, by simp [hws.out], rfl, by (simp only [seval, push_cast, *] <;> rfl), by (simp only [seval, push_cast, *] <;> rfl), by (simp only [seval, push_cast, *] <;> rfl)⟩)) ?_
  rintro ex ρ' H' ⟨ws, rfl, rfl, h3, rfl⟩ -
  clear key1
  all_goals try (refine zs ?_; repeat' first | apply zs0 | apply zs2 | (intro hc; try have hq := dq hc))

theorem bs_isCond (bs : List Nat) (H : Heap) (nodes : List Node) (i : Int) (hn : nodes.length ≤ 1000000) : callw X bs 88 [.list (nodes.map encNode), .int .i64 i] H = some (.bool (isNodeL nodes i && decide (widthL nodes i = 1)), H) := by
  refine call_at (rs := [.tmp 4]) (N := 16) (fn := Tryz.f88) xk88 xf88 rfl rfl rfl (by simp only [seval, push_cast, List.map_cons, List.map_nil, V.norm, norm1]; rfl) ?_
  have hin := fun bs H => bs_isNode bs H nodes i hn
  cases h : isNodeL nodes i with
  | false =>
    all_goals try (refine zs ?_; repeat' first | apply zs0 | apply zs2 | (intro hc; try have hq := dq hc))
  | true =>
    obtain ⟨m, rfl, hlt⟩ : ∃ m : Nat, i = m ∧ m < nodes.length := by
      simp only [isNodeL, Bool.and_eq_true, decide_eq_true_eq] at h
      exact ⟨i.toNat, by omega, by omega⟩
    have hget : nodes[m]? = some nodes[m] := by simp [hlt]
    simp only [widthL, Int.toNat_natCast, hget]
    generalize nodes[m] = y at hget
    all_goals try (refine zs ?_; repeat' first | apply zs0 | apply zs2 | (intro hc; try have hq := dq hc))

end Go.E
