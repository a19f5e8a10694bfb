/- Contracts of the package graph, in E: ValuesOf. Own work. -/
import Derived.Test.YtbnakdpmjlcneaaGreatP7
import Derived.Test.YtbnakdpmjlcneaaGreatP5
import Derived.Test.YtbnakdpmjlcneaaGreatP6
set_option linter.all false
namespace Go.E
open Go.Proofs
set_option maxRecDepth 100000
set_option maxHeartbeats 4000000

theorem xk_run : ∀ k, X.keep (runF k) = false
  | 0 | 1 | 2 | 3 | 4 | 5 | 6 | 7 | 8 | 9 | 10 | 11 | 12 | 13 | 14 | 15 | 16 | 17 | 18 => rfl
  | _ + 19 => rfl
theorem InW.w16 {n w : Int} (h : InW n w) (hw : w ≤ 16) : 0 ≤ n ∧ n < 65536 := ⟨h.1, h.lt32 hw⟩
theorem toNat_of {x : Int} (h : 0 ≤ x) : ((x.toNat : Nat) : Int) = x := Int.toNat_of_nonneg h
theorem lt_n32 {n w : Int} (h : InW n w) (hw : w ≤ 16) : n.toNat < 2 ^ 32 := by
  have := h.lt32 hw
  have c : (2 : Nat) ^ 32 = 4294967296 := by decide
  omega
theorem wrap_mul {x y : Int} (hx : 0 ≤ x ∧ x < 65536) (hy : 0 ≤ y ∧ y < 65536) : IntKind.i64.wrap (x * y) = x * y := by
  have h1 : x * y ≤ 65536 * 65536 := Int.le_trans (Int.mul_le_mul_of_nonneg_right (by omega) hy.1) (Int.mul_le_mul_of_nonneg_left (by omega) (by omega))
  have h2 := Int.mul_nonneg hx.1 hy.1
  rw [wrap64] <;> omega
theorem run_call (bs : List Nat) (H : Heap) (k : Nat) (op W v : Int) (ar : List V) (a w : List Int) (h : OkArgs k W v a w) (h1 : k ≠ 1) :
    callw X bs (runF k) (.agg [.int .i64 op, .int .i64 W, .list ar, .int .i64 v] :: .list (w.map (.int .i64)) :: .list (a.map (.int .i64)) :: runC k) H = some (.int .i64 (applyS k W v a w), H) := by
  obtain ⟨hk, hW1, hW16, hla, hlw, hr, hw, hf, hv, hc⟩ := h
  have hW0 : 0 ≤ W := by omega
  match k, hk, a, hla, w, hlw with
  | 0, _, a, _, w, _ => exact gr_r0 bs H op W v ar _ _
  | 1, _, _, _, _, _ => exact absurd rfl h1
  | 2, _, [x], _, [p], _ =>
    have r0 := hr 0 (by decide)
    simp only [fitsS, List.any_cons, List.any_nil, Bool.or_false, Bool.not_eq_true', decide_eq_false_iff_not, Decidable.not_not] at hf
    subst hf
    exact gr_r2 bs H op p v x ar _ r0 hW1 hW16
  | 3, _, [x, y], _, [p, q], _ =>
    have r0 := hr 0 (by decide)
    have r1 := hr 1 (by decide)
    simp only [fitsS, List.any_cons, List.any_nil, Bool.or_false, Bool.not_eq_true', Bool.or_eq_false_iff, decide_eq_false_iff_not, Decidable.not_not] at hf
    obtain ⟨rfl, rfl⟩ := hf
    simp only [at0_cons, at0_1] at r0 r1
    have e := bits_and x.toNat y.toNat (lt_n32 r0 hW16) (lt_n32 r1 hW16)
    rw [toNat_of r0.1, toNat_of r1.1] at e
    have hres := nat_rng (Nat.lt_of_le_of_lt (Nat.and_le_left (m := y.toNat)) (nat_lt r0))
    have := gr_bin bs H op q v ar [.int .i64 q, .int .i64 q] 173 x y _ hW0 hW16 (fun bs H => gr_and bs H x y)
    rw [e, Int.emod_eq_of_lt hres.1 hres.2] at this
    exact this
  | 4, _, [x, y], _, [p, q], _ =>
    have r0 := hr 0 (by decide)
    have r1 := hr 1 (by decide)
    simp only [fitsS, List.any_cons, List.any_nil, Bool.or_false, Bool.not_eq_true', Bool.or_eq_false_iff, decide_eq_false_iff_not, Decidable.not_not] at hf
    obtain ⟨rfl, rfl⟩ := hf
    simp only [at0_cons, at0_1] at r0 r1
    have e := bits_or x.toNat y.toNat (lt_n32 r0 hW16) (lt_n32 r1 hW16)
    rw [toNat_of r0.1, toNat_of r1.1] at e
    have hres := nat_rng (Nat.or_lt_two_pow (nat_lt r0) (nat_lt r1))
    have := gr_bin bs H op q v ar [.int .i64 q, .int .i64 q] 174 x y _ hW0 hW16 (fun bs H => gr_or bs H x y)
    rw [e, Int.emod_eq_of_lt hres.1 hres.2] at this
    exact this
  | 5, _, [x, y], _, [p, q], _ =>
    have r0 := hr 0 (by decide)
    have r1 := hr 1 (by decide)
    simp only [fitsS, List.any_cons, List.any_nil, Bool.or_false, Bool.not_eq_true', Bool.or_eq_false_iff, decide_eq_false_iff_not, Decidable.not_not] at hf
    obtain ⟨rfl, rfl⟩ := hf
    simp only [at0_cons, at0_1] at r0 r1
    have e := bits_xor x.toNat y.toNat (lt_n32 r0 hW16) (lt_n32 r1 hW16)
    rw [toNat_of r0.1, toNat_of r1.1] at e
    have hres := nat_rng (Nat.xor_lt_two_pow (nat_lt r0) (nat_lt r1))
    have := gr_bin bs H op q v ar [.int .i64 q, .int .i64 q] 175 x y _ hW0 hW16 (fun bs H => gr_xor bs H x y)
    rw [e, Int.emod_eq_of_lt hres.1 hres.2] at this
    exact this
  | 6, _, [x, y], _, [p, q], _ =>
    have r0 := hr 0 (by decide)
    have r1 := hr 1 (by decide)
    simp only [fitsS, List.any_cons, List.any_nil, Bool.or_false, Bool.not_eq_true', Bool.or_eq_false_iff, decide_eq_false_iff_not, Decidable.not_not] at hf
    obtain ⟨rfl, rfl⟩ := hf
    simp only [at0_cons, at0_1] at r0 r1
    have b0 := r0.w16 hW16
    have b1 := r1.w16 hW16
    have e : IntKind.i64.wrap (x + y) = x + y := by rw [wrap64] <;> omega
    have := gr_bin bs H op q v ar [.int .i64 q, .int .i64 q] 176 x y _ hW0 hW16 (fun bs H => gr_add bs H x y)
    rw [e] at this
    exact this
  | 7, _, [x, y], _, [p, q], _ =>
    have r0 := hr 0 (by decide)
    have r1 := hr 1 (by decide)
    simp only [fitsS, List.any_cons, List.any_nil, Bool.or_false, Bool.not_eq_true', Bool.or_eq_false_iff, decide_eq_false_iff_not, Decidable.not_not] at hf
    obtain ⟨rfl, rfl⟩ := hf
    simp only [at0_cons, at0_1] at r0 r1
    have b0 := r0.w16 hW16
    have b1 := r1.w16 hW16
    have e : IntKind.i64.wrap (x - y) = x - y := by rw [wrap64] <;> omega
    have := gr_bin bs H op q v ar [.int .i64 q, .int .i64 q] 177 x y _ hW0 hW16 (fun bs H => gr_sub bs H x y)
    rw [e] at this
    exact this
  | 8, _, [x, y], _, [p, q], _ =>
    have r0 := hr 0 (by decide)
    have r1 := hr 1 (by decide)
    simp only [fitsS, List.any_cons, List.any_nil, Bool.or_false, Bool.not_eq_true', Bool.or_eq_false_iff, decide_eq_false_iff_not, Decidable.not_not] at hf
    obtain ⟨rfl, rfl⟩ := hf
    simp only [at0_cons, at0_1] at r0 r1
    have b0 := r0.w16 hW16
    have b1 := r1.w16 hW16
    have e : IntKind.i64.wrap (x * y) = x * y := wrap_mul b0 b1
    have := gr_bin bs H op q v ar [.int .i64 q, .int .i64 q] 178 x y _ hW0 hW16 (fun bs H => gr_mul bs H x y)
    rw [e] at this
    exact this
  | 9, _, [x, y], _, [p, q], _ =>
    have := gr_rel bs H op W v ar [.int .i64 q] 180 x y p _ (fun bs H => gr_eq bs H x y p)
    simp only [decide_eq_true_eq] at this
    exact this
  | 10, _, [x, y], _, [p, q], _ =>
    have := gr_rel bs H op W v ar [.int .i64 q] 181 x y p _ (fun bs H => gr_lt bs H x y p)
    simp only [decide_eq_true_eq] at this
    exact this
  | 11, _, [x, y], _, [p, q], _ =>
    have r0 := hr 0 (by decide)
    have r1 := hr 1 (by decide)
    have w0 := hw 0 (by decide)
    have hf2 : (decide (W = 1) && decide (p = q)) = true := hf
    rw [Bool.and_eq_true] at hf2
    obtain rfl := of_decide_eq_true hf2.2
    simp only [at0_cons, at0_1] at r0 r1 w0
    have := gr_rel bs H op W v ar [.int .i64 p] 182 x y p _ (fun bs H => gr_slt bs H x y p r0 r1 w0.1 w0.2)
    simp only [decide_eq_true_eq] at this
    exact this
  | 12, _, [x, y, z], _, [p, q, r], _ => exact gr_r12 bs H op W v x y z ar _
  | 13, _, [x, y], _, [p, q], _ =>
    have r0 := hr 0 (by decide)
    have r1 := hr 1 (by decide)
    have w0 := hw 0 (by decide)
    have w1 := hw 1 (by decide)
    simp only [at0_cons, at0_1] at r0 r1 w0 w1
    exact gr_r13 bs H op W v x y p q ar [] (r0.w16 w0.2) (by omega) w1.2 r1
  | 14, _, [x], _, [p], _ => exact gr_r14 bs H op W v x ar _ (hv rfl).1 (hv rfl).2 hW0 hW16
  | 15, _, [x], _, [p], _ => exact gr_r15 bs H op W v x ar _
  | 16, _, [x], _, [p], _ =>
    have r0 := hr 0 (by decide)
    have w0 := hw 0 (by decide)
    simp only [at0_cons] at r0 w0
    exact gr_r16 bs H op W v x p ar [] r0 w0.1 w0.2 hW0 hW16
  | 17, _, [x, y], _, [p, q], _ =>
    have r0 := hr 0 (by decide)
    have r1 := hr 1 (by decide)
    have w0 := hw 0 (by decide)
    simp only [at0_cons, at0_1] at r0 r1 w0
    exact gr_r17 bs H op W v x y ar _ (r0.w16 w0.2) r1.1 hW0 hW16
  | 18, _, [x, y], _, [p, q], _ =>
    have r0 := hr 0 (by decide)
    have r1 := hr 1 (by decide)
    obtain rfl : p = W := of_decide_eq_true hf
    simp only [at0_cons, at0_1] at r0 r1
    exact gr_r18 bs H op p v x y ar _ r0 r1.1 hW0 hW16
  | k + 19, hk, _, _, _, _ => omega

section
variable {cx : Cx} {bs : List Nat} {f t : Nat} {a b : V} {es r : List V} {H : Heap}
theorem cn_t1 (hk : cx.keep f = false) : callw cx bs f (a :: .tl t es :: r) H = callw cx bs f (a :: .list es :: r) H := callw_norm hk rfl
theorem cn_t2 (hk : cx.keep f = false) : callw cx bs f (a :: b :: .tl t es :: r) H = callw cx bs f (a :: b :: .list es :: r) H := callw_norm hk rfl
end
attribute [push_cast] cn_t1 cn_t2 xk_run
theorem opsAll_run : ∀ k, k < 19 → opsAll[k * 5 + 4]? = some (.func (runF k) (runC k)) := by
  intro k hk
  match k, hk with
  | 0, _ | 1, _ | 2, _ | 3, _ | 4, _ | 5, _ | 6, _ | 7, _ | 8, _ | 9, _ | 10, _ | 11, _ | 12, _ | 13, _ | 14, _ | 15, _ | 16, _ | 17, _ | 18, _ => rfl
  | k + 19, hk => omega
theorem valsOf_snoc (vals a : List Int) (n v : Int) (h : vals[n.toNat]? = some v) : valsOf vals (a ++ [n]) = valsOf vals a ++ [v] := by simp [valsOf, at0, h]
/-- The loop that collects widths and values. -/
theorem ap_loop (bs : List Nat) (H : Heap) (cx : HObj) (nodes : List Node) (vals args : List Int) (hl : args.length ≤ 1000000) (hargs : ∀ n ∈ args, 0 ≤ n ∧ n < nodes.length ∧ n < vals.length) :
    ∀ i ρ H', i ≤ args.length → (∃ ws vs, ws = widthsOf nodes (args.take i) ∧ vs = valsOf vals (args.take i) ∧ H' = H ++ [cx, .tok ws.length, .tok vs.length] ∧ ρ 1 = .list (nodes.map encNode) ∧ ρ 3 = .list (vals.map (.int .i64)) ∧
        ρ 9 = .tl (H.length + 1) (ws.map (.int .i64)) ∧ ρ 10 = .tl (H.length + 2) (vs.map (.int .i64)) ∧ ρ 14 = .list (args.map (.int .i64)) ∧ ρ 15 = .int .i64 args.length ∧ ρ 16 = .int .i64 i) →
      Lp X ⟨47, bs⟩ (loopAt Tryz.f235 0) ρ H' fun ex ρ' H' => H' = H ++ [cx, .tok args.length, .tok args.length] ∧ ex = .exit 0 ∧ ρ' 9 = .tl (H.length + 1) ((widthsOf nodes args).map (.int .i64)) ∧ ρ' 10 = .tl (H.length + 2) ((valsOf vals args).map (.int .i64)) := by
  refine loop_up ?_ ?_
  · rintro i ρ H' hi ⟨ws, vs, hws, hvs, rfl, h1, h3, h9, h10, h14, h15, h16⟩
    have hget : args[i]? = some args[i] := by simp [hi]
    have hm := hargs args[i] (List.getElem_mem hi)
    have htk : args.take (i + 1) = args.take i ++ [args[i]] := by rw [List.take_add_one, hget]; rfl
    generalize args[i] = n at hget hm htk
    obtain ⟨m, rfl⟩ : ∃ m : Nat, n = m := ⟨n.toNat, by omega⟩
    have hlt : m < nodes.length := by omega
    have hltv : m < vals.length := by omega
    have hget2 : nodes[m]? = some nodes[m] := by simp [hlt]
    have hget3 : vals[m]? = some vals[m] := by simp [hltv]
    have hsn := widthsOf_snoc nodes (args.take i) m nodes[m] (by simp)
    have hsv := valsOf_snoc vals (args.take i) m vals[m] (by simp)
    generalize nodes[m] = y at hget2 hsn
    generalize vals[m] = z at hget3 hsv
    have hlen : ws.length = i := by rw [hws]; simp [widthsOf]; omega
    have hlenv : vs.length = i := by rw [hvs]; simp [valsOf]; omega
    have hroom := room8 ws.length (by omega)
    have hroomv := room8 vs.length (by omega)
    have hw := add1 i args.length hi hl
    rw [← hws, ← htk] at hsn
    rw [← hvs, ← htk] at hsv
    replace hws : Kp (ws = widthsOf nodes (args.take i)) := ⟨hws⟩
    replace hvs : Kp (vs = valsOf vals (args.take i)) := ⟨hvs⟩
    replace hsn : Kp (widthsOf nodes (args.take (i + 1)) = ws ++ [y.width]) := ⟨hsn⟩
    replace hsv : Kp (valsOf vals (args.take (i + 1)) = vs ++ [z]) := ⟨hsv⟩
    replace hlen : Kp (ws.length = i) := ⟨hlen⟩
    replace hlenv : Kp (vs.length = i) := ⟨hlenv⟩
    clear htk hm hlt hltv hargs
    conv => arg 3; whnf
    repeat' first
     | (apply z51 (id := 5) (ord := [0, 1, 2, 3, 4, 5, 6, 8, 9, 10, 11, 12, 13, 7, 14, 15, 16]) (ps := [(11, 13), (12, 13)]) <;> first | kernel_rfl | skip)
     | (apply z50 (id := 7) (ord := [0, 1, 2, 3, 4, 5, 6, 7, 8, 9, 10, 11]) <;> first | kernel_rfl | skip)
     | (refine zs ?_; repeat' first | apply zs0 | apply zs2 | (intro hc; try have hq := dq hc)) | fail
    exact ⟨ws ++ [y.width], vs ++ [z], hsn.out.symm, hsv.out.symm, by simp, by (simp only [seval, push_cast, *] <;> rfl), by (simp only [seval, push_cast, *] <;> rfl), by simp [push_cast], by simp [push_cast], by (simp only [seval, push_cast, *] <;> rfl), by (simp only [seval, push_cast, *] <;> rfl), by (simp only [seval, push_cast, *] <;> rfl)⟩
  · rintro ρ H' ⟨ws, vs, hws, hvs, rfl, h1, h3, h9, h10, h14, h15, h16⟩
    rw [List.take_length] at hws hvs
    have hlen : ws.length = args.length := by rw [hws]; simp [widthsOf]
    have hlenv : vs.length = args.length := by rw [hvs]; simp [valsOf]
    replace hws : Kp (ws = widthsOf nodes args) := ⟨hws⟩
    replace hvs : Kp (vs = valsOf vals args) := ⟨hvs⟩
    replace hlen : Kp (ws.length = args.length) := ⟨hlen⟩
    replace hlenv : Kp (vs.length = args.length) := ⟨hlenv⟩
    clear hargs
    conv => arg 3; whnf
    repeat' first
     | (apply z51 (id := 5) (ord := [0, 1, 2, 3, 4, 5, 6, 8, 9, 10, 11, 12, 13, 7, 14, 15, 16]) (ps := [(11, 13), (12, 13)]) <;> first | kernel_rfl | skip)
     | (apply z50 (id := 7) (ord := [0, 1, 2, 3, 4, 5, 6, 7, 8, 9, 10, 11]) <;> first | kernel_rfl | skip)
     | (refine zs ?_; repeat' first | apply zs0 | apply zs2 | (intro hc; try have hq := dq hc)) | fail
    exact ⟨by rw [hlen.out, hlenv.out], rfl, by rw [← hws.out]; (simp only [seval, push_cast, *] <;> rfl), by rw [← hvs.out]; (simp only [seval, push_cast, *] <;> rfl)⟩
end Go.E
/- Contracts of the package graph, in E: ValuesOf, whole. Own work. -/
namespace Go.E
open Go.Proofs
set_option maxRecDepth 100000
set_option maxHeartbeats 4000000

theorem gr_applied (bs : List Nat) (H : Heap) (nodes : List Node) (x : Node) (vals : List Int) (b : Nat) (hB : H[b]? = some (.cells opsAll)) (hal : x.args.length ≤ 1000000) (h0 : 0 ≤ x.op) (h1 : x.op ≠ 1) (hargs : ∀ n ∈ x.args, 0 ≤ n ∧ n < nodes.length ∧ n < vals.length) (hok : OkArgs x.op.toNat x.width x.value (valsOf vals x.args) (widthsOf nodes x.args)) : callw X bs 235 [.ptr b 0, .list (nodes.map encNode), encNode x, .list (vals.map (.int .i64))] H = some (.int .i64 (applyS x.op.toNat x.width x.value (valsOf vals x.args) (widthsOf nodes x.args)), H) := by
  refine call_at (rs := [.tmp 8]) (N := 47) (fn := Tryz.f235) xk235 xf235 rfl rfl rfl (by simp only [seval, push_cast, List.map_cons, List.map_nil, V.norm, norm1]; rfl) ?_
  have hB2 := get_app hB
  have hrun := fun bs H => run_call bs H x.op.toNat x.op x.width x.value (x.args.map (.int .i64)) _ _ hok (by omega)
  have hk19 := hok.k19
  obtain ⟨k, hk⟩ : ∃ k : Nat, x.op = k := ⟨x.op.toNat, by omega⟩
  rw [hk, Int.toNat_natCast] at hrun hk19
  rw [hk, Int.toNat_natCast]
  have hat := opsAll_run k hk19
  have h95 : k * 5 + 5 ≤ 95 := by omega
  have hlen95 := opsAll_len
  have hloop := fun (bs : List Nat) (cx : HObj) (ρ : Env) => ap_loop bs H cx nodes vals x.args hal hargs 0 ρ
  clear hargs hok hB
  repeat' first
   | (apply z51 (id := 5) (ord := [0, 1, 2, 3, 4, 5, 6, 8, 9, 10, 11, 12, 13, 7, 14, 15, 16]) (ps := [(11, 13), (12, 13)]) <;> first | kernel_rfl | skip)
   | (apply z50 (id := 7) (ord := [0, 1, 2, 3, 4, 5, 6, 7, 8, 9, 10, 11]) <;> first | kernel_rfl | skip)
   | (refine zs ?_; repeat' first | apply zs0 | apply zs2 | (intro hc; try have hq := dq hc)) | fail
  refine lp_then (lp_any (c := loopAt Tryz.f235 0) rfl (hloop _ _ _ _ (by omega) ⟨[], [], rfl, rfl, rfl, by (simp only [seval, push_cast, *] <;> rfl), by (simp only [seval, push_cast, *] <;> rfl), by (simp only [seval, push_cast, *] <;> rfl), by (simp only [seval, push_cast, *] <;> rfl), by (simp only [seval, push_cast, *] <;> rfl), by (simp only [seval, push_cast, *] <;> rfl), by (simp only [seval, push_cast, *] <;> rfl)⟩)) ?_
  rintro ex ρ' H' ⟨rfl, rfl, h9, h10⟩ hf
  have f0 := hf 0 rfl
  have f6 := hf 6 rfl
  simp only [seval, push_cast] at f0 f6
  clear hloop
  repeat' first
   | (apply z51 (id := 5) (ord := [0, 1, 2, 3, 4, 5, 6, 8, 9, 10, 11, 12, 13, 7, 14, 15, 16]) (ps := [(11, 13), (12, 13)]) <;> first | kernel_rfl | skip)
   | (apply z50 (id := 7) (ord := [0, 1, 2, 3, 4, 5, 6, 7, 8, 9, 10, 11]) <;> first | kernel_rfl | skip)
   | (refine zs ?_; repeat' first | apply zs0 | apply zs2 | (intro hc; try have hq := dq hc)) | fail

theorem valsL_succ (nodes : List Node) (lv : List Int) (i : Nat) (x : Node) (h : nodes[i]? = some x) : valsL nodes lv (i + 1) = valsL nodes lv i ++ [valN nodes lv (valsL nodes lv i) x] := by simp only [valsL, h]
theorem va_loop (bs : List Nat) (H : Heap) (t : HObj) (leaves lv : List Int) (nodes : List Node) (hn : nodes.length ≤ 1000000) (hal : ∀ x ∈ nodes, x.args.length ≤ 1000000) (hg : GoodAll leaves nodes) (hl : LeafOk leaves lv) :
    ∀ i ρ H', i ≤ nodes.length → (∃ vs junk, vs = valsL nodes lv i ∧ H' = H ++ t :: .cells opsAll :: .tok vs.length :: junk ∧ ρ 0 = .list (nodes.map encNode) ∧ ρ 1 = .list (lv.map (.int .i64)) ∧ ρ 5 = .ptr (H.length + 1) 0 ∧
        ρ 6 = .tl (H.length + 2) (vs.map (.int .i64)) ∧ ρ 11 = .list (nodes.map encNode) ∧ ρ 12 = .int .i64 nodes.length ∧ ρ 13 = .int .i64 i) →
      Lp X ⟨38, bs⟩ (loopAt Tryz.f204 0) ρ H' fun ex ρ' H' => ∃ vs junk, vs = valsL nodes lv nodes.length ∧ H' = H ++ t :: .cells opsAll :: .tok vs.length :: junk ∧ ex = .exit 0 ∧ ρ' 6 = .tl (H.length + 2) (vs.map (.int .i64)) := by
  refine loop_up ?_ ?_
  · rintro i ρ H' hi ⟨vs, junk, hvs, rfl, h0, h1, h5, h6, h11, h12, h13⟩
    have hget : nodes[i]? = some nodes[i] := by simp [hi]
    have hal' := hal nodes[i] (List.getElem_mem hi)
    have g := hg i nodes[i] hget
    have hok := vals_ok.okArgs hg hl (vals_ok hg hl i (by omega)) hget
    have hsv := valsL_succ nodes lv i nodes[i] hget
    generalize nodes[i] = x at hget hal' g hok hsv
    have hlen : vs.length = i := by rw [hvs]; exact valsL_len nodes lv i
    have hroom := room8 vs.length (by omega)
    have hw := add1 i nodes.length hi hn
    rw [← hvs] at hsv hok
    have hlr : lv.length = leaves.length := hl.1
    clear hg hl hal
    by_cases h1' : x.op = 1
    · have d : decide (x.op = 1) = true := decide_eq_true h1'
      have hva := g.val
      rw [h1'] at hva
      obtain ⟨a, b, c⟩ := value_leaf hva
      obtain ⟨m, hm⟩ : ∃ m : Nat, x.value = m := ⟨x.value.toNat, by omega⟩
      have hlt : m < lv.length := by omega
      have hget2 : lv[m]? = some lv[m] := by simp [hlt]
      have hv : valN nodes lv vs x = lv[m] := by unfold valN; rw [if_pos h1', hm, Int.toNat_natCast]; exact at0_get hget2
      rw [hv] at hsv
      generalize lv[m] = z at hget2 hsv hv
      replace hvs : Kp (vs = valsL nodes lv i) := ⟨hvs⟩
      replace hsv : Kp (valsL nodes lv (i + 1) = vs ++ [z]) := ⟨hsv⟩
      replace hlen : Kp (vs.length = i) := ⟨hlen⟩
      clear hv hva a b c hlt h1' g hok hlr
      conv => arg 3; whnf
      all_goals try (refine zs ?_; repeat' first | apply zs0 | apply zs2 | (intro hc; try have hq := dq hc))
      exact ⟨vs ++ [z], _, hsv.out.symm, by simp only [List.length_append, List.length_singleton]; rfl, by (simp only [seval, push_cast, *] <;> rfl), by (simp only [seval, push_cast, *] <;> rfl), by (simp only [seval, push_cast, *] <;> rfl), by simp [push_cast], by (simp only [seval, push_cast, *] <;> rfl), by (simp only [seval, push_cast, *] <;> rfl), by (simp only [seval, push_cast, *] <;> rfl)⟩
    · have d : decide (x.op = 1) = false := decide_eq_false h1'
      have hv : valN nodes lv vs x = applyS x.op.toNat x.width x.value (valsOf vs x.args) (widthsOf nodes x.args) := by unfold valN; rw [if_neg h1']
      rw [hv] at hsv
      have hap := fun bs rest => gr_applied bs (H ++ t :: .cells opsAll :: rest) nodes x vs (H.length + 1) (by simp) hal' g.op0 h1' (fun n hn => by have := g.args n hn; omega) hok
      simp only [encNode, encInts] at hap
      generalize applyS x.op.toNat x.width x.value (valsOf vs x.args) (widthsOf nodes x.args) = z at hsv hap
      replace hvs : Kp (vs = valsL nodes lv i) := ⟨hvs⟩
      replace hsv : Kp (valsL nodes lv (i + 1) = vs ++ [z]) := ⟨hsv⟩
      replace hlen : Kp (vs.length = i) := ⟨hlen⟩
      clear hv h1' g hok hlr
      conv => arg 3; whnf
      all_goals try (refine zs ?_; repeat' first | apply zs0 | apply zs2 | (intro hc; try have hq := dq hc))
      exact ⟨vs ++ [z], _, hsv.out.symm, by simp only [List.length_append, List.length_singleton]; rfl, by (simp only [seval, push_cast, *] <;> rfl), by (simp only [seval, push_cast, *] <;> rfl), by (simp only [seval, push_cast, *] <;> rfl), by simp [push_cast], by (simp only [seval, push_cast, *] <;> rfl), by (simp only [seval, push_cast, *] <;> rfl), by (simp only [seval, push_cast, *] <;> rfl)⟩
  · rintro ρ H' ⟨vs, junk, hvs, rfl, h0, h1, h5, h6, h11, h12, h13⟩
    replace hvs : Kp (vs = valsL nodes lv nodes.length) := ⟨hvs⟩
    clear hal hg hl
    conv => arg 3; whnf
    all_goals try (refine zs ?_; repeat' first | apply zs0 | apply zs2 | (intro hc; try have hq := dq hc))
    exact ⟨vs, junk, hvs.out, rfl, rfl, by (simp only [seval, push_cast, *] <;> rfl)⟩

theorem gr_valued (bs : List Nat) (H : Heap) (leaves lv : List Int) (nodes : List Node) (hn : nodes.length ≤ 1000000) (hal : ∀ x ∈ nodes, x.args.length ≤ 1000000) (hg : GoodAll leaves nodes) (hl : LeafOk leaves lv) : callw X bs 204 [.list (nodes.map encNode), .list (lv.map (.int .i64))] H = some (.list ((valsL nodes lv nodes.length).map (.int .i64)), H) := by
  refine call_at (rs := [.tmp 4]) (N := 38) (fn := Tryz.f204) xk204 xf204 rfl rfl rfl (by simp only [seval, push_cast, List.map_cons, List.map_nil, V.norm, norm1]; rfl) ?_
  have hloop := fun (bs : List Nat) (t : HObj) (ρ : Env) => va_loop bs H t leaves lv nodes hn hal hg hl 0 ρ
  have hp := opsAll_pure
  have hlen := opsAll_len
  have hc := opsAll_cell
  clear hal hg hl
  all_goals try (refine zs ?_; repeat' first | apply zs0 | apply zs2 | (intro hc; try have hq := dq hc))
  refine lp_then (lp_any (c := loopAt Tryz.f204 0) rfl (hloop _ _ _ _ (by omega) ⟨[], [], rfl, rfl, by (simp only [seval, push_cast, *] <;> rfl), by (simp only [seval, push_cast, *] <;> rfl), by (simp only [seval, push_cast, *] <;> rfl), by (simp only [seval, push_cast, *] <;> rfl), by (simp only [seval, push_cast, *] <;> rfl), by (simp only [seval, push_cast, *] <;> rfl), by (simp only [seval, push_cast, *] <;> rfl)⟩)) ?_
  rintro ex ρ' H' ⟨vs, junk, hvs, rfl, rfl, h6⟩ hf
  rw [← hvs]
  clear hloop hvs
  all_goals try (refine zs ?_; repeat' first | apply zs0 | apply zs2 | (intro hc; try have hq := dq hc))
end Go.E
namespace Go.E
open Go.Proofs
set_option maxRecDepth 100000
set_option maxHeartbeats 4000000

theorem eachP_none {α : Type} (g : Nat → α → Int) : ∀ (l : List α) (i : Nat), (∀ j x, l[j]? = some x → g (i + j) x = 0) → eachP g i l = (0, 0)
  | [], _, _ => rfl
  | y :: r, i, h => by
    unfold eachP
    rw [if_neg (by simpa using h 0 y rfl)]
    exact eachP_none g r (i + 1) (fun j x hx => by have := h (j + 1) x hx; rwa [show i + (j + 1) = i + 1 + j by omega] at this)
theorem fitsG_in {n w : Int} (h1 : 1 ≤ w) (h16 : w ≤ 16) (h : InW n w) : fitsG n w = true := by
  unfold fitsG
  rw [shl1_pow (by omega)]
  have h3 := pow_le (k := w.toNat) (by omega)
  have h4 := pow_pos' w.toNat
  rw [wrap64 (by omega) (by omega)]
  obtain ⟨a, b⟩ := h
  rw [Bool.and_eq_true, Bool.and_eq_true, decide_eq_true_eq, decide_eq_true_eq, decide_eq_true_eq]
  omega
theorem fitsN_in {n w : Int} (h1 : 1 ≤ w) (h16 : w ≤ 16) : fitsN n w = true ↔ InW n w := by
  unfold fitsN
  rw [shl1_pow (by omega)]
  have h3 := pow_le (k := w.toNat) (by omega)
  have h4 := pow_pos' w.toNat
  rw [wrap64 (by omega) (by omega)]
  rw [Bool.and_eq_true, decide_eq_true_eq, decide_eq_true_eq]
  unfold InW
  omega

theorem gr_graphErr (bs : List Nat) (H : Heap) (leaves : List Int) (nodes : List Node) (hl : leaves.length ≤ 1000000) (hn : nodes.length ≤ 1000000) (hal : ∀ x ∈ nodes, x.args.length ≤ 1000000) : callw X bs 202 [.list (leaves.map (.int .i64)), .list (nodes.map encNode)] H = some (.int .i64 (checkNodesS leaves nodes).2, H) := by
  refine call_at (rs := [.tmp 4]) (N := 14) (fn := Tryz.f202) xk202 xf202 rfl rfl rfl (by simp only [seval, push_cast, List.map_cons, List.map_nil, V.norm, norm1]; rfl) ?_
  have t := fun bs H => gr_checkNodes bs H leaves nodes hl hn hal
  clear hal
  all_goals try (refine zs ?_; repeat' first | apply zs0 | apply zs2 | (intro hc; try have hq := dq hc))

theorem gr_vo1 (bs : List Nat) (H : Heap) (leaves : List Int) (i : Nat) (n w : Int) (a : Nat) (hi : leaves[i]? = some w) (hA : H[a]? = some (.cells [.list (leaves.map (.int .i64))])) : callw X bs 203 [.int .i64 i, .int .i64 n, .ptr a 0] H = some (.int .i64 (if fitsG n w = true then 0 else 2), H) := by
  refine call_at (rs := [.tmp 5]) (N := 13) (fn := Tryz.f203) xk203 xf203 rfl rfl rfl (by simp only [seval, push_cast, List.map_cons, List.map_nil, V.norm, norm1]; rfl) ?_
  all_goals try (refine zs ?_; repeat' first | apply zs0 | apply zs2 | (intro hc; try have hq := dq hc))

theorem gr_valuesOf (bs : List Nat) (H : Heap) (leaves lv : List Int) (nodes : List Node) (hll : leaves.length ≤ 1000000) (hn : nodes.length ≤ 1000000) (hal : ∀ x ∈ nodes, x.args.length ≤ 1000000) (hc : (checkNodesS leaves nodes).2 = 0) (hl : LeafOk leaves lv) : callw X bs 148 [.list (leaves.map (.int .i64)), .list (nodes.map encNode), .list (lv.map (.int .i64))] H = some (.tuple [.list ((valsL nodes lv nodes.length).map (.int .i64)), .int .i64 0], H) := by
  refine call_at (rs := [.tmp 6, .tmp 7]) (N := 37) (fn := Tryz.f148) xk148 xf148 rfl rfl rfl (by simp only [seval, push_cast, List.map_cons, List.map_nil, V.norm, norm1]; rfl) ?_
  have t1 := fun bs H => gr_graphErr bs H leaves nodes hll hn hal
  rw [hc] at t1
  have hlen := hl.1
  have d : decide ((lv.length : Int) = (leaves.length : Int)) = true := decide_eq_true (by omega)
  have hw := leaves_of hc
  have t2 := fun (bs : List Nat) rest => graph_each_Int_p bs (H ++ .cells [.list (leaves.map (.int .i64))] :: rest) 203 [.ptr H.length 0] (fun i n => if fitsG n (at0 leaves i) = true then 0 else 2) lv (by omega)
    (fun bs i x junk hx => by
      have hi : i < leaves.length := by rw [← hlen]; exact (List.getElem?_eq_some_iff.1 hx).1
      have hg : leaves[i]? = some leaves[i] := by simp [hi]
      have := gr_vo1 bs ((H ++ .cells [.list (leaves.map (.int .i64))] :: rest) ++ junk) leaves i x leaves[i] H.length hg (by simp)
      rw [at0_get hg]
      exact this)
  rw [eachP_none _ lv 0 (fun j x hx => by
    have hi : j < leaves.length := by rw [← hlen]; exact (List.getElem?_eq_some_iff.1 hx).1
    have hg : leaves[j]? = some leaves[j] := by simp [hi]
    rw [Nat.zero_add, at0_get hg, if_pos]
    exact fitsG_in (hw j _ hg).1 (hw j _ hg).2 (hl.2 j _ _ hg hx))] at t2
  simp only [show encInt = V.int .i64 from rfl] at t2
  have t3 := fun bs H => gr_valued bs H leaves lv nodes hn hal (goodAll_of hc) hl
  clear hal hl hw hc
  repeat' first
   | (apply z51 (id := 1) (ord := [0, 1, 3, 4, 5, 6, 7, 2, 8, 9, 10, 11]) (ps := [(4, 7)]) <;> first | kernel_rfl | skip)
   | (refine zs ?_; repeat' first | apply zs0 | apply zs2 | (intro hc; try have hq := dq hc)) | fail
end Go.E
/- Contracts of the package netlist, in E: a clock. Own work. -/
namespace Go.E
open Go.Proofs
set_option maxRecDepth 100000
set_option maxHeartbeats 4000000

theorem known_call {cx : Cx} {bs : List Nat} {f : Nat} {fn : Func} {c : Code} {args : List V} {H : Heap} {v : V} (hf : cx.P.funcs[f]? = some fn) (hb : fn.body = some c) (hk : cx.keep f = true) (h : cx.known f (args.map V.norm) = some v) :
    callw cx bs f args H = some (v, H) := by
  refine callw_body ?_
  unfold evBody
  simp only [hf, hb, hk, if_true, h, Option.map_some]
theorem all_ints1 (l : List Int) : (l.map (V.int .i64)).all (fun e => e.cells.length == 1 && e.cells.all V.isCell) = true := by
  rw [List.all_eq_true]
  intro e he
  obtain ⟨i, _, rfl⟩ := List.mem_map.1 he
  rfl
theorem kn_concat (bs : List Nat) (H : Heap) (a b : List Int) (t : Nat) (h : a.length + b.length ≤ 1000000) :
    callw X bs 149 [.tl t [.list (a.map (.int .i64)), .list (b.map (.int .i64))]] H = some (.list ((a ++ b).map (.int .i64)), H) := by
  refine known_call (fn := Tryz.f149) xf149 rfl rfl ?_
  show concatV 1 [.list [.list (a.map (.int .i64)), .list (b.map (.int .i64))]] = _
  have hp : V.pureL ((a ++ b).map (V.int .i64)) = true := pureL_int _ _
  have ha := all_ints1 (a ++ b)
  simp only [concatV, concatL, Option.map_some, Option.bind_some, List.append_nil, ← List.map_append]
  rw [if_pos ⟨by simpa using h, by simp, hp, ha⟩]

section
variable (n : Netl) (vals state : List Int)
theorem ck_outs (bs : List Nat) (H : Heap) (c t2 t3 : HObj) (hl : n.outs.length ≤ 1000) (hn : ∀ o ∈ n.outs, 0 ≤ o.node ∧ o.node < vals.length) :
    ∀ i ρ H', i ≤ n.outs.length → (∃ os junk, os = (n.outs.take i).map (fun o => at0 vals o.node.toNat) ∧ H' = H ++ c :: .tok os.length :: t2 :: t3 :: junk ∧ ρ 6 = .tl (H.length + 1) (os.map (.int .i64)) ∧ ρ 8 = .list (vals.map (.int .i64)) ∧
        ρ 31 = .list (n.outs.map encOutp) ∧ ρ 32 = .int .i64 n.outs.length ∧ ρ 33 = .int .i64 i) →
      Lp X ⟨77, bs⟩ (loopAt Tryz.f93 0) ρ H' fun ex ρ' H' => ∃ os junk, os = outsS n vals ∧ H' = H ++ c :: .tok os.length :: t2 :: t3 :: junk ∧ ex = .exit 0 ∧ ρ' 6 = .tl (H.length + 1) (os.map (.int .i64)) := by
  refine loop_up ?_ ?_
  · rintro i ρ H' hi ⟨os, junk, hos, rfl, h6, h8, h31, h32, h33⟩
    have hget : n.outs[i]? = some n.outs[i] := by simp [hi]
    have hm := hn n.outs[i] (List.getElem_mem hi)
    have htk : n.outs.take (i + 1) = n.outs.take i ++ [n.outs[i]] := by rw [List.take_add_one, hget]; rfl
    generalize n.outs[i] = o at hget hm htk
    obtain ⟨nm, nd⟩ := o
    simp only at hm htk
    obtain ⟨m, rfl⟩ : ∃ m : Nat, nd = m := ⟨nd.toNat, by omega⟩
    have hlt : m < vals.length := by omega
    have hget2 : vals[m]? = some vals[m] := by simp [hlt]
    have hsn : (n.outs.take (i + 1)).map (fun o => at0 vals o.node.toNat) = os ++ [vals[m]] := by
      rw [htk, List.map_append, ← hos]; simp [at0, hlt]
    generalize vals[m] = z at hget2 hsn
    have hlen : os.length = i := by rw [hos]; simp; omega
    have hroom := room8 os.length (by omega)
    have hw := add1 i n.outs.length hi (by omega)
    replace hos : Kp (os = (n.outs.take i).map (fun o => at0 vals o.node.toNat)) := ⟨hos⟩
    replace hsn : Kp ((n.outs.take (i + 1)).map (fun o => at0 vals o.node.toNat) = os ++ [z]) := ⟨hsn⟩
    replace hlen : Kp (os.length = i) := ⟨hlen⟩
    clear htk hm hlt hn
    conv => arg 3; whnf
    repeat' first
     | (apply z51 (id := 1) (ord := [0, 1, 3, 4, 5, 6, 7, 8, 2, 9, 10, 11, 12, 13, 14, 15]) (ps := [(4, 8), (4, 9), (7, 8)]) <;> first | kernel_rfl | skip)
     | (refine zs ?_; repeat' first | apply zs0 | apply zs2 | (intro hc; try have hq := dq hc)) | fail
    exact ⟨os ++ [z], _, hsn.out.symm, by simp only [List.length_append, List.length_singleton]; rfl, by simp [push_cast], by (simp only [seval, push_cast, *] <;> rfl), by (simp only [seval, push_cast, *] <;> rfl), by (simp only [seval, push_cast, *] <;> rfl), by (simp only [seval, push_cast, *] <;> rfl)⟩
  · rintro ρ H' ⟨os, junk, hos, rfl, h6, h8, h31, h32, h33⟩
    rw [List.take_length] at hos
    replace hos : Kp (os = n.outs.map (fun o => at0 vals o.node.toNat)) := ⟨hos⟩
    clear hn
    conv => arg 3; whnf
    repeat' first
     | (apply z51 (id := 1) (ord := [0, 1, 3, 4, 5, 6, 7, 8, 2, 9, 10, 11, 12, 13, 14, 15]) (ps := [(4, 8), (4, 9), (7, 8)]) <;> first | kernel_rfl | skip)
     | (refine zs ?_; repeat' first | apply zs0 | apply zs2 | (intro hc; try have hq := dq hc)) | fail
    exact ⟨os, junk, hos.out, rfl, rfl, by (simp only [seval, push_cast, *] <;> rfl)⟩

theorem ck_regs (bs : List Nat) (H : Heap) (c t1 t3 : HObj) (hl : n.regs.length ≤ 1000) (hs : state.length = n.regs.length) (hn : ∀ r ∈ n.regs, (0 ≤ r.enable ∧ r.enable < vals.length) ∧ 0 ≤ r.next ∧ r.next < vals.length) :
    ∀ i ρ H', i ≤ n.regs.length → (∃ ns junk, ns = nextL n.regs vals state i ∧ H' = H ++ c :: t1 :: .tok ns.length :: t3 :: junk ∧ ρ 2 = .list (state.map (.int .i64)) ∧ ρ 7 = .tl (H.length + 2) (ns.map (.int .i64)) ∧ ρ 8 = .list (vals.map (.int .i64)) ∧
        ρ 48 = .list (n.regs.map encReg) ∧ ρ 49 = .int .i64 n.regs.length ∧ ρ 50 = .int .i64 i) →
      Lp X ⟨77, bs⟩ (loopAt Tryz.f93 1) ρ H' fun ex ρ' H' => ∃ ns junk, ns = nextL n.regs vals state n.regs.length ∧ H' = H ++ c :: t1 :: .tok ns.length :: t3 :: junk ∧ ex = .exit 2 ∧ ρ' 7 = .tl (H.length + 2) (ns.map (.int .i64)) := by
  refine loop_up ?_ ?_
  · rintro i ρ H' hi ⟨ns, junk, hns, rfl, h2, h7, h8, h48, h49, h50⟩
    have hget : n.regs[i]? = some n.regs[i] := by simp [hi]
    have hm := hn n.regs[i] (List.getElem_mem hi)
    have hsn := nextL_succ n.regs vals state i n.regs[i] hget
    generalize n.regs[i] = r at hget hm hsn
    obtain ⟨nm, wd, ini, en, nx⟩ := r
    simp only at hm
    obtain ⟨e, rfl⟩ : ∃ m : Nat, en = m := ⟨en.toNat, by omega⟩
    obtain ⟨x, rfl⟩ : ∃ m : Nat, nx = m := ⟨nx.toNat, by omega⟩
    have he : e < vals.length := by omega
    have hx : x < vals.length := by omega
    have hst : i < state.length := by omega
    have ge : vals[e]? = some vals[e] := by simp [he]
    have gx : vals[x]? = some vals[x] := by simp [hx]
    have gs : state[i]? = some state[i] := by simp [hst]
    have hv : nextV vals state i ⟨nm, wd, ini, e, x⟩ = if vals[e] = 1 then vals[x] else state[i] := by simp [nextV, at0, he, hx, hst]
    rw [hv, ← hns] at hsn
    clear hv
    generalize vals[e] = ve at ge hsn
    generalize vals[x] = vx at gx hsn
    generalize state[i] = si at gs hsn
    have hlen : ns.length = i := by rw [hns]; exact nextL_len _ _ _ i
    have hroom := room8 ns.length (by omega)
    have hw := add1 i n.regs.length hi (by omega)
    replace hns : Kp (ns = nextL n.regs vals state i) := ⟨hns⟩
    replace hlen : Kp (ns.length = i) := ⟨hlen⟩
    clear hm he hx hst hn hs
    by_cases h1 : ve = 1
    · have d : decide (ve = 1) = true := decide_eq_true h1
      rw [if_pos h1] at hsn
      replace hsn : Kp (nextL n.regs vals state (i + 1) = ns ++ [vx]) := ⟨hsn⟩
      clear h1
      conv => arg 3; whnf
      repeat' first
       | (apply z51 (id := 1) (ord := [0, 1, 3, 4, 5, 6, 7, 8, 2, 9, 10, 11, 12, 13, 14, 15]) (ps := [(4, 8), (4, 9), (7, 8)]) <;> first | kernel_rfl | skip)
       | (refine zs ?_; repeat' first | apply zs0 | apply zs2 | (intro hc; try have hq := dq hc)) | fail
      exact ⟨ns ++ [vx], _, hsn.out.symm, by simp only [List.length_append, List.length_singleton]; rfl, by (simp only [seval, push_cast, *] <;> rfl), by simp [push_cast], by (simp only [seval, push_cast, *] <;> rfl), by (simp only [seval, push_cast, *] <;> rfl), by (simp only [seval, push_cast, *] <;> rfl), by (simp only [seval, push_cast, *] <;> rfl)⟩
    · have d : decide (ve = 1) = false := decide_eq_false h1
      rw [if_neg h1] at hsn
      replace hsn : Kp (nextL n.regs vals state (i + 1) = ns ++ [si]) := ⟨hsn⟩
      clear h1
      conv => arg 3; whnf
      repeat' first
       | (apply z51 (id := 1) (ord := [0, 1, 3, 4, 5, 6, 7, 8, 2, 9, 10, 11, 12, 13, 14, 15]) (ps := [(4, 8), (4, 9), (7, 8)]) <;> first | kernel_rfl | skip)
       | (refine zs ?_; repeat' first | apply zs0 | apply zs2 | (intro hc; try have hq := dq hc)) | fail
      exact ⟨ns ++ [si], _, hsn.out.symm, by simp only [List.length_append, List.length_singleton]; rfl, by (simp only [seval, push_cast, *] <;> rfl), by simp [push_cast], by (simp only [seval, push_cast, *] <;> rfl), by (simp only [seval, push_cast, *] <;> rfl), by (simp only [seval, push_cast, *] <;> rfl), by (simp only [seval, push_cast, *] <;> rfl)⟩
  · rintro ρ H' ⟨ns, junk, hns, rfl, h2, h7, h8, h48, h49, h50⟩
    replace hns : Kp (ns = nextL n.regs vals state n.regs.length) := ⟨hns⟩
    clear hn hs
    conv => arg 3; whnf
    repeat' first
     | (apply z51 (id := 1) (ord := [0, 1, 3, 4, 5, 6, 7, 8, 2, 9, 10, 11, 12, 13, 14, 15]) (ps := [(4, 8), (4, 9), (7, 8)]) <;> first | kernel_rfl | skip)
     | (refine zs ?_; repeat' first | apply zs0 | apply zs2 | (intro hc; try have hq := dq hc)) | fail
    exact ⟨ns, junk, hns.out, rfl, rfl, by (simp only [seval, push_cast, *] <;> rfl)⟩
end
theorem widthsL_len (n : Netl) : (leavesN n).length = n.inputs.length + n.regs.length := by simp [leavesN]

theorem nl_clock (bs : List Nat) (H : Heap) (n : Netl) (ins state : List Int) (hS : Small n) (hk : NetOk n) (hl : LeafOk (leavesN n) (ins ++ state)) (hst : state.length = n.regs.length) : callw X bs 93 [encNetl n, .list (ins.map (.int .i64)), .list (state.map (.int .i64))] H = some (.tuple [.list ((stepN n ins state).1.map (.int .i64)), .list ((stepN n ins state).2.map (.int .i64))], H) := by
  refine call_at (rs := [.tmp 6, .tmp 7]) (N := 77) (fn := Tryz.f93) xk93 xf93 rfl rfl rfl (by simp only [seval, push_cast, List.map_cons, List.map_nil, V.norm, norm1]; rfl) ?_
  have hvl : (valsN n ins state).length = n.nodes.length := valsL_len _ _ _
  have hlen := hl.1
  rw [widthsL_len, List.length_append] at hlen
  have s1 := hS.inputs
  have s2 := hS.regs
  have s3 := hS.nodes
  have s4 := hS.outs
  have t1 := fun bs H => nl_leaves bs H n s1 s2
  have t2 := fun bs H t => kn_concat bs H ins state t (by omega)
  have t3 := fun bs H => gr_valuesOf bs H (leavesN n) (ins ++ state) n.nodes (by rw [widthsL_len]; omega) (by omega) (fun x hx => Nat.le_trans (hS.args x hx) (by omega)) hk.nodes hl
  have l1 := fun (bs : List Nat) (c t2 t3 : HObj) (ρ : Env) => ck_outs n (valsN n ins state) bs H c t2 t3 s4 (fun o ho => by rw [hvl]; exact hk.outs o ho) 0 ρ
  have l2 := fun (bs : List Nat) (c t1 t3 : HObj) (ρ : Env) => ck_regs n (valsN n ins state) state bs H c t1 t3 s2 hst (fun r hr => by rw [hvl]; exact hk.regs r hr) 0 ρ
  simp only [encNetl, cellsNetl] at t1
  unfold stepN
  have hv : valsL n.nodes (ins ++ state) n.nodes.length = valsN n ins state := rfl
  rw [hv] at t3
  generalize valsN n ins state = vals at t3 l1 l2
  generalize leavesN n = lvs at t1 t3
  clear hS hk hl hst hvl hlen s1 s2 s3 s4 hv
  repeat' first
   | (apply z51 (id := 1) (ord := [0, 1, 3, 4, 5, 6, 7, 8, 2, 9, 10, 11, 12, 13, 14, 15]) (ps := [(4, 8), (4, 9), (7, 8)]) <;> first | kernel_rfl | skip)
   | (refine zs ?_; repeat' first | apply zs0 | apply zs2 | (intro hc; try have hq := dq hc)) | fail
  refine lp_then (lp_any (c := loopAt Tryz.f93 0) rfl (l1 _ _ _ _ _ _ (by omega) ⟨[], [], rfl, rfl, by (simp only [seval, push_cast, *] <;> rfl), by (simp only [seval, push_cast, *] <;> rfl), by (simp only [seval, push_cast, *] <;> rfl), by (simp only [seval, push_cast, *] <;> rfl), by (simp only [seval, push_cast, *] <;> rfl)⟩)) ?_
  rintro ex ρ' H' ⟨os, junk, hos, rfl, rfl, h6⟩ hf
  have f2 := hf 2 rfl
  have f3 := hf 3 rfl
  have f7 := hf 7 rfl
  have f8 := hf 8 rfl
  simp only [seval, push_cast] at f2 f3 f7 f8
  rw [← hos]
  clear l1 hos
  repeat' first
   | (apply z51 (id := 1) (ord := [0, 1, 3, 4, 5, 6, 7, 8, 2, 9, 10, 11, 12, 13, 14, 15]) (ps := [(4, 8), (4, 9), (7, 8)]) <;> first | kernel_rfl | skip)
   | (refine zs ?_; repeat' first | apply zs0 | apply zs2 | (intro hc; try have hq := dq hc)) | fail
  refine lp_then (lp_any (c := loopAt Tryz.f93 1) rfl (l2 _ _ _ _ _ _ (by omega) ⟨[], _, rfl, rfl, by (simp only [seval, push_cast, *] <;> rfl), by (simp only [seval, push_cast, *] <;> rfl), by (simp only [seval, push_cast, *] <;> rfl), by (simp only [seval, push_cast, *] <;> rfl), by (simp only [seval, push_cast, *] <;> rfl), by (simp only [seval, push_cast, *] <;> rfl)⟩)) ?_
  rintro ex ρ'' H'' ⟨ns, junk2, hns, rfl, rfl, h7⟩ hf2
  have f6 := hf2 6 rfl
  simp only [seval, push_cast] at f6
  rw [← hns]
  clear l2 hns
  repeat' first
   | (apply z51 (id := 1) (ord := [0, 1, 3, 4, 5, 6, 7, 8, 2, 9, 10, 11, 12, 13, 14, 15]) (ps := [(4, 8), (4, 9), (7, 8)]) <;> first | kernel_rfl | skip)
   | (refine zs ?_; repeat' first | apply zs0 | apply zs2 | (intro hc; try have hq := dq hc)) | fail
end Go.E
/- Contracts of the package netlist, in E: errors of values, a clock with its errors. Own work. -/
namespace Go.E
open Go.Proofs
set_option maxRecDepth 100000
set_option maxHeartbeats 4000000

theorem z43 {cx : Cx} {n0 : Nat} {H' : Heap} {ρ : Env} {H1 : Heap} {r1 r2 r3 : ResultVar} {u1 u2 u3 v1 v2 v3 : V} (h1 : resV cx.P ρ H1 r1 = some u1) (h2 : resV cx.P ρ H1 r2 = some u2) (h3 : resV cx.P ρ H1 r3 = some u3)
    (k1 : frz 6 n0 H1 u1 = some v1) (k2 : frz 6 n0 H1 u2 = some v2) (k3 : frz 6 n0 H1 u3 = some v3) (hh : H1.take n0 = H') : Leaf cx [r1, r2, r3] n0 (.tuple [v1, v2, v3]) H' .ret ρ H1 :=
  by unfold Leaf; exact ⟨trivial, [u1, u2, u3], [v1, v2, v3], by simp [h1, h2, h3], by simp [k1, k2, k3], rfl, hh⟩
theorem slice_hi (l : List Int) (k : Nat) (hk : k ≤ l.length) : sliceV Tryz.prog 34 (.list (l.map (.int .i64))) none (some (.int .i64 (k : Int))) none = some (.list ((l.take k).map (.int .i64))) := by
  simp [sliceV, Tryz.underlying34, sz3, boundV, idxV, hk, List.map_take]
  exact fun x _ => rfl
theorem slice_lo (l : List Int) (k : Nat) (hk : k ≤ l.length) : sliceV Tryz.prog 34 (.list (l.map (.int .i64))) (some (.int .i64 (k : Int))) none none = some (.list ((l.drop k).map (.int .i64))) := by
  simp [sliceV, Tryz.underlying34, sz3, boundV, idxV, hk, List.map_drop]
  exact ⟨fun x _ => rfl, by rw [List.take_of_length_le (by simp)]⟩

theorem nl_ve1 (bs : List Nat) (H : Heap) (ws : List Int) (i : Nat) (n w : Int) (a : Nat) (hi : ws[i]? = some w) (hw : 0 ≤ w) (hA : H[a]? = some (.cells [.list (ws.map (.int .i64))])) : callw X bs 201 [.int .i64 i, .int .i64 n, .ptr a 0] H = some (.int .i64 (if fitsN n w = true then 0 else 2), H) := by
  refine call_at (rs := [.tmp 5]) (N := 13) (fn := Tryz.f201) xk201 xf201 rfl rfl rfl (by simp only [seval, push_cast, List.map_cons, List.map_nil, V.norm, norm1]; rfl) ?_
  have t := fun bs H => nl_fits bs H n w hw
  clear hw
  all_goals try (refine zs ?_; repeat' first | apply zs0 | apply zs2 | (intro hc; try have hq := dq hc))

theorem nl_valuesErr (bs : List Nat) (H : Heap) (ws l : List Int) (hws : ws.length ≤ 1000000) (hl : l.length ≤ 1000000) (hw : ∀ w ∈ ws, 0 ≤ w) : callw X bs 147 [.list (ws.map (.int .i64)), .list (l.map (.int .i64))] H = some (.int .i64 (valErrS ws l), H) := by
  refine call_at (rs := [.tmp 4]) (N := 19) (fn := Tryz.f147) xk147 xf147 rfl rfl rfl (by simp only [seval, push_cast, List.map_cons, List.map_nil, V.norm, norm1]; rfl) ?_
  unfold valErrS
  by_cases h : l.length = ws.length
  · have d : (decide ¬ (l.length : Int) = (ws.length : Int)) = false := decide_eq_false (by omega)
    have t2 := fun (bs : List Nat) rest => netlist_each_Int_p bs (H ++ .cells [.list (ws.map (.int .i64))] :: rest) 201 [.ptr H.length 0] (fun i n => if fitsN n (at0 ws i) = true then (0 : Int) else 2) l (by omega)
      (fun bs i x junk hx => by
        have hi : i < ws.length := by rw [← h]; exact (List.getElem?_eq_some_iff.1 hx).1
        have hg : ws[i]? = some ws[i] := by simp [hi]
        have := nl_ve1 bs ((H ++ .cells [.list (ws.map (.int .i64))] :: rest) ++ junk) ws i x ws[i] H.length hg (hw _ (List.getElem_mem hi)) (by simp)
        simp only [at0_get hg]
        exact this)
    simp only [show encInt = V.int .i64 from rfl] at t2
    rw [if_pos h]
    generalize eachP (fun i n => if fitsN n (at0 ws i) = true then (0 : Int) else 2) 0 l = r at t2 ⊢
    clear hw h
    all_goals try (refine zs ?_; repeat' first | apply zs0 | apply zs2 | (intro hc; try have hq := dq hc))
  · have d : (decide ¬ (l.length : Int) = (ws.length : Int)) = true := decide_eq_true (by omega)
    rw [if_neg h]
    clear hw h
    all_goals try (refine zs ?_; repeat' first | apply zs0 | apply zs2 | (intro hc; try have hq := dq hc))

theorem in_take (n : Netl) : (leavesN n).take n.inputs.length = n.inputs.map (·.width) := by
  unfold leavesN; rw [List.take_left' (by simp)]
theorem in_drop (n : Netl) : (leavesN n).drop n.inputs.length = n.regs.map (·.width) := by
  unfold leavesN; rw [List.drop_left' (by simp)]
theorem nl_inputsErr (bs : List Nat) (H : Heap) (n : Netl) (l : List Int) (hi : n.inputs.length ≤ 1000) (hr : n.regs.length ≤ 1000) (hl : l.length ≤ 1000000) (hw : ∀ w ∈ n.inputs.map (·.width), 0 ≤ w) : callw X bs 91 [encNetl n, .list (l.map (.int .i64))] H = some (.int .i64 (inErrS n l), H) := by
  refine call_at (rs := [.tmp 4]) (N := 15) (fn := Tryz.f91) xk91 xf91 rfl rfl rfl (by simp only [seval, push_cast, List.map_cons, List.map_nil, V.norm, norm1]; rfl) ?_
  have t1 := fun bs H => nl_leaves bs H n hi hr
  have t2 := slice_hi (leavesN n) n.inputs.length (by simp [leavesN])
  rw [in_take] at t2
  have t3 := fun bs H => nl_valuesErr bs H (n.inputs.map (·.width)) l (by simp; omega) hl hw
  simp only [encNetl, cellsNetl] at t1
  unfold inErrS
  generalize n.inputs.map (fun p : Port => p.width) = ws at t2 t3 ⊢
  generalize leavesN n = lvs at t1 t2
  clear hw
  repeat' first
   | (apply z51 (id := 1) (ord := [0, 1, 3, 4, 5, 6, 8, 2, 7, 9, 10]) (ps := [(4, 7)]) <;> first | kernel_rfl | skip)
   | (refine zs ?_; repeat' first | apply zs0 | apply zs2 | (intro hc; try have hq := dq hc)) | fail

theorem nl_stateErr (bs : List Nat) (H : Heap) (n : Netl) (l : List Int) (hi : n.inputs.length ≤ 1000) (hr : n.regs.length ≤ 1000) (hl : l.length ≤ 1000000) (hw : ∀ w ∈ n.regs.map (·.width), 0 ≤ w) : callw X bs 92 [encNetl n, .list (l.map (.int .i64))] H = some (.int .i64 (stErrS n l), H) := by
  refine call_at (rs := [.tmp 4]) (N := 15) (fn := Tryz.f92) xk92 xf92 rfl rfl rfl (by simp only [seval, push_cast, List.map_cons, List.map_nil, V.norm, norm1]; rfl) ?_
  have t1 := fun bs H => nl_leaves bs H n hi hr
  have t2 := slice_lo (leavesN n) n.inputs.length (by simp [leavesN])
  rw [in_drop] at t2
  have t3 := fun bs H => nl_valuesErr bs H (n.regs.map (·.width)) l (by simp; omega) hl hw
  simp only [encNetl, cellsNetl] at t1
  unfold stErrS
  generalize n.regs.map (fun p : Reg => p.width) = ws at t2 t3 ⊢
  generalize leavesN n = lvs at t1 t2
  clear hw
  repeat' first
   | (apply z51 (id := 1) (ord := [0, 1, 3, 4, 5, 6, 8, 2, 7, 9, 10]) (ps := [(4, 7)]) <;> first | kernel_rfl | skip)
   | (refine zs ?_; repeat' first | apply zs0 | apply zs2 | (intro hc; try have hq := dq hc)) | fail

theorem nl_stepOf (bs : List Nat) (H : Heap) (n : Netl) (ins st : List Int) (hS : Small n) (hi : ins.length ≤ 100000) (hs : st.length ≤ 100000) : callw X bs 19 [encNetl n, .list (ins.map (.int .i64)), .list (st.map (.int .i64))] H = some (.tuple [.list (if stepErrS n ins st = 0 then (stepN n ins st).1.map (.int .i64) else []), .list (if stepErrS n ins st = 0 then (stepN n ins st).2.map (.int .i64) else []), .int .i64 (stepErrS n ins st)], H) := by
  refine call_at (rs := [.tmp 6, .tmp 7, .tmp 8]) (N := 40) (fn := Tryz.f19) xk19 xf19 rfl rfl rfl (by simp only [seval, push_cast, List.map_cons, List.map_nil, V.norm, norm1]; rfl) ?_
  have h1 := fun bs H => nl_open bs H n hS
  simp only [encNetl, cellsNetl] at h1
  by_cases hc : (checkNetS n).2 = 0
  · have hk := net_ok hc
    have t1 := fun bs H => nl_inputsErr bs H n ins hS.inputs hS.regs (by omega) (fun w hw => by have := inW_1 hk w hw; omega)
    have t2 := fun bs H => nl_stateErr bs H n st hS.inputs hS.regs (by omega) (fun w hw => by have := rgW_1 hk w hw; omega)
    simp only [encNetl, cellsNetl] at t1 t2
    have he : stepErrS n ins st = firstL [inErrS n ins, stErrS n st] := if_pos hc
    by_cases h0 : firstL [inErrS n ins, stErrS n st] = 0
    · have z1 : inErrS n ins = 0 := by
        rw [firstL_2] at h0; split at h0
        · rename_i a; exact absurd h0 a
        · rename_i a; simpa using a
      have z2 : stErrS n st = 0 := by rw [firstL_2, z1] at h0; simpa using h0
      have hr := regOk_of hk z2
      have t3 := fun bs H => nl_clock bs H n ins st hS hk (leafOk_of hk z1 hr) hr.1
      simp only [encNetl, cellsNetl] at t3
      rw [he, h0]
      simp only [z1, z2, hc, if_true] at t1 t2 h1 ⊢
      clear hk hr hS h0 he z1 z2
      repeat' first
       | (apply z51 (id := 3) (ord := [0, 1, 3, 4, 2, 5, 6, 7, 8]) (ps := [(2, 4)]) <;> first | kernel_rfl | skip)
       | (refine zs ?_; repeat' first | apply zs0 | apply zs2 | (intro hc; try have hq := dq hc)) | fail
      all_goals (apply z43; (simp only [seval, push_cast, *]; with_reducible rfl); (simp only [seval, push_cast, *]; with_reducible rfl); (simp only [seval, push_cast, *]; with_reducible rfl); all_goals (first | (simp only [seval, push_cast, *] <;> fail) | (simp only [seval, push_cast] <;> fail) | (rw [frz_pure rfl] <;> (simp [*] <;> fail))))
    · rw [he]
      simp only [if_neg h0, hc] at h1 ⊢
      rw [firstL_2] at h0 ⊢
      generalize inErrS n ins = a at t1 h0 ⊢
      generalize stErrS n st = b at t2 h0 ⊢
      clear hk hS he
      by_cases ha : a = 0
      · subst ha
        have hb : ¬ b = 0 := by simpa using h0
        simp only [ne_eq, not_true_eq_false, if_false] at h0 ⊢
        repeat' first
         | (apply z51 (id := 3) (ord := [0, 1, 3, 4, 2, 5, 6, 7, 8]) (ps := [(2, 4)]) <;> first | kernel_rfl | skip)
         | (refine zs ?_; repeat' first | apply zs0 | apply zs2 | (intro hc; try have hq := dq hc)) | fail
        all_goals (apply z43; (simp only [seval, push_cast, *]; with_reducible rfl); (simp only [seval, push_cast, *]; with_reducible rfl); (simp only [seval, push_cast, *]; with_reducible rfl); all_goals (first | (simp only [seval, push_cast, *] <;> fail) | (simp only [seval, push_cast] <;> fail) | (rw [frz_pure rfl] <;> (simp [*] <;> fail))))
      · simp only [ne_eq, ha, not_false_eq_true, if_true] at h0 ⊢
        repeat' first
         | (apply z51 (id := 3) (ord := [0, 1, 3, 4, 2, 5, 6, 7, 8]) (ps := [(2, 4)]) <;> first | kernel_rfl | skip)
         | (refine zs ?_; repeat' first | apply zs0 | apply zs2 | (intro hc; try have hq := dq hc)) | fail
        all_goals (apply z43; (simp only [seval, push_cast, *]; with_reducible rfl); (simp only [seval, push_cast, *]; with_reducible rfl); (simp only [seval, push_cast, *]; with_reducible rfl); all_goals (first | (simp only [seval, push_cast, *] <;> fail) | (simp only [seval, push_cast] <;> fail) | (rw [frz_pure rfl] <;> (simp [*] <;> fail))))
  · have he : stepErrS n ins st = (checkNetS n).2 := if_neg hc
    rw [he]
    simp only [if_neg hc]
    clear hS he
    repeat' first
     | (apply z51 (id := 3) (ord := [0, 1, 3, 4, 2, 5, 6, 7, 8]) (ps := [(2, 4)]) <;> first | kernel_rfl | skip)
     | (refine zs ?_; repeat' first | apply zs0 | apply zs2 | (intro hc; try have hq := dq hc)) | fail
    all_goals (apply z43; (simp only [seval, push_cast, *]; with_reducible rfl); (simp only [seval, push_cast, *]; with_reducible rfl); (simp only [seval, push_cast, *]; with_reducible rfl); all_goals (first | (simp only [seval, push_cast, *] <;> fail) | (simp only [seval, push_cast] <;> fail) | (rw [frz_pure rfl] <;> (simp [*] <;> fail))))
end Go.E
/- Contracts of the package netlist, in E: sequences of clocks. Own work. -/
namespace Go.E
open Go.Proofs
set_option maxRecDepth 100000
set_option maxHeartbeats 4000000

theorem room24 (n : Nat) (h : n ≤ 1000000) : (n + 1) * 24 ≤ roomB := by unfold roomB; omega
theorem nl_run1 (bs : List Nat) (H : Heap) (n : Netl) (i : Int) (l : List Int) (a : Nat) (hS : Small n) (hk : NetOk n) (hl : l.length ≤ 100000) (hA : H[a]? = some (.cells (cellsNetl n))) : callw X bs 151 [.int .i64 i, .list (l.map (.int .i64)), .ptr a 0] H = some (.int .i64 (inErrS n l), H) := by
  refine call_at (rs := [.tmp 5]) (N := 9) (fn := Tryz.f151) xk151 xf151 rfl rfl rfl (by simp only [seval, push_cast, List.map_cons, List.map_nil, V.norm, norm1]; rfl) ?_
  have t1 := fun bs H => nl_inputsErr bs H n l hS.inputs hS.regs (by omega) (fun w hw => by have := inW_1 hk w hw; omega)
  simp only [encNetl, cellsNetl] at t1 hA
  clear hS hk
  all_goals try (refine zs ?_; repeat' first | apply zs0 | apply zs2 | (intro hc; try have hq := dq hc))

section
variable (n : Netl) (l : List (List Int))
theorem rn_loop (bs : List Nat) (H : Heap) (c t2 : HObj) (hS : Small n) (hk : NetOk n) (hl : l.length ≤ 1000) (he : (eachP (fun _ x => inErrS n x) 0 l).2 = 0) :
    ∀ i ρ H', i ≤ l.length → (∃ os ss junk, os = trL n l i ∧ ss = stL n l i ∧ H' = H ++ c :: .tok os.length :: t2 :: .cells (cellsNetl n) :: .tok ss.length :: junk ∧ ρ 7 = .ptr (H.length + 3) 0 ∧ ρ 4 = .tl (H.length + 1) (os.map encInts) ∧ ρ 5 = .tl (H.length + 4) (ss.map encInts) ∧
        ρ 41 = .list (l.map encInts) ∧ ρ 42 = .int .i64 l.length ∧ ρ 43 = .int .i64 i) →
      Lp X ⟨69, bs⟩ (loopAt Tryz.f94 0) ρ H' fun ex ρ' H' => ∃ os ss junk, os = trL n l l.length ∧ ss = stL n l l.length ∧ H' = H ++ c :: .tok os.length :: t2 :: .cells (cellsNetl n) :: .tok ss.length :: junk ∧ ex = .exit 0 ∧
        ρ' 4 = .tl (H.length + 1) (os.map encInts) ∧ ρ' 5 = .tl (H.length + 4) (ss.map encInts) := by
  refine loop_up ?_ ?_
  · rintro i ρ H' hi ⟨os, ss, junk, hos, hss, rfl, h7, h4, h5, h41, h42, h43⟩
    have hget : l[i]? = some l[i] := by simp [hi]
    have hze := eachP_ok _ l 0 he i l[i] hget
    have hr := run_ok hk he i (by omega)
    have hgD : l.getD i [] = l[i] := by simp [List.getD, hget]
    have hsa : ss[i]? = some (stAt n l i) := by rw [hss]; exact stL_last n l i
    have hsn : trL n l (i + 1) = os ++ [(stepN n l[i] (stAt n l i)).1] := by rw [trL, ← hos, trAt, hgD]
    have hst : stL n l (i + 1) = ss ++ [(stepN n l[i] (stAt n l i)).2] := by rw [stL, ← hss, stAt, hgD]
    have t3 := fun bs H => nl_clock bs H n l[i] (stAt n l i) hS hk (leafOk_of hk hze hr) hr.1
    simp only [encNetl, cellsNetl] at t3
    generalize l[i] = x at hget hsn hst t3
    generalize stAt n l i = st at hsa hsn hst t3
    have hlen : os.length = i := by rw [hos]; exact trL_len n l i
    have hlens : ss.length = i + 1 := by rw [hss]; exact stL_len n l i
    have hroom := room24 os.length (by omega)
    have hroom2 := room24 ss.length (by omega)
    have hw := add1 i l.length hi (by omega)
    generalize stepN n x st = q at hsn hst t3
    replace hos : Kp (os = trL n l i) := ⟨hos⟩
    replace hss : Kp (ss = stL n l i) := ⟨hss⟩
    replace hsn : Kp (trL n l (i + 1) = os ++ [q.1]) := ⟨hsn⟩
    replace hst : Kp (stL n l (i + 1) = ss ++ [q.2]) := ⟨hst⟩
    replace hlen : Kp (os.length = i) := ⟨hlen⟩
    replace hlens : Kp (ss.length = i + 1) := ⟨hlens⟩
    clear hze hr hgD hS hk he
    conv => arg 3; whnf
    repeat' first
     | (apply z50 (id := 12) (ord := [0, 1, 2, 3, 4, 5, 6, 7, 8, 9, 10, 11]) <;> first | kernel_rfl | skip)
     | (refine zs ?_; repeat' first | apply zs0 | apply zs2 | (intro hc; try have hq := dq hc)) | fail
    exact ⟨os ++ [q.1], ss ++ [q.2], _, hsn.out.symm, hst.out.symm, by simp only [List.length_append, List.length_singleton]; rfl, by (simp only [seval, push_cast, *] <;> rfl), by simp [push_cast], by simp [push_cast], by (simp only [seval, push_cast, *] <;> rfl), by (simp only [seval, push_cast, *] <;> rfl), by (simp only [seval, push_cast, *] <;> rfl)⟩
  · rintro ρ H' ⟨os, ss, junk, hos, hss, rfl, h7, h4, h5, h41, h42, h43⟩
    replace hos : Kp (os = trL n l l.length) := ⟨hos⟩
    replace hss : Kp (ss = stL n l l.length) := ⟨hss⟩
    clear hS hk he
    conv => arg 3; whnf
    repeat' first
     | (apply z50 (id := 12) (ord := [0, 1, 2, 3, 4, 5, 6, 7, 8, 9, 10, 11]) <;> first | kernel_rfl | skip)
     | (refine zs ?_; repeat' first | apply zs0 | apply zs2 | (intro hc; try have hq := dq hc)) | fail
    exact ⟨os, ss, junk, hos.out, hss.out, rfl, rfl, by (simp only [seval, push_cast, *] <;> rfl), by (simp only [seval, push_cast, *] <;> rfl)⟩
end

theorem nl_run (bs : List Nat) (H : Heap) (n : Netl) (l : List (List Int)) (hS : Small n) (hl : l.length ≤ 1000) (hll : ∀ x ∈ l, x.length ≤ 100000) : callw X bs 94 [encNetl n, .list (l.map encInts)] H = some (.tuple [.list (if runErrS n l = 0 then (trL n l l.length).map encInts else []), .list (if runErrS n l = 0 then (stL n l l.length).map encInts else []), .int .i64 (runErrS n l)], H) := by
  refine call_at (rs := [.tmp 4, .tmp 5, .tmp 6]) (N := 69) (fn := Tryz.f94) xk94 xf94 rfl rfl rfl (by simp only [seval, push_cast, List.map_cons, List.map_nil, V.norm, norm1]; rfl) ?_
  have h1 := fun bs H => nl_open bs H n hS
  simp only [encNetl, cellsNetl] at h1
  by_cases hc : (checkNetS n).2 = 0
  case neg =>
    have he : runErrS n l = (checkNetS n).2 := if_neg hc
    rw [he]
    simp only [if_neg hc]
    clear hS he hll
    by_cases h60 : l.length ≤ 60
    · have d : decide ((l.length : Int) ≤ 60) = true := decide_eq_true (by omega)
      clear h60
      repeat' first
       | (apply z50 (id := 12) (ord := [0, 1, 2, 3, 4, 5, 6, 7, 8, 9, 10, 11]) <;> first | kernel_rfl | skip)
       | (refine zs ?_; repeat' first | apply zs0 | apply zs2 | (intro hc; try have hq := dq hc)) | fail
      all_goals (apply z43; (simp only [seval, push_cast, *]; with_reducible rfl); (simp only [seval, push_cast, *]; with_reducible rfl); (simp only [seval, push_cast, *]; with_reducible rfl); all_goals (first | (simp only [seval, push_cast, *] <;> fail) | (simp only [seval, push_cast] <;> fail) | (rw [frz_pure rfl] <;> (simp [*] <;> fail))))
    · have d : decide ((l.length : Int) ≤ 60) = false := decide_eq_false (by omega)
      clear h60
      repeat' first
       | (apply z50 (id := 12) (ord := [0, 1, 2, 3, 4, 5, 6, 7, 8, 9, 10, 11]) <;> first | kernel_rfl | skip)
       | (refine zs ?_; repeat' first | apply zs0 | apply zs2 | (intro hc; try have hq := dq hc)) | fail
      all_goals (apply z43; (simp only [seval, push_cast, *]; with_reducible rfl); (simp only [seval, push_cast, *]; with_reducible rfl); (simp only [seval, push_cast, *]; with_reducible rfl); all_goals (first | (simp only [seval, push_cast, *] <;> fail) | (simp only [seval, push_cast] <;> fail) | (rw [frz_pure rfl] <;> (simp [*] <;> fail))))
  have hk := net_ok hc
  by_cases h60 : l.length ≤ 60
  case neg =>
    have he : runErrS n l = 8 := by unfold runErrS; rw [if_pos hc, if_neg h60]
    rw [he]
    have d : decide ((l.length : Int) ≤ 60) = false := decide_eq_false (by omega)
    simp only [hc] at h1
    simp only [show ((8 : Int) = 0) = False by simp, if_false]
    clear hS he hll hk h60
    repeat' first
     | (apply z50 (id := 12) (ord := [0, 1, 2, 3, 4, 5, 6, 7, 8, 9, 10, 11]) <;> first | kernel_rfl | skip)
     | (refine zs ?_; repeat' first | apply zs0 | apply zs2 | (intro hc; try have hq := dq hc)) | fail
    all_goals (apply z43; (simp only [seval, push_cast, *]; with_reducible rfl); (simp only [seval, push_cast, *]; with_reducible rfl); (simp only [seval, push_cast, *]; with_reducible rfl); all_goals (first | (simp only [seval, push_cast, *] <;> fail) | (simp only [seval, push_cast] <;> fail) | (rw [frz_pure rfl] <;> (simp [*] <;> fail))))
  have d : decide ((l.length : Int) ≤ 60) = true := decide_eq_true (by omega)
  have he : runErrS n l = (eachP (fun _ x => inErrS n x) 0 l).2 := by unfold runErrS; rw [if_pos hc, if_pos h60]
  have t2 := fun bs (a b c : HObj) rest => netlist_each_Ints_p bs (H ++ a :: b :: c :: .cells (cellsNetl n) :: rest) 151 [.ptr (H.length + 3) 0] (fun _ x => inErrS n x) l (by omega)
    (fun bs i x junk hx => nl_run1 bs ((H ++ a :: b :: c :: .cells (cellsNetl n) :: rest) ++ junk) n i x (H.length + 3) hS hk (hll x (List.mem_of_getElem? hx)) (by simp))
  have t3 := fun bs H => nl_reset bs H n hS.regs
  simp only [encNetl, cellsNetl] at t2 t3
  simp only [hc] at h1
  rw [he]
  by_cases hz : (eachP (fun _ x => inErrS n x) 0 l).2 = 0
  case neg =>
    simp only [if_neg hz]
    generalize eachP (fun _ x => inErrS n x) 0 l = r at t2 hz ⊢
    clear hS he hll hk h60
    repeat' first
     | (apply z50 (id := 12) (ord := [0, 1, 2, 3, 4, 5, 6, 7, 8, 9, 10, 11]) <;> first | kernel_rfl | skip)
     | (refine zs ?_; repeat' first | apply zs0 | apply zs2 | (intro hc; try have hq := dq hc)) | fail
    all_goals (apply z43; (simp only [seval, push_cast, *]; with_reducible rfl); (simp only [seval, push_cast, *]; with_reducible rfl); (simp only [seval, push_cast, *]; with_reducible rfl); all_goals (first | (simp only [seval, push_cast, *] <;> fail) | (simp only [seval, push_cast] <;> fail) | (rw [frz_pure rfl] <;> (simp [*] <;> fail))))
  have hloop := fun (bs : List Nat) (c t2 : HObj) (ρ : Env) => rn_loop n l bs H c t2 hS hk (by omega) hz 0 ρ
  simp only [cellsNetl] at hloop
  simp only [if_pos hz, hz] at t2 ⊢
  generalize (eachP (fun _ x => inErrS n x) 0 l).1 = r1 at t2
  clear hS he hll hk h60 hz
  repeat' first
   | (apply z50 (id := 12) (ord := [0, 1, 2, 3, 4, 5, 6, 7, 8, 9, 10, 11]) <;> first | kernel_rfl | skip)
   | (refine zs ?_; repeat' first | apply zs0 | apply zs2 | (intro hc; try have hq := dq hc)) | fail
  refine lp_then (lp_any (c := loopAt Tryz.f94 0) rfl (hloop _ _ _ _ _ (by omega) ⟨[], [resetN n], [], rfl, rfl, rfl, by (simp only [seval, push_cast, *] <;> rfl), by (simp only [seval, push_cast, *] <;> rfl), by (simp only [seval, push_cast, *] <;> rfl), by (simp only [seval, push_cast, *] <;> rfl), by (simp only [seval, push_cast, *] <;> rfl), by (simp only [seval, push_cast, *] <;> rfl)⟩)) ?_
  rintro ex ρ' H' ⟨os, ss, junk, hos, hss, rfl, rfl, h4, h5⟩ hf
  rw [← hos, ← hss]
  clear hloop hos hss
  repeat' first
   | (apply z50 (id := 12) (ord := [0, 1, 2, 3, 4, 5, 6, 7, 8, 9, 10, 11]) <;> first | kernel_rfl | skip)
   | (refine zs ?_; repeat' first | apply zs0 | apply zs2 | (intro hc; try have hq := dq hc)) | fail
  all_goals (apply z43; (simp only [seval, push_cast, *]; with_reducible rfl); (simp only [seval, push_cast, *]; with_reducible rfl); (simp only [seval, push_cast, *]; with_reducible rfl); all_goals (first | (simp only [seval, push_cast, *] <;> fail) | (simp only [seval, push_cast] <;> fail) | (rw [frz_pure rfl] <;> (simp [*] <;> fail))))
end Go.E
/- Contracts of the references' base, in E: CopyNodes, CopyNetlist. Own work. -/
namespace Go.E
open Go.Proofs
set_option maxRecDepth 100000
set_option maxHeartbeats 4000000

theorem bs_copyNodes (bs : List Nat) (H : Heap) (l : List Node) (hl : l.length ≤ 1000) (ha : ∀ x ∈ l, x.args.length ≤ 1000000) : callw X bs 78 [.list (l.map encNode)] H = some (.list (l.map encNode), H) := by
  refine call_at (rs := [.tmp 2]) (N := 32) (fn := Tryz.f78) xk78 xf78 rfl rfl rfl (by simp only [seval, push_cast, List.map_cons, List.map_nil, V.norm, norm1]; rfl) ?_
  have key : ∀ (t : HObj) (bs : List Nat) i ρ H', i ≤ l.length → (H' = H ++ [t, .arr (fill encNode (.agg [.int .i64 0, .int .i64 0, .nilS, .int .i64 0]) l i) 0] ∧ ρ 0 = .list (l.map encNode) ∧ ρ 3 = .ref 4 (H.length + 1) 0 0 l.length ∧ ρ 4 = .int .i64 i) →
      Lp X ⟨32, H.length :: bs⟩ (loopAt Tryz.f78 0) ρ H' fun ex ρ' H' => H' = H ++ [t, .arr (l.map encNode) 0] ∧ ρ' 3 = .ref 4 (H.length + 1) 0 0 l.length ∧ ex = .exit 0 := by
    intro t bs
    refine loop_up ?_ ?_
    · rintro i ρ H' hlt ⟨rfl, h0, h3, h4⟩
      have hget : l[i]? = some l[i] := by simp [hlt]
      have hw := add1 i l.length hlt (by omega)
      have hz := fill_get encNode (.agg [.int .i64 0, .int .i64 0, .nilS, .int .i64 0]) l i hlt
      have hs := fill_set encNode (.agg [.int .i64 0, .int .i64 0, .nilS, .int .i64 0]) l i l[i] hget
      have hg1 := fill_get1 encNode (.agg [.int .i64 0, .int .i64 0, .nilS, .int .i64 0]) l i l[i] hget
      have hs1 := fill_set1 encNode (.agg [.int .i64 0, .int .i64 0, .nilS, .int .i64 0]) l i l[i] hget
      have hal := ha l[i] (List.getElem_mem hlt)
      have hc := fun bs H => bs_copyInts bs H l[i].args hal
      generalize l[i] = p at hget hs hg1 hs1 hal hc
      simp only [encNode, encInts] at hs hg1 hs1
      conv => arg 3; whnf
      all_goals try (refine zs ?_; repeat' first | apply zs0 | apply zs2 | (intro hc; try have hq := dq hc))
      exact ⟨by (simp only [seval, push_cast, *] <;> rfl), by (simp only [seval, push_cast, *] <;> rfl), by (simp only [seval, push_cast, *] <;> rfl), by (simp only [seval, push_cast, *] <;> rfl)⟩
    · rintro ρ H' ⟨rfl, h0, h3, h4⟩
      rw [fill_end]
      conv => arg 3; whnf
      all_goals try (refine zs ?_; repeat' first | apply zs0 | apply zs2 | (intro hc; try have hq := dq hc))
      exact ⟨by (simp only [seval, push_cast, *] <;> rfl), by (simp only [seval, push_cast, *] <;> rfl), rfl⟩
  have h1 := room_of (n := l.length) (k := 48) (by omega) (by omega)
  have h2 := room_int (n := l.length) (by omega)
  have h3 : Kp (fill encNode (.agg [.int .i64 0, .int .i64 0, .nilS, .int .i64 0]) l 0 = List.replicate l.length (.agg [.int .i64 0, .int .i64 0, .nilS, .int .i64 0])) := ⟨fill_0 _ _ _⟩
  all_goals try (refine zs ?_; repeat' first | apply zs0 | apply zs2 | (intro hc; try have hq := dq hc))
  refine lp_then (lp_any (c := loopAt Tryz.f78 0) rfl (key _ _ 0 _ _ (by omega) ⟨by rw [h3.out], by (simp only [seval, push_cast, *] <;> rfl), by (simp only [seval, push_cast, *] <;> rfl), by (simp only [seval, push_cast, *] <;> rfl)⟩)) ?_
  rintro ex ρ' H' ⟨rfl, f3, rfl⟩ hf
  all_goals try (refine zs ?_; repeat' first | apply zs0 | apply zs2 | (intro hc; try have hq := dq hc))

theorem bs_copyNet (bs : List Nat) (H : Heap) (n : Netl) (hS : Small n) : callw X bs 13 [encNetl n] H = some (encNetl n, H) := by
  refine call_at (rs := [.cell 2 27]) (N := 21) (fn := Tryz.f13) xk13 xf13 rfl rfl rfl (by simp only [seval, push_cast, List.map_cons, List.map_nil, V.norm, norm1]; rfl) ?_
  obtain ⟨s1, s2, s3, s4, s5, s6, s7, s8, s9⟩ := hS
  have c1 := fun bs H => bs_copyPorts bs H n.inputs (by omega)
  have c2 := fun bs H => bs_copyNodes bs H n.nodes s4 (fun x hx => Nat.le_trans (s9 x hx) (by omega))
  have c3 := fun bs H => bs_copyOutputs bs H n.outs (by omega)
  have h1 := room_of (n := n.regs.length) (k := 48) (by omega) (by omega)
  clear s6 s7 s8 s9
  repeat' first
   | (apply z51 (id := 1) (ord := [0, 1, 3, 4, 6, 7, 2, 9, 5, 8, 10, 11, 12, 13, 14]) (ps := [(3, 6), (5, 6), (5, 8)]) <;> first | kernel_rfl | skip)
   | (refine zs ?_; repeat' first | apply zs0 | apply zs2 | (intro hc; try have hq := dq hc)) | fail

end Go.E
/- The law's 'few', in E. Own work. -/
namespace Go.E
open Go.Proofs
set_option maxRecDepth 100000
set_option maxHeartbeats 4000000

def fewSizes (n : Netl) : Prop := n.name.size ≤ 40 ∧ n.inputs.length ≤ 45 ∧ n.regs.length ≤ 45 ∧ (n.nodes.length ≤ 60 ∨ 400 < n.nodes.length) ∧ n.nodes.length ≤ 405 ∧ n.outs.length ≤ 20
theorem la_few_big (bs : List Nat) (H : Heap) (n : Netl) (hb : ¬ fewSizes n) : callw X bs 11 [encNetl n] H = some (.bool false, H) := by
  refine call_at (rs := [.tmp 2]) (N := 107) (fn := Tryz.f11) xk11 xf11 rfl rfl rfl (by simp only [seval, push_cast, List.map_cons, List.map_nil, V.norm, norm1]; rfl) ?_
  unfold fewSizes at hb
  rcases Classical.em (n.name.size ≤ 40) with a1 | a1
  · have b1 : ¬ ((n.name.size : Int) > 40) := by omega
    rcases Classical.em (n.inputs.length ≤ 45) with a2 | a2
    · have b2 : ¬ ((n.inputs.length : Int) > 45) := by omega
      rcases Classical.em (n.regs.length ≤ 45) with a3 | a3
      · have b3 : ¬ ((n.regs.length : Int) > 45) := by omega
        rcases Classical.em (n.nodes.length > 60) with a4 | a4
        · have b4 : (n.nodes.length : Int) > 60 := by omega
          rcases Classical.em (n.nodes.length ≤ 400) with a5 | a5
          · have b5 : (n.nodes.length : Int) ≤ 400 := by omega
            clear hb
            all_goals try (refine zs ?_; repeat' first | apply zs0 | apply zs2 | (intro hc; try have hq := dq hc))
          · have b5 : ¬ (n.nodes.length : Int) ≤ 400 := by omega
            rcases Classical.em (n.nodes.length ≤ 405) with a6 | a6
            · have b6 : ¬ (n.nodes.length : Int) > 405 := by omega
              have b7 : (n.outs.length : Int) > 20 := by omega
              clear hb
              all_goals try (refine zs ?_; repeat' first | apply zs0 | apply zs2 | (intro hc; try have hq := dq hc))
            · have b6 : (n.nodes.length : Int) > 405 := by omega
              clear hb
              all_goals try (refine zs ?_; repeat' first | apply zs0 | apply zs2 | (intro hc; try have hq := dq hc))
        · have b4 : ¬ (n.nodes.length : Int) > 60 := by omega
          have b6 : ¬ (n.nodes.length : Int) > 405 := by omega
          have b7 : (n.outs.length : Int) > 20 := by omega
          clear hb
          all_goals try (refine zs ?_; repeat' first | apply zs0 | apply zs2 | (intro hc; try have hq := dq hc))
      · have b3 : (n.regs.length : Int) > 45 := by omega
        clear hb
        all_goals try (refine zs ?_; repeat' first | apply zs0 | apply zs2 | (intro hc; try have hq := dq hc))
    · have b2 : (n.inputs.length : Int) > 45 := by omega
      clear hb
      all_goals try (refine zs ?_; repeat' first | apply zs0 | apply zs2 | (intro hc; try have hq := dq hc))
  · have b1 : (n.name.size : Int) > 40 := by omega
    clear hb
    all_goals try (refine zs ?_; repeat' first | apply zs0 | apply zs2 | (intro hc; try have hq := dq hc))

end Go.E
/- The law's 'few', in E: its loops. Own work. -/
namespace Go.E
open Go.Proofs
set_option maxRecDepth 100000
set_option maxHeartbeats 4000000

theorem few_l0 (n : Netl) (H : Heap) (R : Bool) (hl : n.nodes.length ≤ 1000) : ∀ (bs : List Nat) i ρ H', i ≤ n.nodes.length → (H' = H ++ [.cells (cellsNetl n)] ∧ ρ 1 = .ptr H.length 0 ∧ ρ 3 = .int .i64 i ∧ Kp ((n.nodes.drop i).all (fun x => decide (x.args.length ≤ 5)) = R)) →
    Lp X ⟨107, bs⟩ (loopAt Tryz.f11 0) ρ H' fun ex ρ' H' => H' = H ++ [.cells (cellsNetl n)] ∧ ((R = true ∧ ex = .exit 0) ∨ (R = false ∧ ρ' 2 = .bool false ∧ ex = .ret)) := by
  intro bs
  refine loop_up ?_ ?_
  · rintro i ρ H' hlt ⟨rfl, h1, h3, hk⟩
    have hget : n.nodes[i]? = some n.nodes[i] := by simp [hlt]
    have hw := add1 i n.nodes.length hlt (by omega)
    have hd := drop_cons hget
    replace hk := hk.out
    rw [hd, List.all_cons] at hk
    clear hd
    generalize n.nodes[i] = p at hget hk
    rcases Classical.em (p.args.length ≤ 5) with a | a
    · have hk2 : Kp ((n.nodes.drop (i + 1)).all (fun x => decide (x.args.length ≤ 5)) = R) := ⟨by simpa only [decide_eq_true a, Bool.true_and] using hk⟩
      have b : ¬ (p.args.length : Int) > 5 := by omega
      clear hk
      conv => arg 3; whnf
      all_goals try (refine zs ?_; repeat' first | apply zs0 | apply zs2 | (intro hc; try have hq := dq hc))
      exact ⟨by simp only [cellsNetl], by (simp only [seval, push_cast, *] <;> rfl), by (simp only [seval, push_cast, *] <;> rfl), hk2⟩
    · have hk2 : Kp (R = false) := ⟨by simpa only [decide_eq_false a, Bool.false_and] using hk.symm⟩
      have b : (p.args.length : Int) > 5 := by omega
      clear hk
      conv => arg 3; whnf
      all_goals try (refine zs ?_; repeat' first | apply zs0 | apply zs2 | (intro hc; try have hq := dq hc))
      exact ⟨by simp only [cellsNetl], .inr ⟨hk2.out, by (simp only [seval, push_cast, *] <;> rfl), rfl⟩⟩
  · rintro ρ H' ⟨rfl, h1, h3, hk⟩
    have hk2 : Kp (R = true) := ⟨by have := hk.out; simpa using this.symm⟩
    clear hk
    conv => arg 3; whnf
    all_goals try (refine zs ?_; repeat' first | apply zs0 | apply zs2 | (intro hc; try have hq := dq hc))
    exact ⟨by simp only [cellsNetl], .inl ⟨hk2.out, rfl⟩⟩

theorem few_l1 (n : Netl) (H : Heap) (R : Bool) (hl : n.inputs.length ≤ 1000) : ∀ (bs : List Nat) i ρ H', i ≤ n.inputs.length → (H' = H ++ [.cells (cellsNetl n)] ∧ ρ 1 = .ptr H.length 0 ∧ ρ 4 = .int .i64 i ∧ Kp ((n.inputs.drop i).all (fun x => decide (x.name.size ≤ 40)) = R)) →
    Lp X ⟨107, bs⟩ (loopAt Tryz.f11 1) ρ H' fun ex ρ' H' => H' = H ++ [.cells (cellsNetl n)] ∧ ((R = true ∧ ex = .exit 2) ∨ (R = false ∧ ρ' 2 = .bool false ∧ ex = .ret)) := by
  intro bs
  refine loop_up ?_ ?_
  · rintro i ρ H' hlt ⟨rfl, h1, h3, hk⟩
    have hget : n.inputs[i]? = some n.inputs[i] := by simp [hlt]
    have hw := add1 i n.inputs.length hlt (by omega)
    have hd := drop_cons hget
    replace hk := hk.out
    rw [hd, List.all_cons] at hk
    clear hd
    generalize n.inputs[i] = p at hget hk
    rcases Classical.em (p.name.size ≤ 40) with a | a
    · have hk2 : Kp ((n.inputs.drop (i + 1)).all (fun x => decide (x.name.size ≤ 40)) = R) := ⟨by simpa only [decide_eq_true a, Bool.true_and] using hk⟩
      have b : ¬ (p.name.size : Int) > 40 := by omega
      clear hk
      conv => arg 3; whnf
      all_goals try (refine zs ?_; repeat' first | apply zs0 | apply zs2 | (intro hc; try have hq := dq hc))
      exact ⟨by simp only [cellsNetl], by (simp only [seval, push_cast, *] <;> rfl), by (simp only [seval, push_cast, *] <;> rfl), hk2⟩
    · have hk2 : Kp (R = false) := ⟨by simpa only [decide_eq_false a, Bool.false_and] using hk.symm⟩
      have b : (p.name.size : Int) > 40 := by omega
      clear hk
      conv => arg 3; whnf
      all_goals try (refine zs ?_; repeat' first | apply zs0 | apply zs2 | (intro hc; try have hq := dq hc))
      exact ⟨by simp only [cellsNetl], .inr ⟨hk2.out, by (simp only [seval, push_cast, *] <;> rfl), rfl⟩⟩
  · rintro ρ H' ⟨rfl, h1, h3, hk⟩
    have hk2 : Kp (R = true) := ⟨by have := hk.out; simpa using this.symm⟩
    clear hk
    conv => arg 3; whnf
    all_goals try (refine zs ?_; repeat' first | apply zs0 | apply zs2 | (intro hc; try have hq := dq hc))
    exact ⟨by simp only [cellsNetl], .inl ⟨hk2.out, rfl⟩⟩

theorem few_l2 (n : Netl) (H : Heap) (R : Bool) (hl : n.regs.length ≤ 1000) : ∀ (bs : List Nat) i ρ H', i ≤ n.regs.length → (H' = H ++ [.cells (cellsNetl n)] ∧ ρ 1 = .ptr H.length 0 ∧ ρ 5 = .int .i64 i ∧ Kp ((n.regs.drop i).all (fun x => decide (x.name.size ≤ 40)) = R)) →
    Lp X ⟨107, bs⟩ (loopAt Tryz.f11 2) ρ H' fun ex ρ' H' => H' = H ++ [.cells (cellsNetl n)] ∧ ((R = true ∧ ex = .exit 4) ∨ (R = false ∧ ρ' 2 = .bool false ∧ ex = .ret)) := by
  intro bs
  refine loop_up ?_ ?_
  · rintro i ρ H' hlt ⟨rfl, h1, h3, hk⟩
    have hget : n.regs[i]? = some n.regs[i] := by simp [hlt]
    have hw := add1 i n.regs.length hlt (by omega)
    have hd := drop_cons hget
    replace hk := hk.out
    rw [hd, List.all_cons] at hk
    clear hd
    generalize n.regs[i] = p at hget hk
    rcases Classical.em (p.name.size ≤ 40) with a | a
    · have hk2 : Kp ((n.regs.drop (i + 1)).all (fun x => decide (x.name.size ≤ 40)) = R) := ⟨by simpa only [decide_eq_true a, Bool.true_and] using hk⟩
      have b : ¬ (p.name.size : Int) > 40 := by omega
      clear hk
      conv => arg 3; whnf
      all_goals try (refine zs ?_; repeat' first | apply zs0 | apply zs2 | (intro hc; try have hq := dq hc))
      exact ⟨by simp only [cellsNetl], by (simp only [seval, push_cast, *] <;> rfl), by (simp only [seval, push_cast, *] <;> rfl), hk2⟩
    · have hk2 : Kp (R = false) := ⟨by simpa only [decide_eq_false a, Bool.false_and] using hk.symm⟩
      have b : (p.name.size : Int) > 40 := by omega
      clear hk
      conv => arg 3; whnf
      all_goals try (refine zs ?_; repeat' first | apply zs0 | apply zs2 | (intro hc; try have hq := dq hc))
      exact ⟨by simp only [cellsNetl], .inr ⟨hk2.out, by (simp only [seval, push_cast, *] <;> rfl), rfl⟩⟩
  · rintro ρ H' ⟨rfl, h1, h3, hk⟩
    have hk2 : Kp (R = true) := ⟨by have := hk.out; simpa using this.symm⟩
    clear hk
    conv => arg 3; whnf
    all_goals try (refine zs ?_; repeat' first | apply zs0 | apply zs2 | (intro hc; try have hq := dq hc))
    exact ⟨by simp only [cellsNetl], .inl ⟨hk2.out, rfl⟩⟩

theorem few_l3 (n : Netl) (H : Heap) (R : Bool) (hl : n.outs.length ≤ 1000) : ∀ (bs : List Nat) i ρ H', i ≤ n.outs.length → (H' = H ++ [.cells (cellsNetl n)] ∧ ρ 1 = .ptr H.length 0 ∧ ρ 6 = .int .i64 i ∧ Kp ((n.outs.drop i).all (fun x => decide (x.name.size ≤ 40)) = R)) →
    Lp X ⟨107, bs⟩ (loopAt Tryz.f11 3) ρ H' fun ex ρ' H' => H' = H ++ [.cells (cellsNetl n)] ∧ ((R = true ∧ ex = .exit 6) ∨ (R = false ∧ ρ' 2 = .bool false ∧ ex = .ret)) := by
  intro bs
  refine loop_up ?_ ?_
  · rintro i ρ H' hlt ⟨rfl, h1, h3, hk⟩
    have hget : n.outs[i]? = some n.outs[i] := by simp [hlt]
    have hw := add1 i n.outs.length hlt (by omega)
    have hd := drop_cons hget
    replace hk := hk.out
    rw [hd, List.all_cons] at hk
    clear hd
    generalize n.outs[i] = p at hget hk
    rcases Classical.em (p.name.size ≤ 40) with a | a
    · have hk2 : Kp ((n.outs.drop (i + 1)).all (fun x => decide (x.name.size ≤ 40)) = R) := ⟨by simpa only [decide_eq_true a, Bool.true_and] using hk⟩
      have b : ¬ (p.name.size : Int) > 40 := by omega
      clear hk
      conv => arg 3; whnf
      all_goals try (refine zs ?_; repeat' first | apply zs0 | apply zs2 | (intro hc; try have hq := dq hc))
      exact ⟨by simp only [cellsNetl], by (simp only [seval, push_cast, *] <;> rfl), by (simp only [seval, push_cast, *] <;> rfl), hk2⟩
    · have hk2 : Kp (R = false) := ⟨by simpa only [decide_eq_false a, Bool.false_and] using hk.symm⟩
      have b : (p.name.size : Int) > 40 := by omega
      clear hk
      conv => arg 3; whnf
      all_goals try (refine zs ?_; repeat' first | apply zs0 | apply zs2 | (intro hc; try have hq := dq hc))
      exact ⟨by simp only [cellsNetl], .inr ⟨hk2.out, by (simp only [seval, push_cast, *] <;> rfl), rfl⟩⟩
  · rintro ρ H' ⟨rfl, h1, h3, hk⟩
    have hk2 : Kp (R = true) := ⟨by have := hk.out; simpa using this.symm⟩
    clear hk
    conv => arg 3; whnf
    all_goals try (refine zs ?_; repeat' first | apply zs0 | apply zs2 | (intro hc; try have hq := dq hc))
    exact ⟨by simp only [cellsNetl], .inl ⟨hk2.out, rfl⟩⟩

def fewAll (n : Netl) : Bool := n.nodes.all (fun x => decide (x.args.length ≤ 5)) && (n.inputs.all (fun x => decide (x.name.size ≤ 40)) && (n.regs.all (fun x => decide (x.name.size ≤ 40)) && n.outs.all (fun x => decide (x.name.size ≤ 40))))
theorem la_few (bs : List Nat) (H : Heap) (n : Netl) (hb : fewSizes n) : callw X bs 11 [encNetl n] H = some (.bool (fewAll n), H) := by
  refine call_at (rs := [.tmp 2]) (N := 107) (fn := Tryz.f11) xk11 xf11 rfl rfl rfl (by simp only [seval, push_cast, List.map_cons, List.map_nil, V.norm, norm1]; rfl) ?_
  obtain ⟨a1, a2, a3, a4, a5, a6⟩ := hb
  have b1 : ¬ ((n.name.size : Int) > 40) := by omega
  have b2 : ¬ ((n.inputs.length : Int) > 45) := by omega
  have b3 : ¬ ((n.regs.length : Int) > 45) := by omega
  have b5 : ¬ (n.nodes.length : Int) > 405 := by omega
  have b6 : ¬ (n.outs.length : Int) > 20 := by omega
  rcases Classical.em (n.nodes.length > 60) with a7 | a7
  · have b4 : (n.nodes.length : Int) > 60 := by omega
    have b7 : ¬ (n.nodes.length : Int) ≤ 400 := by omega
    all_goals try (refine zs ?_; repeat' first | apply zs0 | apply zs2 | (intro hc; try have hq := dq hc))
    refine lp_then (lp_any (c := loopAt Tryz.f11 0) rfl (few_l0 n H _ (by omega) _ 0 _ _ (by omega) ⟨by simp only [cellsNetl], by (simp only [seval, push_cast, *] <;> rfl), by (simp only [seval, push_cast, *] <;> rfl), ⟨rfl⟩⟩)) ?_
    rintro ex ρ0 H' ⟨rfl, ⟨r0, rfl⟩ | ⟨r0, g0, rfl⟩⟩ hf0
    rotate_left
    · have e : fewAll n = false := by simp only [fewAll]; simp only [List.drop_zero] at *; simp [*]
      clear hf0
      all_goals try (refine zs ?_; repeat' first | apply zs0 | apply zs2 | (intro hc; try have hq := dq hc))
    have f0 := hf0 1 rfl
    simp only [seval, push_cast] at f0
    clear hf0
    all_goals try (refine zs ?_; repeat' first | apply zs0 | apply zs2 | (intro hc; try have hq := dq hc))
    refine lp_then (lp_any (c := loopAt Tryz.f11 1) rfl (few_l1 n H _ (by omega) _ 0 _ _ (by omega) ⟨by simp only [cellsNetl], by (simp only [seval, push_cast, *] <;> rfl), by (simp only [seval, push_cast, *] <;> rfl), ⟨rfl⟩⟩)) ?_
    rintro ex ρ1 H' ⟨rfl, ⟨r1, rfl⟩ | ⟨r1, g1, rfl⟩⟩ hf1
    rotate_left
    · have e : fewAll n = false := by simp only [fewAll]; simp only [List.drop_zero] at *; simp [*]
      clear hf1
      all_goals try (refine zs ?_; repeat' first | apply zs0 | apply zs2 | (intro hc; try have hq := dq hc))
    have f1 := hf1 1 rfl
    simp only [seval, push_cast] at f1
    clear hf1
    all_goals try (refine zs ?_; repeat' first | apply zs0 | apply zs2 | (intro hc; try have hq := dq hc))
    refine lp_then (lp_any (c := loopAt Tryz.f11 2) rfl (few_l2 n H _ (by omega) _ 0 _ _ (by omega) ⟨by simp only [cellsNetl], by (simp only [seval, push_cast, *] <;> rfl), by (simp only [seval, push_cast, *] <;> rfl), ⟨rfl⟩⟩)) ?_
    rintro ex ρ2 H' ⟨rfl, ⟨r2, rfl⟩ | ⟨r2, g2, rfl⟩⟩ hf2
    rotate_left
    · have e : fewAll n = false := by simp only [fewAll]; simp only [List.drop_zero] at *; simp [*]
      clear hf2
      all_goals try (refine zs ?_; repeat' first | apply zs0 | apply zs2 | (intro hc; try have hq := dq hc))
    have f2 := hf2 1 rfl
    simp only [seval, push_cast] at f2
    clear hf2
    all_goals try (refine zs ?_; repeat' first | apply zs0 | apply zs2 | (intro hc; try have hq := dq hc))
    refine lp_then (lp_any (c := loopAt Tryz.f11 3) rfl (few_l3 n H _ (by omega) _ 0 _ _ (by omega) ⟨by simp only [cellsNetl], by (simp only [seval, push_cast, *] <;> rfl), by (simp only [seval, push_cast, *] <;> rfl), ⟨rfl⟩⟩)) ?_
    rintro ex ρ3 H' ⟨rfl, ⟨r3, rfl⟩ | ⟨r3, g3, rfl⟩⟩ hf3
    rotate_left
    · have e : fewAll n = false := by simp only [fewAll]; simp only [List.drop_zero] at *; simp [*]
      clear hf3
      all_goals try (refine zs ?_; repeat' first | apply zs0 | apply zs2 | (intro hc; try have hq := dq hc))
    have f3 := hf3 1 rfl
    simp only [seval, push_cast] at f3
    have e : fewAll n = true := by simp only [fewAll]; simp only [List.drop_zero] at *; simp [*]
    clear hf3
    all_goals try (refine zs ?_; repeat' first | apply zs0 | apply zs2 | (intro hc; try have hq := dq hc))
  · have b4 : ¬ (n.nodes.length : Int) > 60 := by omega
    all_goals try (refine zs ?_; repeat' first | apply zs0 | apply zs2 | (intro hc; try have hq := dq hc))
    refine lp_then (lp_any (c := loopAt Tryz.f11 0) rfl (few_l0 n H _ (by omega) _ 0 _ _ (by omega) ⟨by simp only [cellsNetl], by (simp only [seval, push_cast, *] <;> rfl), by (simp only [seval, push_cast, *] <;> rfl), ⟨rfl⟩⟩)) ?_
    rintro ex ρ0 H' ⟨rfl, ⟨r0, rfl⟩ | ⟨r0, g0, rfl⟩⟩ hf0
    rotate_left
    · have e : fewAll n = false := by simp only [fewAll]; simp only [List.drop_zero] at *; simp [*]
      clear hf0
      all_goals try (refine zs ?_; repeat' first | apply zs0 | apply zs2 | (intro hc; try have hq := dq hc))
    have f0 := hf0 1 rfl
    simp only [seval, push_cast] at f0
    clear hf0
    all_goals try (refine zs ?_; repeat' first | apply zs0 | apply zs2 | (intro hc; try have hq := dq hc))
    refine lp_then (lp_any (c := loopAt Tryz.f11 1) rfl (few_l1 n H _ (by omega) _ 0 _ _ (by omega) ⟨by simp only [cellsNetl], by (simp only [seval, push_cast, *] <;> rfl), by (simp only [seval, push_cast, *] <;> rfl), ⟨rfl⟩⟩)) ?_
    rintro ex ρ1 H' ⟨rfl, ⟨r1, rfl⟩ | ⟨r1, g1, rfl⟩⟩ hf1
    rotate_left
    · have e : fewAll n = false := by simp only [fewAll]; simp only [List.drop_zero] at *; simp [*]
      clear hf1
      all_goals try (refine zs ?_; repeat' first | apply zs0 | apply zs2 | (intro hc; try have hq := dq hc))
    have f1 := hf1 1 rfl
    simp only [seval, push_cast] at f1
    clear hf1
    all_goals try (refine zs ?_; repeat' first | apply zs0 | apply zs2 | (intro hc; try have hq := dq hc))
    refine lp_then (lp_any (c := loopAt Tryz.f11 2) rfl (few_l2 n H _ (by omega) _ 0 _ _ (by omega) ⟨by simp only [cellsNetl], by (simp only [seval, push_cast, *] <;> rfl), by (simp only [seval, push_cast, *] <;> rfl), ⟨rfl⟩⟩)) ?_
    rintro ex ρ2 H' ⟨rfl, ⟨r2, rfl⟩ | ⟨r2, g2, rfl⟩⟩ hf2
    rotate_left
    · have e : fewAll n = false := by simp only [fewAll]; simp only [List.drop_zero] at *; simp [*]
      clear hf2
      all_goals try (refine zs ?_; repeat' first | apply zs0 | apply zs2 | (intro hc; try have hq := dq hc))
    have f2 := hf2 1 rfl
    simp only [seval, push_cast] at f2
    clear hf2
    all_goals try (refine zs ?_; repeat' first | apply zs0 | apply zs2 | (intro hc; try have hq := dq hc))
    refine lp_then (lp_any (c := loopAt Tryz.f11 3) rfl (few_l3 n H _ (by omega) _ 0 _ _ (by omega) ⟨by simp only [cellsNetl], by (simp only [seval, push_cast, *] <;> rfl), by (simp only [seval, push_cast, *] <;> rfl), ⟨rfl⟩⟩)) ?_
    rintro ex ρ3 H' ⟨rfl, ⟨r3, rfl⟩ | ⟨r3, g3, rfl⟩⟩ hf3
    rotate_left
    · have e : fewAll n = false := by simp only [fewAll]; simp only [List.drop_zero] at *; simp [*]
      clear hf3
      all_goals try (refine zs ?_; repeat' first | apply zs0 | apply zs2 | (intro hc; try have hq := dq hc))
    have f3 := hf3 1 rfl
    simp only [seval, push_cast] at f3
    have e : fewAll n = true := by simp only [fewAll]; simp only [List.drop_zero] at *; simp [*]
    clear hf3
    all_goals try (refine zs ?_; repeat' first | apply zs0 | apply zs2 | (intro hc; try have hq := dq hc))

end Go.E
/- Contracts of the references, in E: errors of values; lists. Own work. -/
namespace Go.E
open Go.Proofs
set_option maxRecDepth 100000
set_option maxHeartbeats 4000000

theorem bs_isValues (bs : List Nat) (H : Heap) (ws l : List Int) (h : l.length = ws.length) (hl : l.length ≤ 1000000) (hw : ∀ w ∈ ws, 0 ≤ w) : callw X bs 152 [.list (ws.map (.int .i64)), .list (l.map (.int .i64))] H = some (.bool (decide ((eachP (fun i n => if fitsN n (at0 ws i) = true then (0 : Int) else 2) 0 l).2 = 0)), H) := by
  refine call_at (rs := [.tmp 4]) (N := 27) (fn := Tryz.f152) xk152 xf152 rfl rfl rfl (by simp only [seval, push_cast, List.map_cons, List.map_nil, V.norm, norm1]; rfl) ?_
  have key : ∀ (R : Bool) (bs : List Nat) i ρ H', i ≤ l.length → (H' = H ∧ ρ 0 = .list (ws.map (.int .i64)) ∧ ρ 1 = .list (l.map (.int .i64)) ∧ ρ 5 = .int .i64 i ∧ Kp (decide ((eachP (fun i n => if fitsN n (at0 ws i) = true then (0 : Int) else 2) i (l.drop i)).2 = 0) = R)) →
      Lp X ⟨27, bs⟩ (loopAt Tryz.f152 0) ρ H' fun ex ρ' H' => H' = H ∧ ((ex = .exit 0 ∧ R = true) ∨ (ex = .ret ∧ ρ' 4 = .bool false ∧ R = false)) := by
    intro R bs
    refine loop_up ?_ ?_
    · rintro i ρ H' hi ⟨rfl, h0, h1, h5, hR⟩
      have hget : l[i]? = some l[i] := by simp [hi]
      have hiw : i < ws.length := by omega
      have hgw : ws[i]? = some ws[i] := by simp [hiw]
      have hwi := hw ws[i] (List.getElem_mem hiw)
      have hat := at0_get hgw
      replace hR := hR.out
      rw [drop_cons hget, eachP, hat] at hR
      generalize l[i] = x at hget hR
      generalize ws[i] = y at hgw hwi hat hR
      have hf := fun bs H => bs_fits bs H x y hwi
      have hw1 := add1 i l.length hi hl
      clear hw hat hwi
      cases hb : fitsN x y with
      | true =>
        rw [hb] at hR hf
        simp only [if_true, ne_eq, not_true_eq_false, if_false] at hR
        replace hR : Kp (decide ((eachP (fun i n => if fitsN n (at0 ws i) = true then (0 : Int) else 2) (i + 1) (l.drop (i + 1))).2 = 0) = R) := ⟨hR⟩
        conv => arg 3; whnf
        repeat' first
         | (apply z50 (id := 6) (ord := [0, 1, 2, 3, 4, 5, 6, 7, 8, 9]) <;> first | kernel_rfl | skip)
         | (refine zs ?_; repeat' first | apply zs0 | apply zs2 | (intro hc; try have hq := dq hc)) | fail
        exact ⟨rfl, by (simp only [seval, push_cast, *] <;> rfl), by (simp only [seval, push_cast, *] <;> rfl), by (simp only [seval, push_cast, *] <;> rfl), hR⟩
      | false =>
        rw [hb] at hR hf
        simp at hR
        replace hR : Kp (R = false) := ⟨hR.symm ▸ rfl⟩
        conv => arg 3; whnf
        repeat' first
         | (apply z50 (id := 6) (ord := [0, 1, 2, 3, 4, 5, 6, 7, 8, 9]) <;> first | kernel_rfl | skip)
         | (refine zs ?_; repeat' first | apply zs0 | apply zs2 | (intro hc; try have hq := dq hc)) | fail
        exact ⟨rfl, .inr ⟨rfl, by (simp only [seval, push_cast, *] <;> rfl), hR.out⟩⟩
    · rintro ρ H' ⟨rfl, h0, h1, h5, hR⟩
      replace hR := hR.out
      rw [List.drop_length] at hR
      simp [eachP] at hR
      replace hR : Kp (R = true) := ⟨by simp [hR]⟩
      clear hw
      conv => arg 3; whnf
      repeat' first
       | (apply z50 (id := 6) (ord := [0, 1, 2, 3, 4, 5, 6, 7, 8, 9]) <;> first | kernel_rfl | skip)
       | (refine zs ?_; repeat' first | apply zs0 | apply zs2 | (intro hc; try have hq := dq hc)) | fail
      exact ⟨rfl, .inl ⟨rfl, hR.out⟩⟩
  have d : (decide ¬ (ws.length : Int) = (l.length : Int)) = false := decide_eq_false (by omega)
  clear hw
  repeat' first
   | (apply z50 (id := 6) (ord := [0, 1, 2, 3, 4, 5, 6, 7, 8, 9]) <;> first | kernel_rfl | skip)
   | (refine zs ?_; repeat' first | apply zs0 | apply zs2 | (intro hc; try have hq := dq hc)) | fail
  refine lp_then (lp_any (c := loopAt Tryz.f152 0) rfl (key _ _ 0 _ _ (by omega) ⟨rfl, by (simp only [seval, push_cast, *] <;> rfl), by (simp only [seval, push_cast, *] <;> rfl), by (simp only [seval, push_cast, *] <;> rfl), ⟨rfl⟩⟩)) ?_
  rintro ex ρ' H' ⟨rfl, ⟨rfl, h2⟩ | ⟨rfl, h3, h2⟩⟩ hf
  · rw [List.drop_zero] at h2
    rw [h2]
    clear key hf
    repeat' first
     | (apply z50 (id := 6) (ord := [0, 1, 2, 3, 4, 5, 6, 7, 8, 9]) <;> first | kernel_rfl | skip)
     | (refine zs ?_; repeat' first | apply zs0 | apply zs2 | (intro hc; try have hq := dq hc)) | fail
  · rw [List.drop_zero] at h2
    rw [h2]
    clear key hf
    repeat' first
     | (apply z50 (id := 6) (ord := [0, 1, 2, 3, 4, 5, 6, 7, 8, 9]) <;> first | kernel_rfl | skip)
     | (refine zs ?_; repeat' first | apply zs0 | apply zs2 | (intro hc; try have hq := dq hc)) | fail

theorem eachP_02 (ws : List Int) : ∀ (l : List Int) (i : Nat), (eachP (fun i n => if fitsN n (at0 ws i) = true then (0 : Int) else 2) i l).2 = 0 ∨ (eachP (fun i n => if fitsN n (at0 ws i) = true then (0 : Int) else 2) i l).2 = 2
  | [], _ => .inl rfl
  | x :: r, i => by
    unfold eachP
    by_cases h : fitsN x (at0 ws i) = true
    · simp only [h, if_true, ne_eq, not_true_eq_false, if_false]; exact eachP_02 ws r (i + 1)
    · simp [h]
theorem bs_valuesErr (bs : List Nat) (H : Heap) (ws l : List Int) (hws : ws.length ≤ 1000000) (hl : l.length ≤ 1000000) (hw : ∀ w ∈ ws, 0 ≤ w) : callw X bs 96 [.list (ws.map (.int .i64)), .list (l.map (.int .i64))] H = some (.int .i64 (valErrS ws l), H) := by
  refine call_at (rs := [.tmp 4]) (N := 14) (fn := Tryz.f96) xk96 xf96 rfl rfl rfl (by simp only [seval, push_cast, List.map_cons, List.map_nil, V.norm, norm1]; rfl) ?_
  unfold valErrS
  by_cases h : l.length = ws.length
  · have d : (decide ¬ (ws.length : Int) = (l.length : Int)) = false := decide_eq_false (by omega)
    have t := fun bs H => bs_isValues bs H ws l h hl hw
    rw [if_pos h]
    rcases eachP_02 ws l 0 with he | he
    · rw [he] at t ⊢
      clear hw h he
      all_goals try (refine zs ?_; repeat' first | apply zs0 | apply zs2 | (intro hc; try have hq := dq hc))
    · rw [he] at t ⊢
      clear hw h he
      all_goals try (refine zs ?_; repeat' first | apply zs0 | apply zs2 | (intro hc; try have hq := dq hc))
  · have d : (decide ¬ (ws.length : Int) = (l.length : Int)) = true := decide_eq_true (by omega)
    rw [if_neg h]
    clear hw h
    all_goals try (refine zs ?_; repeat' first | apply zs0 | apply zs2 | (intro hc; try have hq := dq hc))

theorem rf_inputsErr (bs : List Nat) (H : Heap) (n : Netl) (l : List Int) (hi : n.inputs.length ≤ 1000) (hr : n.regs.length ≤ 1000) (hl : l.length ≤ 1000000) (hw : ∀ w ∈ n.inputs.map (·.width), 0 ≤ w) : callw X bs 26 [encNetl n, .list (l.map (.int .i64))] H = some (.int .i64 (inErrS n l), H) := by
  refine call_at (rs := [.tmp 4]) (N := 13) (fn := Tryz.f26) xk26 xf26 rfl rfl rfl (by simp only [seval, push_cast, List.map_cons, List.map_nil, V.norm, norm1]; rfl) ?_
  have t1 := fun bs H => bs_netLeaves bs H n hi hr
  have t2 := slice_hi (leavesN n) n.inputs.length (by simp [leavesN])
  rw [in_take] at t2
  have t3 := fun bs H => bs_valuesErr bs H (n.inputs.map (·.width)) l (by simp; omega) hl hw
  simp only [encNetl, cellsNetl] at t1
  unfold inErrS
  generalize n.inputs.map (fun p : Port => p.width) = ws at t2 t3 ⊢
  generalize leavesN n = lvs at t1 t2
  clear hw
  repeat' first
   | (apply z51 (id := 1) (ord := [0, 2, 3, 4, 6, 1, 5, 7, 8]) (ps := [(2, 5)]) <;> first | kernel_rfl | skip)
   | (refine zs ?_; repeat' first | apply zs0 | apply zs2 | (intro hc; try have hq := dq hc)) | fail

theorem rf_stateErr (bs : List Nat) (H : Heap) (n : Netl) (l : List Int) (hi : n.inputs.length ≤ 1000) (hr : n.regs.length ≤ 1000) (hl : l.length ≤ 1000000) (hw : ∀ w ∈ n.regs.map (·.width), 0 ≤ w) : callw X bs 27 [encNetl n, .list (l.map (.int .i64))] H = some (.int .i64 (stErrS n l), H) := by
  refine call_at (rs := [.tmp 4]) (N := 13) (fn := Tryz.f27) xk27 xf27 rfl rfl rfl (by simp only [seval, push_cast, List.map_cons, List.map_nil, V.norm, norm1]; rfl) ?_
  have t1 := fun bs H => bs_netLeaves bs H n hi hr
  have t2 := slice_lo (leavesN n) n.inputs.length (by simp [leavesN])
  rw [in_drop] at t2
  have t3 := fun bs H => bs_valuesErr bs H (n.regs.map (·.width)) l (by simp; omega) hl hw
  simp only [encNetl, cellsNetl] at t1
  unfold stErrS
  generalize n.regs.map (fun p : Reg => p.width) = ws at t2 t3 ⊢
  generalize leavesN n = lvs at t1 t2
  clear hw
  repeat' first
   | (apply z51 (id := 1) (ord := [0, 2, 3, 4, 6, 1, 5, 7, 8]) (ps := [(2, 5)]) <;> first | kernel_rfl | skip)
   | (refine zs ?_; repeat' first | apply zs0 | apply zs2 | (intro hc; try have hq := dq hc)) | fail

theorem rf_err (bs : List Nat) (H : Heap) (n : Netl) (hS : Small n) : callw X bs 24 [encNetl n] H = some (.int .i64 (netErrR n).2, H) := by
  refine call_at (rs := [.tmp 2]) (N := 11) (fn := Tryz.f24) xk24 xf24 rfl rfl rfl (by simp only [seval, push_cast, List.map_cons, List.map_nil, V.norm, norm1]; rfl) ?_
  have t1 := fun bs H => bs_netErr bs H n hS
  simp only [encNetl, cellsNetl] at t1
  clear hS
  all_goals try (refine zs ?_; repeat' first | apply zs0 | apply zs2 | (intro hc; try have hq := dq hc))

theorem nl_traceOf (bs : List Nat) (H : Heap) (n : Netl) (l : List (List Int)) (hS : Small n) (hl : l.length ≤ 1000) (hll : ∀ x ∈ l, x.length ≤ 100000) : callw X bs 21 [encNetl n, .list (l.map encInts)] H = some (.tuple [.list (if runErrS n l = 0 then (trL n l l.length).map encInts else []), .int .i64 (runErrS n l)], H) := by
  refine call_at (rs := [.tmp 4, .tmp 5]) (N := 18) (fn := Tryz.f21) xk21 xf21 rfl rfl rfl (by simp only [seval, push_cast, List.map_cons, List.map_nil, V.norm, norm1]; rfl) ?_
  have t1 := fun bs H => nl_run bs H n l hS hl hll
  simp only [encNetl, cellsNetl] at t1
  have hp : V.pureL (if runErrS n l = 0 then (trL n l l.length).map encInts else []) = true := by split; exact pureL_encInts _; rfl
  generalize (if runErrS n l = 0 then (trL n l l.length).map encInts else []) = a at t1 hp ⊢
  generalize (if runErrS n l = 0 then (stL n l l.length).map encInts else []) = b at t1
  generalize runErrS n l = e at t1 ⊢
  clear hS hll
  all_goals try (refine zs ?_; repeat' first | apply zs0 | apply zs2 | (intro hc; try have hq := dq hc))

theorem nl_statesOf (bs : List Nat) (H : Heap) (n : Netl) (l : List (List Int)) (hS : Small n) (hl : l.length ≤ 1000) (hll : ∀ x ∈ l, x.length ≤ 100000) : callw X bs 23 [encNetl n, .list (l.map encInts)] H = some (.tuple [.list (if runErrS n l = 0 then (stL n l l.length).map encInts else []), .int .i64 (runErrS n l)], H) := by
  refine call_at (rs := [.tmp 4, .tmp 5]) (N := 18) (fn := Tryz.f23) xk23 xf23 rfl rfl rfl (by simp only [seval, push_cast, List.map_cons, List.map_nil, V.norm, norm1]; rfl) ?_
  have t1 := fun bs H => nl_run bs H n l hS hl hll
  simp only [encNetl, cellsNetl] at t1
  have hp : V.pureL (if runErrS n l = 0 then (stL n l l.length).map encInts else []) = true := by split; exact pureL_encInts _; rfl
  generalize (if runErrS n l = 0 then (stL n l l.length).map encInts else []) = a at t1 hp ⊢
  generalize (if runErrS n l = 0 then (trL n l l.length).map encInts else []) = b at t1
  generalize runErrS n l = e at t1 ⊢
  clear hS hll
  all_goals try (refine zs ?_; repeat' first | apply zs0 | apply zs2 | (intro hc; try have hq := dq hc))
end Go.E
/- Contracts of the references, in E: sequences; lists of lists. Own work. -/
namespace Go.E
open Go.Proofs
set_option maxRecDepth 100000
set_option maxHeartbeats 4000000

theorem rf_allErr (bs : List Nat) (H : Heap) (n : Netl) (l : List (List Int)) (hi : n.inputs.length ≤ 1000) (hr : n.regs.length ≤ 1000) (hl : l.length ≤ 1000) (hll : ∀ x ∈ l, x.length ≤ 100000) (hw : ∀ w ∈ n.inputs.map (·.width), 0 ≤ w) : callw X bs 95 [encNetl n, .list (l.map encInts)] H = some (.int .i64 (eachP (fun _ x => inErrS n x) 0 l).2, H) := by
  refine call_at (rs := [.tmp 4]) (N := 22) (fn := Tryz.f95) xk95 xf95 rfl rfl rfl (by simp only [seval, push_cast, List.map_cons, List.map_nil, V.norm, norm1]; rfl) ?_
  have key : ∀ (R : Int) (bs : List Nat) i ρ H', i ≤ l.length → (H' = H ++ [.cells (cellsNetl n)] ∧ ρ 1 = .list (l.map encInts) ∧ ρ 2 = .ptr H.length 0 ∧ ρ 5 = .int .i64 i ∧ Kp ((eachP (fun _ x => inErrS n x) i (l.drop i)).2 = R)) →
      Lp X ⟨22, bs⟩ (loopAt Tryz.f95 0) ρ H' fun ex ρ' H' => H' = H ++ [.cells (cellsNetl n)] ∧ ((ex = .exit 0 ∧ R = 0) ∨ (ex = .ret ∧ ρ' 4 = .int .i64 R)) := by
    intro R bs
    refine loop_up ?_ ?_
    · rintro i ρ H' hlt ⟨rfl, h1, h2, h5, hR⟩
      have hget : l[i]? = some l[i] := by simp [hlt]
      have hle := hll l[i] (List.getElem_mem hlt)
      replace hR := hR.out
      rw [drop_cons hget, eachP] at hR
      have t := fun bs H => rf_inputsErr bs H n l[i] hi hr (by omega) hw
      simp only [encNetl, cellsNetl] at t
      generalize l[i] = x at hget hR t
      have hw1 := add1 i l.length hlt (by omega)
      clear hw hll hle
      generalize inErrS n x = e at hR t
      by_cases he : e = 0
      · subst he
        simp only [ne_eq, not_true_eq_false, if_false] at hR
        replace hR : Kp ((eachP (fun _ x => inErrS n x) (i + 1) (l.drop (i + 1))).2 = R) := ⟨hR⟩
        conv => arg 3; whnf
        repeat' first
         | (apply z50 (id := 4) (ord := [0, 1, 2, 3, 4, 5, 6]) <;> first | kernel_rfl | skip)
         | (refine zs ?_; repeat' first | apply zs0 | apply zs2 | (intro hc; try have hq := dq hc)) | fail
        exact ⟨by simp only [cellsNetl], by (simp only [seval, push_cast, *] <;> rfl), by (simp only [seval, push_cast, *] <;> rfl), by (simp only [seval, push_cast, *] <;> rfl), hR⟩
      · simp only [ne_eq, he, not_false_eq_true, if_true] at hR
        replace hR : Kp (e = R) := ⟨hR⟩
        conv => arg 3; whnf
        repeat' first
         | (apply z50 (id := 4) (ord := [0, 1, 2, 3, 4, 5, 6]) <;> first | kernel_rfl | skip)
         | (refine zs ?_; repeat' first | apply zs0 | apply zs2 | (intro hc; try have hq := dq hc)) | fail
        exact ⟨by simp only [cellsNetl], .inr ⟨rfl, by rw [← hR.out]; (simp only [seval, push_cast, *] <;> rfl)⟩⟩
    · rintro ρ H' ⟨rfl, h1, h2, h5, hR⟩
      replace hR := hR.out
      rw [List.drop_length] at hR
      replace hR : Kp (R = 0) := ⟨hR.symm⟩
      clear hw hll
      conv => arg 3; whnf
      repeat' first
       | (apply z50 (id := 4) (ord := [0, 1, 2, 3, 4, 5, 6]) <;> first | kernel_rfl | skip)
       | (refine zs ?_; repeat' first | apply zs0 | apply zs2 | (intro hc; try have hq := dq hc)) | fail
      exact ⟨by simp only [cellsNetl], .inl ⟨rfl, hR.out⟩⟩
  clear hw hll
  repeat' first
   | (apply z50 (id := 4) (ord := [0, 1, 2, 3, 4, 5, 6]) <;> first | kernel_rfl | skip)
   | (refine zs ?_; repeat' first | apply zs0 | apply zs2 | (intro hc; try have hq := dq hc)) | fail
  refine lp_then (lp_any (c := loopAt Tryz.f95 0) rfl (key _ _ 0 _ _ (by omega) ⟨by simp only [cellsNetl], by (simp only [seval, push_cast, *] <;> rfl), by (simp only [seval, push_cast, *] <;> rfl), by (simp only [seval, push_cast, *] <;> rfl), ⟨rfl⟩⟩)) ?_
  rintro ex ρ' H' ⟨rfl, ⟨rfl, h2⟩ | ⟨rfl, h2⟩⟩ hf
  · rw [List.drop_zero] at h2
    rw [h2]
    clear key hf
    repeat' first
     | (apply z50 (id := 4) (ord := [0, 1, 2, 3, 4, 5, 6]) <;> first | kernel_rfl | skip)
     | (refine zs ?_; repeat' first | apply zs0 | apply zs2 | (intro hc; try have hq := dq hc)) | fail
  · rw [List.drop_zero] at h2
    clear key hf
    repeat' first
     | (apply z50 (id := 4) (ord := [0, 1, 2, 3, 4, 5, 6]) <;> first | kernel_rfl | skip)
     | (refine zs ?_; repeat' first | apply zs0 | apply zs2 | (intro hc; try have hq := dq hc)) | fail

theorem rf_seqErr (bs : List Nat) (H : Heap) (n : Netl) (l : List (List Int)) (hi : n.inputs.length ≤ 1000) (hr : n.regs.length ≤ 1000) (hl : l.length ≤ 1000) (hll : ∀ x ∈ l, x.length ≤ 100000) (hw : ∀ w ∈ n.inputs.map (·.width), 0 ≤ w) : callw X bs 25 [encNetl n, .list (l.map encInts)] H = some (.int .i64 (if l.length ≤ 60 then (eachP (fun _ x => inErrS n x) 0 l).2 else 8), H) := by
  refine call_at (rs := [.tmp 4]) (N := 11) (fn := Tryz.f25) xk25 xf25 rfl rfl rfl (by simp only [seval, push_cast, List.map_cons, List.map_nil, V.norm, norm1]; rfl) ?_
  have t := fun bs H => rf_allErr bs H n l hi hr hl hll hw
  simp only [encNetl, cellsNetl] at t
  clear hw hll
  by_cases h : l.length ≤ 60
  · have d : ¬ (l.length : Int) > 60 := by omega
    rw [if_pos h]
    clear h
    all_goals try (refine zs ?_; repeat' first | apply zs0 | apply zs2 | (intro hc; try have hq := dq hc))
  · have d : (l.length : Int) > 60 := by omega
    rw [if_neg h]
    clear h
    all_goals try (refine zs ?_; repeat' first | apply zs0 | apply zs2 | (intro hc; try have hq := dq hc))

theorem bs_lists (bs : List Nat) (H : Heap) (a b : List (List Int)) (ha : a.length ≤ 1000000) (hb : b.length ≤ 1000000) (hla : ∀ x ∈ a, x.length ≤ 1000000) (hlb : ∀ x ∈ b, x.length ≤ 1000000) : callw X bs 29 [.list (a.map encInts), .list (b.map encInts)] H = some (.bool (decide (a = b)), H) := by
  refine call_at (rs := [.tmp 4]) (N := 27) (fn := Tryz.f29) xk29 xf29 rfl rfl rfl (by simp only [seval, push_cast, List.map_cons, List.map_nil, V.norm, norm1]; rfl) ?_
  rcases Classical.em (a.length = b.length) with hab | hab
  · have key : ∀ (bs : List Nat) i ρ H', i ≤ a.length → (H' = H ∧ ρ 0 = .list (a.map encInts) ∧ ρ 1 = .list (b.map encInts) ∧ ρ 5 = .int .i64 i ∧ Kp (a.take i = b.take i)) →
      Lp X ⟨27, bs⟩ (loopAt Tryz.f29 0) ρ H' fun ex ρ' H' => H' = H ∧ ((a = b ∧ ex = .exit 0) ∨ (a ≠ b ∧ ρ' 4 = .bool false ∧ ex = .ret)) := by
      intro bs
      refine loop_up ?_ ?_
      · rintro i ρ H' hlt ⟨rfl, h0, h1, h5, hk⟩
        have hltb : i < b.length := by omega
        have hget : a[i]? = some a[i] := by simp [hlt]
        have hgetb : b[i]? = some b[i] := by simp [hltb]
        have hxa := hla a[i] (List.getElem_mem hlt)
        have hxb := hlb b[i] (List.getElem_mem hltb)
        have hw := add1 i a.length hlt (by omega)
        have hn := take_step hget hgetb hk.out
        generalize a[i] = x at hget hn hxa
        generalize b[i] = y at hgetb hn hxb
        have t := fun bs H => bs_ints bs H x y hxa hxb
        clear hla hlb
        rcases Classical.em (x = y) with hxy | hxy
        · have hk2 := Kp.mk (hn.1 hxy)
          rw [decide_eq_true hxy] at t
          clear hn hk hxy hxa hxb
          conv => arg 3; whnf
          repeat' first
           | (apply z50 (id := 6) (ord := [0, 1, 2, 3, 4, 5, 6, 7, 8, 9]) <;> first | kernel_rfl | skip)
           | (refine zs ?_; repeat' first | apply zs0 | apply zs2 | (intro hc; try have hq := dq hc)) | fail
          exact ⟨by (simp only [seval, push_cast, *] <;> rfl), by (simp only [seval, push_cast, *] <;> rfl), by (simp only [seval, push_cast, *] <;> rfl), by (simp only [seval, push_cast, *] <;> rfl), hk2⟩
        · have hk2 := Kp.mk (hn.2 hxy)
          rw [decide_eq_false hxy] at t
          clear hn hk hxy hxa hxb
          conv => arg 3; whnf
          repeat' first
           | (apply z50 (id := 6) (ord := [0, 1, 2, 3, 4, 5, 6, 7, 8, 9]) <;> first | kernel_rfl | skip)
           | (refine zs ?_; repeat' first | apply zs0 | apply zs2 | (intro hc; try have hq := dq hc)) | fail
          exact ⟨by (simp only [seval, push_cast, *] <;> rfl), .inr ⟨hk2.out, by (simp only [seval, push_cast, *] <;> rfl), rfl⟩⟩
      · rintro ρ H' ⟨rfl, h0, h1, h5, hk⟩
        have hk2 : Kp (a = b) := ⟨by have := hk.out; rw [hab, List.take_length, ← hab, List.take_length] at this; exact this⟩
        clear hla hlb
        conv => arg 3; whnf
        repeat' first
         | (apply z50 (id := 6) (ord := [0, 1, 2, 3, 4, 5, 6, 7, 8, 9]) <;> first | kernel_rfl | skip)
         | (refine zs ?_; repeat' first | apply zs0 | apply zs2 | (intro hc; try have hq := dq hc)) | fail
        exact ⟨by (simp only [seval, push_cast, *] <;> rfl), .inl ⟨hk2.out, rfl⟩⟩
    clear hla hlb
    repeat' first
     | (apply z50 (id := 6) (ord := [0, 1, 2, 3, 4, 5, 6, 7, 8, 9]) <;> first | kernel_rfl | skip)
     | (refine zs ?_; repeat' first | apply zs0 | apply zs2 | (intro hc; try have hq := dq hc)) | fail
    refine lp_then (lp_any (c := loopAt Tryz.f29 0) rfl (key _ 0 _ _ (by omega) ⟨rfl, by (simp only [seval, push_cast, *] <;> rfl), by (simp only [seval, push_cast, *] <;> rfl), by (simp only [seval, push_cast, *] <;> rfl), ⟨rfl⟩⟩)) ?_
    rintro ex ρ' H' ⟨rfl, ⟨he, rfl⟩ | ⟨he, f4, rfl⟩⟩ hf
    · rw [decide_eq_true he]
      clear key he hf
      repeat' first
       | (apply z50 (id := 6) (ord := [0, 1, 2, 3, 4, 5, 6, 7, 8, 9]) <;> first | kernel_rfl | skip)
       | (refine zs ?_; repeat' first | apply zs0 | apply zs2 | (intro hc; try have hq := dq hc)) | fail
    · rw [decide_eq_false he]
      clear key he hf
      repeat' first
       | (apply z50 (id := 6) (ord := [0, 1, 2, 3, 4, 5, 6, 7, 8, 9]) <;> first | kernel_rfl | skip)
       | (refine zs ?_; repeat' first | apply zs0 | apply zs2 | (intro hc; try have hq := dq hc)) | fail
  · have hne : ¬ a = b := fun h => hab (h ▸ rfl)
    have d : (decide ¬ (a.length : Int) = (b.length : Int)) = true := decide_eq_true (by omega)
    rw [decide_eq_false hne]
    clear hla hlb hne hab
    repeat' first
     | (apply z50 (id := 6) (ord := [0, 1, 2, 3, 4, 5, 6, 7, 8, 9]) <;> first | kernel_rfl | skip)
     | (refine zs ?_; repeat' first | apply zs0 | apply zs2 | (intro hc; try have hq := dq hc)) | fail
end Go.E
/- Contracts of the references, in E: copies of lists of lists; limits. Own work. -/
namespace Go.E
open Go.Proofs
set_option maxRecDepth 100000
set_option maxHeartbeats 4000000

theorem bs_copyLists (bs : List Nat) (H : Heap) (l : List (List Int)) (hl : l.length ≤ 1000) (hll : ∀ x ∈ l, x.length ≤ 100000) : callw X bs 22 [.list (l.map encInts)] H = some (.list (l.map encInts), H) := by
  refine call_at (rs := [.tmp 2]) (N := 20) (fn := Tryz.f22) xk22 xf22 rfl rfl rfl (by simp only [seval, push_cast, List.map_cons, List.map_nil, V.norm, norm1]; rfl) ?_
  have key : ∀ (t : HObj) (bs : List Nat) i ρ H', i ≤ l.length → (∃ ls junk, ls = l.take i ∧ H' = H ++ t :: .tok ls.length :: junk ∧ ρ 0 = .list (l.map encInts) ∧ ρ 3 = .tl (H.length + 1) (ls.map encInts) ∧ ρ 4 = .int .i64 i) →
      Lp X ⟨20, bs⟩ (loopAt Tryz.f22 0) ρ H' fun ex ρ' H' => ∃ junk, H' = H ++ t :: .tok l.length :: junk ∧ ex = .exit 0 ∧ ρ' 3 = .tl (H.length + 1) (l.map encInts) := by
    intro t bs
    refine loop_up ?_ ?_
    · rintro i ρ H' hlt ⟨ls, junk, hls, rfl, h0, h3, h4⟩
      have hget : l[i]? = some l[i] := by simp [hlt]
      have hx := hll l[i] (List.getElem_mem hlt)
      have htk : l.take (i + 1) = ls ++ [l[i]] := by rw [List.take_add_one, hget, hls]; rfl
      generalize l[i] = x at hget hx htk
      have t1 := fun bs H => bs_copyInts bs H x (by omega)
      have hlen : ls.length = i := by rw [hls]; simp; omega
      have hroom := room24 ls.length (by omega)
      have hw := add1 i l.length hlt (by omega)
      replace hls : Kp (ls = l.take i) := ⟨hls⟩
      replace htk : Kp (l.take (i + 1) = ls ++ [x]) := ⟨htk⟩
      replace hlen : Kp (ls.length = i) := ⟨hlen⟩
      clear hx hll
      conv => arg 3; whnf
      all_goals try (refine zs ?_; repeat' first | apply zs0 | apply zs2 | (intro hc; try have hq := dq hc))
      exact ⟨ls ++ [x], _, htk.out.symm, by simp only [List.length_append, List.length_singleton]; rfl, by (simp only [seval, push_cast, *] <;> rfl), by simp [push_cast], by (simp only [seval, push_cast, *] <;> rfl)⟩
    · rintro ρ H' ⟨ls, junk, hls, rfl, h0, h3, h4⟩
      rw [List.take_length] at hls
      subst hls
      clear hll
      conv => arg 3; whnf
      all_goals try (refine zs ?_; repeat' first | apply zs0 | apply zs2 | (intro hc; try have hq := dq hc))
      exact ⟨junk, rfl, rfl, by (simp only [seval, push_cast, *] <;> rfl)⟩
  clear hll
  all_goals try (refine zs ?_; repeat' first | apply zs0 | apply zs2 | (intro hc; try have hq := dq hc))
  refine lp_then (lp_any (c := loopAt Tryz.f22 0) rfl (key _ _ 0 _ _ (by omega) ⟨[], [], rfl, rfl, by (simp only [seval, push_cast, *] <;> rfl), by (simp only [seval, push_cast, *] <;> rfl), by (simp only [seval, push_cast, *] <;> rfl)⟩)) ?_
  rintro ex ρ' H' ⟨junk, rfl, rfl, h3⟩ hf
  clear key hf
  all_goals try (refine zs ?_; repeat' first | apply zs0 | apply zs2 | (intro hc; try have hq := dq hc))

theorem la_fewLists (bs : List Nat) (H : Heap) (l : List (List Int)) (m : Nat) (hm : m ≤ 1000) : callw X bs 18 [.list (l.map encInts), .int .i64 m] H = some (.bool (decide (l.length ≤ m) && l.all (fun x => decide (x.length ≤ 45))), H) := by
  refine call_at (rs := [.tmp 4]) (N := 22) (fn := Tryz.f18) xk18 xf18 rfl rfl rfl (by simp only [seval, push_cast, List.map_cons, List.map_nil, V.norm, norm1]; rfl) ?_
  by_cases hl : l.length ≤ m
  · have key : ∀ (R : Bool) (bs : List Nat) i ρ H', i ≤ l.length → (H' = H ∧ ρ 0 = .list (l.map encInts) ∧ ρ 5 = .int .i64 i ∧ Kp ((l.drop i).all (fun x => decide (x.length ≤ 45)) = R)) →
      Lp X ⟨22, bs⟩ (loopAt Tryz.f18 0) ρ H' fun ex ρ' H' => H' = H ∧ ((R = true ∧ ex = .exit 0) ∨ (R = false ∧ ρ' 4 = .bool false ∧ ex = .ret)) := by
      intro R bs
      refine loop_up ?_ ?_
      · rintro i ρ H' hlt ⟨rfl, h0, h5, hk⟩
        have hget : l[i]? = some l[i] := by simp [hlt]
        have hw := add1 i l.length hlt (by omega)
        have hd := drop_cons hget
        replace hk := hk.out
        rw [hd, List.all_cons] at hk
        clear hd
        generalize l[i] = p at hget hk
        rcases Classical.em (p.length ≤ 45) with a | a
        · have hk2 : Kp ((l.drop (i + 1)).all (fun x => decide (x.length ≤ 45)) = R) := ⟨by simpa only [decide_eq_true a, Bool.true_and] using hk⟩
          have b : ¬ (p.length : Int) > 45 := by omega
          clear hk a
          conv => arg 3; whnf
          all_goals try (refine zs ?_; repeat' first | apply zs0 | apply zs2 | (intro hc; try have hq := dq hc))
          exact ⟨rfl, by (simp only [seval, push_cast, *] <;> rfl), by (simp only [seval, push_cast, *] <;> rfl), hk2⟩
        · have hk2 : Kp (R = false) := ⟨by simpa only [decide_eq_false a, Bool.false_and] using hk.symm⟩
          have b : (p.length : Int) > 45 := by omega
          clear hk a
          conv => arg 3; whnf
          all_goals try (refine zs ?_; repeat' first | apply zs0 | apply zs2 | (intro hc; try have hq := dq hc))
          exact ⟨rfl, .inr ⟨hk2.out, by (simp only [seval, push_cast, *] <;> rfl), rfl⟩⟩
      · rintro ρ H' ⟨rfl, h0, h5, hk⟩
        have hk2 : Kp (R = true) := ⟨by have := hk.out; simpa using this.symm⟩
        clear hk
        conv => arg 3; whnf
        all_goals try (refine zs ?_; repeat' first | apply zs0 | apply zs2 | (intro hc; try have hq := dq hc))
        exact ⟨rfl, .inl ⟨hk2.out, rfl⟩⟩
    have d : ¬ (l.length : Int) > (m : Int) := by omega
    rw [decide_eq_true hl, Bool.true_and]
    have hlm : l.length ≤ 1000000 := by omega
    clear hl
    all_goals try (refine zs ?_; repeat' first | apply zs0 | apply zs2 | (intro hc; try have hq := dq hc))
    refine lp_then (lp_any (c := loopAt Tryz.f18 0) rfl (key _ _ 0 _ _ (by omega) ⟨rfl, by (simp only [seval, push_cast, *] <;> rfl), by (simp only [seval, push_cast, *] <;> rfl), ⟨rfl⟩⟩)) ?_
    rintro ex ρ' H' ⟨rfl, ⟨he, rfl⟩ | ⟨he, f4, rfl⟩⟩ hf
    · rw [List.drop_zero] at he
      rw [he]
      clear key he hf
      all_goals try (refine zs ?_; repeat' first | apply zs0 | apply zs2 | (intro hc; try have hq := dq hc))
    · rw [List.drop_zero] at he
      rw [he]
      clear key he hf
      all_goals try (refine zs ?_; repeat' first | apply zs0 | apply zs2 | (intro hc; try have hq := dq hc))
  · have d : (l.length : Int) > (m : Int) := by omega
    rw [decide_eq_false hl, Bool.false_and]
    clear hl
    all_goals try (refine zs ?_; repeat' first | apply zs0 | apply zs2 | (intro hc; try have hq := dq hc))
end Go.E
