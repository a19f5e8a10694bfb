/- Contracts of the package netlist, in E: CheckNetlist. Own work. -/
import Derived.Test.YtbnakdpmjlcneaaGreatNl2
set_option linter.all false
namespace Go.E
open Go.Proofs
set_option maxRecDepth 100000
set_option maxHeartbeats 4000000

theorem nl_c7 (bs : List Nat) (H : Heap) (n : Netl) (a f : Nat) (hl : n.regs.length ≤ 1000000) (hn : n.nodes.length ≤ 1000000) (hA : H[a]? = some (.cells (cellsNetl n))) (hF : H[f]? = some (.cells [.func 52 [.ptr a 0]])) : callw X bs 71 [.ptr a 0, .ptr f 0] H = some (.tuple [.int .i64 (eachP (regErr2S n) 0 n.regs).1, .int .i64 (eachP (regErr2S n) 0 n.regs).2], H) := by
  refine call_at (rs := [.tmp 2, .tmp 3]) (N := 10) (fn := Tryz.f71) xk71 xf71 rfl rfl rfl (by simp only [seval, push_cast, List.map_cons, List.map_nil, V.norm, norm1]; rfl) ?_
  have he := fun bs => netlist_each_Reg_p bs H 72 [.ptr f 0, .ptr a 0] (regErr2S n) n.regs hl
    (fun bs i x junk hx => by simpa using nl_c71 bs (H ++ junk) n i x a f hn (get_app hA _) (get_app hF _))
  simp only [cellsNetl] at hA
  clear hF
  repeat' first
   | apply z1 | apply z2
   | apply z3 | apply z4 | apply z5 | apply z6 | apply z7 | apply z8 | apply z9 | apply z10 | apply z11 | apply z12 | apply z13 | apply z14 | apply z15 | apply z18 | apply z19 | apply z20 | apply z21 | apply z22 | apply z23 | (apply z16; rfl) | (apply z17; decide)
   | ((first | apply z30 | apply z31 | ((first | apply z32 | apply z33); (simp only [seval, push_cast, *] <;> fail))); (simp only [seval, push_cast, *]; with_reducible rfl); try exact of_decide_eq_true rfl)
   | ((first | apply z34 | apply z35); (simp only [seval, push_cast, *] <;> fail); try exact of_decide_eq_true rfl)
   | ((first | (apply z24; (simp only [seval, push_cast, *]; with_reducible rfl)) | (apply z36; (simp only [seval, push_cast, *]; (fail_if_success (show _ = some true)); (fail_if_success (show _ = some false)); with_reducible rfl))); all_goals (intro hc; (try simp only [Bool.not_eq_true', Bool.not_eq_false'] at hc); (try (exact absurd hc Bool.noConfusion)); (first | have hq := dle_true hc | have hq := dlt_true hc | have hq := dle_false hc | have hq := dlt_false hc | skip); (try (exfalso; simp only [decide_eq_true_eq, decide_eq_false_iff_not] at hc; first | omega | (have := hk.out; omega)))))
   | ((first | apply z40 | apply z41 | (apply z42; (simp only [seval, push_cast, *]; with_reducible rfl))); (simp only [seval, push_cast, *]; with_reducible rfl); all_goals (first | (simp only [seval, push_cast, *] <;> fail) | (simp only [seval, push_cast] <;> fail) | (rw [frz_pure rfl] <;> (simp [*] <;> fail))))

theorem nl_c8 (bs : List Nat) (H : Heap) (n : Netl) (a : Nat) (hA : H[a]? = some (.cells (cellsNetl n))) : callw X bs 73 [.ptr a 0] H = some (.tuple [.int .i64 0, .int .i64 (if decide ((n.outs.length : Int) ≤ 12) = true then 0 else 8)], H) := by
  refine call_at (rs := [.tmp 1, .tmp 2]) (N := 8) (fn := Tryz.f73) xk73 xf73 rfl rfl rfl (by simp only [seval, push_cast, List.map_cons, List.map_nil, V.norm, norm1]; rfl) ?_
  simp only [cellsNetl] at hA
  repeat' first
   | apply z1 | apply z2
   | apply z3 | apply z4 | apply z5 | apply z6 | apply z7 | apply z8 | apply z9 | apply z10 | apply z11 | apply z12 | apply z13 | apply z14 | apply z15 | apply z18 | apply z19 | apply z20 | apply z21 | apply z22 | apply z23 | (apply z16; rfl) | (apply z17; decide)
   | ((first | apply z30 | apply z31 | ((first | apply z32 | apply z33); (simp only [seval, push_cast, *] <;> fail))); (simp only [seval, push_cast, *]; with_reducible rfl); try exact of_decide_eq_true rfl)
   | ((first | apply z34 | apply z35); (simp only [seval, push_cast, *] <;> fail); try exact of_decide_eq_true rfl)
   | ((first | (apply z24; (simp only [seval, push_cast, *]; with_reducible rfl)) | (apply z36; (simp only [seval, push_cast, *]; (fail_if_success (show _ = some true)); (fail_if_success (show _ = some false)); with_reducible rfl))); all_goals (intro hc; (try simp only [Bool.not_eq_true', Bool.not_eq_false'] at hc); (try (exact absurd hc Bool.noConfusion)); (first | have hq := dle_true hc | have hq := dlt_true hc | have hq := dle_false hc | have hq := dlt_false hc | skip); (try (exfalso; simp only [decide_eq_true_eq, decide_eq_false_iff_not] at hc; first | omega | (have := hk.out; omega)))))
   | ((first | apply z40 | apply z41 | (apply z42; (simp only [seval, push_cast, *]; with_reducible rfl))); (simp only [seval, push_cast, *]; with_reducible rfl); all_goals (first | (simp only [seval, push_cast, *] <;> fail) | (simp only [seval, push_cast] <;> fail) | (rw [frz_pure rfl] <;> (simp [*] <;> fail))))

theorem nl_c91 (bs : List Nat) (H : Heap) (n : Netl) (i : Int) (o : Outp) (ns : List ByteArray) (a b f m : Nat) (hn : n.nodes.length ≤ 1000000) (hs : o.name.size ≤ 1000000) (hA : H[a]? = some (.cells (cellsNetl n))) (hF : H[f]? = some (.cells [.func 52 [.ptr a 0]])) (hB : H[b]? = some (.cells [.map m])) (hM : H[m]? = some (.map (namesM ns))) : callw X bs 76 [.int .i64 i, encOutp o, .ptr b 0, .ptr f 0] H = some (.int .i64 (firstL [nameErr ns o.name, if isNodeN n o.node = true then 0 else 9]), H.set m (.map (namesM (addName o.name ns)))) := by
  refine call_at (rs := [.tmp 6]) (N := 18) (fn := Tryz.f76) xk76 xf76 rfl rfl rfl (by simp only [seval, push_cast, List.map_cons, List.map_nil, V.norm, norm1]; rfl) ?_
  have hne := fun (bs : List Nat) (l : List HObj) => netlist_namesErr bs (H ++ l) m ns o.name hs (get_app hM l)
  have hset := set_app (List.getElem?_eq_some_iff.1 hM).1
  simp only [hset] at hne
  have hnode := fun bs (y : HObj) (l : Heap) i => nl_isNode bs (H.set m y ++ l) n i a hn (get_app (nh_get hA (nh_ne hA hM)) l)
  have hnode2 := fun bs (l : Heap) i => nl_isNode bs (H ++ l) n i a hn (get_app hA l)
  have hB2 := get_app hB
  have hF2 := get_app hF
  have hF3 := fun y => get_app (nh_get (y := y) hF (nh_ne hF hM))
  have hB3 := fun y => get_app (nh_get (y := y) hB (nh_ne hB hM))
  clear hM hB hA hF
  repeat' first
   | apply z1 | apply z2
   | (apply z51 (id := 1) (ord := [0, 1, 2, 4, 5, 6, 3, 7, 8, 9, 10, 11]) (ps := [(3, 6), (5, 6)]) <;> first | kernel_rfl | skip)
   | apply z52
   | (apply chkK_intro; (repeat ((first | (apply zc1; rfl) | (apply zc2; rfl) | (apply zc3; rfl; exact fun _ _ _ _ => rfl)); rfl; rfl; (first | rfl | (simp only [seval, push_cast, *] <;> fail)))); exact chk_nil)
   | ((first | (apply z54; rfl) | (apply z55; rfl) | ((first | (apply z56; rfl) | (apply z57; rfl)); (simp only [seval, push_cast, *] <;> fail))); (simp only [seval, push_cast, *]; with_reducible rfl); try exact of_decide_eq_true rfl)
   | ((first | (apply z58; rfl) | (apply z59; rfl)); (simp only [seval, push_cast, *] <;> fail); try exact of_decide_eq_true rfl)
   | apply z3 | apply z4 | apply z5 | apply z6 | apply z7 | apply z8 | apply z9 | apply z10 | apply z11 | apply z12 | apply z13 | apply z14 | apply z15 | apply z18 | apply z19 | apply z20 | apply z21 | apply z22 | apply z23 | (apply z16; rfl) | (apply z17; decide)
   | ((first | apply z30 | apply z31 | ((first | apply z32 | apply z33); (simp only [seval, push_cast, *] <;> fail))); (simp only [seval, push_cast, *]; with_reducible rfl); try exact of_decide_eq_true rfl)
   | ((first | apply z34 | apply z35); (simp only [seval, push_cast, *] <;> fail); try exact of_decide_eq_true rfl)
   | ((first | (apply z24; (simp only [seval, push_cast, *]; with_reducible rfl)) | (apply z36; (simp only [seval, push_cast, *]; (fail_if_success (show _ = some true)); (fail_if_success (show _ = some false)); with_reducible rfl)) | (apply z60; rfl; (simp only [seval, push_cast, *]; (fail_if_success (show _ = some true)); (fail_if_success (show _ = some false)); with_reducible rfl))); all_goals (intro hc; (try simp only [Bool.not_eq_true', Bool.not_eq_false'] at hc); (try (exact absurd hc Bool.noConfusion)); (first | have hq := dle_true hc | have hq := dlt_true hc | have hq := dle_false hc | have hq := dlt_false hc | skip); (try (exfalso; simp only [decide_eq_true_eq, decide_eq_false_iff_not] at hc; first | omega | (have := hk.out; omega)))))
   | ((first | apply z40 | apply z41 | (apply z42; (simp only [seval, push_cast, *]; with_reducible rfl))); (simp only [seval, push_cast, *]; with_reducible rfl); all_goals (first | (simp only [seval, push_cast, *] <;> fail) | (simp only [seval, push_cast] <;> fail) | (rw [frz_pure rfl] <;> (simp [*] <;> fail))))

theorem nl_c9 (bs : List Nat) (H : Heap) (n : Netl) (ns : List ByteArray) (a b f m : Nat) (hl : n.outs.length ≤ 1000000) (hn : n.nodes.length ≤ 1000000) (hs : ∀ p ∈ n.outs, p.name.size ≤ 1000000) (hA : H[a]? = some (.cells (cellsNetl n))) (hF : H[f]? = some (.cells [.func 52 [.ptr a 0]])) (hB : H[b]? = some (.cells [.map m])) (hM : H[m]? = some (.map (namesM ns))) : callw X bs 74 [.ptr a 0, .ptr b 0, .ptr f 0] H = some (.tuple [.int .i64 (eachL (outErrS n) 0 n.outs ns).1.1, .int .i64 (eachL (outErrS n) 0 n.outs ns).1.2], H.set m (.map (namesM (eachL (outErrS n) 0 n.outs ns).2))) := by
  refine call_at (rs := [.tmp 3, .tmp 4]) (N := 11) (fn := Tryz.f74) xk74 xf74 rfl rfl rfl (by simp only [seval, push_cast, List.map_cons, List.map_nil, V.norm, norm1]; rfl) ?_
  have he := fun bs => netlist_each_Outp bs H (fun ns => H.set m (.map (namesM ns))) 76 [.ptr b 0, .ptr f 0] (outErrS n) n.outs hl
    (does_names hM fun bs H' i x ns hx hk hm => nl_c91 bs H' n i x ns a b f m hn (hs x (List.mem_of_getElem? hx)) (hk a _ hA (nh_ne hA hM)) (hk f _ hF (nh_ne hF hM)) (hk b _ hB (nh_ne hB hM)) hm) ns [] ⟨by rw [nh_same hM]; simp⟩ (fun _ _ => by simp)
  simp only [cellsNetl] at hA
  simp only [List.append_nil] at he
  clear hM hB hs hF
  repeat' first
   | apply z1 | apply z2
   | apply z3 | apply z4 | apply z5 | apply z6 | apply z7 | apply z8 | apply z9 | apply z10 | apply z11 | apply z12 | apply z13 | apply z14 | apply z15 | apply z18 | apply z19 | apply z20 | apply z21 | apply z22 | apply z23 | (apply z16; rfl) | (apply z17; decide)
   | ((first | apply z30 | apply z31 | ((first | apply z32 | apply z33); (simp only [seval, push_cast, *] <;> fail))); (simp only [seval, push_cast, *]; with_reducible rfl); try exact of_decide_eq_true rfl)
   | ((first | apply z34 | apply z35); (simp only [seval, push_cast, *] <;> fail); try exact of_decide_eq_true rfl)
   | ((first | (apply z24; (simp only [seval, push_cast, *]; with_reducible rfl)) | (apply z36; (simp only [seval, push_cast, *]; (fail_if_success (show _ = some true)); (fail_if_success (show _ = some false)); with_reducible rfl))); all_goals (intro hc; (try simp only [Bool.not_eq_true', Bool.not_eq_false'] at hc); (try (exact absurd hc Bool.noConfusion)); (first | have hq := dle_true hc | have hq := dlt_true hc | have hq := dle_false hc | have hq := dlt_false hc | skip); (try (exfalso; simp only [decide_eq_true_eq, decide_eq_false_iff_not] at hc; first | omega | (have := hk.out; omega)))))
   | ((first | apply z40 | apply z41 | (apply z42; (simp only [seval, push_cast, *]; with_reducible rfl))); (simp only [seval, push_cast, *]; with_reducible rfl); all_goals (first | (simp only [seval, push_cast, *] <;> fail) | (simp only [seval, push_cast] <;> fail) | (rw [frz_pure rfl] <;> (simp [*] <;> fail))))

/-- The heap of CheckNetlist: which names are known. -/
def hCN (n : Netl) (H : Heap) (k1 k2 : List ByteArray) (fs : List V) : Heap :=
  H ++ [.cells (cellsNetl n), .map (namesM k1), .map (namesM k2), .cells [.map (H.length + 1)], .cells [.map (H.length + 2)], .cells [.func 52 [.ptr H.length 0]], .cells fs]
def fsCN (H : Heap) : List V := [.func 54 [.ptr H.length 0], .func 58 [.ptr H.length 0, .ptr (H.length + 3) 0], .func 63 [.ptr H.length 0],
  .func 64 [.ptr H.length 0, .ptr (H.length + 3) 0], .func 68 [.ptr H.length 0], .func 71 [.ptr H.length 0, .ptr (H.length + 5) 0],
  .func 73 [.ptr H.length 0], .func 74 [.ptr H.length 0, .ptr (H.length + 4) 0, .ptr (H.length + 5) 0]]

/-- One round, whatever is called. -/
theorem cn_round (bs : List Nat) (H : Heap) (k fid : Nat) (caps : List V) (H1 H2 : Heap) (fs : List V) (r : Int × Int) (hk : k < 8) (hf : fs[k]? = some (.func fid caps)) (hfl : fs.length = 8)
    (hc : ∀ bs, callw X bs fid caps H1 = some (.tuple [.int .i64 r.1, .int .i64 r.2], H2)) (ρ : Env) (h24 : ρ 24 = .agg fs) (h25 : ρ 25 = .int .i64 k) (Q : Ex → Env → Heap → Prop)
    (hret : ∀ ρ', r.2 ≠ 0 → ρ' 2 = .int .i64 r.1 → ρ' 3 = .int .i64 r.2 → Q .ret ρ' H2) (hnext : ∀ ρ', r.2 = 0 → ρ' 24 = .agg fs → ρ' 25 = .int .i64 ((k + 1 : Nat) : Int) → Q .normal ρ' H2) :
    Ev X ⟨38, bs⟩ (loopAt Tryz.f12 0) ρ H1 Q := by
  have hw := add1 k 8 hk (by omega)
  have hlt : (k : Int) < 8 := by omega
  conv => arg 3; whnf
  repeat' first
   | apply z1 | apply z2
   | apply z3 | apply z4 | apply z5 | apply z6 | apply z7 | apply z8 | apply z9 | apply z10 | apply z11 | apply z12 | apply z13 | apply z14 | apply z15 | apply z18 | apply z19 | apply z20 | apply z21 | apply z22 | apply z23 | (apply z16; rfl) | (apply z17; decide)
   | ((first | apply z30 | apply z31 | ((first | apply z32 | apply z33); (simp only [seval, push_cast, *] <;> fail))); (simp only [seval, push_cast, *]; with_reducible rfl); try exact of_decide_eq_true rfl)
   | ((first | apply z34 | apply z35); (simp only [seval, push_cast, *] <;> fail); try exact of_decide_eq_true rfl)
   | ((first | (apply z24; (simp only [seval, push_cast, *]; with_reducible rfl)) | (apply z36; (simp only [seval, push_cast, *]; (fail_if_success (show _ = some true)); (fail_if_success (show _ = some false)); with_reducible rfl))); all_goals (intro hc; (try simp only [Bool.not_eq_true', Bool.not_eq_false'] at hc); (try (exact absurd hc Bool.noConfusion)); (first | have hq := dle_true hc | have hq := dlt_true hc | have hq := dle_false hc | have hq := dlt_false hc | skip); (try (exfalso; simp only [decide_eq_true_eq, decide_eq_false_iff_not] at hc; first | omega | (have := hk.out; omega)))))
   | ((first | apply z40 | apply z41 | (apply z42; (simp only [seval, push_cast, *]; with_reducible rfl))); (simp only [seval, push_cast, *]; with_reducible rfl); all_goals (first | (simp only [seval, push_cast, *] <;> fail) | (simp only [seval, push_cast] <;> fail) | (rw [frz_pure rfl] <;> (simp [*] <;> fail))))
  · exact hret _ (by simpa using hc) (by (first | (simp only [seval, push_cast, *]; done) | (simp only [seval, push_cast, *]; rfl))) (by (first | (simp only [seval, push_cast, *]; done) | (simp only [seval, push_cast, *]; rfl)))
  · exact hnext _ (by simpa using hc) (by (first | (simp only [seval, push_cast, *]; done) | (simp only [seval, push_cast, *]; rfl))) (by (first | (simp only [seval, push_cast, *]; done) | (simp only [seval, push_cast, *]; rfl)))

section
variable {n : Netl} {H : Heap} {k1 k2 : List ByteArray} {fs : List V}
theorem hCN_a : (hCN n H k1 k2 fs)[H.length]? = some (.cells (cellsNetl n)) := by simp [hCN]
theorem hCN_m1 : (hCN n H k1 k2 fs)[H.length + 1]? = some (.map (namesM k1)) := by simp [hCN]
theorem hCN_m2 : (hCN n H k1 k2 fs)[H.length + 2]? = some (.map (namesM k2)) := by simp [hCN]
theorem hCN_b1 : (hCN n H k1 k2 fs)[H.length + 3]? = some (.cells [.map (H.length + 1)]) := by simp [hCN]
theorem hCN_b2 : (hCN n H k1 k2 fs)[H.length + 4]? = some (.cells [.map (H.length + 2)]) := by simp [hCN]
theorem hCN_f : (hCN n H k1 k2 fs)[H.length + 5]? = some (.cells [.func 52 [.ptr H.length 0]]) := by simp [hCN]
theorem hCN_s1 (x : List ByteArray) : (hCN n H k1 k2 fs).set (H.length + 1) (.map (namesM x)) = hCN n H x k2 fs := by unfold hCN; rw [heap_set]; rfl
theorem hCN_s2 (x : List ByteArray) : (hCN n H k1 k2 fs).set (H.length + 2) (.map (namesM x)) = hCN n H k1 x fs := by unfold hCN; rw [heap_set]; rfl
end

def rsCN (n : Netl) : List (Int × Int) :=
  [(0, firstL [if isNameS n.name = true then 0 else 4, if decide ((n.inputs.length : Int) ≤ 12) = true then 0 else 8]), (eachL portErrS 0 n.inputs []).1,
    (0, if decide ((n.inputs.length : Int) + n.regs.length ≤ 40) = true then 0 else 8), (eachL regErrS 0 n.regs (eachL portErrS 0 n.inputs []).2).1, checkNodesS (leavesN n) n.nodes, eachP (regErr2S n) 0 n.regs,
    (0, if decide ((n.outs.length : Int) ≤ 12) = true then 0 else 8), (eachL (outErrS n) 0 n.outs []).1]
def knCN (n : Netl) (k : Nat) : List ByteArray := [[], [], (eachL portErrS 0 n.inputs []).2, (eachL portErrS 0 n.inputs []).2].getD k (eachL regErrS 0 n.regs (eachL portErrS 0 n.inputs []).2).2
def ouCN (n : Netl) (k : Nat) : List ByteArray := [[], [], [], [], [], [], [], []].getD k (eachL (outErrS n) 0 n.outs []).2

theorem cn_loop (bs : List Nat) (n : Netl) (hS : Small n) (H : Heap) (R : Int × Int) : ∀ k ρ H', k ≤ 8 → (H' = hCN n H (knCN n k) (ouCN n k) (fsCN H) ∧ ρ 24 = .agg (fsCN H) ∧ ρ 25 = .int .i64 k ∧ firstP ((rsCN n).drop k) = R) →
    Lp X ⟨38, bs⟩ (loopAt Tryz.f12 0) ρ H' fun ex ρ' H' => (∃ k1 k2, H' = hCN n H k1 k2 (fsCN H)) ∧ ((ex = .exit 0 ∧ R = (0, 0)) ∨ (ex = .ret ∧ ρ' 2 = .int .i64 R.1 ∧ ρ' 3 = .int .i64 R.2)) := by
  refine loop_up ?_ ?_
  · rintro k ρ H' hk ⟨rfl, h24, h25, hR⟩
    have go : ∀ (fid : Nat) (caps : List V) (r : Int × Int), (fsCN H)[k]? = some (.func fid caps) → (rsCN n)[k]? = some r →
        (∀ bs, callw X bs fid caps (hCN n H (knCN n k) (ouCN n k) (fsCN H)) = some (.tuple [.int .i64 r.1, .int .i64 r.2], hCN n H (knCN n (k + 1)) (ouCN n (k + 1)) (fsCN H))) →
        Ev X ⟨38, bs⟩ (loopAt Tryz.f12 0) ρ (hCN n H (knCN n k) (ouCN n k) (fsCN H)) (roundQ (fun ρ H' => H' = hCN n H (knCN n (k + 1)) (ouCN n (k + 1)) (fsCN H) ∧ ρ 24 = .agg (fsCN H) ∧ ρ 25 = .int .i64 ((k + 1 : Nat) : Int) ∧ firstP ((rsCN n).drop (k + 1)) = R)
          fun ex ρ' H' => (∃ k1 k2, H' = hCN n H k1 k2 (fsCN H)) ∧ ((ex = .exit 0 ∧ R = (0, 0)) ∨ (ex = .ret ∧ ρ' 2 = .int .i64 R.1 ∧ ρ' 3 = .int .i64 R.2))) := by
      intro fid caps r hf hr hc
      rw [drop_cons hr, firstP] at hR
      refine cn_round bs H k fid caps _ _ (fsCN H) r hk hf rfl hc ρ h24 h25 _ (fun ρ' h1 h2 h3 => roundQ_ret.2 ?_) (fun ρ' h1 h2 h3 => roundQ_normal.2 ?_)
      · rw [if_pos h1] at hR
        subst hR
        exact ⟨⟨_, _, rfl⟩, .inr ⟨rfl, h2, h3⟩⟩
      · rw [if_neg (by simpa using h1)] at hR
        exact ⟨rfl, h2, h3, hR⟩
    have hs1 := fun p hp => Nat.le_trans (hS.inn p hp) (by omega : 1000 ≤ 1000000)
    have hs2 := fun p hp => Nat.le_trans (hS.rgn p hp) (by omega : 1000 ≤ 1000000)
    have hs3 := fun p hp => Nat.le_trans (hS.otn p hp) (by omega : 1000 ≤ 1000000)
    have hn0 := hS.name; have hn1 := hS.inputs; have hn2 := hS.regs; have hn3 := hS.nodes; have hn4 := hS.outs
    match k, hk with
    | 0, _ => exact go _ _ _ rfl rfl fun bs => nl_c2 bs _ n _ (by omega) hCN_a
    | 1, _ => exact go _ _ _ rfl rfl fun bs => by have := nl_c3 bs (hCN n H (knCN n 1) (ouCN n 1) (fsCN H)) n (knCN n 1) _ _ _ (by omega) hs1 hCN_a hCN_b1 hCN_m1; rw [hCN_s1] at this; exact this
    | 2, _ => exact go _ _ _ rfl rfl fun bs => nl_c4 bs _ n _ (by omega) (by omega) hCN_a
    | 3, _ => exact go _ _ _ rfl rfl fun bs => by rw [nl_c5 bs _ n _ _ _ _ (by omega) hs2 hCN_a hCN_b1 hCN_m1, hCN_s1]; rfl
    | 4, _ => exact go _ _ _ rfl rfl fun bs => nl_c6 bs _ n _ hS hCN_a
    | 5, _ => exact go _ _ _ rfl rfl fun bs => nl_c7 bs _ n _ _ (by omega) (by omega) hCN_a hCN_f
    | 6, _ => exact go _ _ _ rfl rfl fun bs => nl_c8 bs _ n _ hCN_a
    | 7, _ => exact go _ _ _ rfl rfl fun bs => by have := nl_c9 bs (hCN n H (knCN n 7) (ouCN n 7) (fsCN H)) n (ouCN n 7) _ _ _ _ (by omega) (by omega) hs3 hCN_a hCN_f hCN_b2 hCN_m2; rw [hCN_s2] at this; exact this
  · rintro ρ H' ⟨rfl, h24, h25, hR⟩
    replace hR : (0, 0) = R := hR
    generalize hg : hCN n H (knCN n 8) (ouCN n 8) (fsCN H) = Hx
    conv => arg 3; whnf
    repeat' first
     | apply z1 | apply z2
     | apply z3 | apply z4 | apply z5 | apply z6 | apply z7 | apply z8 | apply z9 | apply z10 | apply z11 | apply z12 | apply z13 | apply z14 | apply z15 | apply z18 | apply z19 | apply z20 | apply z21 | apply z22 | apply z23 | (apply z16; rfl) | (apply z17; decide)
     | ((first | apply z30 | apply z31 | ((first | apply z32 | apply z33); (simp only [seval, push_cast, *] <;> fail))); (simp only [seval, push_cast, *]; with_reducible rfl); try exact of_decide_eq_true rfl)
     | ((first | apply z34 | apply z35); (simp only [seval, push_cast, *] <;> fail); try exact of_decide_eq_true rfl)
     | ((first | (apply z24; (simp only [seval, push_cast, *]; with_reducible rfl)) | (apply z36; (simp only [seval, push_cast, *]; (fail_if_success (show _ = some true)); (fail_if_success (show _ = some false)); with_reducible rfl))); all_goals (intro hc; (try simp only [Bool.not_eq_true', Bool.not_eq_false'] at hc); (try (exact absurd hc Bool.noConfusion)); (first | have hq := dle_true hc | have hq := dlt_true hc | have hq := dle_false hc | have hq := dlt_false hc | skip); (try (exfalso; simp only [decide_eq_true_eq, decide_eq_false_iff_not] at hc; first | omega | (have := hk.out; omega)))))
     | ((first | apply z40 | apply z41 | (apply z42; (simp only [seval, push_cast, *]; with_reducible rfl))); (simp only [seval, push_cast, *]; with_reducible rfl); all_goals (first | (simp only [seval, push_cast, *] <;> fail) | (simp only [seval, push_cast] <;> fail) | (rw [frz_pure rfl] <;> (simp [*] <;> fail))))
    exact ⟨⟨_, _, hg.symm⟩, .inl ⟨rfl, hR.symm⟩⟩

theorem nl_checkNetlist (bs : List Nat) (H : Heap) (n : Netl) (hS : Small n) : callw X bs 12 [encNetl n] H = some (.tuple [.int .i64 (checkNetS n).1, .int .i64 (checkNetS n).2], H) := by
  refine call_at (rs := [.tmp 2, .tmp 3]) (N := 38) (fn := Tryz.f12) xk12 xf12 rfl rfl rfl (by simp only [seval, push_cast, List.map_cons, List.map_nil, V.norm, norm1]; rfl) ?_
  have hloop := fun bs ρ => cn_loop bs n hS H (checkNetS n) 0 ρ
  clear hS
  repeat' first
   | apply z1 | apply z2
   | apply z3 | apply z4 | apply z5 | apply z6 | apply z7 | apply z8 | apply z9 | apply z10 | apply z11 | apply z12 | apply z13 | apply z14 | apply z15 | apply z18 | apply z19 | apply z20 | apply z21 | apply z22 | apply z23 | (apply z16; rfl) | (apply z17; decide)
   | ((first | apply z30 | apply z31 | ((first | apply z32 | apply z33); (simp only [seval, push_cast, *] <;> fail))); (simp only [seval, push_cast, *]; with_reducible rfl); try exact of_decide_eq_true rfl)
   | ((first | apply z34 | apply z35); (simp only [seval, push_cast, *] <;> fail); try exact of_decide_eq_true rfl)
   | ((first | (apply z24; (simp only [seval, push_cast, *]; with_reducible rfl)) | (apply z36; (simp only [seval, push_cast, *]; (fail_if_success (show _ = some true)); (fail_if_success (show _ = some false)); with_reducible rfl))); all_goals (intro hc; (try simp only [Bool.not_eq_true', Bool.not_eq_false'] at hc); (try (exact absurd hc Bool.noConfusion)); (first | have hq := dle_true hc | have hq := dlt_true hc | have hq := dle_false hc | have hq := dlt_false hc | skip); (try (exfalso; simp only [decide_eq_true_eq, decide_eq_false_iff_not] at hc; first | omega | (have := hk.out; omega)))))
   | ((first | apply z40 | apply z41 | (apply z42; (simp only [seval, push_cast, *]; with_reducible rfl))); (simp only [seval, push_cast, *]; with_reducible rfl); all_goals (first | (simp only [seval, push_cast, *] <;> fail) | (simp only [seval, push_cast] <;> fail) | (rw [frz_pure rfl] <;> (simp [*] <;> fail))))
  refine lp_then (lp_any (c := loopAt Tryz.f12 0) rfl (hloop _ _ _ (by omega) ⟨rfl, by (first | (simp only [seval, push_cast, *]; done) | (simp only [seval, push_cast, *]; rfl)), by (first | (simp only [seval, push_cast, *]; done) | (simp only [seval, push_cast, *]; rfl)), rfl⟩)) ?_
  clear hloop
  rintro ex ρ' H' ⟨⟨k1, k2, rfl⟩, ⟨rfl, h2⟩ | ⟨rfl, h2, h3⟩⟩ -
  · rw [h2]
    unfold hCN
    repeat' first
     | apply z1 | apply z2
     | apply z3 | apply z4 | apply z5 | apply z6 | apply z7 | apply z8 | apply z9 | apply z10 | apply z11 | apply z12 | apply z13 | apply z14 | apply z15 | apply z18 | apply z19 | apply z20 | apply z21 | apply z22 | apply z23 | (apply z16; rfl) | (apply z17; decide)
     | ((first | apply z30 | apply z31 | ((first | apply z32 | apply z33); (simp only [seval, push_cast, *] <;> fail))); (simp only [seval, push_cast, *]; with_reducible rfl); try exact of_decide_eq_true rfl)
     | ((first | apply z34 | apply z35); (simp only [seval, push_cast, *] <;> fail); try exact of_decide_eq_true rfl)
     | ((first | (apply z24; (simp only [seval, push_cast, *]; with_reducible rfl)) | (apply z36; (simp only [seval, push_cast, *]; (fail_if_success (show _ = some true)); (fail_if_success (show _ = some false)); with_reducible rfl))); all_goals (intro hc; (try simp only [Bool.not_eq_true', Bool.not_eq_false'] at hc); (try (exact absurd hc Bool.noConfusion)); (first | have hq := dle_true hc | have hq := dlt_true hc | have hq := dle_false hc | have hq := dlt_false hc | skip); (try (exfalso; simp only [decide_eq_true_eq, decide_eq_false_iff_not] at hc; first | omega | (have := hk.out; omega)))))
     | ((first | apply z40 | apply z41 | (apply z42; (simp only [seval, push_cast, *]; with_reducible rfl))); (simp only [seval, push_cast, *]; with_reducible rfl); all_goals (first | (simp only [seval, push_cast, *] <;> fail) | (simp only [seval, push_cast] <;> fail) | (rw [frz_pure rfl] <;> (simp [*] <;> fail))))
  · unfold hCN
    repeat' first
     | apply z1 | apply z2
     | apply z3 | apply z4 | apply z5 | apply z6 | apply z7 | apply z8 | apply z9 | apply z10 | apply z11 | apply z12 | apply z13 | apply z14 | apply z15 | apply z18 | apply z19 | apply z20 | apply z21 | apply z22 | apply z23 | (apply z16; rfl) | (apply z17; decide)
     | ((first | apply z30 | apply z31 | ((first | apply z32 | apply z33); (simp only [seval, push_cast, *] <;> fail))); (simp only [seval, push_cast, *]; with_reducible rfl); try exact of_decide_eq_true rfl)
     | ((first | apply z34 | apply z35); (simp only [seval, push_cast, *] <;> fail); try exact of_decide_eq_true rfl)
     | ((first | (apply z24; (simp only [seval, push_cast, *]; with_reducible rfl)) | (apply z36; (simp only [seval, push_cast, *]; (fail_if_success (show _ = some true)); (fail_if_success (show _ = some false)); with_reducible rfl))); all_goals (intro hc; (try simp only [Bool.not_eq_true', Bool.not_eq_false'] at hc); (try (exact absurd hc Bool.noConfusion)); (first | have hq := dle_true hc | have hq := dlt_true hc | have hq := dle_false hc | have hq := dlt_false hc | skip); (try (exfalso; simp only [decide_eq_true_eq, decide_eq_false_iff_not] at hc; first | omega | (have := hk.out; omega)))))
     | ((first | apply z40 | apply z41 | (apply z42; (simp only [seval, push_cast, *]; with_reducible rfl))); (simp only [seval, push_cast, *]; with_reducible rfl); all_goals (first | (simp only [seval, push_cast, *] <;> fail) | (simp only [seval, push_cast] <;> fail) | (rw [frz_pure rfl] <;> (simp [*] <;> fail))))

end Go.E
