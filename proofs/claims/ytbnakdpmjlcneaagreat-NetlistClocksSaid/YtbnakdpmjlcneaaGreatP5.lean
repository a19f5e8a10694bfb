/- Contracts of the package graph, in E: checks of nodes. Own work. -/
import Derived.Test.YtbnakdpmjlcneaaGreatP4
set_option linter.all false
namespace Go.E
open Go.Proofs
set_option maxRecDepth 100000
set_option maxHeartbeats 4000000
attribute [push_cast] buildV placeF placeA placeCells List.foldl_cons List.foldl_nil

/-- What an operation computes: the function, as the program has it, and what it has caught. -/
def runF (k : Nat) : Nat := [167, 167, 170, 231, 231, 231, 231, 231, 231, 233, 233, 233,
  185, 187, 189, 191, 192, 194, 195].getD k 0
def runC (k : Nat) : List V := [[], [], [],
  [.eptr [.func 173 []] 0], [.eptr [.func 174 []] 0], [.eptr [.func 175 []] 0], [.eptr [.func 176 []] 0], [.eptr [.func 177 []] 0], [.eptr [.func 178 []] 0],
  [.eptr [.func 180 []] 0], [.eptr [.func 181 []] 0], [.eptr [.func 182 []] 0]].getD k []
theorem runC_pure (k : Nat) : V.pureL (runC k) = true := by
  match k with
  | 0 | 1 | 2 | 3 | 4 | 5 | 6 | 7 | 8 | 9 | 10 | 11 => rfl
  | k + 12 => rfl
attribute [push_cast] runC_pure
def opName (k : Nat) : ByteArray := ([⟨#[99, 111, 110, 115, 116]⟩, ⟨#[108, 101, 97, 102]⟩, ⟨#[110, 111, 116]⟩, ⟨#[97, 110, 100]⟩, ⟨#[111, 114]⟩, ⟨#[120, 111, 114]⟩, ⟨#[97, 100, 100]⟩, ⟨#[115, 117, 98]⟩, ⟨#[109, 117, 108]⟩, ⟨#[101, 113]⟩, ⟨#[108, 116]⟩, ⟨#[115, 108, 116]⟩,
  ⟨#[109, 117, 120]⟩, ⟨#[106, 111, 105, 110]⟩, ⟨#[115, 108, 105, 99, 101]⟩, ⟨#[122, 101, 120, 116]⟩, ⟨#[115, 101, 120, 116]⟩, ⟨#[115, 104, 108]⟩, ⟨#[115, 104, 114]⟩] : List ByteArray).getD k ⟨#[]⟩
def opCells (k : Nat) : List V := [.str (opName k), .int .i64 (argC k : Nat), .bool (hasV k), .func (fitsF k) [], .func (runF k) (runC k)]
def opsAll : List V := (List.range 19).flatMap opCells
theorem opsAll_at : ∀ k, k < 19 → (opsAll.drop (k * 5)).take 5 = opCells k := by
  intro k hk
  match k, hk with
  | 0, _ | 1, _ | 2, _ | 3, _ | 4, _ | 5, _ | 6, _ | 7, _ | 8, _ | 9, _ | 10, _ | 11, _ | 12, _ | 13, _ | 14, _ | 15, _ | 16, _ | 17, _ | 18, _ => rfl
  | k + 19, hk => omega
theorem opsAll_len : opsAll.length = 95 := rfl
theorem opsAll_pure : V.pureL opsAll = true := by kernel_rfl
theorem opsAll_cell : opsAll.all V.isCell = true := by kernel_rfl

theorem gr_binary (bs : List Nat) (H : Heap) (s : ByteArray) (f : Nat) : callw X bs 172 [.str s, .func f []] H = some (.agg [.str s, .int .i64 2, .bool false, .func 169 [], .func 231 [.eptr [.func f []] 0]], H) := by
  refine call_at (rs := [.cell 4 182]) (N := 8) (fn := Tryz.f172) xk172 xf172 rfl rfl rfl (by simp only [seval, push_cast, List.map_cons, List.map_nil, V.norm, norm1]; rfl) ?_
  all_goals try (refine zs ?_; repeat' first | apply zs0 | apply zs2 | (intro hc; try have hq := dq hc))
attribute [push_cast] gr_binary

theorem gr_relation (bs : List Nat) (H : Heap) (s : ByteArray) (f : Nat) : callw X bs 179 [.str s, .func f []] H = some (.agg [.str s, .int .i64 2, .bool false, .func 232 [], .func 233 [.eptr [.func f []] 0]], H) := by
  refine call_at (rs := [.cell 4 182]) (N := 8) (fn := Tryz.f179) xk179 xf179 rfl rfl rfl (by simp only [seval, push_cast, List.map_cons, List.map_nil, V.norm, norm1]; rfl) ?_
  all_goals try (refine zs ?_; repeat' first | apply zs0 | apply zs2 | (intro hc; try have hq := dq hc))
attribute [push_cast] gr_relation

theorem gr_operations (bs : List Nat) (H : Heap)  : callw X bs 137 [] H = some (.agg opsAll, H) := by
  refine call_at (rs := [.cell 0 183]) (N := 24) (fn := Tryz.f137) xk137 xf137 rfl rfl rfl (by simp only [seval, push_cast, List.map_cons, List.map_nil, V.norm, norm1]; rfl) ?_
  all_goals try (refine zs ?_; repeat' first | apply zs0 | apply zs2 | (intro hc; try have hq := dq hc))
  apply leaf1
  · simp
  · (simp only [seval, push_cast, *] <;> rfl)
  · exact frz_pure (v := .agg opsAll) opsAll_pure
  · simp only [seval, push_cast]
attribute [push_cast] gr_operations

theorem nat0 (k : Nat) (n : Nat) (h : k ≠ n) : decide ((k : Int) = (n : Int)) = false := decide_eq_false (fun e => h (by omega))
theorem sub1 (n : Nat) (hn : n ≤ 1000000) : IntKind.i64.wrap ((n : Int) - 1) = (n : Int) - 1 := by rw [wrap64] <;> omega
theorem gr_valueErr (bs : List Nat) (H : Heap) (leaves : List Int) (x : Node) (k : Nat) (hk : x.op = (k : Int)) (hl : leaves.length ≤ 1000000) : callw X bs 144 [.list (leaves.map (.int .i64)), encNode x, .agg (opCells k)] H = some (.int .i64 (valueErrS leaves k x), H) := by
  refine call_at (rs := [.tmp 6]) (N := 49) (fn := Tryz.f144) xk144 xf144 rfl rfl rfl (by simp only [seval, push_cast, List.map_cons, List.map_nil, V.norm, norm1]; rfl) ?_
  simp only [opCells]
  by_cases h0 : k = 0
  · subst h0
    simp only [valueErrS, if_true]
    repeat' first
     | (apply z50 (id := 7) (ord := [0, 1, 2, 3, 4, 5, 6, 7, 8, 9]) <;> first | kernel_rfl | skip)
     | (refine zs ?_; repeat' first | apply zs0 | apply zs2 | (intro hc; try have hq := dq hc)) | fail
  have d0 : decide ((k : Int) = 0) = false := nat0 k 0 h0
  by_cases h1 : k = 1
  · subst h1
    have hw := sub1 leaves.length hl
    simp only [valueErrS, if_true, if_neg h0]
    by_cases hv : 0 ≤ x.value ∧ x.value < leaves.length
    · obtain ⟨v, hvv⟩ : ∃ v : Nat, x.value = v := ⟨x.value.toNat, by omega⟩
      have hlt : v < leaves.length := by omega
      have hget : leaves[v]? = some leaves[v] := by simp [hlt]
      have hat : at0 leaves v = leaves[v] := by simp [at0, List.getD, hget]
      rw [if_pos hv, hvv, Int.toNat_natCast, hat]
      have hb : (decide (0 ≤ (v : Int)) && decide ((v : Int) ≤ (leaves.length : Int) - 1)) = true := by rw [Bool.and_eq_true, decide_eq_true_eq, decide_eq_true_eq]; omega
      clear hv hat
      generalize leaves[v] = y at hget
      repeat' first
       | (apply z50 (id := 7) (ord := [0, 1, 2, 3, 4, 5, 6, 7, 8, 9]) <;> first | kernel_rfl | skip)
       | (refine zs ?_; repeat' first | apply zs0 | apply zs2 | (intro hc; try have hq := dq hc)) | fail
    · have hb : (decide (0 ≤ x.value) && decide (x.value ≤ (leaves.length : Int) - 1)) = false := by
        rw [Bool.and_eq_false_iff, decide_eq_false_iff_not, decide_eq_false_iff_not]; omega
      rw [if_neg hv]
      clear hv
      repeat' first
       | (apply z50 (id := 7) (ord := [0, 1, 2, 3, 4, 5, 6, 7, 8, 9]) <;> first | kernel_rfl | skip)
       | (refine zs ?_; repeat' first | apply zs0 | apply zs2 | (intro hc; try have hq := dq hc)) | fail
  have d1 : decide ((k : Int) = 1) = false := nat0 k 1 h1
  by_cases h2 : k = 14
  · subst h2
    simp only [valueErrS, if_true, if_neg h0, if_neg h1]
    repeat' first
     | (apply z50 (id := 7) (ord := [0, 1, 2, 3, 4, 5, 6, 7, 8, 9]) <;> first | kernel_rfl | skip)
     | (refine zs ?_; repeat' first | apply zs0 | apply zs2 | (intro hc; try have hq := dq hc)) | fail
  have d2 : decide ((k : Int) = 14) = false := nat0 k 14 h2
  simp only [valueErrS, if_neg h0, if_neg h1, if_neg h2]
  clear h0 h1 h2
  cases hv : hasV k
  · repeat' first
     | (apply z50 (id := 7) (ord := [0, 1, 2, 3, 4, 5, 6, 7, 8, 9]) <;> first | kernel_rfl | skip)
     | (refine zs ?_; repeat' first | apply zs0 | apply zs2 | (intro hc; try have hq := dq hc)) | fail
  · repeat' first
     | (apply z50 (id := 7) (ord := [0, 1, 2, 3, 4, 5, 6, 7, 8, 9]) <;> first | kernel_rfl | skip)
     | (refine zs ?_; repeat' first | apply zs0 | apply zs2 | (intro hc; try have hq := dq hc)) | fail

end Go.E
/- Contracts of the package graph, in E: CheckNodes. Own work. -/
namespace Go.E
open Go.Proofs
set_option maxRecDepth 100000
set_option maxHeartbeats 4000000

theorem gr_check1 (bs : List Nat) (H : Heap) (i : Int) (n : Int) : callw X bs 134 [.int .i64 i, .int .i64 n] H = some (.int .i64 (if isW n = true then 0 else 2), H) := by
  refine call_at (rs := [.tmp 4]) (N := 8) (fn := Tryz.f134) xk134 xf134 rfl rfl rfl (by simp only [seval, push_cast, List.map_cons, List.map_nil, V.norm, norm1]; rfl) ?_
  simp only [isW]
  all_goals try (refine zs ?_; repeat' first | apply zs0 | apply zs2 | (intro hc; try have hq := dq hc))
attribute [push_cast] gr_check1

theorem gr_odd (bs : List Nat) (H : Heap) (n : Int) (i : Nat) (id : Nat) (hi : i ≤ 1000000) (hH : H[id]? = some (.cells [.int .i64 i])) : callw X bs 143 [.int .i64 n, .ptr id 0] H = some (.bool (!(decide (0 ≤ n) && decide (n ≤ (i : Int) - 1))), H) := by
  refine call_at (rs := [.tmp 3]) (N := 9) (fn := Tryz.f143) xk143 xf143 rfl rfl rfl (by simp only [seval, push_cast, List.map_cons, List.map_nil, V.norm, norm1]; rfl) ?_
  have hw := sub1 i hi
  all_goals try (refine zs ?_; repeat' first | apply zs0 | apply zs2 | (intro hc; try have hq := dq hc))
attribute [push_cast] gr_odd

theorem widthsOf_snoc (nodes : List Node) (a : List Int) (n : Int) (y : Node) (h : nodes[n.toNat]? = some y) : widthsOf nodes (a ++ [n]) = widthsOf nodes a ++ [y.width] := by simp [widthsOf, h]
/-- The loop that collects widths. -/
theorem gr_widths (bs : List Nat) (H : Heap) (ci cx co : HObj) (nodes : List Node) (args : List Int) (c : Nat) (hl : args.length ≤ 1000000) (hargs : ∀ n ∈ args, 0 ≤ n ∧ n < nodes.length) (hC : H[c]? = some (.cells [.list (nodes.map encNode)])) :
    ∀ i ρ H', i ≤ args.length → (∃ ws, ws = widthsOf nodes (args.take i) ∧ H' = H ++ [ci, cx, co, .tok ws.length] ∧ ρ 4 = .ptr c 0 ∧ ρ 12 = .tl (H.length + 3) (ws.map (.int .i64)) ∧ ρ 56 = .list (args.map (.int .i64)) ∧ ρ 57 = .int .i64 args.length ∧ ρ 58 = .int .i64 i) →
      Lp X ⟨80, bs⟩ (loopAt Tryz.f139 0) ρ H' fun ex ρ' H' => H' = H ++ [ci, cx, co, .tok args.length] ∧ ex = .exit 0 ∧ ρ' 12 = .tl (H.length + 3) ((widthsOf nodes args).map (.int .i64)) := by
  have hC2 := get_app hC
  clear hC
  refine loop_up ?_ ?_
  · rintro i ρ H' hi ⟨ws, hws, rfl, h4, h12, h56, h57, h58⟩
    have hget : args[i]? = some args[i] := by simp [hi]
    have hm := hargs args[i] (List.getElem_mem hi)
    have htk : args.take (i + 1) = args.take i ++ [args[i]] := by rw [List.take_add_one, hget]; rfl
    generalize args[i] = n at hget hm htk
    obtain ⟨m, rfl⟩ : ∃ m : Nat, n = m := ⟨n.toNat, by omega⟩
    have hlt : m < nodes.length := by omega
    have hget2 : nodes[m]? = some nodes[m] := by simp [hlt]
    have hsn := widthsOf_snoc nodes (args.take i) m nodes[m] (by simp)
    generalize nodes[m] = y at hget2 hsn
    have hlen : ws.length = i := by rw [hws]; simp [widthsOf]; omega
    have hroom := room8 ws.length (by omega)
    have hw := add1 i args.length hi hl
    rw [← hws, ← htk] at hsn
    replace hws : Kp (ws = widthsOf nodes (args.take i)) := ⟨hws⟩
    replace hsn : Kp (widthsOf nodes (args.take (i + 1)) = ws ++ [y.width]) := ⟨hsn⟩
    replace hlen : Kp (ws.length = i) := ⟨hlen⟩
    clear htk hm
    conv => arg 3; whnf
    all_goals try (refine zs ?_; repeat' first | apply zs0 | apply zs2 | (intro hc; try have hq := dq hc))
    exact ⟨ws ++ [y.width], hsn.out.symm, by simp, by (simp only [seval, push_cast, *] <;> rfl), by simp [push_cast], by (simp only [seval, push_cast, *] <;> rfl), by (simp only [seval, push_cast, *] <;> rfl), by (simp only [seval, push_cast, *] <;> rfl)⟩
  · rintro ρ H' ⟨ws, hws, rfl, h4, h12, h56, h57, h58⟩
    rw [List.take_length] at hws
    have hlen : ws.length = args.length := by rw [hws]; simp [widthsOf]
    replace hws : Kp (ws = widthsOf nodes args) := ⟨hws⟩
    replace hlen : Kp (ws.length = args.length) := ⟨hlen⟩
    conv => arg 3; whnf
    all_goals try (refine zs ?_; repeat' first | apply zs0 | apply zs2 | (intro hc; try have hq := dq hc))
    exact ⟨by rw [hlen.out], rfl, by rw [← hws.out]; (simp only [seval, push_cast, *] <;> rfl)⟩

theorem argC_le (k : Nat) : argC k ≤ 3 := by
  match k with
  | 0 | 1 | 2 | 3 | 4 | 5 | 6 | 7 | 8 | 9 | 10 | 11 | 12 | 13 | 14 | 15 | 16 | 17 | 18 => decide
  | k + 19 => exact Nat.zero_le _
theorem gr_node (bs : List Nat) (H : Heap) (leaves : List Int) (nodes : List Node) (i : Nat) (x : Node) (a b c : Nat) (hi : i ≤ nodes.length) (hn : nodes.length ≤ 1000000) (hl : leaves.length ≤ 1000000) (hal : x.args.length ≤ 1000000) (hA : H[a]? = some (.cells opsAll)) (hB : H[b]? = some (.cells [.list (leaves.map (.int .i64))])) (hC : H[c]? = some (.cells [.list (nodes.map encNode)])) : callw X bs 139 [.int .i64 i, encNode x, .ptr a 0, .ptr b 0, .ptr c 0] H = some (.int .i64 (nodeErrS leaves nodes i x), H) := by
  refine call_at (rs := [.tmp 7]) (N := 80) (fn := Tryz.f139) xk139 xf139 rfl rfl rfl (by simp only [seval, push_cast, List.map_cons, List.map_nil, V.norm, norm1]; rfl) ?_
  have hA2 := get_app hA
  have hB2 := get_app hB
  have hC2 := get_app hC
  unfold nodeErrS
  by_cases hop : 0 ≤ x.op ∧ x.op ≤ 18
  case neg =>
    have hb : (decide (0 ≤ x.op) && decide (x.op ≤ 18)) = false := by rw [Bool.and_eq_false_iff, decide_eq_false_iff_not, decide_eq_false_iff_not]; omega
    rw [if_pos hop]
    clear hop hC hC2
    repeat' first
     | (apply z51 (id := 1) (ord := [0, 1, 4, 5, 2, 3, 6, 7, 8, 9, 10]) (ps := [(3, 4), (3, 5)]) <;> first | kernel_rfl | skip)
     | (apply z51 (id := 6) (ord := [0, 1, 2, 3, 4, 5, 7, 8, 10, 11, 12, 6, 9, 13, 14, 15, 16]) (ps := [(8, 11), (8, 12), (9, 11), (9, 12), (10, 11), (10, 12)]) <;> first | kernel_rfl | skip)
     | (refine zs ?_; repeat' first | apply zs0 | apply zs2 | (intro hc; try have hq := dq hc)) | fail
  rw [if_neg (by simpa using hop)]
  obtain ⟨k, hk⟩ : ∃ k : Nat, x.op = k := ⟨x.op.toNat, by omega⟩
  have hk19 : k < 19 := by omega
  have hk18 : (k : Int) ≤ 18 := by omega
  rw [hk, Int.toNat_natCast]
  cases hw : isW x.width with
  | false =>
    rw [if_pos rfl]
    unfold isW at hw
    clear hop hC hC2
    repeat' first
     | (apply z51 (id := 1) (ord := [0, 1, 4, 5, 2, 3, 6, 7, 8, 9, 10]) (ps := [(3, 4), (3, 5)]) <;> first | kernel_rfl | skip)
     | (apply z51 (id := 6) (ord := [0, 1, 2, 3, 4, 5, 7, 8, 10, 11, 12, 6, 9, 13, 14, 15, 16]) (ps := [(8, 11), (8, 12), (9, 11), (9, 12), (10, 11), (10, 12)]) <;> first | kernel_rfl | skip)
     | (refine zs ?_; repeat' first | apply zs0 | apply zs2 | (intro hc; try have hq := dq hc)) | fail
  | true =>
  rw [if_neg (by simp)]
  unfold isW at hw
  have h95 : k * 5 + 5 ≤ 95 := by omega
  have hat := opsAll_at k hk19
  have hodd := fun (bs : List Nat) (l : List HObj) => containsFunc_int bs (H ++ .cells [.int .i64 i] :: l) x.args 143 [.ptr H.length 0] (fun n => !(decide (0 ≤ n) && decide (n ≤ (i : Int) - 1))) hal (fun bs n _ => gr_odd bs _ n i H.length (by omega) (by simp))
  have hve := fun (bs : List Nat) (H : Heap) => gr_valueErr bs H leaves x k hk hl
  simp only [encNode, encInts, hk] at hve
  simp only [opCells] at hat hve
  have hlen95 := opsAll_len
  by_cases hlen : x.args.length = argC k
  case neg =>
    have dl : decide ((x.args.length : Int) = ((argC k : Nat) : Int)) = false := decide_eq_false (by omega)
    rw [if_pos hlen]
    clear hop hC hC2 hlen
    repeat' first
     | (apply z51 (id := 1) (ord := [0, 1, 4, 5, 2, 3, 6, 7, 8, 9, 10]) (ps := [(3, 4), (3, 5)]) <;> first | kernel_rfl | skip)
     | (apply z51 (id := 6) (ord := [0, 1, 2, 3, 4, 5, 7, 8, 10, 11, 12, 6, 9, 13, 14, 15, 16]) (ps := [(8, 11), (8, 12), (9, 11), (9, 12), (10, 11), (10, 12)]) <;> first | kernel_rfl | skip)
     | (refine zs ?_; repeat' first | apply zs0 | apply zs2 | (intro hc; try have hq := dq hc)) | fail
  rw [if_neg (by simpa using hlen)]
  have dl : decide ((x.args.length : Int) = ((argC k : Nat) : Int)) = true := decide_eq_true (by omega)
  cases ho : x.args.any (fun n => !(decide (0 ≤ n) && decide (n ≤ (i : Int) - 1))) with
  | true =>
    rw [if_pos rfl]
    clear hop hC hC2 hlen
    repeat' first
     | (apply z51 (id := 1) (ord := [0, 1, 4, 5, 2, 3, 6, 7, 8, 9, 10]) (ps := [(3, 4), (3, 5)]) <;> first | kernel_rfl | skip)
     | (apply z51 (id := 6) (ord := [0, 1, 2, 3, 4, 5, 7, 8, 10, 11, 12, 6, 9, 13, 14, 15, 16]) (ps := [(8, 11), (8, 12), (9, 11), (9, 12), (10, 11), (10, 12)]) <;> first | kernel_rfl | skip)
     | (refine zs ?_; repeat' first | apply zs0 | apply zs2 | (intro hc; try have hq := dq hc)) | fail
  | false =>
  rw [if_neg (by simp)]
  by_cases hv : valueErrS leaves k x = 0
  case neg =>
    have dv : decide (valueErrS leaves k x = 0) = false := decide_eq_false hv
    rw [if_pos hv]
    clear hop hC hC2 hlen
    repeat' first
     | (apply z51 (id := 1) (ord := [0, 1, 4, 5, 2, 3, 6, 7, 8, 9, 10]) (ps := [(3, 4), (3, 5)]) <;> first | kernel_rfl | skip)
     | (apply z51 (id := 6) (ord := [0, 1, 2, 3, 4, 5, 7, 8, 10, 11, 12, 6, 9, 13, 14, 15, 16]) (ps := [(8, 11), (8, 12), (9, 11), (9, 12), (10, 11), (10, 12)]) <;> first | kernel_rfl | skip)
     | (refine zs ?_; repeat' first | apply zs0 | apply zs2 | (intro hc; try have hq := dq hc)) | fail
  rw [if_neg (by simpa using hv)]
  have hargs : ∀ n ∈ x.args, 0 ≤ n ∧ n < nodes.length := fun n hnm => by
    rw [List.any_eq_false] at ho
    have := ho n hnm
    simp only [Bool.not_eq_true', Bool.and_eq_false_iff, decide_eq_false_iff_not, not_or, Decidable.not_not] at this
    omega
  have hfit := fun (bs : List Nat) (H : Heap) => fits_call bs H k hk19 x.width x.value (widthsOf nodes x.args) (by simpa [widthsOf] using hlen)
  have hloop := fun (bs : List Nat) (ci cx co : HObj) (ρ : Env) => gr_widths bs H ci cx co nodes x.args c hal hargs hC 0 ρ
  clear hop hC hlen
  clear hargs
  repeat' first
   | (apply z51 (id := 1) (ord := [0, 1, 4, 5, 2, 3, 6, 7, 8, 9, 10]) (ps := [(3, 4), (3, 5)]) <;> first | kernel_rfl | skip)
   | (apply z51 (id := 6) (ord := [0, 1, 2, 3, 4, 5, 7, 8, 10, 11, 12, 6, 9, 13, 14, 15, 16]) (ps := [(8, 11), (8, 12), (9, 11), (9, 12), (10, 11), (10, 12)]) <;> first | kernel_rfl | skip)
   | (refine zs ?_; repeat' first | apply zs0 | apply zs2 | (intro hc; try have hq := dq hc)) | fail
  refine lp_then (lp_any (c := loopAt Tryz.f139 0) rfl (hloop _ _ _ _ _ _ (by omega) ⟨[], rfl, rfl, by (simp only [seval, push_cast, *] <;> rfl), by (simp only [seval, push_cast, *] <;> rfl), by (simp only [seval, push_cast, *] <;> rfl), by (simp only [seval, push_cast, *] <;> rfl), by (simp only [seval, push_cast, *] <;> rfl)⟩)) ?_
  rintro ex ρ' H' ⟨rfl, rfl, h12⟩ hf
  have f9 := hf 9 rfl
  have f6 := hf 6 rfl
  simp only [seval, push_cast] at f9 f6
  clear hloop
  repeat' first
   | (apply z51 (id := 1) (ord := [0, 1, 4, 5, 2, 3, 6, 7, 8, 9, 10]) (ps := [(3, 4), (3, 5)]) <;> first | kernel_rfl | skip)
   | (apply z51 (id := 6) (ord := [0, 1, 2, 3, 4, 5, 7, 8, 10, 11, 12, 6, 9, 13, 14, 15, 16]) (ps := [(8, 11), (8, 12), (9, 11), (9, 12), (10, 11), (10, 12)]) <;> first | kernel_rfl | skip)
   | (refine zs ?_; repeat' first | apply zs0 | apply zs2 | (intro hc; try have hq := dq hc)) | fail

theorem gr_checkNodes (bs : List Nat) (H : Heap) (leaves : List Int) (nodes : List Node) (hl : leaves.length ≤ 1000000) (hn : nodes.length ≤ 1000000) (hal : ∀ x ∈ nodes, x.args.length ≤ 1000000) : callw X bs 69 [.list (leaves.map (.int .i64)), .list (nodes.map encNode)] H = some (.tuple [.int .i64 (checkNodesS leaves nodes).1, .int .i64 (checkNodesS leaves nodes).2], H) := by
  refine call_at (rs := [.tmp 4, .tmp 5]) (N := 30) (fn := Tryz.f69) xk69 xf69 rfl rfl rfl (by simp only [seval, push_cast, List.map_cons, List.map_nil, V.norm, norm1]; rfl) ?_
  unfold checkNodesS
  by_cases h40 : 40 < leaves.length
  case pos =>
    rw [if_pos h40]
    have d : decide ((40 : Int) < leaves.length) = true := decide_eq_true (by omega)
    clear hal
    all_goals try (refine zs ?_; repeat' first | apply zs0 | apply zs2 | (intro hc; try have hq := dq hc))
  have d : decide ((40 : Int) < leaves.length) = false := decide_eq_false (by omega)
  rw [if_neg h40]
  have he1 := fun (bs : List Nat) (H : Heap) => graph_each_Int_p bs H 134 [] (fun _ n => if isW n = true then (0 : Int) else 2) leaves hl (fun bs i x junk _ => gr_check1 bs _ i x)
  simp only [show encInt = V.int .i64 from rfl] at he1
  by_cases hr : (eachP (fun _ n => if isW n = true then (0 : Int) else 2) 0 leaves).2 = 0
  case neg =>
    rw [if_pos hr]
    generalize eachP (fun _ n => if isW n = true then (0 : Int) else 2) 0 leaves = r at he1 hr
    clear hal h40
    all_goals try (refine zs ?_; repeat' first | apply zs0 | apply zs2 | (intro hc; try have hq := dq hc))
  rw [if_neg (by simpa using hr)]
  by_cases h400 : 400 < nodes.length
  case pos =>
    rw [if_pos h400]
    have d : decide ((400 : Int) < nodes.length) = true := decide_eq_true (by omega)
    clear hal h40 h400
    all_goals try (refine zs ?_; repeat' first | apply zs0 | apply zs2 | (intro hc; try have hq := dq hc))
  rw [if_neg h400]
  have d : decide ((400 : Int) < nodes.length) = false := decide_eq_false (by omega)
  have he2 := fun (bs : List Nat) => graph_each_Node_p bs (H ++ [.cells [.list (leaves.map (.int .i64))], .cells [.list (nodes.map encNode)], .cells opsAll]) 139 [.ptr (H.length + 2) 0, .ptr H.length 0, .ptr (H.length + 1) 0] (nodeErrS leaves nodes) nodes hn
    (fun bs i x junk hx => gr_node bs _ leaves nodes i x _ _ _ (by have := (List.getElem?_eq_some_iff.1 hx).1; omega) hn hl (hal x (List.mem_of_getElem? hx)) (get_app (by simp) _) (get_app (by simp) _) (get_app (by simp) _))
  have hp := opsAll_pure
  have hlen := opsAll_len
  have hc := opsAll_cell
  clear hal h40 h400
  all_goals try (refine zs ?_; repeat' first | apply zs0 | apply zs2 | (intro hc; try have hq := dq hc))

end Go.E
/- Contracts of the package netlist, in E: what is asked of netlists. Own work. -/
namespace Go.E
open Go.Proofs
set_option maxRecDepth 100000
set_option maxHeartbeats 4000000

theorem nl_fits (bs : List Nat) (H : Heap) (n width : Int) (hw : 0 ≤ width) : callw X bs 67 [.int .i64 n, .int .i64 width] H = some (.bool (fitsN n width), H) := by
  refine call_at (rs := [.tmp 4]) (N := 10) (fn := Tryz.f67) xk67 xf67 rfl rfl rfl (by simp only [seval, push_cast, List.map_cons, List.map_nil, V.norm, norm1]; rfl) ?_
  have hs : IntKind.i64.wrap (1 * 2 ^ (min width.toNat IntKind.i64.bits)) = shl1 width := rfl
  unfold fitsN
  all_goals try (refine zs ?_; repeat' first | apply zs0 | apply zs2 | (intro hc; try have hq := dq hc))

theorem nl_leaves (bs : List Nat) (H : Heap) (n : Netl) (hi : n.inputs.length ≤ 1000) (hr : n.regs.length ≤ 1000) : callw X bs 70 [encNetl n] H = some (.list ((leavesN n).map (.int .i64)), H) := by
  refine call_at (rs := [.tmp 2]) (N := 35) (fn := Tryz.f70) xk70 xf70 rfl rfl rfl (by simp only [seval, push_cast, List.map_cons, List.map_nil, V.norm, norm1]; rfl) ?_
  have key : ∀ (c t : HObj) (bs : List Nat) i ρ H', i ≤ n.inputs.length → (∃ ws junk, ws = (n.inputs.take i).map (·.width) ∧ H' = H ++ c :: t :: .tok ws.length :: junk ∧ ρ 3 = .tl (H.length + 2) (ws.map (.int .i64)) ∧ ρ 9 = .list (n.inputs.map encPort) ∧ ρ 10 = .int .i64 n.inputs.length ∧ ρ 11 = .int .i64 i) →
      Lp X ⟨35, bs⟩ (loopAt Tryz.f70 0) ρ H' fun ex ρ' H' => ∃ ws junk, ws = n.inputs.map (·.width) ∧ H' = H ++ c :: t :: .tok ws.length :: junk ∧ ρ' 3 = .tl (H.length + 2) (ws.map (.int .i64)) ∧ ex = .exit 0 := by
    intro c t bs
    refine loop_up ?_ ?_
    · rintro i ρ H' hlt ⟨ws, junk, hws, rfl, h3, h9, h10, h11⟩
      have hget : n.inputs[i]? = some n.inputs[i] := by simp [hlt]
      have htk : n.inputs.take (i + 1) = n.inputs.take i ++ [n.inputs[i]] := by rw [List.take_add_one, hget]; rfl
      generalize n.inputs[i] = p at hget htk
      have hlen : ws.length = i := by rw [hws]; simp; omega
      have hroom := room8 ws.length (by omega)
      have hw := add1 i n.inputs.length hlt (by omega)
      have hsn : Kp ((n.inputs.take (i + 1)).map (·.width) = ws ++ [p.width]) := ⟨by rw [htk, hws]; simp⟩
      clear hws hlen htk
      conv => arg 3; whnf
      all_goals try (refine zs ?_; repeat' first | apply zs0 | apply zs2 | (intro hc; try have hq := dq hc))
      exact ⟨ws ++ [p.width], _, hsn.out.symm, by simp only [List.length_append, List.length_singleton]; rfl, by simp [push_cast], by (simp only [seval, push_cast, *] <;> rfl), by (simp only [seval, push_cast, *] <;> rfl), by (simp only [seval, push_cast, *] <;> rfl)⟩
    · rintro ρ H' ⟨ws, junk, hws, rfl, h3, h9, h10, h11⟩
      rw [List.take_length] at hws
      replace hws : Kp (ws = n.inputs.map (·.width)) := ⟨hws⟩
      conv => arg 3; whnf
      all_goals try (refine zs ?_; repeat' first | apply zs0 | apply zs2 | (intro hc; try have hq := dq hc))
      exact ⟨ws, junk, hws.out, rfl, by (simp only [seval, push_cast, *] <;> rfl), rfl⟩
  have key2 : ∀ (c t : HObj) (bs : List Nat) i ρ H', i ≤ n.regs.length → (∃ ws junk, ws = n.inputs.map (·.width) ++ (n.regs.take i).map (·.width) ∧ H' = H ++ c :: t :: .tok ws.length :: junk ∧ ρ 3 = .tl (H.length + 2) (ws.map (.int .i64)) ∧ ρ 22 = .list (n.regs.map encReg) ∧ ρ 23 = .int .i64 n.regs.length ∧ ρ 24 = .int .i64 i) →
      Lp X ⟨35, bs⟩ (loopAt Tryz.f70 1) ρ H' fun ex ρ' H' => ∃ ws junk, ws = leavesN n ∧ H' = H ++ c :: t :: .tok ws.length :: junk ∧ ρ' 3 = .tl (H.length + 2) (ws.map (.int .i64)) ∧ ex = .exit 2 := by
    intro c t bs
    refine loop_up ?_ ?_
    · rintro i ρ H' hlt ⟨ws, junk, hws, rfl, h3, h9, h10, h11⟩
      have hget : n.regs[i]? = some n.regs[i] := by simp [hlt]
      have htk : n.regs.take (i + 1) = n.regs.take i ++ [n.regs[i]] := by rw [List.take_add_one, hget]; rfl
      generalize n.regs[i] = p at hget htk
      have hlen : ws.length ≤ 2000 := by rw [hws]; simp; omega
      have hroom := room8 ws.length (by omega)
      have hw := add1 i n.regs.length hlt (by omega)
      have hsn : Kp (n.inputs.map (·.width) ++ (n.regs.take (i + 1)).map (·.width) = ws ++ [p.width]) := ⟨by rw [htk, hws]; simp⟩
      clear hws hlen htk
      conv => arg 3; whnf
      all_goals try (refine zs ?_; repeat' first | apply zs0 | apply zs2 | (intro hc; try have hq := dq hc))
      exact ⟨ws ++ [p.width], _, hsn.out.symm, by simp only [List.length_append, List.length_singleton]; rfl, by simp [push_cast], by (simp only [seval, push_cast, *] <;> rfl), by (simp only [seval, push_cast, *] <;> rfl), by (simp only [seval, push_cast, *] <;> rfl)⟩
    · rintro ρ H' ⟨ws, junk, hws, rfl, h3, h9, h10, h11⟩
      rw [List.take_length] at hws
      replace hws : Kp (ws = n.inputs.map (·.width) ++ n.regs.map (·.width)) := ⟨hws⟩
      conv => arg 3; whnf
      all_goals try (refine zs ?_; repeat' first | apply zs0 | apply zs2 | (intro hc; try have hq := dq hc))
      exact ⟨ws, junk, hws.out, rfl, by (simp only [seval, push_cast, *] <;> rfl), rfl⟩
  all_goals try (refine zs ?_; repeat' first | apply zs0 | apply zs2 | (intro hc; try have hq := dq hc))
  refine lp_then (lp_any (c := loopAt Tryz.f70 0) rfl (key _ _ _ 0 _ _ (by omega) ⟨[], [], rfl, rfl, by (simp only [seval, push_cast, *] <;> rfl), by (simp only [seval, push_cast, *] <;> rfl), by (simp only [seval, push_cast, *] <;> rfl), by (simp only [seval, push_cast, *] <;> rfl)⟩)) ?_
  rintro ex ρ' H' ⟨ws, junk, hws, rfl, h3, rfl⟩ hf
  have f1 := hf 1 rfl
  simp only [seval, push_cast] at f1
  clear key hf
  replace hws : Kp (ws = n.inputs.map (·.width)) := ⟨hws⟩
  all_goals try (refine zs ?_; repeat' first | apply zs0 | apply zs2 | (intro hc; try have hq := dq hc))
  refine lp_then (lp_any (c := loopAt Tryz.f70 1) rfl (key2 _ _ _ 0 _ _ (by omega) ⟨ws, junk, by simp [hws.out], rfl, by (simp only [seval, push_cast, *] <;> rfl), by (simp only [seval, push_cast, *] <;> rfl), by (simp only [seval, push_cast, *] <;> rfl), by (simp only [seval, push_cast, *] <;> rfl)⟩)) ?_
  rintro ex ρ' H' ⟨ws, junk, rfl, rfl, h3, rfl⟩ -
  clear key2
  all_goals try (refine zs ?_; repeat' first | apply zs0 | apply zs2 | (intro hc; try have hq := dq hc))

theorem nl_isNode (bs : List Nat) (H : Heap) (n : Netl) (i : Int) (a : Nat) (hn : n.nodes.length ≤ 1000000) (hA : H[a]? = some (.cells (cellsNetl n))) : callw X bs 52 [.int .i64 i, .ptr a 0] H = some (.bool (isNodeN n i), H) := by
  refine call_at (rs := [.tmp 3]) (N := 10) (fn := Tryz.f52) xk52 xf52 rfl rfl rfl (by simp only [seval, push_cast, List.map_cons, List.map_nil, V.norm, norm1]; rfl) ?_
  simp only [cellsNetl] at hA
  have hw := sub1 n.nodes.length hn
  unfold isNodeN
  all_goals try (refine zs ?_; repeat' first | apply zs0 | apply zs2 | (intro hc; try have hq := dq hc))

theorem nl_c2 (bs : List Nat) (H : Heap) (n : Netl) (a : Nat) (hs : n.name.size ≤ 1000000) (hA : H[a]? = some (.cells (cellsNetl n))) : callw X bs 54 [.ptr a 0] H = some (.tuple [.int .i64 0, .int .i64 (firstL [if isNameS n.name = true then 0 else 4, if decide ((n.inputs.length : Int) ≤ 12) = true then 0 else 8])], H) := by
  refine call_at (rs := [.tmp 1, .tmp 2]) (N := 14) (fn := Tryz.f54) xk54 xf54 rfl rfl rfl (by simp only [seval, push_cast, List.map_cons, List.map_nil, V.norm, norm1]; rfl) ?_
  simp only [cellsNetl] at hA
  have hnm := fun bs H => netlist_isName bs H n.name hs
  repeat' first
   | (apply z51 (id := 1) (ord := [0, 1, 4, 5, 6, 7, 2, 3, 8, 9, 10, 11, 12]) (ps := [(3, 6), (3, 7)]) <;> first | kernel_rfl | skip)
   | (refine zs ?_; repeat' first | apply zs0 | apply zs2 | (intro hc; try have hq := dq hc)) | fail

theorem nl_c31 (bs : List Nat) (H : Heap) (i : Int) (p : Port) (ns : List ByteArray) (b m : Nat) (hs : p.name.size ≤ 1000000) (hB : H[b]? = some (.cells [.map m])) (hM : H[m]? = some (.map (namesM ns))) : callw X bs 60 [.int .i64 i, encPort p, .ptr b 0] H = some (.int .i64 (firstL [nameErr ns p.name, if isW p.width = true then 0 else 2]), H.set m (.map (namesM (addName p.name ns)))) := by
  refine call_at (rs := [.tmp 5]) (N := 16) (fn := Tryz.f60) xk60 xf60 rfl rfl rfl (by simp only [seval, push_cast, List.map_cons, List.map_nil, V.norm, norm1]; rfl) ?_
  have hne := fun (bs : List Nat) (l : List HObj) => netlist_namesErr bs (H ++ l) m ns p.name hs (get_app hM l)
  have hset := set_app (List.getElem?_eq_some_iff.1 hM).1
  simp only [hset] at hne
  have hB2 := get_app hB
  clear hM hB
  unfold isW
  repeat' first
   | (apply z51 (id := 1) (ord := [0, 1, 2, 4, 5, 3, 6, 7, 8, 9, 10]) (ps := [(4, 5)]) <;> first | kernel_rfl | skip)
   | (refine zs ?_; repeat' first | apply zs0 | apply zs2 | (intro hc; try have hq := dq hc)) | fail

theorem nh_get {H : Heap} {b m : Nat} {x y : HObj} (hB : H[b]? = some x) (hne : b ≠ m) : (H.set m y)[b]? = some x := by rw [List.getElem?_set_ne (Ne.symm hne)]; exact hB
theorem nh_self {H : Heap} {m : Nat} {x y : HObj} (hM : H[m]? = some x) : (H.set m y)[m]? = some y := by rw [List.getElem?_set_self (List.getElem?_eq_some_iff.1 hM).1]
theorem nh_same {H : Heap} {m : Nat} {x : HObj} (hM : H[m]? = some x) : H.set m x = H := by
  obtain ⟨h1, h2⟩ := List.getElem?_eq_some_iff.1 hM
  rw [← h2]; exact List.set_getElem_self h1
theorem nh_ne {H : Heap} {b m : Nat} {cs : List V} {es : List (V × V)} (hB : H[b]? = some (.cells cs)) (hM : H[m]? = some (.map es)) : b ≠ m := fun e => by rw [e, hM] at hB; cases hB

/-- each, of items with names that are to be new. -/
theorem does_names {α : Type} {enc : α → V} {fid m : Nat} {caps : List V} {g : Nat → α → List ByteArray → Int × List ByteArray} {l : List α} {H : Heap} {ns0 : List ByteArray} (hM : H[m]? = some (.map (namesM ns0)))
    (h : ∀ bs H' (i : Nat) x ns, l[i]? = some x → (∀ k y, H[k]? = some y → k ≠ m → H'[k]? = some y) → H'[m]? = some (.map (namesM ns)) → callw X bs fid (.int .i64 i :: enc x :: caps) H' = some (.int .i64 (g i x ns).1, H'.set m (.map (namesM (g i x ns).2)))) :
    Does X enc (fun ns => H.set m (.map (namesM ns))) fid caps g l := fun bs i x ns junk hx => by
  have hlt : m < (H.set m (.map (namesM ns))).length := by rw [List.length_set]; exact (List.getElem?_eq_some_iff.1 hM).1
  rw [h bs _ i x ns hx (fun k y hk hne => get_app (nh_get hk hne) _) (get_app (nh_self hM) _), set_app hlt, List.set_set]

theorem nl_c3 (bs : List Nat) (H : Heap) (n : Netl) (ns : List ByteArray) (a b m : Nat) (hl : n.inputs.length ≤ 1000000) (hs : ∀ p ∈ n.inputs, p.name.size ≤ 1000000) (hA : H[a]? = some (.cells (cellsNetl n))) (hB : H[b]? = some (.cells [.map m])) (hM : H[m]? = some (.map (namesM ns))) : callw X bs 58 [.ptr a 0, .ptr b 0] H = some (.tuple [.int .i64 (eachL portErrS 0 n.inputs ns).1.1, .int .i64 (eachL portErrS 0 n.inputs ns).1.2], H.set m (.map (namesM (eachL portErrS 0 n.inputs ns).2))) := by
  refine call_at (rs := [.tmp 2, .tmp 3]) (N := 10) (fn := Tryz.f58) xk58 xf58 rfl rfl rfl (by simp only [seval, push_cast, List.map_cons, List.map_nil, V.norm, norm1]; rfl) ?_
  have he := fun bs => netlist_each_Port bs H (fun ns => H.set m (.map (namesM ns))) 60 [.ptr b 0] portErrS n.inputs hl
    (does_names hM fun bs H' i x ns hx hk hm => nl_c31 bs H' i x ns b m (hs x (List.mem_of_getElem? hx)) (hk b _ hB (nh_ne hB hM)) hm) ns [] ⟨by rw [nh_same hM]; simp⟩ (fun _ _ => by simp)
  simp only [cellsNetl] at hA
  simp only [List.append_nil] at he
  clear hM hB hs
  all_goals try (refine zs ?_; repeat' first | apply zs0 | apply zs2 | (intro hc; try have hq := dq hc))

theorem nl_c4 (bs : List Nat) (H : Heap) (n : Netl) (a : Nat) (hi : n.inputs.length ≤ 1000000) (hr : n.regs.length ≤ 1000000) (hA : H[a]? = some (.cells (cellsNetl n))) : callw X bs 63 [.ptr a 0] H = some (.tuple [.int .i64 0, .int .i64 (if decide ((n.inputs.length : Int) + n.regs.length ≤ 40) = true then 0 else 8)], H) := by
  refine call_at (rs := [.tmp 1, .tmp 2]) (N := 12) (fn := Tryz.f63) xk63 xf63 rfl rfl rfl (by simp only [seval, push_cast, List.map_cons, List.map_nil, V.norm, norm1]; rfl) ?_
  simp only [cellsNetl] at hA
  have hw : IntKind.i64.wrap ((n.inputs.length : Int) + n.regs.length) = (n.inputs.length : Int) + n.regs.length := by rw [wrap64] <;> omega
  all_goals try (refine zs ?_; repeat' first | apply zs0 | apply zs2 | (intro hc; try have hq := dq hc))

theorem nl_c51 (bs : List Nat) (H : Heap) (i : Int) (r : Reg) (ns : List ByteArray) (b m : Nat) (hs : r.name.size ≤ 1000000) (hB : H[b]? = some (.cells [.map m])) (hM : H[m]? = some (.map (namesM ns))) : callw X bs 66 [.int .i64 i, encReg r, .ptr b 0] H = some (.int .i64 (firstL [nameErr ns r.name, if (isW r.width && fitsN r.init r.width) = true then 0 else 2]), H.set m (.map (namesM (addName r.name ns)))) := by
  refine call_at (rs := [.tmp 5]) (N := 25) (fn := Tryz.f66) xk66 xf66 rfl rfl rfl (by simp only [seval, push_cast, List.map_cons, List.map_nil, V.norm, norm1]; rfl) ?_
  have hne := fun (bs : List Nat) (l : List HObj) => netlist_namesErr bs (H ++ l) m ns r.name hs (get_app hM l)
  have hset := set_app (List.getElem?_eq_some_iff.1 hM).1
  simp only [hset] at hne
  have hB2 := get_app hB
  clear hM hB
  cases hw : isW r.width with
  | false =>
    rw [Bool.false_and]
    unfold isW at hw
    repeat' first
     | (apply z51 (id := 1) (ord := [0, 1, 2, 4, 5, 3, 6, 7, 8, 9, 10, 11, 12, 13, 14, 15, 16, 17, 18, 19]) (ps := [(4, 5)]) <;> first | kernel_rfl | skip)
     | (refine zs ?_; repeat' first | apply zs0 | apply zs2 | (intro hc; try have hq := dq hc)) | fail
  | true =>
    rw [Bool.true_and]
    unfold isW at hw
    have h1 : ¬ (16 < r.width) := by simp only [Bool.and_eq_true, decide_eq_true_eq] at hw; omega
    have h2 : 0 < r.width := by simp only [Bool.and_eq_true, decide_eq_true_eq] at hw; omega
    have hfit := fun bs H => nl_fits bs H r.init r.width (by omega)
    repeat' first
     | (apply z51 (id := 1) (ord := [0, 1, 2, 4, 5, 3, 6, 7, 8, 9, 10, 11, 12, 13, 14, 15, 16, 17, 18, 19]) (ps := [(4, 5)]) <;> first | kernel_rfl | skip)
     | (refine zs ?_; repeat' first | apply zs0 | apply zs2 | (intro hc; try have hq := dq hc)) | fail

theorem nl_c5 (bs : List Nat) (H : Heap) (n : Netl) (ns : List ByteArray) (a b m : Nat) (hl : n.regs.length ≤ 1000000) (hs : ∀ p ∈ n.regs, p.name.size ≤ 1000000) (hA : H[a]? = some (.cells (cellsNetl n))) (hB : H[b]? = some (.cells [.map m])) (hM : H[m]? = some (.map (namesM ns))) : callw X bs 64 [.ptr a 0, .ptr b 0] H = some (.tuple [.int .i64 (eachL regErrS 0 n.regs ns).1.1, .int .i64 (eachL regErrS 0 n.regs ns).1.2], H.set m (.map (namesM (eachL regErrS 0 n.regs ns).2))) := by
  refine call_at (rs := [.tmp 2, .tmp 3]) (N := 10) (fn := Tryz.f64) xk64 xf64 rfl rfl rfl (by simp only [seval, push_cast, List.map_cons, List.map_nil, V.norm, norm1]; rfl) ?_
  have he := fun bs => netlist_each_Reg bs H (fun ns => H.set m (.map (namesM ns))) 66 [.ptr b 0] regErrS n.regs hl
    (does_names hM fun bs H' i x ns hx hk hm => nl_c51 bs H' i x ns b m (hs x (List.mem_of_getElem? hx)) (hk b _ hB (nh_ne hB hM)) hm) ns [] ⟨by rw [nh_same hM]; simp⟩ (fun _ _ => by simp)
  simp only [cellsNetl] at hA
  simp only [List.append_nil] at he
  clear hM hB hs
  all_goals try (refine zs ?_; repeat' first | apply zs0 | apply zs2 | (intro hc; try have hq := dq hc))

theorem nl_c6 (bs : List Nat) (H : Heap) (n : Netl) (a : Nat) (hS : Small n) (hA : H[a]? = some (.cells (cellsNetl n))) : callw X bs 68 [.ptr a 0] H = some (.tuple [.int .i64 (checkNodesS (leavesN n) n.nodes).1, .int .i64 (checkNodesS (leavesN n) n.nodes).2], H) := by
  refine call_at (rs := [.tmp 1, .tmp 2]) (N := 10) (fn := Tryz.f68) xk68 xf68 rfl rfl rfl (by simp only [seval, push_cast, List.map_cons, List.map_nil, V.norm, norm1]; rfl) ?_
  have h1 := fun bs H => nl_leaves bs H n hS.inputs hS.regs
  have h2 := fun bs H => gr_checkNodes bs H (leavesN n) n.nodes (by have := hS.inputs; have := hS.regs; simp [leavesN]; omega) (by have := hS.nodes; omega) (fun x hx => by have := hS.args x hx; omega)
  simp only [encNetl] at h1
  simp only [cellsNetl] at hA h1
  clear hS
  repeat' first
   | (apply z51 (id := 1) (ord := [0, 2, 3, 1, 4, 5, 6, 7, 8]) (ps := [(2, 3)]) <;> first | kernel_rfl | skip)
   | (refine zs ?_; repeat' first | apply zs0 | apply zs2 | (intro hc; try have hq := dq hc)) | fail

theorem nl_c71 (bs : List Nat) (H : Heap) (n : Netl) (i : Int) (r : Reg) (a f : Nat) (hn : n.nodes.length ≤ 1000000) (hA : H[a]? = some (.cells (cellsNetl n))) (hF : H[f]? = some (.cells [.func 52 [.ptr a 0]])) : callw X bs 72 [.int .i64 i, encReg r, .ptr f 0, .ptr a 0] H = some (.int .i64 (regErr2S n i.toNat r), H) := by
  refine call_at (rs := [.tmp 6]) (N := 40) (fn := Tryz.f72) xk72 xf72 rfl rfl rfl (by simp only [seval, push_cast, List.map_cons, List.map_nil, V.norm, norm1]; rfl) ?_
  have hA2 := get_app hA
  have hF2 := get_app hF
  have hnode := fun bs (l : Heap) i => nl_isNode bs (H ++ l) n i a hn (get_app hA l)
  simp only [cellsNetl] at hA2
  unfold regErr2S
  cases he : isNodeN n r.enable with
  | false =>
    rw [if_pos (show (!false) = true from rfl)]
    clear hA hF
    repeat' first
     | (apply z50 (id := 3) (ord := [0, 1, 2, 3, 4, 5, 6, 7, 8, 9, 10, 11]) <;> first | kernel_rfl | skip)
     | (refine zs ?_; repeat' first | apply zs0 | apply zs2 | (intro hc; try have hq := dq hc)) | fail
  | true =>
  rw [if_neg (by simp)]
  obtain ⟨e, hee, helt⟩ : ∃ e : Nat, r.enable = e ∧ e < n.nodes.length := by
    simp only [isNodeN, Bool.and_eq_true, decide_eq_true_eq] at he
    exact ⟨r.enable.toNat, by omega, by omega⟩
  have hget : n.nodes[e]? = some n.nodes[e] := by simp [helt]
  have hwe : widthAt n e = n.nodes[e].width := by simp [widthAt, hget]
  rw [hee] at he ⊢
  rw [hwe]
  generalize n.nodes[e] = y at hget
  clear hwe helt
  by_cases hw1 : y.width = 1
  case neg =>
    rw [if_pos hw1]
    clear hA hF
    repeat' first
     | (apply z50 (id := 3) (ord := [0, 1, 2, 3, 4, 5, 6, 7, 8, 9, 10, 11]) <;> first | kernel_rfl | skip)
     | (refine zs ?_; repeat' first | apply zs0 | apply zs2 | (intro hc; try have hq := dq hc)) | fail
  rw [if_neg (by simpa using hw1)]
  cases hx : isNodeN n r.next with
  | false =>
    rw [if_pos (show (!false) = true from rfl)]
    clear hA hF
    repeat' first
     | (apply z50 (id := 3) (ord := [0, 1, 2, 3, 4, 5, 6, 7, 8, 9, 10, 11]) <;> first | kernel_rfl | skip)
     | (refine zs ?_; repeat' first | apply zs0 | apply zs2 | (intro hc; try have hq := dq hc)) | fail
  | true =>
  rw [if_neg (by simp)]
  obtain ⟨e2, hee2, helt2⟩ : ∃ e : Nat, r.next = e ∧ e < n.nodes.length := by
    simp only [isNodeN, Bool.and_eq_true, decide_eq_true_eq] at hx
    exact ⟨r.next.toNat, by omega, by omega⟩
  have hget2 : n.nodes[e2]? = some n.nodes[e2] := by simp [helt2]
  have hwe2 : widthAt n e2 = n.nodes[e2].width := by simp [widthAt, hget2]
  rw [hee2] at hx ⊢
  rw [hwe2]
  generalize n.nodes[e2] = z at hget2
  clear hwe2 helt2 hA hF
  repeat' first
   | (apply z50 (id := 3) (ord := [0, 1, 2, 3, 4, 5, 6, 7, 8, 9, 10, 11]) <;> first | kernel_rfl | skip)
   | (refine zs ?_; repeat' first | apply zs0 | apply zs2 | (intro hc; try have hq := dq hc)) | fail

end Go.E
/- Contracts of the package netlist, in E: CheckNetlist. Own work. -/
namespace Go.E
open Go.Proofs
set_option maxRecDepth 100000
set_option maxHeartbeats 4000000

theorem nl_c7 (bs : List Nat) (H : Heap) (n : Netl) (a f : Nat) (hl : n.regs.length ≤ 1000000) (hn : n.nodes.length ≤ 1000000) (hA : H[a]? = some (.cells (cellsNetl n))) (hF : H[f]? = some (.cells [.func 52 [.ptr a 0]])) : callw X bs 71 [.ptr a 0, .ptr f 0] H = some (.tuple [.int .i64 (eachP (regErr2S n) 0 n.regs).1, .int .i64 (eachP (regErr2S n) 0 n.regs).2], H) := by
  refine call_at (rs := [.tmp 2, .tmp 3]) (N := 10) (fn := Tryz.f71) xk71 xf71 rfl rfl rfl (by simp only [seval, push_cast, List.map_cons, List.map_nil, V.norm, norm1]; rfl) ?_
  have he := fun bs => netlist_each_Reg_p bs H 72 [.ptr f 0, .ptr a 0] (regErr2S n) n.regs hl
    (fun bs i x junk hx => by simpa using nl_c71 bs (H ++ junk) n i x a f hn (get_app hA _) (get_app hF _))
  simp only [cellsNetl] at hA
  clear hF
  all_goals try (refine zs ?_; repeat' first | apply zs0 | apply zs2 | (intro hc; try have hq := dq hc))

theorem nl_c8 (bs : List Nat) (H : Heap) (n : Netl) (a : Nat) (hA : H[a]? = some (.cells (cellsNetl n))) : callw X bs 73 [.ptr a 0] H = some (.tuple [.int .i64 0, .int .i64 (if decide ((n.outs.length : Int) ≤ 12) = true then 0 else 8)], H) := by
  refine call_at (rs := [.tmp 1, .tmp 2]) (N := 8) (fn := Tryz.f73) xk73 xf73 rfl rfl rfl (by simp only [seval, push_cast, List.map_cons, List.map_nil, V.norm, norm1]; rfl) ?_
  simp only [cellsNetl] at hA
  all_goals try (refine zs ?_; repeat' first | apply zs0 | apply zs2 | (intro hc; try have hq := dq hc))

theorem nl_c91 (bs : List Nat) (H : Heap) (n : Netl) (i : Int) (o : Outp) (ns : List ByteArray) (a b f m : Nat) (hn : n.nodes.length ≤ 1000000) (hs : o.name.size ≤ 1000000) (hA : H[a]? = some (.cells (cellsNetl n))) (hF : H[f]? = some (.cells [.func 52 [.ptr a 0]])) (hB : H[b]? = some (.cells [.map m])) (hM : H[m]? = some (.map (namesM ns))) : callw X bs 76 [.int .i64 i, encOutp o, .ptr b 0, .ptr f 0] H = some (.int .i64 (firstL [nameErr ns o.name, if isNodeN n o.node = true then 0 else 9]), H.set m (.map (namesM (addName o.name ns)))) := by
  refine call_at (rs := [.tmp 6]) (N := 18) (fn := Tryz.f76) xk76 xf76 rfl rfl rfl (by simp only [seval, push_cast, List.map_cons, List.map_nil, V.norm, norm1]; rfl) ?_
  have hne := fun (bs : List Nat) (l : List HObj) => netlist_namesErr bs (H ++ l) m ns o.name hs (get_app hM l)
  have hset := set_app (List.getElem?_eq_some_iff.1 hM).1
  simp only [hset] at hne
  have hnode := fun bs (y : HObj) (l : Heap) i => nl_isNode bs (H.set m y ++ l) n i a hn (get_app (nh_get hA (nh_ne hA hM)) l)
  have hnode2 := fun bs (l : Heap) i => nl_isNode bs (H ++ l) n i a hn (get_app hA l)
  have hB2 := get_app hB
  have hF2 := get_app hF
  have hF3 := fun y => get_app (nh_get (y := y) hF (nh_ne hF hM))
  have hB3 := fun y => get_app (nh_get (y := y) hB (nh_ne hB hM))
  clear hM hB hA hF
  repeat' first
   | (apply z51 (id := 1) (ord := [0, 1, 2, 4, 5, 6, 3, 7, 8, 9, 10, 11]) (ps := [(3, 6), (5, 6)]) <;> first | kernel_rfl | skip)
   | (refine zs ?_; repeat' first | apply zs0 | apply zs2 | (intro hc; try have hq := dq hc)) | fail

theorem nl_c9 (bs : List Nat) (H : Heap) (n : Netl) (ns : List ByteArray) (a b f m : Nat) (hl : n.outs.length ≤ 1000000) (hn : n.nodes.length ≤ 1000000) (hs : ∀ p ∈ n.outs, p.name.size ≤ 1000000) (hA : H[a]? = some (.cells (cellsNetl n))) (hF : H[f]? = some (.cells [.func 52 [.ptr a 0]])) (hB : H[b]? = some (.cells [.map m])) (hM : H[m]? = some (.map (namesM ns))) : callw X bs 74 [.ptr a 0, .ptr b 0, .ptr f 0] H = some (.tuple [.int .i64 (eachL (outErrS n) 0 n.outs ns).1.1, .int .i64 (eachL (outErrS n) 0 n.outs ns).1.2], H.set m (.map (namesM (eachL (outErrS n) 0 n.outs ns).2))) := by
  refine call_at (rs := [.tmp 3, .tmp 4]) (N := 11) (fn := Tryz.f74) xk74 xf74 rfl rfl rfl (by simp only [seval, push_cast, List.map_cons, List.map_nil, V.norm, norm1]; rfl) ?_
  have he := fun bs => netlist_each_Outp bs H (fun ns => H.set m (.map (namesM ns))) 76 [.ptr b 0, .ptr f 0] (outErrS n) n.outs hl
    (does_names hM fun bs H' i x ns hx hk hm => nl_c91 bs H' n i x ns a b f m hn (hs x (List.mem_of_getElem? hx)) (hk a _ hA (nh_ne hA hM)) (hk f _ hF (nh_ne hF hM)) (hk b _ hB (nh_ne hB hM)) hm) ns [] ⟨by rw [nh_same hM]; simp⟩ (fun _ _ => by simp)
  simp only [cellsNetl] at hA
  simp only [List.append_nil] at he
  clear hM hB hs hF
  all_goals try (refine zs ?_; repeat' first | apply zs0 | apply zs2 | (intro hc; try have hq := dq hc))

/-- The heap of CheckNetlist: which names are known. -/
def hCN (n : Netl) (H : Heap) (k1 k2 : List ByteArray) (fs : List V) : Heap :=
  H ++ [.cells (cellsNetl n), .map (namesM k1), .map (namesM k2), .cells [.map (H.length + 1)], .cells [.map (H.length + 2)], .cells [.func 52 [.ptr H.length 0]], .cells fs]
def fsCN (H : Heap) : List V := [.func 54 [.ptr H.length 0], .func 58 [.ptr H.length 0, .ptr (H.length + 3) 0], .func 63 [.ptr H.length 0],
  .func 64 [.ptr H.length 0, .ptr (H.length + 3) 0], .func 68 [.ptr H.length 0], .func 71 [.ptr H.length 0, .ptr (H.length + 5) 0],
  .func 73 [.ptr H.length 0], .func 74 [.ptr H.length 0, .ptr (H.length + 4) 0, .ptr (H.length + 5) 0]]

/-- One round, whatever is called. -/
theorem cn_round (bs : List Nat) (H : Heap) (k fid : Nat) (caps : List V) (H1 H2 : Heap) (fs : List V) (r : Int × Int) (hk : k < 8) (hf : fs[k]? = some (.func fid caps)) (hfl : fs.length = 8)
    (hc : ∀ bs, callw X bs fid caps H1 = some (.tuple [.int .i64 r.1, .int .i64 r.2], H2)) (ρ : Env) (h24 : ρ 24 = .agg fs) (h25 : ρ 25 = .int .i64 k) (Q : Ex → Env → Heap → Prop)
    (hret : ∀ ρ', r.2 ≠ 0 → ρ' 2 = .int .i64 r.1 → ρ' 3 = .int .i64 r.2 → Q .ret ρ' H2) (hnext : ∀ ρ', r.2 = 0 → ρ' 24 = .agg fs → ρ' 25 = .int .i64 ((k + 1 : Nat) : Int) → Q .normal ρ' H2) :
    Ev X ⟨38, bs⟩ (loopAt Tryz.f12 0) ρ H1 Q := by
  have hw := add1 k 8 hk (by omega)
  have hlt : (k : Int) < 8 := by omega
  conv => arg 3; whnf
  all_goals try (refine zs ?_; repeat' first | apply zs0 | apply zs2 | (intro hc; try have hq := dq hc))
  · exact hret _ (by simpa using hc) (by (simp only [seval, push_cast, *] <;> rfl)) (by (simp only [seval, push_cast, *] <;> rfl))
  · exact hnext _ (by simpa using hc) (by (simp only [seval, push_cast, *] <;> rfl)) (by (simp only [seval, push_cast, *] <;> rfl))

section
variable {n : Netl} {H : Heap} {k1 k2 : List ByteArray} {fs : List V}
theorem hCN_a : (hCN n H k1 k2 fs)[H.length]? = some (.cells (cellsNetl n)) := by simp [hCN]
theorem hCN_m1 : (hCN n H k1 k2 fs)[H.length + 1]? = some (.map (namesM k1)) := by simp [hCN]
theorem hCN_m2 : (hCN n H k1 k2 fs)[H.length + 2]? = some (.map (namesM k2)) := by simp [hCN]
theorem hCN_b1 : (hCN n H k1 k2 fs)[H.length + 3]? = some (.cells [.map (H.length + 1)]) := by simp [hCN]
theorem hCN_b2 : (hCN n H k1 k2 fs)[H.length + 4]? = some (.cells [.map (H.length + 2)]) := by simp [hCN]
theorem hCN_f : (hCN n H k1 k2 fs)[H.length + 5]? = some (.cells [.func 52 [.ptr H.length 0]]) := by simp [hCN]
theorem hCN_s1 (x : List ByteArray) : (hCN n H k1 k2 fs).set (H.length + 1) (.map (namesM x)) = hCN n H x k2 fs := by unfold hCN; rw [heap_set]; rfl
theorem hCN_s2 (x : List ByteArray) : (hCN n H k1 k2 fs).set (H.length + 2) (.map (namesM x)) = hCN n H k1 x fs := by unfold hCN; rw [heap_set]; rfl
end

def rsCN (n : Netl) : List (Int × Int) :=
  [(0, firstL [if isNameS n.name = true then 0 else 4, if decide ((n.inputs.length : Int) ≤ 12) = true then 0 else 8]), (eachL portErrS 0 n.inputs []).1,
    (0, if decide ((n.inputs.length : Int) + n.regs.length ≤ 40) = true then 0 else 8), (eachL regErrS 0 n.regs (eachL portErrS 0 n.inputs []).2).1, checkNodesS (leavesN n) n.nodes, eachP (regErr2S n) 0 n.regs,
    (0, if decide ((n.outs.length : Int) ≤ 12) = true then 0 else 8), (eachL (outErrS n) 0 n.outs []).1]
def knCN (n : Netl) (k : Nat) : List ByteArray := [[], [], (eachL portErrS 0 n.inputs []).2, (eachL portErrS 0 n.inputs []).2].getD k (eachL regErrS 0 n.regs (eachL portErrS 0 n.inputs []).2).2
def ouCN (n : Netl) (k : Nat) : List ByteArray := [[], [], [], [], [], [], [], []].getD k (eachL (outErrS n) 0 n.outs []).2

theorem cn_loop (bs : List Nat) (n : Netl) (hS : Small n) (H : Heap) (R : Int × Int) : ∀ k ρ H', k ≤ 8 → (H' = hCN n H (knCN n k) (ouCN n k) (fsCN H) ∧ ρ 24 = .agg (fsCN H) ∧ ρ 25 = .int .i64 k ∧ firstP ((rsCN n).drop k) = R) →
    Lp X ⟨38, bs⟩ (loopAt Tryz.f12 0) ρ H' fun ex ρ' H' => (∃ k1 k2, H' = hCN n H k1 k2 (fsCN H)) ∧ ((ex = .exit 0 ∧ R = (0, 0)) ∨ (ex = .ret ∧ ρ' 2 = .int .i64 R.1 ∧ ρ' 3 = .int .i64 R.2)) := by
  refine loop_up ?_ ?_
  · rintro k ρ H' hk ⟨rfl, h24, h25, hR⟩
    have go : ∀ (fid : Nat) (caps : List V) (r : Int × Int), (fsCN H)[k]? = some (.func fid caps) → (rsCN n)[k]? = some r →
        (∀ bs, callw X bs fid caps (hCN n H (knCN n k) (ouCN n k) (fsCN H)) = some (.tuple [.int .i64 r.1, .int .i64 r.2], hCN n H (knCN n (k + 1)) (ouCN n (k + 1)) (fsCN H))) →
        Ev X ⟨38, bs⟩ (loopAt Tryz.f12 0) ρ (hCN n H (knCN n k) (ouCN n k) (fsCN H)) (roundQ (fun ρ H' => H' = hCN n H (knCN n (k + 1)) (ouCN n (k + 1)) (fsCN H) ∧ ρ 24 = .agg (fsCN H) ∧ ρ 25 = .int .i64 ((k + 1 : Nat) : Int) ∧ firstP ((rsCN n).drop (k + 1)) = R)
          fun ex ρ' H' => (∃ k1 k2, H' = hCN n H k1 k2 (fsCN H)) ∧ ((ex = .exit 0 ∧ R = (0, 0)) ∨ (ex = .ret ∧ ρ' 2 = .int .i64 R.1 ∧ ρ' 3 = .int .i64 R.2))) := by
      intro fid caps r hf hr hc
      rw [drop_cons hr, firstP] at hR
      refine cn_round bs H k fid caps _ _ (fsCN H) r hk hf rfl hc ρ h24 h25 _ (fun ρ' h1 h2 h3 => roundQ_ret.2 ?_) (fun ρ' h1 h2 h3 => roundQ_normal.2 ?_)
      · rw [if_pos h1] at hR
        subst hR
        exact ⟨⟨_, _, rfl⟩, .inr ⟨rfl, h2, h3⟩⟩
      · rw [if_neg (by simpa using h1)] at hR
        exact ⟨rfl, h2, h3, hR⟩
    have hs1 := fun p hp => Nat.le_trans (hS.inn p hp) (by omega : 1000 ≤ 1000000)
    have hs2 := fun p hp => Nat.le_trans (hS.rgn p hp) (by omega : 1000 ≤ 1000000)
    have hs3 := fun p hp => Nat.le_trans (hS.otn p hp) (by omega : 1000 ≤ 1000000)
    have hn0 := hS.name; have hn1 := hS.inputs; have hn2 := hS.regs; have hn3 := hS.nodes; have hn4 := hS.outs
    match k, hk with
    | 0, _ => exact go _ _ _ rfl rfl fun bs => nl_c2 bs _ n _ (by omega) hCN_a
    | 1, _ => exact go _ _ _ rfl rfl fun bs => by have := nl_c3 bs (hCN n H (knCN n 1) (ouCN n 1) (fsCN H)) n (knCN n 1) _ _ _ (by omega) hs1 hCN_a hCN_b1 hCN_m1; rw [hCN_s1] at this; exact this
    | 2, _ => exact go _ _ _ rfl rfl fun bs => nl_c4 bs _ n _ (by omega) (by omega) hCN_a
    | 3, _ => exact go _ _ _ rfl rfl fun bs => by rw [nl_c5 bs _ n _ _ _ _ (by omega) hs2 hCN_a hCN_b1 hCN_m1, hCN_s1]; rfl
    | 4, _ => exact go _ _ _ rfl rfl fun bs => nl_c6 bs _ n _ hS hCN_a
    | 5, _ => exact go _ _ _ rfl rfl fun bs => nl_c7 bs _ n _ _ (by omega) (by omega) hCN_a hCN_f
    | 6, _ => exact go _ _ _ rfl rfl fun bs => nl_c8 bs _ n _ hCN_a
    | 7, _ => exact go _ _ _ rfl rfl fun bs => by have := nl_c9 bs (hCN n H (knCN n 7) (ouCN n 7) (fsCN H)) n (ouCN n 7) _ _ _ _ (by omega) (by omega) hs3 hCN_a hCN_f hCN_b2 hCN_m2; rw [hCN_s2] at this; exact this
  · rintro ρ H' ⟨rfl, h24, h25, hR⟩
    replace hR : (0, 0) = R := hR
    generalize hg : hCN n H (knCN n 8) (ouCN n 8) (fsCN H) = Hx
    conv => arg 3; whnf
    all_goals try (refine zs ?_; repeat' first | apply zs0 | apply zs2 | (intro hc; try have hq := dq hc))
    exact ⟨⟨_, _, hg.symm⟩, .inl ⟨rfl, hR.symm⟩⟩

theorem nl_checkNetlist (bs : List Nat) (H : Heap) (n : Netl) (hS : Small n) : callw X bs 12 [encNetl n] H = some (.tuple [.int .i64 (checkNetS n).1, .int .i64 (checkNetS n).2], H) := by
  refine call_at (rs := [.tmp 2, .tmp 3]) (N := 38) (fn := Tryz.f12) xk12 xf12 rfl rfl rfl (by simp only [seval, push_cast, List.map_cons, List.map_nil, V.norm, norm1]; rfl) ?_
  have hloop := fun bs ρ => cn_loop bs n hS H (checkNetS n) 0 ρ
  clear hS
  all_goals try (refine zs ?_; repeat' first | apply zs0 | apply zs2 | (intro hc; try have hq := dq hc))
  refine lp_then (lp_any (c := loopAt Tryz.f12 0) rfl (hloop _ _ _ (by omega) ⟨rfl, by (simp only [seval, push_cast, *] <;> rfl), by (simp only [seval, push_cast, *] <;> rfl), rfl⟩)) ?_
  clear hloop
  rintro ex ρ' H' ⟨⟨k1, k2, rfl⟩, ⟨rfl, h2⟩ | ⟨rfl, h2, h3⟩⟩ -
  · rw [h2]
    unfold hCN
    all_goals try (refine zs ?_; repeat' first | apply zs0 | apply zs2 | (intro hc; try have hq := dq hc))
  · unfold hCN
    all_goals try (refine zs ?_; repeat' first | apply zs0 | apply zs2 | (intro hc; try have hq := dq hc))

end Go.E
/- Contracts of the package netlist, in E: open, reset, the state after a reset. Own work. -/
namespace Go.E
open Go.Proofs
set_option maxRecDepth 100000
set_option maxHeartbeats 4000000

theorem nl_open (bs : List Nat) (H : Heap) (n : Netl) (hS : Small n) : callw X bs 80 [encNetl n] H = some (.tuple [encNetl n, .int .i64 (checkNetS n).2], H) := by
  refine call_at (rs := [.cell 2 119, .tmp 3]) (N := 14) (fn := Tryz.f80) xk80 xf80 rfl rfl rfl (by simp only [seval, push_cast, List.map_cons, List.map_nil, V.norm, norm1]; rfl) ?_
  have h := fun bs H => nl_checkNetlist bs H n hS
  simp only [encNetl, cellsNetl] at h ⊢
  clear hS
  all_goals try (refine zs ?_; repeat' first | apply zs0 | apply zs2 | (intro hc; try have hq := dq hc))

def resetN (n : Netl) : List Int := n.regs.map (·.init)
theorem nl_reset (bs : List Nat) (H : Heap) (n : Netl) (hr : n.regs.length ≤ 1000) : callw X bs 81 [encNetl n] H = some (.list ((resetN n).map (.int .i64)), H) := by
  refine call_at (rs := [.tmp 2]) (N := 21) (fn := Tryz.f81) xk81 xf81 rfl rfl rfl (by simp only [seval, push_cast, List.map_cons, List.map_nil, V.norm, norm1]; rfl) ?_
  have key : ∀ (c t : HObj) (bs : List Nat) i ρ H', i ≤ n.regs.length → (∃ ws junk, ws = (n.regs.take i).map (·.init) ∧ H' = H ++ c :: t :: .tok ws.length :: junk ∧ ρ 3 = .tl (H.length + 2) (ws.map (.int .i64)) ∧ ρ 8 = .list (n.regs.map encReg) ∧ ρ 9 = .int .i64 n.regs.length ∧ ρ 10 = .int .i64 i) →
      Lp X ⟨21, bs⟩ (loopAt Tryz.f81 0) ρ H' fun ex ρ' H' => ∃ ws junk, ws = resetN n ∧ H' = H ++ c :: t :: .tok ws.length :: junk ∧ ρ' 3 = .tl (H.length + 2) (ws.map (.int .i64)) ∧ ex = .exit 0 := by
    intro c t bs
    refine loop_up ?_ ?_
    · rintro i ρ H' hlt ⟨ws, junk, hws, rfl, h3, h9, h10, h11⟩
      have hget : n.regs[i]? = some n.regs[i] := by simp [hlt]
      have htk : n.regs.take (i + 1) = n.regs.take i ++ [n.regs[i]] := by rw [List.take_add_one, hget]; rfl
      generalize n.regs[i] = p at hget htk
      have hlen : ws.length = i := by rw [hws]; simp; omega
      have hroom := room8 ws.length (by omega)
      have hw := add1 i n.regs.length hlt (by omega)
      have hsn : Kp ((n.regs.take (i + 1)).map (·.init) = ws ++ [p.init]) := ⟨by rw [htk, hws]; simp⟩
      clear hws hlen htk
      conv => arg 3; whnf
      all_goals try (refine zs ?_; repeat' first | apply zs0 | apply zs2 | (intro hc; try have hq := dq hc))
      exact ⟨ws ++ [p.init], _, hsn.out.symm, by simp only [List.length_append, List.length_singleton]; rfl, by simp [push_cast], by (simp only [seval, push_cast, *] <;> rfl), by (simp only [seval, push_cast, *] <;> rfl), by (simp only [seval, push_cast, *] <;> rfl)⟩
    · rintro ρ H' ⟨ws, junk, hws, rfl, h3, h9, h10, h11⟩
      rw [List.take_length] at hws
      replace hws : Kp (ws = resetN n) := ⟨hws⟩
      conv => arg 3; whnf
      all_goals try (refine zs ?_; repeat' first | apply zs0 | apply zs2 | (intro hc; try have hq := dq hc))
      exact ⟨ws, junk, hws.out, rfl, by (simp only [seval, push_cast, *] <;> rfl), rfl⟩
  all_goals try (refine zs ?_; repeat' first | apply zs0 | apply zs2 | (intro hc; try have hq := dq hc))
  refine lp_then (lp_any (c := loopAt Tryz.f81 0) rfl (key _ _ _ 0 _ _ (by omega) ⟨[], [], rfl, rfl, by (simp only [seval, push_cast, *] <;> rfl), by (simp only [seval, push_cast, *] <;> rfl), by (simp only [seval, push_cast, *] <;> rfl), by (simp only [seval, push_cast, *] <;> rfl)⟩)) ?_
  rintro ex ρ' H' ⟨ws, junk, rfl, rfl, h3, rfl⟩ hf
  clear key hf
  all_goals try (refine zs ?_; repeat' first | apply zs0 | apply zs2 | (intro hc; try have hq := dq hc))

theorem nl_resetOf (bs : List Nat) (H : Heap) (n : Netl) (hS : Small n) : callw X bs 14 [encNetl n] H = some (.tuple [.list (if (checkNetS n).2 = 0 then (resetN n).map (.int .i64) else []), .int .i64 (checkNetS n).2], H) := by
  refine call_at (rs := [.tmp 2, .tmp 3]) (N := 16) (fn := Tryz.f14) xk14 xf14 rfl rfl rfl (by simp only [seval, push_cast, List.map_cons, List.map_nil, V.norm, norm1]; rfl) ?_
  have h1 := fun bs H => nl_open bs H n hS
  have h2 := fun bs H => nl_reset bs H n hS.regs
  simp only [encNetl, cellsNetl] at h1 h2
  clear hS
  by_cases he : (checkNetS n).2 = 0
  · rw [if_pos he]
    all_goals try (refine zs ?_; repeat' first | apply zs0 | apply zs2 | (intro hc; try have hq := dq hc))
  · rw [if_neg he]
    all_goals try (refine zs ?_; repeat' first | apply zs0 | apply zs2 | (intro hc; try have hq := dq hc))

end Go.E
/- Numbers of few bits: masks, shifts. Own work. -/
namespace Go.E
theorem pow_le {k : Nat} (h : k ≤ 32) : (2 : Int) ^ k ≤ 4294967296 := by
  have : (2 : Nat) ^ k ≤ 2 ^ 32 := Nat.pow_le_pow_right (by omega) h
  have h2 : ((2 ^ k : Nat) : Int) ≤ ((2 ^ 32 : Nat) : Int) := Int.ofNat_le.2 this
  simpa using h2
theorem pow_pos' (k : Nat) : (0 : Int) < 2 ^ k := Int.pow_pos (by omega)
theorem pow_nat (k : Nat) : ((2 ^ k : Nat) : Int) = 2 ^ k := by simp
theorem shl1_pow {w : Int} (h : w ≤ 32) : shl1 w = 2 ^ w.toNat := by
  unfold shl1
  have hk : w.toNat ≤ 32 := by omega
  rw [Nat.min_eq_left (by omega), Int.one_mul]
  have := pow_le hk
  have := pow_pos' w.toNat
  rw [wrap64] <;> omega
theorem c64 : (2 : Int) ^ 64 = 18446744073709551616 := by decide
theorem mod_toNat (x : Int) (k : Nat) (hk : k ≤ 64) : (((x % 2 ^ 64).toNat % 2 ^ k : Nat) : Int) = x % 2 ^ k := by
  rw [Int.natCast_emod, Int.toNat_of_nonneg (Int.emod_nonneg _ (by decide)), pow_nat]
  exact Int.emod_emod_of_dvd x ⟨2 ^ (64 - k), by rw [← Int.pow_add]; congr 1; omega⟩
theorem bits_mask (x : Int) (k : Nat) (hk : k ≤ 32) : bitsI .and .i64 x (2 ^ k - 1) = x % 2 ^ k := by
  have h1 := pow_le hk
  have h2 := pow_pos' k
  have e1 : ((2 : Int) ^ k - 1) % 2 ^ 64 = 2 ^ k - 1 := Int.emod_eq_of_lt (by omega) (by rw [c64]; omega)
  have e2 : ((2 : Int) ^ k - 1).toNat = 2 ^ k - 1 := by
    have := pow_nat k
    have h3 : 0 < 2 ^ k := Nat.pow_pos (by omega)
    omega
  have e3 : (BitVec.ofInt 64 x &&& BitVec.ofInt 64 (2 ^ k - 1)).toNat = (x % 2 ^ 64).toNat % 2 ^ k := by
    rw [BitVec.toNat_and, BitVec.toNat_ofInt, BitVec.toNat_ofInt]
    have c : ((2 ^ 64 : Nat) : Int) = 2 ^ 64 := by decide
    rw [c, e1, e2, Nat.and_two_pow_sub_one_eq_mod]
  show IntKind.i64.wrap ((BitVec.ofInt 64 x &&& BitVec.ofInt 64 (2 ^ k - 1)).toNat : Int) = _
  rw [e3, mod_toNat x k (by omega)]
  have h3 := Int.emod_nonneg x (b := 2 ^ k) (by omega)
  have h4 := Int.emod_lt_of_pos x h2
  rw [wrap64] <;> omega
theorem ofNat_toNat (n : Nat) (h : n < 2 ^ 32) : (BitVec.ofInt 64 (n : Int)).toNat = n := by
  rw [BitVec.toNat_ofInt]
  have c : ((2 ^ 64 : Nat) : Int) = 18446744073709551616 := by decide
  rw [c]
  have : (2 : Nat) ^ 32 = 4294967296 := by decide
  rw [Int.emod_eq_of_lt (by omega) (by omega)]
  omega
theorem wrap_n32 (n : Nat) (h : n < 2 ^ 32) : IntKind.i64.wrap (n : Int) = n := by
  have : (2 : Nat) ^ 32 = 4294967296 := by decide
  rw [wrap64] <;> omega
theorem bits_and (a b : Nat) (ha : a < 2 ^ 32) (hb : b < 2 ^ 32) : bitsI .and .i64 a b = ((a &&& b : Nat) : Int) := by
  show IntKind.i64.wrap ((BitVec.ofInt 64 (a : Int) &&& BitVec.ofInt 64 (b : Int)).toNat : Int) = _
  rw [BitVec.toNat_and, ofNat_toNat a ha, ofNat_toNat b hb]
  exact wrap_n32 _ (Nat.lt_of_le_of_lt Nat.and_le_left ha)
theorem bits_or (a b : Nat) (ha : a < 2 ^ 32) (hb : b < 2 ^ 32) : bitsI .or .i64 a b = ((a ||| b : Nat) : Int) := by
  show IntKind.i64.wrap ((BitVec.ofInt 64 (a : Int) ||| BitVec.ofInt 64 (b : Int)).toNat : Int) = _
  rw [BitVec.toNat_or, ofNat_toNat a ha, ofNat_toNat b hb]
  exact wrap_n32 _ (Nat.or_lt_two_pow ha hb)
theorem bits_xor (a b : Nat) (ha : a < 2 ^ 32) (hb : b < 2 ^ 32) : bitsI .xor .i64 a b = ((a ^^^ b : Nat) : Int) := by
  show IntKind.i64.wrap ((BitVec.ofInt 64 (a : Int) ^^^ BitVec.ofInt 64 (b : Int)).toNat : Int) = _
  rw [BitVec.toNat_xor, ofNat_toNat a ha, ofNat_toNat b hb]
  exact wrap_n32 _ (Nat.xor_lt_two_pow ha hb)
theorem bits_not (a : Nat) (ha : a < 2 ^ 32) : bitsI .xor .i64 (-1) a = -1 - (a : Int) := by
  show IntKind.i64.wrap ((BitVec.ofInt 64 (-1) ^^^ BitVec.ofInt 64 (a : Int)).toNat : Int) = _
  have e : BitVec.ofInt 64 (-1) = BitVec.allOnes 64 := by decide
  rw [e, BitVec.allOnes_xor, BitVec.toNat_not, ofNat_toNat a ha]
  have : (2 : Nat) ^ 32 = 4294967296 := by decide
  have c : (2 : Nat) ^ 64 = 18446744073709551616 := by decide
  rw [c]
  have e2 : ((18446744073709551616 - 1 - a : Nat) : Int) = 18446744073709551615 - (a : Int) := by omega
  rw [e2]
  unfold IntKind.wrap
  simp [IntKind.bits, IntKind.signed]
  omega
end Go.E
/- What operations of nodes compute, in plain Lean. Own work. -/
namespace Go.E
def sgn (n w : Int) : Int := if 2 ^ (w.toNat - 1) ≤ n then n - 2 ^ w.toNat else n
def applyS (k : Nat) (W v : Int) (a w : List Int) : Int :=
  match k with
  | 0 | 1 => v
  | 2 => 2 ^ W.toNat - 1 - at0 a 0
  | 3 => (((at0 a 0).toNat &&& (at0 a 1).toNat : Nat) : Int)
  | 4 => (((at0 a 0).toNat ||| (at0 a 1).toNat : Nat) : Int)
  | 5 => (((at0 a 0).toNat ^^^ (at0 a 1).toNat : Nat) : Int)
  | 6 => (at0 a 0 + at0 a 1) % 2 ^ W.toNat
  | 7 => (at0 a 0 - at0 a 1) % 2 ^ W.toNat
  | 8 => (at0 a 0 * at0 a 1) % 2 ^ W.toNat
  | 9 => if at0 a 0 = at0 a 1 then 1 else 0
  | 10 => if at0 a 0 < at0 a 1 then 1 else 0
  | 11 => if sgn (at0 a 0) (at0 w 0) < sgn (at0 a 1) (at0 w 0) then 1 else 0
  | 12 => if at0 a 0 = 1 then at0 a 1 else at0 a 2
  | 13 => at0 a 0 * 2 ^ (at0 w 1).toNat + at0 a 1
  | 14 => (at0 a 0 / 2 ^ v.toNat) % 2 ^ W.toNat
  | 15 => at0 a 0
  | 16 => sgn (at0 a 0) (at0 w 0) % 2 ^ W.toNat
  | 17 => if W ≤ at0 a 1 then 0 else (at0 a 0 * 2 ^ (at0 a 1).toNat) % 2 ^ W.toNat
  | _ => if W ≤ at0 a 1 then 0 else at0 a 0 / 2 ^ (at0 a 1).toNat
/-- A number of a width. -/
def InW (n w : Int) : Prop := 0 ≤ n ∧ n < 2 ^ w.toNat
structure OkArgs (k : Nat) (W v : Int) (a w : List Int) : Prop where
  k19 : k < 19
  W1 : 1 ≤ W
  W16 : W ≤ 16
  la : a.length = argC k
  lw : w.length = argC k
  rng : ∀ i, i < argC k → InW (at0 a i) (at0 w i)
  wid : ∀ i, i < argC k → 1 ≤ at0 w i ∧ at0 w i ≤ 16
  fit : fitsS k W w v = true
  val : k = 14 → 0 ≤ v ∧ v ≤ 15
  con : k = 0 → InW v W

theorem InW.lt32 {n w : Int} (h : InW n w) (hw : w ≤ 16) : n < 65536 := by
  obtain ⟨_, h2⟩ := h
  have : (2 : Nat) ^ w.toNat ≤ 2 ^ 16 := Nat.pow_le_pow_right (by omega) (by omega)
  have h3 : ((2 ^ w.toNat : Nat) : Int) ≤ ((2 ^ 16 : Nat) : Int) := Int.ofNat_le.2 this
  rw [pow_nat] at h3
  have : ((2 ^ 16 : Nat) : Int) = 65536 := by decide
  omega
theorem pow_two_succ {w : Int} (h : 1 ≤ w) : (2 : Int) ^ w.toNat = 2 * 2 ^ (w.toNat - 1) := by
  rw [Int.mul_comm, ← Int.pow_succ]; congr 1; omega
theorem sgn_rng {n w : Int} (h : InW n w) (hw : 1 ≤ w) : -2 ^ (w.toNat - 1) ≤ sgn n w ∧ sgn n w < 2 ^ (w.toNat - 1) := by
  obtain ⟨h1, h2⟩ := h
  have h3 := pow_two_succ hw
  have h4 := pow_pos' (w.toNat - 1)
  unfold sgn
  split <;> omega
theorem at0_cons (x : Int) (r : List Int) : at0 (x :: r) 0 = x := rfl
theorem at0_succ (x : Int) (r : List Int) (i : Nat) : at0 (x :: r) (i + 1) = at0 r i := by simp [at0]
theorem at0_1 (x y : Int) (r : List Int) : at0 (x :: y :: r) 1 = y := rfl
theorem at0_2 (x y z : Int) (r : List Int) : at0 (x :: y :: z :: r) 2 = z := rfl
theorem mod_rng (x : Int) (k : Nat) : 0 ≤ x % 2 ^ k ∧ x % 2 ^ k < 2 ^ k := ⟨Int.emod_nonneg _ (by have := pow_pos' k; omega), Int.emod_lt_of_pos _ (pow_pos' k)⟩
theorem nat_lt {n w : Int} (h : InW n w) : n.toNat < 2 ^ w.toNat := by
  have := h.2; have h0 := h.1; rw [← pow_nat] at this; omega
theorem nat_rng {m : Nat} {w : Nat} (h : m < 2 ^ w) : 0 ≤ (m : Int) ∧ (m : Int) < 2 ^ w := ⟨by omega, by rw [← pow_nat]; omega⟩
theorem pow_W1 {W : Int} (h : 1 ≤ W) : (2 : Int) ≤ 2 ^ W.toNat := by
  have := pow_two_succ h; have := pow_pos' (W.toNat - 1); omega
theorem pow_mono {a b : Int} (h : a ≤ b) : (2 : Int) ^ a.toNat ≤ 2 ^ b.toNat := by
  have : (2 : Nat) ^ a.toNat ≤ 2 ^ b.toNat := Nat.pow_le_pow_right (by omega) (by omega)
  have h3 := Int.ofNat_le.2 this
  simpa using h3
/-- What is computed is of the node's width. -/
theorem applyS_rng {k : Nat} {W v : Int} {a w : List Int} (h : OkArgs k W v a w) (h1 : k ≠ 1) : InW (applyS k W v a w) W := by
  obtain ⟨hk, hW1, hW16, hla, hlw, hr, hw, hf, hv, hc⟩ := h
  have hp := pow_pos' W.toNat
  have hp2 := pow_W1 hW1
  match k, hk, a, hla, w, hlw with
  | 0, _, _, _, _, _ => exact hc rfl
  | 1, _, _, _, _, _ => exact absurd rfl h1
  | 2, _, [x], _, [p], _ =>
    have r0 := hr 0 (by decide)
    simp only [fitsS, List.any_cons, List.any_nil, Bool.or_false, Bool.not_eq_true', decide_eq_false_iff_not, Decidable.not_not] at hf
    subst hf
    simp only [applyS, at0_cons] at r0 ⊢
    obtain ⟨r1, r2⟩ := r0
    exact ⟨by omega, by omega⟩
  | 3, _, [x, y], _, [p, q], _ =>
    have r0 := hr 0 (by decide)
    have r1 := hr 1 (by decide)
    simp only [fitsS, List.any_cons, List.any_nil, Bool.or_false, Bool.not_eq_true', Bool.or_eq_false_iff, decide_eq_false_iff_not, Decidable.not_not] at hf
    obtain ⟨rfl, rfl⟩ := hf
    simp only [applyS, at0_cons, at0_1] at r0 r1 ⊢
    exact nat_rng (Nat.lt_of_le_of_lt Nat.and_le_left (nat_lt r0))
  | 4, _, [x, y], _, [p, q], _ =>
    have r0 := hr 0 (by decide)
    have r1 := hr 1 (by decide)
    simp only [fitsS, List.any_cons, List.any_nil, Bool.or_false, Bool.not_eq_true', Bool.or_eq_false_iff, decide_eq_false_iff_not, Decidable.not_not] at hf
    obtain ⟨rfl, rfl⟩ := hf
    simp only [applyS, at0_cons, at0_1] at r0 r1 ⊢
    exact nat_rng (Nat.or_lt_two_pow (nat_lt r0) (nat_lt r1))
  | 5, _, [x, y], _, [p, q], _ =>
    have r0 := hr 0 (by decide)
    have r1 := hr 1 (by decide)
    simp only [fitsS, List.any_cons, List.any_nil, Bool.or_false, Bool.not_eq_true', Bool.or_eq_false_iff, decide_eq_false_iff_not, Decidable.not_not] at hf
    obtain ⟨rfl, rfl⟩ := hf
    simp only [applyS, at0_cons, at0_1] at r0 r1 ⊢
    exact nat_rng (Nat.xor_lt_two_pow (nat_lt r0) (nat_lt r1))
  | 6, _, _, _, _, _ | 7, _, _, _, _, _ | 8, _, _, _, _, _ | 14, _, _, _, _, _ | 16, _, _, _, _, _ => exact mod_rng _ _
  | 9, _, _, _, _, _ | 10, _, _, _, _, _ | 11, _, _, _, _, _ =>
    simp only [applyS, InW]
    split <;> omega
  | 12, _, [x, y, z], _, [p, q, r], _ =>
    have r1 := hr 1 (by decide)
    have r2 := hr 2 (by decide)
    have hf2 : (decide (p = 1) && decide (q = W) && decide (r = W)) = true := hf
    rw [Bool.and_eq_true, Bool.and_eq_true] at hf2
    obtain rfl := of_decide_eq_true hf2.1.2
    obtain rfl := of_decide_eq_true hf2.2
    simp only [at0_1, at0_2] at r1 r2
    show InW (if x = 1 then y else z) r
    split
    · exact r1
    · exact r2
  | 13, _, [x, y], _, [p, q], _ =>
    have r0 := hr 0 (by decide)
    have r1 := hr 1 (by decide)
    have w0 := hw 0 (by decide)
    have w1 := hw 1 (by decide)
    have hf2 : IntKind.i64.wrap (p + q) = W := of_decide_eq_true hf
    simp only [at0_cons, at0_1] at w0 w1
    rw [wrap64 (by omega) (by omega)] at hf2
    subst hf2
    simp only [applyS, at0_cons, at0_1] at r0 r1 ⊢
    obtain ⟨a1, a2⟩ := r0
    obtain ⟨b1, b2⟩ := r1
    have e : (2 : Int) ^ (p + q).toNat = 2 ^ p.toNat * 2 ^ q.toNat := by rw [← Int.pow_add]; congr 1; omega
    have hq := pow_pos' q.toNat
    refine ⟨by have := Int.mul_nonneg a1 (Int.le_of_lt hq); omega, ?_⟩
    rw [e]
    have : (x + 1) * 2 ^ q.toNat ≤ 2 ^ p.toNat * 2 ^ q.toNat := Int.mul_le_mul_of_nonneg_right (by omega) (by omega)
    rw [Int.add_mul] at this
    omega
  | 15, _, [x], _, [p], _ =>
    have r0 := hr 0 (by decide)
    have hf2 : p ≤ W := of_decide_eq_true hf
    simp only [applyS, at0_cons] at r0 ⊢
    obtain ⟨a1, a2⟩ := r0
    have := pow_mono hf2
    exact ⟨a1, by omega⟩
  | 17, _, _, _, _, _ =>
    simp only [applyS]
    split
    · exact ⟨by omega, by omega⟩
    · exact mod_rng _ _
  | 18, _, [x, y], _, [p, q], _ =>
    have r0 := hr 0 (by decide)
    obtain rfl : p = W := of_decide_eq_true hf
    simp only [at0_cons] at r0
    obtain ⟨a1, a2⟩ := r0
    show InW (if p ≤ y then 0 else x / 2 ^ y.toNat) p
    split
    · exact ⟨by omega, by omega⟩
    · refine ⟨Int.ediv_nonneg a1 (by have := pow_pos' y.toNat; omega), Int.lt_of_le_of_lt (Int.ediv_le_self _ a1) a2⟩
  | k + 19, hk, _, _, _, _ => omega
end Go.E
/- Contracts of the package graph, in E: what operations compute. Own work. -/
namespace Go.E
open Go.Proofs
set_option maxRecDepth 100000
set_option maxHeartbeats 4000000

theorem bin_shr {P : Program} {t : TypeId} {k k' : IntKind} {a b : Int} (h : 0 ≤ b) : binOpV P .shr t (.int k a) (.int k' b) = some (.int k (a.fdiv (2 ^ (min b.toNat k.bits)))) := by
  simp [binOpV, shiftOp, Int.not_lt.2 h]
attribute [push_cast] bin_shr
theorem un_xor {n : Int} : unOpV .xor (.int .i64 n) = some (.int .i64 (bitsI .xor .i64 (-1) n)) := rfl
attribute [push_cast] un_xor
theorem shl_wrap {w : Int} (h : w ≤ 32) : IntKind.i64.wrap (1 * 2 ^ (min w.toNat IntKind.i64.bits)) = 2 ^ w.toNat := shl1_pow h
theorem min_bits {n : Nat} (h : n ≤ 64) : min n IntKind.i64.bits = n := Nat.min_eq_left h

theorem gr_mask (bs : List Nat) (H : Heap) (n width : Int) (h0 : 0 ≤ width) (h : width ≤ 16) : callw X bs 171 [.int .i64 n, .int .i64 width] H = some (.int .i64 (n % 2 ^ width.toNat), H) := by
  refine call_at (rs := [.tmp 4]) (N := 10) (fn := Tryz.f171) xk171 xf171 rfl rfl rfl (by simp only [seval, push_cast, List.map_cons, List.map_nil, V.norm, norm1]; rfl) ?_
  have hs := shl_wrap (w := width) (by omega)
  have h1 := pow_le (k := width.toNat) (by omega)
  have h2 := pow_pos' width.toNat
  have hw : IntKind.i64.wrap ((2 : Int) ^ width.toNat - 1) = 2 ^ width.toNat - 1 := by rw [wrap64] <;> omega
  have hm := bits_mask n width.toNat (by omega)
  clear h1 h2
  all_goals try (refine zs ?_; repeat' first | apply zs0 | apply zs2 | (intro hc; try have hq := dq hc))

theorem gr_truth (bs : List Nat) (H : Heap) (b : Bool) : callw X bs 234 [.bool b] H = some (.int .i64 (if b = true then 1 else 0), H) := by
  refine call_at (rs := [.tmp 2]) (N := 4) (fn := Tryz.f234) xk234 xf234 rfl rfl rfl (by simp only [seval, push_cast, List.map_cons, List.map_nil, V.norm, norm1]; rfl) ?_
  cases b
  · all_goals try (refine zs ?_; repeat' first | apply zs0 | apply zs2 | (intro hc; try have hq := dq hc))
  · all_goals try (refine zs ?_; repeat' first | apply zs0 | apply zs2 | (intro hc; try have hq := dq hc))
attribute [push_cast] gr_truth

theorem bits_11 : bitsI .and .i64 1 1 = 1 := by
  have := bits_and 1 1 (by decide) (by decide)
  simpa using this
theorem bits_01 : bitsI .and .i64 0 1 = 0 := by
  have := bits_and 0 1 (by decide) (by decide)
  simpa using this
theorem gr_signed (bs : List Nat) (H : Heap) (n w : Int) (hn : InW n w) (h1 : 1 ≤ w) (h16 : w ≤ 16) : callw X bs 183 [.int .i64 n, .int .i64 w] H = some (.int .i64 (sgn n w), H) := by
  refine call_at (rs := [.tmp 4]) (N := 16) (fn := Tryz.f183) xk183 xf183 rfl rfl rfl (by simp only [seval, push_cast, List.map_cons, List.map_nil, V.norm, norm1]; rfl) ?_
  obtain ⟨n0, n1⟩ := hn
  have e0 : IntKind.i64.wrap (w - 1) = w - 1 := by rw [wrap64] <;> omega
  have e1 : (0 : Int) ≤ w - 1 := by omega
  have e7 : (0 : Int) ≤ w := by omega
  have e2 : min (w - 1).toNat IntKind.i64.bits = w.toNat - 1 := by rw [min_bits (by omega)]; omega
  have hp := pow_pos' (w.toNat - 1)
  have hps := pow_two_succ h1
  have hs := shl_wrap (w := w) (by omega)
  have hle := pow_le (k := w.toNat) (by omega)
  unfold sgn
  by_cases hc : 2 ^ (w.toNat - 1) ≤ n
  · have e3 : n.fdiv (2 ^ (w.toNat - 1)) = 1 := by
      rw [Int.fdiv_eq_ediv_of_nonneg _ (by omega)]
      have a1 : 1 ≤ n / 2 ^ (w.toNat - 1) := (Int.le_ediv_iff_mul_le hp).2 (by omega)
      have a2 : n / 2 ^ (w.toNat - 1) < 2 := (Int.ediv_lt_iff_lt_mul hp).2 (by omega)
      omega
    have e4 : bitsI .and .i64 1 1 = 1 := bits_11
    have e5 : IntKind.i64.wrap (n - 2 ^ w.toNat) = n - 2 ^ w.toNat := by rw [wrap64] <;> omega
    rw [if_pos hc]
    clear hc hp hps hle n0 n1
    all_goals try (refine zs ?_; repeat' first | apply zs0 | apply zs2 | (intro hc; try have hq := dq hc))
  · have e3 : n.fdiv (2 ^ (w.toNat - 1)) = 0 := by
      rw [Int.fdiv_eq_ediv_of_nonneg _ (by omega)]
      exact Int.ediv_eq_zero_of_lt n0 (by omega)
    have e4 : bitsI .and .i64 0 1 = 0 := bits_01
    rw [if_neg hc]
    clear hc hp hps hle n0 n1 hs
    all_goals try (refine zs ?_; repeat' first | apply zs0 | apply zs2 | (intro hc; try have hq := dq hc))

theorem gr_and (bs : List Nat) (H : Heap) (x y : Int) : callw X bs 173 [.int .i64 x, .int .i64 y] H = some (.int .i64 (bitsI .and .i64 x y), H) := by
  refine call_at (rs := [.tmp 4]) (N := 8) (fn := Tryz.f173) xk173 xf173 rfl rfl rfl (by simp only [seval, push_cast, List.map_cons, List.map_nil, V.norm, norm1]; rfl) ?_
  all_goals try (refine zs ?_; repeat' first | apply zs0 | apply zs2 | (intro hc; try have hq := dq hc))
attribute [push_cast] gr_and

theorem gr_or (bs : List Nat) (H : Heap) (x y : Int) : callw X bs 174 [.int .i64 x, .int .i64 y] H = some (.int .i64 (bitsI .or .i64 x y), H) := by
  refine call_at (rs := [.tmp 4]) (N := 8) (fn := Tryz.f174) xk174 xf174 rfl rfl rfl (by simp only [seval, push_cast, List.map_cons, List.map_nil, V.norm, norm1]; rfl) ?_
  all_goals try (refine zs ?_; repeat' first | apply zs0 | apply zs2 | (intro hc; try have hq := dq hc))
attribute [push_cast] gr_or

theorem gr_xor (bs : List Nat) (H : Heap) (x y : Int) : callw X bs 175 [.int .i64 x, .int .i64 y] H = some (.int .i64 (bitsI .xor .i64 x y), H) := by
  refine call_at (rs := [.tmp 4]) (N := 8) (fn := Tryz.f175) xk175 xf175 rfl rfl rfl (by simp only [seval, push_cast, List.map_cons, List.map_nil, V.norm, norm1]; rfl) ?_
  all_goals try (refine zs ?_; repeat' first | apply zs0 | apply zs2 | (intro hc; try have hq := dq hc))
attribute [push_cast] gr_xor

theorem gr_add (bs : List Nat) (H : Heap) (x y : Int) : callw X bs 176 [.int .i64 x, .int .i64 y] H = some (.int .i64 (IntKind.i64.wrap (x + y)), H) := by
  refine call_at (rs := [.tmp 4]) (N := 8) (fn := Tryz.f176) xk176 xf176 rfl rfl rfl (by simp only [seval, push_cast, List.map_cons, List.map_nil, V.norm, norm1]; rfl) ?_
  all_goals try (refine zs ?_; repeat' first | apply zs0 | apply zs2 | (intro hc; try have hq := dq hc))
attribute [push_cast] gr_add

theorem gr_sub (bs : List Nat) (H : Heap) (x y : Int) : callw X bs 177 [.int .i64 x, .int .i64 y] H = some (.int .i64 (IntKind.i64.wrap (x - y)), H) := by
  refine call_at (rs := [.tmp 4]) (N := 8) (fn := Tryz.f177) xk177 xf177 rfl rfl rfl (by simp only [seval, push_cast, List.map_cons, List.map_nil, V.norm, norm1]; rfl) ?_
  all_goals try (refine zs ?_; repeat' first | apply zs0 | apply zs2 | (intro hc; try have hq := dq hc))
attribute [push_cast] gr_sub

theorem gr_mul (bs : List Nat) (H : Heap) (x y : Int) : callw X bs 178 [.int .i64 x, .int .i64 y] H = some (.int .i64 (IntKind.i64.wrap (x * y)), H) := by
  refine call_at (rs := [.tmp 4]) (N := 8) (fn := Tryz.f178) xk178 xf178 rfl rfl rfl (by simp only [seval, push_cast, List.map_cons, List.map_nil, V.norm, norm1]; rfl) ?_
  all_goals try (refine zs ?_; repeat' first | apply zs0 | apply zs2 | (intro hc; try have hq := dq hc))
attribute [push_cast] gr_mul

theorem gr_eq (bs : List Nat) (H : Heap) (x y w : Int) : callw X bs 180 [.int .i64 x, .int .i64 y, .int .i64 w] H = some (.bool (decide (x = y)), H) := by
  refine call_at (rs := [.tmp 6]) (N := 10) (fn := Tryz.f180) xk180 xf180 rfl rfl rfl (by simp only [seval, push_cast, List.map_cons, List.map_nil, V.norm, norm1]; rfl) ?_
  all_goals try (refine zs ?_; repeat' first | apply zs0 | apply zs2 | (intro hc; try have hq := dq hc))
attribute [push_cast] gr_eq

theorem gr_lt (bs : List Nat) (H : Heap) (x y w : Int) : callw X bs 181 [.int .i64 x, .int .i64 y, .int .i64 w] H = some (.bool (decide (x < y)), H) := by
  refine call_at (rs := [.tmp 6]) (N := 10) (fn := Tryz.f181) xk181 xf181 rfl rfl rfl (by simp only [seval, push_cast, List.map_cons, List.map_nil, V.norm, norm1]; rfl) ?_
  all_goals try (refine zs ?_; repeat' first | apply zs0 | apply zs2 | (intro hc; try have hq := dq hc))
attribute [push_cast] gr_lt

theorem gr_slt (bs : List Nat) (H : Heap) (x y w : Int) (hx : InW x w) (hy : InW y w) (h1 : 1 ≤ w) (h16 : w ≤ 16) : callw X bs 182 [.int .i64 x, .int .i64 y, .int .i64 w] H = some (.bool (decide (sgn x w < sgn y w)), H) := by
  refine call_at (rs := [.tmp 6]) (N := 14) (fn := Tryz.f182) xk182 xf182 rfl rfl rfl (by simp only [seval, push_cast, List.map_cons, List.map_nil, V.norm, norm1]; rfl) ?_
  have t1 := fun bs H => gr_signed bs H x w hx h1 h16
  have t2 := fun bs H => gr_signed bs H y w hy h1 h16
  clear hx hy
  all_goals try (refine zs ?_; repeat' first | apply zs0 | apply zs2 | (intro hc; try have hq := dq hc))

theorem gr_bin (bs : List Nat) (H : Heap) (op W v : Int) (ar w : List V) (f : Nat) (p q r : Int) (h0 : 0 ≤ W) (h16 : W ≤ 16) (hf : ∀ bs H, callw X bs f [.int .i64 p, .int .i64 q] H = some (.int .i64 r, H)) : callw X bs 231 [.agg [.int .i64 op, .int .i64 W, .list ar, .int .i64 v], .list w, .list [.int .i64 p, .int .i64 q], .eptr [.func f []] 0] H = some (.int .i64 (r % 2 ^ W.toNat), H) := by
  refine call_at (rs := [.tmp 7]) (N := 19) (fn := Tryz.f231) xk231 xf231 rfl rfl rfl (by simp only [seval, push_cast, List.map_cons, List.map_nil, V.norm, norm1]; rfl) ?_
  have t1 := fun bs H => gr_mask bs H r W h0 h16
  repeat' first
   | (apply z51 (id := 1) (ord := [0, 1, 2, 3, 4, 5, 6, 8, 9, 7, 10, 11]) (ps := [(8, 9)]) <;> first | kernel_rfl | skip)
   | (refine zs ?_; repeat' first | apply zs0 | apply zs2 | (intro hc; try have hq := dq hc)) | fail

theorem gr_rel (bs : List Nat) (H : Heap) (op W v : Int) (ar w : List V) (f : Nat) (p q s : Int) (b : Bool) (hf : ∀ bs H, callw X bs f [.int .i64 p, .int .i64 q, .int .i64 s] H = some (.bool b, H)) : callw X bs 233 [.agg [.int .i64 op, .int .i64 W, .list ar, .int .i64 v], .list (.int .i64 s :: w), .list [.int .i64 p, .int .i64 q], .eptr [.func f []] 0] H = some (.int .i64 (if b = true then 1 else 0), H) := by
  refine call_at (rs := [.tmp 7]) (N := 20) (fn := Tryz.f233) xk233 xf233 rfl rfl rfl (by simp only [seval, push_cast, List.map_cons, List.map_nil, V.norm, norm1]; rfl) ?_
  repeat' first
   | (apply z50 (id := 1) (ord := [0, 1, 2, 3, 4, 5, 6, 7, 8, 9, 10, 11, 12]) <;> first | kernel_rfl | skip)
   | (refine zs ?_; repeat' first | apply zs0 | apply zs2 | (intro hc; try have hq := dq hc)) | fail

theorem gr_r0 (bs : List Nat) (H : Heap) (op W v : Int) (ar w a : List V) : callw X bs 167 [.agg [.int .i64 op, .int .i64 W, .list ar, .int .i64 v], .list w, .list a] H = some (.int .i64 v, H) := by
  refine call_at (rs := [.tmp 6]) (N := 9) (fn := Tryz.f167) xk167 xf167 rfl rfl rfl (by simp only [seval, push_cast, List.map_cons, List.map_nil, V.norm, norm1]; rfl) ?_
  all_goals try (refine zs ?_; repeat' first | apply zs0 | apply zs2 | (intro hc; try have hq := dq hc))

theorem gr_r2 (bs : List Nat) (H : Heap) (op W v x : Int) (ar w : List V) (hx : InW x W) (h1 : 1 ≤ W) (h16 : W ≤ 16) : callw X bs 170 [.agg [.int .i64 op, .int .i64 W, .list ar, .int .i64 v], .list w, .list [.int .i64 x]] H = some (.int .i64 (2 ^ W.toNat - 1 - x), H) := by
  refine call_at (rs := [.tmp 6]) (N := 14) (fn := Tryz.f170) xk170 xf170 rfl rfl rfl (by simp only [seval, push_cast, List.map_cons, List.map_nil, V.norm, norm1]; rfl) ?_
  obtain ⟨a1, a2⟩ := hx
  have hp := pow_le (k := W.toNat) (by omega)
  obtain ⟨m, rfl⟩ : ∃ m : Nat, x = m := ⟨x.toNat, by omega⟩
  have e1 : bitsI .xor .i64 (-1) m = -1 - (m : Int) := bits_not m (by
    have : (2 : Nat) ^ 32 = 4294967296 := by decide
    omega)
  have e2 : (-1 - (m : Int)) % 2 ^ W.toNat = 2 ^ W.toNat - 1 - m := by
    rw [← Int.add_emod_right, Int.emod_eq_of_lt (by omega) (by omega)]; omega
  have t1 := fun bs H => gr_mask bs H (-1 - (m : Int)) W (by omega) h16
  rw [e2] at t1
  clear e2 hp a1 a2 h1 h16
  repeat' first
   | (apply z50 (id := 1) (ord := [0, 1, 2, 3, 4, 5, 6, 7]) <;> first | kernel_rfl | skip)
   | (refine zs ?_; repeat' first | apply zs0 | apply zs2 | (intro hc; try have hq := dq hc)) | fail

theorem gr_r12 (bs : List Nat) (H : Heap) (op W v x y z : Int) (ar w : List V) : callw X bs 185 [.agg [.int .i64 op, .int .i64 W, .list ar, .int .i64 v], .list w, .list [.int .i64 x, .int .i64 y, .int .i64 z]] H = some (.int .i64 (if x = 1 then y else z), H) := by
  refine call_at (rs := [.tmp 6]) (N := 17) (fn := Tryz.f185) xk185 xf185 rfl rfl rfl (by simp only [seval, push_cast, List.map_cons, List.map_nil, V.norm, norm1]; rfl) ?_
  by_cases h : x = 1
  · have d : decide (x = 1) = true := decide_eq_true h
    rw [if_pos h]
    clear h
    all_goals try (refine zs ?_; repeat' first | apply zs0 | apply zs2 | (intro hc; try have hq := dq hc))
  · have d : decide (x = 1) = false := decide_eq_false h
    rw [if_neg h]
    clear h
    all_goals try (refine zs ?_; repeat' first | apply zs0 | apply zs2 | (intro hc; try have hq := dq hc))

theorem shl_small {x q : Int} (hx : 0 ≤ x ∧ x < 65536) (h0 : 0 ≤ q) (h : q ≤ 16) : IntKind.i64.wrap (x * 2 ^ (min q.toNat IntKind.i64.bits)) = x * 2 ^ q.toNat := by
  rw [min_bits (by omega)]
  have h1 := pow_le (k := q.toNat) (by omega)
  have h2 := pow_pos' q.toNat
  have h3 : x * 2 ^ q.toNat ≤ 65536 * 4294967296 := Int.le_trans (Int.mul_le_mul_of_nonneg_right (by omega) (by omega)) (Int.mul_le_mul_of_nonneg_left h1 (by omega))
  have h4 := Int.mul_nonneg hx.1 (Int.le_of_lt h2)
  rw [wrap64] <;> omega
theorem or_add {x y q : Int} (hx : 0 ≤ x ∧ x < 65536) (h0 : 0 ≤ q) (h : q ≤ 16) (hy : InW y q) : bitsI .or .i64 (x * 2 ^ q.toNat) y = x * 2 ^ q.toNat + y := by
  obtain ⟨y1, y2⟩ := hy
  obtain ⟨a, rfl⟩ : ∃ a : Nat, x = a := ⟨x.toNat, by omega⟩
  obtain ⟨b, rfl⟩ : ∃ b : Nat, y = b := ⟨y.toNat, by omega⟩
  have hb : b < 2 ^ q.toNat := by rw [← pow_nat] at y2; omega
  have h3 : 2 ^ q.toNat ≤ 2 ^ 16 := Nat.pow_le_pow_right (by omega) (by omega)
  have c16 : (2 : Nat) ^ 16 = 65536 := by decide
  have c32 : (2 : Nat) ^ 32 = 4294967296 := by decide
  have h4 : a * 2 ^ q.toNat ≤ 65535 * 65536 := Nat.mul_le_mul (by omega) (by omega)
  have e : ((a : Int) * 2 ^ q.toNat) = ((a * 2 ^ q.toNat : Nat) : Int) := by simp
  rw [e, bits_or _ _ (by omega) (by omega)]
  have := Nat.shiftLeft_add_eq_or_of_lt hb a
  rw [Nat.shiftLeft_eq] at this
  rw [← this]; simp
theorem gr_r13 (bs : List Nat) (H : Heap) (op W v x y s q : Int) (ar w : List V) (hx : 0 ≤ x ∧ x < 65536) (hq0 : 0 ≤ q) (hq : q ≤ 16) (hy : InW y q) : callw X bs 187 [.agg [.int .i64 op, .int .i64 W, .list ar, .int .i64 v], .list (.int .i64 s :: .int .i64 q :: w), .list [.int .i64 x, .int .i64 y]] H = some (.int .i64 (x * 2 ^ q.toNat + y), H) := by
  refine call_at (rs := [.tmp 6]) (N := 18) (fn := Tryz.f187) xk187 xf187 rfl rfl rfl (by simp only [seval, push_cast, List.map_cons, List.map_nil, V.norm, norm1]; rfl) ?_
  have e1 := shl_small hx hq0 hq
  have e2 := or_add hx hq0 hq hy
  clear hx hq hy
  repeat' first
   | (apply z50 (id := 1) (ord := [0, 1, 2, 3, 4, 5, 6, 7, 8, 9, 10, 11]) <;> first | kernel_rfl | skip)
   | (refine zs ?_; repeat' first | apply zs0 | apply zs2 | (intro hc; try have hq := dq hc)) | fail

theorem shr_div {x v : Int} (h0 : 0 ≤ v) (h : v ≤ 64) : x.fdiv (2 ^ (min v.toNat IntKind.i64.bits)) = x / 2 ^ v.toNat := by
  rw [min_bits (by omega), Int.fdiv_eq_ediv_of_nonneg _ (Int.le_of_lt (pow_pos' _))]
theorem gr_r14 (bs : List Nat) (H : Heap) (op W v x : Int) (ar w : List V) (hv0 : 0 ≤ v) (hv : v ≤ 15) (h0 : 0 ≤ W) (h16 : W ≤ 16) : callw X bs 189 [.agg [.int .i64 op, .int .i64 W, .list ar, .int .i64 v], .list w, .list [.int .i64 x]] H = some (.int .i64 (x / 2 ^ v.toNat % 2 ^ W.toNat), H) := by
  refine call_at (rs := [.tmp 6]) (N := 16) (fn := Tryz.f189) xk189 xf189 rfl rfl rfl (by simp only [seval, push_cast, List.map_cons, List.map_nil, V.norm, norm1]; rfl) ?_
  have e1 := shr_div (x := x) hv0 (by omega)
  have t1 := fun bs H => gr_mask bs H (x / 2 ^ v.toNat) W h0 h16
  clear hv h0 h16
  repeat' first
   | (apply z50 (id := 1) (ord := [0, 1, 2, 3, 4, 5, 6, 7, 8, 9]) <;> first | kernel_rfl | skip)
   | (refine zs ?_; repeat' first | apply zs0 | apply zs2 | (intro hc; try have hq := dq hc)) | fail

theorem gr_r15 (bs : List Nat) (H : Heap) (op W v x : Int) (ar w : List V) : callw X bs 191 [.agg [.int .i64 op, .int .i64 W, .list ar, .int .i64 v], .list w, .list [.int .i64 x]] H = some (.int .i64 x, H) := by
  refine call_at (rs := [.tmp 6]) (N := 10) (fn := Tryz.f191) xk191 xf191 rfl rfl rfl (by simp only [seval, push_cast, List.map_cons, List.map_nil, V.norm, norm1]; rfl) ?_
  all_goals try (refine zs ?_; repeat' first | apply zs0 | apply zs2 | (intro hc; try have hq := dq hc))

theorem gr_r16 (bs : List Nat) (H : Heap) (op W v x s : Int) (ar w : List V) (hx : InW x s) (hs1 : 1 ≤ s) (hs16 : s ≤ 16) (h0 : 0 ≤ W) (h16 : W ≤ 16) : callw X bs 192 [.agg [.int .i64 op, .int .i64 W, .list ar, .int .i64 v], .list (.int .i64 s :: w), .list [.int .i64 x]] H = some (.int .i64 (sgn x s % 2 ^ W.toNat), H) := by
  refine call_at (rs := [.tmp 6]) (N := 17) (fn := Tryz.f192) xk192 xf192 rfl rfl rfl (by simp only [seval, push_cast, List.map_cons, List.map_nil, V.norm, norm1]; rfl) ?_
  have t0 := fun bs H => gr_signed bs H x s hx hs1 hs16
  have t1 := fun bs H => gr_mask bs H (sgn x s) W h0 h16
  clear hx hs1 hs16 h0 h16
  repeat' first
   | (apply z51 (id := 1) (ord := [0, 1, 2, 3, 4, 5, 7, 8, 6, 9, 10]) (ps := [(7, 8)]) <;> first | kernel_rfl | skip)
   | (refine zs ?_; repeat' first | apply zs0 | apply zs2 | (intro hc; try have hq := dq hc)) | fail

theorem min_lt {a b : Int} (h : a < b) : (if b < a then b else a) = a := if_neg (by omega)
theorem mul_mod_pow (x : Int) (k : Nat) : x * 2 ^ k % 2 ^ k = 0 := Int.mul_emod_left _ _
theorem gr_r17 (bs : List Nat) (H : Heap) (op W v x y : Int) (ar w : List V) (hx : 0 ≤ x ∧ x < 65536) (hy : 0 ≤ y) (h0 : 0 ≤ W) (h16 : W ≤ 16) : callw X bs 194 [.agg [.int .i64 op, .int .i64 W, .list ar, .int .i64 v], .list w, .list [.int .i64 x, .int .i64 y]] H = some (.int .i64 (if W ≤ y then 0 else x * 2 ^ y.toNat % 2 ^ W.toNat), H) := by
  refine call_at (rs := [.tmp 6]) (N := 20) (fn := Tryz.f194) xk194 xf194 rfl rfl rfl (by simp only [seval, push_cast, List.map_cons, List.map_nil, V.norm, norm1]; rfl) ?_
  by_cases h : W ≤ y
  · have e1 := shl_small hx h0 h16
    have e2 : (if y < W then y else W) = W := if_neg (by omega)
    have e3 : (if W < y then W else y) = W := by split <;> omega
    have t1 := fun bs H => gr_mask bs H (x * 2 ^ W.toNat) W h0 h16
    rw [mul_mod_pow] at t1
    rw [if_pos h]
    clear hx hy h h16
    repeat' first
     | (apply z50 (id := 1) (ord := [0, 1, 2, 3, 4, 5, 6, 7, 8, 9, 10, 11, 12, 13]) <;> first | kernel_rfl | skip)
     | (refine zs ?_; repeat' first | apply zs0 | apply zs2 | (intro hc; try have hq := dq hc)) | fail
  · have e1 := shl_small hx hy (by omega : y ≤ 16)
    have e2 : (if y < W then y else W) = y := if_pos (by omega)
    have e3 : (if W < y then W else y) = y := if_neg (by omega)
    have t1 := fun bs H => gr_mask bs H (x * 2 ^ y.toNat) W h0 h16
    rw [if_neg h]
    clear hx h h0 h16
    repeat' first
     | (apply z50 (id := 1) (ord := [0, 1, 2, 3, 4, 5, 6, 7, 8, 9, 10, 11, 12, 13]) <;> first | kernel_rfl | skip)
     | (refine zs ?_; repeat' first | apply zs0 | apply zs2 | (intro hc; try have hq := dq hc)) | fail

theorem gr_r18 (bs : List Nat) (H : Heap) (op W v x y : Int) (ar w : List V) (hx : InW x W) (hy : 0 ≤ y) (h0 : 0 ≤ W) (h16 : W ≤ 16) : callw X bs 195 [.agg [.int .i64 op, .int .i64 W, .list ar, .int .i64 v], .list w, .list [.int .i64 x, .int .i64 y]] H = some (.int .i64 (if W ≤ y then 0 else x / 2 ^ y.toNat), H) := by
  refine call_at (rs := [.tmp 6]) (N := 17) (fn := Tryz.f195) xk195 xf195 rfl rfl rfl (by simp only [seval, push_cast, List.map_cons, List.map_nil, V.norm, norm1]; rfl) ?_
  by_cases h : W ≤ y
  · have e1 := shr_div (x := x) h0 (by omega)
    have e4 : x / 2 ^ W.toNat = 0 := Int.ediv_eq_zero_of_lt hx.1 hx.2
    have e2 : (if y < W then y else W) = W := if_neg (by omega)
    have e3 : (if W < y then W else y) = W := by split <;> omega
    rw [if_pos h]
    rw [e4] at e1
    clear hx hy h h16 e4
    repeat' first
     | (apply z50 (id := 1) (ord := [0, 1, 2, 3, 4, 5, 6, 7, 8, 9, 10]) <;> first | kernel_rfl | skip)
     | (refine zs ?_; repeat' first | apply zs0 | apply zs2 | (intro hc; try have hq := dq hc)) | fail
  · have e1 := shr_div (x := x) hy (by omega)
    have e2 : (if y < W then y else W) = y := if_pos (by omega)
    have e3 : (if W < y then W else y) = y := if_neg (by omega)
    rw [if_neg h]
    clear hx h h0 h16
    repeat' first
     | (apply z50 (id := 1) (ord := [0, 1, 2, 3, 4, 5, 6, 7, 8, 9, 10]) <;> first | kernel_rfl | skip)
     | (refine zs ?_; repeat' first | apply zs0 | apply zs2 | (intro hc; try have hq := dq hc)) | fail
end Go.E
/- The values of nodes, in plain Lean. Own work. -/
namespace Go.E
def valsOf (vals : List Int) (a : List Int) : List Int := a.map fun n => at0 vals n.toNat
def valN (nodes : List Node) (lv : List Int) (done : List Int) (x : Node) : Int :=
  if x.op = 1 then at0 lv x.value.toNat else applyS x.op.toNat x.width x.value (valsOf done x.args) (widthsOf nodes x.args)
def valsL (nodes : List Node) (lv : List Int) : Nat → List Int
  | 0 => []
  | i + 1 => valsL nodes lv i ++ [match nodes[i]? with | some x => valN nodes lv (valsL nodes lv i) x | none => 0]
theorem valsL_len (nodes : List Node) (lv : List Int) : ∀ i, (valsL nodes lv i).length = i
  | 0 => rfl
  | i + 1 => by rw [valsL, List.length_append, valsL_len nodes lv i]; rfl
theorem eachP_ok {α : Type} (g : Nat → α → Int) : ∀ (l : List α) (i : Nat), (eachP g i l).2 = 0 → ∀ j x, l[j]? = some x → g (i + j) x = 0
  | [], _, _, j, x, hx => by simp at hx
  | y :: r, i, h, j, x, hx => by
    unfold eachP at h
    split at h
    · rename_i hne; exact absurd h hne
    · rename_i hz
      cases j with
      | zero => simp at hx; subst hx; simpa using hz
      | succ j =>
        simp at hx
        have := eachP_ok g r (i + 1) h j x hx
        rwa [show i + 1 + j = i + (j + 1) by omega] at this
/-- What a check of nodes lets by. -/
structure GoodN (leaves : List Int) (nodes : List Node) (i : Nat) (x : Node) : Prop where
  op0 : 0 ≤ x.op
  op18 : x.op ≤ 18
  W1 : 1 ≤ x.width
  W16 : x.width ≤ 16
  la : x.args.length = argC x.op.toNat
  args : ∀ n ∈ x.args, 0 ≤ n ∧ n < i
  val : valueErrS leaves x.op.toNat x = 0
  fit : fitsS x.op.toNat x.width (widthsOf nodes x.args) x.value = true
theorem good_of {leaves : List Int} {nodes : List Node} {i : Nat} {x : Node} (h : nodeErrS leaves nodes i x = 0) : GoodN leaves nodes i x := by
  unfold nodeErrS at h
  split at h
  · omega
  rename_i h1
  split at h
  · omega
  rename_i h2
  split at h
  · omega
  rename_i h3
  split at h
  · omega
  rename_i h4
  split at h
  · rename_i h5; exact absurd h h5
  rename_i h5
  split at h
  case isFalse => omega
  rename_i h6
  simp only [Decidable.not_not] at h1 h3 h5
  have hw : isW x.width = true := by cases hb : isW x.width with | true => rfl | false => exact absurd hb h2
  unfold isW at hw
  rw [Bool.and_eq_true, decide_eq_true_eq, decide_eq_true_eq] at hw
  refine ⟨h1.1, h1.2, hw.1, hw.2, h3, fun n hn => ?_, h5, h6⟩
  rw [Bool.not_eq_true, List.any_eq_false] at h4
  have := h4 n hn
  simp only [Bool.not_eq_true', Bool.and_eq_false_iff, decide_eq_false_iff_not, not_or, Decidable.not_not] at this
  omega
def GoodAll (leaves : List Int) (nodes : List Node) : Prop := ∀ i x, nodes[i]? = some x → GoodN leaves nodes i x
theorem goodAll_of {leaves : List Int} {nodes : List Node} (h : (checkNodesS leaves nodes).2 = 0) : GoodAll leaves nodes := by
  intro i x hx
  unfold checkNodesS at h
  split at h
  · cases h
  split at h
  · rename_i h2; exact absurd h h2
  split at h
  · cases h
  have := eachP_ok _ nodes 0 h i x hx
  rw [Nat.zero_add] at this
  exact good_of this
theorem leaves_of {leaves : List Int} {nodes : List Node} (h : (checkNodesS leaves nodes).2 = 0) : ∀ (j : Nat) w, leaves[j]? = some w → 1 ≤ w ∧ w ≤ 16 := by
  intro j w hw
  unfold checkNodesS at h
  split at h
  · cases h
  split at h
  · rename_i h2; exact absurd h h2
  rename_i h2
  simp only [ne_eq, Decidable.not_not] at h2
  have := eachP_ok _ leaves 0 h2 j w hw
  split at this
  · rename_i hb
    unfold isW at hb
    rw [Bool.and_eq_true, decide_eq_true_eq, decide_eq_true_eq] at hb
    exact hb
  · omega
/-- Values of leaves, as their widths are. -/
def LeafOk (leaves lv : List Int) : Prop := lv.length = leaves.length ∧ ∀ (j : Nat) w v, leaves[j]? = some w → lv[j]? = some v → InW v w
theorem at0_get {l : List Int} {i : Nat} {v : Int} (h : l[i]? = some v) : at0 l i = v := by simp [at0, h]
theorem widthsOf_at (nodes : List Node) (a : List Int) (i : Nat) (n : Int) (y : Node) (h : a[i]? = some n) (hy : nodes[n.toNat]? = some y) : at0 (widthsOf nodes a) i = y.width := by
  simp [at0, widthsOf, h, hy]
theorem valsOf_at (vals a : List Int) (i : Nat) (n : Int) (h : a[i]? = some n) : at0 (valsOf vals a) i = at0 vals n.toNat := by
  simp [at0, valsOf, h]
theorem value_leaf {leaves : List Int} {x : Node} (h : valueErrS leaves 1 x = 0) : 0 ≤ x.value ∧ x.value < leaves.length ∧ at0 leaves x.value.toNat = x.width := by
  have h' : (if 0 ≤ x.value ∧ x.value < leaves.length then (if at0 leaves x.value.toNat = x.width then (0 : Int) else 25) else 6) = 0 := h
  split at h'
  · rename_i h1; split at h'
    · rename_i h2; exact ⟨h1.1, h1.2, h2⟩
    · omega
  · omega
theorem value_slice {leaves : List Int} {x : Node} (h : valueErrS leaves 14 x = 0) : 0 ≤ x.value ∧ x.value ≤ 15 := by
  simp only [valueErrS] at h
  simp at h
  omega
theorem value_const {leaves : List Int} {x : Node} (hW1 : 1 ≤ x.width) (hW : x.width ≤ 16) (h : valueErrS leaves 0 x = 0) : InW x.value x.width := by
  have h2 : fitsG x.value x.width = true := by
    simp only [valueErrS, if_true] at h
    split at h
    · assumption
    · omega
  unfold fitsG at h2
  rw [shl1_pow (by omega)] at h2
  have h3 := pow_le (k := x.width.toNat) (by omega)
  have h4 := pow_pos' x.width.toNat
  rw [wrap64 (by omega) (by omega)] at h2
  rw [Bool.and_eq_true, Bool.and_eq_true, decide_eq_true_eq, decide_eq_true_eq, decide_eq_true_eq] at h2
  exact ⟨by omega, by omega⟩
/-- All values are of their nodes' widths; what a node is computed of is as it should be. -/
theorem vals_ok {leaves lv : List Int} {nodes : List Node} (hg : GoodAll leaves nodes) (hl : LeafOk leaves lv) : ∀ i, i ≤ nodes.length →
    (∀ (j : Nat) x, j < i → nodes[j]? = some x → InW (at0 (valsL nodes lv i) j) x.width) := by
  intro i
  induction i with
  | zero => intro _ j x hj; omega
  | succ i ih =>
    intro hi j x hj hx
    have hlen := valsL_len nodes lv i
    by_cases hji : j < i
    · have e : at0 (valsL nodes lv (i + 1)) j = at0 (valsL nodes lv i) j := by
        simp only [valsL, at0, List.getD, List.getElem?_append_left (by omega : j < (valsL nodes lv i).length)]
      rw [e]
      exact ih (by omega) j x hji hx
    · obtain rfl : j = i := by omega
      have e : at0 (valsL nodes lv (j + 1)) j = valN nodes lv (valsL nodes lv j) x := by
        simp only [valsL, hx, at0, List.getD]
        rw [List.getElem?_append_right (by omega), hlen]; simp
      rw [e]
      exact valN_ok hg hl (ih (by omega)) hx
where
  okArgs {leaves lv : List Int} {nodes : List Node} {i : Nat} {x : Node} (hg : GoodAll leaves nodes) (_hl : LeafOk leaves lv) (hv : ∀ (j : Nat) y, j < i → nodes[j]? = some y → InW (at0 (valsL nodes lv i) j) y.width) (hx : nodes[i]? = some x) :
      OkArgs x.op.toNat x.width x.value (valsOf (valsL nodes lv i) x.args) (widthsOf nodes x.args) := by
    have g := hg i x hx
    have hil : i < nodes.length := (List.getElem?_eq_some_iff.1 hx).1
    have key : ∀ q, q < argC x.op.toNat → ∃ n y, x.args[q]? = some n ∧ nodes[n.toNat]? = some y ∧ n.toNat < i := fun q hq => by
      have h1 : q < x.args.length := by rw [g.la]; exact hq
      have h2 := g.args x.args[q] (List.getElem_mem h1)
      have h3 : (x.args[q]).toNat < nodes.length := by omega
      exact ⟨x.args[q], nodes[(x.args[q]).toNat], by simp [h1], by simp [h3], by omega⟩
    refine ⟨by have := g.op18; omega, g.W1, g.W16, by simp [valsOf, g.la], by simp [widthsOf, g.la], fun q hq => ?_, fun q hq => ?_, g.fit, fun h => ?_, fun h => ?_⟩
    · obtain ⟨n, y, h1, h2, h3⟩ := key q hq
      rw [valsOf_at _ _ _ n h1, widthsOf_at _ _ _ n y h1 h2]
      exact hv n.toNat y h3 h2
    · obtain ⟨n, y, h1, h2, h3⟩ := key q hq
      rw [widthsOf_at _ _ _ n y h1 h2]
      have := hg _ y h2
      exact ⟨this.W1, this.W16⟩
    · have := g.val; rw [h] at this; exact value_slice this
    · have := g.val; rw [h] at this; exact value_const g.W1 g.W16 this
  valN_ok {leaves lv : List Int} {nodes : List Node} {i : Nat} {x : Node} (hg : GoodAll leaves nodes) (hl : LeafOk leaves lv) (hv : ∀ (j : Nat) y, j < i → nodes[j]? = some y → InW (at0 (valsL nodes lv i) j) y.width) (hx : nodes[i]? = some x) :
      InW (valN nodes lv (valsL nodes lv i) x) x.width := by
    have g := hg i x hx
    unfold valN
    split
    · rename_i h1
      have hva := g.val
      rw [h1] at hva
      obtain ⟨a, b, c⟩ := value_leaf hva
      have h2 : x.value.toNat < lv.length := by rw [hl.1]; omega
      have h3 : x.value.toNat < leaves.length := by omega
      have h4 := hl.2 x.value.toNat leaves[x.value.toNat] lv[x.value.toNat] (by simp [h3]) (by simp [h2])
      rw [← at0_get (l := leaves) (i := x.value.toNat) (v := leaves[x.value.toNat]) (by simp [h3]), c] at h4
      rw [at0_get (l := lv) (i := x.value.toNat) (v := lv[x.value.toNat]) (by simp [h2])]
      exact h4
    · rename_i h1
      exact applyS_rng (okArgs hg hl hv hx) (by have := g.op0; omega)
end Go.E
/- Contracts of the package graph, in E: ValuesOf. Own work. -/
namespace Go.E
open Go.Proofs
set_option maxRecDepth 100000
set_option maxHeartbeats 4000000

theorem xk_run : ∀ k, X.keep (runF k) = false
  | 0 | 1 | 2 | 3 | 4 | 5 | 6 | 7 | 8 | 9 | 10 | 11 | 12 | 13 | 14 | 15 | 16 | 17 | 18 => rfl
  | _ + 19 => rfl
theorem InW.w16 {n w : Int} (h : InW n w) (hw : w ≤ 16) : 0 ≤ n ∧ n < 65536 := ⟨h.1, h.lt32 hw⟩
theorem toNat_of {x : Int} (h : 0 ≤ x) : ((x.toNat : Nat) : Int) = x := Int.toNat_of_nonneg h
theorem lt_n32 {n w : Int} (h : InW n w) (hw : w ≤ 16) : n.toNat < 2 ^ 32 := by
  have := h.lt32 hw
  have c : (2 : Nat) ^ 32 = 4294967296 := by decide
  omega
theorem wrap_mul {x y : Int} (hx : 0 ≤ x ∧ x < 65536) (hy : 0 ≤ y ∧ y < 65536) : IntKind.i64.wrap (x * y) = x * y := by
  have h1 : x * y ≤ 65536 * 65536 := Int.le_trans (Int.mul_le_mul_of_nonneg_right (by omega) hy.1) (Int.mul_le_mul_of_nonneg_left (by omega) (by omega))
  have h2 := Int.mul_nonneg hx.1 hy.1
  rw [wrap64] <;> omega
theorem run_call (bs : List Nat) (H : Heap) (k : Nat) (op W v : Int) (ar : List V) (a w : List Int) (h : OkArgs k W v a w) (h1 : k ≠ 1) :
    callw X bs (runF k) (.agg [.int .i64 op, .int .i64 W, .list ar, .int .i64 v] :: .list (w.map (.int .i64)) :: .list (a.map (.int .i64)) :: runC k) H = some (.int .i64 (applyS k W v a w), H) := by
  obtain ⟨hk, hW1, hW16, hla, hlw, hr, hw, hf, hv, hc⟩ := h
  have hW0 : 0 ≤ W := by omega
  match k, hk, a, hla, w, hlw with
  | 0, _, a, _, w, _ => exact gr_r0 bs H op W v ar _ _
  | 1, _, _, _, _, _ => exact absurd rfl h1
  | 2, _, [x], _, [p], _ =>
    have r0 := hr 0 (by decide)
    simp only [fitsS, List.any_cons, List.any_nil, Bool.or_false, Bool.not_eq_true', decide_eq_false_iff_not, Decidable.not_not] at hf
    subst hf
    exact gr_r2 bs H op p v x ar _ r0 hW1 hW16
  | 3, _, [x, y], _, [p, q], _ =>
    have r0 := hr 0 (by decide)
    have r1 := hr 1 (by decide)
    simp only [fitsS, List.any_cons, List.any_nil, Bool.or_false, Bool.not_eq_true', Bool.or_eq_false_iff, decide_eq_false_iff_not, Decidable.not_not] at hf
    obtain ⟨rfl, rfl⟩ := hf
    simp only [at0_cons, at0_1] at r0 r1
    have e := bits_and x.toNat y.toNat (lt_n32 r0 hW16) (lt_n32 r1 hW16)
    rw [toNat_of r0.1, toNat_of r1.1] at e
    have hres := nat_rng (Nat.lt_of_le_of_lt (Nat.and_le_left (m := y.toNat)) (nat_lt r0))
    have := gr_bin bs H op q v ar [.int .i64 q, .int .i64 q] 173 x y _ hW0 hW16 (fun bs H => gr_and bs H x y)
    rw [e, Int.emod_eq_of_lt hres.1 hres.2] at this
    exact this
  | 4, _, [x, y], _, [p, q], _ =>
    have r0 := hr 0 (by decide)
    have r1 := hr 1 (by decide)
    simp only [fitsS, List.any_cons, List.any_nil, Bool.or_false, Bool.not_eq_true', Bool.or_eq_false_iff, decide_eq_false_iff_not, Decidable.not_not] at hf
    obtain ⟨rfl, rfl⟩ := hf
    simp only [at0_cons, at0_1] at r0 r1
    have e := bits_or x.toNat y.toNat (lt_n32 r0 hW16) (lt_n32 r1 hW16)
    rw [toNat_of r0.1, toNat_of r1.1] at e
    have hres := nat_rng (Nat.or_lt_two_pow (nat_lt r0) (nat_lt r1))
    have := gr_bin bs H op q v ar [.int .i64 q, .int .i64 q] 174 x y _ hW0 hW16 (fun bs H => gr_or bs H x y)
    rw [e, Int.emod_eq_of_lt hres.1 hres.2] at this
    exact this
  | 5, _, [x, y], _, [p, q], _ =>
    have r0 := hr 0 (by decide)
    have r1 := hr 1 (by decide)
    simp only [fitsS, List.any_cons, List.any_nil, Bool.or_false, Bool.not_eq_true', Bool.or_eq_false_iff, decide_eq_false_iff_not, Decidable.not_not] at hf
    obtain ⟨rfl, rfl⟩ := hf
    simp only [at0_cons, at0_1] at r0 r1
    have e := bits_xor x.toNat y.toNat (lt_n32 r0 hW16) (lt_n32 r1 hW16)
    rw [toNat_of r0.1, toNat_of r1.1] at e
    have hres := nat_rng (Nat.xor_lt_two_pow (nat_lt r0) (nat_lt r1))
    have := gr_bin bs H op q v ar [.int .i64 q, .int .i64 q] 175 x y _ hW0 hW16 (fun bs H => gr_xor bs H x y)
    rw [e, Int.emod_eq_of_lt hres.1 hres.2] at this
    exact this
  | 6, _, [x, y], _, [p, q], _ =>
    have r0 := hr 0 (by decide)
    have r1 := hr 1 (by decide)
    simp only [fitsS, List.any_cons, List.any_nil, Bool.or_false, Bool.not_eq_true', Bool.or_eq_false_iff, decide_eq_false_iff_not, Decidable.not_not] at hf
    obtain ⟨rfl, rfl⟩ := hf
    simp only [at0_cons, at0_1] at r0 r1
    have b0 := r0.w16 hW16
    have b1 := r1.w16 hW16
    have e : IntKind.i64.wrap (x + y) = x + y := by rw [wrap64] <;> omega
    have := gr_bin bs H op q v ar [.int .i64 q, .int .i64 q] 176 x y _ hW0 hW16 (fun bs H => gr_add bs H x y)
    rw [e] at this
    exact this
  | 7, _, [x, y], _, [p, q], _ =>
    have r0 := hr 0 (by decide)
    have r1 := hr 1 (by decide)
    simp only [fitsS, List.any_cons, List.any_nil, Bool.or_false, Bool.not_eq_true', Bool.or_eq_false_iff, decide_eq_false_iff_not, Decidable.not_not] at hf
    obtain ⟨rfl, rfl⟩ := hf
    simp only [at0_cons, at0_1] at r0 r1
    have b0 := r0.w16 hW16
    have b1 := r1.w16 hW16
    have e : IntKind.i64.wrap (x - y) = x - y := by rw [wrap64] <;> omega
    have := gr_bin bs H op q v ar [.int .i64 q, .int .i64 q] 177 x y _ hW0 hW16 (fun bs H => gr_sub bs H x y)
    rw [e] at this
    exact this
  | 8, _, [x, y], _, [p, q], _ =>
    have r0 := hr 0 (by decide)
    have r1 := hr 1 (by decide)
    simp only [fitsS, List.any_cons, List.any_nil, Bool.or_false, Bool.not_eq_true', Bool.or_eq_false_iff, decide_eq_false_iff_not, Decidable.not_not] at hf
    obtain ⟨rfl, rfl⟩ := hf
    simp only [at0_cons, at0_1] at r0 r1
    have b0 := r0.w16 hW16
    have b1 := r1.w16 hW16
    have e : IntKind.i64.wrap (x * y) = x * y := wrap_mul b0 b1
    have := gr_bin bs H op q v ar [.int .i64 q, .int .i64 q] 178 x y _ hW0 hW16 (fun bs H => gr_mul bs H x y)
    rw [e] at this
    exact this
  | 9, _, [x, y], _, [p, q], _ =>
    have := gr_rel bs H op W v ar [.int .i64 q] 180 x y p _ (fun bs H => gr_eq bs H x y p)
    simp only [decide_eq_true_eq] at this
    exact this
  | 10, _, [x, y], _, [p, q], _ =>
    have := gr_rel bs H op W v ar [.int .i64 q] 181 x y p _ (fun bs H => gr_lt bs H x y p)
    simp only [decide_eq_true_eq] at this
    exact this
  | 11, _, [x, y], _, [p, q], _ =>
    have r0 := hr 0 (by decide)
    have r1 := hr 1 (by decide)
    have w0 := hw 0 (by decide)
    have hf2 : (decide (W = 1) && decide (p = q)) = true := hf
    rw [Bool.and_eq_true] at hf2
    obtain rfl := of_decide_eq_true hf2.2
    simp only [at0_cons, at0_1] at r0 r1 w0
    have := gr_rel bs H op W v ar [.int .i64 p] 182 x y p _ (fun bs H => gr_slt bs H x y p r0 r1 w0.1 w0.2)
    simp only [decide_eq_true_eq] at this
    exact this
  | 12, _, [x, y, z], _, [p, q, r], _ => exact gr_r12 bs H op W v x y z ar _
  | 13, _, [x, y], _, [p, q], _ =>
    have r0 := hr 0 (by decide)
    have r1 := hr 1 (by decide)
    have w0 := hw 0 (by decide)
    have w1 := hw 1 (by decide)
    simp only [at0_cons, at0_1] at r0 r1 w0 w1
    exact gr_r13 bs H op W v x y p q ar [] (r0.w16 w0.2) (by omega) w1.2 r1
  | 14, _, [x], _, [p], _ => exact gr_r14 bs H op W v x ar _ (hv rfl).1 (hv rfl).2 hW0 hW16
  | 15, _, [x], _, [p], _ => exact gr_r15 bs H op W v x ar _
  | 16, _, [x], _, [p], _ =>
    have r0 := hr 0 (by decide)
    have w0 := hw 0 (by decide)
    simp only [at0_cons] at r0 w0
    exact gr_r16 bs H op W v x p ar [] r0 w0.1 w0.2 hW0 hW16
  | 17, _, [x, y], _, [p, q], _ =>
    have r0 := hr 0 (by decide)
    have r1 := hr 1 (by decide)
    have w0 := hw 0 (by decide)
    simp only [at0_cons, at0_1] at r0 r1 w0
    exact gr_r17 bs H op W v x y ar _ (r0.w16 w0.2) r1.1 hW0 hW16
  | 18, _, [x, y], _, [p, q], _ =>
    have r0 := hr 0 (by decide)
    have r1 := hr 1 (by decide)
    obtain rfl : p = W := of_decide_eq_true hf
    simp only [at0_cons, at0_1] at r0 r1
    exact gr_r18 bs H op p v x y ar _ r0 r1.1 hW0 hW16
  | k + 19, hk, _, _, _, _ => omega

section
variable {cx : Cx} {bs : List Nat} {f t : Nat} {a b : V} {es r : List V} {H : Heap}
theorem cn_t1 (hk : cx.keep f = false) : callw cx bs f (a :: .tl t es :: r) H = callw cx bs f (a :: .list es :: r) H := callw_norm hk rfl
theorem cn_t2 (hk : cx.keep f = false) : callw cx bs f (a :: b :: .tl t es :: r) H = callw cx bs f (a :: b :: .list es :: r) H := callw_norm hk rfl
end
attribute [push_cast] cn_t1 cn_t2 xk_run
theorem opsAll_run : ∀ k, k < 19 → opsAll[k * 5 + 4]? = some (.func (runF k) (runC k)) := by
  intro k hk
  match k, hk with
  | 0, _ | 1, _ | 2, _ | 3, _ | 4, _ | 5, _ | 6, _ | 7, _ | 8, _ | 9, _ | 10, _ | 11, _ | 12, _ | 13, _ | 14, _ | 15, _ | 16, _ | 17, _ | 18, _ => rfl
  | k + 19, hk => omega
theorem valsOf_snoc (vals a : List Int) (n v : Int) (h : vals[n.toNat]? = some v) : valsOf vals (a ++ [n]) = valsOf vals a ++ [v] := by simp [valsOf, at0, h]
/-- The loop that collects widths and values. -/
theorem ap_loop (bs : List Nat) (H : Heap) (cx : HObj) (nodes : List Node) (vals args : List Int) (hl : args.length ≤ 1000000) (hargs : ∀ n ∈ args, 0 ≤ n ∧ n < nodes.length ∧ n < vals.length) :
    ∀ i ρ H', i ≤ args.length → (∃ ws vs, ws = widthsOf nodes (args.take i) ∧ vs = valsOf vals (args.take i) ∧ H' = H ++ [cx, .tok ws.length, .tok vs.length] ∧ ρ 1 = .list (nodes.map encNode) ∧ ρ 3 = .list (vals.map (.int .i64)) ∧
        ρ 9 = .tl (H.length + 1) (ws.map (.int .i64)) ∧ ρ 10 = .tl (H.length + 2) (vs.map (.int .i64)) ∧ ρ 14 = .list (args.map (.int .i64)) ∧ ρ 15 = .int .i64 args.length ∧ ρ 16 = .int .i64 i) →
      Lp X ⟨47, bs⟩ (loopAt Tryz.f235 0) ρ H' fun ex ρ' H' => H' = H ++ [cx, .tok args.length, .tok args.length] ∧ ex = .exit 0 ∧ ρ' 9 = .tl (H.length + 1) ((widthsOf nodes args).map (.int .i64)) ∧ ρ' 10 = .tl (H.length + 2) ((valsOf vals args).map (.int .i64)) := by
  refine loop_up ?_ ?_
  · rintro i ρ H' hi ⟨ws, vs, hws, hvs, rfl, h1, h3, h9, h10, h14, h15, h16⟩
    have hget : args[i]? = some args[i] := by simp [hi]
    have hm := hargs args[i] (List.getElem_mem hi)
    have htk : args.take (i + 1) = args.take i ++ [args[i]] := by rw [List.take_add_one, hget]; rfl
    generalize args[i] = n at hget hm htk
    obtain ⟨m, rfl⟩ : ∃ m : Nat, n = m := ⟨n.toNat, by omega⟩
    have hlt : m < nodes.length := by omega
    have hltv : m < vals.length := by omega
    have hget2 : nodes[m]? = some nodes[m] := by simp [hlt]
    have hget3 : vals[m]? = some vals[m] := by simp [hltv]
    have hsn := widthsOf_snoc nodes (args.take i) m nodes[m] (by simp)
    have hsv := valsOf_snoc vals (args.take i) m vals[m] (by simp)
    generalize nodes[m] = y at hget2 hsn
    generalize vals[m] = z at hget3 hsv
    have hlen : ws.length = i := by rw [hws]; simp [widthsOf]; omega
    have hlenv : vs.length = i := by rw [hvs]; simp [valsOf]; omega
    have hroom := room8 ws.length (by omega)
    have hroomv := room8 vs.length (by omega)
    have hw := add1 i args.length hi hl
    rw [← hws, ← htk] at hsn
    rw [← hvs, ← htk] at hsv
    replace hws : Kp (ws = widthsOf nodes (args.take i)) := ⟨hws⟩
    replace hvs : Kp (vs = valsOf vals (args.take i)) := ⟨hvs⟩
    replace hsn : Kp (widthsOf nodes (args.take (i + 1)) = ws ++ [y.width]) := ⟨hsn⟩
    replace hsv : Kp (valsOf vals (args.take (i + 1)) = vs ++ [z]) := ⟨hsv⟩
    replace hlen : Kp (ws.length = i) := ⟨hlen⟩
    replace hlenv : Kp (vs.length = i) := ⟨hlenv⟩
    clear htk hm hlt hltv hargs
    conv => arg 3; whnf
    repeat' first
     | (apply z51 (id := 5) (ord := [0, 1, 2, 3, 4, 5, 6, 8, 9, 10, 11, 12, 13, 7, 14, 15, 16]) (ps := [(11, 13), (12, 13)]) <;> first | kernel_rfl | skip)
     | (apply z50 (id := 7) (ord := [0, 1, 2, 3, 4, 5, 6, 7, 8, 9, 10, 11]) <;> first | kernel_rfl | skip)
     | (refine zs ?_; repeat' first | apply zs0 | apply zs2 | (intro hc; try have hq := dq hc)) | fail
    exact ⟨ws ++ [y.width], vs ++ [z], hsn.out.symm, hsv.out.symm, by simp, by (simp only [seval, push_cast, *] <;> rfl), by (simp only [seval, push_cast, *] <;> rfl), by simp [push_cast], by simp [push_cast], by (simp only [seval, push_cast, *] <;> rfl), by (simp only [seval, push_cast, *] <;> rfl), by (simp only [seval, push_cast, *] <;> rfl)⟩
  · rintro ρ H' ⟨ws, vs, hws, hvs, rfl, h1, h3, h9, h10, h14, h15, h16⟩
    rw [List.take_length] at hws hvs
    have hlen : ws.length = args.length := by rw [hws]; simp [widthsOf]
    have hlenv : vs.length = args.length := by rw [hvs]; simp [valsOf]
    replace hws : Kp (ws = widthsOf nodes args) := ⟨hws⟩
    replace hvs : Kp (vs = valsOf vals args) := ⟨hvs⟩
    replace hlen : Kp (ws.length = args.length) := ⟨hlen⟩
    replace hlenv : Kp (vs.length = args.length) := ⟨hlenv⟩
    clear hargs
    conv => arg 3; whnf
    repeat' first
     | (apply z51 (id := 5) (ord := [0, 1, 2, 3, 4, 5, 6, 8, 9, 10, 11, 12, 13, 7, 14, 15, 16]) (ps := [(11, 13), (12, 13)]) <;> first | kernel_rfl | skip)
     | (apply z50 (id := 7) (ord := [0, 1, 2, 3, 4, 5, 6, 7, 8, 9, 10, 11]) <;> first | kernel_rfl | skip)
     | (refine zs ?_; repeat' first | apply zs0 | apply zs2 | (intro hc; try have hq := dq hc)) | fail
    exact ⟨by rw [hlen.out, hlenv.out], rfl, by rw [← hws.out]; (simp only [seval, push_cast, *] <;> rfl), by rw [← hvs.out]; (simp only [seval, push_cast, *] <;> rfl)⟩
end Go.E
/- Contracts of the package graph, in E: ValuesOf, whole. Own work. -/
namespace Go.E
open Go.Proofs
set_option maxRecDepth 100000
set_option maxHeartbeats 4000000

theorem gr_applied (bs : List Nat) (H : Heap) (nodes : List Node) (x : Node) (vals : List Int) (b : Nat) (hB : H[b]? = some (.cells opsAll)) (hal : x.args.length ≤ 1000000) (h0 : 0 ≤ x.op) (h1 : x.op ≠ 1) (hargs : ∀ n ∈ x.args, 0 ≤ n ∧ n < nodes.length ∧ n < vals.length) (hok : OkArgs x.op.toNat x.width x.value (valsOf vals x.args) (widthsOf nodes x.args)) : callw X bs 235 [.ptr b 0, .list (nodes.map encNode), encNode x, .list (vals.map (.int .i64))] H = some (.int .i64 (applyS x.op.toNat x.width x.value (valsOf vals x.args) (widthsOf nodes x.args)), H) := by
  refine call_at (rs := [.tmp 8]) (N := 47) (fn := Tryz.f235) xk235 xf235 rfl rfl rfl (by simp only [seval, push_cast, List.map_cons, List.map_nil, V.norm, norm1]; rfl) ?_
  have hB2 := get_app hB
  have hrun := fun bs H => run_call bs H x.op.toNat x.op x.width x.value (x.args.map (.int .i64)) _ _ hok (by omega)
  have hk19 := hok.k19
  obtain ⟨k, hk⟩ : ∃ k : Nat, x.op = k := ⟨x.op.toNat, by omega⟩
  rw [hk, Int.toNat_natCast] at hrun hk19
  rw [hk, Int.toNat_natCast]
  have hat := opsAll_run k hk19
  have h95 : k * 5 + 5 ≤ 95 := by omega
  have hlen95 := opsAll_len
  have hloop := fun (bs : List Nat) (cx : HObj) (ρ : Env) => ap_loop bs H cx nodes vals x.args hal hargs 0 ρ
  clear hargs hok hB
  repeat' first
   | (apply z51 (id := 5) (ord := [0, 1, 2, 3, 4, 5, 6, 8, 9, 10, 11, 12, 13, 7, 14, 15, 16]) (ps := [(11, 13), (12, 13)]) <;> first | kernel_rfl | skip)
   | (apply z50 (id := 7) (ord := [0, 1, 2, 3, 4, 5, 6, 7, 8, 9, 10, 11]) <;> first | kernel_rfl | skip)
   | (refine zs ?_; repeat' first | apply zs0 | apply zs2 | (intro hc; try have hq := dq hc)) | fail
  refine lp_then (lp_any (c := loopAt Tryz.f235 0) rfl (hloop _ _ _ _ (by omega) ⟨[], [], rfl, rfl, rfl, by (simp only [seval, push_cast, *] <;> rfl), by (simp only [seval, push_cast, *] <;> rfl), by (simp only [seval, push_cast, *] <;> rfl), by (simp only [seval, push_cast, *] <;> rfl), by (simp only [seval, push_cast, *] <;> rfl), by (simp only [seval, push_cast, *] <;> rfl), by (simp only [seval, push_cast, *] <;> rfl)⟩)) ?_
  rintro ex ρ' H' ⟨rfl, rfl, h9, h10⟩ hf
  have f0 := hf 0 rfl
  have f6 := hf 6 rfl
  simp only [seval, push_cast] at f0 f6
  clear hloop
  repeat' first
   | (apply z51 (id := 5) (ord := [0, 1, 2, 3, 4, 5, 6, 8, 9, 10, 11, 12, 13, 7, 14, 15, 16]) (ps := [(11, 13), (12, 13)]) <;> first | kernel_rfl | skip)
   | (apply z50 (id := 7) (ord := [0, 1, 2, 3, 4, 5, 6, 7, 8, 9, 10, 11]) <;> first | kernel_rfl | skip)
   | (refine zs ?_; repeat' first | apply zs0 | apply zs2 | (intro hc; try have hq := dq hc)) | fail

theorem valsL_succ (nodes : List Node) (lv : List Int) (i : Nat) (x : Node) (h : nodes[i]? = some x) : valsL nodes lv (i + 1) = valsL nodes lv i ++ [valN nodes lv (valsL nodes lv i) x] := by simp only [valsL, h]
theorem va_loop (bs : List Nat) (H : Heap) (t : HObj) (leaves lv : List Int) (nodes : List Node) (hn : nodes.length ≤ 1000000) (hal : ∀ x ∈ nodes, x.args.length ≤ 1000000) (hg : GoodAll leaves nodes) (hl : LeafOk leaves lv) :
    ∀ i ρ H', i ≤ nodes.length → (∃ vs junk, vs = valsL nodes lv i ∧ H' = H ++ t :: .cells opsAll :: .tok vs.length :: junk ∧ ρ 0 = .list (nodes.map encNode) ∧ ρ 1 = .list (lv.map (.int .i64)) ∧ ρ 5 = .ptr (H.length + 1) 0 ∧
        ρ 6 = .tl (H.length + 2) (vs.map (.int .i64)) ∧ ρ 11 = .list (nodes.map encNode) ∧ ρ 12 = .int .i64 nodes.length ∧ ρ 13 = .int .i64 i) →
      Lp X ⟨38, bs⟩ (loopAt Tryz.f204 0) ρ H' fun ex ρ' H' => ∃ vs junk, vs = valsL nodes lv nodes.length ∧ H' = H ++ t :: .cells opsAll :: .tok vs.length :: junk ∧ ex = .exit 0 ∧ ρ' 6 = .tl (H.length + 2) (vs.map (.int .i64)) := by
  refine loop_up ?_ ?_
  · rintro i ρ H' hi ⟨vs, junk, hvs, rfl, h0, h1, h5, h6, h11, h12, h13⟩
    have hget : nodes[i]? = some nodes[i] := by simp [hi]
    have hal' := hal nodes[i] (List.getElem_mem hi)
    have g := hg i nodes[i] hget
    have hok := vals_ok.okArgs hg hl (vals_ok hg hl i (by omega)) hget
    have hsv := valsL_succ nodes lv i nodes[i] hget
    generalize nodes[i] = x at hget hal' g hok hsv
    have hlen : vs.length = i := by rw [hvs]; exact valsL_len nodes lv i
    have hroom := room8 vs.length (by omega)
    have hw := add1 i nodes.length hi hn
    rw [← hvs] at hsv hok
    have hlr : lv.length = leaves.length := hl.1
    clear hg hl hal
    by_cases h1' : x.op = 1
    · have d : decide (x.op = 1) = true := decide_eq_true h1'
      have hva := g.val
      rw [h1'] at hva
      obtain ⟨a, b, c⟩ := value_leaf hva
      obtain ⟨m, hm⟩ : ∃ m : Nat, x.value = m := ⟨x.value.toNat, by omega⟩
      have hlt : m < lv.length := by omega
      have hget2 : lv[m]? = some lv[m] := by simp [hlt]
      have hv : valN nodes lv vs x = lv[m] := by unfold valN; rw [if_pos h1', hm, Int.toNat_natCast]; exact at0_get hget2
      rw [hv] at hsv
      generalize lv[m] = z at hget2 hsv hv
      replace hvs : Kp (vs = valsL nodes lv i) := ⟨hvs⟩
      replace hsv : Kp (valsL nodes lv (i + 1) = vs ++ [z]) := ⟨hsv⟩
      replace hlen : Kp (vs.length = i) := ⟨hlen⟩
      clear hv hva a b c hlt h1' g hok hlr
      conv => arg 3; whnf
      all_goals try (refine zs ?_; repeat' first | apply zs0 | apply zs2 | (intro hc; try have hq := dq hc))
      exact ⟨vs ++ [z], _, hsv.out.symm, by simp only [List.length_append, List.length_singleton]; rfl, by (simp only [seval, push_cast, *] <;> rfl), by (simp only [seval, push_cast, *] <;> rfl), by (simp only [seval, push_cast, *] <;> rfl), by simp [push_cast], by (simp only [seval, push_cast, *] <;> rfl), by (simp only [seval, push_cast, *] <;> rfl), by (simp only [seval, push_cast, *] <;> rfl)⟩
    · have d : decide (x.op = 1) = false := decide_eq_false h1'
      have hv : valN nodes lv vs x = applyS x.op.toNat x.width x.value (valsOf vs x.args) (widthsOf nodes x.args) := by unfold valN; rw [if_neg h1']
      rw [hv] at hsv
      have hap := fun bs rest => gr_applied bs (H ++ t :: .cells opsAll :: rest) nodes x vs (H.length + 1) (by simp) hal' g.op0 h1' (fun n hn => by have := g.args n hn; omega) hok
      simp only [encNode, encInts] at hap
      generalize applyS x.op.toNat x.width x.value (valsOf vs x.args) (widthsOf nodes x.args) = z at hsv hap
      replace hvs : Kp (vs = valsL nodes lv i) := ⟨hvs⟩
      replace hsv : Kp (valsL nodes lv (i + 1) = vs ++ [z]) := ⟨hsv⟩
      replace hlen : Kp (vs.length = i) := ⟨hlen⟩
      clear hv h1' g hok hlr
      conv => arg 3; whnf
      all_goals try (refine zs ?_; repeat' first | apply zs0 | apply zs2 | (intro hc; try have hq := dq hc))
      exact ⟨vs ++ [z], _, hsv.out.symm, by simp only [List.length_append, List.length_singleton]; rfl, by (simp only [seval, push_cast, *] <;> rfl), by (simp only [seval, push_cast, *] <;> rfl), by (simp only [seval, push_cast, *] <;> rfl), by simp [push_cast], by (simp only [seval, push_cast, *] <;> rfl), by (simp only [seval, push_cast, *] <;> rfl), by (simp only [seval, push_cast, *] <;> rfl)⟩
  · rintro ρ H' ⟨vs, junk, hvs, rfl, h0, h1, h5, h6, h11, h12, h13⟩
    replace hvs : Kp (vs = valsL nodes lv nodes.length) := ⟨hvs⟩
    clear hal hg hl
    conv => arg 3; whnf
    all_goals try (refine zs ?_; repeat' first | apply zs0 | apply zs2 | (intro hc; try have hq := dq hc))
    exact ⟨vs, junk, hvs.out, rfl, rfl, by (simp only [seval, push_cast, *] <;> rfl)⟩

theorem gr_valued (bs : List Nat) (H : Heap) (leaves lv : List Int) (nodes : List Node) (hn : nodes.length ≤ 1000000) (hal : ∀ x ∈ nodes, x.args.length ≤ 1000000) (hg : GoodAll leaves nodes) (hl : LeafOk leaves lv) : callw X bs 204 [.list (nodes.map encNode), .list (lv.map (.int .i64))] H = some (.list ((valsL nodes lv nodes.length).map (.int .i64)), H) := by
  refine call_at (rs := [.tmp 4]) (N := 38) (fn := Tryz.f204) xk204 xf204 rfl rfl rfl (by simp only [seval, push_cast, List.map_cons, List.map_nil, V.norm, norm1]; rfl) ?_
  have hloop := fun (bs : List Nat) (t : HObj) (ρ : Env) => va_loop bs H t leaves lv nodes hn hal hg hl 0 ρ
  have hp := opsAll_pure
  have hlen := opsAll_len
  have hc := opsAll_cell
  clear hal hg hl
  all_goals try (refine zs ?_; repeat' first | apply zs0 | apply zs2 | (intro hc; try have hq := dq hc))
  refine lp_then (lp_any (c := loopAt Tryz.f204 0) rfl (hloop _ _ _ _ (by omega) ⟨[], [], rfl, rfl, by (simp only [seval, push_cast, *] <;> rfl), by (simp only [seval, push_cast, *] <;> rfl), by (simp only [seval, push_cast, *] <;> rfl), by (simp only [seval, push_cast, *] <;> rfl), by (simp only [seval, push_cast, *] <;> rfl), by (simp only [seval, push_cast, *] <;> rfl), by (simp only [seval, push_cast, *] <;> rfl)⟩)) ?_
  rintro ex ρ' H' ⟨vs, junk, hvs, rfl, rfl, h6⟩ hf
  rw [← hvs]
  clear hloop hvs
  all_goals try (refine zs ?_; repeat' first | apply zs0 | apply zs2 | (intro hc; try have hq := dq hc))
end Go.E
/- Contracts of the package graph, in E: ValuesOf. Own work. -/
namespace Go.E
open Go.Proofs
set_option maxRecDepth 100000
set_option maxHeartbeats 4000000

theorem eachP_none {α : Type} (g : Nat → α → Int) : ∀ (l : List α) (i : Nat), (∀ j x, l[j]? = some x → g (i + j) x = 0) → eachP g i l = (0, 0)
  | [], _, _ => rfl
  | y :: r, i, h => by
    unfold eachP
    rw [if_neg (by simpa using h 0 y rfl)]
    exact eachP_none g r (i + 1) (fun j x hx => by have := h (j + 1) x hx; rwa [show i + (j + 1) = i + 1 + j by omega] at this)
theorem fitsG_in {n w : Int} (h1 : 1 ≤ w) (h16 : w ≤ 16) (h : InW n w) : fitsG n w = true := by
  unfold fitsG
  rw [shl1_pow (by omega)]
  have h3 := pow_le (k := w.toNat) (by omega)
  have h4 := pow_pos' w.toNat
  rw [wrap64 (by omega) (by omega)]
  obtain ⟨a, b⟩ := h
  rw [Bool.and_eq_true, Bool.and_eq_true, decide_eq_true_eq, decide_eq_true_eq, decide_eq_true_eq]
  omega
theorem fitsN_in {n w : Int} (h1 : 1 ≤ w) (h16 : w ≤ 16) : fitsN n w = true ↔ InW n w := by
  unfold fitsN
  rw [shl1_pow (by omega)]
  have h3 := pow_le (k := w.toNat) (by omega)
  have h4 := pow_pos' w.toNat
  rw [wrap64 (by omega) (by omega)]
  rw [Bool.and_eq_true, decide_eq_true_eq, decide_eq_true_eq]
  unfold InW
  omega

theorem gr_graphErr (bs : List Nat) (H : Heap) (leaves : List Int) (nodes : List Node) (hl : leaves.length ≤ 1000000) (hn : nodes.length ≤ 1000000) (hal : ∀ x ∈ nodes, x.args.length ≤ 1000000) : callw X bs 202 [.list (leaves.map (.int .i64)), .list (nodes.map encNode)] H = some (.int .i64 (checkNodesS leaves nodes).2, H) := by
  refine call_at (rs := [.tmp 4]) (N := 14) (fn := Tryz.f202) xk202 xf202 rfl rfl rfl (by simp only [seval, push_cast, List.map_cons, List.map_nil, V.norm, norm1]; rfl) ?_
  have t := fun bs H => gr_checkNodes bs H leaves nodes hl hn hal
  clear hal
  all_goals try (refine zs ?_; repeat' first | apply zs0 | apply zs2 | (intro hc; try have hq := dq hc))

theorem gr_vo1 (bs : List Nat) (H : Heap) (leaves : List Int) (i : Nat) (n w : Int) (a : Nat) (hi : leaves[i]? = some w) (hA : H[a]? = some (.cells [.list (leaves.map (.int .i64))])) : callw X bs 203 [.int .i64 i, .int .i64 n, .ptr a 0] H = some (.int .i64 (if fitsG n w = true then 0 else 2), H) := by
  refine call_at (rs := [.tmp 5]) (N := 13) (fn := Tryz.f203) xk203 xf203 rfl rfl rfl (by simp only [seval, push_cast, List.map_cons, List.map_nil, V.norm, norm1]; rfl) ?_
  all_goals try (refine zs ?_; repeat' first | apply zs0 | apply zs2 | (intro hc; try have hq := dq hc))

theorem gr_valuesOf (bs : List Nat) (H : Heap) (leaves lv : List Int) (nodes : List Node) (hll : leaves.length ≤ 1000000) (hn : nodes.length ≤ 1000000) (hal : ∀ x ∈ nodes, x.args.length ≤ 1000000) (hc : (checkNodesS leaves nodes).2 = 0) (hl : LeafOk leaves lv) : callw X bs 148 [.list (leaves.map (.int .i64)), .list (nodes.map encNode), .list (lv.map (.int .i64))] H = some (.tuple [.list ((valsL nodes lv nodes.length).map (.int .i64)), .int .i64 0], H) := by
  refine call_at (rs := [.tmp 6, .tmp 7]) (N := 37) (fn := Tryz.f148) xk148 xf148 rfl rfl rfl (by simp only [seval, push_cast, List.map_cons, List.map_nil, V.norm, norm1]; rfl) ?_
  have t1 := fun bs H => gr_graphErr bs H leaves nodes hll hn hal
  rw [hc] at t1
  have hlen := hl.1
  have d : decide ((lv.length : Int) = (leaves.length : Int)) = true := decide_eq_true (by omega)
  have hw := leaves_of hc
  have t2 := fun (bs : List Nat) rest => graph_each_Int_p bs (H ++ .cells [.list (leaves.map (.int .i64))] :: rest) 203 [.ptr H.length 0] (fun i n => if fitsG n (at0 leaves i) = true then 0 else 2) lv (by omega)
    (fun bs i x junk hx => by
      have hi : i < leaves.length := by rw [← hlen]; exact (List.getElem?_eq_some_iff.1 hx).1
      have hg : leaves[i]? = some leaves[i] := by simp [hi]
      have := gr_vo1 bs ((H ++ .cells [.list (leaves.map (.int .i64))] :: rest) ++ junk) leaves i x leaves[i] H.length hg (by simp)
      rw [at0_get hg]
      exact this)
  rw [eachP_none _ lv 0 (fun j x hx => by
    have hi : j < leaves.length := by rw [← hlen]; exact (List.getElem?_eq_some_iff.1 hx).1
    have hg : leaves[j]? = some leaves[j] := by simp [hi]
    rw [Nat.zero_add, at0_get hg, if_pos]
    exact fitsG_in (hw j _ hg).1 (hw j _ hg).2 (hl.2 j _ _ hg hx))] at t2
  simp only [show encInt = V.int .i64 from rfl] at t2
  have t3 := fun bs H => gr_valued bs H leaves lv nodes hn hal (goodAll_of hc) hl
  clear hal hl hw hc
  repeat' first
   | (apply z51 (id := 1) (ord := [0, 1, 3, 4, 5, 6, 7, 2, 8, 9, 10, 11]) (ps := [(4, 7)]) <;> first | kernel_rfl | skip)
   | (refine zs ?_; repeat' first | apply zs0 | apply zs2 | (intro hc; try have hq := dq hc)) | fail
end Go.E
/- Clocks of a netlist, in plain Lean. Own work. -/
namespace Go.E
def outsS (n : Netl) (vals : List Int) : List Int := n.outs.map fun o => at0 vals o.node.toNat
def nextV (vals state : List Int) (i : Nat) (r : Reg) : Int := if at0 vals r.enable.toNat = 1 then at0 vals r.next.toNat else at0 state i
def nextL (regs : List Reg) (vals state : List Int) : Nat → List Int
  | 0 => []
  | i + 1 => nextL regs vals state i ++ [match regs[i]? with | some r => nextV vals state i r | none => 0]
theorem nextL_len (regs : List Reg) (vals state : List Int) : ∀ i, (nextL regs vals state i).length = i
  | 0 => rfl
  | i + 1 => by rw [nextL, List.length_append, nextL_len regs vals state i]; rfl
theorem nextL_succ (regs : List Reg) (vals state : List Int) (i : Nat) (r : Reg) (h : regs[i]? = some r) : nextL regs vals state (i + 1) = nextL regs vals state i ++ [nextV vals state i r] := by simp only [nextL, h]
def valsN (n : Netl) (inputs state : List Int) : List Int := valsL n.nodes (inputs ++ state) n.nodes.length
def stepN (n : Netl) (inputs state : List Int) : List Int × List Int := (outsS n (valsN n inputs state), nextL n.regs (valsN n inputs state) state n.regs.length)
/-- What is asked of a netlist. -/
structure NetOk (n : Netl) : Prop where
  nodes : (checkNodesS (leavesN n) n.nodes).2 = 0
  outs : ∀ o ∈ n.outs, 0 ≤ o.node ∧ o.node < n.nodes.length
  regs : ∀ r ∈ n.regs, (0 ≤ r.enable ∧ r.enable < n.nodes.length) ∧ 0 ≤ r.next ∧ r.next < n.nodes.length
  next : ∀ r ∈ n.regs, widthAt n r.next = r.width
  init : ∀ r ∈ n.regs, fitsN r.init r.width = true
  few : n.inputs.length + n.regs.length ≤ 40
theorem eachL_ok {α S : Type} (g : Nat → α → S → Int × S) : ∀ (l : List α) (i : Nat) (s : S), (eachL g i l s).1.2 = 0 → ∀ j x, l[j]? = some x → ∃ s', (g (i + j) x s').1 = 0
  | [], _, _, _, j, x, hx => by simp at hx
  | y :: r, i, s, h, j, x, hx => by
    unfold eachL at h
    split at h
    · rename_i hne; exact absurd h hne
    · rename_i hz
      cases j with
      | zero => simp at hx; subst hx; exact ⟨s, by simpa using hz⟩
      | succ j =>
        simp at hx
        obtain ⟨s', hs⟩ := eachL_ok g r (i + 1) _ h j x hx
        exact ⟨s', by rwa [show i + 1 + j = i + (j + 1) by omega] at hs⟩
theorem firstP_ok : ∀ {l : List (Int × Int)}, (firstP l).2 = 0 → ∀ p ∈ l, p.2 = 0
  | [], _, p, hp => by simp at hp
  | q :: r, h, p, hp => by
    unfold firstP at h
    split at h
    · rename_i hne; exact absurd h hne
    · rename_i hz
      simp only [ne_eq, Decidable.not_not] at hz
      rcases List.mem_cons.1 hp with rfl | hp
      · exact hz
      · exact firstP_ok h p hp
theorem isNodeN_ok {n : Netl} {i : Int} (h : isNodeN n i = true) : 0 ≤ i ∧ i < n.nodes.length := by
  unfold isNodeN at h
  rw [Bool.and_eq_true, decide_eq_true_eq, decide_eq_true_eq] at h
  omega
theorem net_ok {n : Netl} (h : (checkNetS n).2 = 0) : NetOk n := by
  unfold checkNetS at h
  have h2 := firstP_ok h
  simp only [List.mem_cons, List.not_mem_nil, or_false, forall_eq_or_imp, forall_eq] at h2
  obtain ⟨_, _, p3, p4, p5, p6, _, p8⟩ := h2
  refine ⟨p5, fun o ho => ?_, fun r hr => ?_, fun r hr => ?_, fun r hr => ?_, ?_⟩
  · obtain ⟨j, hj⟩ := List.getElem?_of_mem ho
    obtain ⟨s, hs⟩ := eachL_ok _ _ _ _ p8 j o hj
    simp only [outErrS, firstL_2] at hs
    split at hs
    · rename_i hne; exact absurd hs hne
    · split at hs
      · rename_i hk; exact isNodeN_ok hk
      · omega
  · obtain ⟨j, hj⟩ := List.getElem?_of_mem hr
    have := eachP_ok _ _ _ p6 j r hj
    simp only [regErr2S] at this
    split at this
    · omega
    split at this
    · omega
    split at this
    · omega
    rename_i a b c
    simp only [Bool.not_eq_true', Bool.not_eq_false] at a c
    exact ⟨isNodeN_ok a, isNodeN_ok c⟩
  · obtain ⟨j, hj⟩ := List.getElem?_of_mem hr
    have := eachP_ok _ _ _ p6 j r hj
    simp only [regErr2S] at this
    split at this
    · omega
    split at this
    · omega
    split at this
    · omega
    split at this
    · assumption
    · omega
  · obtain ⟨j, hj⟩ := List.getElem?_of_mem hr
    obtain ⟨s, hs⟩ := eachL_ok _ _ _ _ p4 j r hj
    simp only [regErrS, firstL_2] at hs
    split at hs
    · rename_i hne; exact absurd hs hne
    · split at hs
      · rename_i hk; rw [Bool.and_eq_true] at hk; exact hk.2
      · omega
  · split at p3
    · rename_i hk; have := of_decide_eq_true hk; omega
    · simp at p3
end Go.E
/- Contracts of the package netlist, in E: a clock. Own work. -/
namespace Go.E
open Go.Proofs
set_option maxRecDepth 100000
set_option maxHeartbeats 4000000

theorem known_call {cx : Cx} {bs : List Nat} {f : Nat} {fn : Func} {c : Code} {args : List V} {H : Heap} {v : V} (hf : cx.P.funcs[f]? = some fn) (hb : fn.body = some c) (hk : cx.keep f = true) (h : cx.known f (args.map V.norm) = some v) :
    callw cx bs f args H = some (v, H) := by
  refine callw_body ?_
  unfold evBody
  simp only [hf, hb, hk, if_true, h, Option.map_some]
theorem all_ints1 (l : List Int) : (l.map (V.int .i64)).all (fun e => e.cells.length == 1 && e.cells.all V.isCell) = true := by
  rw [List.all_eq_true]
  intro e he
  obtain ⟨i, _, rfl⟩ := List.mem_map.1 he
  rfl
theorem kn_concat (bs : List Nat) (H : Heap) (a b : List Int) (t : Nat) (h : a.length + b.length ≤ 1000000) :
    callw X bs 149 [.tl t [.list (a.map (.int .i64)), .list (b.map (.int .i64))]] H = some (.list ((a ++ b).map (.int .i64)), H) := by
  refine known_call (fn := Tryz.f149) xf149 rfl rfl ?_
  show concatV 1 [.list [.list (a.map (.int .i64)), .list (b.map (.int .i64))]] = _
  have hp : V.pureL ((a ++ b).map (V.int .i64)) = true := pureL_int _ _
  have ha := all_ints1 (a ++ b)
  simp only [concatV, concatL, Option.map_some, Option.bind_some, List.append_nil, ← List.map_append]
  rw [if_pos ⟨by simpa using h, by simp, hp, ha⟩]

section
variable (n : Netl) (vals state : List Int)
theorem ck_outs (bs : List Nat) (H : Heap) (c t2 t3 : HObj) (hl : n.outs.length ≤ 1000) (hn : ∀ o ∈ n.outs, 0 ≤ o.node ∧ o.node < vals.length) :
    ∀ i ρ H', i ≤ n.outs.length → (∃ os junk, os = (n.outs.take i).map (fun o => at0 vals o.node.toNat) ∧ H' = H ++ c :: .tok os.length :: t2 :: t3 :: junk ∧ ρ 6 = .tl (H.length + 1) (os.map (.int .i64)) ∧ ρ 8 = .list (vals.map (.int .i64)) ∧
        ρ 31 = .list (n.outs.map encOutp) ∧ ρ 32 = .int .i64 n.outs.length ∧ ρ 33 = .int .i64 i) →
      Lp X ⟨77, bs⟩ (loopAt Tryz.f93 0) ρ H' fun ex ρ' H' => ∃ os junk, os = outsS n vals ∧ H' = H ++ c :: .tok os.length :: t2 :: t3 :: junk ∧ ex = .exit 0 ∧ ρ' 6 = .tl (H.length + 1) (os.map (.int .i64)) := by
  refine loop_up ?_ ?_
  · rintro i ρ H' hi ⟨os, junk, hos, rfl, h6, h8, h31, h32, h33⟩
    have hget : n.outs[i]? = some n.outs[i] := by simp [hi]
    have hm := hn n.outs[i] (List.getElem_mem hi)
    have htk : n.outs.take (i + 1) = n.outs.take i ++ [n.outs[i]] := by rw [List.take_add_one, hget]; rfl
    generalize n.outs[i] = o at hget hm htk
    obtain ⟨nm, nd⟩ := o
    simp only at hm htk
    obtain ⟨m, rfl⟩ : ∃ m : Nat, nd = m := ⟨nd.toNat, by omega⟩
    have hlt : m < vals.length := by omega
    have hget2 : vals[m]? = some vals[m] := by simp [hlt]
    have hsn : (n.outs.take (i + 1)).map (fun o => at0 vals o.node.toNat) = os ++ [vals[m]] := by
      rw [htk, List.map_append, ← hos]; simp [at0, hlt]
    generalize vals[m] = z at hget2 hsn
    have hlen : os.length = i := by rw [hos]; simp; omega
    have hroom := room8 os.length (by omega)
    have hw := add1 i n.outs.length hi (by omega)
    replace hos : Kp (os = (n.outs.take i).map (fun o => at0 vals o.node.toNat)) := ⟨hos⟩
    replace hsn : Kp ((n.outs.take (i + 1)).map (fun o => at0 vals o.node.toNat) = os ++ [z]) := ⟨hsn⟩
    replace hlen : Kp (os.length = i) := ⟨hlen⟩
    clear htk hm hlt hn
    conv => arg 3; whnf
    repeat' first
     | (apply z51 (id := 1) (ord := [0, 1, 3, 4, 5, 6, 7, 8, 2, 9, 10, 11, 12, 13, 14, 15]) (ps := [(4, 8), (4, 9), (7, 8)]) <;> first | kernel_rfl | skip)
     | (refine zs ?_; repeat' first | apply zs0 | apply zs2 | (intro hc; try have hq := dq hc)) | fail
    exact ⟨os ++ [z], _, hsn.out.symm, by simp only [List.length_append, List.length_singleton]; rfl, by simp [push_cast], by (simp only [seval, push_cast, *] <;> rfl), by (simp only [seval, push_cast, *] <;> rfl), by (simp only [seval, push_cast, *] <;> rfl), by (simp only [seval, push_cast, *] <;> rfl)⟩
  · rintro ρ H' ⟨os, junk, hos, rfl, h6, h8, h31, h32, h33⟩
    rw [List.take_length] at hos
    replace hos : Kp (os = n.outs.map (fun o => at0 vals o.node.toNat)) := ⟨hos⟩
    clear hn
    conv => arg 3; whnf
    repeat' first
     | (apply z51 (id := 1) (ord := [0, 1, 3, 4, 5, 6, 7, 8, 2, 9, 10, 11, 12, 13, 14, 15]) (ps := [(4, 8), (4, 9), (7, 8)]) <;> first | kernel_rfl | skip)
     | (refine zs ?_; repeat' first | apply zs0 | apply zs2 | (intro hc; try have hq := dq hc)) | fail
    exact ⟨os, junk, hos.out, rfl, rfl, by (simp only [seval, push_cast, *] <;> rfl)⟩

theorem ck_regs (bs : List Nat) (H : Heap) (c t1 t3 : HObj) (hl : n.regs.length ≤ 1000) (hs : state.length = n.regs.length) (hn : ∀ r ∈ n.regs, (0 ≤ r.enable ∧ r.enable < vals.length) ∧ 0 ≤ r.next ∧ r.next < vals.length) :
    ∀ i ρ H', i ≤ n.regs.length → (∃ ns junk, ns = nextL n.regs vals state i ∧ H' = H ++ c :: t1 :: .tok ns.length :: t3 :: junk ∧ ρ 2 = .list (state.map (.int .i64)) ∧ ρ 7 = .tl (H.length + 2) (ns.map (.int .i64)) ∧ ρ 8 = .list (vals.map (.int .i64)) ∧
        ρ 48 = .list (n.regs.map encReg) ∧ ρ 49 = .int .i64 n.regs.length ∧ ρ 50 = .int .i64 i) →
      Lp X ⟨77, bs⟩ (loopAt Tryz.f93 1) ρ H' fun ex ρ' H' => ∃ ns junk, ns = nextL n.regs vals state n.regs.length ∧ H' = H ++ c :: t1 :: .tok ns.length :: t3 :: junk ∧ ex = .exit 2 ∧ ρ' 7 = .tl (H.length + 2) (ns.map (.int .i64)) := by
  refine loop_up ?_ ?_
  · rintro i ρ H' hi ⟨ns, junk, hns, rfl, h2, h7, h8, h48, h49, h50⟩
    have hget : n.regs[i]? = some n.regs[i] := by simp [hi]
    have hm := hn n.regs[i] (List.getElem_mem hi)
    have hsn := nextL_succ n.regs vals state i n.regs[i] hget
    generalize n.regs[i] = r at hget hm hsn
    obtain ⟨nm, wd, ini, en, nx⟩ := r
    simp only at hm
    obtain ⟨e, rfl⟩ : ∃ m : Nat, en = m := ⟨en.toNat, by omega⟩
    obtain ⟨x, rfl⟩ : ∃ m : Nat, nx = m := ⟨nx.toNat, by omega⟩
    have he : e < vals.length := by omega
    have hx : x < vals.length := by omega
    have hst : i < state.length := by omega
    have ge : vals[e]? = some vals[e] := by simp [he]
    have gx : vals[x]? = some vals[x] := by simp [hx]
    have gs : state[i]? = some state[i] := by simp [hst]
    have hv : nextV vals state i ⟨nm, wd, ini, e, x⟩ = if vals[e] = 1 then vals[x] else state[i] := by simp [nextV, at0, he, hx, hst]
    rw [hv, ← hns] at hsn
    clear hv
    generalize vals[e] = ve at ge hsn
    generalize vals[x] = vx at gx hsn
    generalize state[i] = si at gs hsn
    have hlen : ns.length = i := by rw [hns]; exact nextL_len _ _ _ i
    have hroom := room8 ns.length (by omega)
    have hw := add1 i n.regs.length hi (by omega)
    replace hns : Kp (ns = nextL n.regs vals state i) := ⟨hns⟩
    replace hlen : Kp (ns.length = i) := ⟨hlen⟩
    clear hm he hx hst hn hs
    by_cases h1 : ve = 1
    · have d : decide (ve = 1) = true := decide_eq_true h1
      rw [if_pos h1] at hsn
      replace hsn : Kp (nextL n.regs vals state (i + 1) = ns ++ [vx]) := ⟨hsn⟩
      clear h1
      conv => arg 3; whnf
      repeat' first
       | (apply z51 (id := 1) (ord := [0, 1, 3, 4, 5, 6, 7, 8, 2, 9, 10, 11, 12, 13, 14, 15]) (ps := [(4, 8), (4, 9), (7, 8)]) <;> first | kernel_rfl | skip)
       | (refine zs ?_; repeat' first | apply zs0 | apply zs2 | (intro hc; try have hq := dq hc)) | fail
      exact ⟨ns ++ [vx], _, hsn.out.symm, by simp only [List.length_append, List.length_singleton]; rfl, by (simp only [seval, push_cast, *] <;> rfl), by simp [push_cast], by (simp only [seval, push_cast, *] <;> rfl), by (simp only [seval, push_cast, *] <;> rfl), by (simp only [seval, push_cast, *] <;> rfl), by (simp only [seval, push_cast, *] <;> rfl)⟩
    · have d : decide (ve = 1) = false := decide_eq_false h1
      rw [if_neg h1] at hsn
      replace hsn : Kp (nextL n.regs vals state (i + 1) = ns ++ [si]) := ⟨hsn⟩
      clear h1
      conv => arg 3; whnf
      repeat' first
       | (apply z51 (id := 1) (ord := [0, 1, 3, 4, 5, 6, 7, 8, 2, 9, 10, 11, 12, 13, 14, 15]) (ps := [(4, 8), (4, 9), (7, 8)]) <;> first | kernel_rfl | skip)
       | (refine zs ?_; repeat' first | apply zs0 | apply zs2 | (intro hc; try have hq := dq hc)) | fail
      exact ⟨ns ++ [si], _, hsn.out.symm, by simp only [List.length_append, List.length_singleton]; rfl, by (simp only [seval, push_cast, *] <;> rfl), by simp [push_cast], by (simp only [seval, push_cast, *] <;> rfl), by (simp only [seval, push_cast, *] <;> rfl), by (simp only [seval, push_cast, *] <;> rfl), by (simp only [seval, push_cast, *] <;> rfl)⟩
  · rintro ρ H' ⟨ns, junk, hns, rfl, h2, h7, h8, h48, h49, h50⟩
    replace hns : Kp (ns = nextL n.regs vals state n.regs.length) := ⟨hns⟩
    clear hn hs
    conv => arg 3; whnf
    repeat' first
     | (apply z51 (id := 1) (ord := [0, 1, 3, 4, 5, 6, 7, 8, 2, 9, 10, 11, 12, 13, 14, 15]) (ps := [(4, 8), (4, 9), (7, 8)]) <;> first | kernel_rfl | skip)
     | (refine zs ?_; repeat' first | apply zs0 | apply zs2 | (intro hc; try have hq := dq hc)) | fail
    exact ⟨ns, junk, hns.out, rfl, rfl, by (simp only [seval, push_cast, *] <;> rfl)⟩
end
theorem widthsL_len (n : Netl) : (leavesN n).length = n.inputs.length + n.regs.length := by simp [leavesN]

theorem nl_clock (bs : List Nat) (H : Heap) (n : Netl) (ins state : List Int) (hS : Small n) (hk : NetOk n) (hl : LeafOk (leavesN n) (ins ++ state)) (hst : state.length = n.regs.length) : callw X bs 93 [encNetl n, .list (ins.map (.int .i64)), .list (state.map (.int .i64))] H = some (.tuple [.list ((stepN n ins state).1.map (.int .i64)), .list ((stepN n ins state).2.map (.int .i64))], H) := by
  refine call_at (rs := [.tmp 6, .tmp 7]) (N := 77) (fn := Tryz.f93) xk93 xf93 rfl rfl rfl (by simp only [seval, push_cast, List.map_cons, List.map_nil, V.norm, norm1]; rfl) ?_
  have hvl : (valsN n ins state).length = n.nodes.length := valsL_len _ _ _
  have hlen := hl.1
  rw [widthsL_len, List.length_append] at hlen
  have s1 := hS.inputs
  have s2 := hS.regs
  have s3 := hS.nodes
  have s4 := hS.outs
  have t1 := fun bs H => nl_leaves bs H n s1 s2
  have t2 := fun bs H t => kn_concat bs H ins state t (by omega)
  have t3 := fun bs H => gr_valuesOf bs H (leavesN n) (ins ++ state) n.nodes (by rw [widthsL_len]; omega) (by omega) (fun x hx => Nat.le_trans (hS.args x hx) (by omega)) hk.nodes hl
  have l1 := fun (bs : List Nat) (c t2 t3 : HObj) (ρ : Env) => ck_outs n (valsN n ins state) bs H c t2 t3 s4 (fun o ho => by rw [hvl]; exact hk.outs o ho) 0 ρ
  have l2 := fun (bs : List Nat) (c t1 t3 : HObj) (ρ : Env) => ck_regs n (valsN n ins state) state bs H c t1 t3 s2 hst (fun r hr => by rw [hvl]; exact hk.regs r hr) 0 ρ
  simp only [encNetl, cellsNetl] at t1
  unfold stepN
  have hv : valsL n.nodes (ins ++ state) n.nodes.length = valsN n ins state := rfl
  rw [hv] at t3
  generalize valsN n ins state = vals at t3 l1 l2
  generalize leavesN n = lvs at t1 t3
  clear hS hk hl hst hvl hlen s1 s2 s3 s4 hv
  repeat' first
   | (apply z51 (id := 1) (ord := [0, 1, 3, 4, 5, 6, 7, 8, 2, 9, 10, 11, 12, 13, 14, 15]) (ps := [(4, 8), (4, 9), (7, 8)]) <;> first | kernel_rfl | skip)
   | (refine zs ?_; repeat' first | apply zs0 | apply zs2 | (intro hc; try have hq := dq hc)) | fail
  refine lp_then (lp_any (c := loopAt Tryz.f93 0) rfl (l1 _ _ _ _ _ _ (by omega) ⟨[], [], rfl, rfl, by (simp only [seval, push_cast, *] <;> rfl), by (simp only [seval, push_cast, *] <;> rfl), by (simp only [seval, push_cast, *] <;> rfl), by (simp only [seval, push_cast, *] <;> rfl), by (simp only [seval, push_cast, *] <;> rfl)⟩)) ?_
  rintro ex ρ' H' ⟨os, junk, hos, rfl, rfl, h6⟩ hf
  have f2 := hf 2 rfl
  have f3 := hf 3 rfl
  have f7 := hf 7 rfl
  have f8 := hf 8 rfl
  simp only [seval, push_cast] at f2 f3 f7 f8
  rw [← hos]
  clear l1 hos
  repeat' first
   | (apply z51 (id := 1) (ord := [0, 1, 3, 4, 5, 6, 7, 8, 2, 9, 10, 11, 12, 13, 14, 15]) (ps := [(4, 8), (4, 9), (7, 8)]) <;> first | kernel_rfl | skip)
   | (refine zs ?_; repeat' first | apply zs0 | apply zs2 | (intro hc; try have hq := dq hc)) | fail
  refine lp_then (lp_any (c := loopAt Tryz.f93 1) rfl (l2 _ _ _ _ _ _ (by omega) ⟨[], _, rfl, rfl, by (simp only [seval, push_cast, *] <;> rfl), by (simp only [seval, push_cast, *] <;> rfl), by (simp only [seval, push_cast, *] <;> rfl), by (simp only [seval, push_cast, *] <;> rfl), by (simp only [seval, push_cast, *] <;> rfl), by (simp only [seval, push_cast, *] <;> rfl)⟩)) ?_
  rintro ex ρ'' H'' ⟨ns, junk2, hns, rfl, rfl, h7⟩ hf2
  have f6 := hf2 6 rfl
  simp only [seval, push_cast] at f6
  rw [← hns]
  clear l2 hns
  repeat' first
   | (apply z51 (id := 1) (ord := [0, 1, 3, 4, 5, 6, 7, 8, 2, 9, 10, 11, 12, 13, 14, 15]) (ps := [(4, 8), (4, 9), (7, 8)]) <;> first | kernel_rfl | skip)
   | (refine zs ?_; repeat' first | apply zs0 | apply zs2 | (intro hc; try have hq := dq hc)) | fail
end Go.E
