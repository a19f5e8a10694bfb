/- Contracts of the references, in E: Pruned. Own work. -/
import Derived.Test.YtbnakdpmjlcneaaGreatP7
import Derived.Test.YtbnakdpmjlcneaaGreatP6
set_option linter.all false
namespace Go.E
open Go.Proofs
set_option maxRecDepth 100000
set_option maxHeartbeats 4000000

/-- A field that is appended to: nil, or a list with its own room. -/
def Fld (B k : Nat) (J : List HObj) (v : V) (es : List V) : Prop := (es = [] ∧ v = .nilS) ∨ ∃ J0 J1, J = J0 ++ .tok es.length :: J1 ∧ v = .tl (B + (J0.length + k)) es ∧ es ≠ []
theorem fld_cell {B k : Nat} {J : List HObj} {v : V} {es : List V} (h : Fld B k J v es) : v.isCell = true := by
  rcases h with ⟨_, rfl⟩ | ⟨_, _, _, rfl, _⟩ <;> rfl
theorem fld_frz {B k : Nat} {J : List HObj} {v : V} {es : List V} (h : Fld B k J v es) (d n0 : Nat) (H : Heap) : frz (d + 1) n0 H v = some (nlV es) := by
  rcases h with ⟨rfl, rfl⟩ | ⟨_, _, _, rfl, h⟩
  · exact frz_pure rfl
  · rw [frz_tl]; cases es with
    | nil => exact absurd rfl h
    | cons x r => rfl
theorem fld_new0 {B k t : Nat} {J : List HObj} {e : V} (h : t = B + (J.length + k)) : Fld B k (J ++ [.tok 1]) (.tl t [e]) [e] := .inr ⟨J, [], rfl, by rw [h], by simp⟩
theorem fld_new1 {B k t : Nat} {J : List HObj} {a : HObj} {e : V} (h : t = B + (J.length + 1 + k)) : Fld B k (J ++ [a, .tok 1]) (.tl t [e]) [e] := .inr ⟨J ++ [a], [], by simp, by simp [h], by simp⟩
theorem fld_new2 {B k t : Nat} {J : List HObj} {a b : HObj} {e : V} (h : t = B + (J.length + 2 + k)) : Fld B k (J ++ [a, b, .tok 1]) (.tl t [e]) [e] := .inr ⟨J ++ [a, b], [], by simp, by simp [h], by simp⟩
theorem fld_more {B k m : Nat} {J0 J1 : List HObj} {es : List V} (h : m = es.length) (h2 : es ≠ []) : Fld B k (J0 ++ .tok m :: J1) (.tl (B + (J0.length + k)) es) es := .inr ⟨J0, J1, by rw [h], rfl, h2⟩
theorem room48 (n : Nat) (h : n ≤ 1000000) : (n + 1) * 48 ≤ roomB := by unfold roomB; omega

section
variable (n : Netl) (ns rs : List Int) (H : Heap)
/-- The arguments of a node, placed anew. -/
theorem pu_args (hns : ns.length ≤ 1000) (x : Node) (hal : x.args.length ≤ 1000) (bs : List Nat) (c1 c2 o : HObj) (J : List HObj) : ∀ i ρ H', i ≤ x.args.length →
      (∃ ws, ws = (x.args.take i).map (posL ns) ∧ H' = H ++ c1 :: c2 :: o :: (J ++ [.cells [.int .i64 x.op, .int .i64 x.width, .list (x.args.map (.int .i64)), .int .i64 x.value], .tok ws.length]) ∧ ρ 4 = .list (ns.map (.int .i64)) ∧
        ρ 7 = .ptr (H.length + (J.length + 3)) 0 ∧ ρ 8 = .tl (H.length + (J.length + 4)) (ws.map (.int .i64)) ∧ ρ 9 = .int .i64 i) →
      Lp X ⟨143, H.length :: bs⟩ (loopAt Tryz.f35 1) ρ H' fun ex ρ' H' => ∃ ws, ws = x.args.map (posL ns) ∧ H' = H ++ c1 :: c2 :: o :: (J ++ [.cells [.int .i64 x.op, .int .i64 x.width, .list (x.args.map (.int .i64)), .int .i64 x.value], .tok ws.length]) ∧
        ρ' 8 = .tl (H.length + (J.length + 4)) (ws.map (.int .i64)) ∧ ex = .exit 2 := by
  have hpos := fun bs H a => bs_position bs H ns a (by omega)
  refine loop_up ?_ ?_
  · rintro i ρ H' hi ⟨ws, hws, rfl, h4, h7, h8, h9⟩
    have hget : x.args[i]? = some x.args[i] := by simp [hi]
    have htk : x.args.take (i + 1) = x.args.take i ++ [x.args[i]] := by rw [List.take_add_one, hget]; rfl
    generalize x.args[i] = a at hget htk
    have hlen : ws.length = i := by rw [hws]; simp; omega
    have hroom := room8 ws.length (by omega)
    have hw := add1 i x.args.length hi (by omega)
    have hsn : Kp ((x.args.take (i + 1)).map (posL ns) = ws ++ [posL ns a]) := ⟨by rw [htk, hws]; simp⟩
    clear hws hlen htk
    conv => arg 3; whnf
    all_goals try (refine zs ?_; repeat' first | apply zs0 | apply zs2 | (intro hc; try have hq := dq hc))
    exact ⟨ws ++ [posL ns a], hsn.out.symm, by simp only [List.length_append, List.length_singleton], by (simp only [seval, push_cast, *] <;> rfl), by (simp only [seval, push_cast, *] <;> rfl), by simp [push_cast], by (simp only [seval, push_cast, *] <;> rfl)⟩
  · rintro ρ H' ⟨ws, hws, rfl, h4, h7, h8, h9⟩
    rw [List.take_length] at hws
    replace hws : Kp _ := ⟨hws⟩
    clear hpos
    conv => arg 3; whnf
    all_goals try (refine zs ?_; repeat' first | apply zs0 | apply zs2 | (intro hc; try have hq := dq hc))
    exact ⟨ws, hws.out, rfl, by (simp only [seval, push_cast, *] <;> rfl), rfl⟩
theorem pu_nodes (hS : Small n) (hn : NodesOk n) (hns : ns.length ≤ 1000) (hrs : rs.length ≤ 1000) (hin : ∀ a ∈ ns, 0 ≤ a ∧ a < n.nodes.length) (bs : List Nat) (c2 : HObj) (nm : ByteArray) (ip : List V) : ∀ i ρ H', i ≤ ns.length →
      (∃ es nv J, es = (ns.take i).map (fun a => encNode (prNode n ns rs a)) ∧ H' = H ++ .cells (cellsNetl n) :: c2 :: .cells [.str nm, .list ip, .nilS, nv, .nilS] :: J ∧ Fld H.length 3 J nv es ∧ ρ 1 = .ptr H.length 0 ∧ ρ 3 = .list (rs.map (.int .i64)) ∧ ρ 4 = .list (ns.map (.int .i64)) ∧
        ρ 5 = .ptr (H.length + 2) 0 ∧ ρ 6 = .int .i64 i) →
      Lp X ⟨143, H.length :: bs⟩ (loopAt Tryz.f35 0) ρ H' fun ex ρ' H' => ∃ es nv J, es = ns.map (fun a => encNode (prNode n ns rs a)) ∧ H' = H ++ .cells (cellsNetl n) :: c2 :: .cells [.str nm, .list ip, .nilS, nv, .nilS] :: J ∧ Fld H.length 3 J nv es ∧ ex = .exit 0 := by
  have hpos := fun bs H a => bs_position bs H rs a (by omega)
  refine loop_up ?_ ?_
  · rintro i ρ H' hi ⟨es, nv, J, hes, rfl, hF, h1, h3, h4, h5, h6⟩
    have hget : ns[i]? = some ns[i] := by simp [hi]
    have htk : ns.take (i + 1) = ns.take i ++ [ns[i]] := by rw [List.take_add_one, hget]; rfl
    have hib := hin ns[i] (List.getElem_mem hi)
    generalize ns[i] = a at hget htk hib
    obtain ⟨m, rfl⟩ : ∃ m : Nat, a = m := ⟨a.toNat, by omega⟩
    have hm : m < n.nodes.length := by omega
    have hgx : n.nodes[m]? = some n.nodes[m] := by simp [hm]
    have hal := hS.args n.nodes[m] (List.getElem_mem hm)
    have hlf := hn.leaf m _ hgx
    have hpr : prNode n ns rs (m : Int) = ⟨n.nodes[m].op, n.nodes[m].width, n.nodes[m].args.map (posL ns), if n.nodes[m].op = 1 ∧ (n.inputs.length : Int) ≤ n.nodes[m].value then (n.inputs.length : Int) + posL rs (n.nodes[m].value - n.inputs.length) else n.nodes[m].value⟩ := by
      rw [prNode, Int.toNat_natCast, hgx]
    generalize n.nodes[m] = x at hgx hal hlf hpr
    have hlen : es.length = i := by rw [hes]; simp; omega
    have hroom := room48 es.length (by omega)
    have r48 : 48 ≤ roomB := by unfold roomB; omega
    have hw := add1 i ns.length hi (by omega)
    have hi1 := hS.inputs
    have hr1 := hS.regs
    have hsn : Kp ((ns.take (i + 1)).map (fun a => encNode (prNode n ns rs a)) = es ++ [encNode ⟨x.op, x.width, x.args.map (posL ns), if x.op = 1 ∧ (n.inputs.length : Int) ≤ x.value then (n.inputs.length : Int) + posL rs (x.value - n.inputs.length) else x.value⟩]) := ⟨by rw [htk, List.map_append, List.map_singleton, hpr, ← hes]⟩
    have q := fun c1 c2 o J ρ => pu_args ns H hns x hal bs c1 c2 o J 0 ρ
    have hl1 := (posL_range rs (x.value - n.inputs.length))
    replace hl1 : Kp _ := ⟨hl1⟩
    have hall : es.all (fun e => e.cells.length == 4) = true := by rw [hes, List.all_map, List.all_eq_true]; intro a _; rfl
    clear hes htk hib hpr hin hS hn hlen
    have hcase : ∃ v' : Int, v' = (if x.op = 1 ∧ (n.inputs.length : Int) ≤ x.value then (n.inputs.length : Int) + posL rs (x.value - n.inputs.length) else x.value) ∧
        ((decide (x.op = 1) = true ∧ decide (x.value - (n.inputs.length : Int) ≥ 0) = true ∧ IntKind.i64.wrap (x.value - (n.inputs.length : Int)) = x.value - (n.inputs.length : Int) ∧ IntKind.i64.wrap ((n.inputs.length : Int) + posL rs (x.value - (n.inputs.length : Int))) = v') ∨
         (decide (x.op = 1) = true ∧ decide (IntKind.i64.wrap (x.value - (n.inputs.length : Int)) ≥ 0) = false ∧ v' = x.value) ∨ (decide (x.op = 1) = false ∧ v' = x.value)) := by
      refine ⟨_, rfl, ?_⟩
      by_cases ho : x.op = 1
      · have h2 := hlf ho
        have e1 : IntKind.i64.wrap (x.value - (n.inputs.length : Int)) = x.value - (n.inputs.length : Int) := by rw [wrap64] <;> omega
        by_cases hv : (n.inputs.length : Int) ≤ x.value
        · refine .inl ⟨decide_eq_true ho, decide_eq_true (by omega), e1, ?_⟩
          rw [if_pos ⟨ho, hv⟩, wrap64] <;> have := hl1.out <;> omega
        · exact .inr (.inl ⟨decide_eq_true ho, decide_eq_false (by rw [e1]; omega), by rw [if_neg (by omega)]⟩)
      · exact .inr (.inr ⟨decide_eq_false ho, by rw [if_neg (by simp [ho])]⟩)
    obtain ⟨v', hv', hcs⟩ := hcase
    rw [← hv'] at hsn
    clear hlf hl1 hv'
    rcases hF with ⟨rfl, rfl⟩ | ⟨J0, J1, rfl, rfl, hne⟩
    · skip
      conv => arg 3; whnf
      repeat' first
       | (apply z51 (id := 2) (ord := [0, 1, 2, 3, 6, 4, 5, 7]) (ps := [(1, 5), (4, 5)]) <;> first | kernel_rfl | skip)
       | (apply z50 (id := 6) (ord := [0, 1, 2, 3, 4, 5, 6, 7, 8, 9]) <;> first | kernel_rfl | skip)
       | (apply z51 (id := 15) (ord := [0, 1, 2, 3, 4, 5, 6, 7, 8]) (ps := [(1, 5)]) <;> first | kernel_rfl | skip)
       | (apply z50 (id := 20) (ord := [0, 1, 2, 3, 4, 5, 6, 7, 8, 9]) <;> first | kernel_rfl | skip)
       | (apply z51 (id := 21) (ord := [0, 1, 2, 4, 5, 6, 3, 8, 7, 9, 10, 11]) (ps := [(5, 6)]) <;> first | kernel_rfl | skip)
       | (apply z51 (id := 26) (ord := [0, 1, 2, 3, 4, 5, 6, 7, 8, 9, 10, 11, 12, 13, 14, 15, 16, 17, 18, 19, 20]) (ps := [(1, 15), (3, 15), (7, 15)]) <;> first | kernel_rfl | skip)
       | (refine zs ?_; repeat' first | apply zs0 | apply zs2 | (intro hc; try have hq := dq hc)) | fail
      refine lp_then (lp_any (c := loopAt Tryz.f35 1) rfl (q _ _ _ J _ _ (by omega) ⟨[], rfl, by first | rfl | (simp only [List.append_assoc, List.cons_append]; rfl), by (simp only [seval, push_cast, *] <;> rfl), by simp only [seval, push_cast], by simp only [seval, push_cast] <;> (congr 2 <;> omega), by (simp only [seval, push_cast, *] <;> rfl)⟩)) ?_
      rintro ex ρ1 H' ⟨ws, rfl, rfl, g8, rfl⟩ hf
      have f1 := hf 1 rfl
      have f3 := hf 3 rfl
      have f4 := hf 4 rfl
      have f5 := hf 5 rfl
      have f6 := hf 6 rfl
      have f7 := hf 7 rfl
      simp only [seval, push_cast, h1, h3, h4, h5, h6] at f1 f3 f4 f5 f6 f7
      clear hf q h1 h3 h4 h5 h6
      rcases hcs with ⟨d1, d2, d3, d4⟩ | ⟨d1, d2, rfl⟩ | ⟨d1, rfl⟩
      · repeat' first
         | (apply z51 (id := 2) (ord := [0, 1, 2, 3, 6, 4, 5, 7]) (ps := [(1, 5), (4, 5)]) <;> first | kernel_rfl | skip)
         | (apply z50 (id := 6) (ord := [0, 1, 2, 3, 4, 5, 6, 7, 8, 9]) <;> first | kernel_rfl | skip)
         | (apply z51 (id := 15) (ord := [0, 1, 2, 3, 4, 5, 6, 7, 8]) (ps := [(1, 5)]) <;> first | kernel_rfl | skip)
         | (apply z50 (id := 20) (ord := [0, 1, 2, 3, 4, 5, 6, 7, 8, 9]) <;> first | kernel_rfl | skip)
         | (apply z51 (id := 21) (ord := [0, 1, 2, 4, 5, 6, 3, 8, 7, 9, 10, 11]) (ps := [(5, 6)]) <;> first | kernel_rfl | skip)
         | (apply z51 (id := 26) (ord := [0, 1, 2, 3, 4, 5, 6, 7, 8, 9, 10, 11, 12, 13, 14, 15, 16, 17, 18, 19, 20]) (ps := [(1, 15), (3, 15), (7, 15)]) <;> first | kernel_rfl | skip)
         | (refine zs ?_; repeat' first | apply zs0 | apply zs2 | (intro hc; try have hq := dq hc)) | fail
        exact ⟨[] ++ [_], _, _, hsn.out.symm, rfl, fld_new2 (by simp <;> omega), by (simp only [seval, push_cast, *] <;> rfl), by (simp only [seval, push_cast, *] <;> rfl), by (simp only [seval, push_cast, *] <;> rfl), by (simp only [seval, push_cast, *] <;> rfl), by (simp only [seval, push_cast, *] <;> rfl)⟩
      · repeat' first
         | (apply z51 (id := 2) (ord := [0, 1, 2, 3, 6, 4, 5, 7]) (ps := [(1, 5), (4, 5)]) <;> first | kernel_rfl | skip)
         | (apply z50 (id := 6) (ord := [0, 1, 2, 3, 4, 5, 6, 7, 8, 9]) <;> first | kernel_rfl | skip)
         | (apply z51 (id := 15) (ord := [0, 1, 2, 3, 4, 5, 6, 7, 8]) (ps := [(1, 5)]) <;> first | kernel_rfl | skip)
         | (apply z50 (id := 20) (ord := [0, 1, 2, 3, 4, 5, 6, 7, 8, 9]) <;> first | kernel_rfl | skip)
         | (apply z51 (id := 21) (ord := [0, 1, 2, 4, 5, 6, 3, 8, 7, 9, 10, 11]) (ps := [(5, 6)]) <;> first | kernel_rfl | skip)
         | (apply z51 (id := 26) (ord := [0, 1, 2, 3, 4, 5, 6, 7, 8, 9, 10, 11, 12, 13, 14, 15, 16, 17, 18, 19, 20]) (ps := [(1, 15), (3, 15), (7, 15)]) <;> first | kernel_rfl | skip)
         | (refine zs ?_; repeat' first | apply zs0 | apply zs2 | (intro hc; try have hq := dq hc)) | fail
        exact ⟨[] ++ [_], _, _, hsn.out.symm, rfl, fld_new2 (by simp <;> omega), by (simp only [seval, push_cast, *] <;> rfl), by (simp only [seval, push_cast, *] <;> rfl), by (simp only [seval, push_cast, *] <;> rfl), by (simp only [seval, push_cast, *] <;> rfl), by (simp only [seval, push_cast, *] <;> rfl)⟩
      · repeat' first
         | (apply z51 (id := 2) (ord := [0, 1, 2, 3, 6, 4, 5, 7]) (ps := [(1, 5), (4, 5)]) <;> first | kernel_rfl | skip)
         | (apply z50 (id := 6) (ord := [0, 1, 2, 3, 4, 5, 6, 7, 8, 9]) <;> first | kernel_rfl | skip)
         | (apply z51 (id := 15) (ord := [0, 1, 2, 3, 4, 5, 6, 7, 8]) (ps := [(1, 5)]) <;> first | kernel_rfl | skip)
         | (apply z50 (id := 20) (ord := [0, 1, 2, 3, 4, 5, 6, 7, 8, 9]) <;> first | kernel_rfl | skip)
         | (apply z51 (id := 21) (ord := [0, 1, 2, 4, 5, 6, 3, 8, 7, 9, 10, 11]) (ps := [(5, 6)]) <;> first | kernel_rfl | skip)
         | (apply z51 (id := 26) (ord := [0, 1, 2, 3, 4, 5, 6, 7, 8, 9, 10, 11, 12, 13, 14, 15, 16, 17, 18, 19, 20]) (ps := [(1, 15), (3, 15), (7, 15)]) <;> first | kernel_rfl | skip)
         | (refine zs ?_; repeat' first | apply zs0 | apply zs2 | (intro hc; try have hq := dq hc)) | fail
        exact ⟨[] ++ [_], _, _, hsn.out.symm, rfl, fld_new2 (by simp <;> omega), by (simp only [seval, push_cast, *] <;> rfl), by (simp only [seval, push_cast, *] <;> rfl), by (simp only [seval, push_cast, *] <;> rfl), by (simp only [seval, push_cast, *] <;> rfl), by (simp only [seval, push_cast, *] <;> rfl)⟩
    · skip
      conv => arg 3; whnf
      repeat' first
       | (apply z51 (id := 2) (ord := [0, 1, 2, 3, 6, 4, 5, 7]) (ps := [(1, 5), (4, 5)]) <;> first | kernel_rfl | skip)
       | (apply z50 (id := 6) (ord := [0, 1, 2, 3, 4, 5, 6, 7, 8, 9]) <;> first | kernel_rfl | skip)
       | (apply z51 (id := 15) (ord := [0, 1, 2, 3, 4, 5, 6, 7, 8]) (ps := [(1, 5)]) <;> first | kernel_rfl | skip)
       | (apply z50 (id := 20) (ord := [0, 1, 2, 3, 4, 5, 6, 7, 8, 9]) <;> first | kernel_rfl | skip)
       | (apply z51 (id := 21) (ord := [0, 1, 2, 4, 5, 6, 3, 8, 7, 9, 10, 11]) (ps := [(5, 6)]) <;> first | kernel_rfl | skip)
       | (apply z51 (id := 26) (ord := [0, 1, 2, 3, 4, 5, 6, 7, 8, 9, 10, 11, 12, 13, 14, 15, 16, 17, 18, 19, 20]) (ps := [(1, 15), (3, 15), (7, 15)]) <;> first | kernel_rfl | skip)
       | (refine zs ?_; repeat' first | apply zs0 | apply zs2 | (intro hc; try have hq := dq hc)) | fail
      refine lp_then (lp_any (c := loopAt Tryz.f35 1) rfl (q _ _ _ (J0 ++ .tok es.length :: J1) _ _ (by omega) ⟨[], rfl, by first | rfl | (simp only [List.append_assoc, List.cons_append]; rfl), by (simp only [seval, push_cast, *] <;> rfl), by simp only [seval, push_cast], by simp only [seval, push_cast] <;> (congr 2 <;> omega), by (simp only [seval, push_cast, *] <;> rfl)⟩)) ?_
      rintro ex ρ1 H' ⟨ws, rfl, rfl, g8, rfl⟩ hf
      have f1 := hf 1 rfl
      have f3 := hf 3 rfl
      have f4 := hf 4 rfl
      have f5 := hf 5 rfl
      have f6 := hf 6 rfl
      have f7 := hf 7 rfl
      simp only [seval, push_cast, h1, h3, h4, h5, h6] at f1 f3 f4 f5 f6 f7
      clear hf q h1 h3 h4 h5 h6
      rcases hcs with ⟨d1, d2, d3, d4⟩ | ⟨d1, d2, rfl⟩ | ⟨d1, rfl⟩
      · repeat' first
         | (apply z51 (id := 2) (ord := [0, 1, 2, 3, 6, 4, 5, 7]) (ps := [(1, 5), (4, 5)]) <;> first | kernel_rfl | skip)
         | (apply z50 (id := 6) (ord := [0, 1, 2, 3, 4, 5, 6, 7, 8, 9]) <;> first | kernel_rfl | skip)
         | (apply z51 (id := 15) (ord := [0, 1, 2, 3, 4, 5, 6, 7, 8]) (ps := [(1, 5)]) <;> first | kernel_rfl | skip)
         | (apply z50 (id := 20) (ord := [0, 1, 2, 3, 4, 5, 6, 7, 8, 9]) <;> first | kernel_rfl | skip)
         | (apply z51 (id := 21) (ord := [0, 1, 2, 4, 5, 6, 3, 8, 7, 9, 10, 11]) (ps := [(5, 6)]) <;> first | kernel_rfl | skip)
         | (apply z51 (id := 26) (ord := [0, 1, 2, 3, 4, 5, 6, 7, 8, 9, 10, 11, 12, 13, 14, 15, 16, 17, 18, 19, 20]) (ps := [(1, 15), (3, 15), (7, 15)]) <;> first | kernel_rfl | skip)
         | (refine zs ?_; repeat' first | apply zs0 | apply zs2 | (intro hc; try have hq := dq hc)) | fail
        exact ⟨es ++ [_], _, _, hsn.out.symm, rfl, fld_more (by simp) (by simp), by (simp only [seval, push_cast, *] <;> rfl), by (simp only [seval, push_cast, *] <;> rfl), by (simp only [seval, push_cast, *] <;> rfl), by (simp only [seval, push_cast, *] <;> rfl), by (simp only [seval, push_cast, *] <;> rfl)⟩
      · repeat' first
         | (apply z51 (id := 2) (ord := [0, 1, 2, 3, 6, 4, 5, 7]) (ps := [(1, 5), (4, 5)]) <;> first | kernel_rfl | skip)
         | (apply z50 (id := 6) (ord := [0, 1, 2, 3, 4, 5, 6, 7, 8, 9]) <;> first | kernel_rfl | skip)
         | (apply z51 (id := 15) (ord := [0, 1, 2, 3, 4, 5, 6, 7, 8]) (ps := [(1, 5)]) <;> first | kernel_rfl | skip)
         | (apply z50 (id := 20) (ord := [0, 1, 2, 3, 4, 5, 6, 7, 8, 9]) <;> first | kernel_rfl | skip)
         | (apply z51 (id := 21) (ord := [0, 1, 2, 4, 5, 6, 3, 8, 7, 9, 10, 11]) (ps := [(5, 6)]) <;> first | kernel_rfl | skip)
         | (apply z51 (id := 26) (ord := [0, 1, 2, 3, 4, 5, 6, 7, 8, 9, 10, 11, 12, 13, 14, 15, 16, 17, 18, 19, 20]) (ps := [(1, 15), (3, 15), (7, 15)]) <;> first | kernel_rfl | skip)
         | (refine zs ?_; repeat' first | apply zs0 | apply zs2 | (intro hc; try have hq := dq hc)) | fail
        exact ⟨es ++ [_], _, _, hsn.out.symm, rfl, fld_more (by simp) (by simp), by (simp only [seval, push_cast, *] <;> rfl), by (simp only [seval, push_cast, *] <;> rfl), by (simp only [seval, push_cast, *] <;> rfl), by (simp only [seval, push_cast, *] <;> rfl), by (simp only [seval, push_cast, *] <;> rfl)⟩
      · repeat' first
         | (apply z51 (id := 2) (ord := [0, 1, 2, 3, 6, 4, 5, 7]) (ps := [(1, 5), (4, 5)]) <;> first | kernel_rfl | skip)
         | (apply z50 (id := 6) (ord := [0, 1, 2, 3, 4, 5, 6, 7, 8, 9]) <;> first | kernel_rfl | skip)
         | (apply z51 (id := 15) (ord := [0, 1, 2, 3, 4, 5, 6, 7, 8]) (ps := [(1, 5)]) <;> first | kernel_rfl | skip)
         | (apply z50 (id := 20) (ord := [0, 1, 2, 3, 4, 5, 6, 7, 8, 9]) <;> first | kernel_rfl | skip)
         | (apply z51 (id := 21) (ord := [0, 1, 2, 4, 5, 6, 3, 8, 7, 9, 10, 11]) (ps := [(5, 6)]) <;> first | kernel_rfl | skip)
         | (apply z51 (id := 26) (ord := [0, 1, 2, 3, 4, 5, 6, 7, 8, 9, 10, 11, 12, 13, 14, 15, 16, 17, 18, 19, 20]) (ps := [(1, 15), (3, 15), (7, 15)]) <;> first | kernel_rfl | skip)
         | (refine zs ?_; repeat' first | apply zs0 | apply zs2 | (intro hc; try have hq := dq hc)) | fail
        exact ⟨es ++ [_], _, _, hsn.out.symm, rfl, fld_more (by simp) (by simp), by (simp only [seval, push_cast, *] <;> rfl), by (simp only [seval, push_cast, *] <;> rfl), by (simp only [seval, push_cast, *] <;> rfl), by (simp only [seval, push_cast, *] <;> rfl), by (simp only [seval, push_cast, *] <;> rfl)⟩
  · rintro ρ H' ⟨es, nv, J, hes, rfl, hF, h1, h3, h4, h5, h6⟩
    rw [List.take_length] at hes
    replace hes : Kp _ := ⟨hes⟩
    replace hF : Kp _ := ⟨hF⟩
    clear hpos hS hn hin
    conv => arg 3; whnf
    repeat' first
     | (apply z51 (id := 2) (ord := [0, 1, 2, 3, 6, 4, 5, 7]) (ps := [(1, 5), (4, 5)]) <;> first | kernel_rfl | skip)
     | (apply z50 (id := 6) (ord := [0, 1, 2, 3, 4, 5, 6, 7, 8, 9]) <;> first | kernel_rfl | skip)
     | (apply z51 (id := 15) (ord := [0, 1, 2, 3, 4, 5, 6, 7, 8]) (ps := [(1, 5)]) <;> first | kernel_rfl | skip)
     | (apply z50 (id := 20) (ord := [0, 1, 2, 3, 4, 5, 6, 7, 8, 9]) <;> first | kernel_rfl | skip)
     | (apply z51 (id := 21) (ord := [0, 1, 2, 4, 5, 6, 3, 8, 7, 9, 10, 11]) (ps := [(5, 6)]) <;> first | kernel_rfl | skip)
     | (apply z51 (id := 26) (ord := [0, 1, 2, 3, 4, 5, 6, 7, 8, 9, 10, 11, 12, 13, 14, 15, 16, 17, 18, 19, 20]) (ps := [(1, 15), (3, 15), (7, 15)]) <;> first | kernel_rfl | skip)
     | (refine zs ?_; repeat' first | apply zs0 | apply zs2 | (intro hc; try have hq := dq hc)) | fail
    exact ⟨es, nv, J, hes.out, by simp only [cellsNetl], hF.out, rfl⟩
end
end Go.E
/- Contracts of the references, in E: Pruned, its registers and outputs. Own work. -/
namespace Go.E
open Go.Proofs
set_option maxRecDepth 100000
set_option maxHeartbeats 4000000

section
variable (n : Netl) (ns rs : List Int) (H : Heap)
theorem pu_regs (hr1 : n.regs.length ≤ 1000) (hns : ns.length ≤ 1000) (hrs : rs.length ≤ 1000) (hin : ∀ a ∈ rs, 0 ≤ a ∧ a < n.regs.length) (bs : List Nat) (c2 : HObj) (nm : ByteArray) (ip : List V) (nv : V) (hnv : nv.isCell = true) : ∀ i ρ H', i ≤ rs.length →
      (∃ es rv J, es = (rs.take i).map (fun a => encReg (prReg n ns a)) ∧ H' = H ++ .cells (cellsNetl n) :: c2 :: .cells [.str nm, .list ip, rv, nv, .nilS] :: J ∧ Fld H.length 3 J rv es ∧ ρ 1 = .ptr H.length 0 ∧ ρ 3 = .list (rs.map (.int .i64)) ∧ ρ 4 = .list (ns.map (.int .i64)) ∧
        ρ 5 = .ptr (H.length + 2) 0 ∧ ρ 11 = .int .i64 i) →
      Lp X ⟨143, H.length :: bs⟩ (loopAt Tryz.f35 2) ρ H' fun ex ρ' H' => ∃ es rv J, es = rs.map (fun a => encReg (prReg n ns a)) ∧ H' = H ++ .cells (cellsNetl n) :: c2 :: .cells [.str nm, .list ip, rv, nv, .nilS] :: J ∧ Fld H.length 3 J rv es ∧ ex = .exit 4 := by
  have hpos := fun bs H a => bs_position bs H ns a (by omega)
  refine loop_up ?_ ?_
  · rintro i ρ H' hi ⟨es, rv, J, hes, rfl, hF, h1, h3, h4, h5, h6⟩
    have hget : rs[i]? = some rs[i] := by simp [hi]
    have htk : rs.take (i + 1) = rs.take i ++ [rs[i]] := by rw [List.take_add_one, hget]; rfl
    have hib := hin rs[i] (List.getElem_mem hi)
    generalize rs[i] = a at hget htk hib
    obtain ⟨m, rfl⟩ : ∃ m : Nat, a = m := ⟨a.toNat, by omega⟩
    have hm : m < n.regs.length := by omega
    have hgx : n.regs[m]? = some n.regs[m] := by simp [hm]
    have hpr : prReg n ns (m : Int) = ⟨n.regs[m].name, n.regs[m].width, n.regs[m].init, posL ns n.regs[m].enable, posL ns n.regs[m].next⟩ := by
      rw [prReg, Int.toNat_natCast, hgx]
    generalize n.regs[m] = x at hgx hpr
    have hlen : es.length = i := by rw [hes]; simp; omega
    have hroom := room48 es.length (by omega)
    have r48 : 48 ≤ roomB := by unfold roomB; omega
    have hw := add1 i rs.length hi (by omega)
    have hsn : Kp ((rs.take (i + 1)).map (fun a => encReg (prReg n ns a)) = es ++ [encReg ⟨x.name, x.width, x.init, posL ns x.enable, posL ns x.next⟩]) := ⟨by rw [htk, List.map_append, List.map_singleton, hpr, ← hes]⟩
    have hall : es.all (fun e => e.cells.length == 5) = true := by rw [hes, List.all_map, List.all_eq_true]; intro a _; rfl
    clear hes htk hib hpr hin hlen
    rcases hF with ⟨rfl, rfl⟩ | ⟨J0, J1, rfl, rfl, hne⟩
    · skip
      conv => arg 3; whnf
      repeat' first
       | (apply z51 (id := 2) (ord := [0, 1, 2, 3, 6, 4, 5, 7]) (ps := [(1, 5), (4, 5)]) <;> first | kernel_rfl | skip)
       | (apply z50 (id := 6) (ord := [0, 1, 2, 3, 4, 5, 6, 7, 8, 9]) <;> first | kernel_rfl | skip)
       | (apply z51 (id := 15) (ord := [0, 1, 2, 3, 4, 5, 6, 7, 8]) (ps := [(1, 5)]) <;> first | kernel_rfl | skip)
       | (apply z50 (id := 20) (ord := [0, 1, 2, 3, 4, 5, 6, 7, 8, 9]) <;> first | kernel_rfl | skip)
       | (apply z51 (id := 21) (ord := [0, 1, 2, 4, 5, 6, 3, 8, 7, 9, 10, 11]) (ps := [(5, 6)]) <;> first | kernel_rfl | skip)
       | (apply z51 (id := 26) (ord := [0, 1, 2, 3, 4, 5, 6, 7, 8, 9, 10, 11, 12, 13, 14, 15, 16, 17, 18, 19, 20]) (ps := [(1, 15), (3, 15), (7, 15)]) <;> first | kernel_rfl | skip)
       | (refine zs ?_; repeat' first | apply zs0 | apply zs2 | (intro hc; try have hq := dq hc)) | fail
      exact ⟨[] ++ [_], _, _, hsn.out.symm, rfl, fld_new1 (by simp <;> omega), by (simp only [seval, push_cast, *] <;> rfl), by (simp only [seval, push_cast, *] <;> rfl), by (simp only [seval, push_cast, *] <;> rfl), by (simp only [seval, push_cast, *] <;> rfl), by (simp only [seval, push_cast, *] <;> rfl)⟩
    · skip
      conv => arg 3; whnf
      repeat' first
       | (apply z51 (id := 2) (ord := [0, 1, 2, 3, 6, 4, 5, 7]) (ps := [(1, 5), (4, 5)]) <;> first | kernel_rfl | skip)
       | (apply z50 (id := 6) (ord := [0, 1, 2, 3, 4, 5, 6, 7, 8, 9]) <;> first | kernel_rfl | skip)
       | (apply z51 (id := 15) (ord := [0, 1, 2, 3, 4, 5, 6, 7, 8]) (ps := [(1, 5)]) <;> first | kernel_rfl | skip)
       | (apply z50 (id := 20) (ord := [0, 1, 2, 3, 4, 5, 6, 7, 8, 9]) <;> first | kernel_rfl | skip)
       | (apply z51 (id := 21) (ord := [0, 1, 2, 4, 5, 6, 3, 8, 7, 9, 10, 11]) (ps := [(5, 6)]) <;> first | kernel_rfl | skip)
       | (apply z51 (id := 26) (ord := [0, 1, 2, 3, 4, 5, 6, 7, 8, 9, 10, 11, 12, 13, 14, 15, 16, 17, 18, 19, 20]) (ps := [(1, 15), (3, 15), (7, 15)]) <;> first | kernel_rfl | skip)
       | (refine zs ?_; repeat' first | apply zs0 | apply zs2 | (intro hc; try have hq := dq hc)) | fail
      exact ⟨es ++ [_], _, _, hsn.out.symm, rfl, fld_more (by simp) (by simp), by (simp only [seval, push_cast, *] <;> rfl), by (simp only [seval, push_cast, *] <;> rfl), by (simp only [seval, push_cast, *] <;> rfl), by (simp only [seval, push_cast, *] <;> rfl), by (simp only [seval, push_cast, *] <;> rfl)⟩
  · rintro ρ H' ⟨es, rv, J, hes, rfl, hF, h1, h3, h4, h5, h6⟩
    rw [List.take_length] at hes
    replace hes : Kp _ := ⟨hes⟩
    replace hF : Kp _ := ⟨hF⟩
    clear hpos hin
    conv => arg 3; whnf
    repeat' first
     | (apply z51 (id := 2) (ord := [0, 1, 2, 3, 6, 4, 5, 7]) (ps := [(1, 5), (4, 5)]) <;> first | kernel_rfl | skip)
     | (apply z50 (id := 6) (ord := [0, 1, 2, 3, 4, 5, 6, 7, 8, 9]) <;> first | kernel_rfl | skip)
     | (apply z51 (id := 15) (ord := [0, 1, 2, 3, 4, 5, 6, 7, 8]) (ps := [(1, 5)]) <;> first | kernel_rfl | skip)
     | (apply z50 (id := 20) (ord := [0, 1, 2, 3, 4, 5, 6, 7, 8, 9]) <;> first | kernel_rfl | skip)
     | (apply z51 (id := 21) (ord := [0, 1, 2, 4, 5, 6, 3, 8, 7, 9, 10, 11]) (ps := [(5, 6)]) <;> first | kernel_rfl | skip)
     | (apply z51 (id := 26) (ord := [0, 1, 2, 3, 4, 5, 6, 7, 8, 9, 10, 11, 12, 13, 14, 15, 16, 17, 18, 19, 20]) (ps := [(1, 15), (3, 15), (7, 15)]) <;> first | kernel_rfl | skip)
     | (refine zs ?_; repeat' first | apply zs0 | apply zs2 | (intro hc; try have hq := dq hc)) | fail
    exact ⟨es, rv, J, hes.out, by simp only [cellsNetl], hF.out, rfl⟩
theorem pu_outs (ho1 : n.outs.length ≤ 1000) (hns : ns.length ≤ 1000) (bs : List Nat) (c2 : HObj) (nm : ByteArray) (ip : List V) (rv nv : V) : ∀ i ρ H', i ≤ n.outs.length →
      (∃ es ov J, es = (n.outs.take i).map (fun a => encOutp (prOut ns a)) ∧ H' = H ++ .cells (cellsNetl n) :: c2 :: .cells [.str nm, .list ip, rv, nv, ov] :: J ∧ Fld H.length 3 J ov es ∧ ρ 1 = .ptr H.length 0 ∧ ρ 4 = .list (ns.map (.int .i64)) ∧
        ρ 5 = .ptr (H.length + 2) 0 ∧ ρ 13 = .int .i64 i) →
      Lp X ⟨143, H.length :: bs⟩ (loopAt Tryz.f35 3) ρ H' fun ex ρ' H' => ∃ es ov J, es = n.outs.map (fun a => encOutp (prOut ns a)) ∧ H' = H ++ .cells (cellsNetl n) :: c2 :: .cells [.str nm, .list ip, rv, nv, ov] :: J ∧ Fld H.length 3 J ov es ∧ ex = .exit 6 := by
  have hpos := fun bs H a => bs_position bs H ns a (by omega)
  refine loop_up ?_ ?_
  · rintro i ρ H' hi ⟨es, ov, J, hes, rfl, hF, h1, h4, h5, h6⟩
    have hgx : n.outs[i]? = some n.outs[i] := by simp [hi]
    have htk : n.outs.take (i + 1) = n.outs.take i ++ [n.outs[i]] := by rw [List.take_add_one, hgx]; rfl
    generalize n.outs[i] = x at hgx htk
    have hlen : es.length = i := by rw [hes]; simp; omega
    have hroom : (es.length + 1) * 24 ≤ roomB := by unfold roomB; omega
    have r24 : 24 ≤ roomB := by unfold roomB; omega
    have hw := add1 i n.outs.length hi (by omega)
    have hsn : Kp ((n.outs.take (i + 1)).map (fun a => encOutp (prOut ns a)) = es ++ [encOutp ⟨x.name, posL ns x.node⟩]) := ⟨by rw [htk, List.map_append, List.map_singleton, ← hes]; rfl⟩
    have hall : es.all (fun e => e.cells.length == 2) = true := by rw [hes, List.all_map, List.all_eq_true]; intro a _; rfl
    clear hes htk hlen
    rcases hF with ⟨rfl, rfl⟩ | ⟨J0, J1, rfl, rfl, hne⟩
    · skip
      conv => arg 3; whnf
      repeat' first
       | (apply z51 (id := 2) (ord := [0, 1, 2, 3, 6, 4, 5, 7]) (ps := [(1, 5), (4, 5)]) <;> first | kernel_rfl | skip)
       | (apply z50 (id := 6) (ord := [0, 1, 2, 3, 4, 5, 6, 7, 8, 9]) <;> first | kernel_rfl | skip)
       | (apply z51 (id := 15) (ord := [0, 1, 2, 3, 4, 5, 6, 7, 8]) (ps := [(1, 5)]) <;> first | kernel_rfl | skip)
       | (apply z50 (id := 20) (ord := [0, 1, 2, 3, 4, 5, 6, 7, 8, 9]) <;> first | kernel_rfl | skip)
       | (apply z51 (id := 21) (ord := [0, 1, 2, 4, 5, 6, 3, 8, 7, 9, 10, 11]) (ps := [(5, 6)]) <;> first | kernel_rfl | skip)
       | (apply z51 (id := 26) (ord := [0, 1, 2, 3, 4, 5, 6, 7, 8, 9, 10, 11, 12, 13, 14, 15, 16, 17, 18, 19, 20]) (ps := [(1, 15), (3, 15), (7, 15)]) <;> first | kernel_rfl | skip)
       | (refine zs ?_; repeat' first | apply zs0 | apply zs2 | (intro hc; try have hq := dq hc)) | fail
      exact ⟨[] ++ [_], _, _, hsn.out.symm, rfl, fld_new0 (by simp <;> omega), by (simp only [seval, push_cast, *] <;> rfl), by (simp only [seval, push_cast, *] <;> rfl), by (simp only [seval, push_cast, *] <;> rfl), by (simp only [seval, push_cast, *] <;> rfl)⟩
    · skip
      conv => arg 3; whnf
      repeat' first
       | (apply z51 (id := 2) (ord := [0, 1, 2, 3, 6, 4, 5, 7]) (ps := [(1, 5), (4, 5)]) <;> first | kernel_rfl | skip)
       | (apply z50 (id := 6) (ord := [0, 1, 2, 3, 4, 5, 6, 7, 8, 9]) <;> first | kernel_rfl | skip)
       | (apply z51 (id := 15) (ord := [0, 1, 2, 3, 4, 5, 6, 7, 8]) (ps := [(1, 5)]) <;> first | kernel_rfl | skip)
       | (apply z50 (id := 20) (ord := [0, 1, 2, 3, 4, 5, 6, 7, 8, 9]) <;> first | kernel_rfl | skip)
       | (apply z51 (id := 21) (ord := [0, 1, 2, 4, 5, 6, 3, 8, 7, 9, 10, 11]) (ps := [(5, 6)]) <;> first | kernel_rfl | skip)
       | (apply z51 (id := 26) (ord := [0, 1, 2, 3, 4, 5, 6, 7, 8, 9, 10, 11, 12, 13, 14, 15, 16, 17, 18, 19, 20]) (ps := [(1, 15), (3, 15), (7, 15)]) <;> first | kernel_rfl | skip)
       | (refine zs ?_; repeat' first | apply zs0 | apply zs2 | (intro hc; try have hq := dq hc)) | fail
      exact ⟨es ++ [_], _, _, hsn.out.symm, rfl, fld_more (by simp) (by simp), by (simp only [seval, push_cast, *] <;> rfl), by (simp only [seval, push_cast, *] <;> rfl), by (simp only [seval, push_cast, *] <;> rfl), by (simp only [seval, push_cast, *] <;> rfl)⟩
  · rintro ρ H' ⟨es, ov, J, hes, rfl, hF, h1, h4, h5, h6⟩
    rw [List.take_length] at hes
    replace hes : Kp _ := ⟨hes⟩
    replace hF : Kp _ := ⟨hF⟩
    clear hpos
    conv => arg 3; whnf
    repeat' first
     | (apply z51 (id := 2) (ord := [0, 1, 2, 3, 6, 4, 5, 7]) (ps := [(1, 5), (4, 5)]) <;> first | kernel_rfl | skip)
     | (apply z50 (id := 6) (ord := [0, 1, 2, 3, 4, 5, 6, 7, 8, 9]) <;> first | kernel_rfl | skip)
     | (apply z51 (id := 15) (ord := [0, 1, 2, 3, 4, 5, 6, 7, 8]) (ps := [(1, 5)]) <;> first | kernel_rfl | skip)
     | (apply z50 (id := 20) (ord := [0, 1, 2, 3, 4, 5, 6, 7, 8, 9]) <;> first | kernel_rfl | skip)
     | (apply z51 (id := 21) (ord := [0, 1, 2, 4, 5, 6, 3, 8, 7, 9, 10, 11]) (ps := [(5, 6)]) <;> first | kernel_rfl | skip)
     | (apply z51 (id := 26) (ord := [0, 1, 2, 3, 4, 5, 6, 7, 8, 9, 10, 11, 12, 13, 14, 15, 16, 17, 18, 19, 20]) (ps := [(1, 15), (3, 15), (7, 15)]) <;> first | kernel_rfl | skip)
     | (refine zs ?_; repeat' first | apply zs0 | apply zs2 | (intro hc; try have hq := dq hc)) | fail
    exact ⟨es, ov, J, hes.out, by simp only [cellsNetl], hF.out, rfl⟩
end
theorem use_in (n : Netl) : ∀ a ∈ useN n, 0 ≤ a ∧ a < n.nodes.length := fun a ha => by
  obtain ⟨j, hj, e⟩ := List.getElem_of_mem ha
  obtain ⟨k, h1, h2, _⟩ := idxB_get (l := usedNb n) (i := 0) (j := j) (a := a) (by rw [← e]; exact List.getElem?_eq_getElem hj)
  have := (List.getElem?_eq_some_iff.1 h2).1
  simp [usedNb] at this
  omega
theorem use_inR (n : Netl) : ∀ a ∈ useR n, 0 ≤ a ∧ a < n.regs.length := fun a ha => by
  obtain ⟨j, hj, e⟩ := List.getElem_of_mem ha
  obtain ⟨k, h1, h2, _⟩ := idxB_get (l := usedRb n) (i := 0) (j := j) (a := a) (by rw [← e]; exact List.getElem?_eq_getElem hj)
  have := (List.getElem?_eq_some_iff.1 h2).1
  simp [usedRb] at this
  omega
theorem use_len (n : Netl) : (useN n).length ≤ n.nodes.length ∧ (useR n).length ≤ n.regs.length := by
  have h1 := idxB_len (usedNb n) 0
  have h2 := idxB_len (usedRb n) 0
  simp [usedNb] at h1
  simp [usedRb] at h2
  exact ⟨by simpa [useN, usedNb] using h1, by simpa [useR, usedRb] using h2⟩

theorem rf_pruned (bs : List Nat) (H : Heap) (n : Netl) (hS : Small n) (hk : NetOk n) : callw X bs 35 [encNetl n] H = some (encNetN (prunedS n), H) := by
  refine call_at (rs := [.cell 2 27]) (N := 143) (fn := Tryz.f35) xk35 xf35 rfl rfl rfl (by simp only [seval, push_cast, List.map_cons, List.map_nil, V.norm, norm1]; rfl) ?_
  have hl := use_len n
  have s1 := hS.nodes
  have s2 := hS.regs
  have s3 := hS.outs
  have t1 := fun bs H => rf_used bs H n hS hk
  have t2 := fun bs H => bs_copyPorts bs H n.inputs (by have := hS.inputs; omega)
  have q0 := fun bs c2 nm ip ρ => pu_nodes n (useN n) (useR n) H hS (nodes_ok hk) (by omega) (by omega) (use_in n) bs c2 nm ip 0 ρ
  have q2 := fun bs c2 nm ip nv h ρ => pu_regs n (useN n) (useR n) H s2 (by omega) (by omega) (use_inR n) bs c2 nm ip nv h 0 ρ
  have q3 := fun bs c2 nm ip rv nv ρ => pu_outs n (useN n) H s3 (by omega) bs c2 nm ip rv nv 0 ρ
  simp only [encNetN, prunedS, prunedL, List.map_map, Function.comp_def]
  simp only [encNetl, cellsNetl, show idxB 0 (usedNb n) = useN n from rfl, show idxB 0 (usedRb n) = useR n from rfl] at t1 q0 q2 q3
  clear hS hk hl s1 s2 s3
  generalize useN n = ns at t1 q0 q2 q3 ⊢
  generalize useR n = rs at t1 q0 q2 q3 ⊢
  repeat' first
   | (apply z51 (id := 2) (ord := [0, 1, 2, 3, 6, 4, 5, 7]) (ps := [(1, 5), (4, 5)]) <;> first | kernel_rfl | skip)
   | (apply z50 (id := 6) (ord := [0, 1, 2, 3, 4, 5, 6, 7, 8, 9]) <;> first | kernel_rfl | skip)
   | (apply z51 (id := 15) (ord := [0, 1, 2, 3, 4, 5, 6, 7, 8]) (ps := [(1, 5)]) <;> first | kernel_rfl | skip)
   | (apply z50 (id := 20) (ord := [0, 1, 2, 3, 4, 5, 6, 7, 8, 9]) <;> first | kernel_rfl | skip)
   | (apply z51 (id := 21) (ord := [0, 1, 2, 4, 5, 6, 3, 8, 7, 9, 10, 11]) (ps := [(5, 6)]) <;> first | kernel_rfl | skip)
   | (apply z51 (id := 26) (ord := [0, 1, 2, 3, 4, 5, 6, 7, 8, 9, 10, 11, 12, 13, 14, 15, 16, 17, 18, 19, 20]) (ps := [(1, 15), (3, 15), (7, 15)]) <;> first | kernel_rfl | skip)
   | (refine zs ?_; repeat' first | apply zs0 | apply zs2 | (intro hc; try have hq := dq hc)) | fail
  refine lp_then (lp_any (c := loopAt Tryz.f35 0) rfl (q0 _ _ _ _ _ _ (by omega) ⟨[], .nilS, [], rfl, rfl, .inl ⟨rfl, rfl⟩, by (simp only [seval, push_cast, *] <;> rfl), by (simp only [seval, push_cast, *] <;> rfl), by (simp only [seval, push_cast, *] <;> rfl), by (simp only [seval, push_cast, *] <;> rfl), by (simp only [seval, push_cast, *] <;> rfl)⟩)) ?_
  rintro ex ρ1 H' ⟨es, nv, J, rfl, rfl, hF, rfl⟩ hf
  have f1 := hf 1 rfl
  have f2 := hf 2 rfl
  have f3 := hf 3 rfl
  have f4 := hf 4 rfl
  have f5 := hf 5 rfl
  simp only [seval, push_cast] at f1 f2 f3 f4 f5
  have c1 := fld_cell hF
  have z1 := fld_frz hF
  clear hf q0 hF t1 t2
  repeat' first
   | (apply z51 (id := 2) (ord := [0, 1, 2, 3, 6, 4, 5, 7]) (ps := [(1, 5), (4, 5)]) <;> first | kernel_rfl | skip)
   | (apply z50 (id := 6) (ord := [0, 1, 2, 3, 4, 5, 6, 7, 8, 9]) <;> first | kernel_rfl | skip)
   | (apply z51 (id := 15) (ord := [0, 1, 2, 3, 4, 5, 6, 7, 8]) (ps := [(1, 5)]) <;> first | kernel_rfl | skip)
   | (apply z50 (id := 20) (ord := [0, 1, 2, 3, 4, 5, 6, 7, 8, 9]) <;> first | kernel_rfl | skip)
   | (apply z51 (id := 21) (ord := [0, 1, 2, 4, 5, 6, 3, 8, 7, 9, 10, 11]) (ps := [(5, 6)]) <;> first | kernel_rfl | skip)
   | (apply z51 (id := 26) (ord := [0, 1, 2, 3, 4, 5, 6, 7, 8, 9, 10, 11, 12, 13, 14, 15, 16, 17, 18, 19, 20]) (ps := [(1, 15), (3, 15), (7, 15)]) <;> first | kernel_rfl | skip)
   | (refine zs ?_; repeat' first | apply zs0 | apply zs2 | (intro hc; try have hq := dq hc)) | fail
  refine lp_then (lp_any (c := loopAt Tryz.f35 2) rfl (q2 _ _ _ _ nv c1 _ _ (by omega) ⟨[], .nilS, J, rfl, rfl, .inl ⟨rfl, rfl⟩, by (simp only [seval, push_cast, *] <;> rfl), by (simp only [seval, push_cast, *] <;> rfl), by (simp only [seval, push_cast, *] <;> rfl), by (simp only [seval, push_cast, *] <;> rfl), by (simp only [seval, push_cast, *] <;> rfl)⟩)) ?_
  rintro ex ρ2 H' ⟨es, rv, J2, rfl, rfl, hF, rfl⟩ hf
  have g1 := hf 1 rfl
  have g2 := hf 2 rfl
  have g4 := hf 4 rfl
  have g5 := hf 5 rfl
  simp only [seval, push_cast, f1, f2, f4, f5] at g1 g2 g4 g5
  have c2 := fld_cell hF
  have z2 := fld_frz hF
  clear hf q2 hF f1 f2 f3 f4 f5
  repeat' first
   | (apply z51 (id := 2) (ord := [0, 1, 2, 3, 6, 4, 5, 7]) (ps := [(1, 5), (4, 5)]) <;> first | kernel_rfl | skip)
   | (apply z50 (id := 6) (ord := [0, 1, 2, 3, 4, 5, 6, 7, 8, 9]) <;> first | kernel_rfl | skip)
   | (apply z51 (id := 15) (ord := [0, 1, 2, 3, 4, 5, 6, 7, 8]) (ps := [(1, 5)]) <;> first | kernel_rfl | skip)
   | (apply z50 (id := 20) (ord := [0, 1, 2, 3, 4, 5, 6, 7, 8, 9]) <;> first | kernel_rfl | skip)
   | (apply z51 (id := 21) (ord := [0, 1, 2, 4, 5, 6, 3, 8, 7, 9, 10, 11]) (ps := [(5, 6)]) <;> first | kernel_rfl | skip)
   | (apply z51 (id := 26) (ord := [0, 1, 2, 3, 4, 5, 6, 7, 8, 9, 10, 11, 12, 13, 14, 15, 16, 17, 18, 19, 20]) (ps := [(1, 15), (3, 15), (7, 15)]) <;> first | kernel_rfl | skip)
   | (refine zs ?_; repeat' first | apply zs0 | apply zs2 | (intro hc; try have hq := dq hc)) | fail
  refine lp_then (lp_any (c := loopAt Tryz.f35 3) rfl (q3 _ _ _ _ rv nv _ _ (by omega) ⟨[], .nilS, J2, rfl, rfl, .inl ⟨rfl, rfl⟩, by (simp only [seval, push_cast, *] <;> rfl), by (simp only [seval, push_cast, *] <;> rfl), by (simp only [seval, push_cast, *] <;> rfl), by (simp only [seval, push_cast, *] <;> rfl)⟩)) ?_
  rintro ex ρ3 H' ⟨es, ov, J3, rfl, rfl, hF, rfl⟩ hf
  have h2 := hf 2 rfl
  have h5 := hf 5 rfl
  simp only [seval, push_cast, g2, g5] at h2 h5
  have c3 := fld_cell hF
  have z3 := fld_frz hF
  simp only [V.isCell] at c1 c2 c3
  clear hf q3 hF g1 g2 g4 g5
  repeat' first
   | (apply z51 (id := 2) (ord := [0, 1, 2, 3, 6, 4, 5, 7]) (ps := [(1, 5), (4, 5)]) <;> first | kernel_rfl | skip)
   | (apply z50 (id := 6) (ord := [0, 1, 2, 3, 4, 5, 6, 7, 8, 9]) <;> first | kernel_rfl | skip)
   | (apply z51 (id := 15) (ord := [0, 1, 2, 3, 4, 5, 6, 7, 8]) (ps := [(1, 5)]) <;> first | kernel_rfl | skip)
   | (apply z50 (id := 20) (ord := [0, 1, 2, 3, 4, 5, 6, 7, 8, 9]) <;> first | kernel_rfl | skip)
   | (apply z51 (id := 21) (ord := [0, 1, 2, 4, 5, 6, 3, 8, 7, 9, 10, 11]) (ps := [(5, 6)]) <;> first | kernel_rfl | skip)
   | (apply z51 (id := 26) (ord := [0, 1, 2, 3, 4, 5, 6, 7, 8, 9, 10, 11, 12, 13, 14, 15, 16, 17, 18, 19, 20]) (ps := [(1, 15), (3, 15), (7, 15)]) <;> first | kernel_rfl | skip)
   | (refine zs ?_; repeat' first | apply zs0 | apply zs2 | (intro hc; try have hq := dq hc)) | fail
end Go.E
/- Contracts of the package netlist, in E: Pruned. Own work. -/
namespace Go.E
open Go.Proofs
set_option maxRecDepth 100000
set_option maxHeartbeats 4000000

/-- Where the nodes that were placed stand. -/
def AtOk (ns at_ : List Int) (i : Nat) : Prop := ∀ j a, j < i → ns[j]? = some a → at0 at_ a.toNat = j
theorem use_mem {n : Netl} {a : Nat} (h : UsedN n a) (hl : a < n.nodes.length) : (a : Int) ∈ useN n := by
  have := idxB_mem (l := usedNb n) (i := 0) (k := a) (by simp [usedNb, hl, h])
  simpa [useN] using this
theorem use_of {n : Netl} {j : Nat} {a : Int} (h : (useN n)[j]? = some a) : UsedN n a.toNat := by
  obtain ⟨k, h1, h2, _⟩ := idxB_get (l := usedNb n) (i := 0) h
  obtain ⟨hl, h3⟩ := List.getElem?_eq_some_iff.1 h2
  simp [usedNb] at h3
  rw [h1]; simpa using h3
theorem at_arg {n : Netl} (hn : NodesOk n) {at_ : List Int} {i m : Nat} {x : Node} (hA : AtOk (useN n) at_ i) (hm : (useN n)[i]? = some (m : Int)) (hx : n.nodes[m]? = some x) : ∀ a ∈ x.args, 0 ≤ a ∧ a < n.nodes.length ∧ at0 at_ a.toNat = posL (useN n) a := fun a ha => by
  have h1 := hn.args m x hx a ha
  have hml := (List.getElem?_eq_some_iff.1 hx).1
  have hu : UsedN n a.toNat := .arg m x a (by have := use_of hm; simpa using this) hx ha
  have hmem := use_mem hu (by omega)
  rw [Int.toNat_of_nonneg h1.1] at hmem
  obtain ⟨j, hj, e⟩ := List.getElem_of_mem hmem
  have hg : (useN n)[j]? = some a := by rw [List.getElem?_eq_getElem hj, e]
  have hji : j < i := take_lt hg hm h1.2
  exact ⟨h1.1, by omega, by rw [hA j a hji hg]; exact (posL_at hg).symm⟩
theorem at_next {n : Netl} {at_ : List Int} {i m : Nat} (hA : AtOk (useN n) at_ i) (hm : (useN n)[i]? = some (m : Int)) (hl : m < at_.length) : AtOk (useN n) (at_.set m i) (i + 1) := fun j a hj hg => by
  rcases Nat.lt_or_eq_of_le (Nat.le_of_lt_succ hj) with h1 | rfl
  · have h2 := idxB_up hg hm h1
    have h3 := use_in n a (List.mem_of_getElem? hg)
    rw [← hA j a h1 hg]
    simp only [at0, List.getD_eq_getElem?_getD]
    rw [List.getElem?_set_ne (by omega)]
  · rw [hm] at hg
    obtain rfl := Option.some.inj hg
    simp [at0, hl]
/-- All that is used was placed. -/
theorem at_all {n : Netl} {at_ : List Int} (hA : AtOk (useN n) at_ (useN n).length) {a : Int} (h0 : 0 ≤ a) (hl : a < n.nodes.length) (hu : UsedN n a.toNat) : at0 at_ a.toNat = posL (useN n) a := by
  have hmem := use_mem hu (by omega)
  rw [Int.toNat_of_nonneg h0] at hmem
  obtain ⟨j, hj, e⟩ := List.getElem_of_mem hmem
  have hg : (useN n)[j]? = some a := by rw [List.getElem?_eq_getElem hj, e]
  rw [hA j a hj hg]; exact (posL_at hg).symm
theorem ints_get {l : List Int} {i : Nat} (h : i < l.length) : (l.map (V.int .i64))[i]? = some (.int .i64 (at0 l i)) := by simp [at0, h]
theorem ints_set (l : List Int) (i : Nat) (v : Int) : (l.map (V.int .i64)).set i (.int .i64 v) = (l.set i v).map (.int .i64) := by rw [List.map_set]

section
variable (n : Netl) (ns rs : List Int) (H : Heap)
theorem pp_args (x : Node) (at_ : List Int) (hal : x.args.length ≤ 1000) (hl : at_.length = n.nodes.length) (hat : ∀ a ∈ x.args, 0 ≤ a ∧ a < n.nodes.length ∧ at0 at_ a.toNat = posL ns a) (bs : List Nat) (c1 c2 c3 o : HObj) (J : List HObj) : ∀ i ρ H', i ≤ x.args.length →
      (∃ ws, ws = (x.args.take i).map (posL ns) ∧ H' = H ++ c1 :: c2 :: c3 :: o :: .arr (at_.map (.int .i64)) 0 :: (J ++ [.cells [.int .i64 x.op, .int .i64 x.width, .list (x.args.map (.int .i64)), .int .i64 x.value], .tok ws.length]) ∧ ρ 10 = .ref 1 (H.length + 4) 0 0 n.nodes.length ∧
        ρ 14 = .tl (H.length + (J.length + 6)) (ws.map (.int .i64)) ∧ ρ 62 = .list (x.args.map (.int .i64)) ∧ ρ 63 = .int .i64 x.args.length ∧ ρ 64 = .int .i64 i) →
      Lp X ⟨164, H.length :: bs⟩ (loopAt Tryz.f32 1) ρ H' fun ex ρ' H' => ∃ ws, ws = x.args.map (posL ns) ∧ H' = H ++ c1 :: c2 :: c3 :: o :: .arr (at_.map (.int .i64)) 0 :: (J ++ [.cells [.int .i64 x.op, .int .i64 x.width, .list (x.args.map (.int .i64)), .int .i64 x.value], .tok ws.length]) ∧
        ρ' 14 = .tl (H.length + (J.length + 6)) (ws.map (.int .i64)) ∧ ex = .exit 2 := by
  refine loop_up ?_ ?_
  · rintro i ρ H' hi ⟨ws, hws, rfl, h10, h14, h62, h63, h64⟩
    have hget : x.args[i]? = some x.args[i] := by simp [hi]
    have htk : x.args.take (i + 1) = x.args.take i ++ [x.args[i]] := by rw [List.take_add_one, hget]; rfl
    have hax := hat x.args[i] (List.getElem_mem hi)
    generalize x.args[i] = a at hget htk hax
    obtain ⟨m, rfl⟩ : ∃ m : Nat, a = m := ⟨a.toNat, by omega⟩
    have hg := ints_get (l := at_) (i := m) (by omega)
    have h3 := hax.2.2
    rw [Int.toNat_natCast] at h3
    rw [h3] at hg
    have hm : m < n.nodes.length := by omega
    have hlen : ws.length = i := by rw [hws]; simp; omega
    have hroom := room8 ws.length (by omega)
    have hw := add1 i x.args.length hi (by omega)
    have hsn : Kp ((x.args.take (i + 1)).map (posL ns) = ws ++ [posL ns m]) := ⟨by rw [htk, hws]; simp⟩
    clear hws hlen htk hat hax h3 hl
    generalize at_.map (V.int .i64) = A at hg ⊢
    conv => arg 3; whnf
    all_goals try (refine zs ?_; repeat' first | apply zs0 | apply zs2 | (intro hc; try have hq := dq hc))
    exact ⟨ws ++ [posL ns m], hsn.out.symm, by simp only [List.length_append, List.length_singleton], by (simp only [seval, push_cast, *] <;> rfl), by simp [push_cast], by (simp only [seval, push_cast, *] <;> rfl), by (simp only [seval, push_cast, *] <;> rfl), by (simp only [seval, push_cast, *] <;> rfl)⟩
  · rintro ρ H' ⟨ws, hws, rfl, h10, h14, h62, h63, h64⟩
    rw [List.take_length] at hws
    replace hws : Kp _ := ⟨hws⟩
    clear hat hl
    conv => arg 3; whnf
    all_goals try (refine zs ?_; repeat' first | apply zs0 | apply zs2 | (intro hc; try have hq := dq hc))
    exact ⟨ws, hws.out, rfl, by (simp only [seval, push_cast, *] <;> rfl), rfl⟩
theorem pp_nodes (hN : ns = useN n) (hS : Small n) (hn : NodesOk n) (hns : ns.length ≤ 1000) (hrs : rs.length ≤ 1000) (bs : List Nat) (c2 c3 : HObj) (nm : ByteArray) (ip : List V) : ∀ i ρ H', i ≤ ns.length →
      (∃ es nv J at_, at_.length = n.nodes.length ∧ AtOk ns at_ i ∧ es = (ns.take i).map (fun a => encNode (prNode n ns rs a)) ∧ H' = H ++ .cells (cellsNetl n) :: c2 :: c3 :: .cells [.str nm, .list ip, .nilS, nv, .nilS] :: .arr (at_.map (.int .i64)) 0 :: J ∧ Fld H.length 5 J nv es ∧ ρ 1 = .ptr H.length 0 ∧
        ρ 8 = .list (rs.map (.int .i64)) ∧ ρ 9 = .ptr (H.length + 3) 0 ∧ ρ 10 = .ref 1 (H.length + 4) 0 0 n.nodes.length ∧ ρ 50 = .list (ns.map (.int .i64)) ∧ ρ 51 = .int .i64 ns.length ∧ ρ 52 = .int .i64 i) →
      Lp X ⟨164, H.length :: bs⟩ (loopAt Tryz.f32 0) ρ H' fun ex ρ' H' => ∃ es nv J at_, at_.length = n.nodes.length ∧ AtOk ns at_ ns.length ∧ es = ns.map (fun a => encNode (prNode n ns rs a)) ∧ H' = H ++ .cells (cellsNetl n) :: c2 :: c3 :: .cells [.str nm, .list ip, .nilS, nv, .nilS] :: .arr (at_.map (.int .i64)) 0 :: J ∧ Fld H.length 5 J nv es ∧ ex = .exit 0 := by
  have hpos := fun bs H a => sl_index bs H rs a (by omega)
  refine loop_up ?_ ?_
  · rintro i ρ H' hi ⟨es, nv, J, at_, hal0, hA, hes, rfl, hF, h1, h8, h9, h10, h50, h51, h52⟩
    have hget : ns[i]? = some ns[i] := by simp [hi]
    have htk : ns.take (i + 1) = ns.take i ++ [ns[i]] := by rw [List.take_add_one, hget]; rfl
    have hib := use_in n ns[i] (by rw [← hN]; exact List.getElem_mem hi)
    generalize ns[i] = a at hget htk hib
    obtain ⟨m, rfl⟩ : ∃ m : Nat, a = m := ⟨a.toNat, by omega⟩
    have hm : m < n.nodes.length := by omega
    have hgx : n.nodes[m]? = some n.nodes[m] := by simp [hm]
    have hal := hS.args n.nodes[m] (List.getElem_mem hm)
    have hlf := hn.leaf m _ hgx
    have hat : ∀ a ∈ n.nodes[m].args, 0 ≤ a ∧ a < n.nodes.length ∧ at0 at_ a.toNat = posL ns a := by subst hN; exact at_arg hn hA hget hgx
    have hpr : prNode n ns rs (m : Int) = ⟨n.nodes[m].op, n.nodes[m].width, n.nodes[m].args.map (posL ns), if n.nodes[m].op = 1 ∧ (n.inputs.length : Int) ≤ n.nodes[m].value then (n.inputs.length : Int) + posL rs (n.nodes[m].value - n.inputs.length) else n.nodes[m].value⟩ := by
      rw [prNode, Int.toNat_natCast, hgx]
    generalize n.nodes[m] = x at hgx hal hlf hpr hat
    have hlen : es.length = i := by rw [hes]; simp; omega
    have hA2 : AtOk ns (at_.set m (es.length : Int)) (i + 1) := by rw [hlen]; subst hN; exact at_next hA hget (by omega)
    have hal2 : (at_.set m (es.length : Int)).length = n.nodes.length := by simp [hal0]
    have hgm := ints_get (l := at_) (i := m) (by omega)
    have hsm := ints_set at_ m (es.length : Int)
    have hroom := room48 es.length (by omega)
    have r48 : 48 ≤ roomB := by unfold roomB; omega
    have hw := add1 i ns.length hi (by omega)
    have hi1 := hS.inputs
    have hr1 := hS.regs
    have hsn : Kp ((ns.take (i + 1)).map (fun a => encNode (prNode n ns rs a)) = es ++ [encNode ⟨x.op, x.width, x.args.map (posL ns), if x.op = 1 ∧ (n.inputs.length : Int) ≤ x.value then (n.inputs.length : Int) + posL rs (x.value - n.inputs.length) else x.value⟩]) := ⟨by rw [htk, List.map_append, List.map_singleton, hpr, ← hes]⟩
    have q := fun c1 c2 c3 o J ρ => pp_args n ns H x at_ hal hal0 hat bs c1 c2 c3 o J 0 ρ
    have hl1 := (posL_range rs (x.value - n.inputs.length))
    replace hl1 : Kp _ := ⟨hl1⟩
    replace hA2 : Kp _ := ⟨hA2⟩
    replace hal2 : Kp _ := ⟨hal2⟩
    have hall : es.all (fun e => e.cells.length == 4) = true := by rw [hes, List.all_map, List.all_eq_true]; intro a _; rfl
    clear hes htk hib hpr hS hn hlen hat hA
    have hcase : ∃ v' : Int, v' = (if x.op = 1 ∧ (n.inputs.length : Int) ≤ x.value then (n.inputs.length : Int) + posL rs (x.value - n.inputs.length) else x.value) ∧
        ((decide (x.op = 1) = true ∧ decide (x.value - (n.inputs.length : Int) ≥ 0) = true ∧ IntKind.i64.wrap (x.value - (n.inputs.length : Int)) = x.value - (n.inputs.length : Int) ∧ IntKind.i64.wrap ((n.inputs.length : Int) + posL rs (x.value - (n.inputs.length : Int))) = v') ∨
         (decide (x.op = 1) = true ∧ decide (IntKind.i64.wrap (x.value - (n.inputs.length : Int)) ≥ 0) = false ∧ v' = x.value) ∨ (decide (x.op = 1) = false ∧ v' = x.value)) := by
      refine ⟨_, rfl, ?_⟩
      by_cases ho : x.op = 1
      · have h2 := hlf ho
        have e1 : IntKind.i64.wrap (x.value - (n.inputs.length : Int)) = x.value - (n.inputs.length : Int) := by rw [wrap64] <;> omega
        by_cases hv : (n.inputs.length : Int) ≤ x.value
        · refine .inl ⟨decide_eq_true ho, decide_eq_true (by omega), e1, ?_⟩
          rw [if_pos ⟨ho, hv⟩, wrap64] <;> have := hl1.out <;> omega
        · exact .inr (.inl ⟨decide_eq_true ho, decide_eq_false (by rw [e1]; omega), by rw [if_neg (by omega)]⟩)
      · exact .inr (.inr ⟨decide_eq_false ho, by rw [if_neg (by simp [ho])]⟩)
    obtain ⟨v', hv', hcs⟩ := hcase
    rw [← hv'] at hsn
    clear hlf hl1 hv' hN hal0
    rcases hF with ⟨rfl, rfl⟩ | ⟨J0, J1, rfl, rfl, hne⟩
    · simp only [List.length_nil, show ((0 : Nat) : Int) = 0 from rfl] at hsm hA2 hal2
      conv => arg 3; whnf
      repeat' first
       | (apply z51 (id := 6) (ord := [0, 1, 2, 3, 6, 4, 5, 7]) (ps := [(1, 5), (4, 5)]) <;> first | kernel_rfl | skip)
       | (apply z51 (id := 20) (ord := [0, 1, 2, 3, 4, 5, 6, 7, 8]) (ps := [(1, 5)]) <;> first | kernel_rfl | skip)
       | (apply z51 (id := 29) (ord := [0, 1, 2, 3, 4, 5, 6, 7, 8, 9, 10, 11, 12, 13]) (ps := [(9, 11)]) <;> first | kernel_rfl | skip)
       | (apply z50 (id := 35) (ord := [0, 1, 2, 3, 4, 5, 6, 7, 8, 9, 10, 11, 12, 13]) <;> first | kernel_rfl | skip)
       | (refine zs ?_; repeat' first | apply zs0 | apply zs2 | (intro hc; try have hq := dq hc)) | fail
      refine lp_then (lp_any (c := loopAt Tryz.f32 1) rfl (q _ _ _ _ J _ _ (by omega) ⟨[], rfl, by first | rfl | (simp only [List.append_assoc, List.cons_append]; rfl), by (simp only [seval, push_cast, *] <;> rfl), by simp only [seval, push_cast] <;> (congr 2 <;> omega), by (simp only [seval, push_cast, *] <;> rfl), by (simp only [seval, push_cast, *] <;> rfl), by (simp only [seval, push_cast, *] <;> rfl)⟩)) ?_
      rintro ex ρ1 H' ⟨ws, rfl, rfl, g14, rfl⟩ hf
      have f1 := hf 1 rfl
      have f8 := hf 8 rfl
      have f9 := hf 9 rfl
      have f10 := hf 10 rfl
      have f12 := hf 12 rfl
      have f13 := hf 13 rfl
      have f50 := hf 50 rfl
      have f51 := hf 51 rfl
      have f52 := hf 52 rfl
      simp only [seval, push_cast, h1, h8, h9, h10, h50, h51, h52] at f1 f8 f9 f10 f12 f13 f50 f51 f52
      clear hf q h1 h8 h9 h10 h50 h51 h52
      rcases hcs with ⟨d1, d2, d3, d4⟩ | ⟨d1, d2, rfl⟩ | ⟨d1, rfl⟩
      · repeat' first
         | (apply z51 (id := 6) (ord := [0, 1, 2, 3, 6, 4, 5, 7]) (ps := [(1, 5), (4, 5)]) <;> first | kernel_rfl | skip)
         | (apply z51 (id := 20) (ord := [0, 1, 2, 3, 4, 5, 6, 7, 8]) (ps := [(1, 5)]) <;> first | kernel_rfl | skip)
         | (apply z51 (id := 29) (ord := [0, 1, 2, 3, 4, 5, 6, 7, 8, 9, 10, 11, 12, 13]) (ps := [(9, 11)]) <;> first | kernel_rfl | skip)
         | (apply z50 (id := 35) (ord := [0, 1, 2, 3, 4, 5, 6, 7, 8, 9, 10, 11, 12, 13]) <;> first | kernel_rfl | skip)
         | (refine zs ?_; repeat' first | apply zs0 | apply zs2 | (intro hc; try have hq := dq hc)) | fail
        exact ⟨[] ++ [_], _, _, _, hal2.out, hA2.out, hsn.out.symm, rfl, fld_new2 (by simp <;> omega), by (simp only [seval, push_cast, *] <;> rfl), by (simp only [seval, push_cast, *] <;> rfl), by (simp only [seval, push_cast, *] <;> rfl), by (simp only [seval, push_cast, *] <;> rfl), by (simp only [seval, push_cast, *] <;> rfl), by (simp only [seval, push_cast, *] <;> rfl), by (simp only [seval, push_cast, *] <;> rfl)⟩
      · repeat' first
         | (apply z51 (id := 6) (ord := [0, 1, 2, 3, 6, 4, 5, 7]) (ps := [(1, 5), (4, 5)]) <;> first | kernel_rfl | skip)
         | (apply z51 (id := 20) (ord := [0, 1, 2, 3, 4, 5, 6, 7, 8]) (ps := [(1, 5)]) <;> first | kernel_rfl | skip)
         | (apply z51 (id := 29) (ord := [0, 1, 2, 3, 4, 5, 6, 7, 8, 9, 10, 11, 12, 13]) (ps := [(9, 11)]) <;> first | kernel_rfl | skip)
         | (apply z50 (id := 35) (ord := [0, 1, 2, 3, 4, 5, 6, 7, 8, 9, 10, 11, 12, 13]) <;> first | kernel_rfl | skip)
         | (refine zs ?_; repeat' first | apply zs0 | apply zs2 | (intro hc; try have hq := dq hc)) | fail
        exact ⟨[] ++ [_], _, _, _, hal2.out, hA2.out, hsn.out.symm, rfl, fld_new2 (by simp <;> omega), by (simp only [seval, push_cast, *] <;> rfl), by (simp only [seval, push_cast, *] <;> rfl), by (simp only [seval, push_cast, *] <;> rfl), by (simp only [seval, push_cast, *] <;> rfl), by (simp only [seval, push_cast, *] <;> rfl), by (simp only [seval, push_cast, *] <;> rfl), by (simp only [seval, push_cast, *] <;> rfl)⟩
      · repeat' first
         | (apply z51 (id := 6) (ord := [0, 1, 2, 3, 6, 4, 5, 7]) (ps := [(1, 5), (4, 5)]) <;> first | kernel_rfl | skip)
         | (apply z51 (id := 20) (ord := [0, 1, 2, 3, 4, 5, 6, 7, 8]) (ps := [(1, 5)]) <;> first | kernel_rfl | skip)
         | (apply z51 (id := 29) (ord := [0, 1, 2, 3, 4, 5, 6, 7, 8, 9, 10, 11, 12, 13]) (ps := [(9, 11)]) <;> first | kernel_rfl | skip)
         | (apply z50 (id := 35) (ord := [0, 1, 2, 3, 4, 5, 6, 7, 8, 9, 10, 11, 12, 13]) <;> first | kernel_rfl | skip)
         | (refine zs ?_; repeat' first | apply zs0 | apply zs2 | (intro hc; try have hq := dq hc)) | fail
        exact ⟨[] ++ [_], _, _, _, hal2.out, hA2.out, hsn.out.symm, rfl, fld_new2 (by simp <;> omega), by (simp only [seval, push_cast, *] <;> rfl), by (simp only [seval, push_cast, *] <;> rfl), by (simp only [seval, push_cast, *] <;> rfl), by (simp only [seval, push_cast, *] <;> rfl), by (simp only [seval, push_cast, *] <;> rfl), by (simp only [seval, push_cast, *] <;> rfl), by (simp only [seval, push_cast, *] <;> rfl)⟩
    · skip
      conv => arg 3; whnf
      repeat' first
       | (apply z51 (id := 6) (ord := [0, 1, 2, 3, 6, 4, 5, 7]) (ps := [(1, 5), (4, 5)]) <;> first | kernel_rfl | skip)
       | (apply z51 (id := 20) (ord := [0, 1, 2, 3, 4, 5, 6, 7, 8]) (ps := [(1, 5)]) <;> first | kernel_rfl | skip)
       | (apply z51 (id := 29) (ord := [0, 1, 2, 3, 4, 5, 6, 7, 8, 9, 10, 11, 12, 13]) (ps := [(9, 11)]) <;> first | kernel_rfl | skip)
       | (apply z50 (id := 35) (ord := [0, 1, 2, 3, 4, 5, 6, 7, 8, 9, 10, 11, 12, 13]) <;> first | kernel_rfl | skip)
       | (refine zs ?_; repeat' first | apply zs0 | apply zs2 | (intro hc; try have hq := dq hc)) | fail
      refine lp_then (lp_any (c := loopAt Tryz.f32 1) rfl (q _ _ _ _ (J0 ++ .tok es.length :: J1) _ _ (by omega) ⟨[], rfl, by first | rfl | (simp only [List.append_assoc, List.cons_append]; rfl), by (simp only [seval, push_cast, *] <;> rfl), by simp only [seval, push_cast] <;> (congr 2 <;> omega), by (simp only [seval, push_cast, *] <;> rfl), by (simp only [seval, push_cast, *] <;> rfl), by (simp only [seval, push_cast, *] <;> rfl)⟩)) ?_
      rintro ex ρ1 H' ⟨ws, rfl, rfl, g14, rfl⟩ hf
      have f1 := hf 1 rfl
      have f8 := hf 8 rfl
      have f9 := hf 9 rfl
      have f10 := hf 10 rfl
      have f12 := hf 12 rfl
      have f13 := hf 13 rfl
      have f50 := hf 50 rfl
      have f51 := hf 51 rfl
      have f52 := hf 52 rfl
      simp only [seval, push_cast, h1, h8, h9, h10, h50, h51, h52] at f1 f8 f9 f10 f12 f13 f50 f51 f52
      clear hf q h1 h8 h9 h10 h50 h51 h52
      rcases hcs with ⟨d1, d2, d3, d4⟩ | ⟨d1, d2, rfl⟩ | ⟨d1, rfl⟩
      · repeat' first
         | (apply z51 (id := 6) (ord := [0, 1, 2, 3, 6, 4, 5, 7]) (ps := [(1, 5), (4, 5)]) <;> first | kernel_rfl | skip)
         | (apply z51 (id := 20) (ord := [0, 1, 2, 3, 4, 5, 6, 7, 8]) (ps := [(1, 5)]) <;> first | kernel_rfl | skip)
         | (apply z51 (id := 29) (ord := [0, 1, 2, 3, 4, 5, 6, 7, 8, 9, 10, 11, 12, 13]) (ps := [(9, 11)]) <;> first | kernel_rfl | skip)
         | (apply z50 (id := 35) (ord := [0, 1, 2, 3, 4, 5, 6, 7, 8, 9, 10, 11, 12, 13]) <;> first | kernel_rfl | skip)
         | (refine zs ?_; repeat' first | apply zs0 | apply zs2 | (intro hc; try have hq := dq hc)) | fail
        exact ⟨es ++ [_], _, _, _, hal2.out, hA2.out, hsn.out.symm, rfl, fld_more (by simp) (by simp), by (simp only [seval, push_cast, *] <;> rfl), by (simp only [seval, push_cast, *] <;> rfl), by (simp only [seval, push_cast, *] <;> rfl), by (simp only [seval, push_cast, *] <;> rfl), by (simp only [seval, push_cast, *] <;> rfl), by (simp only [seval, push_cast, *] <;> rfl), by (simp only [seval, push_cast, *] <;> rfl)⟩
      · repeat' first
         | (apply z51 (id := 6) (ord := [0, 1, 2, 3, 6, 4, 5, 7]) (ps := [(1, 5), (4, 5)]) <;> first | kernel_rfl | skip)
         | (apply z51 (id := 20) (ord := [0, 1, 2, 3, 4, 5, 6, 7, 8]) (ps := [(1, 5)]) <;> first | kernel_rfl | skip)
         | (apply z51 (id := 29) (ord := [0, 1, 2, 3, 4, 5, 6, 7, 8, 9, 10, 11, 12, 13]) (ps := [(9, 11)]) <;> first | kernel_rfl | skip)
         | (apply z50 (id := 35) (ord := [0, 1, 2, 3, 4, 5, 6, 7, 8, 9, 10, 11, 12, 13]) <;> first | kernel_rfl | skip)
         | (refine zs ?_; repeat' first | apply zs0 | apply zs2 | (intro hc; try have hq := dq hc)) | fail
        exact ⟨es ++ [_], _, _, _, hal2.out, hA2.out, hsn.out.symm, rfl, fld_more (by simp) (by simp), by (simp only [seval, push_cast, *] <;> rfl), by (simp only [seval, push_cast, *] <;> rfl), by (simp only [seval, push_cast, *] <;> rfl), by (simp only [seval, push_cast, *] <;> rfl), by (simp only [seval, push_cast, *] <;> rfl), by (simp only [seval, push_cast, *] <;> rfl), by (simp only [seval, push_cast, *] <;> rfl)⟩
      · repeat' first
         | (apply z51 (id := 6) (ord := [0, 1, 2, 3, 6, 4, 5, 7]) (ps := [(1, 5), (4, 5)]) <;> first | kernel_rfl | skip)
         | (apply z51 (id := 20) (ord := [0, 1, 2, 3, 4, 5, 6, 7, 8]) (ps := [(1, 5)]) <;> first | kernel_rfl | skip)
         | (apply z51 (id := 29) (ord := [0, 1, 2, 3, 4, 5, 6, 7, 8, 9, 10, 11, 12, 13]) (ps := [(9, 11)]) <;> first | kernel_rfl | skip)
         | (apply z50 (id := 35) (ord := [0, 1, 2, 3, 4, 5, 6, 7, 8, 9, 10, 11, 12, 13]) <;> first | kernel_rfl | skip)
         | (refine zs ?_; repeat' first | apply zs0 | apply zs2 | (intro hc; try have hq := dq hc)) | fail
        exact ⟨es ++ [_], _, _, _, hal2.out, hA2.out, hsn.out.symm, rfl, fld_more (by simp) (by simp), by (simp only [seval, push_cast, *] <;> rfl), by (simp only [seval, push_cast, *] <;> rfl), by (simp only [seval, push_cast, *] <;> rfl), by (simp only [seval, push_cast, *] <;> rfl), by (simp only [seval, push_cast, *] <;> rfl), by (simp only [seval, push_cast, *] <;> rfl), by (simp only [seval, push_cast, *] <;> rfl)⟩
  · rintro ρ H' ⟨es, nv, J, at_, hal0, hA, hes, rfl, hF, h1, h8, h9, h10, h50, h51, h52⟩
    rw [List.take_length] at hes
    replace hes : Kp _ := ⟨hes⟩
    replace hF : Kp _ := ⟨hF⟩
    replace hA : Kp _ := ⟨hA⟩
    replace hal0 : Kp _ := ⟨hal0⟩
    clear hpos hS hn hN
    conv => arg 3; whnf
    repeat' first
     | (apply z51 (id := 6) (ord := [0, 1, 2, 3, 6, 4, 5, 7]) (ps := [(1, 5), (4, 5)]) <;> first | kernel_rfl | skip)
     | (apply z51 (id := 20) (ord := [0, 1, 2, 3, 4, 5, 6, 7, 8]) (ps := [(1, 5)]) <;> first | kernel_rfl | skip)
     | (apply z51 (id := 29) (ord := [0, 1, 2, 3, 4, 5, 6, 7, 8, 9, 10, 11, 12, 13]) (ps := [(9, 11)]) <;> first | kernel_rfl | skip)
     | (apply z50 (id := 35) (ord := [0, 1, 2, 3, 4, 5, 6, 7, 8, 9, 10, 11, 12, 13]) <;> first | kernel_rfl | skip)
     | (refine zs ?_; repeat' first | apply zs0 | apply zs2 | (intro hc; try have hq := dq hc)) | fail
    exact ⟨es, nv, J, at_, hal0.out, hA.out, hes.out, by simp only [cellsNetl], hF.out, rfl⟩
end
end Go.E
/- Contracts of the package netlist, in E: Pruned. Own work. -/
namespace Go.E
open Go.Proofs
set_option maxRecDepth 100000
set_option maxHeartbeats 4000000

theorem useR_of {n : Netl} {k : Nat} (h : (k : Int) ∈ useR n) : UsedR n k := by
  obtain ⟨j, hj, e⟩ := List.getElem_of_mem h
  obtain ⟨q, h1, h2, _⟩ := idxB_get (l := usedRb n) (i := 0) (j := j) (a := (k : Int)) (by rw [← e]; exact List.getElem?_eq_getElem hj)
  obtain ⟨hl, h3⟩ := List.getElem?_eq_some_iff.1 h2
  simp [usedRb] at h3
  obtain rfl : k = q := by omega
  exact h3
theorem at_reg {n : Netl} (hk : NetOk n) {at_ : List Int} (hA : AtOk (useN n) at_ (useN n).length) {k : Nat} (h : (k : Int) ∈ useR n) {r : Reg} (hr : n.regs[k]? = some r) : at0 at_ r.enable.toNat = posL (useN n) r.enable ∧ at0 at_ r.next.toNat = posL (useN n) r.next := by
  obtain ⟨i, x, h1, h2, h3, h4⟩ := useR_of h
  have hb := hk.regs r (List.mem_of_getElem? hr)
  exact ⟨at_all hA hb.1.1 hb.1.2 (.en i k x r h1 h2 h3 h4 hr), at_all hA hb.2.1 hb.2.2 (.nx i k x r h1 h2 h3 h4 hr)⟩
section
variable (n : Netl) (ns rs at_ : List Int) (H : Heap)
theorem pp_regs (hk : NetOk n) (hl : at_.length = n.nodes.length) (hN : ns = useN n) (hR : rs = useR n) (hA : AtOk ns at_ ns.length) (hrs : rs.length ≤ 1000) (bs : List Nat) (c2 c3 : HObj) (nm : ByteArray) (ip : List V) (nv : V) : ∀ i ρ H', i ≤ rs.length →
      (∃ es rv J, es = (rs.take i).map (fun a => encReg (prReg n ns a)) ∧ H' = H ++ .cells (cellsNetl n) :: c2 :: c3 :: .cells [.str nm, .list ip, rv, nv, .nilS] :: .arr (at_.map (.int .i64)) 0 :: J ∧ Fld H.length 5 J rv es ∧ ρ 1 = .ptr H.length 0 ∧
        ρ 9 = .ptr (H.length + 3) 0 ∧ ρ 10 = .ref 1 (H.length + 4) 0 0 n.nodes.length ∧ ρ 112 = .list (rs.map (.int .i64)) ∧ ρ 113 = .int .i64 rs.length ∧ ρ 114 = .int .i64 i) →
      Lp X ⟨164, H.length :: bs⟩ (loopAt Tryz.f32 2) ρ H' fun ex ρ' H' => ∃ es rv J, es = rs.map (fun a => encReg (prReg n ns a)) ∧ H' = H ++ .cells (cellsNetl n) :: c2 :: c3 :: .cells [.str nm, .list ip, rv, nv, .nilS] :: .arr (at_.map (.int .i64)) 0 :: J ∧ Fld H.length 5 J rv es ∧ ex = .exit 4 := by
  refine loop_up ?_ ?_
  · rintro i ρ H' hi ⟨es, rv, J, hes, rfl, hF, h1, h9, h10, h112, h113, h114⟩
    have hget : rs[i]? = some rs[i] := by simp [hi]
    have htk : rs.take (i + 1) = rs.take i ++ [rs[i]] := by rw [List.take_add_one, hget]; rfl
    have hib := use_inR n rs[i] (by rw [← hR]; exact List.getElem_mem hi)
    generalize rs[i] = a at hget htk hib
    obtain ⟨m, rfl⟩ : ∃ m : Nat, a = m := ⟨a.toNat, by omega⟩
    have hm : m < n.regs.length := by omega
    have hgx : n.regs[m]? = some n.regs[m] := by simp [hm]
    have hat := (by subst hN; subst hR; exact at_reg hk hA (List.mem_of_getElem? hget) hgx : at0 at_ n.regs[m].enable.toNat = posL ns n.regs[m].enable ∧ at0 at_ n.regs[m].next.toNat = posL ns n.regs[m].next)
    have hob := hk.regs n.regs[m] (List.getElem_mem hm)
    have hpr : prReg n ns (m : Int) = ⟨n.regs[m].name, n.regs[m].width, n.regs[m].init, posL ns n.regs[m].enable, posL ns n.regs[m].next⟩ := by
      rw [prReg, Int.toNat_natCast, hgx]
    generalize n.regs[m] = x at hgx hpr hat hob
    obtain ⟨xn, xw, xi, xe, xx⟩ := x
    simp only at hpr hat hob
    obtain ⟨e, rfl⟩ : ∃ m : Nat, xe = m := ⟨xe.toNat, by omega⟩
    obtain ⟨y, rfl⟩ : ∃ m : Nat, xx = m := ⟨xx.toNat, by omega⟩
    simp only [Int.toNat_natCast] at hat
    have he : e < n.nodes.length := by omega
    have hy : y < n.nodes.length := by omega
    have ge := ints_get (l := at_) (i := e) (by omega)
    have gy := ints_get (l := at_) (i := y) (by omega)
    rw [hat.1] at ge
    rw [hat.2] at gy
    have hlen : es.length = i := by rw [hes]; simp; omega
    have hroom := room48 es.length (by omega)
    have r48 : 48 ≤ roomB := by unfold roomB; omega
    have hw := add1 i rs.length hi (by omega)
    have hsn : Kp ((rs.take (i + 1)).map (fun a => encReg (prReg n ns a)) = es ++ [encReg ⟨xn, xw, xi, posL ns e, posL ns y⟩]) := ⟨by rw [htk, List.map_append, List.map_singleton, hpr, ← hes]⟩
    have hall : es.all (fun e => e.cells.length == 5) = true := by rw [hes, List.all_map, List.all_eq_true]; intro a _; rfl
    clear hes htk hib hpr hlen hat hob hN hR hA hl hk
    generalize at_.map (V.int .i64) = A at ge gy ⊢
    rcases hF with ⟨rfl, rfl⟩ | ⟨J0, J1, rfl, rfl, hne⟩
    · skip
      conv => arg 3; whnf
      repeat' first
       | (apply z51 (id := 6) (ord := [0, 1, 2, 3, 6, 4, 5, 7]) (ps := [(1, 5), (4, 5)]) <;> first | kernel_rfl | skip)
       | (apply z51 (id := 20) (ord := [0, 1, 2, 3, 4, 5, 6, 7, 8]) (ps := [(1, 5)]) <;> first | kernel_rfl | skip)
       | (apply z51 (id := 29) (ord := [0, 1, 2, 3, 4, 5, 6, 7, 8, 9, 10, 11, 12, 13]) (ps := [(9, 11)]) <;> first | kernel_rfl | skip)
       | (apply z50 (id := 35) (ord := [0, 1, 2, 3, 4, 5, 6, 7, 8, 9, 10, 11, 12, 13]) <;> first | kernel_rfl | skip)
       | (refine zs ?_; repeat' first | apply zs0 | apply zs2 | (intro hc; try have hq := dq hc)) | fail
      exact ⟨[] ++ [_], _, _, hsn.out.symm, rfl, fld_new1 (by simp <;> omega), by (simp only [seval, push_cast, *] <;> rfl), by (simp only [seval, push_cast, *] <;> rfl), by (simp only [seval, push_cast, *] <;> rfl), by (simp only [seval, push_cast, *] <;> rfl), by (simp only [seval, push_cast, *] <;> rfl), by (simp only [seval, push_cast, *] <;> rfl)⟩
    · skip
      conv => arg 3; whnf
      repeat' first
       | (apply z51 (id := 6) (ord := [0, 1, 2, 3, 6, 4, 5, 7]) (ps := [(1, 5), (4, 5)]) <;> first | kernel_rfl | skip)
       | (apply z51 (id := 20) (ord := [0, 1, 2, 3, 4, 5, 6, 7, 8]) (ps := [(1, 5)]) <;> first | kernel_rfl | skip)
       | (apply z51 (id := 29) (ord := [0, 1, 2, 3, 4, 5, 6, 7, 8, 9, 10, 11, 12, 13]) (ps := [(9, 11)]) <;> first | kernel_rfl | skip)
       | (apply z50 (id := 35) (ord := [0, 1, 2, 3, 4, 5, 6, 7, 8, 9, 10, 11, 12, 13]) <;> first | kernel_rfl | skip)
       | (refine zs ?_; repeat' first | apply zs0 | apply zs2 | (intro hc; try have hq := dq hc)) | fail
      exact ⟨es ++ [_], _, _, hsn.out.symm, rfl, fld_more (by simp) (by simp), by (simp only [seval, push_cast, *] <;> rfl), by (simp only [seval, push_cast, *] <;> rfl), by (simp only [seval, push_cast, *] <;> rfl), by (simp only [seval, push_cast, *] <;> rfl), by (simp only [seval, push_cast, *] <;> rfl), by (simp only [seval, push_cast, *] <;> rfl)⟩
  · rintro ρ H' ⟨es, rv, J, hes, rfl, hF, h1, h9, h10, h112, h113, h114⟩
    rw [List.take_length] at hes
    replace hes : Kp _ := ⟨hes⟩
    replace hF : Kp _ := ⟨hF⟩
    clear hk hN hR hA hl
    conv => arg 3; whnf
    repeat' first
     | (apply z51 (id := 6) (ord := [0, 1, 2, 3, 6, 4, 5, 7]) (ps := [(1, 5), (4, 5)]) <;> first | kernel_rfl | skip)
     | (apply z51 (id := 20) (ord := [0, 1, 2, 3, 4, 5, 6, 7, 8]) (ps := [(1, 5)]) <;> first | kernel_rfl | skip)
     | (apply z51 (id := 29) (ord := [0, 1, 2, 3, 4, 5, 6, 7, 8, 9, 10, 11, 12, 13]) (ps := [(9, 11)]) <;> first | kernel_rfl | skip)
     | (apply z50 (id := 35) (ord := [0, 1, 2, 3, 4, 5, 6, 7, 8, 9, 10, 11, 12, 13]) <;> first | kernel_rfl | skip)
     | (refine zs ?_; repeat' first | apply zs0 | apply zs2 | (intro hc; try have hq := dq hc)) | fail
    exact ⟨es, rv, J, hes.out, by simp only [cellsNetl], hF.out, rfl⟩
theorem pp_outs (hk : NetOk n) (hl : at_.length = n.nodes.length) (hN : ns = useN n) (hA : AtOk ns at_ ns.length) (ho1 : n.outs.length ≤ 1000) (bs : List Nat) (c2 c3 : HObj) (nm : ByteArray) (ip : List V) (rv nv : V) : ∀ i ρ H', i ≤ n.outs.length →
      (∃ es ov J, es = (n.outs.take i).map (fun a => encOutp (prOut ns a)) ∧ H' = H ++ .cells (cellsNetl n) :: c2 :: c3 :: .cells [.str nm, .list ip, rv, nv, ov] :: .arr (at_.map (.int .i64)) 0 :: J ∧ Fld H.length 5 J ov es ∧
        ρ 9 = .ptr (H.length + 3) 0 ∧ ρ 10 = .ref 1 (H.length + 4) 0 0 n.nodes.length ∧ ρ 143 = .list (n.outs.map encOutp) ∧ ρ 144 = .int .i64 n.outs.length ∧ ρ 145 = .int .i64 i) →
      Lp X ⟨164, H.length :: bs⟩ (loopAt Tryz.f32 3) ρ H' fun ex ρ' H' => ∃ es ov J, es = n.outs.map (fun a => encOutp (prOut ns a)) ∧ H' = H ++ .cells (cellsNetl n) :: c2 :: c3 :: .cells [.str nm, .list ip, rv, nv, ov] :: .arr (at_.map (.int .i64)) 0 :: J ∧ Fld H.length 5 J ov es ∧ ex = .exit 6 := by
  refine loop_up ?_ ?_
  · rintro i ρ H' hi ⟨es, ov, J, hes, rfl, hF, h9, h10, h143, h144, h145⟩
    have hgx : n.outs[i]? = some n.outs[i] := by simp [hi]
    have htk : n.outs.take (i + 1) = n.outs.take i ++ [n.outs[i]] := by rw [List.take_add_one, hgx]; rfl
    have hob := hk.outs n.outs[i] (List.getElem_mem hi)
    have hat := (by subst hN; exact at_all hA hob.1 hob.2 (.out _ (List.getElem_mem hi)) : at0 at_ n.outs[i].node.toNat = posL ns n.outs[i].node)
    generalize n.outs[i] = x at hgx htk hob hat
    obtain ⟨xn, xd⟩ := x
    simp only at hob hat
    obtain ⟨e, rfl⟩ : ∃ m : Nat, xd = m := ⟨xd.toNat, by omega⟩
    simp only [Int.toNat_natCast] at hat
    have he : e < n.nodes.length := by omega
    have ge := ints_get (l := at_) (i := e) (by omega)
    rw [hat] at ge
    have hlen : es.length = i := by rw [hes]; simp; omega
    have hroom : (es.length + 1) * 24 ≤ roomB := by unfold roomB; omega
    have r24 : 24 ≤ roomB := by unfold roomB; omega
    have hw := add1 i n.outs.length hi (by omega)
    have hsn : Kp ((n.outs.take (i + 1)).map (fun a => encOutp (prOut ns a)) = es ++ [encOutp ⟨xn, posL ns e⟩]) := ⟨by rw [htk, List.map_append, List.map_singleton, ← hes]; rfl⟩
    have hall : es.all (fun e => e.cells.length == 2) = true := by rw [hes, List.all_map, List.all_eq_true]; intro a _; rfl
    clear hes htk hlen hat hob hN hA hl hk
    generalize at_.map (V.int .i64) = A at ge ⊢
    rcases hF with ⟨rfl, rfl⟩ | ⟨J0, J1, rfl, rfl, hne⟩
    · skip
      conv => arg 3; whnf
      repeat' first
       | (apply z51 (id := 6) (ord := [0, 1, 2, 3, 6, 4, 5, 7]) (ps := [(1, 5), (4, 5)]) <;> first | kernel_rfl | skip)
       | (apply z51 (id := 20) (ord := [0, 1, 2, 3, 4, 5, 6, 7, 8]) (ps := [(1, 5)]) <;> first | kernel_rfl | skip)
       | (apply z51 (id := 29) (ord := [0, 1, 2, 3, 4, 5, 6, 7, 8, 9, 10, 11, 12, 13]) (ps := [(9, 11)]) <;> first | kernel_rfl | skip)
       | (apply z50 (id := 35) (ord := [0, 1, 2, 3, 4, 5, 6, 7, 8, 9, 10, 11, 12, 13]) <;> first | kernel_rfl | skip)
       | (refine zs ?_; repeat' first | apply zs0 | apply zs2 | (intro hc; try have hq := dq hc)) | fail
      exact ⟨[] ++ [_], _, _, hsn.out.symm, rfl, fld_new1 (by simp <;> omega), by (simp only [seval, push_cast, *] <;> rfl), by (simp only [seval, push_cast, *] <;> rfl), by (simp only [seval, push_cast, *] <;> rfl), by (simp only [seval, push_cast, *] <;> rfl), by (simp only [seval, push_cast, *] <;> rfl)⟩
    · skip
      conv => arg 3; whnf
      repeat' first
       | (apply z51 (id := 6) (ord := [0, 1, 2, 3, 6, 4, 5, 7]) (ps := [(1, 5), (4, 5)]) <;> first | kernel_rfl | skip)
       | (apply z51 (id := 20) (ord := [0, 1, 2, 3, 4, 5, 6, 7, 8]) (ps := [(1, 5)]) <;> first | kernel_rfl | skip)
       | (apply z51 (id := 29) (ord := [0, 1, 2, 3, 4, 5, 6, 7, 8, 9, 10, 11, 12, 13]) (ps := [(9, 11)]) <;> first | kernel_rfl | skip)
       | (apply z50 (id := 35) (ord := [0, 1, 2, 3, 4, 5, 6, 7, 8, 9, 10, 11, 12, 13]) <;> first | kernel_rfl | skip)
       | (refine zs ?_; repeat' first | apply zs0 | apply zs2 | (intro hc; try have hq := dq hc)) | fail
      exact ⟨es ++ [_], _, _, hsn.out.symm, rfl, fld_more (by simp) (by simp), by (simp only [seval, push_cast, *] <;> rfl), by (simp only [seval, push_cast, *] <;> rfl), by (simp only [seval, push_cast, *] <;> rfl), by (simp only [seval, push_cast, *] <;> rfl), by (simp only [seval, push_cast, *] <;> rfl)⟩
  · rintro ρ H' ⟨es, ov, J, hes, rfl, hF, h9, h10, h143, h144, h145⟩
    rw [List.take_length] at hes
    replace hes : Kp _ := ⟨hes⟩
    replace hF : Kp _ := ⟨hF⟩
    clear hk hN hA hl
    conv => arg 3; whnf
    repeat' first
     | (apply z51 (id := 6) (ord := [0, 1, 2, 3, 6, 4, 5, 7]) (ps := [(1, 5), (4, 5)]) <;> first | kernel_rfl | skip)
     | (apply z51 (id := 20) (ord := [0, 1, 2, 3, 4, 5, 6, 7, 8]) (ps := [(1, 5)]) <;> first | kernel_rfl | skip)
     | (apply z51 (id := 29) (ord := [0, 1, 2, 3, 4, 5, 6, 7, 8, 9, 10, 11, 12, 13]) (ps := [(9, 11)]) <;> first | kernel_rfl | skip)
     | (apply z50 (id := 35) (ord := [0, 1, 2, 3, 4, 5, 6, 7, 8, 9, 10, 11, 12, 13]) <;> first | kernel_rfl | skip)
     | (refine zs ?_; repeat' first | apply zs0 | apply zs2 | (intro hc; try have hq := dq hc)) | fail
    exact ⟨es, ov, J, hes.out, by simp only [cellsNetl], hF.out, rfl⟩
end
end Go.E
/- Contracts of the package netlist, in E: Pruned. Own work. -/
namespace Go.E
open Go.Proofs
set_option maxRecDepth 100000
set_option maxHeartbeats 4000000

def zeroNet : V := .agg [.str { data := #[] }, .nilS, .nilS, .nilS, .nilS]
theorem kn_clone (bs : List Nat) (H : Heap) (l : List Port) (h : l.length ≤ 1000000) : callw X bs 101 [.list (l.map encPort)] H = some (.list (l.map encPort), H) := by
  refine known_call (fn := Tryz.f101) xf101 rfl rfl ?_
  show cloneV 2 [.list (l.map encPort)] = _
  simp only [cloneV, List.length_map, if_pos h]
  have := te_encPort l
  unfold takeElems
  rw [this]; rfl
theorem nl_pruned (bs : List Nat) (H : Heap) (n : Netl) (hS : Small n) : callw X bs 32 [encNetl n] H = some (.tuple [if (checkNetS n).2 = 0 then encNetN (prunedS n) else zeroNet, .int .i64 (checkNetS n).2], H) := by
  refine call_at (rs := [.cell 2 27, .tmp 3]) (N := 164) (fn := Tryz.f32) xk32 xf32 rfl rfl rfl (by simp only [seval, push_cast, List.map_cons, List.map_nil, V.norm, norm1]; rfl) ?_
  have h1 := fun bs H => nl_open bs H n hS
  by_cases hc : (checkNetS n).2 = 0
  case neg =>
    simp only [encNetl, cellsNetl] at h1
    simp only [if_neg hc, zeroNet]
    generalize (checkNetS n).2 = e at h1 hc ⊢
    clear hS
    repeat' first
     | (apply z51 (id := 6) (ord := [0, 1, 2, 3, 6, 4, 5, 7]) (ps := [(1, 5), (4, 5)]) <;> first | kernel_rfl | skip)
     | (apply z51 (id := 20) (ord := [0, 1, 2, 3, 4, 5, 6, 7, 8]) (ps := [(1, 5)]) <;> first | kernel_rfl | skip)
     | (apply z51 (id := 29) (ord := [0, 1, 2, 3, 4, 5, 6, 7, 8, 9, 10, 11, 12, 13]) (ps := [(9, 11)]) <;> first | kernel_rfl | skip)
     | (apply z50 (id := 35) (ord := [0, 1, 2, 3, 4, 5, 6, 7, 8, 9, 10, 11, 12, 13]) <;> first | kernel_rfl | skip)
     | (refine zs ?_; repeat' first | apply zs0 | apply zs2 | (intro hc; try have hq := dq hc)) | fail
  have hk := net_ok hc
  have hl := use_len n
  have s1 := hS.nodes
  have s2 := hS.regs
  have s3 := hS.outs
  have k1 : (usedRb n).length = n.regs.length := by simp [usedRb]
  have k2 : (usedNb n).length = n.nodes.length := by simp [usedNb]
  have t1 := fun bs H => nl_used bs H n hS hk
  have t3 := fun bs H => nl_indexes bs H (usedRb n) (by omega)
  have t4 := fun bs H => nl_indexes bs H (usedNb n) (by omega)
  have t2 := fun bs H => kn_clone bs H n.inputs (by have := hS.inputs; omega)
  have q0 := fun bs c2 c3 nm ip ρ => pp_nodes n (useN n) (useR n) H rfl hS (nodes_ok hk) (by omega) (by omega) bs c2 c3 nm ip 0 ρ
  have q2 := fun at_ hl hA bs c2 c3 nm ip nv ρ => pp_regs n (useN n) (useR n) at_ H hk hl rfl rfl hA (by omega) bs c2 c3 nm ip nv 0 ρ
  have q3 := fun at_ hl hA bs c2 c3 nm ip rv nv ρ => pp_outs n (useN n) at_ H hk hl rfl hA s3 bs c2 c3 nm ip rv nv 0 ρ
  have r1 := room_of (n := n.nodes.length) (k := 8) (by omega) (by omega)
  have r2 := room_int (n := n.nodes.length) (by omega)
  have m1 : Kp (∀ m, List.replicate m (V.int .i64 0) = (List.replicate m (0 : Int)).map (.int .i64)) := ⟨fun m => by rw [List.map_replicate]⟩
  rw [hc] at h1
  simp only [hc, if_true, encNetN, prunedS, prunedL, List.map_map, Function.comp_def]
  simp only [encNetl, cellsNetl, show idxB 0 (usedNb n) = useN n from rfl, show idxB 0 (usedRb n) = useR n from rfl] at h1 t1 t3 t4 q0 q2 q3
  clear hS hk hl s1 s2 s3 hc k1 k2
  generalize usedNb n = nb at t1 t4
  generalize usedRb n = rb at t1 t3
  generalize useN n = ns at t4 q0 q2 q3 ⊢
  generalize useR n = rs at t3 q0 q2 q3 ⊢
  repeat' first
   | (apply z51 (id := 6) (ord := [0, 1, 2, 3, 6, 4, 5, 7]) (ps := [(1, 5), (4, 5)]) <;> first | kernel_rfl | skip)
   | (apply z51 (id := 20) (ord := [0, 1, 2, 3, 4, 5, 6, 7, 8]) (ps := [(1, 5)]) <;> first | kernel_rfl | skip)
   | (apply z51 (id := 29) (ord := [0, 1, 2, 3, 4, 5, 6, 7, 8, 9, 10, 11, 12, 13]) (ps := [(9, 11)]) <;> first | kernel_rfl | skip)
   | (apply z50 (id := 35) (ord := [0, 1, 2, 3, 4, 5, 6, 7, 8, 9, 10, 11, 12, 13]) <;> first | kernel_rfl | skip)
   | (refine zs ?_; repeat' first | apply zs0 | apply zs2 | (intro hc; try have hq := dq hc)) | fail
  rw [m1.out]
  refine lp_then (lp_any (c := loopAt Tryz.f32 0) rfl (q0 _ _ _ _ _ _ _ (by omega) ⟨[], .nilS, [], List.replicate n.nodes.length 0, by simp, fun j a h => by omega, rfl, rfl, .inl ⟨rfl, rfl⟩, by (simp only [seval, push_cast, *] <;> rfl), by (simp only [seval, push_cast, *] <;> rfl), by (simp only [seval, push_cast, *] <;> rfl), by (simp only [seval, push_cast, *] <;> rfl), by (simp only [seval, push_cast, *] <;> rfl), by (simp only [seval, push_cast, *] <;> rfl), by (simp only [seval, push_cast, *] <;> rfl)⟩)) ?_
  rintro ex ρ1 H' ⟨es, nv, J, at_, hal, hA, rfl, rfl, hF, rfl⟩ hf
  have f1 := hf 1 rfl
  have f2 := hf 2 rfl
  have f8 := hf 8 rfl
  have f9 := hf 9 rfl
  have f10 := hf 10 rfl
  simp only [seval, push_cast] at f1 f2 f8 f9 f10
  have c1 := fld_cell hF
  have z1 := fld_frz hF
  have q2 := q2 at_ hal hA
  have q3 := q3 at_ hal hA
  clear hf q0 hF t1 t2 t3 t4 hal hA m1 h1
  repeat' first
   | (apply z51 (id := 6) (ord := [0, 1, 2, 3, 6, 4, 5, 7]) (ps := [(1, 5), (4, 5)]) <;> first | kernel_rfl | skip)
   | (apply z51 (id := 20) (ord := [0, 1, 2, 3, 4, 5, 6, 7, 8]) (ps := [(1, 5)]) <;> first | kernel_rfl | skip)
   | (apply z51 (id := 29) (ord := [0, 1, 2, 3, 4, 5, 6, 7, 8, 9, 10, 11, 12, 13]) (ps := [(9, 11)]) <;> first | kernel_rfl | skip)
   | (apply z50 (id := 35) (ord := [0, 1, 2, 3, 4, 5, 6, 7, 8, 9, 10, 11, 12, 13]) <;> first | kernel_rfl | skip)
   | (refine zs ?_; repeat' first | apply zs0 | apply zs2 | (intro hc; try have hq := dq hc)) | fail
  refine lp_then (lp_any (c := loopAt Tryz.f32 2) rfl (q2 _ _ _ _ _ nv _ _ (by omega) ⟨[], .nilS, J, rfl, rfl, .inl ⟨rfl, rfl⟩, by (simp only [seval, push_cast, *] <;> rfl), by (simp only [seval, push_cast, *] <;> rfl), by (simp only [seval, push_cast, *] <;> rfl), by (simp only [seval, push_cast, *] <;> rfl), by (simp only [seval, push_cast, *] <;> rfl), by (simp only [seval, push_cast, *] <;> rfl)⟩)) ?_
  rintro ex ρ2 H' ⟨es, rv, J2, rfl, rfl, hF, rfl⟩ hf
  have g1 := hf 1 rfl
  have g2 := hf 2 rfl
  have g9 := hf 9 rfl
  have g10 := hf 10 rfl
  simp only [seval, push_cast, f1, f2, f9, f10] at g1 g2 g9 g10
  have c2 := fld_cell hF
  have z2 := fld_frz hF
  clear hf q2 hF f1 f2 f8 f9 f10
  repeat' first
   | (apply z51 (id := 6) (ord := [0, 1, 2, 3, 6, 4, 5, 7]) (ps := [(1, 5), (4, 5)]) <;> first | kernel_rfl | skip)
   | (apply z51 (id := 20) (ord := [0, 1, 2, 3, 4, 5, 6, 7, 8]) (ps := [(1, 5)]) <;> first | kernel_rfl | skip)
   | (apply z51 (id := 29) (ord := [0, 1, 2, 3, 4, 5, 6, 7, 8, 9, 10, 11, 12, 13]) (ps := [(9, 11)]) <;> first | kernel_rfl | skip)
   | (apply z50 (id := 35) (ord := [0, 1, 2, 3, 4, 5, 6, 7, 8, 9, 10, 11, 12, 13]) <;> first | kernel_rfl | skip)
   | (refine zs ?_; repeat' first | apply zs0 | apply zs2 | (intro hc; try have hq := dq hc)) | fail
  refine lp_then (lp_any (c := loopAt Tryz.f32 3) rfl (q3 _ _ _ _ _ rv nv _ _ (by omega) ⟨[], .nilS, J2, rfl, rfl, .inl ⟨rfl, rfl⟩, by (simp only [seval, push_cast, *] <;> rfl), by (simp only [seval, push_cast, *] <;> rfl), by (simp only [seval, push_cast, *] <;> rfl), by (simp only [seval, push_cast, *] <;> rfl), by (simp only [seval, push_cast, *] <;> rfl)⟩)) ?_
  rintro ex ρ3 H' ⟨es, ov, J3, rfl, rfl, hF, rfl⟩ hf
  have h2 := hf 2 rfl
  have h9 := hf 9 rfl
  simp only [seval, push_cast, g2, g9] at h2 h9
  have c3 := fld_cell hF
  have z3 := fld_frz hF
  simp only [V.isCell] at c1 c2 c3
  clear hf q3 hF g1 g2 g9 g10
  repeat' first
   | (apply z51 (id := 6) (ord := [0, 1, 2, 3, 6, 4, 5, 7]) (ps := [(1, 5), (4, 5)]) <;> first | kernel_rfl | skip)
   | (apply z51 (id := 20) (ord := [0, 1, 2, 3, 4, 5, 6, 7, 8]) (ps := [(1, 5)]) <;> first | kernel_rfl | skip)
   | (apply z51 (id := 29) (ord := [0, 1, 2, 3, 4, 5, 6, 7, 8, 9, 10, 11, 12, 13]) (ps := [(9, 11)]) <;> first | kernel_rfl | skip)
   | (apply z50 (id := 35) (ord := [0, 1, 2, 3, 4, 5, 6, 7, 8, 9, 10, 11, 12, 13]) <;> first | kernel_rfl | skip)
   | (refine zs ?_; repeat' first | apply zs0 | apply zs2 | (intro hc; try have hq := dq hc)) | fail
end Go.E
/- The law's 'few', in E. Own work. -/
namespace Go.E
open Go.Proofs
set_option maxRecDepth 100000
set_option maxHeartbeats 4000000

def fewSizes (n : Netl) : Prop := n.name.size ≤ 40 ∧ n.inputs.length ≤ 45 ∧ n.regs.length ≤ 45 ∧ (n.nodes.length ≤ 60 ∨ 400 < n.nodes.length) ∧ n.nodes.length ≤ 405 ∧ n.outs.length ≤ 20
theorem la_few_big (bs : List Nat) (H : Heap) (n : Netl) (hb : ¬ fewSizes n) : callw X bs 11 [encNetl n] H = some (.bool false, H) := by
  refine call_at (rs := [.tmp 2]) (N := 107) (fn := Tryz.f11) xk11 xf11 rfl rfl rfl (by simp only [seval, push_cast, List.map_cons, List.map_nil, V.norm, norm1]; rfl) ?_
  unfold fewSizes at hb
  rcases Classical.em (n.name.size ≤ 40) with a1 | a1
  · have b1 : ¬ ((n.name.size : Int) > 40) := by omega
    rcases Classical.em (n.inputs.length ≤ 45) with a2 | a2
    · have b2 : ¬ ((n.inputs.length : Int) > 45) := by omega
      rcases Classical.em (n.regs.length ≤ 45) with a3 | a3
      · have b3 : ¬ ((n.regs.length : Int) > 45) := by omega
        rcases Classical.em (n.nodes.length > 60) with a4 | a4
        · have b4 : (n.nodes.length : Int) > 60 := by omega
          rcases Classical.em (n.nodes.length ≤ 400) with a5 | a5
          · have b5 : (n.nodes.length : Int) ≤ 400 := by omega
            clear hb
            all_goals try (refine zs ?_; repeat' first | apply zs0 | apply zs2 | (intro hc; try have hq := dq hc))
          · have b5 : ¬ (n.nodes.length : Int) ≤ 400 := by omega
            rcases Classical.em (n.nodes.length ≤ 405) with a6 | a6
            · have b6 : ¬ (n.nodes.length : Int) > 405 := by omega
              have b7 : (n.outs.length : Int) > 20 := by omega
              clear hb
              all_goals try (refine zs ?_; repeat' first | apply zs0 | apply zs2 | (intro hc; try have hq := dq hc))
            · have b6 : (n.nodes.length : Int) > 405 := by omega
              clear hb
              all_goals try (refine zs ?_; repeat' first | apply zs0 | apply zs2 | (intro hc; try have hq := dq hc))
        · have b4 : ¬ (n.nodes.length : Int) > 60 := by omega
          have b6 : ¬ (n.nodes.length : Int) > 405 := by omega
          have b7 : (n.outs.length : Int) > 20 := by omega
          clear hb
          all_goals try (refine zs ?_; repeat' first | apply zs0 | apply zs2 | (intro hc; try have hq := dq hc))
      · have b3 : (n.regs.length : Int) > 45 := by omega
        clear hb
        all_goals try (refine zs ?_; repeat' first | apply zs0 | apply zs2 | (intro hc; try have hq := dq hc))
    · have b2 : (n.inputs.length : Int) > 45 := by omega
      clear hb
      all_goals try (refine zs ?_; repeat' first | apply zs0 | apply zs2 | (intro hc; try have hq := dq hc))
  · have b1 : (n.name.size : Int) > 40 := by omega
    clear hb
    all_goals try (refine zs ?_; repeat' first | apply zs0 | apply zs2 | (intro hc; try have hq := dq hc))

end Go.E
/- The law's 'few', in E: its loops. Own work. -/
namespace Go.E
open Go.Proofs
set_option maxRecDepth 100000
set_option maxHeartbeats 4000000

theorem few_l0 (n : Netl) (H : Heap) (R : Bool) (hl : n.nodes.length ≤ 1000) : ∀ (bs : List Nat) i ρ H', i ≤ n.nodes.length → (H' = H ++ [.cells (cellsNetl n)] ∧ ρ 1 = .ptr H.length 0 ∧ ρ 3 = .int .i64 i ∧ Kp ((n.nodes.drop i).all (fun x => decide (x.args.length ≤ 5)) = R)) →
    Lp X ⟨107, bs⟩ (loopAt Tryz.f11 0) ρ H' fun ex ρ' H' => H' = H ++ [.cells (cellsNetl n)] ∧ ((R = true ∧ ex = .exit 0) ∨ (R = false ∧ ρ' 2 = .bool false ∧ ex = .ret)) := by
  intro bs
  refine loop_up ?_ ?_
  · rintro i ρ H' hlt ⟨rfl, h1, h3, hk⟩
    have hget : n.nodes[i]? = some n.nodes[i] := by simp [hlt]
    have hw := add1 i n.nodes.length hlt (by omega)
    have hd := drop_cons hget
    replace hk := hk.out
    rw [hd, List.all_cons] at hk
    clear hd
    generalize n.nodes[i] = p at hget hk
    rcases Classical.em (p.args.length ≤ 5) with a | a
    · have hk2 : Kp ((n.nodes.drop (i + 1)).all (fun x => decide (x.args.length ≤ 5)) = R) := ⟨by simpa only [decide_eq_true a, Bool.true_and] using hk⟩
      have b : ¬ (p.args.length : Int) > 5 := by omega
      clear hk
      conv => arg 3; whnf
      all_goals try (refine zs ?_; repeat' first | apply zs0 | apply zs2 | (intro hc; try have hq := dq hc))
      exact ⟨by simp only [cellsNetl], by (simp only [seval, push_cast, *] <;> rfl), by (simp only [seval, push_cast, *] <;> rfl), hk2⟩
    · have hk2 : Kp (R = false) := ⟨by simpa only [decide_eq_false a, Bool.false_and] using hk.symm⟩
      have b : (p.args.length : Int) > 5 := by omega
      clear hk
      conv => arg 3; whnf
      all_goals try (refine zs ?_; repeat' first | apply zs0 | apply zs2 | (intro hc; try have hq := dq hc))
      exact ⟨by simp only [cellsNetl], .inr ⟨hk2.out, by (simp only [seval, push_cast, *] <;> rfl), rfl⟩⟩
  · rintro ρ H' ⟨rfl, h1, h3, hk⟩
    have hk2 : Kp (R = true) := ⟨by have := hk.out; simpa using this.symm⟩
    clear hk
    conv => arg 3; whnf
    all_goals try (refine zs ?_; repeat' first | apply zs0 | apply zs2 | (intro hc; try have hq := dq hc))
    exact ⟨by simp only [cellsNetl], .inl ⟨hk2.out, rfl⟩⟩

theorem few_l1 (n : Netl) (H : Heap) (R : Bool) (hl : n.inputs.length ≤ 1000) : ∀ (bs : List Nat) i ρ H', i ≤ n.inputs.length → (H' = H ++ [.cells (cellsNetl n)] ∧ ρ 1 = .ptr H.length 0 ∧ ρ 4 = .int .i64 i ∧ Kp ((n.inputs.drop i).all (fun x => decide (x.name.size ≤ 40)) = R)) →
    Lp X ⟨107, bs⟩ (loopAt Tryz.f11 1) ρ H' fun ex ρ' H' => H' = H ++ [.cells (cellsNetl n)] ∧ ((R = true ∧ ex = .exit 2) ∨ (R = false ∧ ρ' 2 = .bool false ∧ ex = .ret)) := by
  intro bs
  refine loop_up ?_ ?_
  · rintro i ρ H' hlt ⟨rfl, h1, h3, hk⟩
    have hget : n.inputs[i]? = some n.inputs[i] := by simp [hlt]
    have hw := add1 i n.inputs.length hlt (by omega)
    have hd := drop_cons hget
    replace hk := hk.out
    rw [hd, List.all_cons] at hk
    clear hd
    generalize n.inputs[i] = p at hget hk
    rcases Classical.em (p.name.size ≤ 40) with a | a
    · have hk2 : Kp ((n.inputs.drop (i + 1)).all (fun x => decide (x.name.size ≤ 40)) = R) := ⟨by simpa only [decide_eq_true a, Bool.true_and] using hk⟩
      have b : ¬ (p.name.size : Int) > 40 := by omega
      clear hk
      conv => arg 3; whnf
      all_goals try (refine zs ?_; repeat' first | apply zs0 | apply zs2 | (intro hc; try have hq := dq hc))
      exact ⟨by simp only [cellsNetl], by (simp only [seval, push_cast, *] <;> rfl), by (simp only [seval, push_cast, *] <;> rfl), hk2⟩
    · have hk2 : Kp (R = false) := ⟨by simpa only [decide_eq_false a, Bool.false_and] using hk.symm⟩
      have b : (p.name.size : Int) > 40 := by omega
      clear hk
      conv => arg 3; whnf
      all_goals try (refine zs ?_; repeat' first | apply zs0 | apply zs2 | (intro hc; try have hq := dq hc))
      exact ⟨by simp only [cellsNetl], .inr ⟨hk2.out, by (simp only [seval, push_cast, *] <;> rfl), rfl⟩⟩
  · rintro ρ H' ⟨rfl, h1, h3, hk⟩
    have hk2 : Kp (R = true) := ⟨by have := hk.out; simpa using this.symm⟩
    clear hk
    conv => arg 3; whnf
    all_goals try (refine zs ?_; repeat' first | apply zs0 | apply zs2 | (intro hc; try have hq := dq hc))
    exact ⟨by simp only [cellsNetl], .inl ⟨hk2.out, rfl⟩⟩

theorem few_l2 (n : Netl) (H : Heap) (R : Bool) (hl : n.regs.length ≤ 1000) : ∀ (bs : List Nat) i ρ H', i ≤ n.regs.length → (H' = H ++ [.cells (cellsNetl n)] ∧ ρ 1 = .ptr H.length 0 ∧ ρ 5 = .int .i64 i ∧ Kp ((n.regs.drop i).all (fun x => decide (x.name.size ≤ 40)) = R)) →
    Lp X ⟨107, bs⟩ (loopAt Tryz.f11 2) ρ H' fun ex ρ' H' => H' = H ++ [.cells (cellsNetl n)] ∧ ((R = true ∧ ex = .exit 4) ∨ (R = false ∧ ρ' 2 = .bool false ∧ ex = .ret)) := by
  intro bs
  refine loop_up ?_ ?_
  · rintro i ρ H' hlt ⟨rfl, h1, h3, hk⟩
    have hget : n.regs[i]? = some n.regs[i] := by simp [hlt]
    have hw := add1 i n.regs.length hlt (by omega)
    have hd := drop_cons hget
    replace hk := hk.out
    rw [hd, List.all_cons] at hk
    clear hd
    generalize n.regs[i] = p at hget hk
    rcases Classical.em (p.name.size ≤ 40) with a | a
    · have hk2 : Kp ((n.regs.drop (i + 1)).all (fun x => decide (x.name.size ≤ 40)) = R) := ⟨by simpa only [decide_eq_true a, Bool.true_and] using hk⟩
      have b : ¬ (p.name.size : Int) > 40 := by omega
      clear hk
      conv => arg 3; whnf
      all_goals try (refine zs ?_; repeat' first | apply zs0 | apply zs2 | (intro hc; try have hq := dq hc))
      exact ⟨by simp only [cellsNetl], by (simp only [seval, push_cast, *] <;> rfl), by (simp only [seval, push_cast, *] <;> rfl), hk2⟩
    · have hk2 : Kp (R = false) := ⟨by simpa only [decide_eq_false a, Bool.false_and] using hk.symm⟩
      have b : (p.name.size : Int) > 40 := by omega
      clear hk
      conv => arg 3; whnf
      all_goals try (refine zs ?_; repeat' first | apply zs0 | apply zs2 | (intro hc; try have hq := dq hc))
      exact ⟨by simp only [cellsNetl], .inr ⟨hk2.out, by (simp only [seval, push_cast, *] <;> rfl), rfl⟩⟩
  · rintro ρ H' ⟨rfl, h1, h3, hk⟩
    have hk2 : Kp (R = true) := ⟨by have := hk.out; simpa using this.symm⟩
    clear hk
    conv => arg 3; whnf
    all_goals try (refine zs ?_; repeat' first | apply zs0 | apply zs2 | (intro hc; try have hq := dq hc))
    exact ⟨by simp only [cellsNetl], .inl ⟨hk2.out, rfl⟩⟩

theorem few_l3 (n : Netl) (H : Heap) (R : Bool) (hl : n.outs.length ≤ 1000) : ∀ (bs : List Nat) i ρ H', i ≤ n.outs.length → (H' = H ++ [.cells (cellsNetl n)] ∧ ρ 1 = .ptr H.length 0 ∧ ρ 6 = .int .i64 i ∧ Kp ((n.outs.drop i).all (fun x => decide (x.name.size ≤ 40)) = R)) →
    Lp X ⟨107, bs⟩ (loopAt Tryz.f11 3) ρ H' fun ex ρ' H' => H' = H ++ [.cells (cellsNetl n)] ∧ ((R = true ∧ ex = .exit 6) ∨ (R = false ∧ ρ' 2 = .bool false ∧ ex = .ret)) := by
  intro bs
  refine loop_up ?_ ?_
  · rintro i ρ H' hlt ⟨rfl, h1, h3, hk⟩
    have hget : n.outs[i]? = some n.outs[i] := by simp [hlt]
    have hw := add1 i n.outs.length hlt (by omega)
    have hd := drop_cons hget
    replace hk := hk.out
    rw [hd, List.all_cons] at hk
    clear hd
    generalize n.outs[i] = p at hget hk
    rcases Classical.em (p.name.size ≤ 40) with a | a
    · have hk2 : Kp ((n.outs.drop (i + 1)).all (fun x => decide (x.name.size ≤ 40)) = R) := ⟨by simpa only [decide_eq_true a, Bool.true_and] using hk⟩
      have b : ¬ (p.name.size : Int) > 40 := by omega
      clear hk
      conv => arg 3; whnf
      all_goals try (refine zs ?_; repeat' first | apply zs0 | apply zs2 | (intro hc; try have hq := dq hc))
      exact ⟨by simp only [cellsNetl], by (simp only [seval, push_cast, *] <;> rfl), by (simp only [seval, push_cast, *] <;> rfl), hk2⟩
    · have hk2 : Kp (R = false) := ⟨by simpa only [decide_eq_false a, Bool.false_and] using hk.symm⟩
      have b : (p.name.size : Int) > 40 := by omega
      clear hk
      conv => arg 3; whnf
      all_goals try (refine zs ?_; repeat' first | apply zs0 | apply zs2 | (intro hc; try have hq := dq hc))
      exact ⟨by simp only [cellsNetl], .inr ⟨hk2.out, by (simp only [seval, push_cast, *] <;> rfl), rfl⟩⟩
  · rintro ρ H' ⟨rfl, h1, h3, hk⟩
    have hk2 : Kp (R = true) := ⟨by have := hk.out; simpa using this.symm⟩
    clear hk
    conv => arg 3; whnf
    all_goals try (refine zs ?_; repeat' first | apply zs0 | apply zs2 | (intro hc; try have hq := dq hc))
    exact ⟨by simp only [cellsNetl], .inl ⟨hk2.out, rfl⟩⟩

def fewAll (n : Netl) : Bool := n.nodes.all (fun x => decide (x.args.length ≤ 5)) && (n.inputs.all (fun x => decide (x.name.size ≤ 40)) && (n.regs.all (fun x => decide (x.name.size ≤ 40)) && n.outs.all (fun x => decide (x.name.size ≤ 40))))
theorem la_few (bs : List Nat) (H : Heap) (n : Netl) (hb : fewSizes n) : callw X bs 11 [encNetl n] H = some (.bool (fewAll n), H) := by
  refine call_at (rs := [.tmp 2]) (N := 107) (fn := Tryz.f11) xk11 xf11 rfl rfl rfl (by simp only [seval, push_cast, List.map_cons, List.map_nil, V.norm, norm1]; rfl) ?_
  obtain ⟨a1, a2, a3, a4, a5, a6⟩ := hb
  have b1 : ¬ ((n.name.size : Int) > 40) := by omega
  have b2 : ¬ ((n.inputs.length : Int) > 45) := by omega
  have b3 : ¬ ((n.regs.length : Int) > 45) := by omega
  have b5 : ¬ (n.nodes.length : Int) > 405 := by omega
  have b6 : ¬ (n.outs.length : Int) > 20 := by omega
  rcases Classical.em (n.nodes.length > 60) with a7 | a7
  · have b4 : (n.nodes.length : Int) > 60 := by omega
    have b7 : ¬ (n.nodes.length : Int) ≤ 400 := by omega
    all_goals try (refine zs ?_; repeat' first | apply zs0 | apply zs2 | (intro hc; try have hq := dq hc))
    refine lp_then (lp_any (c := loopAt Tryz.f11 0) rfl (few_l0 n H _ (by omega) _ 0 _ _ (by omega) ⟨by simp only [cellsNetl], by (simp only [seval, push_cast, *] <;> rfl), by (simp only [seval, push_cast, *] <;> rfl), ⟨rfl⟩⟩)) ?_
    rintro ex ρ0 H' ⟨rfl, ⟨r0, rfl⟩ | ⟨r0, g0, rfl⟩⟩ hf0
    rotate_left
    · have e : fewAll n = false := by simp only [fewAll]; simp only [List.drop_zero] at *; simp [*]
      clear hf0
      all_goals try (refine zs ?_; repeat' first | apply zs0 | apply zs2 | (intro hc; try have hq := dq hc))
    have f0 := hf0 1 rfl
    simp only [seval, push_cast] at f0
    clear hf0
    all_goals try (refine zs ?_; repeat' first | apply zs0 | apply zs2 | (intro hc; try have hq := dq hc))
    refine lp_then (lp_any (c := loopAt Tryz.f11 1) rfl (few_l1 n H _ (by omega) _ 0 _ _ (by omega) ⟨by simp only [cellsNetl], by (simp only [seval, push_cast, *] <;> rfl), by (simp only [seval, push_cast, *] <;> rfl), ⟨rfl⟩⟩)) ?_
    rintro ex ρ1 H' ⟨rfl, ⟨r1, rfl⟩ | ⟨r1, g1, rfl⟩⟩ hf1
    rotate_left
    · have e : fewAll n = false := by simp only [fewAll]; simp only [List.drop_zero] at *; simp [*]
      clear hf1
      all_goals try (refine zs ?_; repeat' first | apply zs0 | apply zs2 | (intro hc; try have hq := dq hc))
    have f1 := hf1 1 rfl
    simp only [seval, push_cast] at f1
    clear hf1
    all_goals try (refine zs ?_; repeat' first | apply zs0 | apply zs2 | (intro hc; try have hq := dq hc))
    refine lp_then (lp_any (c := loopAt Tryz.f11 2) rfl (few_l2 n H _ (by omega) _ 0 _ _ (by omega) ⟨by simp only [cellsNetl], by (simp only [seval, push_cast, *] <;> rfl), by (simp only [seval, push_cast, *] <;> rfl), ⟨rfl⟩⟩)) ?_
    rintro ex ρ2 H' ⟨rfl, ⟨r2, rfl⟩ | ⟨r2, g2, rfl⟩⟩ hf2
    rotate_left
    · have e : fewAll n = false := by simp only [fewAll]; simp only [List.drop_zero] at *; simp [*]
      clear hf2
      all_goals try (refine zs ?_; repeat' first | apply zs0 | apply zs2 | (intro hc; try have hq := dq hc))
    have f2 := hf2 1 rfl
    simp only [seval, push_cast] at f2
    clear hf2
    all_goals try (refine zs ?_; repeat' first | apply zs0 | apply zs2 | (intro hc; try have hq := dq hc))
    refine lp_then (lp_any (c := loopAt Tryz.f11 3) rfl (few_l3 n H _ (by omega) _ 0 _ _ (by omega) ⟨by simp only [cellsNetl], by (simp only [seval, push_cast, *] <;> rfl), by (simp only [seval, push_cast, *] <;> rfl), ⟨rfl⟩⟩)) ?_
    rintro ex ρ3 H' ⟨rfl, ⟨r3, rfl⟩ | ⟨r3, g3, rfl⟩⟩ hf3
    rotate_left
    · have e : fewAll n = false := by simp only [fewAll]; simp only [List.drop_zero] at *; simp [*]
      clear hf3
      all_goals try (refine zs ?_; repeat' first | apply zs0 | apply zs2 | (intro hc; try have hq := dq hc))
    have f3 := hf3 1 rfl
    simp only [seval, push_cast] at f3
    have e : fewAll n = true := by simp only [fewAll]; simp only [List.drop_zero] at *; simp [*]
    clear hf3
    all_goals try (refine zs ?_; repeat' first | apply zs0 | apply zs2 | (intro hc; try have hq := dq hc))
  · have b4 : ¬ (n.nodes.length : Int) > 60 := by omega
    all_goals try (refine zs ?_; repeat' first | apply zs0 | apply zs2 | (intro hc; try have hq := dq hc))
    refine lp_then (lp_any (c := loopAt Tryz.f11 0) rfl (few_l0 n H _ (by omega) _ 0 _ _ (by omega) ⟨by simp only [cellsNetl], by (simp only [seval, push_cast, *] <;> rfl), by (simp only [seval, push_cast, *] <;> rfl), ⟨rfl⟩⟩)) ?_
    rintro ex ρ0 H' ⟨rfl, ⟨r0, rfl⟩ | ⟨r0, g0, rfl⟩⟩ hf0
    rotate_left
    · have e : fewAll n = false := by simp only [fewAll]; simp only [List.drop_zero] at *; simp [*]
      clear hf0
      all_goals try (refine zs ?_; repeat' first | apply zs0 | apply zs2 | (intro hc; try have hq := dq hc))
    have f0 := hf0 1 rfl
    simp only [seval, push_cast] at f0
    clear hf0
    all_goals try (refine zs ?_; repeat' first | apply zs0 | apply zs2 | (intro hc; try have hq := dq hc))
    refine lp_then (lp_any (c := loopAt Tryz.f11 1) rfl (few_l1 n H _ (by omega) _ 0 _ _ (by omega) ⟨by simp only [cellsNetl], by (simp only [seval, push_cast, *] <;> rfl), by (simp only [seval, push_cast, *] <;> rfl), ⟨rfl⟩⟩)) ?_
    rintro ex ρ1 H' ⟨rfl, ⟨r1, rfl⟩ | ⟨r1, g1, rfl⟩⟩ hf1
    rotate_left
    · have e : fewAll n = false := by simp only [fewAll]; simp only [List.drop_zero] at *; simp [*]
      clear hf1
      all_goals try (refine zs ?_; repeat' first | apply zs0 | apply zs2 | (intro hc; try have hq := dq hc))
    have f1 := hf1 1 rfl
    simp only [seval, push_cast] at f1
    clear hf1
    all_goals try (refine zs ?_; repeat' first | apply zs0 | apply zs2 | (intro hc; try have hq := dq hc))
    refine lp_then (lp_any (c := loopAt Tryz.f11 2) rfl (few_l2 n H _ (by omega) _ 0 _ _ (by omega) ⟨by simp only [cellsNetl], by (simp only [seval, push_cast, *] <;> rfl), by (simp only [seval, push_cast, *] <;> rfl), ⟨rfl⟩⟩)) ?_
    rintro ex ρ2 H' ⟨rfl, ⟨r2, rfl⟩ | ⟨r2, g2, rfl⟩⟩ hf2
    rotate_left
    · have e : fewAll n = false := by simp only [fewAll]; simp only [List.drop_zero] at *; simp [*]
      clear hf2
      all_goals try (refine zs ?_; repeat' first | apply zs0 | apply zs2 | (intro hc; try have hq := dq hc))
    have f2 := hf2 1 rfl
    simp only [seval, push_cast] at f2
    clear hf2
    all_goals try (refine zs ?_; repeat' first | apply zs0 | apply zs2 | (intro hc; try have hq := dq hc))
    refine lp_then (lp_any (c := loopAt Tryz.f11 3) rfl (few_l3 n H _ (by omega) _ 0 _ _ (by omega) ⟨by simp only [cellsNetl], by (simp only [seval, push_cast, *] <;> rfl), by (simp only [seval, push_cast, *] <;> rfl), ⟨rfl⟩⟩)) ?_
    rintro ex ρ3 H' ⟨rfl, ⟨r3, rfl⟩ | ⟨r3, g3, rfl⟩⟩ hf3
    rotate_left
    · have e : fewAll n = false := by simp only [fewAll]; simp only [List.drop_zero] at *; simp [*]
      clear hf3
      all_goals try (refine zs ?_; repeat' first | apply zs0 | apply zs2 | (intro hc; try have hq := dq hc))
    have f3 := hf3 1 rfl
    simp only [seval, push_cast] at f3
    have e : fewAll n = true := by simp only [fewAll]; simp only [List.drop_zero] at *; simp [*]
    clear hf3
    all_goals try (refine zs ?_; repeat' first | apply zs0 | apply zs2 | (intro hc; try have hq := dq hc))

end Go.E
/- Contracts of the package netlist, in E: sequences of clocks. Own work. -/
namespace Go.E
open Go.Proofs
set_option maxRecDepth 100000
set_option maxHeartbeats 4000000

theorem room24 (n : Nat) (h : n ≤ 1000000) : (n + 1) * 24 ≤ roomB := by unfold roomB; omega
theorem nl_run1 (bs : List Nat) (H : Heap) (n : Netl) (i : Int) (l : List Int) (a : Nat) (hS : Small n) (hk : NetOk n) (hl : l.length ≤ 100000) (hA : H[a]? = some (.cells (cellsNetl n))) : callw X bs 151 [.int .i64 i, .list (l.map (.int .i64)), .ptr a 0] H = some (.int .i64 (inErrS n l), H) := by
  refine call_at (rs := [.tmp 5]) (N := 9) (fn := Tryz.f151) xk151 xf151 rfl rfl rfl (by simp only [seval, push_cast, List.map_cons, List.map_nil, V.norm, norm1]; rfl) ?_
  have t1 := fun bs H => nl_inputsErr bs H n l hS.inputs hS.regs (by omega) (fun w hw => by have := inW_1 hk w hw; omega)
  simp only [encNetl, cellsNetl] at t1 hA
  clear hS hk
  all_goals try (refine zs ?_; repeat' first | apply zs0 | apply zs2 | (intro hc; try have hq := dq hc))

section
variable (n : Netl) (l : List (List Int))
theorem rn_loop (bs : List Nat) (H : Heap) (c t2 : HObj) (hS : Small n) (hk : NetOk n) (hl : l.length ≤ 1000) (he : (eachP (fun _ x => inErrS n x) 0 l).2 = 0) :
    ∀ i ρ H', i ≤ l.length → (∃ os ss junk, os = trL n l i ∧ ss = stL n l i ∧ H' = H ++ c :: .tok os.length :: t2 :: .cells (cellsNetl n) :: .tok ss.length :: junk ∧ ρ 7 = .ptr (H.length + 3) 0 ∧ ρ 4 = .tl (H.length + 1) (os.map encInts) ∧ ρ 5 = .tl (H.length + 4) (ss.map encInts) ∧
        ρ 41 = .list (l.map encInts) ∧ ρ 42 = .int .i64 l.length ∧ ρ 43 = .int .i64 i) →
      Lp X ⟨69, bs⟩ (loopAt Tryz.f94 0) ρ H' fun ex ρ' H' => ∃ os ss junk, os = trL n l l.length ∧ ss = stL n l l.length ∧ H' = H ++ c :: .tok os.length :: t2 :: .cells (cellsNetl n) :: .tok ss.length :: junk ∧ ex = .exit 0 ∧
        ρ' 4 = .tl (H.length + 1) (os.map encInts) ∧ ρ' 5 = .tl (H.length + 4) (ss.map encInts) := by
  refine loop_up ?_ ?_
  · rintro i ρ H' hi ⟨os, ss, junk, hos, hss, rfl, h7, h4, h5, h41, h42, h43⟩
    have hget : l[i]? = some l[i] := by simp [hi]
    have hze := eachP_ok _ l 0 he i l[i] hget
    have hr := run_ok hk he i (by omega)
    have hgD : l.getD i [] = l[i] := by simp [List.getD, hget]
    have hsa : ss[i]? = some (stAt n l i) := by rw [hss]; exact stL_last n l i
    have hsn : trL n l (i + 1) = os ++ [(stepN n l[i] (stAt n l i)).1] := by rw [trL, ← hos, trAt, hgD]
    have hst : stL n l (i + 1) = ss ++ [(stepN n l[i] (stAt n l i)).2] := by rw [stL, ← hss, stAt, hgD]
    have t3 := fun bs H => nl_clock bs H n l[i] (stAt n l i) hS hk (leafOk_of hk hze hr) hr.1
    simp only [encNetl, cellsNetl] at t3
    generalize l[i] = x at hget hsn hst t3
    generalize stAt n l i = st at hsa hsn hst t3
    have hlen : os.length = i := by rw [hos]; exact trL_len n l i
    have hlens : ss.length = i + 1 := by rw [hss]; exact stL_len n l i
    have hroom := room24 os.length (by omega)
    have hroom2 := room24 ss.length (by omega)
    have hw := add1 i l.length hi (by omega)
    generalize stepN n x st = q at hsn hst t3
    replace hos : Kp (os = trL n l i) := ⟨hos⟩
    replace hss : Kp (ss = stL n l i) := ⟨hss⟩
    replace hsn : Kp (trL n l (i + 1) = os ++ [q.1]) := ⟨hsn⟩
    replace hst : Kp (stL n l (i + 1) = ss ++ [q.2]) := ⟨hst⟩
    replace hlen : Kp (os.length = i) := ⟨hlen⟩
    replace hlens : Kp (ss.length = i + 1) := ⟨hlens⟩
    clear hze hr hgD hS hk he
    conv => arg 3; whnf
    repeat' first
     | (apply z50 (id := 12) (ord := [0, 1, 2, 3, 4, 5, 6, 7, 8, 9, 10, 11]) <;> first | kernel_rfl | skip)
     | (refine zs ?_; repeat' first | apply zs0 | apply zs2 | (intro hc; try have hq := dq hc)) | fail
    exact ⟨os ++ [q.1], ss ++ [q.2], _, hsn.out.symm, hst.out.symm, by simp only [List.length_append, List.length_singleton]; rfl, by (simp only [seval, push_cast, *] <;> rfl), by simp [push_cast], by simp [push_cast], by (simp only [seval, push_cast, *] <;> rfl), by (simp only [seval, push_cast, *] <;> rfl), by (simp only [seval, push_cast, *] <;> rfl)⟩
  · rintro ρ H' ⟨os, ss, junk, hos, hss, rfl, h7, h4, h5, h41, h42, h43⟩
    replace hos : Kp (os = trL n l l.length) := ⟨hos⟩
    replace hss : Kp (ss = stL n l l.length) := ⟨hss⟩
    clear hS hk he
    conv => arg 3; whnf
    repeat' first
     | (apply z50 (id := 12) (ord := [0, 1, 2, 3, 4, 5, 6, 7, 8, 9, 10, 11]) <;> first | kernel_rfl | skip)
     | (refine zs ?_; repeat' first | apply zs0 | apply zs2 | (intro hc; try have hq := dq hc)) | fail
    exact ⟨os, ss, junk, hos.out, hss.out, rfl, rfl, by (simp only [seval, push_cast, *] <;> rfl), by (simp only [seval, push_cast, *] <;> rfl)⟩
end

theorem nl_run (bs : List Nat) (H : Heap) (n : Netl) (l : List (List Int)) (hS : Small n) (hl : l.length ≤ 1000) (hll : ∀ x ∈ l, x.length ≤ 100000) : callw X bs 94 [encNetl n, .list (l.map encInts)] H = some (.tuple [.list (if runErrS n l = 0 then (trL n l l.length).map encInts else []), .list (if runErrS n l = 0 then (stL n l l.length).map encInts else []), .int .i64 (runErrS n l)], H) := by
  refine call_at (rs := [.tmp 4, .tmp 5, .tmp 6]) (N := 69) (fn := Tryz.f94) xk94 xf94 rfl rfl rfl (by simp only [seval, push_cast, List.map_cons, List.map_nil, V.norm, norm1]; rfl) ?_
  have h1 := fun bs H => nl_open bs H n hS
  simp only [encNetl, cellsNetl] at h1
  by_cases hc : (checkNetS n).2 = 0
  case neg =>
    have he : runErrS n l = (checkNetS n).2 := if_neg hc
    rw [he]
    simp only [if_neg hc]
    clear hS he hll
    by_cases h60 : l.length ≤ 60
    · have d : decide ((l.length : Int) ≤ 60) = true := decide_eq_true (by omega)
      clear h60
      repeat' first
       | (apply z50 (id := 12) (ord := [0, 1, 2, 3, 4, 5, 6, 7, 8, 9, 10, 11]) <;> first | kernel_rfl | skip)
       | (refine zs ?_; repeat' first | apply zs0 | apply zs2 | (intro hc; try have hq := dq hc)) | fail
      all_goals (apply z43; (simp only [seval, push_cast, *]; with_reducible rfl); (simp only [seval, push_cast, *]; with_reducible rfl); (simp only [seval, push_cast, *]; with_reducible rfl); all_goals (first | (simp only [seval, push_cast, *] <;> fail) | (simp only [seval, push_cast] <;> fail) | (rw [frz_pure rfl] <;> (simp [*] <;> fail))))
    · have d : decide ((l.length : Int) ≤ 60) = false := decide_eq_false (by omega)
      clear h60
      repeat' first
       | (apply z50 (id := 12) (ord := [0, 1, 2, 3, 4, 5, 6, 7, 8, 9, 10, 11]) <;> first | kernel_rfl | skip)
       | (refine zs ?_; repeat' first | apply zs0 | apply zs2 | (intro hc; try have hq := dq hc)) | fail
      all_goals (apply z43; (simp only [seval, push_cast, *]; with_reducible rfl); (simp only [seval, push_cast, *]; with_reducible rfl); (simp only [seval, push_cast, *]; with_reducible rfl); all_goals (first | (simp only [seval, push_cast, *] <;> fail) | (simp only [seval, push_cast] <;> fail) | (rw [frz_pure rfl] <;> (simp [*] <;> fail))))
  have hk := net_ok hc
  by_cases h60 : l.length ≤ 60
  case neg =>
    have he : runErrS n l = 8 := by unfold runErrS; rw [if_pos hc, if_neg h60]
    rw [he]
    have d : decide ((l.length : Int) ≤ 60) = false := decide_eq_false (by omega)
    simp only [hc] at h1
    simp only [show ((8 : Int) = 0) = False by simp, if_false]
    clear hS he hll hk h60
    repeat' first
     | (apply z50 (id := 12) (ord := [0, 1, 2, 3, 4, 5, 6, 7, 8, 9, 10, 11]) <;> first | kernel_rfl | skip)
     | (refine zs ?_; repeat' first | apply zs0 | apply zs2 | (intro hc; try have hq := dq hc)) | fail
    all_goals (apply z43; (simp only [seval, push_cast, *]; with_reducible rfl); (simp only [seval, push_cast, *]; with_reducible rfl); (simp only [seval, push_cast, *]; with_reducible rfl); all_goals (first | (simp only [seval, push_cast, *] <;> fail) | (simp only [seval, push_cast] <;> fail) | (rw [frz_pure rfl] <;> (simp [*] <;> fail))))
  have d : decide ((l.length : Int) ≤ 60) = true := decide_eq_true (by omega)
  have he : runErrS n l = (eachP (fun _ x => inErrS n x) 0 l).2 := by unfold runErrS; rw [if_pos hc, if_pos h60]
  have t2 := fun bs (a b c : HObj) rest => netlist_each_Ints_p bs (H ++ a :: b :: c :: .cells (cellsNetl n) :: rest) 151 [.ptr (H.length + 3) 0] (fun _ x => inErrS n x) l (by omega)
    (fun bs i x junk hx => nl_run1 bs ((H ++ a :: b :: c :: .cells (cellsNetl n) :: rest) ++ junk) n i x (H.length + 3) hS hk (hll x (List.mem_of_getElem? hx)) (by simp))
  have t3 := fun bs H => nl_reset bs H n hS.regs
  simp only [encNetl, cellsNetl] at t2 t3
  simp only [hc] at h1
  rw [he]
  by_cases hz : (eachP (fun _ x => inErrS n x) 0 l).2 = 0
  case neg =>
    simp only [if_neg hz]
    generalize eachP (fun _ x => inErrS n x) 0 l = r at t2 hz ⊢
    clear hS he hll hk h60
    repeat' first
     | (apply z50 (id := 12) (ord := [0, 1, 2, 3, 4, 5, 6, 7, 8, 9, 10, 11]) <;> first | kernel_rfl | skip)
     | (refine zs ?_; repeat' first | apply zs0 | apply zs2 | (intro hc; try have hq := dq hc)) | fail
    all_goals (apply z43; (simp only [seval, push_cast, *]; with_reducible rfl); (simp only [seval, push_cast, *]; with_reducible rfl); (simp only [seval, push_cast, *]; with_reducible rfl); all_goals (first | (simp only [seval, push_cast, *] <;> fail) | (simp only [seval, push_cast] <;> fail) | (rw [frz_pure rfl] <;> (simp [*] <;> fail))))
  have hloop := fun (bs : List Nat) (c t2 : HObj) (ρ : Env) => rn_loop n l bs H c t2 hS hk (by omega) hz 0 ρ
  simp only [cellsNetl] at hloop
  simp only [if_pos hz, hz] at t2 ⊢
  generalize (eachP (fun _ x => inErrS n x) 0 l).1 = r1 at t2
  clear hS he hll hk h60 hz
  repeat' first
   | (apply z50 (id := 12) (ord := [0, 1, 2, 3, 4, 5, 6, 7, 8, 9, 10, 11]) <;> first | kernel_rfl | skip)
   | (refine zs ?_; repeat' first | apply zs0 | apply zs2 | (intro hc; try have hq := dq hc)) | fail
  refine lp_then (lp_any (c := loopAt Tryz.f94 0) rfl (hloop _ _ _ _ _ (by omega) ⟨[], [resetN n], [], rfl, rfl, rfl, by (simp only [seval, push_cast, *] <;> rfl), by (simp only [seval, push_cast, *] <;> rfl), by (simp only [seval, push_cast, *] <;> rfl), by (simp only [seval, push_cast, *] <;> rfl), by (simp only [seval, push_cast, *] <;> rfl), by (simp only [seval, push_cast, *] <;> rfl)⟩)) ?_
  rintro ex ρ' H' ⟨os, ss, junk, hos, hss, rfl, rfl, h4, h5⟩ hf
  rw [← hos, ← hss]
  clear hloop hos hss
  repeat' first
   | (apply z50 (id := 12) (ord := [0, 1, 2, 3, 4, 5, 6, 7, 8, 9, 10, 11]) <;> first | kernel_rfl | skip)
   | (refine zs ?_; repeat' first | apply zs0 | apply zs2 | (intro hc; try have hq := dq hc)) | fail
  all_goals (apply z43; (simp only [seval, push_cast, *]; with_reducible rfl); (simp only [seval, push_cast, *]; with_reducible rfl); (simp only [seval, push_cast, *]; with_reducible rfl); all_goals (first | (simp only [seval, push_cast, *] <;> fail) | (simp only [seval, push_cast] <;> fail) | (rw [frz_pure rfl] <;> (simp [*] <;> fail))))
end Go.E
/- Contracts of the references, in E: errors of values; lists. Own work. -/
namespace Go.E
open Go.Proofs
set_option maxRecDepth 100000
set_option maxHeartbeats 4000000

theorem bs_isValues (bs : List Nat) (H : Heap) (ws l : List Int) (h : l.length = ws.length) (hl : l.length ≤ 1000000) (hw : ∀ w ∈ ws, 0 ≤ w) : callw X bs 152 [.list (ws.map (.int .i64)), .list (l.map (.int .i64))] H = some (.bool (decide ((eachP (fun i n => if fitsN n (at0 ws i) = true then (0 : Int) else 2) 0 l).2 = 0)), H) := by
  refine call_at (rs := [.tmp 4]) (N := 27) (fn := Tryz.f152) xk152 xf152 rfl rfl rfl (by simp only [seval, push_cast, List.map_cons, List.map_nil, V.norm, norm1]; rfl) ?_
  have key : ∀ (R : Bool) (bs : List Nat) i ρ H', i ≤ l.length → (H' = H ∧ ρ 0 = .list (ws.map (.int .i64)) ∧ ρ 1 = .list (l.map (.int .i64)) ∧ ρ 5 = .int .i64 i ∧ Kp (decide ((eachP (fun i n => if fitsN n (at0 ws i) = true then (0 : Int) else 2) i (l.drop i)).2 = 0) = R)) →
      Lp X ⟨27, bs⟩ (loopAt Tryz.f152 0) ρ H' fun ex ρ' H' => H' = H ∧ ((ex = .exit 0 ∧ R = true) ∨ (ex = .ret ∧ ρ' 4 = .bool false ∧ R = false)) := by
    intro R bs
    refine loop_up ?_ ?_
    · rintro i ρ H' hi ⟨rfl, h0, h1, h5, hR⟩
      have hget : l[i]? = some l[i] := by simp [hi]
      have hiw : i < ws.length := by omega
      have hgw : ws[i]? = some ws[i] := by simp [hiw]
      have hwi := hw ws[i] (List.getElem_mem hiw)
      have hat := at0_get hgw
      replace hR := hR.out
      rw [drop_cons hget, eachP, hat] at hR
      generalize l[i] = x at hget hR
      generalize ws[i] = y at hgw hwi hat hR
      have hf := fun bs H => bs_fits bs H x y hwi
      have hw1 := add1 i l.length hi hl
      clear hw hat hwi
      cases hb : fitsN x y with
      | true =>
        rw [hb] at hR hf
        simp only [if_true, ne_eq, not_true_eq_false, if_false] at hR
        replace hR : Kp (decide ((eachP (fun i n => if fitsN n (at0 ws i) = true then (0 : Int) else 2) (i + 1) (l.drop (i + 1))).2 = 0) = R) := ⟨hR⟩
        conv => arg 3; whnf
        repeat' first
         | (apply z50 (id := 6) (ord := [0, 1, 2, 3, 4, 5, 6, 7, 8, 9]) <;> first | kernel_rfl | skip)
         | (refine zs ?_; repeat' first | apply zs0 | apply zs2 | (intro hc; try have hq := dq hc)) | fail
        exact ⟨rfl, by (simp only [seval, push_cast, *] <;> rfl), by (simp only [seval, push_cast, *] <;> rfl), by (simp only [seval, push_cast, *] <;> rfl), hR⟩
      | false =>
        rw [hb] at hR hf
        simp at hR
        replace hR : Kp (R = false) := ⟨hR.symm ▸ rfl⟩
        conv => arg 3; whnf
        repeat' first
         | (apply z50 (id := 6) (ord := [0, 1, 2, 3, 4, 5, 6, 7, 8, 9]) <;> first | kernel_rfl | skip)
         | (refine zs ?_; repeat' first | apply zs0 | apply zs2 | (intro hc; try have hq := dq hc)) | fail
        exact ⟨rfl, .inr ⟨rfl, by (simp only [seval, push_cast, *] <;> rfl), hR.out⟩⟩
    · rintro ρ H' ⟨rfl, h0, h1, h5, hR⟩
      replace hR := hR.out
      rw [List.drop_length] at hR
      simp [eachP] at hR
      replace hR : Kp (R = true) := ⟨by simp [hR]⟩
      clear hw
      conv => arg 3; whnf
      repeat' first
       | (apply z50 (id := 6) (ord := [0, 1, 2, 3, 4, 5, 6, 7, 8, 9]) <;> first | kernel_rfl | skip)
       | (refine zs ?_; repeat' first | apply zs0 | apply zs2 | (intro hc; try have hq := dq hc)) | fail
      exact ⟨rfl, .inl ⟨rfl, hR.out⟩⟩
  have d : (decide ¬ (ws.length : Int) = (l.length : Int)) = false := decide_eq_false (by omega)
  clear hw
  repeat' first
   | (apply z50 (id := 6) (ord := [0, 1, 2, 3, 4, 5, 6, 7, 8, 9]) <;> first | kernel_rfl | skip)
   | (refine zs ?_; repeat' first | apply zs0 | apply zs2 | (intro hc; try have hq := dq hc)) | fail
  refine lp_then (lp_any (c := loopAt Tryz.f152 0) rfl (key _ _ 0 _ _ (by omega) ⟨rfl, by (simp only [seval, push_cast, *] <;> rfl), by (simp only [seval, push_cast, *] <;> rfl), by (simp only [seval, push_cast, *] <;> rfl), ⟨rfl⟩⟩)) ?_
  rintro ex ρ' H' ⟨rfl, ⟨rfl, h2⟩ | ⟨rfl, h3, h2⟩⟩ hf
  · rw [List.drop_zero] at h2
    rw [h2]
    clear key hf
    repeat' first
     | (apply z50 (id := 6) (ord := [0, 1, 2, 3, 4, 5, 6, 7, 8, 9]) <;> first | kernel_rfl | skip)
     | (refine zs ?_; repeat' first | apply zs0 | apply zs2 | (intro hc; try have hq := dq hc)) | fail
  · rw [List.drop_zero] at h2
    rw [h2]
    clear key hf
    repeat' first
     | (apply z50 (id := 6) (ord := [0, 1, 2, 3, 4, 5, 6, 7, 8, 9]) <;> first | kernel_rfl | skip)
     | (refine zs ?_; repeat' first | apply zs0 | apply zs2 | (intro hc; try have hq := dq hc)) | fail

theorem eachP_02 (ws : List Int) : ∀ (l : List Int) (i : Nat), (eachP (fun i n => if fitsN n (at0 ws i) = true then (0 : Int) else 2) i l).2 = 0 ∨ (eachP (fun i n => if fitsN n (at0 ws i) = true then (0 : Int) else 2) i l).2 = 2
  | [], _ => .inl rfl
  | x :: r, i => by
    unfold eachP
    by_cases h : fitsN x (at0 ws i) = true
    · simp only [h, if_true, ne_eq, not_true_eq_false, if_false]; exact eachP_02 ws r (i + 1)
    · simp [h]
theorem bs_valuesErr (bs : List Nat) (H : Heap) (ws l : List Int) (hws : ws.length ≤ 1000000) (hl : l.length ≤ 1000000) (hw : ∀ w ∈ ws, 0 ≤ w) : callw X bs 96 [.list (ws.map (.int .i64)), .list (l.map (.int .i64))] H = some (.int .i64 (valErrS ws l), H) := by
  refine call_at (rs := [.tmp 4]) (N := 14) (fn := Tryz.f96) xk96 xf96 rfl rfl rfl (by simp only [seval, push_cast, List.map_cons, List.map_nil, V.norm, norm1]; rfl) ?_
  unfold valErrS
  by_cases h : l.length = ws.length
  · have d : (decide ¬ (ws.length : Int) = (l.length : Int)) = false := decide_eq_false (by omega)
    have t := fun bs H => bs_isValues bs H ws l h hl hw
    rw [if_pos h]
    rcases eachP_02 ws l 0 with he | he
    · rw [he] at t ⊢
      clear hw h he
      all_goals try (refine zs ?_; repeat' first | apply zs0 | apply zs2 | (intro hc; try have hq := dq hc))
    · rw [he] at t ⊢
      clear hw h he
      all_goals try (refine zs ?_; repeat' first | apply zs0 | apply zs2 | (intro hc; try have hq := dq hc))
  · have d : (decide ¬ (ws.length : Int) = (l.length : Int)) = true := decide_eq_true (by omega)
    rw [if_neg h]
    clear hw h
    all_goals try (refine zs ?_; repeat' first | apply zs0 | apply zs2 | (intro hc; try have hq := dq hc))

theorem rf_inputsErr (bs : List Nat) (H : Heap) (n : Netl) (l : List Int) (hi : n.inputs.length ≤ 1000) (hr : n.regs.length ≤ 1000) (hl : l.length ≤ 1000000) (hw : ∀ w ∈ n.inputs.map (·.width), 0 ≤ w) : callw X bs 26 [encNetl n, .list (l.map (.int .i64))] H = some (.int .i64 (inErrS n l), H) := by
  refine call_at (rs := [.tmp 4]) (N := 13) (fn := Tryz.f26) xk26 xf26 rfl rfl rfl (by simp only [seval, push_cast, List.map_cons, List.map_nil, V.norm, norm1]; rfl) ?_
  have t1 := fun bs H => bs_netLeaves bs H n hi hr
  have t2 := slice_hi (leavesN n) n.inputs.length (by simp [leavesN])
  rw [in_take] at t2
  have t3 := fun bs H => bs_valuesErr bs H (n.inputs.map (·.width)) l (by simp; omega) hl hw
  simp only [encNetl, cellsNetl] at t1
  unfold inErrS
  generalize n.inputs.map (fun p : Port => p.width) = ws at t2 t3 ⊢
  generalize leavesN n = lvs at t1 t2
  clear hw
  repeat' first
   | (apply z51 (id := 1) (ord := [0, 2, 3, 4, 6, 1, 5, 7, 8]) (ps := [(2, 5)]) <;> first | kernel_rfl | skip)
   | (refine zs ?_; repeat' first | apply zs0 | apply zs2 | (intro hc; try have hq := dq hc)) | fail

theorem rf_stateErr (bs : List Nat) (H : Heap) (n : Netl) (l : List Int) (hi : n.inputs.length ≤ 1000) (hr : n.regs.length ≤ 1000) (hl : l.length ≤ 1000000) (hw : ∀ w ∈ n.regs.map (·.width), 0 ≤ w) : callw X bs 27 [encNetl n, .list (l.map (.int .i64))] H = some (.int .i64 (stErrS n l), H) := by
  refine call_at (rs := [.tmp 4]) (N := 13) (fn := Tryz.f27) xk27 xf27 rfl rfl rfl (by simp only [seval, push_cast, List.map_cons, List.map_nil, V.norm, norm1]; rfl) ?_
  have t1 := fun bs H => bs_netLeaves bs H n hi hr
  have t2 := slice_lo (leavesN n) n.inputs.length (by simp [leavesN])
  rw [in_drop] at t2
  have t3 := fun bs H => bs_valuesErr bs H (n.regs.map (·.width)) l (by simp; omega) hl hw
  simp only [encNetl, cellsNetl] at t1
  unfold stErrS
  generalize n.regs.map (fun p : Reg => p.width) = ws at t2 t3 ⊢
  generalize leavesN n = lvs at t1 t2
  clear hw
  repeat' first
   | (apply z51 (id := 1) (ord := [0, 2, 3, 4, 6, 1, 5, 7, 8]) (ps := [(2, 5)]) <;> first | kernel_rfl | skip)
   | (refine zs ?_; repeat' first | apply zs0 | apply zs2 | (intro hc; try have hq := dq hc)) | fail

theorem rf_err (bs : List Nat) (H : Heap) (n : Netl) (hS : Small n) : callw X bs 24 [encNetl n] H = some (.int .i64 (netErrR n).2, H) := by
  refine call_at (rs := [.tmp 2]) (N := 11) (fn := Tryz.f24) xk24 xf24 rfl rfl rfl (by simp only [seval, push_cast, List.map_cons, List.map_nil, V.norm, norm1]; rfl) ?_
  have t1 := fun bs H => bs_netErr bs H n hS
  simp only [encNetl, cellsNetl] at t1
  clear hS
  all_goals try (refine zs ?_; repeat' first | apply zs0 | apply zs2 | (intro hc; try have hq := dq hc))

theorem nl_traceOf (bs : List Nat) (H : Heap) (n : Netl) (l : List (List Int)) (hS : Small n) (hl : l.length ≤ 1000) (hll : ∀ x ∈ l, x.length ≤ 100000) : callw X bs 21 [encNetl n, .list (l.map encInts)] H = some (.tuple [.list (if runErrS n l = 0 then (trL n l l.length).map encInts else []), .int .i64 (runErrS n l)], H) := by
  refine call_at (rs := [.tmp 4, .tmp 5]) (N := 18) (fn := Tryz.f21) xk21 xf21 rfl rfl rfl (by simp only [seval, push_cast, List.map_cons, List.map_nil, V.norm, norm1]; rfl) ?_
  have t1 := fun bs H => nl_run bs H n l hS hl hll
  simp only [encNetl, cellsNetl] at t1
  have hp : V.pureL (if runErrS n l = 0 then (trL n l l.length).map encInts else []) = true := by split; exact pureL_encInts _; rfl
  generalize (if runErrS n l = 0 then (trL n l l.length).map encInts else []) = a at t1 hp ⊢
  generalize (if runErrS n l = 0 then (stL n l l.length).map encInts else []) = b at t1
  generalize runErrS n l = e at t1 ⊢
  clear hS hll
  all_goals try (refine zs ?_; repeat' first | apply zs0 | apply zs2 | (intro hc; try have hq := dq hc))

theorem nl_statesOf (bs : List Nat) (H : Heap) (n : Netl) (l : List (List Int)) (hS : Small n) (hl : l.length ≤ 1000) (hll : ∀ x ∈ l, x.length ≤ 100000) : callw X bs 23 [encNetl n, .list (l.map encInts)] H = some (.tuple [.list (if runErrS n l = 0 then (stL n l l.length).map encInts else []), .int .i64 (runErrS n l)], H) := by
  refine call_at (rs := [.tmp 4, .tmp 5]) (N := 18) (fn := Tryz.f23) xk23 xf23 rfl rfl rfl (by simp only [seval, push_cast, List.map_cons, List.map_nil, V.norm, norm1]; rfl) ?_
  have t1 := fun bs H => nl_run bs H n l hS hl hll
  simp only [encNetl, cellsNetl] at t1
  have hp : V.pureL (if runErrS n l = 0 then (stL n l l.length).map encInts else []) = true := by split; exact pureL_encInts _; rfl
  generalize (if runErrS n l = 0 then (stL n l l.length).map encInts else []) = a at t1 hp ⊢
  generalize (if runErrS n l = 0 then (trL n l l.length).map encInts else []) = b at t1
  generalize runErrS n l = e at t1 ⊢
  clear hS hll
  all_goals try (refine zs ?_; repeat' first | apply zs0 | apply zs2 | (intro hc; try have hq := dq hc))
end Go.E
