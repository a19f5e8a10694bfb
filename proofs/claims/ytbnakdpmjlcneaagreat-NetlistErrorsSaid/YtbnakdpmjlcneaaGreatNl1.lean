/- Contracts of chapter 22, in E: each. Own work. -/
import Derived.Test.YtbnakdpmjlcneaaGreatHnl
set_option linter.all false
namespace Go.E
open Go.Proofs
set_option maxRecDepth 100000
set_option maxHeartbeats 4000000

/-! each[api.Port], of values that encPort writes -/
theorem netlist_each_Port (bs : List Nat) (H : Heap) {S : Type} (HS : S → Heap) (fid : Nat) (caps : List V) (g : Nat → Port → S → Int × S) (l : List Port) (hl : l.length ≤ 1000000) (hf : Does X encPort HS fid caps g l) (s : S) (junk : Heap) (hH : Kp (H = HS s ++ junk)) (hsl : ∀ s t, (HS s).length = (HS t).length) : callw X bs 59 [.list (l.map encPort), .func fid caps] H = some (.tuple [.int .i64 (eachL g 0 l s).1.1, .int .i64 (eachL g 0 l s).1.2], HS (eachL g 0 l s).2 ++ junk) := by
  refine call_at (rs := [.tmp 4, .tmp 5]) (N := 25) (fn := Tryz.f59) xk59 xf59 rfl rfl rfl (by simp only [seval, push_cast, List.map_cons, List.map_nil, V.norm, norm1]; rfl) ?_
  have key : ∀ (R : (Int × Int) × S) (bs : List Nat) i ρ H', i ≤ l.length → (∃ s junk2, H' = HS s ++ (junk ++ junk2) ∧ ρ 1 = .func fid caps ∧ ρ 9 = .list (l.map encPort) ∧ ρ 10 = .int .i64 l.length ∧ ρ 11 = .int .i64 i ∧ Kp (eachL g i (l.drop i) s = R)) →
      Lp X ⟨25, bs⟩ (loopAt Tryz.f59 0) ρ H' fun ex ρ' H' => ∃ junk2, H' = HS R.2 ++ (junk ++ junk2) ∧ ((ex = .exit 0 ∧ R.1 = (0, 0)) ∨ (ex = .ret ∧ ρ' 4 = .int .i64 R.1.1 ∧ ρ' 5 = .int .i64 R.1.2)) := by
    intro R bs
    refine loop_up ?_ ?_
    · rintro i ρ H' hi ⟨s, junk2, hH2, h1, h9, h10, h11, hR⟩
      have hget : l[i]? = some l[i] := by simp [hi]
      generalize l[i] = x at hget
      have hw := add1 i l.length hi hl
      replace hR := hR.out
      rw [drop_cons hget, eachL] at hR
      replace hR : Kp ((if (g i x s).1 ≠ 0 then (((i : Int), (g i x s).1), (g i x s).2) else eachL g (i + 1) (l.drop (i + 1)) (g i x s).2) = R) := ⟨hR⟩
      have hcall := fun bs (y : List HObj) => hf bs i x s (junk ++ (junk2 ++ y)) hget
      have e1 : ∀ y : List HObj, HS s ++ (junk ++ (junk2 ++ y)) = H' ++ y := fun y => by rw [hH2]; simp
      simp only [e1, seval, push_cast] at hcall
      replace e1 : Kp (H' = HS s ++ (junk ++ junk2)) := ⟨hH2⟩
      clear hH2 hf hl
      have hcall0 := fun bs => hcall bs []
      simp only [List.append_nil] at hcall0
      conv => arg 3; whnf
      repeat' first
       | apply z1 | apply z2
       | apply z3 | apply z4 | apply z5 | apply z6 | apply z7 | apply z8 | apply z9 | apply z10 | apply z11 | apply z12 | apply z13 | apply z14 | apply z15 | apply z18 | apply z19 | apply z20 | apply z21 | apply z22 | apply z23 | (apply z16; rfl) | (apply z17; decide)
       | ((first | apply z30 | apply z31 | ((first | apply z32 | apply z33); (simp only [seval, push_cast, *] <;> fail))); (simp only [seval, push_cast, *]; with_reducible rfl); try exact of_decide_eq_true rfl)
       | ((first | apply z34 | apply z35); (simp only [seval, push_cast, *] <;> fail); try exact of_decide_eq_true rfl)
       | ((first | (apply z24; (simp only [seval, push_cast, *]; with_reducible rfl)) | (apply z36; (simp only [seval, push_cast, *]; (fail_if_success (show _ = some true)); (fail_if_success (show _ = some false)); with_reducible rfl))); all_goals (intro hc; (try simp only [Bool.not_eq_true', Bool.not_eq_false'] at hc); (try (exact absurd hc Bool.noConfusion)); (first | have hq := dle_true hc | have hq := dlt_true hc | have hq := dle_false hc | have hq := dlt_false hc | skip); (try (exfalso; simp only [decide_eq_true_eq, decide_eq_false_iff_not] at hc; first | omega | (have := hk.out; omega)))))
       | ((first | apply z40 | apply z41 | (apply z42; (simp only [seval, push_cast, *]; with_reducible rfl))); (simp only [seval, push_cast, *]; with_reducible rfl); all_goals (first | (simp only [seval, push_cast, *] <;> fail) | (simp only [seval, push_cast] <;> fail) | (rw [frz_pure rfl] <;> (simp [*] <;> fail))))
      · have hc : (g i x s).1 ≠ 0 := by simpa using hc
        rw [← hR.out, if_pos hc]
        exact ⟨_, by first | rfl | (simp only [List.append_assoc]; rfl), .inr ⟨rfl, by (first | (simp only [seval, push_cast, *]; done) | (simp only [seval, push_cast, *]; rfl)), by (first | (simp only [seval, push_cast, *]; done) | (simp only [seval, push_cast, *]; rfl))⟩⟩
      · have hc : (g i x s).1 = 0 := by simpa using hc
        exact ⟨_, _, by first | rfl | (simp only [List.append_assoc]; rfl), by (first | (simp only [seval, push_cast, *]; done) | (simp only [seval, push_cast, *]; rfl)), by (first | (simp only [seval, push_cast, *]; done) | (simp only [seval, push_cast, *]; rfl)), by (first | (simp only [seval, push_cast, *]; done) | (simp only [seval, push_cast, *]; rfl)), by (first | (simp only [seval, push_cast, *]; done) | (simp only [seval, push_cast, *]; rfl)), ⟨by rw [← hR.out, if_neg (by simp [hc])]⟩⟩
    · rintro ρ H' ⟨s, junk2, hH2, h1, h9, h10, h11, hR⟩
      replace hR := hR.out
      rw [List.drop_length, eachL] at hR
      clear hf
      conv => arg 3; whnf
      repeat' first
       | apply z1 | apply z2
       | apply z3 | apply z4 | apply z5 | apply z6 | apply z7 | apply z8 | apply z9 | apply z10 | apply z11 | apply z12 | apply z13 | apply z14 | apply z15 | apply z18 | apply z19 | apply z20 | apply z21 | apply z22 | apply z23 | (apply z16; rfl) | (apply z17; decide)
       | ((first | apply z30 | apply z31 | ((first | apply z32 | apply z33); (simp only [seval, push_cast, *] <;> fail))); (simp only [seval, push_cast, *]; with_reducible rfl); try exact of_decide_eq_true rfl)
       | ((first | apply z34 | apply z35); (simp only [seval, push_cast, *] <;> fail); try exact of_decide_eq_true rfl)
       | ((first | (apply z24; (simp only [seval, push_cast, *]; with_reducible rfl)) | (apply z36; (simp only [seval, push_cast, *]; (fail_if_success (show _ = some true)); (fail_if_success (show _ = some false)); with_reducible rfl))); all_goals (intro hc; (try simp only [Bool.not_eq_true', Bool.not_eq_false'] at hc); (try (exact absurd hc Bool.noConfusion)); (first | have hq := dle_true hc | have hq := dlt_true hc | have hq := dle_false hc | have hq := dlt_false hc | skip); (try (exfalso; simp only [decide_eq_true_eq, decide_eq_false_iff_not] at hc; first | omega | (have := hk.out; omega)))))
       | ((first | apply z40 | apply z41 | (apply z42; (simp only [seval, push_cast, *]; with_reducible rfl))); (simp only [seval, push_cast, *]; with_reducible rfl); all_goals (first | (simp only [seval, push_cast, *] <;> fail) | (simp only [seval, push_cast] <;> fail) | (rw [frz_pure rfl] <;> (simp [*] <;> fail))))
      rw [← hR]
      exact ⟨junk2, by simp, .inl ⟨rfl, rfl⟩⟩
  have key2 := fun bs ρ => key (eachL g 0 l s) bs 0 ρ H (by omega)
  clear hf
  repeat' first
   | apply z1 | apply z2
   | apply z3 | apply z4 | apply z5 | apply z6 | apply z7 | apply z8 | apply z9 | apply z10 | apply z11 | apply z12 | apply z13 | apply z14 | apply z15 | apply z18 | apply z19 | apply z20 | apply z21 | apply z22 | apply z23 | (apply z16; rfl) | (apply z17; decide)
   | ((first | apply z30 | apply z31 | ((first | apply z32 | apply z33); (simp only [seval, push_cast, *] <;> fail))); (simp only [seval, push_cast, *]; with_reducible rfl); try exact of_decide_eq_true rfl)
   | ((first | apply z34 | apply z35); (simp only [seval, push_cast, *] <;> fail); try exact of_decide_eq_true rfl)
   | ((first | (apply z24; (simp only [seval, push_cast, *]; with_reducible rfl)) | (apply z36; (simp only [seval, push_cast, *]; (fail_if_success (show _ = some true)); (fail_if_success (show _ = some false)); with_reducible rfl))); all_goals (intro hc; (try simp only [Bool.not_eq_true', Bool.not_eq_false'] at hc); (try (exact absurd hc Bool.noConfusion)); (first | have hq := dle_true hc | have hq := dlt_true hc | have hq := dle_false hc | have hq := dlt_false hc | skip); (try (exfalso; simp only [decide_eq_true_eq, decide_eq_false_iff_not] at hc; first | omega | (have := hk.out; omega)))))
   | ((first | apply z40 | apply z41 | (apply z42; (simp only [seval, push_cast, *]; with_reducible rfl))); (simp only [seval, push_cast, *]; with_reducible rfl); all_goals (first | (simp only [seval, push_cast, *] <;> fail) | (simp only [seval, push_cast] <;> fail) | (rw [frz_pure rfl] <;> (simp [*] <;> fail))))
  refine lp_then (lp_any (c := loopAt Tryz.f59 0) rfl (key2 _ _ ⟨s, [], by simp [hH.out], by (first | (simp only [seval, push_cast, *]; done) | (simp only [seval, push_cast, *]; rfl)), by (first | (simp only [seval, push_cast, *]; done) | (simp only [seval, push_cast, *]; rfl)), by (first | (simp only [seval, push_cast, *]; done) | (simp only [seval, push_cast, *]; rfl)), by (first | (simp only [seval, push_cast, *]; done) | (simp only [seval, push_cast, *]; rfl)), ⟨by simp⟩⟩)) ?_
  have hlen : ∀ t junk2, (HS t ++ (junk ++ junk2)).take H.length = HS t ++ junk := fun t junk2 => by
    rw [← List.append_assoc]; exact List.take_left' (by rw [hH.out]; simp [hsl t s])
  rintro ex ρ' H' ⟨junk2, rfl, ⟨rfl, h2⟩ | ⟨rfl, h2, h3⟩⟩ hf2
  · rw [h2]
    repeat' first
     | apply z1 | apply z2
     | apply z3 | apply z4 | apply z5 | apply z6 | apply z7 | apply z8 | apply z9 | apply z10 | apply z11 | apply z12 | apply z13 | apply z14 | apply z15 | apply z18 | apply z19 | apply z20 | apply z21 | apply z22 | apply z23 | (apply z16; rfl) | (apply z17; decide)
     | ((first | apply z30 | apply z31 | ((first | apply z32 | apply z33); (simp only [seval, push_cast, *] <;> fail))); (simp only [seval, push_cast, *]; with_reducible rfl); try exact of_decide_eq_true rfl)
     | ((first | apply z34 | apply z35); (simp only [seval, push_cast, *] <;> fail); try exact of_decide_eq_true rfl)
     | ((first | (apply z24; (simp only [seval, push_cast, *]; with_reducible rfl)) | (apply z36; (simp only [seval, push_cast, *]; (fail_if_success (show _ = some true)); (fail_if_success (show _ = some false)); with_reducible rfl))); all_goals (intro hc; (try simp only [Bool.not_eq_true', Bool.not_eq_false'] at hc); (try (exact absurd hc Bool.noConfusion)); (first | have hq := dle_true hc | have hq := dlt_true hc | have hq := dle_false hc | have hq := dlt_false hc | skip); (try (exfalso; simp only [decide_eq_true_eq, decide_eq_false_iff_not] at hc; first | omega | (have := hk.out; omega)))))
     | ((first | apply z40 | apply z41 | (apply z42; (simp only [seval, push_cast, *]; with_reducible rfl))); (simp only [seval, push_cast, *]; with_reducible rfl); all_goals (first | (simp only [seval, push_cast, *] <;> fail) | (simp only [seval, push_cast] <;> fail) | (rw [frz_pure rfl] <;> (simp [*] <;> fail))))
  · repeat' first
     | apply z1 | apply z2
     | apply z3 | apply z4 | apply z5 | apply z6 | apply z7 | apply z8 | apply z9 | apply z10 | apply z11 | apply z12 | apply z13 | apply z14 | apply z15 | apply z18 | apply z19 | apply z20 | apply z21 | apply z22 | apply z23 | (apply z16; rfl) | (apply z17; decide)
     | ((first | apply z30 | apply z31 | ((first | apply z32 | apply z33); (simp only [seval, push_cast, *] <;> fail))); (simp only [seval, push_cast, *]; with_reducible rfl); try exact of_decide_eq_true rfl)
     | ((first | apply z34 | apply z35); (simp only [seval, push_cast, *] <;> fail); try exact of_decide_eq_true rfl)
     | ((first | (apply z24; (simp only [seval, push_cast, *]; with_reducible rfl)) | (apply z36; (simp only [seval, push_cast, *]; (fail_if_success (show _ = some true)); (fail_if_success (show _ = some false)); with_reducible rfl))); all_goals (intro hc; (try simp only [Bool.not_eq_true', Bool.not_eq_false'] at hc); (try (exact absurd hc Bool.noConfusion)); (first | have hq := dle_true hc | have hq := dlt_true hc | have hq := dle_false hc | have hq := dlt_false hc | skip); (try (exfalso; simp only [decide_eq_true_eq, decide_eq_false_iff_not] at hc; first | omega | (have := hk.out; omega)))))
     | ((first | apply z40 | apply z41 | (apply z42; (simp only [seval, push_cast, *]; with_reducible rfl))); (simp only [seval, push_cast, *]; with_reducible rfl); all_goals (first | (simp only [seval, push_cast, *] <;> fail) | (simp only [seval, push_cast] <;> fail) | (rw [frz_pure rfl] <;> (simp [*] <;> fail))))
theorem netlist_each_Port_p (bs : List Nat) (H : Heap) (fid : Nat) (caps : List V) (g : Nat → Port → Int) (l : List Port) (hl : l.length ≤ 1000000) (hf : ∀ bs (i : Nat) x junk, l[i]? = some x → callw X bs fid (.int .i64 i :: encPort x :: caps) (H ++ junk) = some (.int .i64 (g i x), H ++ junk)) :
    callw X bs 59 [.list (l.map encPort), .func fid caps] H = some (.tuple [.int .i64 (eachP g 0 l).1, .int .i64 (eachP g 0 l).2], H) := by
  have := netlist_each_Port bs H (S := Unit) (fun _ => H) fid caps (fun i x u => (g i x, u)) l hl (fun bs i x _ junk h => hf bs i x junk h) () [] ⟨by simp⟩ (fun _ _ => rfl)
  rw [eachL_P] at this
  simpa using this

/-! each[api.NetRegister], of values that encReg writes -/
theorem netlist_each_Reg (bs : List Nat) (H : Heap) {S : Type} (HS : S → Heap) (fid : Nat) (caps : List V) (g : Nat → Reg → S → Int × S) (l : List Reg) (hl : l.length ≤ 1000000) (hf : Does X encReg HS fid caps g l) (s : S) (junk : Heap) (hH : Kp (H = HS s ++ junk)) (hsl : ∀ s t, (HS s).length = (HS t).length) : callw X bs 65 [.list (l.map encReg), .func fid caps] H = some (.tuple [.int .i64 (eachL g 0 l s).1.1, .int .i64 (eachL g 0 l s).1.2], HS (eachL g 0 l s).2 ++ junk) := by
  refine call_at (rs := [.tmp 4, .tmp 5]) (N := 25) (fn := Tryz.f65) xk65 xf65 rfl rfl rfl (by simp only [seval, push_cast, List.map_cons, List.map_nil, V.norm, norm1]; rfl) ?_
  have key : ∀ (R : (Int × Int) × S) (bs : List Nat) i ρ H', i ≤ l.length → (∃ s junk2, H' = HS s ++ (junk ++ junk2) ∧ ρ 1 = .func fid caps ∧ ρ 9 = .list (l.map encReg) ∧ ρ 10 = .int .i64 l.length ∧ ρ 11 = .int .i64 i ∧ Kp (eachL g i (l.drop i) s = R)) →
      Lp X ⟨25, bs⟩ (loopAt Tryz.f65 0) ρ H' fun ex ρ' H' => ∃ junk2, H' = HS R.2 ++ (junk ++ junk2) ∧ ((ex = .exit 0 ∧ R.1 = (0, 0)) ∨ (ex = .ret ∧ ρ' 4 = .int .i64 R.1.1 ∧ ρ' 5 = .int .i64 R.1.2)) := by
    intro R bs
    refine loop_up ?_ ?_
    · rintro i ρ H' hi ⟨s, junk2, hH2, h1, h9, h10, h11, hR⟩
      have hget : l[i]? = some l[i] := by simp [hi]
      generalize l[i] = x at hget
      have hw := add1 i l.length hi hl
      replace hR := hR.out
      rw [drop_cons hget, eachL] at hR
      replace hR : Kp ((if (g i x s).1 ≠ 0 then (((i : Int), (g i x s).1), (g i x s).2) else eachL g (i + 1) (l.drop (i + 1)) (g i x s).2) = R) := ⟨hR⟩
      have hcall := fun bs (y : List HObj) => hf bs i x s (junk ++ (junk2 ++ y)) hget
      have e1 : ∀ y : List HObj, HS s ++ (junk ++ (junk2 ++ y)) = H' ++ y := fun y => by rw [hH2]; simp
      simp only [e1, seval, push_cast] at hcall
      replace e1 : Kp (H' = HS s ++ (junk ++ junk2)) := ⟨hH2⟩
      clear hH2 hf hl
      have hcall0 := fun bs => hcall bs []
      simp only [List.append_nil] at hcall0
      conv => arg 3; whnf
      repeat' first
       | apply z1 | apply z2
       | apply z3 | apply z4 | apply z5 | apply z6 | apply z7 | apply z8 | apply z9 | apply z10 | apply z11 | apply z12 | apply z13 | apply z14 | apply z15 | apply z18 | apply z19 | apply z20 | apply z21 | apply z22 | apply z23 | (apply z16; rfl) | (apply z17; decide)
       | ((first | apply z30 | apply z31 | ((first | apply z32 | apply z33); (simp only [seval, push_cast, *] <;> fail))); (simp only [seval, push_cast, *]; with_reducible rfl); try exact of_decide_eq_true rfl)
       | ((first | apply z34 | apply z35); (simp only [seval, push_cast, *] <;> fail); try exact of_decide_eq_true rfl)
       | ((first | (apply z24; (simp only [seval, push_cast, *]; with_reducible rfl)) | (apply z36; (simp only [seval, push_cast, *]; (fail_if_success (show _ = some true)); (fail_if_success (show _ = some false)); with_reducible rfl))); all_goals (intro hc; (try simp only [Bool.not_eq_true', Bool.not_eq_false'] at hc); (try (exact absurd hc Bool.noConfusion)); (first | have hq := dle_true hc | have hq := dlt_true hc | have hq := dle_false hc | have hq := dlt_false hc | skip); (try (exfalso; simp only [decide_eq_true_eq, decide_eq_false_iff_not] at hc; first | omega | (have := hk.out; omega)))))
       | ((first | apply z40 | apply z41 | (apply z42; (simp only [seval, push_cast, *]; with_reducible rfl))); (simp only [seval, push_cast, *]; with_reducible rfl); all_goals (first | (simp only [seval, push_cast, *] <;> fail) | (simp only [seval, push_cast] <;> fail) | (rw [frz_pure rfl] <;> (simp [*] <;> fail))))
      · have hc : (g i x s).1 ≠ 0 := by simpa using hc
        rw [← hR.out, if_pos hc]
        exact ⟨_, by first | rfl | (simp only [List.append_assoc]; rfl), .inr ⟨rfl, by (first | (simp only [seval, push_cast, *]; done) | (simp only [seval, push_cast, *]; rfl)), by (first | (simp only [seval, push_cast, *]; done) | (simp only [seval, push_cast, *]; rfl))⟩⟩
      · have hc : (g i x s).1 = 0 := by simpa using hc
        exact ⟨_, _, by first | rfl | (simp only [List.append_assoc]; rfl), by (first | (simp only [seval, push_cast, *]; done) | (simp only [seval, push_cast, *]; rfl)), by (first | (simp only [seval, push_cast, *]; done) | (simp only [seval, push_cast, *]; rfl)), by (first | (simp only [seval, push_cast, *]; done) | (simp only [seval, push_cast, *]; rfl)), by (first | (simp only [seval, push_cast, *]; done) | (simp only [seval, push_cast, *]; rfl)), ⟨by rw [← hR.out, if_neg (by simp [hc])]⟩⟩
    · rintro ρ H' ⟨s, junk2, hH2, h1, h9, h10, h11, hR⟩
      replace hR := hR.out
      rw [List.drop_length, eachL] at hR
      clear hf
      conv => arg 3; whnf
      repeat' first
       | apply z1 | apply z2
       | apply z3 | apply z4 | apply z5 | apply z6 | apply z7 | apply z8 | apply z9 | apply z10 | apply z11 | apply z12 | apply z13 | apply z14 | apply z15 | apply z18 | apply z19 | apply z20 | apply z21 | apply z22 | apply z23 | (apply z16; rfl) | (apply z17; decide)
       | ((first | apply z30 | apply z31 | ((first | apply z32 | apply z33); (simp only [seval, push_cast, *] <;> fail))); (simp only [seval, push_cast, *]; with_reducible rfl); try exact of_decide_eq_true rfl)
       | ((first | apply z34 | apply z35); (simp only [seval, push_cast, *] <;> fail); try exact of_decide_eq_true rfl)
       | ((first | (apply z24; (simp only [seval, push_cast, *]; with_reducible rfl)) | (apply z36; (simp only [seval, push_cast, *]; (fail_if_success (show _ = some true)); (fail_if_success (show _ = some false)); with_reducible rfl))); all_goals (intro hc; (try simp only [Bool.not_eq_true', Bool.not_eq_false'] at hc); (try (exact absurd hc Bool.noConfusion)); (first | have hq := dle_true hc | have hq := dlt_true hc | have hq := dle_false hc | have hq := dlt_false hc | skip); (try (exfalso; simp only [decide_eq_true_eq, decide_eq_false_iff_not] at hc; first | omega | (have := hk.out; omega)))))
       | ((first | apply z40 | apply z41 | (apply z42; (simp only [seval, push_cast, *]; with_reducible rfl))); (simp only [seval, push_cast, *]; with_reducible rfl); all_goals (first | (simp only [seval, push_cast, *] <;> fail) | (simp only [seval, push_cast] <;> fail) | (rw [frz_pure rfl] <;> (simp [*] <;> fail))))
      rw [← hR]
      exact ⟨junk2, by simp, .inl ⟨rfl, rfl⟩⟩
  have key2 := fun bs ρ => key (eachL g 0 l s) bs 0 ρ H (by omega)
  clear hf
  repeat' first
   | apply z1 | apply z2
   | apply z3 | apply z4 | apply z5 | apply z6 | apply z7 | apply z8 | apply z9 | apply z10 | apply z11 | apply z12 | apply z13 | apply z14 | apply z15 | apply z18 | apply z19 | apply z20 | apply z21 | apply z22 | apply z23 | (apply z16; rfl) | (apply z17; decide)
   | ((first | apply z30 | apply z31 | ((first | apply z32 | apply z33); (simp only [seval, push_cast, *] <;> fail))); (simp only [seval, push_cast, *]; with_reducible rfl); try exact of_decide_eq_true rfl)
   | ((first | apply z34 | apply z35); (simp only [seval, push_cast, *] <;> fail); try exact of_decide_eq_true rfl)
   | ((first | (apply z24; (simp only [seval, push_cast, *]; with_reducible rfl)) | (apply z36; (simp only [seval, push_cast, *]; (fail_if_success (show _ = some true)); (fail_if_success (show _ = some false)); with_reducible rfl))); all_goals (intro hc; (try simp only [Bool.not_eq_true', Bool.not_eq_false'] at hc); (try (exact absurd hc Bool.noConfusion)); (first | have hq := dle_true hc | have hq := dlt_true hc | have hq := dle_false hc | have hq := dlt_false hc | skip); (try (exfalso; simp only [decide_eq_true_eq, decide_eq_false_iff_not] at hc; first | omega | (have := hk.out; omega)))))
   | ((first | apply z40 | apply z41 | (apply z42; (simp only [seval, push_cast, *]; with_reducible rfl))); (simp only [seval, push_cast, *]; with_reducible rfl); all_goals (first | (simp only [seval, push_cast, *] <;> fail) | (simp only [seval, push_cast] <;> fail) | (rw [frz_pure rfl] <;> (simp [*] <;> fail))))
  refine lp_then (lp_any (c := loopAt Tryz.f65 0) rfl (key2 _ _ ⟨s, [], by simp [hH.out], by (first | (simp only [seval, push_cast, *]; done) | (simp only [seval, push_cast, *]; rfl)), by (first | (simp only [seval, push_cast, *]; done) | (simp only [seval, push_cast, *]; rfl)), by (first | (simp only [seval, push_cast, *]; done) | (simp only [seval, push_cast, *]; rfl)), by (first | (simp only [seval, push_cast, *]; done) | (simp only [seval, push_cast, *]; rfl)), ⟨by simp⟩⟩)) ?_
  have hlen : ∀ t junk2, (HS t ++ (junk ++ junk2)).take H.length = HS t ++ junk := fun t junk2 => by
    rw [← List.append_assoc]; exact List.take_left' (by rw [hH.out]; simp [hsl t s])
  rintro ex ρ' H' ⟨junk2, rfl, ⟨rfl, h2⟩ | ⟨rfl, h2, h3⟩⟩ hf2
  · rw [h2]
    repeat' first
     | apply z1 | apply z2
     | apply z3 | apply z4 | apply z5 | apply z6 | apply z7 | apply z8 | apply z9 | apply z10 | apply z11 | apply z12 | apply z13 | apply z14 | apply z15 | apply z18 | apply z19 | apply z20 | apply z21 | apply z22 | apply z23 | (apply z16; rfl) | (apply z17; decide)
     | ((first | apply z30 | apply z31 | ((first | apply z32 | apply z33); (simp only [seval, push_cast, *] <;> fail))); (simp only [seval, push_cast, *]; with_reducible rfl); try exact of_decide_eq_true rfl)
     | ((first | apply z34 | apply z35); (simp only [seval, push_cast, *] <;> fail); try exact of_decide_eq_true rfl)
     | ((first | (apply z24; (simp only [seval, push_cast, *]; with_reducible rfl)) | (apply z36; (simp only [seval, push_cast, *]; (fail_if_success (show _ = some true)); (fail_if_success (show _ = some false)); with_reducible rfl))); all_goals (intro hc; (try simp only [Bool.not_eq_true', Bool.not_eq_false'] at hc); (try (exact absurd hc Bool.noConfusion)); (first | have hq := dle_true hc | have hq := dlt_true hc | have hq := dle_false hc | have hq := dlt_false hc | skip); (try (exfalso; simp only [decide_eq_true_eq, decide_eq_false_iff_not] at hc; first | omega | (have := hk.out; omega)))))
     | ((first | apply z40 | apply z41 | (apply z42; (simp only [seval, push_cast, *]; with_reducible rfl))); (simp only [seval, push_cast, *]; with_reducible rfl); all_goals (first | (simp only [seval, push_cast, *] <;> fail) | (simp only [seval, push_cast] <;> fail) | (rw [frz_pure rfl] <;> (simp [*] <;> fail))))
  · repeat' first
     | apply z1 | apply z2
     | apply z3 | apply z4 | apply z5 | apply z6 | apply z7 | apply z8 | apply z9 | apply z10 | apply z11 | apply z12 | apply z13 | apply z14 | apply z15 | apply z18 | apply z19 | apply z20 | apply z21 | apply z22 | apply z23 | (apply z16; rfl) | (apply z17; decide)
     | ((first | apply z30 | apply z31 | ((first | apply z32 | apply z33); (simp only [seval, push_cast, *] <;> fail))); (simp only [seval, push_cast, *]; with_reducible rfl); try exact of_decide_eq_true rfl)
     | ((first | apply z34 | apply z35); (simp only [seval, push_cast, *] <;> fail); try exact of_decide_eq_true rfl)
     | ((first | (apply z24; (simp only [seval, push_cast, *]; with_reducible rfl)) | (apply z36; (simp only [seval, push_cast, *]; (fail_if_success (show _ = some true)); (fail_if_success (show _ = some false)); with_reducible rfl))); all_goals (intro hc; (try simp only [Bool.not_eq_true', Bool.not_eq_false'] at hc); (try (exact absurd hc Bool.noConfusion)); (first | have hq := dle_true hc | have hq := dlt_true hc | have hq := dle_false hc | have hq := dlt_false hc | skip); (try (exfalso; simp only [decide_eq_true_eq, decide_eq_false_iff_not] at hc; first | omega | (have := hk.out; omega)))))
     | ((first | apply z40 | apply z41 | (apply z42; (simp only [seval, push_cast, *]; with_reducible rfl))); (simp only [seval, push_cast, *]; with_reducible rfl); all_goals (first | (simp only [seval, push_cast, *] <;> fail) | (simp only [seval, push_cast] <;> fail) | (rw [frz_pure rfl] <;> (simp [*] <;> fail))))
theorem netlist_each_Reg_p (bs : List Nat) (H : Heap) (fid : Nat) (caps : List V) (g : Nat → Reg → Int) (l : List Reg) (hl : l.length ≤ 1000000) (hf : ∀ bs (i : Nat) x junk, l[i]? = some x → callw X bs fid (.int .i64 i :: encReg x :: caps) (H ++ junk) = some (.int .i64 (g i x), H ++ junk)) :
    callw X bs 65 [.list (l.map encReg), .func fid caps] H = some (.tuple [.int .i64 (eachP g 0 l).1, .int .i64 (eachP g 0 l).2], H) := by
  have := netlist_each_Reg bs H (S := Unit) (fun _ => H) fid caps (fun i x u => (g i x, u)) l hl (fun bs i x _ junk h => hf bs i x junk h) () [] ⟨by simp⟩ (fun _ _ => rfl)
  rw [eachL_P] at this
  simpa using this

/-! each[api.Output], of values that encOutp writes -/
theorem netlist_each_Outp (bs : List Nat) (H : Heap) {S : Type} (HS : S → Heap) (fid : Nat) (caps : List V) (g : Nat → Outp → S → Int × S) (l : List Outp) (hl : l.length ≤ 1000000) (hf : Does X encOutp HS fid caps g l) (s : S) (junk : Heap) (hH : Kp (H = HS s ++ junk)) (hsl : ∀ s t, (HS s).length = (HS t).length) : callw X bs 75 [.list (l.map encOutp), .func fid caps] H = some (.tuple [.int .i64 (eachL g 0 l s).1.1, .int .i64 (eachL g 0 l s).1.2], HS (eachL g 0 l s).2 ++ junk) := by
  refine call_at (rs := [.tmp 4, .tmp 5]) (N := 25) (fn := Tryz.f75) xk75 xf75 rfl rfl rfl (by simp only [seval, push_cast, List.map_cons, List.map_nil, V.norm, norm1]; rfl) ?_
  have key : ∀ (R : (Int × Int) × S) (bs : List Nat) i ρ H', i ≤ l.length → (∃ s junk2, H' = HS s ++ (junk ++ junk2) ∧ ρ 1 = .func fid caps ∧ ρ 9 = .list (l.map encOutp) ∧ ρ 10 = .int .i64 l.length ∧ ρ 11 = .int .i64 i ∧ Kp (eachL g i (l.drop i) s = R)) →
      Lp X ⟨25, bs⟩ (loopAt Tryz.f75 0) ρ H' fun ex ρ' H' => ∃ junk2, H' = HS R.2 ++ (junk ++ junk2) ∧ ((ex = .exit 0 ∧ R.1 = (0, 0)) ∨ (ex = .ret ∧ ρ' 4 = .int .i64 R.1.1 ∧ ρ' 5 = .int .i64 R.1.2)) := by
    intro R bs
    refine loop_up ?_ ?_
    · rintro i ρ H' hi ⟨s, junk2, hH2, h1, h9, h10, h11, hR⟩
      have hget : l[i]? = some l[i] := by simp [hi]
      generalize l[i] = x at hget
      have hw := add1 i l.length hi hl
      replace hR := hR.out
      rw [drop_cons hget, eachL] at hR
      replace hR : Kp ((if (g i x s).1 ≠ 0 then (((i : Int), (g i x s).1), (g i x s).2) else eachL g (i + 1) (l.drop (i + 1)) (g i x s).2) = R) := ⟨hR⟩
      have hcall := fun bs (y : List HObj) => hf bs i x s (junk ++ (junk2 ++ y)) hget
      have e1 : ∀ y : List HObj, HS s ++ (junk ++ (junk2 ++ y)) = H' ++ y := fun y => by rw [hH2]; simp
      simp only [e1, seval, push_cast] at hcall
      replace e1 : Kp (H' = HS s ++ (junk ++ junk2)) := ⟨hH2⟩
      clear hH2 hf hl
      have hcall0 := fun bs => hcall bs []
      simp only [List.append_nil] at hcall0
      conv => arg 3; whnf
      repeat' first
       | apply z1 | apply z2
       | apply z3 | apply z4 | apply z5 | apply z6 | apply z7 | apply z8 | apply z9 | apply z10 | apply z11 | apply z12 | apply z13 | apply z14 | apply z15 | apply z18 | apply z19 | apply z20 | apply z21 | apply z22 | apply z23 | (apply z16; rfl) | (apply z17; decide)
       | ((first | apply z30 | apply z31 | ((first | apply z32 | apply z33); (simp only [seval, push_cast, *] <;> fail))); (simp only [seval, push_cast, *]; with_reducible rfl); try exact of_decide_eq_true rfl)
       | ((first | apply z34 | apply z35); (simp only [seval, push_cast, *] <;> fail); try exact of_decide_eq_true rfl)
       | ((first | (apply z24; (simp only [seval, push_cast, *]; with_reducible rfl)) | (apply z36; (simp only [seval, push_cast, *]; (fail_if_success (show _ = some true)); (fail_if_success (show _ = some false)); with_reducible rfl))); all_goals (intro hc; (try simp only [Bool.not_eq_true', Bool.not_eq_false'] at hc); (try (exact absurd hc Bool.noConfusion)); (first | have hq := dle_true hc | have hq := dlt_true hc | have hq := dle_false hc | have hq := dlt_false hc | skip); (try (exfalso; simp only [decide_eq_true_eq, decide_eq_false_iff_not] at hc; first | omega | (have := hk.out; omega)))))
       | ((first | apply z40 | apply z41 | (apply z42; (simp only [seval, push_cast, *]; with_reducible rfl))); (simp only [seval, push_cast, *]; with_reducible rfl); all_goals (first | (simp only [seval, push_cast, *] <;> fail) | (simp only [seval, push_cast] <;> fail) | (rw [frz_pure rfl] <;> (simp [*] <;> fail))))
      · have hc : (g i x s).1 ≠ 0 := by simpa using hc
        rw [← hR.out, if_pos hc]
        exact ⟨_, by first | rfl | (simp only [List.append_assoc]; rfl), .inr ⟨rfl, by (first | (simp only [seval, push_cast, *]; done) | (simp only [seval, push_cast, *]; rfl)), by (first | (simp only [seval, push_cast, *]; done) | (simp only [seval, push_cast, *]; rfl))⟩⟩
      · have hc : (g i x s).1 = 0 := by simpa using hc
        exact ⟨_, _, by first | rfl | (simp only [List.append_assoc]; rfl), by (first | (simp only [seval, push_cast, *]; done) | (simp only [seval, push_cast, *]; rfl)), by (first | (simp only [seval, push_cast, *]; done) | (simp only [seval, push_cast, *]; rfl)), by (first | (simp only [seval, push_cast, *]; done) | (simp only [seval, push_cast, *]; rfl)), by (first | (simp only [seval, push_cast, *]; done) | (simp only [seval, push_cast, *]; rfl)), ⟨by rw [← hR.out, if_neg (by simp [hc])]⟩⟩
    · rintro ρ H' ⟨s, junk2, hH2, h1, h9, h10, h11, hR⟩
      replace hR := hR.out
      rw [List.drop_length, eachL] at hR
      clear hf
      conv => arg 3; whnf
      repeat' first
       | apply z1 | apply z2
       | apply z3 | apply z4 | apply z5 | apply z6 | apply z7 | apply z8 | apply z9 | apply z10 | apply z11 | apply z12 | apply z13 | apply z14 | apply z15 | apply z18 | apply z19 | apply z20 | apply z21 | apply z22 | apply z23 | (apply z16; rfl) | (apply z17; decide)
       | ((first | apply z30 | apply z31 | ((first | apply z32 | apply z33); (simp only [seval, push_cast, *] <;> fail))); (simp only [seval, push_cast, *]; with_reducible rfl); try exact of_decide_eq_true rfl)
       | ((first | apply z34 | apply z35); (simp only [seval, push_cast, *] <;> fail); try exact of_decide_eq_true rfl)
       | ((first | (apply z24; (simp only [seval, push_cast, *]; with_reducible rfl)) | (apply z36; (simp only [seval, push_cast, *]; (fail_if_success (show _ = some true)); (fail_if_success (show _ = some false)); with_reducible rfl))); all_goals (intro hc; (try simp only [Bool.not_eq_true', Bool.not_eq_false'] at hc); (try (exact absurd hc Bool.noConfusion)); (first | have hq := dle_true hc | have hq := dlt_true hc | have hq := dle_false hc | have hq := dlt_false hc | skip); (try (exfalso; simp only [decide_eq_true_eq, decide_eq_false_iff_not] at hc; first | omega | (have := hk.out; omega)))))
       | ((first | apply z40 | apply z41 | (apply z42; (simp only [seval, push_cast, *]; with_reducible rfl))); (simp only [seval, push_cast, *]; with_reducible rfl); all_goals (first | (simp only [seval, push_cast, *] <;> fail) | (simp only [seval, push_cast] <;> fail) | (rw [frz_pure rfl] <;> (simp [*] <;> fail))))
      rw [← hR]
      exact ⟨junk2, by simp, .inl ⟨rfl, rfl⟩⟩
  have key2 := fun bs ρ => key (eachL g 0 l s) bs 0 ρ H (by omega)
  clear hf
  repeat' first
   | apply z1 | apply z2
   | apply z3 | apply z4 | apply z5 | apply z6 | apply z7 | apply z8 | apply z9 | apply z10 | apply z11 | apply z12 | apply z13 | apply z14 | apply z15 | apply z18 | apply z19 | apply z20 | apply z21 | apply z22 | apply z23 | (apply z16; rfl) | (apply z17; decide)
   | ((first | apply z30 | apply z31 | ((first | apply z32 | apply z33); (simp only [seval, push_cast, *] <;> fail))); (simp only [seval, push_cast, *]; with_reducible rfl); try exact of_decide_eq_true rfl)
   | ((first | apply z34 | apply z35); (simp only [seval, push_cast, *] <;> fail); try exact of_decide_eq_true rfl)
   | ((first | (apply z24; (simp only [seval, push_cast, *]; with_reducible rfl)) | (apply z36; (simp only [seval, push_cast, *]; (fail_if_success (show _ = some true)); (fail_if_success (show _ = some false)); with_reducible rfl))); all_goals (intro hc; (try simp only [Bool.not_eq_true', Bool.not_eq_false'] at hc); (try (exact absurd hc Bool.noConfusion)); (first | have hq := dle_true hc | have hq := dlt_true hc | have hq := dle_false hc | have hq := dlt_false hc | skip); (try (exfalso; simp only [decide_eq_true_eq, decide_eq_false_iff_not] at hc; first | omega | (have := hk.out; omega)))))
   | ((first | apply z40 | apply z41 | (apply z42; (simp only [seval, push_cast, *]; with_reducible rfl))); (simp only [seval, push_cast, *]; with_reducible rfl); all_goals (first | (simp only [seval, push_cast, *] <;> fail) | (simp only [seval, push_cast] <;> fail) | (rw [frz_pure rfl] <;> (simp [*] <;> fail))))
  refine lp_then (lp_any (c := loopAt Tryz.f75 0) rfl (key2 _ _ ⟨s, [], by simp [hH.out], by (first | (simp only [seval, push_cast, *]; done) | (simp only [seval, push_cast, *]; rfl)), by (first | (simp only [seval, push_cast, *]; done) | (simp only [seval, push_cast, *]; rfl)), by (first | (simp only [seval, push_cast, *]; done) | (simp only [seval, push_cast, *]; rfl)), by (first | (simp only [seval, push_cast, *]; done) | (simp only [seval, push_cast, *]; rfl)), ⟨by simp⟩⟩)) ?_
  have hlen : ∀ t junk2, (HS t ++ (junk ++ junk2)).take H.length = HS t ++ junk := fun t junk2 => by
    rw [← List.append_assoc]; exact List.take_left' (by rw [hH.out]; simp [hsl t s])
  rintro ex ρ' H' ⟨junk2, rfl, ⟨rfl, h2⟩ | ⟨rfl, h2, h3⟩⟩ hf2
  · rw [h2]
    repeat' first
     | apply z1 | apply z2
     | apply z3 | apply z4 | apply z5 | apply z6 | apply z7 | apply z8 | apply z9 | apply z10 | apply z11 | apply z12 | apply z13 | apply z14 | apply z15 | apply z18 | apply z19 | apply z20 | apply z21 | apply z22 | apply z23 | (apply z16; rfl) | (apply z17; decide)
     | ((first | apply z30 | apply z31 | ((first | apply z32 | apply z33); (simp only [seval, push_cast, *] <;> fail))); (simp only [seval, push_cast, *]; with_reducible rfl); try exact of_decide_eq_true rfl)
     | ((first | apply z34 | apply z35); (simp only [seval, push_cast, *] <;> fail); try exact of_decide_eq_true rfl)
     | ((first | (apply z24; (simp only [seval, push_cast, *]; with_reducible rfl)) | (apply z36; (simp only [seval, push_cast, *]; (fail_if_success (show _ = some true)); (fail_if_success (show _ = some false)); with_reducible rfl))); all_goals (intro hc; (try simp only [Bool.not_eq_true', Bool.not_eq_false'] at hc); (try (exact absurd hc Bool.noConfusion)); (first | have hq := dle_true hc | have hq := dlt_true hc | have hq := dle_false hc | have hq := dlt_false hc | skip); (try (exfalso; simp only [decide_eq_true_eq, decide_eq_false_iff_not] at hc; first | omega | (have := hk.out; omega)))))
     | ((first | apply z40 | apply z41 | (apply z42; (simp only [seval, push_cast, *]; with_reducible rfl))); (simp only [seval, push_cast, *]; with_reducible rfl); all_goals (first | (simp only [seval, push_cast, *] <;> fail) | (simp only [seval, push_cast] <;> fail) | (rw [frz_pure rfl] <;> (simp [*] <;> fail))))
  · repeat' first
     | apply z1 | apply z2
     | apply z3 | apply z4 | apply z5 | apply z6 | apply z7 | apply z8 | apply z9 | apply z10 | apply z11 | apply z12 | apply z13 | apply z14 | apply z15 | apply z18 | apply z19 | apply z20 | apply z21 | apply z22 | apply z23 | (apply z16; rfl) | (apply z17; decide)
     | ((first | apply z30 | apply z31 | ((first | apply z32 | apply z33); (simp only [seval, push_cast, *] <;> fail))); (simp only [seval, push_cast, *]; with_reducible rfl); try exact of_decide_eq_true rfl)
     | ((first | apply z34 | apply z35); (simp only [seval, push_cast, *] <;> fail); try exact of_decide_eq_true rfl)
     | ((first | (apply z24; (simp only [seval, push_cast, *]; with_reducible rfl)) | (apply z36; (simp only [seval, push_cast, *]; (fail_if_success (show _ = some true)); (fail_if_success (show _ = some false)); with_reducible rfl))); all_goals (intro hc; (try simp only [Bool.not_eq_true', Bool.not_eq_false'] at hc); (try (exact absurd hc Bool.noConfusion)); (first | have hq := dle_true hc | have hq := dlt_true hc | have hq := dle_false hc | have hq := dlt_false hc | skip); (try (exfalso; simp only [decide_eq_true_eq, decide_eq_false_iff_not] at hc; first | omega | (have := hk.out; omega)))))
     | ((first | apply z40 | apply z41 | (apply z42; (simp only [seval, push_cast, *]; with_reducible rfl))); (simp only [seval, push_cast, *]; with_reducible rfl); all_goals (first | (simp only [seval, push_cast, *] <;> fail) | (simp only [seval, push_cast] <;> fail) | (rw [frz_pure rfl] <;> (simp [*] <;> fail))))
theorem netlist_each_Outp_p (bs : List Nat) (H : Heap) (fid : Nat) (caps : List V) (g : Nat → Outp → Int) (l : List Outp) (hl : l.length ≤ 1000000) (hf : ∀ bs (i : Nat) x junk, l[i]? = some x → callw X bs fid (.int .i64 i :: encOutp x :: caps) (H ++ junk) = some (.int .i64 (g i x), H ++ junk)) :
    callw X bs 75 [.list (l.map encOutp), .func fid caps] H = some (.tuple [.int .i64 (eachP g 0 l).1, .int .i64 (eachP g 0 l).2], H) := by
  have := netlist_each_Outp bs H (S := Unit) (fun _ => H) fid caps (fun i x u => (g i x, u)) l hl (fun bs i x _ junk h => hf bs i x junk h) () [] ⟨by simp⟩ (fun _ _ => rfl)
  rw [eachL_P] at this
  simpa using this

/-! each[int], of values that encInt writes -/
theorem netlist_each_Int (bs : List Nat) (H : Heap) {S : Type} (HS : S → Heap) (fid : Nat) (caps : List V) (g : Nat → Int → S → Int × S) (l : List Int) (hl : l.length ≤ 1000000) (hf : Does X encInt HS fid caps g l) (s : S) (junk : Heap) (hH : Kp (H = HS s ++ junk)) (hsl : ∀ s t, (HS s).length = (HS t).length) : callw X bs 200 [.list (l.map encInt), .func fid caps] H = some (.tuple [.int .i64 (eachL g 0 l s).1.1, .int .i64 (eachL g 0 l s).1.2], HS (eachL g 0 l s).2 ++ junk) := by
  refine call_at (rs := [.tmp 4, .tmp 5]) (N := 25) (fn := Tryz.f200) xk200 xf200 rfl rfl rfl (by simp only [seval, push_cast, List.map_cons, List.map_nil, V.norm, norm1]; rfl) ?_
  have key : ∀ (R : (Int × Int) × S) (bs : List Nat) i ρ H', i ≤ l.length → (∃ s junk2, H' = HS s ++ (junk ++ junk2) ∧ ρ 1 = .func fid caps ∧ ρ 9 = .list (l.map encInt) ∧ ρ 10 = .int .i64 l.length ∧ ρ 11 = .int .i64 i ∧ Kp (eachL g i (l.drop i) s = R)) →
      Lp X ⟨25, bs⟩ (loopAt Tryz.f200 0) ρ H' fun ex ρ' H' => ∃ junk2, H' = HS R.2 ++ (junk ++ junk2) ∧ ((ex = .exit 0 ∧ R.1 = (0, 0)) ∨ (ex = .ret ∧ ρ' 4 = .int .i64 R.1.1 ∧ ρ' 5 = .int .i64 R.1.2)) := by
    intro R bs
    refine loop_up ?_ ?_
    · rintro i ρ H' hi ⟨s, junk2, hH2, h1, h9, h10, h11, hR⟩
      have hget : l[i]? = some l[i] := by simp [hi]
      generalize l[i] = x at hget
      have hw := add1 i l.length hi hl
      replace hR := hR.out
      rw [drop_cons hget, eachL] at hR
      replace hR : Kp ((if (g i x s).1 ≠ 0 then (((i : Int), (g i x s).1), (g i x s).2) else eachL g (i + 1) (l.drop (i + 1)) (g i x s).2) = R) := ⟨hR⟩
      have hcall := fun bs (y : List HObj) => hf bs i x s (junk ++ (junk2 ++ y)) hget
      have e1 : ∀ y : List HObj, HS s ++ (junk ++ (junk2 ++ y)) = H' ++ y := fun y => by rw [hH2]; simp
      simp only [e1, seval, push_cast] at hcall
      replace e1 : Kp (H' = HS s ++ (junk ++ junk2)) := ⟨hH2⟩
      clear hH2 hf hl
      have hcall0 := fun bs => hcall bs []
      simp only [List.append_nil] at hcall0
      conv => arg 3; whnf
      repeat' first
       | apply z1 | apply z2
       | apply z3 | apply z4 | apply z5 | apply z6 | apply z7 | apply z8 | apply z9 | apply z10 | apply z11 | apply z12 | apply z13 | apply z14 | apply z15 | apply z18 | apply z19 | apply z20 | apply z21 | apply z22 | apply z23 | (apply z16; rfl) | (apply z17; decide)
       | ((first | apply z30 | apply z31 | ((first | apply z32 | apply z33); (simp only [seval, push_cast, *] <;> fail))); (simp only [seval, push_cast, *]; with_reducible rfl); try exact of_decide_eq_true rfl)
       | ((first | apply z34 | apply z35); (simp only [seval, push_cast, *] <;> fail); try exact of_decide_eq_true rfl)
       | ((first | (apply z24; (simp only [seval, push_cast, *]; with_reducible rfl)) | (apply z36; (simp only [seval, push_cast, *]; (fail_if_success (show _ = some true)); (fail_if_success (show _ = some false)); with_reducible rfl))); all_goals (intro hc; (try simp only [Bool.not_eq_true', Bool.not_eq_false'] at hc); (try (exact absurd hc Bool.noConfusion)); (first | have hq := dle_true hc | have hq := dlt_true hc | have hq := dle_false hc | have hq := dlt_false hc | skip); (try (exfalso; simp only [decide_eq_true_eq, decide_eq_false_iff_not] at hc; first | omega | (have := hk.out; omega)))))
       | ((first | apply z40 | apply z41 | (apply z42; (simp only [seval, push_cast, *]; with_reducible rfl))); (simp only [seval, push_cast, *]; with_reducible rfl); all_goals (first | (simp only [seval, push_cast, *] <;> fail) | (simp only [seval, push_cast] <;> fail) | (rw [frz_pure rfl] <;> (simp [*] <;> fail))))
      · have hc : (g i x s).1 ≠ 0 := by simpa using hc
        rw [← hR.out, if_pos hc]
        exact ⟨_, by first | rfl | (simp only [List.append_assoc]; rfl), .inr ⟨rfl, by (first | (simp only [seval, push_cast, *]; done) | (simp only [seval, push_cast, *]; rfl)), by (first | (simp only [seval, push_cast, *]; done) | (simp only [seval, push_cast, *]; rfl))⟩⟩
      · have hc : (g i x s).1 = 0 := by simpa using hc
        exact ⟨_, _, by first | rfl | (simp only [List.append_assoc]; rfl), by (first | (simp only [seval, push_cast, *]; done) | (simp only [seval, push_cast, *]; rfl)), by (first | (simp only [seval, push_cast, *]; done) | (simp only [seval, push_cast, *]; rfl)), by (first | (simp only [seval, push_cast, *]; done) | (simp only [seval, push_cast, *]; rfl)), by (first | (simp only [seval, push_cast, *]; done) | (simp only [seval, push_cast, *]; rfl)), ⟨by rw [← hR.out, if_neg (by simp [hc])]⟩⟩
    · rintro ρ H' ⟨s, junk2, hH2, h1, h9, h10, h11, hR⟩
      replace hR := hR.out
      rw [List.drop_length, eachL] at hR
      clear hf
      conv => arg 3; whnf
      repeat' first
       | apply z1 | apply z2
       | apply z3 | apply z4 | apply z5 | apply z6 | apply z7 | apply z8 | apply z9 | apply z10 | apply z11 | apply z12 | apply z13 | apply z14 | apply z15 | apply z18 | apply z19 | apply z20 | apply z21 | apply z22 | apply z23 | (apply z16; rfl) | (apply z17; decide)
       | ((first | apply z30 | apply z31 | ((first | apply z32 | apply z33); (simp only [seval, push_cast, *] <;> fail))); (simp only [seval, push_cast, *]; with_reducible rfl); try exact of_decide_eq_true rfl)
       | ((first | apply z34 | apply z35); (simp only [seval, push_cast, *] <;> fail); try exact of_decide_eq_true rfl)
       | ((first | (apply z24; (simp only [seval, push_cast, *]; with_reducible rfl)) | (apply z36; (simp only [seval, push_cast, *]; (fail_if_success (show _ = some true)); (fail_if_success (show _ = some false)); with_reducible rfl))); all_goals (intro hc; (try simp only [Bool.not_eq_true', Bool.not_eq_false'] at hc); (try (exact absurd hc Bool.noConfusion)); (first | have hq := dle_true hc | have hq := dlt_true hc | have hq := dle_false hc | have hq := dlt_false hc | skip); (try (exfalso; simp only [decide_eq_true_eq, decide_eq_false_iff_not] at hc; first | omega | (have := hk.out; omega)))))
       | ((first | apply z40 | apply z41 | (apply z42; (simp only [seval, push_cast, *]; with_reducible rfl))); (simp only [seval, push_cast, *]; with_reducible rfl); all_goals (first | (simp only [seval, push_cast, *] <;> fail) | (simp only [seval, push_cast] <;> fail) | (rw [frz_pure rfl] <;> (simp [*] <;> fail))))
      rw [← hR]
      exact ⟨junk2, by simp, .inl ⟨rfl, rfl⟩⟩
  have key2 := fun bs ρ => key (eachL g 0 l s) bs 0 ρ H (by omega)
  clear hf
  repeat' first
   | apply z1 | apply z2
   | apply z3 | apply z4 | apply z5 | apply z6 | apply z7 | apply z8 | apply z9 | apply z10 | apply z11 | apply z12 | apply z13 | apply z14 | apply z15 | apply z18 | apply z19 | apply z20 | apply z21 | apply z22 | apply z23 | (apply z16; rfl) | (apply z17; decide)
   | ((first | apply z30 | apply z31 | ((first | apply z32 | apply z33); (simp only [seval, push_cast, *] <;> fail))); (simp only [seval, push_cast, *]; with_reducible rfl); try exact of_decide_eq_true rfl)
   | ((first | apply z34 | apply z35); (simp only [seval, push_cast, *] <;> fail); try exact of_decide_eq_true rfl)
   | ((first | (apply z24; (simp only [seval, push_cast, *]; with_reducible rfl)) | (apply z36; (simp only [seval, push_cast, *]; (fail_if_success (show _ = some true)); (fail_if_success (show _ = some false)); with_reducible rfl))); all_goals (intro hc; (try simp only [Bool.not_eq_true', Bool.not_eq_false'] at hc); (try (exact absurd hc Bool.noConfusion)); (first | have hq := dle_true hc | have hq := dlt_true hc | have hq := dle_false hc | have hq := dlt_false hc | skip); (try (exfalso; simp only [decide_eq_true_eq, decide_eq_false_iff_not] at hc; first | omega | (have := hk.out; omega)))))
   | ((first | apply z40 | apply z41 | (apply z42; (simp only [seval, push_cast, *]; with_reducible rfl))); (simp only [seval, push_cast, *]; with_reducible rfl); all_goals (first | (simp only [seval, push_cast, *] <;> fail) | (simp only [seval, push_cast] <;> fail) | (rw [frz_pure rfl] <;> (simp [*] <;> fail))))
  refine lp_then (lp_any (c := loopAt Tryz.f200 0) rfl (key2 _ _ ⟨s, [], by simp [hH.out], by (first | (simp only [seval, push_cast, *]; done) | (simp only [seval, push_cast, *]; rfl)), by (first | (simp only [seval, push_cast, *]; done) | (simp only [seval, push_cast, *]; rfl)), by (first | (simp only [seval, push_cast, *]; done) | (simp only [seval, push_cast, *]; rfl)), by (first | (simp only [seval, push_cast, *]; done) | (simp only [seval, push_cast, *]; rfl)), ⟨by simp⟩⟩)) ?_
  have hlen : ∀ t junk2, (HS t ++ (junk ++ junk2)).take H.length = HS t ++ junk := fun t junk2 => by
    rw [← List.append_assoc]; exact List.take_left' (by rw [hH.out]; simp [hsl t s])
  rintro ex ρ' H' ⟨junk2, rfl, ⟨rfl, h2⟩ | ⟨rfl, h2, h3⟩⟩ hf2
  · rw [h2]
    repeat' first
     | apply z1 | apply z2
     | apply z3 | apply z4 | apply z5 | apply z6 | apply z7 | apply z8 | apply z9 | apply z10 | apply z11 | apply z12 | apply z13 | apply z14 | apply z15 | apply z18 | apply z19 | apply z20 | apply z21 | apply z22 | apply z23 | (apply z16; rfl) | (apply z17; decide)
     | ((first | apply z30 | apply z31 | ((first | apply z32 | apply z33); (simp only [seval, push_cast, *] <;> fail))); (simp only [seval, push_cast, *]; with_reducible rfl); try exact of_decide_eq_true rfl)
     | ((first | apply z34 | apply z35); (simp only [seval, push_cast, *] <;> fail); try exact of_decide_eq_true rfl)
     | ((first | (apply z24; (simp only [seval, push_cast, *]; with_reducible rfl)) | (apply z36; (simp only [seval, push_cast, *]; (fail_if_success (show _ = some true)); (fail_if_success (show _ = some false)); with_reducible rfl))); all_goals (intro hc; (try simp only [Bool.not_eq_true', Bool.not_eq_false'] at hc); (try (exact absurd hc Bool.noConfusion)); (first | have hq := dle_true hc | have hq := dlt_true hc | have hq := dle_false hc | have hq := dlt_false hc | skip); (try (exfalso; simp only [decide_eq_true_eq, decide_eq_false_iff_not] at hc; first | omega | (have := hk.out; omega)))))
     | ((first | apply z40 | apply z41 | (apply z42; (simp only [seval, push_cast, *]; with_reducible rfl))); (simp only [seval, push_cast, *]; with_reducible rfl); all_goals (first | (simp only [seval, push_cast, *] <;> fail) | (simp only [seval, push_cast] <;> fail) | (rw [frz_pure rfl] <;> (simp [*] <;> fail))))
  · repeat' first
     | apply z1 | apply z2
     | apply z3 | apply z4 | apply z5 | apply z6 | apply z7 | apply z8 | apply z9 | apply z10 | apply z11 | apply z12 | apply z13 | apply z14 | apply z15 | apply z18 | apply z19 | apply z20 | apply z21 | apply z22 | apply z23 | (apply z16; rfl) | (apply z17; decide)
     | ((first | apply z30 | apply z31 | ((first | apply z32 | apply z33); (simp only [seval, push_cast, *] <;> fail))); (simp only [seval, push_cast, *]; with_reducible rfl); try exact of_decide_eq_true rfl)
     | ((first | apply z34 | apply z35); (simp only [seval, push_cast, *] <;> fail); try exact of_decide_eq_true rfl)
     | ((first | (apply z24; (simp only [seval, push_cast, *]; with_reducible rfl)) | (apply z36; (simp only [seval, push_cast, *]; (fail_if_success (show _ = some true)); (fail_if_success (show _ = some false)); with_reducible rfl))); all_goals (intro hc; (try simp only [Bool.not_eq_true', Bool.not_eq_false'] at hc); (try (exact absurd hc Bool.noConfusion)); (first | have hq := dle_true hc | have hq := dlt_true hc | have hq := dle_false hc | have hq := dlt_false hc | skip); (try (exfalso; simp only [decide_eq_true_eq, decide_eq_false_iff_not] at hc; first | omega | (have := hk.out; omega)))))
     | ((first | apply z40 | apply z41 | (apply z42; (simp only [seval, push_cast, *]; with_reducible rfl))); (simp only [seval, push_cast, *]; with_reducible rfl); all_goals (first | (simp only [seval, push_cast, *] <;> fail) | (simp only [seval, push_cast] <;> fail) | (rw [frz_pure rfl] <;> (simp [*] <;> fail))))
theorem netlist_each_Int_p (bs : List Nat) (H : Heap) (fid : Nat) (caps : List V) (g : Nat → Int → Int) (l : List Int) (hl : l.length ≤ 1000000) (hf : ∀ bs (i : Nat) x junk, l[i]? = some x → callw X bs fid (.int .i64 i :: encInt x :: caps) (H ++ junk) = some (.int .i64 (g i x), H ++ junk)) :
    callw X bs 200 [.list (l.map encInt), .func fid caps] H = some (.tuple [.int .i64 (eachP g 0 l).1, .int .i64 (eachP g 0 l).2], H) := by
  have := netlist_each_Int bs H (S := Unit) (fun _ => H) fid caps (fun i x u => (g i x, u)) l hl (fun bs i x _ junk h => hf bs i x junk h) () [] ⟨by simp⟩ (fun _ _ => rfl)
  rw [eachL_P] at this
  simpa using this

/-! each[[]int], of values that encInts writes -/
theorem netlist_each_Ints (bs : List Nat) (H : Heap) {S : Type} (HS : S → Heap) (fid : Nat) (caps : List V) (g : Nat → (List Int) → S → Int × S) (l : List (List Int)) (hl : l.length ≤ 1000000) (hf : Does X encInts HS fid caps g l) (s : S) (junk : Heap) (hH : Kp (H = HS s ++ junk)) (hsl : ∀ s t, (HS s).length = (HS t).length) : callw X bs 150 [.list (l.map encInts), .func fid caps] H = some (.tuple [.int .i64 (eachL g 0 l s).1.1, .int .i64 (eachL g 0 l s).1.2], HS (eachL g 0 l s).2 ++ junk) := by
  refine call_at (rs := [.tmp 4, .tmp 5]) (N := 25) (fn := Tryz.f150) xk150 xf150 rfl rfl rfl (by simp only [seval, push_cast, List.map_cons, List.map_nil, V.norm, norm1]; rfl) ?_
  have key : ∀ (R : (Int × Int) × S) (bs : List Nat) i ρ H', i ≤ l.length → (∃ s junk2, H' = HS s ++ (junk ++ junk2) ∧ ρ 1 = .func fid caps ∧ ρ 9 = .list (l.map encInts) ∧ ρ 10 = .int .i64 l.length ∧ ρ 11 = .int .i64 i ∧ Kp (eachL g i (l.drop i) s = R)) →
      Lp X ⟨25, bs⟩ (loopAt Tryz.f150 0) ρ H' fun ex ρ' H' => ∃ junk2, H' = HS R.2 ++ (junk ++ junk2) ∧ ((ex = .exit 0 ∧ R.1 = (0, 0)) ∨ (ex = .ret ∧ ρ' 4 = .int .i64 R.1.1 ∧ ρ' 5 = .int .i64 R.1.2)) := by
    intro R bs
    refine loop_up ?_ ?_
    · rintro i ρ H' hi ⟨s, junk2, hH2, h1, h9, h10, h11, hR⟩
      have hget : l[i]? = some l[i] := by simp [hi]
      generalize l[i] = x at hget
      have hw := add1 i l.length hi hl
      replace hR := hR.out
      rw [drop_cons hget, eachL] at hR
      replace hR : Kp ((if (g i x s).1 ≠ 0 then (((i : Int), (g i x s).1), (g i x s).2) else eachL g (i + 1) (l.drop (i + 1)) (g i x s).2) = R) := ⟨hR⟩
      have hcall := fun bs (y : List HObj) => hf bs i x s (junk ++ (junk2 ++ y)) hget
      have e1 : ∀ y : List HObj, HS s ++ (junk ++ (junk2 ++ y)) = H' ++ y := fun y => by rw [hH2]; simp
      simp only [e1, seval, push_cast] at hcall
      replace e1 : Kp (H' = HS s ++ (junk ++ junk2)) := ⟨hH2⟩
      clear hH2 hf hl
      have hcall0 := fun bs => hcall bs []
      simp only [List.append_nil] at hcall0
      conv => arg 3; whnf
      repeat' first
       | apply z1 | apply z2
       | apply z3 | apply z4 | apply z5 | apply z6 | apply z7 | apply z8 | apply z9 | apply z10 | apply z11 | apply z12 | apply z13 | apply z14 | apply z15 | apply z18 | apply z19 | apply z20 | apply z21 | apply z22 | apply z23 | (apply z16; rfl) | (apply z17; decide)
       | ((first | apply z30 | apply z31 | ((first | apply z32 | apply z33); (simp only [seval, push_cast, *] <;> fail))); (simp only [seval, push_cast, *]; with_reducible rfl); try exact of_decide_eq_true rfl)
       | ((first | apply z34 | apply z35); (simp only [seval, push_cast, *] <;> fail); try exact of_decide_eq_true rfl)
       | ((first | (apply z24; (simp only [seval, push_cast, *]; with_reducible rfl)) | (apply z36; (simp only [seval, push_cast, *]; (fail_if_success (show _ = some true)); (fail_if_success (show _ = some false)); with_reducible rfl))); all_goals (intro hc; (try simp only [Bool.not_eq_true', Bool.not_eq_false'] at hc); (try (exact absurd hc Bool.noConfusion)); (first | have hq := dle_true hc | have hq := dlt_true hc | have hq := dle_false hc | have hq := dlt_false hc | skip); (try (exfalso; simp only [decide_eq_true_eq, decide_eq_false_iff_not] at hc; first | omega | (have := hk.out; omega)))))
       | ((first | apply z40 | apply z41 | (apply z42; (simp only [seval, push_cast, *]; with_reducible rfl))); (simp only [seval, push_cast, *]; with_reducible rfl); all_goals (first | (simp only [seval, push_cast, *] <;> fail) | (simp only [seval, push_cast] <;> fail) | (rw [frz_pure rfl] <;> (simp [*] <;> fail))))
      · have hc : (g i x s).1 ≠ 0 := by simpa using hc
        rw [← hR.out, if_pos hc]
        exact ⟨_, by first | rfl | (simp only [List.append_assoc]; rfl), .inr ⟨rfl, by (first | (simp only [seval, push_cast, *]; done) | (simp only [seval, push_cast, *]; rfl)), by (first | (simp only [seval, push_cast, *]; done) | (simp only [seval, push_cast, *]; rfl))⟩⟩
      · have hc : (g i x s).1 = 0 := by simpa using hc
        exact ⟨_, _, by first | rfl | (simp only [List.append_assoc]; rfl), by (first | (simp only [seval, push_cast, *]; done) | (simp only [seval, push_cast, *]; rfl)), by (first | (simp only [seval, push_cast, *]; done) | (simp only [seval, push_cast, *]; rfl)), by (first | (simp only [seval, push_cast, *]; done) | (simp only [seval, push_cast, *]; rfl)), by (first | (simp only [seval, push_cast, *]; done) | (simp only [seval, push_cast, *]; rfl)), ⟨by rw [← hR.out, if_neg (by simp [hc])]⟩⟩
    · rintro ρ H' ⟨s, junk2, hH2, h1, h9, h10, h11, hR⟩
      replace hR := hR.out
      rw [List.drop_length, eachL] at hR
      clear hf
      conv => arg 3; whnf
      repeat' first
       | apply z1 | apply z2
       | apply z3 | apply z4 | apply z5 | apply z6 | apply z7 | apply z8 | apply z9 | apply z10 | apply z11 | apply z12 | apply z13 | apply z14 | apply z15 | apply z18 | apply z19 | apply z20 | apply z21 | apply z22 | apply z23 | (apply z16; rfl) | (apply z17; decide)
       | ((first | apply z30 | apply z31 | ((first | apply z32 | apply z33); (simp only [seval, push_cast, *] <;> fail))); (simp only [seval, push_cast, *]; with_reducible rfl); try exact of_decide_eq_true rfl)
       | ((first | apply z34 | apply z35); (simp only [seval, push_cast, *] <;> fail); try exact of_decide_eq_true rfl)
       | ((first | (apply z24; (simp only [seval, push_cast, *]; with_reducible rfl)) | (apply z36; (simp only [seval, push_cast, *]; (fail_if_success (show _ = some true)); (fail_if_success (show _ = some false)); with_reducible rfl))); all_goals (intro hc; (try simp only [Bool.not_eq_true', Bool.not_eq_false'] at hc); (try (exact absurd hc Bool.noConfusion)); (first | have hq := dle_true hc | have hq := dlt_true hc | have hq := dle_false hc | have hq := dlt_false hc | skip); (try (exfalso; simp only [decide_eq_true_eq, decide_eq_false_iff_not] at hc; first | omega | (have := hk.out; omega)))))
       | ((first | apply z40 | apply z41 | (apply z42; (simp only [seval, push_cast, *]; with_reducible rfl))); (simp only [seval, push_cast, *]; with_reducible rfl); all_goals (first | (simp only [seval, push_cast, *] <;> fail) | (simp only [seval, push_cast] <;> fail) | (rw [frz_pure rfl] <;> (simp [*] <;> fail))))
      rw [← hR]
      exact ⟨junk2, by simp, .inl ⟨rfl, rfl⟩⟩
  have key2 := fun bs ρ => key (eachL g 0 l s) bs 0 ρ H (by omega)
  clear hf
  repeat' first
   | apply z1 | apply z2
   | apply z3 | apply z4 | apply z5 | apply z6 | apply z7 | apply z8 | apply z9 | apply z10 | apply z11 | apply z12 | apply z13 | apply z14 | apply z15 | apply z18 | apply z19 | apply z20 | apply z21 | apply z22 | apply z23 | (apply z16; rfl) | (apply z17; decide)
   | ((first | apply z30 | apply z31 | ((first | apply z32 | apply z33); (simp only [seval, push_cast, *] <;> fail))); (simp only [seval, push_cast, *]; with_reducible rfl); try exact of_decide_eq_true rfl)
   | ((first | apply z34 | apply z35); (simp only [seval, push_cast, *] <;> fail); try exact of_decide_eq_true rfl)
   | ((first | (apply z24; (simp only [seval, push_cast, *]; with_reducible rfl)) | (apply z36; (simp only [seval, push_cast, *]; (fail_if_success (show _ = some true)); (fail_if_success (show _ = some false)); with_reducible rfl))); all_goals (intro hc; (try simp only [Bool.not_eq_true', Bool.not_eq_false'] at hc); (try (exact absurd hc Bool.noConfusion)); (first | have hq := dle_true hc | have hq := dlt_true hc | have hq := dle_false hc | have hq := dlt_false hc | skip); (try (exfalso; simp only [decide_eq_true_eq, decide_eq_false_iff_not] at hc; first | omega | (have := hk.out; omega)))))
   | ((first | apply z40 | apply z41 | (apply z42; (simp only [seval, push_cast, *]; with_reducible rfl))); (simp only [seval, push_cast, *]; with_reducible rfl); all_goals (first | (simp only [seval, push_cast, *] <;> fail) | (simp only [seval, push_cast] <;> fail) | (rw [frz_pure rfl] <;> (simp [*] <;> fail))))
  refine lp_then (lp_any (c := loopAt Tryz.f150 0) rfl (key2 _ _ ⟨s, [], by simp [hH.out], by (first | (simp only [seval, push_cast, *]; done) | (simp only [seval, push_cast, *]; rfl)), by (first | (simp only [seval, push_cast, *]; done) | (simp only [seval, push_cast, *]; rfl)), by (first | (simp only [seval, push_cast, *]; done) | (simp only [seval, push_cast, *]; rfl)), by (first | (simp only [seval, push_cast, *]; done) | (simp only [seval, push_cast, *]; rfl)), ⟨by simp⟩⟩)) ?_
  have hlen : ∀ t junk2, (HS t ++ (junk ++ junk2)).take H.length = HS t ++ junk := fun t junk2 => by
    rw [← List.append_assoc]; exact List.take_left' (by rw [hH.out]; simp [hsl t s])
  rintro ex ρ' H' ⟨junk2, rfl, ⟨rfl, h2⟩ | ⟨rfl, h2, h3⟩⟩ hf2
  · rw [h2]
    repeat' first
     | apply z1 | apply z2
     | apply z3 | apply z4 | apply z5 | apply z6 | apply z7 | apply z8 | apply z9 | apply z10 | apply z11 | apply z12 | apply z13 | apply z14 | apply z15 | apply z18 | apply z19 | apply z20 | apply z21 | apply z22 | apply z23 | (apply z16; rfl) | (apply z17; decide)
     | ((first | apply z30 | apply z31 | ((first | apply z32 | apply z33); (simp only [seval, push_cast, *] <;> fail))); (simp only [seval, push_cast, *]; with_reducible rfl); try exact of_decide_eq_true rfl)
     | ((first | apply z34 | apply z35); (simp only [seval, push_cast, *] <;> fail); try exact of_decide_eq_true rfl)
     | ((first | (apply z24; (simp only [seval, push_cast, *]; with_reducible rfl)) | (apply z36; (simp only [seval, push_cast, *]; (fail_if_success (show _ = some true)); (fail_if_success (show _ = some false)); with_reducible rfl))); all_goals (intro hc; (try simp only [Bool.not_eq_true', Bool.not_eq_false'] at hc); (try (exact absurd hc Bool.noConfusion)); (first | have hq := dle_true hc | have hq := dlt_true hc | have hq := dle_false hc | have hq := dlt_false hc | skip); (try (exfalso; simp only [decide_eq_true_eq, decide_eq_false_iff_not] at hc; first | omega | (have := hk.out; omega)))))
     | ((first | apply z40 | apply z41 | (apply z42; (simp only [seval, push_cast, *]; with_reducible rfl))); (simp only [seval, push_cast, *]; with_reducible rfl); all_goals (first | (simp only [seval, push_cast, *] <;> fail) | (simp only [seval, push_cast] <;> fail) | (rw [frz_pure rfl] <;> (simp [*] <;> fail))))
  · repeat' first
     | apply z1 | apply z2
     | apply z3 | apply z4 | apply z5 | apply z6 | apply z7 | apply z8 | apply z9 | apply z10 | apply z11 | apply z12 | apply z13 | apply z14 | apply z15 | apply z18 | apply z19 | apply z20 | apply z21 | apply z22 | apply z23 | (apply z16; rfl) | (apply z17; decide)
     | ((first | apply z30 | apply z31 | ((first | apply z32 | apply z33); (simp only [seval, push_cast, *] <;> fail))); (simp only [seval, push_cast, *]; with_reducible rfl); try exact of_decide_eq_true rfl)
     | ((first | apply z34 | apply z35); (simp only [seval, push_cast, *] <;> fail); try exact of_decide_eq_true rfl)
     | ((first | (apply z24; (simp only [seval, push_cast, *]; with_reducible rfl)) | (apply z36; (simp only [seval, push_cast, *]; (fail_if_success (show _ = some true)); (fail_if_success (show _ = some false)); with_reducible rfl))); all_goals (intro hc; (try simp only [Bool.not_eq_true', Bool.not_eq_false'] at hc); (try (exact absurd hc Bool.noConfusion)); (first | have hq := dle_true hc | have hq := dlt_true hc | have hq := dle_false hc | have hq := dlt_false hc | skip); (try (exfalso; simp only [decide_eq_true_eq, decide_eq_false_iff_not] at hc; first | omega | (have := hk.out; omega)))))
     | ((first | apply z40 | apply z41 | (apply z42; (simp only [seval, push_cast, *]; with_reducible rfl))); (simp only [seval, push_cast, *]; with_reducible rfl); all_goals (first | (simp only [seval, push_cast, *] <;> fail) | (simp only [seval, push_cast] <;> fail) | (rw [frz_pure rfl] <;> (simp [*] <;> fail))))
theorem netlist_each_Ints_p (bs : List Nat) (H : Heap) (fid : Nat) (caps : List V) (g : Nat → (List Int) → Int) (l : List (List Int)) (hl : l.length ≤ 1000000) (hf : ∀ bs (i : Nat) x junk, l[i]? = some x → callw X bs fid (.int .i64 i :: encInts x :: caps) (H ++ junk) = some (.int .i64 (g i x), H ++ junk)) :
    callw X bs 150 [.list (l.map encInts), .func fid caps] H = some (.tuple [.int .i64 (eachP g 0 l).1, .int .i64 (eachP g 0 l).2], H) := by
  have := netlist_each_Ints bs H (S := Unit) (fun _ => H) fid caps (fun i x u => (g i x, u)) l hl (fun bs i x _ junk h => hf bs i x junk h) () [] ⟨by simp⟩ (fun _ _ => rfl)
  rw [eachL_P] at this
  simpa using this

/-! each[int], of values that encInt writes -/
theorem graph_each_Int (bs : List Nat) (H : Heap) {S : Type} (HS : S → Heap) (fid : Nat) (caps : List V) (g : Nat → Int → S → Int × S) (l : List Int) (hl : l.length ≤ 1000000) (hf : Does X encInt HS fid caps g l) (s : S) (junk : Heap) (hH : Kp (H = HS s ++ junk)) (hsl : ∀ s t, (HS s).length = (HS t).length) : callw X bs 133 [.list (l.map encInt), .func fid caps] H = some (.tuple [.int .i64 (eachL g 0 l s).1.1, .int .i64 (eachL g 0 l s).1.2], HS (eachL g 0 l s).2 ++ junk) := by
  refine call_at (rs := [.tmp 4, .tmp 5]) (N := 25) (fn := Tryz.f133) xk133 xf133 rfl rfl rfl (by simp only [seval, push_cast, List.map_cons, List.map_nil, V.norm, norm1]; rfl) ?_
  have key : ∀ (R : (Int × Int) × S) (bs : List Nat) i ρ H', i ≤ l.length → (∃ s junk2, H' = HS s ++ (junk ++ junk2) ∧ ρ 1 = .func fid caps ∧ ρ 9 = .list (l.map encInt) ∧ ρ 10 = .int .i64 l.length ∧ ρ 11 = .int .i64 i ∧ Kp (eachL g i (l.drop i) s = R)) →
      Lp X ⟨25, bs⟩ (loopAt Tryz.f133 0) ρ H' fun ex ρ' H' => ∃ junk2, H' = HS R.2 ++ (junk ++ junk2) ∧ ((ex = .exit 0 ∧ R.1 = (0, 0)) ∨ (ex = .ret ∧ ρ' 4 = .int .i64 R.1.1 ∧ ρ' 5 = .int .i64 R.1.2)) := by
    intro R bs
    refine loop_up ?_ ?_
    · rintro i ρ H' hi ⟨s, junk2, hH2, h1, h9, h10, h11, hR⟩
      have hget : l[i]? = some l[i] := by simp [hi]
      generalize l[i] = x at hget
      have hw := add1 i l.length hi hl
      replace hR := hR.out
      rw [drop_cons hget, eachL] at hR
      replace hR : Kp ((if (g i x s).1 ≠ 0 then (((i : Int), (g i x s).1), (g i x s).2) else eachL g (i + 1) (l.drop (i + 1)) (g i x s).2) = R) := ⟨hR⟩
      have hcall := fun bs (y : List HObj) => hf bs i x s (junk ++ (junk2 ++ y)) hget
      have e1 : ∀ y : List HObj, HS s ++ (junk ++ (junk2 ++ y)) = H' ++ y := fun y => by rw [hH2]; simp
      simp only [e1, seval, push_cast] at hcall
      replace e1 : Kp (H' = HS s ++ (junk ++ junk2)) := ⟨hH2⟩
      clear hH2 hf hl
      have hcall0 := fun bs => hcall bs []
      simp only [List.append_nil] at hcall0
      conv => arg 3; whnf
      repeat' first
       | apply z1 | apply z2
       | apply z3 | apply z4 | apply z5 | apply z6 | apply z7 | apply z8 | apply z9 | apply z10 | apply z11 | apply z12 | apply z13 | apply z14 | apply z15 | apply z18 | apply z19 | apply z20 | apply z21 | apply z22 | apply z23 | (apply z16; rfl) | (apply z17; decide)
       | ((first | apply z30 | apply z31 | ((first | apply z32 | apply z33); (simp only [seval, push_cast, *] <;> fail))); (simp only [seval, push_cast, *]; with_reducible rfl); try exact of_decide_eq_true rfl)
       | ((first | apply z34 | apply z35); (simp only [seval, push_cast, *] <;> fail); try exact of_decide_eq_true rfl)
       | ((first | (apply z24; (simp only [seval, push_cast, *]; with_reducible rfl)) | (apply z36; (simp only [seval, push_cast, *]; (fail_if_success (show _ = some true)); (fail_if_success (show _ = some false)); with_reducible rfl))); all_goals (intro hc; (try simp only [Bool.not_eq_true', Bool.not_eq_false'] at hc); (try (exact absurd hc Bool.noConfusion)); (first | have hq := dle_true hc | have hq := dlt_true hc | have hq := dle_false hc | have hq := dlt_false hc | skip); (try (exfalso; simp only [decide_eq_true_eq, decide_eq_false_iff_not] at hc; first | omega | (have := hk.out; omega)))))
       | ((first | apply z40 | apply z41 | (apply z42; (simp only [seval, push_cast, *]; with_reducible rfl))); (simp only [seval, push_cast, *]; with_reducible rfl); all_goals (first | (simp only [seval, push_cast, *] <;> fail) | (simp only [seval, push_cast] <;> fail) | (rw [frz_pure rfl] <;> (simp [*] <;> fail))))
      · have hc : (g i x s).1 ≠ 0 := by simpa using hc
        rw [← hR.out, if_pos hc]
        exact ⟨_, by first | rfl | (simp only [List.append_assoc]; rfl), .inr ⟨rfl, by (first | (simp only [seval, push_cast, *]; done) | (simp only [seval, push_cast, *]; rfl)), by (first | (simp only [seval, push_cast, *]; done) | (simp only [seval, push_cast, *]; rfl))⟩⟩
      · have hc : (g i x s).1 = 0 := by simpa using hc
        exact ⟨_, _, by first | rfl | (simp only [List.append_assoc]; rfl), by (first | (simp only [seval, push_cast, *]; done) | (simp only [seval, push_cast, *]; rfl)), by (first | (simp only [seval, push_cast, *]; done) | (simp only [seval, push_cast, *]; rfl)), by (first | (simp only [seval, push_cast, *]; done) | (simp only [seval, push_cast, *]; rfl)), by (first | (simp only [seval, push_cast, *]; done) | (simp only [seval, push_cast, *]; rfl)), ⟨by rw [← hR.out, if_neg (by simp [hc])]⟩⟩
    · rintro ρ H' ⟨s, junk2, hH2, h1, h9, h10, h11, hR⟩
      replace hR := hR.out
      rw [List.drop_length, eachL] at hR
      clear hf
      conv => arg 3; whnf
      repeat' first
       | apply z1 | apply z2
       | apply z3 | apply z4 | apply z5 | apply z6 | apply z7 | apply z8 | apply z9 | apply z10 | apply z11 | apply z12 | apply z13 | apply z14 | apply z15 | apply z18 | apply z19 | apply z20 | apply z21 | apply z22 | apply z23 | (apply z16; rfl) | (apply z17; decide)
       | ((first | apply z30 | apply z31 | ((first | apply z32 | apply z33); (simp only [seval, push_cast, *] <;> fail))); (simp only [seval, push_cast, *]; with_reducible rfl); try exact of_decide_eq_true rfl)
       | ((first | apply z34 | apply z35); (simp only [seval, push_cast, *] <;> fail); try exact of_decide_eq_true rfl)
       | ((first | (apply z24; (simp only [seval, push_cast, *]; with_reducible rfl)) | (apply z36; (simp only [seval, push_cast, *]; (fail_if_success (show _ = some true)); (fail_if_success (show _ = some false)); with_reducible rfl))); all_goals (intro hc; (try simp only [Bool.not_eq_true', Bool.not_eq_false'] at hc); (try (exact absurd hc Bool.noConfusion)); (first | have hq := dle_true hc | have hq := dlt_true hc | have hq := dle_false hc | have hq := dlt_false hc | skip); (try (exfalso; simp only [decide_eq_true_eq, decide_eq_false_iff_not] at hc; first | omega | (have := hk.out; omega)))))
       | ((first | apply z40 | apply z41 | (apply z42; (simp only [seval, push_cast, *]; with_reducible rfl))); (simp only [seval, push_cast, *]; with_reducible rfl); all_goals (first | (simp only [seval, push_cast, *] <;> fail) | (simp only [seval, push_cast] <;> fail) | (rw [frz_pure rfl] <;> (simp [*] <;> fail))))
      rw [← hR]
      exact ⟨junk2, by simp, .inl ⟨rfl, rfl⟩⟩
  have key2 := fun bs ρ => key (eachL g 0 l s) bs 0 ρ H (by omega)
  clear hf
  repeat' first
   | apply z1 | apply z2
   | apply z3 | apply z4 | apply z5 | apply z6 | apply z7 | apply z8 | apply z9 | apply z10 | apply z11 | apply z12 | apply z13 | apply z14 | apply z15 | apply z18 | apply z19 | apply z20 | apply z21 | apply z22 | apply z23 | (apply z16; rfl) | (apply z17; decide)
   | ((first | apply z30 | apply z31 | ((first | apply z32 | apply z33); (simp only [seval, push_cast, *] <;> fail))); (simp only [seval, push_cast, *]; with_reducible rfl); try exact of_decide_eq_true rfl)
   | ((first | apply z34 | apply z35); (simp only [seval, push_cast, *] <;> fail); try exact of_decide_eq_true rfl)
   | ((first | (apply z24; (simp only [seval, push_cast, *]; with_reducible rfl)) | (apply z36; (simp only [seval, push_cast, *]; (fail_if_success (show _ = some true)); (fail_if_success (show _ = some false)); with_reducible rfl))); all_goals (intro hc; (try simp only [Bool.not_eq_true', Bool.not_eq_false'] at hc); (try (exact absurd hc Bool.noConfusion)); (first | have hq := dle_true hc | have hq := dlt_true hc | have hq := dle_false hc | have hq := dlt_false hc | skip); (try (exfalso; simp only [decide_eq_true_eq, decide_eq_false_iff_not] at hc; first | omega | (have := hk.out; omega)))))
   | ((first | apply z40 | apply z41 | (apply z42; (simp only [seval, push_cast, *]; with_reducible rfl))); (simp only [seval, push_cast, *]; with_reducible rfl); all_goals (first | (simp only [seval, push_cast, *] <;> fail) | (simp only [seval, push_cast] <;> fail) | (rw [frz_pure rfl] <;> (simp [*] <;> fail))))
  refine lp_then (lp_any (c := loopAt Tryz.f133 0) rfl (key2 _ _ ⟨s, [], by simp [hH.out], by (first | (simp only [seval, push_cast, *]; done) | (simp only [seval, push_cast, *]; rfl)), by (first | (simp only [seval, push_cast, *]; done) | (simp only [seval, push_cast, *]; rfl)), by (first | (simp only [seval, push_cast, *]; done) | (simp only [seval, push_cast, *]; rfl)), by (first | (simp only [seval, push_cast, *]; done) | (simp only [seval, push_cast, *]; rfl)), ⟨by simp⟩⟩)) ?_
  have hlen : ∀ t junk2, (HS t ++ (junk ++ junk2)).take H.length = HS t ++ junk := fun t junk2 => by
    rw [← List.append_assoc]; exact List.take_left' (by rw [hH.out]; simp [hsl t s])
  rintro ex ρ' H' ⟨junk2, rfl, ⟨rfl, h2⟩ | ⟨rfl, h2, h3⟩⟩ hf2
  · rw [h2]
    repeat' first
     | apply z1 | apply z2
     | apply z3 | apply z4 | apply z5 | apply z6 | apply z7 | apply z8 | apply z9 | apply z10 | apply z11 | apply z12 | apply z13 | apply z14 | apply z15 | apply z18 | apply z19 | apply z20 | apply z21 | apply z22 | apply z23 | (apply z16; rfl) | (apply z17; decide)
     | ((first | apply z30 | apply z31 | ((first | apply z32 | apply z33); (simp only [seval, push_cast, *] <;> fail))); (simp only [seval, push_cast, *]; with_reducible rfl); try exact of_decide_eq_true rfl)
     | ((first | apply z34 | apply z35); (simp only [seval, push_cast, *] <;> fail); try exact of_decide_eq_true rfl)
     | ((first | (apply z24; (simp only [seval, push_cast, *]; with_reducible rfl)) | (apply z36; (simp only [seval, push_cast, *]; (fail_if_success (show _ = some true)); (fail_if_success (show _ = some false)); with_reducible rfl))); all_goals (intro hc; (try simp only [Bool.not_eq_true', Bool.not_eq_false'] at hc); (try (exact absurd hc Bool.noConfusion)); (first | have hq := dle_true hc | have hq := dlt_true hc | have hq := dle_false hc | have hq := dlt_false hc | skip); (try (exfalso; simp only [decide_eq_true_eq, decide_eq_false_iff_not] at hc; first | omega | (have := hk.out; omega)))))
     | ((first | apply z40 | apply z41 | (apply z42; (simp only [seval, push_cast, *]; with_reducible rfl))); (simp only [seval, push_cast, *]; with_reducible rfl); all_goals (first | (simp only [seval, push_cast, *] <;> fail) | (simp only [seval, push_cast] <;> fail) | (rw [frz_pure rfl] <;> (simp [*] <;> fail))))
  · repeat' first
     | apply z1 | apply z2
     | apply z3 | apply z4 | apply z5 | apply z6 | apply z7 | apply z8 | apply z9 | apply z10 | apply z11 | apply z12 | apply z13 | apply z14 | apply z15 | apply z18 | apply z19 | apply z20 | apply z21 | apply z22 | apply z23 | (apply z16; rfl) | (apply z17; decide)
     | ((first | apply z30 | apply z31 | ((first | apply z32 | apply z33); (simp only [seval, push_cast, *] <;> fail))); (simp only [seval, push_cast, *]; with_reducible rfl); try exact of_decide_eq_true rfl)
     | ((first | apply z34 | apply z35); (simp only [seval, push_cast, *] <;> fail); try exact of_decide_eq_true rfl)
     | ((first | (apply z24; (simp only [seval, push_cast, *]; with_reducible rfl)) | (apply z36; (simp only [seval, push_cast, *]; (fail_if_success (show _ = some true)); (fail_if_success (show _ = some false)); with_reducible rfl))); all_goals (intro hc; (try simp only [Bool.not_eq_true', Bool.not_eq_false'] at hc); (try (exact absurd hc Bool.noConfusion)); (first | have hq := dle_true hc | have hq := dlt_true hc | have hq := dle_false hc | have hq := dlt_false hc | skip); (try (exfalso; simp only [decide_eq_true_eq, decide_eq_false_iff_not] at hc; first | omega | (have := hk.out; omega)))))
     | ((first | apply z40 | apply z41 | (apply z42; (simp only [seval, push_cast, *]; with_reducible rfl))); (simp only [seval, push_cast, *]; with_reducible rfl); all_goals (first | (simp only [seval, push_cast, *] <;> fail) | (simp only [seval, push_cast] <;> fail) | (rw [frz_pure rfl] <;> (simp [*] <;> fail))))
theorem graph_each_Int_p (bs : List Nat) (H : Heap) (fid : Nat) (caps : List V) (g : Nat → Int → Int) (l : List Int) (hl : l.length ≤ 1000000) (hf : ∀ bs (i : Nat) x junk, l[i]? = some x → callw X bs fid (.int .i64 i :: encInt x :: caps) (H ++ junk) = some (.int .i64 (g i x), H ++ junk)) :
    callw X bs 133 [.list (l.map encInt), .func fid caps] H = some (.tuple [.int .i64 (eachP g 0 l).1, .int .i64 (eachP g 0 l).2], H) := by
  have := graph_each_Int bs H (S := Unit) (fun _ => H) fid caps (fun i x u => (g i x, u)) l hl (fun bs i x _ junk h => hf bs i x junk h) () [] ⟨by simp⟩ (fun _ _ => rfl)
  rw [eachL_P] at this
  simpa using this

/-! each[api.Node], of values that encNode writes -/
theorem graph_each_Node (bs : List Nat) (H : Heap) {S : Type} (HS : S → Heap) (fid : Nat) (caps : List V) (g : Nat → Node → S → Int × S) (l : List Node) (hl : l.length ≤ 1000000) (hf : Does X encNode HS fid caps g l) (s : S) (junk : Heap) (hH : Kp (H = HS s ++ junk)) (hsl : ∀ s t, (HS s).length = (HS t).length) : callw X bs 138 [.list (l.map encNode), .func fid caps] H = some (.tuple [.int .i64 (eachL g 0 l s).1.1, .int .i64 (eachL g 0 l s).1.2], HS (eachL g 0 l s).2 ++ junk) := by
  refine call_at (rs := [.tmp 4, .tmp 5]) (N := 25) (fn := Tryz.f138) xk138 xf138 rfl rfl rfl (by simp only [seval, push_cast, List.map_cons, List.map_nil, V.norm, norm1]; rfl) ?_
  have key : ∀ (R : (Int × Int) × S) (bs : List Nat) i ρ H', i ≤ l.length → (∃ s junk2, H' = HS s ++ (junk ++ junk2) ∧ ρ 1 = .func fid caps ∧ ρ 9 = .list (l.map encNode) ∧ ρ 10 = .int .i64 l.length ∧ ρ 11 = .int .i64 i ∧ Kp (eachL g i (l.drop i) s = R)) →
      Lp X ⟨25, bs⟩ (loopAt Tryz.f138 0) ρ H' fun ex ρ' H' => ∃ junk2, H' = HS R.2 ++ (junk ++ junk2) ∧ ((ex = .exit 0 ∧ R.1 = (0, 0)) ∨ (ex = .ret ∧ ρ' 4 = .int .i64 R.1.1 ∧ ρ' 5 = .int .i64 R.1.2)) := by
    intro R bs
    refine loop_up ?_ ?_
    · rintro i ρ H' hi ⟨s, junk2, hH2, h1, h9, h10, h11, hR⟩
      have hget : l[i]? = some l[i] := by simp [hi]
      generalize l[i] = x at hget
      have hw := add1 i l.length hi hl
      replace hR := hR.out
      rw [drop_cons hget, eachL] at hR
      replace hR : Kp ((if (g i x s).1 ≠ 0 then (((i : Int), (g i x s).1), (g i x s).2) else eachL g (i + 1) (l.drop (i + 1)) (g i x s).2) = R) := ⟨hR⟩
      have hcall := fun bs (y : List HObj) => hf bs i x s (junk ++ (junk2 ++ y)) hget
      have e1 : ∀ y : List HObj, HS s ++ (junk ++ (junk2 ++ y)) = H' ++ y := fun y => by rw [hH2]; simp
      simp only [e1, seval, push_cast] at hcall
      replace e1 : Kp (H' = HS s ++ (junk ++ junk2)) := ⟨hH2⟩
      clear hH2 hf hl
      have hcall0 := fun bs => hcall bs []
      simp only [List.append_nil] at hcall0
      conv => arg 3; whnf
      repeat' first
       | apply z1 | apply z2
       | apply z3 | apply z4 | apply z5 | apply z6 | apply z7 | apply z8 | apply z9 | apply z10 | apply z11 | apply z12 | apply z13 | apply z14 | apply z15 | apply z18 | apply z19 | apply z20 | apply z21 | apply z22 | apply z23 | (apply z16; rfl) | (apply z17; decide)
       | ((first | apply z30 | apply z31 | ((first | apply z32 | apply z33); (simp only [seval, push_cast, *] <;> fail))); (simp only [seval, push_cast, *]; with_reducible rfl); try exact of_decide_eq_true rfl)
       | ((first | apply z34 | apply z35); (simp only [seval, push_cast, *] <;> fail); try exact of_decide_eq_true rfl)
       | ((first | (apply z24; (simp only [seval, push_cast, *]; with_reducible rfl)) | (apply z36; (simp only [seval, push_cast, *]; (fail_if_success (show _ = some true)); (fail_if_success (show _ = some false)); with_reducible rfl))); all_goals (intro hc; (try simp only [Bool.not_eq_true', Bool.not_eq_false'] at hc); (try (exact absurd hc Bool.noConfusion)); (first | have hq := dle_true hc | have hq := dlt_true hc | have hq := dle_false hc | have hq := dlt_false hc | skip); (try (exfalso; simp only [decide_eq_true_eq, decide_eq_false_iff_not] at hc; first | omega | (have := hk.out; omega)))))
       | ((first | apply z40 | apply z41 | (apply z42; (simp only [seval, push_cast, *]; with_reducible rfl))); (simp only [seval, push_cast, *]; with_reducible rfl); all_goals (first | (simp only [seval, push_cast, *] <;> fail) | (simp only [seval, push_cast] <;> fail) | (rw [frz_pure rfl] <;> (simp [*] <;> fail))))
      · have hc : (g i x s).1 ≠ 0 := by simpa using hc
        rw [← hR.out, if_pos hc]
        exact ⟨_, by first | rfl | (simp only [List.append_assoc]; rfl), .inr ⟨rfl, by (first | (simp only [seval, push_cast, *]; done) | (simp only [seval, push_cast, *]; rfl)), by (first | (simp only [seval, push_cast, *]; done) | (simp only [seval, push_cast, *]; rfl))⟩⟩
      · have hc : (g i x s).1 = 0 := by simpa using hc
        exact ⟨_, _, by first | rfl | (simp only [List.append_assoc]; rfl), by (first | (simp only [seval, push_cast, *]; done) | (simp only [seval, push_cast, *]; rfl)), by (first | (simp only [seval, push_cast, *]; done) | (simp only [seval, push_cast, *]; rfl)), by (first | (simp only [seval, push_cast, *]; done) | (simp only [seval, push_cast, *]; rfl)), by (first | (simp only [seval, push_cast, *]; done) | (simp only [seval, push_cast, *]; rfl)), ⟨by rw [← hR.out, if_neg (by simp [hc])]⟩⟩
    · rintro ρ H' ⟨s, junk2, hH2, h1, h9, h10, h11, hR⟩
      replace hR := hR.out
      rw [List.drop_length, eachL] at hR
      clear hf
      conv => arg 3; whnf
      repeat' first
       | apply z1 | apply z2
       | apply z3 | apply z4 | apply z5 | apply z6 | apply z7 | apply z8 | apply z9 | apply z10 | apply z11 | apply z12 | apply z13 | apply z14 | apply z15 | apply z18 | apply z19 | apply z20 | apply z21 | apply z22 | apply z23 | (apply z16; rfl) | (apply z17; decide)
       | ((first | apply z30 | apply z31 | ((first | apply z32 | apply z33); (simp only [seval, push_cast, *] <;> fail))); (simp only [seval, push_cast, *]; with_reducible rfl); try exact of_decide_eq_true rfl)
       | ((first | apply z34 | apply z35); (simp only [seval, push_cast, *] <;> fail); try exact of_decide_eq_true rfl)
       | ((first | (apply z24; (simp only [seval, push_cast, *]; with_reducible rfl)) | (apply z36; (simp only [seval, push_cast, *]; (fail_if_success (show _ = some true)); (fail_if_success (show _ = some false)); with_reducible rfl))); all_goals (intro hc; (try simp only [Bool.not_eq_true', Bool.not_eq_false'] at hc); (try (exact absurd hc Bool.noConfusion)); (first | have hq := dle_true hc | have hq := dlt_true hc | have hq := dle_false hc | have hq := dlt_false hc | skip); (try (exfalso; simp only [decide_eq_true_eq, decide_eq_false_iff_not] at hc; first | omega | (have := hk.out; omega)))))
       | ((first | apply z40 | apply z41 | (apply z42; (simp only [seval, push_cast, *]; with_reducible rfl))); (simp only [seval, push_cast, *]; with_reducible rfl); all_goals (first | (simp only [seval, push_cast, *] <;> fail) | (simp only [seval, push_cast] <;> fail) | (rw [frz_pure rfl] <;> (simp [*] <;> fail))))
      rw [← hR]
      exact ⟨junk2, by simp, .inl ⟨rfl, rfl⟩⟩
  have key2 := fun bs ρ => key (eachL g 0 l s) bs 0 ρ H (by omega)
  clear hf
  repeat' first
   | apply z1 | apply z2
   | apply z3 | apply z4 | apply z5 | apply z6 | apply z7 | apply z8 | apply z9 | apply z10 | apply z11 | apply z12 | apply z13 | apply z14 | apply z15 | apply z18 | apply z19 | apply z20 | apply z21 | apply z22 | apply z23 | (apply z16; rfl) | (apply z17; decide)
   | ((first | apply z30 | apply z31 | ((first | apply z32 | apply z33); (simp only [seval, push_cast, *] <;> fail))); (simp only [seval, push_cast, *]; with_reducible rfl); try exact of_decide_eq_true rfl)
   | ((first | apply z34 | apply z35); (simp only [seval, push_cast, *] <;> fail); try exact of_decide_eq_true rfl)
   | ((first | (apply z24; (simp only [seval, push_cast, *]; with_reducible rfl)) | (apply z36; (simp only [seval, push_cast, *]; (fail_if_success (show _ = some true)); (fail_if_success (show _ = some false)); with_reducible rfl))); all_goals (intro hc; (try simp only [Bool.not_eq_true', Bool.not_eq_false'] at hc); (try (exact absurd hc Bool.noConfusion)); (first | have hq := dle_true hc | have hq := dlt_true hc | have hq := dle_false hc | have hq := dlt_false hc | skip); (try (exfalso; simp only [decide_eq_true_eq, decide_eq_false_iff_not] at hc; first | omega | (have := hk.out; omega)))))
   | ((first | apply z40 | apply z41 | (apply z42; (simp only [seval, push_cast, *]; with_reducible rfl))); (simp only [seval, push_cast, *]; with_reducible rfl); all_goals (first | (simp only [seval, push_cast, *] <;> fail) | (simp only [seval, push_cast] <;> fail) | (rw [frz_pure rfl] <;> (simp [*] <;> fail))))
  refine lp_then (lp_any (c := loopAt Tryz.f138 0) rfl (key2 _ _ ⟨s, [], by simp [hH.out], by (first | (simp only [seval, push_cast, *]; done) | (simp only [seval, push_cast, *]; rfl)), by (first | (simp only [seval, push_cast, *]; done) | (simp only [seval, push_cast, *]; rfl)), by (first | (simp only [seval, push_cast, *]; done) | (simp only [seval, push_cast, *]; rfl)), by (first | (simp only [seval, push_cast, *]; done) | (simp only [seval, push_cast, *]; rfl)), ⟨by simp⟩⟩)) ?_
  have hlen : ∀ t junk2, (HS t ++ (junk ++ junk2)).take H.length = HS t ++ junk := fun t junk2 => by
    rw [← List.append_assoc]; exact List.take_left' (by rw [hH.out]; simp [hsl t s])
  rintro ex ρ' H' ⟨junk2, rfl, ⟨rfl, h2⟩ | ⟨rfl, h2, h3⟩⟩ hf2
  · rw [h2]
    repeat' first
     | apply z1 | apply z2
     | apply z3 | apply z4 | apply z5 | apply z6 | apply z7 | apply z8 | apply z9 | apply z10 | apply z11 | apply z12 | apply z13 | apply z14 | apply z15 | apply z18 | apply z19 | apply z20 | apply z21 | apply z22 | apply z23 | (apply z16; rfl) | (apply z17; decide)
     | ((first | apply z30 | apply z31 | ((first | apply z32 | apply z33); (simp only [seval, push_cast, *] <;> fail))); (simp only [seval, push_cast, *]; with_reducible rfl); try exact of_decide_eq_true rfl)
     | ((first | apply z34 | apply z35); (simp only [seval, push_cast, *] <;> fail); try exact of_decide_eq_true rfl)
     | ((first | (apply z24; (simp only [seval, push_cast, *]; with_reducible rfl)) | (apply z36; (simp only [seval, push_cast, *]; (fail_if_success (show _ = some true)); (fail_if_success (show _ = some false)); with_reducible rfl))); all_goals (intro hc; (try simp only [Bool.not_eq_true', Bool.not_eq_false'] at hc); (try (exact absurd hc Bool.noConfusion)); (first | have hq := dle_true hc | have hq := dlt_true hc | have hq := dle_false hc | have hq := dlt_false hc | skip); (try (exfalso; simp only [decide_eq_true_eq, decide_eq_false_iff_not] at hc; first | omega | (have := hk.out; omega)))))
     | ((first | apply z40 | apply z41 | (apply z42; (simp only [seval, push_cast, *]; with_reducible rfl))); (simp only [seval, push_cast, *]; with_reducible rfl); all_goals (first | (simp only [seval, push_cast, *] <;> fail) | (simp only [seval, push_cast] <;> fail) | (rw [frz_pure rfl] <;> (simp [*] <;> fail))))
  · repeat' first
     | apply z1 | apply z2
     | apply z3 | apply z4 | apply z5 | apply z6 | apply z7 | apply z8 | apply z9 | apply z10 | apply z11 | apply z12 | apply z13 | apply z14 | apply z15 | apply z18 | apply z19 | apply z20 | apply z21 | apply z22 | apply z23 | (apply z16; rfl) | (apply z17; decide)
     | ((first | apply z30 | apply z31 | ((first | apply z32 | apply z33); (simp only [seval, push_cast, *] <;> fail))); (simp only [seval, push_cast, *]; with_reducible rfl); try exact of_decide_eq_true rfl)
     | ((first | apply z34 | apply z35); (simp only [seval, push_cast, *] <;> fail); try exact of_decide_eq_true rfl)
     | ((first | (apply z24; (simp only [seval, push_cast, *]; with_reducible rfl)) | (apply z36; (simp only [seval, push_cast, *]; (fail_if_success (show _ = some true)); (fail_if_success (show _ = some false)); with_reducible rfl))); all_goals (intro hc; (try simp only [Bool.not_eq_true', Bool.not_eq_false'] at hc); (try (exact absurd hc Bool.noConfusion)); (first | have hq := dle_true hc | have hq := dlt_true hc | have hq := dle_false hc | have hq := dlt_false hc | skip); (try (exfalso; simp only [decide_eq_true_eq, decide_eq_false_iff_not] at hc; first | omega | (have := hk.out; omega)))))
     | ((first | apply z40 | apply z41 | (apply z42; (simp only [seval, push_cast, *]; with_reducible rfl))); (simp only [seval, push_cast, *]; with_reducible rfl); all_goals (first | (simp only [seval, push_cast, *] <;> fail) | (simp only [seval, push_cast] <;> fail) | (rw [frz_pure rfl] <;> (simp [*] <;> fail))))
theorem graph_each_Node_p (bs : List Nat) (H : Heap) (fid : Nat) (caps : List V) (g : Nat → Node → Int) (l : List Node) (hl : l.length ≤ 1000000) (hf : ∀ bs (i : Nat) x junk, l[i]? = some x → callw X bs fid (.int .i64 i :: encNode x :: caps) (H ++ junk) = some (.int .i64 (g i x), H ++ junk)) :
    callw X bs 138 [.list (l.map encNode), .func fid caps] H = some (.tuple [.int .i64 (eachP g 0 l).1, .int .i64 (eachP g 0 l).2], H) := by
  have := graph_each_Node bs H (S := Unit) (fun _ => H) fid caps (fun i x u => (g i x, u)) l hl (fun bs i x _ junk h => hf bs i x junk h) () [] ⟨by simp⟩ (fun _ _ => rfl)
  rw [eachL_P] at this
  simpa using this

end Go.E
