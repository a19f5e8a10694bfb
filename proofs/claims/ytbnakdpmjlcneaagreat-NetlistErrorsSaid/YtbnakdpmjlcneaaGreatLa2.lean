/- An argument as the row reads it is a netlist. Own work. -/
import Derived.Test.YtbnakdpmjlcneaaGreatSA
import Derived.Test.YtbnakdpmjlcneaaGreatED
import Derived.Test.YtbnakdpmjlcneaaGreatF
import Derived.Test.YtbnakdpmjlcneaaGreatLa1
import Derived.Below
set_option linter.all false
namespace Go.E
open Go.Proofs
set_option maxRecDepth 100000
theorem list_dec {α : Type} {f : α → V} : ∀ {es : List V}, (∀ el ∈ es, ∃ a, el = f a) → ∃ l : List α, es = l.map f
  | [], _ => ⟨[], rfl⟩
  | e :: r, h => by
    obtain ⟨a, ha⟩ := h e (by simp)
    obtain ⟨l, hl⟩ := list_dec (es := r) fun el hm => h el (by simp [hm])
    exact ⟨a :: l, by rw [ha, hl]; rfl⟩
theorem dec_port (n : Nat) (xs : List V) (h : CellsT Tryz.prog (n + 2) 93 xs) : ∃ p : Port, V.agg xs = encPort p := by
  simp only [CellsT, Tryz.underlying93, FieldsT, Tryz.underlying9, Tryz.underlying3] at h
  obtain ⟨_, _, rfl, ⟨s, rfl, _⟩, _, _, rfl, ⟨i, rfl, _⟩, rfl⟩ := h
  exact ⟨⟨s, i⟩, rfl⟩
theorem dec_outp (n : Nat) (xs : List V) (h : CellsT Tryz.prog (n + 2) 97 xs) : ∃ p : Outp, V.agg xs = encOutp p := by
  simp only [CellsT, Tryz.underlying97, FieldsT, Tryz.underlying9, Tryz.underlying3] at h
  obtain ⟨_, _, rfl, ⟨s, rfl, _⟩, _, _, rfl, ⟨i, rfl, _⟩, rfl⟩ := h
  exact ⟨⟨s, i⟩, rfl⟩
theorem dec_reg (n : Nat) (xs : List V) (h : CellsT Tryz.prog (n + 2) 95 xs) : ∃ p : Reg, V.agg xs = encReg p := by
  simp only [CellsT, Tryz.underlying95, FieldsT, Tryz.underlying9, Tryz.underlying3] at h
  obtain ⟨_, _, rfl, ⟨s, rfl, _⟩, _, _, rfl, ⟨i, rfl, _⟩, _, _, rfl, ⟨j, rfl, _⟩, _, _, rfl, ⟨k, rfl, _⟩, _, _, rfl, ⟨l, rfl, _⟩, rfl⟩ := h
  exact ⟨⟨s, i, j, k, l⟩, rfl⟩
theorem dec_ints (n : Nat) (xs : List V) (h : CellsT Tryz.prog (n + 2) 34 xs) : ∃ l : List Int, xs = [.list (l.map (.int .i64))] := by
  simp only [CellsT, Tryz.underlying34, Tryz.underlying3, isRow, Bool.false_eq_true, if_false] at h
  obtain ⟨es, rfl, _, he⟩ := h
  obtain ⟨l, hl⟩ := list_dec (f := V.int .i64) (es := es) fun el hm => by
    obtain ⟨⟨i, h1, _⟩, h2⟩ := he el hm
    rw [h1] at h2
    exact ⟨i, (List.cons.inj h2).1.symm⟩
  exact ⟨l, by rw [hl]⟩
theorem dec_node (n : Nat) (xs : List V) (h : CellsT Tryz.prog (n + 3) 91 xs) : ∃ p : Node, V.agg xs = encNode p := by
  unfold CellsT at h
  simp only [Tryz.underlying91, FieldsT] at h
  obtain ⟨_, _, rfl, h1, _, _, rfl, h2, _, _, rfl, h3, _, _, rfl, h4, rfl⟩ := h
  obtain ⟨l, rfl⟩ := dec_ints n _ h3
  simp only [CellsT, Tryz.underlying3] at h1 h2 h4
  obtain ⟨i, rfl, _⟩ := h1
  obtain ⟨j, rfl, _⟩ := h2
  obtain ⟨k, rfl, _⟩ := h4
  exact ⟨⟨i, j, l, k⟩, rfl⟩
theorem dec_list {α : Type} {f : α → V} {n : Nat} {t e : TypeId} {xs : List V} (hu : Tryz.prog.underlying t = some (.slice e)) (hr : isRow (Tryz.prog.underlying e) = true)
    (hf : ∀ ys, CellsT Tryz.prog n e ys → ∃ a, V.agg ys = f a) (h : CellsT Tryz.prog (n + 1) t xs) : ∃ l : List α, xs = [.list (l.map f)] := by
  unfold CellsT at h
  simp only [hu, hr, if_true] at h
  obtain ⟨es, rfl, _, he⟩ := h
  obtain ⟨l, hl⟩ := list_dec (f := f) (es := es) fun el hm => by
    obtain ⟨h1, h2⟩ := he el hm
    obtain ⟨a, ha⟩ := hf _ h1
    exact ⟨a, h2.trans ha⟩
  exact ⟨l, by rw [hl]⟩
theorem dec_netl (n : Nat) (xs : List V) (h : CellsT Tryz.prog (n + 5) 27 xs) : ∃ m : Netl, xs = cellsNetl m := by
  unfold CellsT at h
  simp only [Tryz.underlying27, FieldsT] at h
  obtain ⟨_, _, rfl, h1, _, _, rfl, h2, _, _, rfl, h3, _, _, rfl, h4, _, _, rfl, h5, rfl⟩ := h
  obtain ⟨l2, rfl⟩ := dec_list (f := encPort) Tryz.underlying22 (by rw [Tryz.underlying93]; rfl) (fun ys hy => dec_port (n + 1) ys hy) h2
  obtain ⟨l3, rfl⟩ := dec_list (f := encReg) Tryz.underlying23 (by rw [Tryz.underlying95]; rfl) (fun ys hy => dec_reg (n + 1) ys hy) h3
  obtain ⟨l4, rfl⟩ := dec_list (f := encNode) Tryz.underlying24 (by rw [Tryz.underlying91]; rfl) (fun ys hy => dec_node n ys hy) h4
  obtain ⟨l5, rfl⟩ := dec_list (f := encOutp) Tryz.underlying25 (by rw [Tryz.underlying97]; rfl) (fun ys hy => dec_outp (n + 1) ys hy) h5
  simp only [CellsT, Tryz.underlying9] at h1
  obtain ⟨s, rfl, _⟩ := h1
  exact ⟨⟨s, l2, l3, l4, l5⟩, rfl⟩
end Go.E
/- From E to the model's calls: the law NetlistErrors. Own work. -/
namespace Go.E
open Go.Proofs Go.RowKit
set_option maxRecDepth 100000
theorem sim_all (w : World) : Sim [] (G.all w) [] w where
  bl := by simp
  srt := by simp
  dom := by simp [G.all]
  obj := by simp [G.all]
  und := by simp
  old := by simp [G.all]
theorem law_calls (hm : Tryz.prog.follows .mixedOrders = true) (hI : IterOk X) (hK : KnownOk X) (hN : ∀ (f : Nat) (fn : Func), Tryz.prog.funcs[f]? = some fn → fn.name ≠ "runtime.NumGoroutine")
    (w : World) (vs : Array Value) (n : Netl) (hr : RowV w (cellsNetl n) vs.toList) :
    Calls Tryz.prog 3 #[.agg vs] w fun e w' => e = .returned (.bool true) ∧ ∃ g', Out [] (G.all w) w [] g' w' [] := by
  obtain ⟨_, h⟩ := callw_ok (cx := X) hm hI hK hN _ _ _ _ _ _ (la_errors n)
  refine (h (G.all w) w [.agg vs] (sim_all w) ⟨rfl, fun j x x' h1 h2 => ?_⟩).mono ?_
  · cases j with
    | succ j => simp at h1
    | zero =>
      simp only [List.getElem?_cons_zero, Option.some.injEq] at h1 h2
      subst h1; subst h2
      refine .agg _ _ (by rw [hr.1]; simp) (fun k v v' hk hv => hr.2 k v v' hk (by simpa using hv))
  · rintro e w' ⟨v', g', rfl, ho, hv⟩
    cases hv
    exact ⟨rfl, g', ho⟩
theorem below_all {w w' : World} {g' : G} (h : Ext (G.all w) w g' w') : Below w.heap.size w w' :=
  ⟨h.os, h.tape, h.output, h.size, fun k hk => (h.free k hk (fun o id => by simp [G.all, hk])).1⟩
theorem law_walk (hm : Tryz.prog.follows .mixedOrders = true) (hI : IterOk X) (hK : KnownOk X) (hN : ∀ (f : Nat) (fn : Func), Tryz.prog.funcs[f]? = some fn → fn.name ≠ "runtime.NumGoroutine")
    (w : World) (vs : Array Value) (n : Netl) (hr : RowV w (cellsNetl n) vs.toList) :
    Calls Tryz.prog 3 #[.agg vs] w fun e w' => e = .returned (.bool true) ∧ Below w.heap.size w w' :=
  (law_calls hm hI hK hN w vs n hr).mono fun e w' ⟨he, g', ho⟩ => ⟨he, below_all ho.ext⟩
theorem mixed_X : Tryz.prog.follows .mixedOrders = true := by kernel_rfl
theorem noNum_all : (Tryz.prog.funcs.toList.all fun fn => decide (fn.name ≠ "runtime.NumGoroutine")) = true := by kernel_rfl
theorem noNum (f : Nat) (fn : Func) (h : Tryz.prog.funcs[f]? = some fn) : fn.name ≠ "runtime.NumGoroutine" := by
  have h1 := List.all_eq_true.1 noNum_all fn (List.mem_of_getElem? (i := f) (by simpa using h))
  exact of_decide_eq_true h1
end Go.E
