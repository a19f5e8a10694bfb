/-
  No cell of these rows narrows 'for every input' (looked for: loops, veiled, ifaces, maps, wideKeys, modest, calm, conditions, laid).
  DERIVED. THE GIVEN ROWS OF THIS SEAT. 8 by the template 'for every input the law returns true; each argument reads behind the call as it read before'; 0 by the template 'total and deterministic' (their statements: YtoljdokffnjapaaGreatTotals.lean).
  GIVEN WITH THE SEED: the statements are not yours to turn. If you find one false, say at which input.
  Laid BY PROGRAM, IN A SANDBOX (cutbox-rows.mjs): the forced cells as the released guide's own fill.sh prints them over the translation 94057e9253ec78ba… (all of the seat's roots in one cut). By AI agents, Wed Nov 11 2026. No macro, syntax, notation, axiom, sorry.
-/
import Derived.Test.YtoljdokffnjapaaGreatChecked
import GoSem.Claim
import GoSem.ClaimJoined
import GoSem.ClaimMapViews
import Derived.JoinedTies
import Derived.KernelRfl
namespace Go.Proofs.YtoljdokffnjapaaGreat
/- THE CELL 'sum', in the pinned program and in every row, IS THE sha256 OF THE DUMP (.gsa) THAT YtoljdokffnjapaaGreatProg.lean LOADS. Nothing in Lean hashes anything: it is a label: what it is worth is what the hold of that sum in a sandbox is worth. -/
noncomputable def Tryz.pinned : Pinned := { name := "ytoljdokffnjapaagreat", sum := "94057e9253ec78ba283d88da44f40306d67cc129cebfdfd723a76ad32a2f6ddd", checked := Tryz.checked }
namespace Rows
def none {H : Type} : Left H := { results := [], args := [] }

/-- 'ratchetlaw15.DesignRules': WHATEVER THE INPUT: true; the input reads as it did. -/
def designRulesSpec : ChangeSpec := { name := "designRules", fn := fun _ => fun
  | [d1, d2, d3] => { results := [.lit (.bool true)], args := [d1, d2, d3] }
  | _ => none }
def designRulesRow : OpenClaim := { program := "ytoljdokffnjapaagreat", sum := "94057e9253ec78ba283d88da44f40306d67cc129cebfdfd723a76ad32a2f6ddd", func := "ratchet/ratchetlaw15.DesignRules", spec := "designRules", unfollowed := true, recurses := true, apart := false }
def DesignRulesSaid : Prop := designRulesRow.holds Tryz.pinned (OpenSpec.ofChange designRulesSpec)

/-- ITS FALSE NEIGHBOUR: 'it returns false'. Refute it at one input. -/
def designRulesWrong : ChangeSpec := { name := "designRules", fn := fun _ => fun
  | [d1, d2, d3] => { results := [.lit (.bool false)], args := [d1, d2, d3] }
  | _ => none }
def DesignRulesWrongFalsely : Prop := designRulesRow.holds Tryz.pinned (OpenSpec.ofChange designRulesWrong)

/-- 'ratchetlaw15.DesignBroken': WHATEVER THE INPUT: true; the input reads as it did. -/
def designBrokenSpec : ChangeSpec := { name := "designBroken", fn := fun _ => fun
  | [d1, d2, d3] => { results := [.lit (.bool true)], args := [d1, d2, d3] }
  | _ => none }
def designBrokenRow : OpenClaim := { program := "ytoljdokffnjapaagreat", sum := "94057e9253ec78ba283d88da44f40306d67cc129cebfdfd723a76ad32a2f6ddd", func := "ratchet/ratchetlaw15.DesignBroken", spec := "designBroken", unfollowed := true, recurses := true, apart := false }
def DesignBrokenSaid : Prop := designBrokenRow.holds Tryz.pinned (OpenSpec.ofChange designBrokenSpec)

/-- ITS FALSE NEIGHBOUR: 'it returns false'. Refute it at one input. -/
def designBrokenWrong : ChangeSpec := { name := "designBroken", fn := fun _ => fun
  | [d1, d2, d3] => { results := [.lit (.bool false)], args := [d1, d2, d3] }
  | _ => none }
def DesignBrokenWrongFalsely : Prop := designBrokenRow.holds Tryz.pinned (OpenSpec.ofChange designBrokenWrong)

/-- 'ratchetlaw15.DesignErrors': WHATEVER THE INPUT: true; the input reads as it did. -/
def designErrorsSpec : ChangeSpec := { name := "designErrors", fn := fun _ => fun
  | [d1, d2] => { results := [.lit (.bool true)], args := [d1, d2] }
  | _ => none }
def designErrorsRow : OpenClaim := { program := "ytoljdokffnjapaagreat", sum := "94057e9253ec78ba283d88da44f40306d67cc129cebfdfd723a76ad32a2f6ddd", func := "ratchet/ratchetlaw15.DesignErrors", spec := "designErrors", unfollowed := true, recurses := true, apart := false }
def DesignErrorsSaid : Prop := designErrorsRow.holds Tryz.pinned (OpenSpec.ofChange designErrorsSpec)

/-- ITS FALSE NEIGHBOUR: 'it returns false'. Refute it at one input. -/
def designErrorsWrong : ChangeSpec := { name := "designErrors", fn := fun _ => fun
  | [d1, d2] => { results := [.lit (.bool false)], args := [d1, d2] }
  | _ => none }
def DesignErrorsWrongFalsely : Prop := designErrorsRow.holds Tryz.pinned (OpenSpec.ofChange designErrorsWrong)

/-- 'ratchetlaw15.DesignWholly': WHATEVER THE INPUT: true; the input reads as it did. -/
def designWhollySpec : ChangeSpec := { name := "designWholly", fn := fun _ => fun
  | [d1, d2, d3] => { results := [.lit (.bool true)], args := [d1, d2, d3] }
  | _ => none }
def designWhollyRow : OpenClaim := { program := "ytoljdokffnjapaagreat", sum := "94057e9253ec78ba283d88da44f40306d67cc129cebfdfd723a76ad32a2f6ddd", func := "ratchet/ratchetlaw15.DesignWholly", spec := "designWholly", unfollowed := true, recurses := true, apart := false }
def DesignWhollySaid : Prop := designWhollyRow.holds Tryz.pinned (OpenSpec.ofChange designWhollySpec)

/-- ITS FALSE NEIGHBOUR: 'it returns false'. Refute it at one input. -/
def designWhollyWrong : ChangeSpec := { name := "designWholly", fn := fun _ => fun
  | [d1, d2, d3] => { results := [.lit (.bool false)], args := [d1, d2, d3] }
  | _ => none }
def DesignWhollyWrongFalsely : Prop := designWhollyRow.holds Tryz.pinned (OpenSpec.ofChange designWhollyWrong)

/-- 'ratchetlaw15.DesignStates': WHATEVER THE INPUT: true; the input reads as it did. -/
def designStatesSpec : ChangeSpec := { name := "designStates", fn := fun _ => fun
  | [d1, d2, d3] => { results := [.lit (.bool true)], args := [d1, d2, d3] }
  | _ => none }
def designStatesRow : OpenClaim := { program := "ytoljdokffnjapaagreat", sum := "94057e9253ec78ba283d88da44f40306d67cc129cebfdfd723a76ad32a2f6ddd", func := "ratchet/ratchetlaw15.DesignStates", spec := "designStates", unfollowed := true, recurses := true, apart := false }
def DesignStatesSaid : Prop := designStatesRow.holds Tryz.pinned (OpenSpec.ofChange designStatesSpec)

/-- ITS FALSE NEIGHBOUR: 'it returns false'. Refute it at one input. -/
def designStatesWrong : ChangeSpec := { name := "designStates", fn := fun _ => fun
  | [d1, d2, d3] => { results := [.lit (.bool false)], args := [d1, d2, d3] }
  | _ => none }
def DesignStatesWrongFalsely : Prop := designStatesRow.holds Tryz.pinned (OpenSpec.ofChange designStatesWrong)

/-- 'ratchetlaw15.DesignClosed': WHATEVER THE INPUT: true; the input reads as it did. -/
def designClosedSpec : ChangeSpec := { name := "designClosed", fn := fun _ => fun
  | [d1, d2, d3] => { results := [.lit (.bool true)], args := [d1, d2, d3] }
  | _ => none }
def designClosedRow : OpenClaim := { program := "ytoljdokffnjapaagreat", sum := "94057e9253ec78ba283d88da44f40306d67cc129cebfdfd723a76ad32a2f6ddd", func := "ratchet/ratchetlaw15.DesignClosed", spec := "designClosed", unfollowed := true, recurses := true, apart := false }
def DesignClosedSaid : Prop := designClosedRow.holds Tryz.pinned (OpenSpec.ofChange designClosedSpec)

/-- ITS FALSE NEIGHBOUR: 'it returns false'. Refute it at one input. -/
def designClosedWrong : ChangeSpec := { name := "designClosed", fn := fun _ => fun
  | [d1, d2, d3] => { results := [.lit (.bool false)], args := [d1, d2, d3] }
  | _ => none }
def DesignClosedWrongFalsely : Prop := designClosedRow.holds Tryz.pinned (OpenSpec.ofChange designClosedWrong)

/-- 'ratchetlaw15.DesignReached': WHATEVER THE INPUT: true; the input reads as it did. -/
def designReachedSpec : ChangeSpec := { name := "designReached", fn := fun _ => fun
  | [d1, d2] => { results := [.lit (.bool true)], args := [d1, d2] }
  | _ => none }
def designReachedRow : OpenClaim := { program := "ytoljdokffnjapaagreat", sum := "94057e9253ec78ba283d88da44f40306d67cc129cebfdfd723a76ad32a2f6ddd", func := "ratchet/ratchetlaw15.DesignReached", spec := "designReached", unfollowed := true, recurses := true, apart := false }
def DesignReachedSaid : Prop := designReachedRow.holds Tryz.pinned (OpenSpec.ofChange designReachedSpec)

/-- ITS FALSE NEIGHBOUR: 'it returns false'. Refute it at one input. -/
def designReachedWrong : ChangeSpec := { name := "designReached", fn := fun _ => fun
  | [d1, d2] => { results := [.lit (.bool false)], args := [d1, d2] }
  | _ => none }
def DesignReachedWrongFalsely : Prop := designReachedRow.holds Tryz.pinned (OpenSpec.ofChange designReachedWrong)

/-- 'ratchetlaw15.DesignInvariant': WHATEVER THE INPUT: true; the input reads as it did. -/
def designInvariantSpec : ChangeSpec := { name := "designInvariant", fn := fun _ => fun
  | [d1, d2, d3] => { results := [.lit (.bool true)], args := [d1, d2, d3] }
  | _ => none }
def designInvariantRow : OpenClaim := { program := "ytoljdokffnjapaagreat", sum := "94057e9253ec78ba283d88da44f40306d67cc129cebfdfd723a76ad32a2f6ddd", func := "ratchet/ratchetlaw15.DesignInvariant", spec := "designInvariant", unfollowed := true, recurses := true, apart := false }
def DesignInvariantSaid : Prop := designInvariantRow.holds Tryz.pinned (OpenSpec.ofChange designInvariantSpec)

/-- ITS FALSE NEIGHBOUR: 'it returns false'. Refute it at one input. -/
def designInvariantWrong : ChangeSpec := { name := "designInvariant", fn := fun _ => fun
  | [d1, d2, d3] => { results := [.lit (.bool false)], args := [d1, d2, d3] }
  | _ => none }
def DesignInvariantWrongFalsely : Prop := designInvariantRow.holds Tryz.pinned (OpenSpec.ofChange designInvariantWrong)

/- THE SECOND FORM. 'bulk': how many values and letters a reading holds, each counted each time it is reached (what is shared counts as often as it is met; a slice's spare places count too). A statement '..UptoSaid' is the law's where the arguments, and the package variables that the reading takes, are together of bulk at most 1048576: NARROWER than '..Said'. Prove '..Said' where nothing that the law and all that it calls make is longer than what came in: it says more and counts as full. Else prove '..UptoSaid'. A law counts once. -/
mutual
def uptoBulk {H : Type} : DataW H → Nat
  | .lit (.string bytes) => bytes.length + 1
  | .lit _ => 1
  | .nil => 1
  | .ptr d => uptoBulk d + 1
  | .slice elems spare => uptoBulkAll elems + uptoBulkAll spare + 1
  | .agg parts => uptoBulkAll parts + 1
  | .iface _ d => uptoBulk d + 1
  | .map entries => uptoBulkEntries entries + 1
  | .held _ => 1
def uptoBulkAll {H : Type} : List (DataW H) → Nat
  | [] => 0
  | d :: r => uptoBulk d + uptoBulkAll r
def uptoBulkEntries {H : Type} : List (Lit × DataW H) → Nat
  | [] => 0
  | x :: r => uptoBulkEntry x + uptoBulkEntries r
def uptoBulkEntry {H : Type} : Lit × DataW H → Nat
  | (.string bytes, d) => bytes.length + uptoBulk d + 1
  | (_, d) => uptoBulk d + 1
 end
def uptoSmall : (H : Type) → List (DataW H) → Bool := fun _ ds => decide (uptoBulkAll ds ≤ 1048576)
def OpenSpec.upto (s : _root_.Go.ChangeSpec) : _root_.Go.OpenSpec := { _root_.Go.OpenSpec.ofChange s with cond := some uptoSmall }

/-- 'ratchetlaw15.DesignRules', WHERE WHAT IT READS IS OF BULK AT MOST 1048576: true; the input reads as it did. -/
def designRulesUptoRow : OpenClaim := { program := "ytoljdokffnjapaagreat", sum := "94057e9253ec78ba283d88da44f40306d67cc129cebfdfd723a76ad32a2f6ddd", func := "ratchet/ratchetlaw15.DesignRules", spec := "designRules", unfollowed := true, recurses := true, apart := false, narrowed := true }
def DesignRulesUptoSaid : Prop := designRulesUptoRow.holds Tryz.pinned (OpenSpec.upto designRulesSpec)

/-- 'ratchetlaw15.DesignBroken', WHERE WHAT IT READS IS OF BULK AT MOST 1048576: true; the input reads as it did. -/
def designBrokenUptoRow : OpenClaim := { program := "ytoljdokffnjapaagreat", sum := "94057e9253ec78ba283d88da44f40306d67cc129cebfdfd723a76ad32a2f6ddd", func := "ratchet/ratchetlaw15.DesignBroken", spec := "designBroken", unfollowed := true, recurses := true, apart := false, narrowed := true }
def DesignBrokenUptoSaid : Prop := designBrokenUptoRow.holds Tryz.pinned (OpenSpec.upto designBrokenSpec)

/-- 'ratchetlaw15.DesignErrors', WHERE WHAT IT READS IS OF BULK AT MOST 1048576: true; the input reads as it did. -/
def designErrorsUptoRow : OpenClaim := { program := "ytoljdokffnjapaagreat", sum := "94057e9253ec78ba283d88da44f40306d67cc129cebfdfd723a76ad32a2f6ddd", func := "ratchet/ratchetlaw15.DesignErrors", spec := "designErrors", unfollowed := true, recurses := true, apart := false, narrowed := true }
def DesignErrorsUptoSaid : Prop := designErrorsUptoRow.holds Tryz.pinned (OpenSpec.upto designErrorsSpec)

/-- 'ratchetlaw15.DesignWholly', WHERE WHAT IT READS IS OF BULK AT MOST 1048576: true; the input reads as it did. -/
def designWhollyUptoRow : OpenClaim := { program := "ytoljdokffnjapaagreat", sum := "94057e9253ec78ba283d88da44f40306d67cc129cebfdfd723a76ad32a2f6ddd", func := "ratchet/ratchetlaw15.DesignWholly", spec := "designWholly", unfollowed := true, recurses := true, apart := false, narrowed := true }
def DesignWhollyUptoSaid : Prop := designWhollyUptoRow.holds Tryz.pinned (OpenSpec.upto designWhollySpec)

/-- 'ratchetlaw15.DesignStates', WHERE WHAT IT READS IS OF BULK AT MOST 1048576: true; the input reads as it did. -/
def designStatesUptoRow : OpenClaim := { program := "ytoljdokffnjapaagreat", sum := "94057e9253ec78ba283d88da44f40306d67cc129cebfdfd723a76ad32a2f6ddd", func := "ratchet/ratchetlaw15.DesignStates", spec := "designStates", unfollowed := true, recurses := true, apart := false, narrowed := true }
def DesignStatesUptoSaid : Prop := designStatesUptoRow.holds Tryz.pinned (OpenSpec.upto designStatesSpec)

/-- 'ratchetlaw15.DesignClosed', WHERE WHAT IT READS IS OF BULK AT MOST 1048576: true; the input reads as it did. -/
def designClosedUptoRow : OpenClaim := { program := "ytoljdokffnjapaagreat", sum := "94057e9253ec78ba283d88da44f40306d67cc129cebfdfd723a76ad32a2f6ddd", func := "ratchet/ratchetlaw15.DesignClosed", spec := "designClosed", unfollowed := true, recurses := true, apart := false, narrowed := true }
def DesignClosedUptoSaid : Prop := designClosedUptoRow.holds Tryz.pinned (OpenSpec.upto designClosedSpec)

/-- 'ratchetlaw15.DesignReached', WHERE WHAT IT READS IS OF BULK AT MOST 1048576: true; the input reads as it did. -/
def designReachedUptoRow : OpenClaim := { program := "ytoljdokffnjapaagreat", sum := "94057e9253ec78ba283d88da44f40306d67cc129cebfdfd723a76ad32a2f6ddd", func := "ratchet/ratchetlaw15.DesignReached", spec := "designReached", unfollowed := true, recurses := true, apart := false, narrowed := true }
def DesignReachedUptoSaid : Prop := designReachedUptoRow.holds Tryz.pinned (OpenSpec.upto designReachedSpec)

/-- 'ratchetlaw15.DesignInvariant', WHERE WHAT IT READS IS OF BULK AT MOST 1048576: true; the input reads as it did. -/
def designInvariantUptoRow : OpenClaim := { program := "ytoljdokffnjapaagreat", sum := "94057e9253ec78ba283d88da44f40306d67cc129cebfdfd723a76ad32a2f6ddd", func := "ratchet/ratchetlaw15.DesignInvariant", spec := "designInvariant", unfollowed := true, recurses := true, apart := false, narrowed := true }
def DesignInvariantUptoSaid : Prop := designInvariantUptoRow.holds Tryz.pinned (OpenSpec.upto designInvariantSpec)

end Rows
end Go.Proofs.YtoljdokffnjapaaGreat
