/-
  No cell of these rows narrows 'for every input' (looked for: loops, veiled, ifaces, maps, wideKeys, modest, calm, conditions, laid).
  DERIVED. THE GIVEN ROWS OF THIS SEAT. 7 by the template 'for every input the law returns true; each argument reads behind the call as it read before'; 0 by the template 'total and deterministic' (their statements: YtbnakdpmjlcneaaGreatTotals.lean).
  GIVEN WITH THE SEED: the statements are not yours to turn. If you find one false, say at which input.
  Laid BY PROGRAM, IN A SANDBOX (cutbox-rows.mjs): the forced cells as the released guide's own fill.sh prints them over the translation 4611f16c13df75f1… (all of the seat's roots in one cut). By AI agents, Wed Nov 11 2026. No macro, syntax, notation, axiom, sorry.
-/
import Derived.Test.YtbnakdpmjlcneaaGreatChecked
import GoSem.Claim
import GoSem.ClaimJoined
import GoSem.ClaimMapViews
import Derived.JoinedTies
import Derived.KernelRfl
namespace Go.Proofs.YtbnakdpmjlcneaaGreat
/- THE CELL 'sum', in the pinned program and in every row, IS THE sha256 OF THE DUMP (.gsa) THAT YtbnakdpmjlcneaaGreatProg.lean LOADS. Nothing in Lean hashes anything: it is a label: what it is worth is what the hold of that sum in a sandbox is worth. -/
noncomputable def Tryz.pinned : Pinned := { name := "ytbnakdpmjlcneaagreat", sum := "4611f16c13df75f182a022bf910d0871f4db011f97d7a6b4f124819d1477bad8", checked := Tryz.checked }
namespace Rows
def none {H : Type} : Left H := { results := [], args := [] }

/-- 'ratchetlaw22.NetlistErrors': WHATEVER THE INPUT: true; the input reads as it did. -/
def netlistErrorsSpec : ChangeSpec := { name := "netlistErrors", fn := fun _ => fun
  | [d] => { results := [.lit (.bool true)], args := [d] }
  | _ => none }
def netlistErrorsRow : OpenClaim := { program := "ytbnakdpmjlcneaagreat", sum := "4611f16c13df75f182a022bf910d0871f4db011f97d7a6b4f124819d1477bad8", func := "ratchet/ratchetlaw22.NetlistErrors", spec := "netlistErrors", unfollowed := true, recurses := true, apart := false }
def NetlistErrorsSaid : Prop := netlistErrorsRow.holds Tryz.pinned (OpenSpec.ofChange netlistErrorsSpec)

/-- ITS FALSE NEIGHBOUR: 'it returns false'. Refute it at one input. -/
def netlistErrorsWrong : ChangeSpec := { name := "netlistErrors", fn := fun _ => fun
  | [d] => { results := [.lit (.bool false)], args := [d] }
  | _ => none }
def NetlistErrorsWrongFalsely : Prop := netlistErrorsRow.holds Tryz.pinned (OpenSpec.ofChange netlistErrorsWrong)

/-- 'ratchetlaw22.NetlistClocks': WHATEVER THE INPUT: true; the input reads as it did. -/
def netlistClocksSpec : ChangeSpec := { name := "netlistClocks", fn := fun _ => fun
  | [d1, d2, d3] => { results := [.lit (.bool true)], args := [d1, d2, d3] }
  | _ => none }
def netlistClocksRow : OpenClaim := { program := "ytbnakdpmjlcneaagreat", sum := "4611f16c13df75f182a022bf910d0871f4db011f97d7a6b4f124819d1477bad8", func := "ratchet/ratchetlaw22.NetlistClocks", spec := "netlistClocks", unfollowed := true, recurses := true, apart := false }
def NetlistClocksSaid : Prop := netlistClocksRow.holds Tryz.pinned (OpenSpec.ofChange netlistClocksSpec)

/-- ITS FALSE NEIGHBOUR: 'it returns false'. Refute it at one input. -/
def netlistClocksWrong : ChangeSpec := { name := "netlistClocks", fn := fun _ => fun
  | [d1, d2, d3] => { results := [.lit (.bool false)], args := [d1, d2, d3] }
  | _ => none }
def NetlistClocksWrongFalsely : Prop := netlistClocksRow.holds Tryz.pinned (OpenSpec.ofChange netlistClocksWrong)

/-- 'ratchetlaw22.NetlistUsed': WHATEVER THE INPUT: true; the input reads as it did. -/
def netlistUsedSpec : ChangeSpec := { name := "netlistUsed", fn := fun _ => fun
  | [d] => { results := [.lit (.bool true)], args := [d] }
  | _ => none }
def netlistUsedRow : OpenClaim := { program := "ytbnakdpmjlcneaagreat", sum := "4611f16c13df75f182a022bf910d0871f4db011f97d7a6b4f124819d1477bad8", func := "ratchet/ratchetlaw22.NetlistUsed", spec := "netlistUsed", unfollowed := true, recurses := true, apart := false }
def NetlistUsedSaid : Prop := netlistUsedRow.holds Tryz.pinned (OpenSpec.ofChange netlistUsedSpec)

/-- ITS FALSE NEIGHBOUR: 'it returns false'. Refute it at one input. -/
def netlistUsedWrong : ChangeSpec := { name := "netlistUsed", fn := fun _ => fun
  | [d] => { results := [.lit (.bool false)], args := [d] }
  | _ => none }
def NetlistUsedWrongFalsely : Prop := netlistUsedRow.holds Tryz.pinned (OpenSpec.ofChange netlistUsedWrong)

/-- 'ratchetlaw22.NetlistProofs': WHATEVER THE INPUT: true; the input reads as it did. -/
def netlistProofsSpec : ChangeSpec := { name := "netlistProofs", fn := fun _ => fun
  | [d1, d2, d3] => { results := [.lit (.bool true)], args := [d1, d2, d3] }
  | _ => none }
def netlistProofsRow : OpenClaim := { program := "ytbnakdpmjlcneaagreat", sum := "4611f16c13df75f182a022bf910d0871f4db011f97d7a6b4f124819d1477bad8", func := "ratchet/ratchetlaw22.NetlistProofs", spec := "netlistProofs", unfollowed := true, recurses := true, apart := false }
def NetlistProofsSaid : Prop := netlistProofsRow.holds Tryz.pinned (OpenSpec.ofChange netlistProofsSpec)

/-- ITS FALSE NEIGHBOUR: 'it returns false'. Refute it at one input. -/
def netlistProofsWrong : ChangeSpec := { name := "netlistProofs", fn := fun _ => fun
  | [d1, d2, d3] => { results := [.lit (.bool false)], args := [d1, d2, d3] }
  | _ => none }
def NetlistProofsWrongFalsely : Prop := netlistProofsRow.holds Tryz.pinned (OpenSpec.ofChange netlistProofsWrong)

/-- 'ratchetlaw22.NetlistReached': WHATEVER THE INPUT: true; the input reads as it did. -/
def netlistReachedSpec : ChangeSpec := { name := "netlistReached", fn := fun _ => fun
  | [d1, d2] => { results := [.lit (.bool true)], args := [d1, d2] }
  | _ => none }
def netlistReachedRow : OpenClaim := { program := "ytbnakdpmjlcneaagreat", sum := "4611f16c13df75f182a022bf910d0871f4db011f97d7a6b4f124819d1477bad8", func := "ratchet/ratchetlaw22.NetlistReached", spec := "netlistReached", unfollowed := true, recurses := true, apart := false }
def NetlistReachedSaid : Prop := netlistReachedRow.holds Tryz.pinned (OpenSpec.ofChange netlistReachedSpec)

/-- ITS FALSE NEIGHBOUR: 'it returns false'. Refute it at one input. -/
def netlistReachedWrong : ChangeSpec := { name := "netlistReached", fn := fun _ => fun
  | [d1, d2] => { results := [.lit (.bool false)], args := [d1, d2] }
  | _ => none }
def NetlistReachedWrongFalsely : Prop := netlistReachedRow.holds Tryz.pinned (OpenSpec.ofChange netlistReachedWrong)

/-- 'ratchetlaw22.NetlistDifferences': WHATEVER THE INPUT: true; the input reads as it did. -/
def netlistDifferencesSpec : ChangeSpec := { name := "netlistDifferences", fn := fun _ => fun
  | [d1, d2] => { results := [.lit (.bool true)], args := [d1, d2] }
  | _ => none }
def netlistDifferencesRow : OpenClaim := { program := "ytbnakdpmjlcneaagreat", sum := "4611f16c13df75f182a022bf910d0871f4db011f97d7a6b4f124819d1477bad8", func := "ratchet/ratchetlaw22.NetlistDifferences", spec := "netlistDifferences", unfollowed := true, recurses := true, apart := false }
def NetlistDifferencesSaid : Prop := netlistDifferencesRow.holds Tryz.pinned (OpenSpec.ofChange netlistDifferencesSpec)

/-- ITS FALSE NEIGHBOUR: 'it returns false'. Refute it at one input. -/
def netlistDifferencesWrong : ChangeSpec := { name := "netlistDifferences", fn := fun _ => fun
  | [d1, d2] => { results := [.lit (.bool false)], args := [d1, d2] }
  | _ => none }
def NetlistDifferencesWrongFalsely : Prop := netlistDifferencesRow.holds Tryz.pinned (OpenSpec.ofChange netlistDifferencesWrong)

/-- 'ratchetlaw22.NetlistSame': WHATEVER THE INPUT: true; the input reads as it did. -/
def netlistSameSpec : ChangeSpec := { name := "netlistSame", fn := fun _ => fun
  | [d1, d2, d3] => { results := [.lit (.bool true)], args := [d1, d2, d3] }
  | _ => none }
def netlistSameRow : OpenClaim := { program := "ytbnakdpmjlcneaagreat", sum := "4611f16c13df75f182a022bf910d0871f4db011f97d7a6b4f124819d1477bad8", func := "ratchet/ratchetlaw22.NetlistSame", spec := "netlistSame", unfollowed := true, recurses := true, apart := false }
def NetlistSameSaid : Prop := netlistSameRow.holds Tryz.pinned (OpenSpec.ofChange netlistSameSpec)

/-- ITS FALSE NEIGHBOUR: 'it returns false'. Refute it at one input. -/
def netlistSameWrong : ChangeSpec := { name := "netlistSame", fn := fun _ => fun
  | [d1, d2, d3] => { results := [.lit (.bool false)], args := [d1, d2, d3] }
  | _ => none }
def NetlistSameWrongFalsely : Prop := netlistSameRow.holds Tryz.pinned (OpenSpec.ofChange netlistSameWrong)

/- THE SECOND FORM. 'bulk': how many values and letters a reading holds, each counted each time it is reached (what is shared counts as often as it is met; a slice's spare places count too). A statement '..UptoSaid' is the law's where the arguments, and the package variables that the reading takes, are together of bulk at most 1048576: NARROWER than '..Said'. Prove '..Said' where nothing that the law and all that it calls make is longer than what came in: it says more and counts as full. Else prove '..UptoSaid'. A law counts once. -/
mutual
def uptoBulk {H : Type} : DataW H → Nat
  | .lit (.string bytes) => bytes.length + 1
  | .lit _ => 1
  | .nil => 1
  | .ptr d => uptoBulk d + 1
  | .slice elems spare => uptoBulkAll elems + uptoBulkAll spare + 1
  | .agg parts => uptoBulkAll parts + 1
  | .iface _ d => uptoBulk d + 1
  | .map entries => uptoBulkEntries entries + 1
  | .held _ => 1
def uptoBulkAll {H : Type} : List (DataW H) → Nat
  | [] => 0
  | d :: r => uptoBulk d + uptoBulkAll r
def uptoBulkEntries {H : Type} : List (Lit × DataW H) → Nat
  | [] => 0
  | x :: r => uptoBulkEntry x + uptoBulkEntries r
def uptoBulkEntry {H : Type} : Lit × DataW H → Nat
  | (.string bytes, d) => bytes.length + uptoBulk d + 1
  | (_, d) => uptoBulk d + 1
 end
def uptoSmall : (H : Type) → List (DataW H) → Bool := fun _ ds => decide (uptoBulkAll ds ≤ 1048576)
def OpenSpec.upto (s : _root_.Go.ChangeSpec) : _root_.Go.OpenSpec := { _root_.Go.OpenSpec.ofChange s with cond := some uptoSmall }

/-- 'ratchetlaw22.NetlistErrors', WHERE WHAT IT READS IS OF BULK AT MOST 1048576: true; the input reads as it did. -/
def netlistErrorsUptoRow : OpenClaim := { program := "ytbnakdpmjlcneaagreat", sum := "4611f16c13df75f182a022bf910d0871f4db011f97d7a6b4f124819d1477bad8", func := "ratchet/ratchetlaw22.NetlistErrors", spec := "netlistErrors", unfollowed := true, recurses := true, apart := false, narrowed := true }
def NetlistErrorsUptoSaid : Prop := netlistErrorsUptoRow.holds Tryz.pinned (OpenSpec.upto netlistErrorsSpec)

/-- 'ratchetlaw22.NetlistClocks', WHERE WHAT IT READS IS OF BULK AT MOST 1048576: true; the input reads as it did. -/
def netlistClocksUptoRow : OpenClaim := { program := "ytbnakdpmjlcneaagreat", sum := "4611f16c13df75f182a022bf910d0871f4db011f97d7a6b4f124819d1477bad8", func := "ratchet/ratchetlaw22.NetlistClocks", spec := "netlistClocks", unfollowed := true, recurses := true, apart := false, narrowed := true }
def NetlistClocksUptoSaid : Prop := netlistClocksUptoRow.holds Tryz.pinned (OpenSpec.upto netlistClocksSpec)

/-- 'ratchetlaw22.NetlistUsed', WHERE WHAT IT READS IS OF BULK AT MOST 1048576: true; the input reads as it did. -/
def netlistUsedUptoRow : OpenClaim := { program := "ytbnakdpmjlcneaagreat", sum := "4611f16c13df75f182a022bf910d0871f4db011f97d7a6b4f124819d1477bad8", func := "ratchet/ratchetlaw22.NetlistUsed", spec := "netlistUsed", unfollowed := true, recurses := true, apart := false, narrowed := true }
def NetlistUsedUptoSaid : Prop := netlistUsedUptoRow.holds Tryz.pinned (OpenSpec.upto netlistUsedSpec)

/-- 'ratchetlaw22.NetlistProofs', WHERE WHAT IT READS IS OF BULK AT MOST 1048576: true; the input reads as it did. -/
def netlistProofsUptoRow : OpenClaim := { program := "ytbnakdpmjlcneaagreat", sum := "4611f16c13df75f182a022bf910d0871f4db011f97d7a6b4f124819d1477bad8", func := "ratchet/ratchetlaw22.NetlistProofs", spec := "netlistProofs", unfollowed := true, recurses := true, apart := false, narrowed := true }
def NetlistProofsUptoSaid : Prop := netlistProofsUptoRow.holds Tryz.pinned (OpenSpec.upto netlistProofsSpec)

/-- 'ratchetlaw22.NetlistReached', WHERE WHAT IT READS IS OF BULK AT MOST 1048576: true; the input reads as it did. -/
def netlistReachedUptoRow : OpenClaim := { program := "ytbnakdpmjlcneaagreat", sum := "4611f16c13df75f182a022bf910d0871f4db011f97d7a6b4f124819d1477bad8", func := "ratchet/ratchetlaw22.NetlistReached", spec := "netlistReached", unfollowed := true, recurses := true, apart := false, narrowed := true }
def NetlistReachedUptoSaid : Prop := netlistReachedUptoRow.holds Tryz.pinned (OpenSpec.upto netlistReachedSpec)

/-- 'ratchetlaw22.NetlistDifferences', WHERE WHAT IT READS IS OF BULK AT MOST 1048576: true; the input reads as it did. -/
def netlistDifferencesUptoRow : OpenClaim := { program := "ytbnakdpmjlcneaagreat", sum := "4611f16c13df75f182a022bf910d0871f4db011f97d7a6b4f124819d1477bad8", func := "ratchet/ratchetlaw22.NetlistDifferences", spec := "netlistDifferences", unfollowed := true, recurses := true, apart := false, narrowed := true }
def NetlistDifferencesUptoSaid : Prop := netlistDifferencesUptoRow.holds Tryz.pinned (OpenSpec.upto netlistDifferencesSpec)

/-- 'ratchetlaw22.NetlistSame', WHERE WHAT IT READS IS OF BULK AT MOST 1048576: true; the input reads as it did. -/
def netlistSameUptoRow : OpenClaim := { program := "ytbnakdpmjlcneaagreat", sum := "4611f16c13df75f182a022bf910d0871f4db011f97d7a6b4f124819d1477bad8", func := "ratchet/ratchetlaw22.NetlistSame", spec := "netlistSame", unfollowed := true, recurses := true, apart := false, narrowed := true }
def NetlistSameUptoSaid : Prop := netlistSameUptoRow.holds Tryz.pinned (OpenSpec.upto netlistSameSpec)

end Rows
end Go.Proofs.YtbnakdpmjlcneaaGreat
