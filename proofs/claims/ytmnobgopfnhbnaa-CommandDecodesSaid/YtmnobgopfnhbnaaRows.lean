/-
  NARROWER THAN 'FOR EVERY INPUT', by the rows' own cells (each row's printed sentence says how): CommandRight: loops · CommandPolicies: loops · CommandSame: loops · CommandRoundTrip: loops · CommandEncodes: loops.
  DERIVED. THE GIVEN ROWS OF THIS SEAT. 7 by the template 'for every input the law returns true; each argument reads behind the call as it read before'; 0 by the template 'total and deterministic' (their statements: YtmnobgopfnhbnaaTotals.lean).
  GIVEN WITH THE SEED: the statements are not yours to turn. If you find one false, say at which input.
  Laid BY PROGRAM, IN A SANDBOX (cutbox-rows.mjs): the forced cells as the released guide's own fill.sh prints them over the translation 4d81451aa5e8c72c… (all of the seat's roots in one cut). By AI agents, Wed Nov 11 2026. No macro, syntax, notation, axiom, sorry.
-/
import Derived.Test.YtmnobgopfnhbnaaChecked
import GoSem.Claim
import GoSem.ClaimJoined
import GoSem.ClaimMapViews
import Derived.JoinedTies
import Derived.KernelRfl
namespace Go.Proofs.Ytmnobgopfnhbnaa
/- THE CELL 'sum', in the pinned program and in every row, IS THE sha256 OF THE DUMP (.gsa) THAT YtmnobgopfnhbnaaProg.lean LOADS. Nothing in Lean hashes anything: it is a label: what it is worth is what the hold of that sum in a sandbox is worth. -/
noncomputable def Try.pinned : Pinned := { name := "ytmnobgopfnhbnaa", sum := "4d81451aa5e8c72c6deae0e5ac0e3d3d28ba57e57c90e01d6c9f0d1e3bce68c2", checked := Try.checked }
namespace Rows
def none {H : Type} : Left H := { results := [], args := [] }

/-- 'workflowlaw20.CommandRight': WHATEVER THE INPUT: true; the input reads as it did. -/
def commandRightSpec : ChangeSpec := { name := "commandRight", fn := fun _ => fun
  | [d] => { results := [.lit (.bool true)], args := [d] }
  | _ => none }
def commandRightRow : OpenClaim := { program := "ytmnobgopfnhbnaa", sum := "4d81451aa5e8c72c6deae0e5ac0e3d3d28ba57e57c90e01d6c9f0d1e3bce68c2", func := "workflow/workflowlaw20.CommandRight", spec := "commandRight", unfollowed := true, recurses := true, loops := true, apart := false }
def CommandRightSaid : Prop := commandRightRow.holds Try.pinned (OpenSpec.ofChange commandRightSpec)

/-- ITS FALSE NEIGHBOUR: 'it returns false'. Refute it at one input. -/
def commandRightWrong : ChangeSpec := { name := "commandRight", fn := fun _ => fun
  | [d] => { results := [.lit (.bool false)], args := [d] }
  | _ => none }
def CommandRightWrongFalsely : Prop := commandRightRow.holds Try.pinned (OpenSpec.ofChange commandRightWrong)

/-- 'workflowlaw20.CommandPolicies': WHATEVER THE INPUT: true; the input reads as it did. -/
def commandPoliciesSpec : ChangeSpec := { name := "commandPolicies", fn := fun _ => fun
  | [d] => { results := [.lit (.bool true)], args := [d] }
  | _ => none }
def commandPoliciesRow : OpenClaim := { program := "ytmnobgopfnhbnaa", sum := "4d81451aa5e8c72c6deae0e5ac0e3d3d28ba57e57c90e01d6c9f0d1e3bce68c2", func := "workflow/workflowlaw20.CommandPolicies", spec := "commandPolicies", unfollowed := true, recurses := true, loops := true, apart := false }
def CommandPoliciesSaid : Prop := commandPoliciesRow.holds Try.pinned (OpenSpec.ofChange commandPoliciesSpec)

/-- ITS FALSE NEIGHBOUR: 'it returns false'. Refute it at one input. -/
def commandPoliciesWrong : ChangeSpec := { name := "commandPolicies", fn := fun _ => fun
  | [d] => { results := [.lit (.bool false)], args := [d] }
  | _ => none }
def CommandPoliciesWrongFalsely : Prop := commandPoliciesRow.holds Try.pinned (OpenSpec.ofChange commandPoliciesWrong)

/-- 'workflowlaw20.CommandSame': WHATEVER THE INPUT: true; the input reads as it did. -/
def commandSameSpec : ChangeSpec := { name := "commandSame", fn := fun _ => fun
  | [d1, d2] => { results := [.lit (.bool true)], args := [d1, d2] }
  | _ => none }
def commandSameRow : OpenClaim := { program := "ytmnobgopfnhbnaa", sum := "4d81451aa5e8c72c6deae0e5ac0e3d3d28ba57e57c90e01d6c9f0d1e3bce68c2", func := "workflow/workflowlaw20.CommandSame", spec := "commandSame", unfollowed := true, recurses := true, loops := true, apart := false }
def CommandSameSaid : Prop := commandSameRow.holds Try.pinned (OpenSpec.ofChange commandSameSpec)

/-- ITS FALSE NEIGHBOUR: 'it returns false'. Refute it at one input. -/
def commandSameWrong : ChangeSpec := { name := "commandSame", fn := fun _ => fun
  | [d1, d2] => { results := [.lit (.bool false)], args := [d1, d2] }
  | _ => none }
def CommandSameWrongFalsely : Prop := commandSameRow.holds Try.pinned (OpenSpec.ofChange commandSameWrong)

/-- 'workflowlaw20.CommandDecodes': WHATEVER THE INPUT: true; the input reads as it did. -/
def commandDecodesSpec : ChangeSpec := { name := "commandDecodes", fn := fun _ => fun
  | [d] => { results := [.lit (.bool true)], args := [d] }
  | _ => none }
def commandDecodesRow : OpenClaim := { program := "ytmnobgopfnhbnaa", sum := "4d81451aa5e8c72c6deae0e5ac0e3d3d28ba57e57c90e01d6c9f0d1e3bce68c2", func := "workflow/workflowlaw20.CommandDecodes", spec := "commandDecodes", unfollowed := true, recurses := true, apart := false }
def CommandDecodesSaid : Prop := commandDecodesRow.holds Try.pinned (OpenSpec.ofChange commandDecodesSpec)

/-- ITS FALSE NEIGHBOUR: 'it returns false'. Refute it at one input. -/
def commandDecodesWrong : ChangeSpec := { name := "commandDecodes", fn := fun _ => fun
  | [d] => { results := [.lit (.bool false)], args := [d] }
  | _ => none }
def CommandDecodesWrongFalsely : Prop := commandDecodesRow.holds Try.pinned (OpenSpec.ofChange commandDecodesWrong)

/-- 'workflowlaw20.CommandRoundTrip': WHATEVER THE INPUT: true; the input reads as it did. -/
def commandRoundTripSpec : ChangeSpec := { name := "commandRoundTrip", fn := fun _ => fun
  | [d1, d2] => { results := [.lit (.bool true)], args := [d1, d2] }
  | _ => none }
def commandRoundTripRow : OpenClaim := { program := "ytmnobgopfnhbnaa", sum := "4d81451aa5e8c72c6deae0e5ac0e3d3d28ba57e57c90e01d6c9f0d1e3bce68c2", func := "workflow/workflowlaw20.CommandRoundTrip", spec := "commandRoundTrip", unfollowed := true, recurses := true, loops := true, apart := false }
def CommandRoundTripSaid : Prop := commandRoundTripRow.holds Try.pinned (OpenSpec.ofChange commandRoundTripSpec)

/-- ITS FALSE NEIGHBOUR: 'it returns false'. Refute it at one input. -/
def commandRoundTripWrong : ChangeSpec := { name := "commandRoundTrip", fn := fun _ => fun
  | [d1, d2] => { results := [.lit (.bool false)], args := [d1, d2] }
  | _ => none }
def CommandRoundTripWrongFalsely : Prop := commandRoundTripRow.holds Try.pinned (OpenSpec.ofChange commandRoundTripWrong)

/-- 'workflowlaw20.CommandEncodes': WHATEVER THE INPUT: true; the input reads as it did. -/
def commandEncodesSpec : ChangeSpec := { name := "commandEncodes", fn := fun _ => fun
  | [d1, d2] => { results := [.lit (.bool true)], args := [d1, d2] }
  | _ => none }
def commandEncodesRow : OpenClaim := { program := "ytmnobgopfnhbnaa", sum := "4d81451aa5e8c72c6deae0e5ac0e3d3d28ba57e57c90e01d6c9f0d1e3bce68c2", func := "workflow/workflowlaw20.CommandEncodes", spec := "commandEncodes", unfollowed := true, recurses := true, loops := true, apart := false }
def CommandEncodesSaid : Prop := commandEncodesRow.holds Try.pinned (OpenSpec.ofChange commandEncodesSpec)

/-- ITS FALSE NEIGHBOUR: 'it returns false'. Refute it at one input. -/
def commandEncodesWrong : ChangeSpec := { name := "commandEncodes", fn := fun _ => fun
  | [d1, d2] => { results := [.lit (.bool false)], args := [d1, d2] }
  | _ => none }
def CommandEncodesWrongFalsely : Prop := commandEncodesRow.holds Try.pinned (OpenSpec.ofChange commandEncodesWrong)

/-- 'workflowlaw20.CommandNames': WHATEVER THE INPUT: true; the input reads as it did. -/
def commandNamesSpec : ChangeSpec := { name := "commandNames", fn := fun _ => fun
  | [d] => { results := [.lit (.bool true)], args := [d] }
  | _ => none }
def commandNamesRow : OpenClaim := { program := "ytmnobgopfnhbnaa", sum := "4d81451aa5e8c72c6deae0e5ac0e3d3d28ba57e57c90e01d6c9f0d1e3bce68c2", func := "workflow/workflowlaw20.CommandNames", spec := "commandNames", unfollowed := true, recurses := true, apart := false }
def CommandNamesSaid : Prop := commandNamesRow.holds Try.pinned (OpenSpec.ofChange commandNamesSpec)

/-- ITS FALSE NEIGHBOUR: 'it returns false'. Refute it at one input. -/
def commandNamesWrong : ChangeSpec := { name := "commandNames", fn := fun _ => fun
  | [d] => { results := [.lit (.bool false)], args := [d] }
  | _ => none }
def CommandNamesWrongFalsely : Prop := commandNamesRow.holds Try.pinned (OpenSpec.ofChange commandNamesWrong)

/- THE SECOND FORM. 'bulk': how many values and letters a reading holds, each counted each time it is reached (what is shared counts as often as it is met; a slice's spare places count too). A statement '..UptoSaid' is the law's where the arguments, and the package variables that the reading takes, are together of bulk at most 1048576: NARROWER than '..Said'. Prove '..Said' where nothing that the law and all that it calls make is longer than what came in: it says more and counts as full. Else prove '..UptoSaid'. A law counts once. -/
mutual
def uptoBulk {H : Type} : DataW H → Nat
  | .lit (.string bytes) => bytes.length + 1
  | .lit _ => 1
  | .nil => 1
  | .ptr d => uptoBulk d + 1
  | .slice elems spare => uptoBulkAll elems + uptoBulkAll spare + 1
  | .agg parts => uptoBulkAll parts + 1
  | .iface _ d => uptoBulk d + 1
  | .map entries => uptoBulkEntries entries + 1
  | .held _ => 1
def uptoBulkAll {H : Type} : List (DataW H) → Nat
  | [] => 0
  | d :: r => uptoBulk d + uptoBulkAll r
def uptoBulkEntries {H : Type} : List (Lit × DataW H) → Nat
  | [] => 0
  | x :: r => uptoBulkEntry x + uptoBulkEntries r
def uptoBulkEntry {H : Type} : Lit × DataW H → Nat
  | (.string bytes, d) => bytes.length + uptoBulk d + 1
  | (_, d) => uptoBulk d + 1
 end
def uptoSmall : (H : Type) → List (DataW H) → Bool := fun _ ds => decide (uptoBulkAll ds ≤ 1048576)
def OpenSpec.upto (s : _root_.Go.ChangeSpec) : _root_.Go.OpenSpec := { _root_.Go.OpenSpec.ofChange s with cond := some uptoSmall }

/-- 'workflowlaw20.CommandRight', WHERE WHAT IT READS IS OF BULK AT MOST 1048576: true; the input reads as it did. -/
def commandRightUptoRow : OpenClaim := { program := "ytmnobgopfnhbnaa", sum := "4d81451aa5e8c72c6deae0e5ac0e3d3d28ba57e57c90e01d6c9f0d1e3bce68c2", func := "workflow/workflowlaw20.CommandRight", spec := "commandRight", unfollowed := true, recurses := true, loops := true, apart := false, narrowed := true }
def CommandRightUptoSaid : Prop := commandRightUptoRow.holds Try.pinned (OpenSpec.upto commandRightSpec)

/-- 'workflowlaw20.CommandPolicies', WHERE WHAT IT READS IS OF BULK AT MOST 1048576: true; the input reads as it did. -/
def commandPoliciesUptoRow : OpenClaim := { program := "ytmnobgopfnhbnaa", sum := "4d81451aa5e8c72c6deae0e5ac0e3d3d28ba57e57c90e01d6c9f0d1e3bce68c2", func := "workflow/workflowlaw20.CommandPolicies", spec := "commandPolicies", unfollowed := true, recurses := true, loops := true, apart := false, narrowed := true }
def CommandPoliciesUptoSaid : Prop := commandPoliciesUptoRow.holds Try.pinned (OpenSpec.upto commandPoliciesSpec)

/-- 'workflowlaw20.CommandSame', WHERE WHAT IT READS IS OF BULK AT MOST 1048576: true; the input reads as it did. -/
def commandSameUptoRow : OpenClaim := { program := "ytmnobgopfnhbnaa", sum := "4d81451aa5e8c72c6deae0e5ac0e3d3d28ba57e57c90e01d6c9f0d1e3bce68c2", func := "workflow/workflowlaw20.CommandSame", spec := "commandSame", unfollowed := true, recurses := true, loops := true, apart := false, narrowed := true }
def CommandSameUptoSaid : Prop := commandSameUptoRow.holds Try.pinned (OpenSpec.upto commandSameSpec)

/-- 'workflowlaw20.CommandDecodes', WHERE WHAT IT READS IS OF BULK AT MOST 1048576: true; the input reads as it did. -/
def commandDecodesUptoRow : OpenClaim := { program := "ytmnobgopfnhbnaa", sum := "4d81451aa5e8c72c6deae0e5ac0e3d3d28ba57e57c90e01d6c9f0d1e3bce68c2", func := "workflow/workflowlaw20.CommandDecodes", spec := "commandDecodes", unfollowed := true, recurses := true, apart := false, narrowed := true }
def CommandDecodesUptoSaid : Prop := commandDecodesUptoRow.holds Try.pinned (OpenSpec.upto commandDecodesSpec)

/-- 'workflowlaw20.CommandRoundTrip', WHERE WHAT IT READS IS OF BULK AT MOST 1048576: true; the input reads as it did. -/
def commandRoundTripUptoRow : OpenClaim := { program := "ytmnobgopfnhbnaa", sum := "4d81451aa5e8c72c6deae0e5ac0e3d3d28ba57e57c90e01d6c9f0d1e3bce68c2", func := "workflow/workflowlaw20.CommandRoundTrip", spec := "commandRoundTrip", unfollowed := true, recurses := true, loops := true, apart := false, narrowed := true }
def CommandRoundTripUptoSaid : Prop := commandRoundTripUptoRow.holds Try.pinned (OpenSpec.upto commandRoundTripSpec)

/-- 'workflowlaw20.CommandEncodes', WHERE WHAT IT READS IS OF BULK AT MOST 1048576: true; the input reads as it did. -/
def commandEncodesUptoRow : OpenClaim := { program := "ytmnobgopfnhbnaa", sum := "4d81451aa5e8c72c6deae0e5ac0e3d3d28ba57e57c90e01d6c9f0d1e3bce68c2", func := "workflow/workflowlaw20.CommandEncodes", spec := "commandEncodes", unfollowed := true, recurses := true, loops := true, apart := false, narrowed := true }
def CommandEncodesUptoSaid : Prop := commandEncodesUptoRow.holds Try.pinned (OpenSpec.upto commandEncodesSpec)

/-- 'workflowlaw20.CommandNames', WHERE WHAT IT READS IS OF BULK AT MOST 1048576: true; the input reads as it did. -/
def commandNamesUptoRow : OpenClaim := { program := "ytmnobgopfnhbnaa", sum := "4d81451aa5e8c72c6deae0e5ac0e3d3d28ba57e57c90e01d6c9f0d1e3bce68c2", func := "workflow/workflowlaw20.CommandNames", spec := "commandNames", unfollowed := true, recurses := true, apart := false, narrowed := true }
def CommandNamesUptoSaid : Prop := commandNamesUptoRow.holds Try.pinned (OpenSpec.upto commandNamesSpec)

end Rows
end Go.Proofs.Ytmnobgopfnhbnaa
