/-
  NARROWER THAN 'FOR EVERY INPUT', by the rows' own cells (each row's printed sentence says how): DivergeMatches: loops · DivergeCompares: loops · DivergeReads: loops · DivergeAccepts: loops.
  DERIVED. THE GIVEN ROWS OF THIS SEAT. 11 by the template 'for every input the law returns true; each argument reads behind the call as it read before'; 0 by the template 'total and deterministic' (their statements: YtnhchphmmdgphaaTotals.lean).
  GIVEN WITH THE SEED: the statements are not yours to turn. If you find one false, say at which input.
  Laid BY PROGRAM, IN A SANDBOX (cutbox-rows.mjs): the forced cells as the released guide's own fill.sh prints them over the translation 07284f08a7ec56cd… (all of the seat's roots in one cut). By AI agents, Wed Nov 11 2026. No macro, syntax, notation, axiom, sorry.
-/
import Derived.Test.YtnhchphmmdgphaaChecked
import GoSem.Claim
import GoSem.ClaimJoined
import GoSem.ClaimMapViews
import Derived.JoinedTies
import Derived.KernelRfl
namespace Go.Proofs.Ytnhchphmmdgphaa
/- THE CELL 'sum', in the pinned program and in every row, IS THE sha256 OF THE DUMP (.gsa) THAT YtnhchphmmdgphaaProg.lean LOADS. Nothing in Lean hashes anything: it is a label: what it is worth is what the hold of that sum in a sandbox is worth. -/
noncomputable def Try.pinned : Pinned := { name := "ytnhchphmmdgphaa", sum := "07284f08a7ec56cd10b9df659a8a23d9533a4fe5d32068f4138270085e502a5b", checked := Try.checked }
namespace Rows
def none {H : Type} : Left H := { results := [], args := [] }

/-- 'workflowlaw01.WirePrefix': WHATEVER THE INPUT: true; the input reads as it did. -/
def wirePrefixSpec : ChangeSpec := { name := "wirePrefix", fn := fun _ => fun
  | [d1, d2] => { results := [.lit (.bool true)], args := [d1, d2] }
  | _ => none }
def wirePrefixRow : OpenClaim := { program := "ytnhchphmmdgphaa", sum := "07284f08a7ec56cd10b9df659a8a23d9533a4fe5d32068f4138270085e502a5b", func := "workflow/workflowlaw01.WirePrefix", spec := "wirePrefix", apart := false }
def WirePrefixSaid : Prop := wirePrefixRow.holds Try.pinned (OpenSpec.ofChange wirePrefixSpec)

/-- ITS FALSE NEIGHBOUR: 'it returns false'. Refute it at one input. -/
def wirePrefixWrong : ChangeSpec := { name := "wirePrefix", fn := fun _ => fun
  | [d1, d2] => { results := [.lit (.bool false)], args := [d1, d2] }
  | _ => none }
def WirePrefixWrongFalsely : Prop := wirePrefixRow.holds Try.pinned (OpenSpec.ofChange wirePrefixWrong)

/-- 'workflowlaw01.WireRange': WHATEVER THE INPUT: true; the input reads as it did. -/
def wireRangeSpec : ChangeSpec := { name := "wireRange", fn := fun _ => fun
  | [d1, d2, d3] => { results := [.lit (.bool true)], args := [d1, d2, d3] }
  | _ => none }
def wireRangeRow : OpenClaim := { program := "ytnhchphmmdgphaa", sum := "07284f08a7ec56cd10b9df659a8a23d9533a4fe5d32068f4138270085e502a5b", func := "workflow/workflowlaw01.WireRange", spec := "wireRange", apart := false }
def WireRangeSaid : Prop := wireRangeRow.holds Try.pinned (OpenSpec.ofChange wireRangeSpec)

/-- ITS FALSE NEIGHBOUR: 'it returns false'. Refute it at one input. -/
def wireRangeWrong : ChangeSpec := { name := "wireRange", fn := fun _ => fun
  | [d1, d2, d3] => { results := [.lit (.bool false)], args := [d1, d2, d3] }
  | _ => none }
def WireRangeWrongFalsely : Prop := wireRangeRow.holds Try.pinned (OpenSpec.ofChange wireRangeWrong)

/-- 'workflowlaw01.WirePuts': WHATEVER THE INPUT: true; the input reads as it did. -/
def wirePutsSpec : ChangeSpec := { name := "wirePuts", fn := fun _ => fun
  | [d1, d2, d3, d4] => { results := [.lit (.bool true)], args := [d1, d2, d3, d4] }
  | _ => none }
def wirePutsRow : OpenClaim := { program := "ytnhchphmmdgphaa", sum := "07284f08a7ec56cd10b9df659a8a23d9533a4fe5d32068f4138270085e502a5b", func := "workflow/workflowlaw01.WirePuts", spec := "wirePuts", apart := false }
def WirePutsSaid : Prop := wirePutsRow.holds Try.pinned (OpenSpec.ofChange wirePutsSpec)

/-- ITS FALSE NEIGHBOUR: 'it returns false'. Refute it at one input. -/
def wirePutsWrong : ChangeSpec := { name := "wirePuts", fn := fun _ => fun
  | [d1, d2, d3, d4] => { results := [.lit (.bool false)], args := [d1, d2, d3, d4] }
  | _ => none }
def WirePutsWrongFalsely : Prop := wirePutsRow.holds Try.pinned (OpenSpec.ofChange wirePutsWrong)

/-- 'workflowlaw27.DivergeMatches': WHATEVER THE INPUT: true; the input reads as it did. -/
def divergeMatchesSpec : ChangeSpec := { name := "divergeMatches", fn := fun _ => fun
  | [d1, d2] => { results := [.lit (.bool true)], args := [d1, d2] }
  | _ => none }
def divergeMatchesRow : OpenClaim := { program := "ytnhchphmmdgphaa", sum := "07284f08a7ec56cd10b9df659a8a23d9533a4fe5d32068f4138270085e502a5b", func := "workflow/workflowlaw27.DivergeMatches", spec := "divergeMatches", recurses := true, loops := true, apart := false }
def DivergeMatchesSaid : Prop := divergeMatchesRow.holds Try.pinned (OpenSpec.ofChange divergeMatchesSpec)

/-- ITS FALSE NEIGHBOUR: 'it returns false'. Refute it at one input. -/
def divergeMatchesWrong : ChangeSpec := { name := "divergeMatches", fn := fun _ => fun
  | [d1, d2] => { results := [.lit (.bool false)], args := [d1, d2] }
  | _ => none }
def DivergeMatchesWrongFalsely : Prop := divergeMatchesRow.holds Try.pinned (OpenSpec.ofChange divergeMatchesWrong)

/-- 'workflowlaw27.DivergeCompares': WHATEVER THE INPUT: true; the input reads as it did. -/
def divergeComparesSpec : ChangeSpec := { name := "divergeCompares", fn := fun _ => fun
  | [d1, d2] => { results := [.lit (.bool true)], args := [d1, d2] }
  | _ => none }
def divergeComparesRow : OpenClaim := { program := "ytnhchphmmdgphaa", sum := "07284f08a7ec56cd10b9df659a8a23d9533a4fe5d32068f4138270085e502a5b", func := "workflow/workflowlaw27.DivergeCompares", spec := "divergeCompares", recurses := true, loops := true, apart := false }
def DivergeComparesSaid : Prop := divergeComparesRow.holds Try.pinned (OpenSpec.ofChange divergeComparesSpec)

/-- ITS FALSE NEIGHBOUR: 'it returns false'. Refute it at one input. -/
def divergeComparesWrong : ChangeSpec := { name := "divergeCompares", fn := fun _ => fun
  | [d1, d2] => { results := [.lit (.bool false)], args := [d1, d2] }
  | _ => none }
def DivergeComparesWrongFalsely : Prop := divergeComparesRow.holds Try.pinned (OpenSpec.ofChange divergeComparesWrong)

/-- 'workflowlaw01.WireReads': WHATEVER THE INPUT: true; the input reads as it did. -/
def wireReadsSpec : ChangeSpec := { name := "wireReads", fn := fun _ => fun
  | [d1, d2] => { results := [.lit (.bool true)], args := [d1, d2] }
  | _ => none }
def wireReadsRow : OpenClaim := { program := "ytnhchphmmdgphaa", sum := "07284f08a7ec56cd10b9df659a8a23d9533a4fe5d32068f4138270085e502a5b", func := "workflow/workflowlaw01.WireReads", spec := "wireReads", apart := false }
def WireReadsSaid : Prop := wireReadsRow.holds Try.pinned (OpenSpec.ofChange wireReadsSpec)

/-- ITS FALSE NEIGHBOUR: 'it returns false'. Refute it at one input. -/
def wireReadsWrong : ChangeSpec := { name := "wireReads", fn := fun _ => fun
  | [d1, d2] => { results := [.lit (.bool false)], args := [d1, d2] }
  | _ => none }
def WireReadsWrongFalsely : Prop := wireReadsRow.holds Try.pinned (OpenSpec.ofChange wireReadsWrong)

/-- 'workflowlaw01.WireOwn': WHATEVER THE INPUT: true; the input reads as it did. -/
def wireOwnSpec : ChangeSpec := { name := "wireOwn", fn := fun _ => fun
  | [d1, d2] => { results := [.lit (.bool true)], args := [d1, d2] }
  | _ => none }
def wireOwnRow : OpenClaim := { program := "ytnhchphmmdgphaa", sum := "07284f08a7ec56cd10b9df659a8a23d9533a4fe5d32068f4138270085e502a5b", func := "workflow/workflowlaw01.WireOwn", spec := "wireOwn", apart := false }
def WireOwnSaid : Prop := wireOwnRow.holds Try.pinned (OpenSpec.ofChange wireOwnSpec)

/-- ITS FALSE NEIGHBOUR: 'it returns false'. Refute it at one input. -/
def wireOwnWrong : ChangeSpec := { name := "wireOwn", fn := fun _ => fun
  | [d1, d2] => { results := [.lit (.bool false)], args := [d1, d2] }
  | _ => none }
def WireOwnWrongFalsely : Prop := wireOwnRow.holds Try.pinned (OpenSpec.ofChange wireOwnWrong)

/-- 'workflowlaw01.WireRound': WHATEVER THE INPUT: true; the input reads as it did. -/
def wireRoundSpec : ChangeSpec := { name := "wireRound", fn := fun _ => fun
  | [d1, d2, d3, d4] => { results := [.lit (.bool true)], args := [d1, d2, d3, d4] }
  | _ => none }
def wireRoundRow : OpenClaim := { program := "ytnhchphmmdgphaa", sum := "07284f08a7ec56cd10b9df659a8a23d9533a4fe5d32068f4138270085e502a5b", func := "workflow/workflowlaw01.WireRound", spec := "wireRound", apart := false }
def WireRoundSaid : Prop := wireRoundRow.holds Try.pinned (OpenSpec.ofChange wireRoundSpec)

/-- ITS FALSE NEIGHBOUR: 'it returns false'. Refute it at one input. -/
def wireRoundWrong : ChangeSpec := { name := "wireRound", fn := fun _ => fun
  | [d1, d2, d3, d4] => { results := [.lit (.bool false)], args := [d1, d2, d3, d4] }
  | _ => none }
def WireRoundWrongFalsely : Prop := wireRoundRow.holds Try.pinned (OpenSpec.ofChange wireRoundWrong)

/-- 'workflowlaw01.WireCanonical': WHATEVER THE INPUT: true; the input reads as it did. -/
def wireCanonicalSpec : ChangeSpec := { name := "wireCanonical", fn := fun _ => fun
  | [d] => { results := [.lit (.bool true)], args := [d] }
  | _ => none }
def wireCanonicalRow : OpenClaim := { program := "ytnhchphmmdgphaa", sum := "07284f08a7ec56cd10b9df659a8a23d9533a4fe5d32068f4138270085e502a5b", func := "workflow/workflowlaw01.WireCanonical", spec := "wireCanonical", apart := false }
def WireCanonicalSaid : Prop := wireCanonicalRow.holds Try.pinned (OpenSpec.ofChange wireCanonicalSpec)

/-- ITS FALSE NEIGHBOUR: 'it returns false'. Refute it at one input. -/
def wireCanonicalWrong : ChangeSpec := { name := "wireCanonical", fn := fun _ => fun
  | [d] => { results := [.lit (.bool false)], args := [d] }
  | _ => none }
def WireCanonicalWrongFalsely : Prop := wireCanonicalRow.holds Try.pinned (OpenSpec.ofChange wireCanonicalWrong)

/-- 'workflowlaw27.DivergeReads': WHATEVER THE INPUT: true; the input reads as it did. -/
def divergeReadsSpec : ChangeSpec := { name := "divergeReads", fn := fun _ => fun
  | [d] => { results := [.lit (.bool true)], args := [d] }
  | _ => none }
def divergeReadsRow : OpenClaim := { program := "ytnhchphmmdgphaa", sum := "07284f08a7ec56cd10b9df659a8a23d9533a4fe5d32068f4138270085e502a5b", func := "workflow/workflowlaw27.DivergeReads", spec := "divergeReads", recurses := true, loops := true, apart := false }
def DivergeReadsSaid : Prop := divergeReadsRow.holds Try.pinned (OpenSpec.ofChange divergeReadsSpec)

/-- ITS FALSE NEIGHBOUR: 'it returns false'. Refute it at one input. -/
def divergeReadsWrong : ChangeSpec := { name := "divergeReads", fn := fun _ => fun
  | [d] => { results := [.lit (.bool false)], args := [d] }
  | _ => none }
def DivergeReadsWrongFalsely : Prop := divergeReadsRow.holds Try.pinned (OpenSpec.ofChange divergeReadsWrong)

/-- 'workflowlaw27.DivergeAccepts': WHATEVER THE INPUT: true; the input reads as it did. -/
def divergeAcceptsSpec : ChangeSpec := { name := "divergeAccepts", fn := fun _ => fun
  | [d1, d2, d3] => { results := [.lit (.bool true)], args := [d1, d2, d3] }
  | _ => none }
def divergeAcceptsRow : OpenClaim := { program := "ytnhchphmmdgphaa", sum := "07284f08a7ec56cd10b9df659a8a23d9533a4fe5d32068f4138270085e502a5b", func := "workflow/workflowlaw27.DivergeAccepts", spec := "divergeAccepts", unfollowed := true, recurses := true, loops := true, apart := false }
def DivergeAcceptsSaid : Prop := divergeAcceptsRow.holds Try.pinned (OpenSpec.ofChange divergeAcceptsSpec)

/-- ITS FALSE NEIGHBOUR: 'it returns false'. Refute it at one input. -/
def divergeAcceptsWrong : ChangeSpec := { name := "divergeAccepts", fn := fun _ => fun
  | [d1, d2, d3] => { results := [.lit (.bool false)], args := [d1, d2, d3] }
  | _ => none }
def DivergeAcceptsWrongFalsely : Prop := divergeAcceptsRow.holds Try.pinned (OpenSpec.ofChange divergeAcceptsWrong)

/- THE SECOND FORM. 'bulk': how many values and letters a reading holds, each counted each time it is reached (what is shared counts as often as it is met; a slice's spare places count too). A statement '..UptoSaid' is the law's where the arguments, and the package variables that the reading takes, are together of bulk at most 1048576: NARROWER than '..Said'. Prove '..Said' where nothing that the law and all that it calls make is longer than what came in: it says more and counts as full. Else prove '..UptoSaid'. A law counts once. -/
mutual
def uptoBulk {H : Type} : DataW H → Nat
  | .lit (.string bytes) => bytes.length + 1
  | .lit _ => 1
  | .nil => 1
  | .ptr d => uptoBulk d + 1
  | .slice elems spare => uptoBulkAll elems + uptoBulkAll spare + 1
  | .agg parts => uptoBulkAll parts + 1
  | .iface _ d => uptoBulk d + 1
  | .map entries => uptoBulkEntries entries + 1
  | .held _ => 1
def uptoBulkAll {H : Type} : List (DataW H) → Nat
  | [] => 0
  | d :: r => uptoBulk d + uptoBulkAll r
def uptoBulkEntries {H : Type} : List (Lit × DataW H) → Nat
  | [] => 0
  | x :: r => uptoBulkEntry x + uptoBulkEntries r
def uptoBulkEntry {H : Type} : Lit × DataW H → Nat
  | (.string bytes, d) => bytes.length + uptoBulk d + 1
  | (_, d) => uptoBulk d + 1
 end
def uptoSmall : (H : Type) → List (DataW H) → Bool := fun _ ds => decide (uptoBulkAll ds ≤ 1048576)
def OpenSpec.upto (s : _root_.Go.ChangeSpec) : _root_.Go.OpenSpec := { _root_.Go.OpenSpec.ofChange s with cond := some uptoSmall }

/-- 'workflowlaw01.WirePrefix', WHERE WHAT IT READS IS OF BULK AT MOST 1048576: true; the input reads as it did. -/
def wirePrefixUptoRow : OpenClaim := { program := "ytnhchphmmdgphaa", sum := "07284f08a7ec56cd10b9df659a8a23d9533a4fe5d32068f4138270085e502a5b", func := "workflow/workflowlaw01.WirePrefix", spec := "wirePrefix", apart := false, narrowed := true }
def WirePrefixUptoSaid : Prop := wirePrefixUptoRow.holds Try.pinned (OpenSpec.upto wirePrefixSpec)

/-- 'workflowlaw01.WireRange', WHERE WHAT IT READS IS OF BULK AT MOST 1048576: true; the input reads as it did. -/
def wireRangeUptoRow : OpenClaim := { program := "ytnhchphmmdgphaa", sum := "07284f08a7ec56cd10b9df659a8a23d9533a4fe5d32068f4138270085e502a5b", func := "workflow/workflowlaw01.WireRange", spec := "wireRange", apart := false, narrowed := true }
def WireRangeUptoSaid : Prop := wireRangeUptoRow.holds Try.pinned (OpenSpec.upto wireRangeSpec)

/-- 'workflowlaw01.WirePuts', WHERE WHAT IT READS IS OF BULK AT MOST 1048576: true; the input reads as it did. -/
def wirePutsUptoRow : OpenClaim := { program := "ytnhchphmmdgphaa", sum := "07284f08a7ec56cd10b9df659a8a23d9533a4fe5d32068f4138270085e502a5b", func := "workflow/workflowlaw01.WirePuts", spec := "wirePuts", apart := false, narrowed := true }
def WirePutsUptoSaid : Prop := wirePutsUptoRow.holds Try.pinned (OpenSpec.upto wirePutsSpec)

/-- 'workflowlaw27.DivergeMatches', WHERE WHAT IT READS IS OF BULK AT MOST 1048576: true; the input reads as it did. -/
def divergeMatchesUptoRow : OpenClaim := { program := "ytnhchphmmdgphaa", sum := "07284f08a7ec56cd10b9df659a8a23d9533a4fe5d32068f4138270085e502a5b", func := "workflow/workflowlaw27.DivergeMatches", spec := "divergeMatches", recurses := true, loops := true, apart := false, narrowed := true }
def DivergeMatchesUptoSaid : Prop := divergeMatchesUptoRow.holds Try.pinned (OpenSpec.upto divergeMatchesSpec)

/-- 'workflowlaw27.DivergeCompares', WHERE WHAT IT READS IS OF BULK AT MOST 1048576: true; the input reads as it did. -/
def divergeComparesUptoRow : OpenClaim := { program := "ytnhchphmmdgphaa", sum := "07284f08a7ec56cd10b9df659a8a23d9533a4fe5d32068f4138270085e502a5b", func := "workflow/workflowlaw27.DivergeCompares", spec := "divergeCompares", recurses := true, loops := true, apart := false, narrowed := true }
def DivergeComparesUptoSaid : Prop := divergeComparesUptoRow.holds Try.pinned (OpenSpec.upto divergeComparesSpec)

/-- 'workflowlaw01.WireReads', WHERE WHAT IT READS IS OF BULK AT MOST 1048576: true; the input reads as it did. -/
def wireReadsUptoRow : OpenClaim := { program := "ytnhchphmmdgphaa", sum := "07284f08a7ec56cd10b9df659a8a23d9533a4fe5d32068f4138270085e502a5b", func := "workflow/workflowlaw01.WireReads", spec := "wireReads", apart := false, narrowed := true }
def WireReadsUptoSaid : Prop := wireReadsUptoRow.holds Try.pinned (OpenSpec.upto wireReadsSpec)

/-- 'workflowlaw01.WireOwn', WHERE WHAT IT READS IS OF BULK AT MOST 1048576: true; the input reads as it did. -/
def wireOwnUptoRow : OpenClaim := { program := "ytnhchphmmdgphaa", sum := "07284f08a7ec56cd10b9df659a8a23d9533a4fe5d32068f4138270085e502a5b", func := "workflow/workflowlaw01.WireOwn", spec := "wireOwn", apart := false, narrowed := true }
def WireOwnUptoSaid : Prop := wireOwnUptoRow.holds Try.pinned (OpenSpec.upto wireOwnSpec)

/-- 'workflowlaw01.WireRound', WHERE WHAT IT READS IS OF BULK AT MOST 1048576: true; the input reads as it did. -/
def wireRoundUptoRow : OpenClaim := { program := "ytnhchphmmdgphaa", sum := "07284f08a7ec56cd10b9df659a8a23d9533a4fe5d32068f4138270085e502a5b", func := "workflow/workflowlaw01.WireRound", spec := "wireRound", apart := false, narrowed := true }
def WireRoundUptoSaid : Prop := wireRoundUptoRow.holds Try.pinned (OpenSpec.upto wireRoundSpec)

/-- 'workflowlaw01.WireCanonical', WHERE WHAT IT READS IS OF BULK AT MOST 1048576: true; the input reads as it did. -/
def wireCanonicalUptoRow : OpenClaim := { program := "ytnhchphmmdgphaa", sum := "07284f08a7ec56cd10b9df659a8a23d9533a4fe5d32068f4138270085e502a5b", func := "workflow/workflowlaw01.WireCanonical", spec := "wireCanonical", apart := false, narrowed := true }
def WireCanonicalUptoSaid : Prop := wireCanonicalUptoRow.holds Try.pinned (OpenSpec.upto wireCanonicalSpec)

/-- 'workflowlaw27.DivergeReads', WHERE WHAT IT READS IS OF BULK AT MOST 1048576: true; the input reads as it did. -/
def divergeReadsUptoRow : OpenClaim := { program := "ytnhchphmmdgphaa", sum := "07284f08a7ec56cd10b9df659a8a23d9533a4fe5d32068f4138270085e502a5b", func := "workflow/workflowlaw27.DivergeReads", spec := "divergeReads", recurses := true, loops := true, apart := false, narrowed := true }
def DivergeReadsUptoSaid : Prop := divergeReadsUptoRow.holds Try.pinned (OpenSpec.upto divergeReadsSpec)

/-- 'workflowlaw27.DivergeAccepts', WHERE WHAT IT READS IS OF BULK AT MOST 1048576: true; the input reads as it did. -/
def divergeAcceptsUptoRow : OpenClaim := { program := "ytnhchphmmdgphaa", sum := "07284f08a7ec56cd10b9df659a8a23d9533a4fe5d32068f4138270085e502a5b", func := "workflow/workflowlaw27.DivergeAccepts", spec := "divergeAccepts", unfollowed := true, recurses := true, loops := true, apart := false, narrowed := true }
def DivergeAcceptsUptoSaid : Prop := divergeAcceptsUptoRow.holds Try.pinned (OpenSpec.upto divergeAcceptsSpec)

end Rows
end Go.Proofs.Ytnhchphmmdgphaa
