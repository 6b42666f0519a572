/-
  NARROWER THAN 'FOR EVERY INPUT', by the rows' own cells (each row's printed sentence says how): ChildrenReports: loops, laid · ChildrenSends: loops, laid · ChildrenStarts: loops, laid · ChildrenRepeat: loops, laid · ChainFind: loops, laid · ChainDecide: loops, laid · ChainFollow: loops, laid · ChainContinue: loops, laid · ChainAdds: loops, laid · ChainEnd: loops, laid.
  DERIVED. THE GIVEN ROWS OF THIS SEAT. 10 by the template 'for every input the law returns true; each argument reads behind the call as it read before'; 0 by the template 'total and deterministic' (their statements: YtopijeegnhighaaDoorTotals.lean).
  GIVEN WITH THE SEED: the statements are not yours to turn. If you find one false, say at which input.
  Laid BY PROGRAM, IN A SANDBOX (cutbox-rows.mjs): the forced cells as the released guide's own fill.sh prints them over the translation 8527e10b62b94890… (all of the seat's roots in one cut). By AI agents, Wed Nov 11 2026. No macro, syntax, notation, axiom, sorry.
-/
import Derived.Test.YtopijeegnhighaaDoorChecked
import GoSem.Claim
import GoSem.ClaimJoined
import GoSem.ClaimMapViews
import Derived.JoinedTies
import Derived.KernelRfl
namespace Go.Proofs.YtopijeegnhighaaDoor
/- THE CELL 'sum', in the pinned program and in every row, IS THE sha256 OF THE DUMP (.gsa) THAT YtopijeegnhighaaDoorProg.lean LOADS. Nothing in Lean hashes anything: it is a label: what it is worth is what the hold of that sum in a sandbox is worth. -/
noncomputable def Tryd.pinned : Pinned := { name := "ytopijeegnhighaadoor", sum := "8527e10b62b94890b4312bc70150b6afcdb607524032fa851d85a735528055c2", checked := Tryd.checked }
namespace Rows
def none {H : Type} : Left H := { results := [], args := [] }

/- WHAT THE LISTED PACKAGE-LEVEL VARIABLES READ AS WHEN THE CALL BEGINS. Each datum BY PROGRAM (the guide's laid-datum.mjs) off the statement by which the dump's own 'gosem.cut.vars' lays the variable. In a bare row this is a premise. The card (YtopijeegnhighaaDoorCards.lean) ties it to the program's text. -/
def laid_math_bits_deBruijn32tab {H : Type} : DataW H := .agg [.lit (.int .u8 0), .lit (.int .u8 1), .lit (.int .u8 28), .lit (.int .u8 2), .lit (.int .u8 29), .lit (.int .u8 14), .lit (.int .u8 24), .lit (.int .u8 3), .lit (.int .u8 30), .lit (.int .u8 22), .lit (.int .u8 20), .lit (.int .u8 15), .lit (.int .u8 25), .lit (.int .u8 17), .lit (.int .u8 4), .lit (.int .u8 8), .lit (.int .u8 31), .lit (.int .u8 27), .lit (.int .u8 13), .lit (.int .u8 23), .lit (.int .u8 21), .lit (.int .u8 19), .lit (.int .u8 16), .lit (.int .u8 7), .lit (.int .u8 26), .lit (.int .u8 12), .lit (.int .u8 18), .lit (.int .u8 6), .lit (.int .u8 11), .lit (.int .u8 5), .lit (.int .u8 10), .lit (.int .u8 9)]
def laid_math_bits_deBruijn64tab {H : Type} : DataW H := .agg [.lit (.int .u8 0), .lit (.int .u8 1), .lit (.int .u8 56), .lit (.int .u8 2), .lit (.int .u8 57), .lit (.int .u8 49), .lit (.int .u8 28), .lit (.int .u8 3), .lit (.int .u8 61), .lit (.int .u8 58), .lit (.int .u8 42), .lit (.int .u8 50), .lit (.int .u8 38), .lit (.int .u8 29), .lit (.int .u8 17), .lit (.int .u8 4), .lit (.int .u8 62), .lit (.int .u8 47), .lit (.int .u8 59), .lit (.int .u8 36), .lit (.int .u8 45), .lit (.int .u8 43), .lit (.int .u8 51), .lit (.int .u8 22), .lit (.int .u8 53), .lit (.int .u8 39), .lit (.int .u8 33), .lit (.int .u8 30), .lit (.int .u8 24), .lit (.int .u8 18), .lit (.int .u8 12), .lit (.int .u8 5), .lit (.int .u8 63), .lit (.int .u8 55), .lit (.int .u8 48), .lit (.int .u8 27), .lit (.int .u8 60), .lit (.int .u8 41), .lit (.int .u8 37), .lit (.int .u8 16), .lit (.int .u8 46), .lit (.int .u8 35), .lit (.int .u8 44), .lit (.int .u8 21), .lit (.int .u8 52), .lit (.int .u8 32), .lit (.int .u8 23), .lit (.int .u8 11), .lit (.int .u8 54), .lit (.int .u8 26), .lit (.int .u8 40), .lit (.int .u8 15), .lit (.int .u8 34), .lit (.int .u8 20), .lit (.int .u8 31), .lit (.int .u8 10), .lit (.int .u8 25), .lit (.int .u8 14), .lit (.int .u8 19), .lit (.int .u8 9), .lit (.int .u8 13), .lit (.int .u8 8), .lit (.int .u8 7), .lit (.int .u8 6)]
def laid_internal_strconv_uint64pow10 {H : Type} : DataW H := .agg [.lit (.int .u64 1), .lit (.int .u64 10), .lit (.int .u64 100), .lit (.int .u64 1000), .lit (.int .u64 10000), .lit (.int .u64 100000), .lit (.int .u64 1000000), .lit (.int .u64 10000000), .lit (.int .u64 100000000), .lit (.int .u64 1000000000), .lit (.int .u64 10000000000), .lit (.int .u64 100000000000), .lit (.int .u64 1000000000000), .lit (.int .u64 10000000000000), .lit (.int .u64 100000000000000), .lit (.int .u64 1000000000000000), .lit (.int .u64 10000000000000000), .lit (.int .u64 100000000000000000), .lit (.int .u64 1000000000000000000), .lit (.int .u64 10000000000000000000)]
def laid_strconv_ErrRange {H : Type} : DataW H := .iface "*errors.errorString" (.ptr (.agg [.lit (.string [118, 97, 108, 117, 101, 32, 111, 117, 116, 32, 111, 102, 32, 114, 97, 110, 103, 101])]))
def laid_strconv_ErrSyntax {H : Type} : DataW H := .iface "*errors.errorString" (.ptr (.agg [.lit (.string [105, 110, 118, 97, 108, 105, 100, 32, 115, 121, 110, 116, 97, 120])]))

/-- 'workflowlaw45.ChildrenReports': WHATEVER THE INPUT: true; the input reads as it did. -/
def childrenReportsSpec : ChangeSpec := { name := "childrenReports", fn := fun _ => fun
  | [d1, d2] => { results := [.lit (.bool true)], args := [d1, d2] }
  | _ => none }
def childrenReportsRow : OpenClaim := { program := "ytopijeegnhighaadoor", sum := "8527e10b62b94890b4312bc70150b6afcdb607524032fa851d85a735528055c2", func := "workflow/workflowlaw45.ChildrenReports", spec := "childrenReports", inPlace := ["internal/bytealg.IndexByteString", "internal/bytealg.IndexString"], recurses := true, named := ["internal/bytealg.MaxLen", "internal/strconv.uint64pow10", "math/bits.deBruijn32tab", "math/bits.deBruijn64tab"], loops := true, apart := false, laid := [("math/bits.deBruijn32tab", laid_math_bits_deBruijn32tab), ("math/bits.deBruijn64tab", laid_math_bits_deBruijn64tab), ("internal/strconv.uint64pow10", laid_internal_strconv_uint64pow10)] }
def ChildrenReportsSaid : Prop := childrenReportsRow.holds Tryd.pinned (OpenSpec.ofChange childrenReportsSpec)

/-- ITS FALSE NEIGHBOUR: 'it returns false'. Refute it at one input. -/
def childrenReportsWrong : ChangeSpec := { name := "childrenReports", fn := fun _ => fun
  | [d1, d2] => { results := [.lit (.bool false)], args := [d1, d2] }
  | _ => none }
def ChildrenReportsWrongFalsely : Prop := childrenReportsRow.holds Tryd.pinned (OpenSpec.ofChange childrenReportsWrong)

/-- 'workflowlaw45.ChildrenSends': WHATEVER THE INPUT: true; the input reads as it did. -/
def childrenSendsSpec : ChangeSpec := { name := "childrenSends", fn := fun _ => fun
  | [d1, d2, d3] => { results := [.lit (.bool true)], args := [d1, d2, d3] }
  | _ => none }
def childrenSendsRow : OpenClaim := { program := "ytopijeegnhighaadoor", sum := "8527e10b62b94890b4312bc70150b6afcdb607524032fa851d85a735528055c2", func := "workflow/workflowlaw45.ChildrenSends", spec := "childrenSends", inPlace := ["internal/bytealg.IndexByteString", "internal/bytealg.IndexString"], unfollowed := true, recurses := true, named := ["internal/bytealg.MaxLen", "internal/strconv.uint64pow10", "math/bits.deBruijn32tab", "math/bits.deBruijn64tab"], loops := true, apart := false, laid := [("math/bits.deBruijn32tab", laid_math_bits_deBruijn32tab), ("math/bits.deBruijn64tab", laid_math_bits_deBruijn64tab), ("internal/strconv.uint64pow10", laid_internal_strconv_uint64pow10)] }
def ChildrenSendsSaid : Prop := childrenSendsRow.holds Tryd.pinned (OpenSpec.ofChange childrenSendsSpec)

/-- ITS FALSE NEIGHBOUR: 'it returns false'. Refute it at one input. -/
def childrenSendsWrong : ChangeSpec := { name := "childrenSends", fn := fun _ => fun
  | [d1, d2, d3] => { results := [.lit (.bool false)], args := [d1, d2, d3] }
  | _ => none }
def ChildrenSendsWrongFalsely : Prop := childrenSendsRow.holds Tryd.pinned (OpenSpec.ofChange childrenSendsWrong)

/-- 'workflowlaw45.ChildrenStarts': WHATEVER THE INPUT: true; the input reads as it did. -/
def childrenStartsSpec : ChangeSpec := { name := "childrenStarts", fn := fun _ => fun
  | [d1, d2, d3] => { results := [.lit (.bool true)], args := [d1, d2, d3] }
  | _ => none }
def childrenStartsRow : OpenClaim := { program := "ytopijeegnhighaadoor", sum := "8527e10b62b94890b4312bc70150b6afcdb607524032fa851d85a735528055c2", func := "workflow/workflowlaw45.ChildrenStarts", spec := "childrenStarts", inPlace := ["internal/bytealg.IndexByteString", "internal/bytealg.IndexString"], unfollowed := true, recurses := true, named := ["internal/bytealg.MaxLen", "internal/strconv.uint64pow10", "math/bits.deBruijn32tab", "math/bits.deBruijn64tab"], loops := true, apart := false, laid := [("math/bits.deBruijn32tab", laid_math_bits_deBruijn32tab), ("math/bits.deBruijn64tab", laid_math_bits_deBruijn64tab), ("internal/strconv.uint64pow10", laid_internal_strconv_uint64pow10)] }
def ChildrenStartsSaid : Prop := childrenStartsRow.holds Tryd.pinned (OpenSpec.ofChange childrenStartsSpec)

/-- ITS FALSE NEIGHBOUR: 'it returns false'. Refute it at one input. -/
def childrenStartsWrong : ChangeSpec := { name := "childrenStarts", fn := fun _ => fun
  | [d1, d2, d3] => { results := [.lit (.bool false)], args := [d1, d2, d3] }
  | _ => none }
def ChildrenStartsWrongFalsely : Prop := childrenStartsRow.holds Tryd.pinned (OpenSpec.ofChange childrenStartsWrong)

/-- 'workflowlaw45.ChildrenRepeat': WHATEVER THE INPUT: true; the input reads as it did. -/
def childrenRepeatSpec : ChangeSpec := { name := "childrenRepeat", fn := fun _ => fun
  | [d1, d2, d3] => { results := [.lit (.bool true)], args := [d1, d2, d3] }
  | _ => none }
def childrenRepeatRow : OpenClaim := { program := "ytopijeegnhighaadoor", sum := "8527e10b62b94890b4312bc70150b6afcdb607524032fa851d85a735528055c2", func := "workflow/workflowlaw45.ChildrenRepeat", spec := "childrenRepeat", inPlace := ["internal/bytealg.IndexByteString", "internal/bytealg.IndexString"], unfollowed := true, recurses := true, named := ["internal/bytealg.MaxLen", "internal/strconv.uint64pow10", "math/bits.deBruijn32tab", "math/bits.deBruijn64tab"], loops := true, apart := false, laid := [("math/bits.deBruijn32tab", laid_math_bits_deBruijn32tab), ("math/bits.deBruijn64tab", laid_math_bits_deBruijn64tab), ("internal/strconv.uint64pow10", laid_internal_strconv_uint64pow10)] }
def ChildrenRepeatSaid : Prop := childrenRepeatRow.holds Tryd.pinned (OpenSpec.ofChange childrenRepeatSpec)

/-- ITS FALSE NEIGHBOUR: 'it returns false'. Refute it at one input. -/
def childrenRepeatWrong : ChangeSpec := { name := "childrenRepeat", fn := fun _ => fun
  | [d1, d2, d3] => { results := [.lit (.bool false)], args := [d1, d2, d3] }
  | _ => none }
def ChildrenRepeatWrongFalsely : Prop := childrenRepeatRow.holds Tryd.pinned (OpenSpec.ofChange childrenRepeatWrong)

/-- 'workflowlaw44.ChainFind': WHATEVER THE INPUT: true; the input reads as it did. -/
def chainFindSpec : ChangeSpec := { name := "chainFind", fn := fun _ => fun
  | [d1, d2, d3] => { results := [.lit (.bool true)], args := [d1, d2, d3] }
  | _ => none }
def chainFindRow : OpenClaim := { program := "ytopijeegnhighaadoor", sum := "8527e10b62b94890b4312bc70150b6afcdb607524032fa851d85a735528055c2", func := "workflow/workflowlaw44.ChainFind", spec := "chainFind", recurses := true, named := ["strconv.ErrSyntax", "strconv.ErrRange", "internal/strconv.uint64pow10", "math/bits.deBruijn32tab", "math/bits.deBruijn64tab"], loops := true, apart := false, laid := [("math/bits.deBruijn32tab", laid_math_bits_deBruijn32tab), ("math/bits.deBruijn64tab", laid_math_bits_deBruijn64tab), ("internal/strconv.uint64pow10", laid_internal_strconv_uint64pow10), ("strconv.ErrRange", laid_strconv_ErrRange), ("strconv.ErrSyntax", laid_strconv_ErrSyntax)] }
def ChainFindSaid : Prop := chainFindRow.holds Tryd.pinned (OpenSpec.ofChange chainFindSpec)

/-- ITS FALSE NEIGHBOUR: 'it returns false'. Refute it at one input. -/
def chainFindWrong : ChangeSpec := { name := "chainFind", fn := fun _ => fun
  | [d1, d2, d3] => { results := [.lit (.bool false)], args := [d1, d2, d3] }
  | _ => none }
def ChainFindWrongFalsely : Prop := chainFindRow.holds Tryd.pinned (OpenSpec.ofChange chainFindWrong)

/-- 'workflowlaw44.ChainDecide': WHATEVER THE INPUT: true; the input reads as it did. -/
def chainDecideSpec : ChangeSpec := { name := "chainDecide", fn := fun _ => fun
  | [d1, d2] => { results := [.lit (.bool true)], args := [d1, d2] }
  | _ => none }
def chainDecideRow : OpenClaim := { program := "ytopijeegnhighaadoor", sum := "8527e10b62b94890b4312bc70150b6afcdb607524032fa851d85a735528055c2", func := "workflow/workflowlaw44.ChainDecide", spec := "chainDecide", recurses := true, named := ["strconv.ErrSyntax", "strconv.ErrRange", "internal/strconv.uint64pow10", "math/bits.deBruijn32tab", "math/bits.deBruijn64tab"], loops := true, apart := false, laid := [("math/bits.deBruijn32tab", laid_math_bits_deBruijn32tab), ("math/bits.deBruijn64tab", laid_math_bits_deBruijn64tab), ("internal/strconv.uint64pow10", laid_internal_strconv_uint64pow10), ("strconv.ErrRange", laid_strconv_ErrRange), ("strconv.ErrSyntax", laid_strconv_ErrSyntax)] }
def ChainDecideSaid : Prop := chainDecideRow.holds Tryd.pinned (OpenSpec.ofChange chainDecideSpec)

/-- ITS FALSE NEIGHBOUR: 'it returns false'. Refute it at one input. -/
def chainDecideWrong : ChangeSpec := { name := "chainDecide", fn := fun _ => fun
  | [d1, d2] => { results := [.lit (.bool false)], args := [d1, d2] }
  | _ => none }
def ChainDecideWrongFalsely : Prop := chainDecideRow.holds Tryd.pinned (OpenSpec.ofChange chainDecideWrong)

/-- 'workflowlaw44.ChainFollow': WHATEVER THE INPUT: true; the input reads as it did. -/
def chainFollowSpec : ChangeSpec := { name := "chainFollow", fn := fun _ => fun
  | [d1, d2, d3] => { results := [.lit (.bool true)], args := [d1, d2, d3] }
  | _ => none }
def chainFollowRow : OpenClaim := { program := "ytopijeegnhighaadoor", sum := "8527e10b62b94890b4312bc70150b6afcdb607524032fa851d85a735528055c2", func := "workflow/workflowlaw44.ChainFollow", spec := "chainFollow", recurses := true, named := ["strconv.ErrSyntax", "strconv.ErrRange", "internal/strconv.uint64pow10", "math/bits.deBruijn32tab", "math/bits.deBruijn64tab"], loops := true, apart := false, laid := [("math/bits.deBruijn32tab", laid_math_bits_deBruijn32tab), ("math/bits.deBruijn64tab", laid_math_bits_deBruijn64tab), ("internal/strconv.uint64pow10", laid_internal_strconv_uint64pow10), ("strconv.ErrRange", laid_strconv_ErrRange), ("strconv.ErrSyntax", laid_strconv_ErrSyntax)] }
def ChainFollowSaid : Prop := chainFollowRow.holds Tryd.pinned (OpenSpec.ofChange chainFollowSpec)

/-- ITS FALSE NEIGHBOUR: 'it returns false'. Refute it at one input. -/
def chainFollowWrong : ChangeSpec := { name := "chainFollow", fn := fun _ => fun
  | [d1, d2, d3] => { results := [.lit (.bool false)], args := [d1, d2, d3] }
  | _ => none }
def ChainFollowWrongFalsely : Prop := chainFollowRow.holds Tryd.pinned (OpenSpec.ofChange chainFollowWrong)

/-- 'workflowlaw44.ChainContinue': WHATEVER THE INPUT: true; the input reads as it did. -/
def chainContinueSpec : ChangeSpec := { name := "chainContinue", fn := fun _ => fun
  | [d] => { results := [.lit (.bool true)], args := [d] }
  | _ => none }
def chainContinueRow : OpenClaim := { program := "ytopijeegnhighaadoor", sum := "8527e10b62b94890b4312bc70150b6afcdb607524032fa851d85a735528055c2", func := "workflow/workflowlaw44.ChainContinue", spec := "chainContinue", recurses := true, named := ["strconv.ErrSyntax", "strconv.ErrRange", "internal/strconv.uint64pow10", "math/bits.deBruijn32tab", "math/bits.deBruijn64tab"], loops := true, apart := false, laid := [("math/bits.deBruijn32tab", laid_math_bits_deBruijn32tab), ("math/bits.deBruijn64tab", laid_math_bits_deBruijn64tab), ("internal/strconv.uint64pow10", laid_internal_strconv_uint64pow10), ("strconv.ErrRange", laid_strconv_ErrRange), ("strconv.ErrSyntax", laid_strconv_ErrSyntax)] }
def ChainContinueSaid : Prop := chainContinueRow.holds Tryd.pinned (OpenSpec.ofChange chainContinueSpec)

/-- ITS FALSE NEIGHBOUR: 'it returns false'. Refute it at one input. -/
def chainContinueWrong : ChangeSpec := { name := "chainContinue", fn := fun _ => fun
  | [d] => { results := [.lit (.bool false)], args := [d] }
  | _ => none }
def ChainContinueWrongFalsely : Prop := chainContinueRow.holds Tryd.pinned (OpenSpec.ofChange chainContinueWrong)

/-- 'workflowlaw44.ChainAdds': WHATEVER THE INPUT: true; the input reads as it did. -/
def chainAddsSpec : ChangeSpec := { name := "chainAdds", fn := fun _ => fun
  | [d1, d2] => { results := [.lit (.bool true)], args := [d1, d2] }
  | _ => none }
def chainAddsRow : OpenClaim := { program := "ytopijeegnhighaadoor", sum := "8527e10b62b94890b4312bc70150b6afcdb607524032fa851d85a735528055c2", func := "workflow/workflowlaw44.ChainAdds", spec := "chainAdds", recurses := true, named := ["strconv.ErrSyntax", "strconv.ErrRange", "internal/strconv.uint64pow10", "math/bits.deBruijn32tab", "math/bits.deBruijn64tab"], loops := true, apart := false, laid := [("math/bits.deBruijn32tab", laid_math_bits_deBruijn32tab), ("math/bits.deBruijn64tab", laid_math_bits_deBruijn64tab), ("internal/strconv.uint64pow10", laid_internal_strconv_uint64pow10), ("strconv.ErrRange", laid_strconv_ErrRange), ("strconv.ErrSyntax", laid_strconv_ErrSyntax)] }
def ChainAddsSaid : Prop := chainAddsRow.holds Tryd.pinned (OpenSpec.ofChange chainAddsSpec)

/-- ITS FALSE NEIGHBOUR: 'it returns false'. Refute it at one input. -/
def chainAddsWrong : ChangeSpec := { name := "chainAdds", fn := fun _ => fun
  | [d1, d2] => { results := [.lit (.bool false)], args := [d1, d2] }
  | _ => none }
def ChainAddsWrongFalsely : Prop := chainAddsRow.holds Tryd.pinned (OpenSpec.ofChange chainAddsWrong)

/-- 'workflowlaw44.ChainEnd': WHATEVER THE INPUT: true; the input reads as it did. -/
def chainEndSpec : ChangeSpec := { name := "chainEnd", fn := fun _ => fun
  | [d1, d2] => { results := [.lit (.bool true)], args := [d1, d2] }
  | _ => none }
def chainEndRow : OpenClaim := { program := "ytopijeegnhighaadoor", sum := "8527e10b62b94890b4312bc70150b6afcdb607524032fa851d85a735528055c2", func := "workflow/workflowlaw44.ChainEnd", spec := "chainEnd", recurses := true, named := ["strconv.ErrSyntax", "strconv.ErrRange", "internal/strconv.uint64pow10", "math/bits.deBruijn32tab", "math/bits.deBruijn64tab"], loops := true, apart := false, laid := [("math/bits.deBruijn32tab", laid_math_bits_deBruijn32tab), ("math/bits.deBruijn64tab", laid_math_bits_deBruijn64tab), ("internal/strconv.uint64pow10", laid_internal_strconv_uint64pow10), ("strconv.ErrRange", laid_strconv_ErrRange), ("strconv.ErrSyntax", laid_strconv_ErrSyntax)] }
def ChainEndSaid : Prop := chainEndRow.holds Tryd.pinned (OpenSpec.ofChange chainEndSpec)

/-- ITS FALSE NEIGHBOUR: 'it returns false'. Refute it at one input. -/
def chainEndWrong : ChangeSpec := { name := "chainEnd", fn := fun _ => fun
  | [d1, d2] => { results := [.lit (.bool false)], args := [d1, d2] }
  | _ => none }
def ChainEndWrongFalsely : Prop := chainEndRow.holds Tryd.pinned (OpenSpec.ofChange chainEndWrong)

/- THE SECOND FORM. 'bulk': how many values and letters a reading holds, each counted each time it is reached (what is shared counts as often as it is met; a slice's spare places count too). A statement '..UptoSaid' is the law's where the arguments, and the package variables that the reading takes, are together of bulk at most 1048576: NARROWER than '..Said'. Prove '..Said' where nothing that the law and all that it calls make is longer than what came in: it says more and counts as full. Else prove '..UptoSaid'. A law counts once. -/
mutual
def uptoBulk {H : Type} : DataW H → Nat
  | .lit (.string bytes) => bytes.length + 1
  | .lit _ => 1
  | .nil => 1
  | .ptr d => uptoBulk d + 1
  | .slice elems spare => uptoBulkAll elems + uptoBulkAll spare + 1
  | .agg parts => uptoBulkAll parts + 1
  | .iface _ d => uptoBulk d + 1
  | .map entries => uptoBulkEntries entries + 1
  | .held _ => 1
def uptoBulkAll {H : Type} : List (DataW H) → Nat
  | [] => 0
  | d :: r => uptoBulk d + uptoBulkAll r
def uptoBulkEntries {H : Type} : List (Lit × DataW H) → Nat
  | [] => 0
  | x :: r => uptoBulkEntry x + uptoBulkEntries r
def uptoBulkEntry {H : Type} : Lit × DataW H → Nat
  | (.string bytes, d) => bytes.length + uptoBulk d + 1
  | (_, d) => uptoBulk d + 1
 end
def uptoSmall : (H : Type) → List (DataW H) → Bool := fun _ ds => decide (uptoBulkAll ds ≤ 1048576)
def OpenSpec.upto (s : _root_.Go.ChangeSpec) : _root_.Go.OpenSpec := { _root_.Go.OpenSpec.ofChange s with cond := some uptoSmall }

/-- 'workflowlaw45.ChildrenReports', WHERE WHAT IT READS IS OF BULK AT MOST 1048576: true; the input reads as it did. -/
def childrenReportsUptoRow : OpenClaim := { program := "ytopijeegnhighaadoor", sum := "8527e10b62b94890b4312bc70150b6afcdb607524032fa851d85a735528055c2", func := "workflow/workflowlaw45.ChildrenReports", spec := "childrenReports", inPlace := ["internal/bytealg.IndexByteString", "internal/bytealg.IndexString"], recurses := true, named := ["internal/bytealg.MaxLen", "internal/strconv.uint64pow10", "math/bits.deBruijn32tab", "math/bits.deBruijn64tab"], loops := true, apart := false, laid := [("math/bits.deBruijn32tab", laid_math_bits_deBruijn32tab), ("math/bits.deBruijn64tab", laid_math_bits_deBruijn64tab), ("internal/strconv.uint64pow10", laid_internal_strconv_uint64pow10)], narrowed := true }
def ChildrenReportsUptoSaid : Prop := childrenReportsUptoRow.holds Tryd.pinned (OpenSpec.upto childrenReportsSpec)

/-- 'workflowlaw45.ChildrenSends', WHERE WHAT IT READS IS OF BULK AT MOST 1048576: true; the input reads as it did. -/
def childrenSendsUptoRow : OpenClaim := { program := "ytopijeegnhighaadoor", sum := "8527e10b62b94890b4312bc70150b6afcdb607524032fa851d85a735528055c2", func := "workflow/workflowlaw45.ChildrenSends", spec := "childrenSends", inPlace := ["internal/bytealg.IndexByteString", "internal/bytealg.IndexString"], unfollowed := true, recurses := true, named := ["internal/bytealg.MaxLen", "internal/strconv.uint64pow10", "math/bits.deBruijn32tab", "math/bits.deBruijn64tab"], loops := true, apart := false, laid := [("math/bits.deBruijn32tab", laid_math_bits_deBruijn32tab), ("math/bits.deBruijn64tab", laid_math_bits_deBruijn64tab), ("internal/strconv.uint64pow10", laid_internal_strconv_uint64pow10)], narrowed := true }
def ChildrenSendsUptoSaid : Prop := childrenSendsUptoRow.holds Tryd.pinned (OpenSpec.upto childrenSendsSpec)

/-- 'workflowlaw45.ChildrenStarts', WHERE WHAT IT READS IS OF BULK AT MOST 1048576: true; the input reads as it did. -/
def childrenStartsUptoRow : OpenClaim := { program := "ytopijeegnhighaadoor", sum := "8527e10b62b94890b4312bc70150b6afcdb607524032fa851d85a735528055c2", func := "workflow/workflowlaw45.ChildrenStarts", spec := "childrenStarts", inPlace := ["internal/bytealg.IndexByteString", "internal/bytealg.IndexString"], unfollowed := true, recurses := true, named := ["internal/bytealg.MaxLen", "internal/strconv.uint64pow10", "math/bits.deBruijn32tab", "math/bits.deBruijn64tab"], loops := true, apart := false, laid := [("math/bits.deBruijn32tab", laid_math_bits_deBruijn32tab), ("math/bits.deBruijn64tab", laid_math_bits_deBruijn64tab), ("internal/strconv.uint64pow10", laid_internal_strconv_uint64pow10)], narrowed := true }
def ChildrenStartsUptoSaid : Prop := childrenStartsUptoRow.holds Tryd.pinned (OpenSpec.upto childrenStartsSpec)

/-- 'workflowlaw45.ChildrenRepeat', WHERE WHAT IT READS IS OF BULK AT MOST 1048576: true; the input reads as it did. -/
def childrenRepeatUptoRow : OpenClaim := { program := "ytopijeegnhighaadoor", sum := "8527e10b62b94890b4312bc70150b6afcdb607524032fa851d85a735528055c2", func := "workflow/workflowlaw45.ChildrenRepeat", spec := "childrenRepeat", inPlace := ["internal/bytealg.IndexByteString", "internal/bytealg.IndexString"], unfollowed := true, recurses := true, named := ["internal/bytealg.MaxLen", "internal/strconv.uint64pow10", "math/bits.deBruijn32tab", "math/bits.deBruijn64tab"], loops := true, apart := false, laid := [("math/bits.deBruijn32tab", laid_math_bits_deBruijn32tab), ("math/bits.deBruijn64tab", laid_math_bits_deBruijn64tab), ("internal/strconv.uint64pow10", laid_internal_strconv_uint64pow10)], narrowed := true }
def ChildrenRepeatUptoSaid : Prop := childrenRepeatUptoRow.holds Tryd.pinned (OpenSpec.upto childrenRepeatSpec)

/-- 'workflowlaw44.ChainFind', WHERE WHAT IT READS IS OF BULK AT MOST 1048576: true; the input reads as it did. -/
def chainFindUptoRow : OpenClaim := { program := "ytopijeegnhighaadoor", sum := "8527e10b62b94890b4312bc70150b6afcdb607524032fa851d85a735528055c2", func := "workflow/workflowlaw44.ChainFind", spec := "chainFind", recurses := true, named := ["strconv.ErrSyntax", "strconv.ErrRange", "internal/strconv.uint64pow10", "math/bits.deBruijn32tab", "math/bits.deBruijn64tab"], loops := true, apart := false, laid := [("math/bits.deBruijn32tab", laid_math_bits_deBruijn32tab), ("math/bits.deBruijn64tab", laid_math_bits_deBruijn64tab), ("internal/strconv.uint64pow10", laid_internal_strconv_uint64pow10), ("strconv.ErrRange", laid_strconv_ErrRange), ("strconv.ErrSyntax", laid_strconv_ErrSyntax)], narrowed := true }
def ChainFindUptoSaid : Prop := chainFindUptoRow.holds Tryd.pinned (OpenSpec.upto chainFindSpec)

/-- 'workflowlaw44.ChainDecide', WHERE WHAT IT READS IS OF BULK AT MOST 1048576: true; the input reads as it did. -/
def chainDecideUptoRow : OpenClaim := { program := "ytopijeegnhighaadoor", sum := "8527e10b62b94890b4312bc70150b6afcdb607524032fa851d85a735528055c2", func := "workflow/workflowlaw44.ChainDecide", spec := "chainDecide", recurses := true, named := ["strconv.ErrSyntax", "strconv.ErrRange", "internal/strconv.uint64pow10", "math/bits.deBruijn32tab", "math/bits.deBruijn64tab"], loops := true, apart := false, laid := [("math/bits.deBruijn32tab", laid_math_bits_deBruijn32tab), ("math/bits.deBruijn64tab", laid_math_bits_deBruijn64tab), ("internal/strconv.uint64pow10", laid_internal_strconv_uint64pow10), ("strconv.ErrRange", laid_strconv_ErrRange), ("strconv.ErrSyntax", laid_strconv_ErrSyntax)], narrowed := true }
def ChainDecideUptoSaid : Prop := chainDecideUptoRow.holds Tryd.pinned (OpenSpec.upto chainDecideSpec)

/-- 'workflowlaw44.ChainFollow', WHERE WHAT IT READS IS OF BULK AT MOST 1048576: true; the input reads as it did. -/
def chainFollowUptoRow : OpenClaim := { program := "ytopijeegnhighaadoor", sum := "8527e10b62b94890b4312bc70150b6afcdb607524032fa851d85a735528055c2", func := "workflow/workflowlaw44.ChainFollow", spec := "chainFollow", recurses := true, named := ["strconv.ErrSyntax", "strconv.ErrRange", "internal/strconv.uint64pow10", "math/bits.deBruijn32tab", "math/bits.deBruijn64tab"], loops := true, apart := false, laid := [("math/bits.deBruijn32tab", laid_math_bits_deBruijn32tab), ("math/bits.deBruijn64tab", laid_math_bits_deBruijn64tab), ("internal/strconv.uint64pow10", laid_internal_strconv_uint64pow10), ("strconv.ErrRange", laid_strconv_ErrRange), ("strconv.ErrSyntax", laid_strconv_ErrSyntax)], narrowed := true }
def ChainFollowUptoSaid : Prop := chainFollowUptoRow.holds Tryd.pinned (OpenSpec.upto chainFollowSpec)

/-- 'workflowlaw44.ChainContinue', WHERE WHAT IT READS IS OF BULK AT MOST 1048576: true; the input reads as it did. -/
def chainContinueUptoRow : OpenClaim := { program := "ytopijeegnhighaadoor", sum := "8527e10b62b94890b4312bc70150b6afcdb607524032fa851d85a735528055c2", func := "workflow/workflowlaw44.ChainContinue", spec := "chainContinue", recurses := true, named := ["strconv.ErrSyntax", "strconv.ErrRange", "internal/strconv.uint64pow10", "math/bits.deBruijn32tab", "math/bits.deBruijn64tab"], loops := true, apart := false, laid := [("math/bits.deBruijn32tab", laid_math_bits_deBruijn32tab), ("math/bits.deBruijn64tab", laid_math_bits_deBruijn64tab), ("internal/strconv.uint64pow10", laid_internal_strconv_uint64pow10), ("strconv.ErrRange", laid_strconv_ErrRange), ("strconv.ErrSyntax", laid_strconv_ErrSyntax)], narrowed := true }
def ChainContinueUptoSaid : Prop := chainContinueUptoRow.holds Tryd.pinned (OpenSpec.upto chainContinueSpec)

/-- 'workflowlaw44.ChainAdds', WHERE WHAT IT READS IS OF BULK AT MOST 1048576: true; the input reads as it did. -/
def chainAddsUptoRow : OpenClaim := { program := "ytopijeegnhighaadoor", sum := "8527e10b62b94890b4312bc70150b6afcdb607524032fa851d85a735528055c2", func := "workflow/workflowlaw44.ChainAdds", spec := "chainAdds", recurses := true, named := ["strconv.ErrSyntax", "strconv.ErrRange", "internal/strconv.uint64pow10", "math/bits.deBruijn32tab", "math/bits.deBruijn64tab"], loops := true, apart := false, laid := [("math/bits.deBruijn32tab", laid_math_bits_deBruijn32tab), ("math/bits.deBruijn64tab", laid_math_bits_deBruijn64tab), ("internal/strconv.uint64pow10", laid_internal_strconv_uint64pow10), ("strconv.ErrRange", laid_strconv_ErrRange), ("strconv.ErrSyntax", laid_strconv_ErrSyntax)], narrowed := true }
def ChainAddsUptoSaid : Prop := chainAddsUptoRow.holds Tryd.pinned (OpenSpec.upto chainAddsSpec)

/-- 'workflowlaw44.ChainEnd', WHERE WHAT IT READS IS OF BULK AT MOST 1048576: true; the input reads as it did. -/
def chainEndUptoRow : OpenClaim := { program := "ytopijeegnhighaadoor", sum := "8527e10b62b94890b4312bc70150b6afcdb607524032fa851d85a735528055c2", func := "workflow/workflowlaw44.ChainEnd", spec := "chainEnd", recurses := true, named := ["strconv.ErrSyntax", "strconv.ErrRange", "internal/strconv.uint64pow10", "math/bits.deBruijn32tab", "math/bits.deBruijn64tab"], loops := true, apart := false, laid := [("math/bits.deBruijn32tab", laid_math_bits_deBruijn32tab), ("math/bits.deBruijn64tab", laid_math_bits_deBruijn64tab), ("internal/strconv.uint64pow10", laid_internal_strconv_uint64pow10), ("strconv.ErrRange", laid_strconv_ErrRange), ("strconv.ErrSyntax", laid_strconv_ErrSyntax)], narrowed := true }
def ChainEndUptoSaid : Prop := chainEndUptoRow.holds Tryd.pinned (OpenSpec.upto chainEndSpec)

end Rows
end Go.Proofs.YtopijeegnhighaaDoor
