/-
  NARROWER THAN 'FOR EVERY INPUT', by the rows' own cells (each row's printed sentence says how): EventcodeEncode: loops, laid · EventcodeBatch: loops, laid · EventcodeUnbatch: laid · EventcodeChanged: loops, laid · EventcodeDecode: laid · EventcodeRound: loops, laid · RequestEncodes: loops, laid · RequestRoundTrip: loops, laid · RequestRight: loops, laid · RequestSame: loops, laid · RequestDecodes: laid · RequestReplies: loops, laid.
  DERIVED. THE GIVEN ROWS OF THIS SEAT. 12 by the template 'for every input the law returns true; each argument reads behind the call as it read before'; 0 by the template 'total and deterministic' (their statements: YtnigjppddilpcaaGreatDoorTotals.lean).
  GIVEN WITH THE SEED: the statements are not yours to turn. If you find one false, say at which input.
  Laid BY PROGRAM, IN A SANDBOX (cutbox-rows.mjs): the forced cells as the released guide's own fill.sh prints them over the translation 73200c0119870caa… (all of the seat's roots in one cut). By AI agents, Wed Nov 11 2026. No macro, syntax, notation, axiom, sorry.
-/
import Derived.Test.YtnigjppddilpcaaGreatDoorChecked
import GoSem.Claim
import GoSem.ClaimJoined
import GoSem.ClaimMapViews
import Derived.JoinedTies
import Derived.KernelRfl
namespace Go.Proofs.YtnigjppddilpcaaGreatDoor
/- THE CELL 'sum', in the pinned program and in every row, IS THE sha256 OF THE DUMP (.gsa) THAT YtnigjppddilpcaaGreatDoorProg.lean LOADS. Nothing in Lean hashes anything: it is a label: what it is worth is what the hold of that sum in a sandbox is worth. -/
noncomputable def Tryz.pinned : Pinned := { name := "ytnigjppddilpcaagreatdoor", sum := "73200c0119870caad17b964f20f29ac7eaf6daedd7dcab4ba3cb917e81e4b8ed", checked := Tryz.checked }
namespace Rows
def none {H : Type} : Left H := { results := [], args := [] }

/- WHAT THE LISTED PACKAGE-LEVEL VARIABLES READ AS WHEN THE CALL BEGINS. Each datum BY PROGRAM (the guide's laid-datum.mjs) off the statement by which the dump's own 'gosem.cut.vars' lays the variable. In a bare row this is a premise. The card (YtnigjppddilpcaaGreatDoorCards.lean) ties it to the program's text. -/
def laid_math_bits_deBruijn32tab {H : Type} : DataW H := .agg [.lit (.int .u8 0), .lit (.int .u8 1), .lit (.int .u8 28), .lit (.int .u8 2), .lit (.int .u8 29), .lit (.int .u8 14), .lit (.int .u8 24), .lit (.int .u8 3), .lit (.int .u8 30), .lit (.int .u8 22), .lit (.int .u8 20), .lit (.int .u8 15), .lit (.int .u8 25), .lit (.int .u8 17), .lit (.int .u8 4), .lit (.int .u8 8), .lit (.int .u8 31), .lit (.int .u8 27), .lit (.int .u8 13), .lit (.int .u8 23), .lit (.int .u8 21), .lit (.int .u8 19), .lit (.int .u8 16), .lit (.int .u8 7), .lit (.int .u8 26), .lit (.int .u8 12), .lit (.int .u8 18), .lit (.int .u8 6), .lit (.int .u8 11), .lit (.int .u8 5), .lit (.int .u8 10), .lit (.int .u8 9)]
def laid_math_bits_deBruijn64tab {H : Type} : DataW H := .agg [.lit (.int .u8 0), .lit (.int .u8 1), .lit (.int .u8 56), .lit (.int .u8 2), .lit (.int .u8 57), .lit (.int .u8 49), .lit (.int .u8 28), .lit (.int .u8 3), .lit (.int .u8 61), .lit (.int .u8 58), .lit (.int .u8 42), .lit (.int .u8 50), .lit (.int .u8 38), .lit (.int .u8 29), .lit (.int .u8 17), .lit (.int .u8 4), .lit (.int .u8 62), .lit (.int .u8 47), .lit (.int .u8 59), .lit (.int .u8 36), .lit (.int .u8 45), .lit (.int .u8 43), .lit (.int .u8 51), .lit (.int .u8 22), .lit (.int .u8 53), .lit (.int .u8 39), .lit (.int .u8 33), .lit (.int .u8 30), .lit (.int .u8 24), .lit (.int .u8 18), .lit (.int .u8 12), .lit (.int .u8 5), .lit (.int .u8 63), .lit (.int .u8 55), .lit (.int .u8 48), .lit (.int .u8 27), .lit (.int .u8 60), .lit (.int .u8 41), .lit (.int .u8 37), .lit (.int .u8 16), .lit (.int .u8 46), .lit (.int .u8 35), .lit (.int .u8 44), .lit (.int .u8 21), .lit (.int .u8 52), .lit (.int .u8 32), .lit (.int .u8 23), .lit (.int .u8 11), .lit (.int .u8 54), .lit (.int .u8 26), .lit (.int .u8 40), .lit (.int .u8 15), .lit (.int .u8 34), .lit (.int .u8 20), .lit (.int .u8 31), .lit (.int .u8 10), .lit (.int .u8 25), .lit (.int .u8 14), .lit (.int .u8 19), .lit (.int .u8 9), .lit (.int .u8 13), .lit (.int .u8 8), .lit (.int .u8 7), .lit (.int .u8 6)]
def laid_internal_strconv_uint64pow10 {H : Type} : DataW H := .agg [.lit (.int .u64 1), .lit (.int .u64 10), .lit (.int .u64 100), .lit (.int .u64 1000), .lit (.int .u64 10000), .lit (.int .u64 100000), .lit (.int .u64 1000000), .lit (.int .u64 10000000), .lit (.int .u64 100000000), .lit (.int .u64 1000000000), .lit (.int .u64 10000000000), .lit (.int .u64 100000000000), .lit (.int .u64 1000000000000), .lit (.int .u64 10000000000000), .lit (.int .u64 100000000000000), .lit (.int .u64 1000000000000000), .lit (.int .u64 10000000000000000), .lit (.int .u64 100000000000000000), .lit (.int .u64 1000000000000000000), .lit (.int .u64 10000000000000000000)]
def laid_strconv_ErrRange {H : Type} : DataW H := .iface "*errors.errorString" (.ptr (.agg [.lit (.string [118, 97, 108, 117, 101, 32, 111, 117, 116, 32, 111, 102, 32, 114, 97, 110, 103, 101])]))
def laid_strconv_ErrSyntax {H : Type} : DataW H := .iface "*errors.errorString" (.ptr (.agg [.lit (.string [105, 110, 118, 97, 108, 105, 100, 32, 115, 121, 110, 116, 97, 120])]))

/-- 'workflowlaw23.EventcodeEncode': WHATEVER THE INPUT: true; the input reads as it did. -/
def eventcodeEncodeSpec : ChangeSpec := { name := "eventcodeEncode", fn := fun _ => fun
  | [d1, d2] => { results := [.lit (.bool true)], args := [d1, d2] }
  | _ => none }
def eventcodeEncodeRow : OpenClaim := { program := "ytnigjppddilpcaagreatdoor", sum := "73200c0119870caad17b964f20f29ac7eaf6daedd7dcab4ba3cb917e81e4b8ed", func := "workflow/workflowlaw23.EventcodeEncode", spec := "eventcodeEncode", unfollowed := true, recurses := true, named := ["strconv.ErrSyntax", "strconv.ErrRange", "internal/strconv.uint64pow10", "math/bits.deBruijn32tab", "math/bits.deBruijn64tab"], loops := true, apart := false, laid := [("math/bits.deBruijn32tab", laid_math_bits_deBruijn32tab), ("math/bits.deBruijn64tab", laid_math_bits_deBruijn64tab), ("internal/strconv.uint64pow10", laid_internal_strconv_uint64pow10), ("strconv.ErrRange", laid_strconv_ErrRange), ("strconv.ErrSyntax", laid_strconv_ErrSyntax)] }
def EventcodeEncodeSaid : Prop := eventcodeEncodeRow.holds Tryz.pinned (OpenSpec.ofChange eventcodeEncodeSpec)

/-- ITS FALSE NEIGHBOUR: 'it returns false'. Refute it at one input. -/
def eventcodeEncodeWrong : ChangeSpec := { name := "eventcodeEncode", fn := fun _ => fun
  | [d1, d2] => { results := [.lit (.bool false)], args := [d1, d2] }
  | _ => none }
def EventcodeEncodeWrongFalsely : Prop := eventcodeEncodeRow.holds Tryz.pinned (OpenSpec.ofChange eventcodeEncodeWrong)

/-- 'workflowlaw23.EventcodeBatch': WHATEVER THE INPUT: true; the input reads as it did. -/
def eventcodeBatchSpec : ChangeSpec := { name := "eventcodeBatch", fn := fun _ => fun
  | [d] => { results := [.lit (.bool true)], args := [d] }
  | _ => none }
def eventcodeBatchRow : OpenClaim := { program := "ytnigjppddilpcaagreatdoor", sum := "73200c0119870caad17b964f20f29ac7eaf6daedd7dcab4ba3cb917e81e4b8ed", func := "workflow/workflowlaw23.EventcodeBatch", spec := "eventcodeBatch", unfollowed := true, recurses := true, named := ["strconv.ErrSyntax", "strconv.ErrRange", "internal/strconv.uint64pow10", "math/bits.deBruijn32tab", "math/bits.deBruijn64tab"], loops := true, apart := false, laid := [("math/bits.deBruijn32tab", laid_math_bits_deBruijn32tab), ("math/bits.deBruijn64tab", laid_math_bits_deBruijn64tab), ("internal/strconv.uint64pow10", laid_internal_strconv_uint64pow10), ("strconv.ErrRange", laid_strconv_ErrRange), ("strconv.ErrSyntax", laid_strconv_ErrSyntax)] }
def EventcodeBatchSaid : Prop := eventcodeBatchRow.holds Tryz.pinned (OpenSpec.ofChange eventcodeBatchSpec)

/-- ITS FALSE NEIGHBOUR: 'it returns false'. Refute it at one input. -/
def eventcodeBatchWrong : ChangeSpec := { name := "eventcodeBatch", fn := fun _ => fun
  | [d] => { results := [.lit (.bool false)], args := [d] }
  | _ => none }
def EventcodeBatchWrongFalsely : Prop := eventcodeBatchRow.holds Tryz.pinned (OpenSpec.ofChange eventcodeBatchWrong)

/-- 'workflowlaw23.EventcodeUnbatch': WHATEVER THE INPUT: true; the input reads as it did. -/
def eventcodeUnbatchSpec : ChangeSpec := { name := "eventcodeUnbatch", fn := fun _ => fun
  | [d] => { results := [.lit (.bool true)], args := [d] }
  | _ => none }
def eventcodeUnbatchRow : OpenClaim := { program := "ytnigjppddilpcaagreatdoor", sum := "73200c0119870caad17b964f20f29ac7eaf6daedd7dcab4ba3cb917e81e4b8ed", func := "workflow/workflowlaw23.EventcodeUnbatch", spec := "eventcodeUnbatch", unfollowed := true, recurses := true, named := ["strconv.ErrSyntax", "strconv.ErrRange", "internal/strconv.uint64pow10", "math/bits.deBruijn32tab", "math/bits.deBruijn64tab"], apart := false, laid := [("math/bits.deBruijn32tab", laid_math_bits_deBruijn32tab), ("math/bits.deBruijn64tab", laid_math_bits_deBruijn64tab), ("internal/strconv.uint64pow10", laid_internal_strconv_uint64pow10), ("strconv.ErrRange", laid_strconv_ErrRange), ("strconv.ErrSyntax", laid_strconv_ErrSyntax)] }
def EventcodeUnbatchSaid : Prop := eventcodeUnbatchRow.holds Tryz.pinned (OpenSpec.ofChange eventcodeUnbatchSpec)

/-- ITS FALSE NEIGHBOUR: 'it returns false'. Refute it at one input. -/
def eventcodeUnbatchWrong : ChangeSpec := { name := "eventcodeUnbatch", fn := fun _ => fun
  | [d] => { results := [.lit (.bool false)], args := [d] }
  | _ => none }
def EventcodeUnbatchWrongFalsely : Prop := eventcodeUnbatchRow.holds Tryz.pinned (OpenSpec.ofChange eventcodeUnbatchWrong)

/-- 'workflowlaw23.EventcodeChanged': WHATEVER THE INPUT: true; the input reads as it did. -/
def eventcodeChangedSpec : ChangeSpec := { name := "eventcodeChanged", fn := fun _ => fun
  | [d1, d2, d3] => { results := [.lit (.bool true)], args := [d1, d2, d3] }
  | _ => none }
def eventcodeChangedRow : OpenClaim := { program := "ytnigjppddilpcaagreatdoor", sum := "73200c0119870caad17b964f20f29ac7eaf6daedd7dcab4ba3cb917e81e4b8ed", func := "workflow/workflowlaw23.EventcodeChanged", spec := "eventcodeChanged", unfollowed := true, recurses := true, named := ["strconv.ErrSyntax", "strconv.ErrRange", "internal/strconv.uint64pow10", "math/bits.deBruijn32tab", "math/bits.deBruijn64tab"], loops := true, apart := false, laid := [("math/bits.deBruijn32tab", laid_math_bits_deBruijn32tab), ("math/bits.deBruijn64tab", laid_math_bits_deBruijn64tab), ("internal/strconv.uint64pow10", laid_internal_strconv_uint64pow10), ("strconv.ErrRange", laid_strconv_ErrRange), ("strconv.ErrSyntax", laid_strconv_ErrSyntax)] }
def EventcodeChangedSaid : Prop := eventcodeChangedRow.holds Tryz.pinned (OpenSpec.ofChange eventcodeChangedSpec)

/-- ITS FALSE NEIGHBOUR: 'it returns false'. Refute it at one input. -/
def eventcodeChangedWrong : ChangeSpec := { name := "eventcodeChanged", fn := fun _ => fun
  | [d1, d2, d3] => { results := [.lit (.bool false)], args := [d1, d2, d3] }
  | _ => none }
def EventcodeChangedWrongFalsely : Prop := eventcodeChangedRow.holds Tryz.pinned (OpenSpec.ofChange eventcodeChangedWrong)

/-- 'workflowlaw23.EventcodeDecode': WHATEVER THE INPUT: true; the input reads as it did. -/
def eventcodeDecodeSpec : ChangeSpec := { name := "eventcodeDecode", fn := fun _ => fun
  | [d] => { results := [.lit (.bool true)], args := [d] }
  | _ => none }
def eventcodeDecodeRow : OpenClaim := { program := "ytnigjppddilpcaagreatdoor", sum := "73200c0119870caad17b964f20f29ac7eaf6daedd7dcab4ba3cb917e81e4b8ed", func := "workflow/workflowlaw23.EventcodeDecode", spec := "eventcodeDecode", unfollowed := true, recurses := true, named := ["strconv.ErrSyntax", "strconv.ErrRange", "internal/strconv.uint64pow10", "math/bits.deBruijn32tab", "math/bits.deBruijn64tab"], apart := false, laid := [("math/bits.deBruijn32tab", laid_math_bits_deBruijn32tab), ("math/bits.deBruijn64tab", laid_math_bits_deBruijn64tab), ("internal/strconv.uint64pow10", laid_internal_strconv_uint64pow10), ("strconv.ErrRange", laid_strconv_ErrRange), ("strconv.ErrSyntax", laid_strconv_ErrSyntax)] }
def EventcodeDecodeSaid : Prop := eventcodeDecodeRow.holds Tryz.pinned (OpenSpec.ofChange eventcodeDecodeSpec)

/-- ITS FALSE NEIGHBOUR: 'it returns false'. Refute it at one input. -/
def eventcodeDecodeWrong : ChangeSpec := { name := "eventcodeDecode", fn := fun _ => fun
  | [d] => { results := [.lit (.bool false)], args := [d] }
  | _ => none }
def EventcodeDecodeWrongFalsely : Prop := eventcodeDecodeRow.holds Tryz.pinned (OpenSpec.ofChange eventcodeDecodeWrong)

/-- 'workflowlaw23.EventcodeRound': WHATEVER THE INPUT: true; the input reads as it did. -/
def eventcodeRoundSpec : ChangeSpec := { name := "eventcodeRound", fn := fun _ => fun
  | [d1, d2] => { results := [.lit (.bool true)], args := [d1, d2] }
  | _ => none }
def eventcodeRoundRow : OpenClaim := { program := "ytnigjppddilpcaagreatdoor", sum := "73200c0119870caad17b964f20f29ac7eaf6daedd7dcab4ba3cb917e81e4b8ed", func := "workflow/workflowlaw23.EventcodeRound", spec := "eventcodeRound", unfollowed := true, recurses := true, named := ["strconv.ErrSyntax", "strconv.ErrRange", "internal/strconv.uint64pow10", "math/bits.deBruijn32tab", "math/bits.deBruijn64tab"], loops := true, apart := false, laid := [("math/bits.deBruijn32tab", laid_math_bits_deBruijn32tab), ("math/bits.deBruijn64tab", laid_math_bits_deBruijn64tab), ("internal/strconv.uint64pow10", laid_internal_strconv_uint64pow10), ("strconv.ErrRange", laid_strconv_ErrRange), ("strconv.ErrSyntax", laid_strconv_ErrSyntax)] }
def EventcodeRoundSaid : Prop := eventcodeRoundRow.holds Tryz.pinned (OpenSpec.ofChange eventcodeRoundSpec)

/-- ITS FALSE NEIGHBOUR: 'it returns false'. Refute it at one input. -/
def eventcodeRoundWrong : ChangeSpec := { name := "eventcodeRound", fn := fun _ => fun
  | [d1, d2] => { results := [.lit (.bool false)], args := [d1, d2] }
  | _ => none }
def EventcodeRoundWrongFalsely : Prop := eventcodeRoundRow.holds Tryz.pinned (OpenSpec.ofChange eventcodeRoundWrong)

/-- 'workflowlaw48.RequestEncodes': WHATEVER THE INPUT: true; the input reads as it did. -/
def requestEncodesSpec : ChangeSpec := { name := "requestEncodes", fn := fun _ => fun
  | [d] => { results := [.lit (.bool true)], args := [d] }
  | _ => none }
def requestEncodesRow : OpenClaim := { program := "ytnigjppddilpcaagreatdoor", sum := "73200c0119870caad17b964f20f29ac7eaf6daedd7dcab4ba3cb917e81e4b8ed", func := "workflow/workflowlaw48.RequestEncodes", spec := "requestEncodes", inPlace := ["internal/bytealg.IndexByteString", "internal/bytealg.IndexString"], unfollowed := true, recurses := true, named := ["strconv.ErrSyntax", "strconv.ErrRange", "internal/strconv.uint64pow10", "math/bits.deBruijn32tab", "math/bits.deBruijn64tab", "internal/bytealg.MaxLen"], loops := true, apart := false, laid := [("math/bits.deBruijn32tab", laid_math_bits_deBruijn32tab), ("math/bits.deBruijn64tab", laid_math_bits_deBruijn64tab), ("internal/strconv.uint64pow10", laid_internal_strconv_uint64pow10), ("strconv.ErrRange", laid_strconv_ErrRange), ("strconv.ErrSyntax", laid_strconv_ErrSyntax)] }
def RequestEncodesSaid : Prop := requestEncodesRow.holds Tryz.pinned (OpenSpec.ofChange requestEncodesSpec)

/-- ITS FALSE NEIGHBOUR: 'it returns false'. Refute it at one input. -/
def requestEncodesWrong : ChangeSpec := { name := "requestEncodes", fn := fun _ => fun
  | [d] => { results := [.lit (.bool false)], args := [d] }
  | _ => none }
def RequestEncodesWrongFalsely : Prop := requestEncodesRow.holds Tryz.pinned (OpenSpec.ofChange requestEncodesWrong)

/-- 'workflowlaw48.RequestRoundTrip': WHATEVER THE INPUT: true; the input reads as it did. -/
def requestRoundTripSpec : ChangeSpec := { name := "requestRoundTrip", fn := fun _ => fun
  | [d1, d2] => { results := [.lit (.bool true)], args := [d1, d2] }
  | _ => none }
def requestRoundTripRow : OpenClaim := { program := "ytnigjppddilpcaagreatdoor", sum := "73200c0119870caad17b964f20f29ac7eaf6daedd7dcab4ba3cb917e81e4b8ed", func := "workflow/workflowlaw48.RequestRoundTrip", spec := "requestRoundTrip", inPlace := ["internal/bytealg.IndexByteString", "internal/bytealg.IndexString"], unfollowed := true, recurses := true, named := ["strconv.ErrSyntax", "strconv.ErrRange", "internal/strconv.uint64pow10", "math/bits.deBruijn32tab", "math/bits.deBruijn64tab", "internal/bytealg.MaxLen"], loops := true, apart := false, laid := [("math/bits.deBruijn32tab", laid_math_bits_deBruijn32tab), ("math/bits.deBruijn64tab", laid_math_bits_deBruijn64tab), ("internal/strconv.uint64pow10", laid_internal_strconv_uint64pow10), ("strconv.ErrRange", laid_strconv_ErrRange), ("strconv.ErrSyntax", laid_strconv_ErrSyntax)] }
def RequestRoundTripSaid : Prop := requestRoundTripRow.holds Tryz.pinned (OpenSpec.ofChange requestRoundTripSpec)

/-- ITS FALSE NEIGHBOUR: 'it returns false'. Refute it at one input. -/
def requestRoundTripWrong : ChangeSpec := { name := "requestRoundTrip", fn := fun _ => fun
  | [d1, d2] => { results := [.lit (.bool false)], args := [d1, d2] }
  | _ => none }
def RequestRoundTripWrongFalsely : Prop := requestRoundTripRow.holds Tryz.pinned (OpenSpec.ofChange requestRoundTripWrong)

/-- 'workflowlaw48.RequestRight': WHATEVER THE INPUT: true; the input reads as it did. -/
def requestRightSpec : ChangeSpec := { name := "requestRight", fn := fun _ => fun
  | [d] => { results := [.lit (.bool true)], args := [d] }
  | _ => none }
def requestRightRow : OpenClaim := { program := "ytnigjppddilpcaagreatdoor", sum := "73200c0119870caad17b964f20f29ac7eaf6daedd7dcab4ba3cb917e81e4b8ed", func := "workflow/workflowlaw48.RequestRight", spec := "requestRight", inPlace := ["internal/bytealg.IndexByteString", "internal/bytealg.IndexString"], unfollowed := true, recurses := true, named := ["strconv.ErrSyntax", "strconv.ErrRange", "internal/strconv.uint64pow10", "math/bits.deBruijn32tab", "math/bits.deBruijn64tab", "internal/bytealg.MaxLen"], loops := true, apart := false, laid := [("math/bits.deBruijn32tab", laid_math_bits_deBruijn32tab), ("math/bits.deBruijn64tab", laid_math_bits_deBruijn64tab), ("internal/strconv.uint64pow10", laid_internal_strconv_uint64pow10), ("strconv.ErrRange", laid_strconv_ErrRange), ("strconv.ErrSyntax", laid_strconv_ErrSyntax)] }
def RequestRightSaid : Prop := requestRightRow.holds Tryz.pinned (OpenSpec.ofChange requestRightSpec)

/-- ITS FALSE NEIGHBOUR: 'it returns false'. Refute it at one input. -/
def requestRightWrong : ChangeSpec := { name := "requestRight", fn := fun _ => fun
  | [d] => { results := [.lit (.bool false)], args := [d] }
  | _ => none }
def RequestRightWrongFalsely : Prop := requestRightRow.holds Tryz.pinned (OpenSpec.ofChange requestRightWrong)

/-- 'workflowlaw48.RequestSame': WHATEVER THE INPUT: true; the input reads as it did. -/
def requestSameSpec : ChangeSpec := { name := "requestSame", fn := fun _ => fun
  | [d1, d2, d3] => { results := [.lit (.bool true)], args := [d1, d2, d3] }
  | _ => none }
def requestSameRow : OpenClaim := { program := "ytnigjppddilpcaagreatdoor", sum := "73200c0119870caad17b964f20f29ac7eaf6daedd7dcab4ba3cb917e81e4b8ed", func := "workflow/workflowlaw48.RequestSame", spec := "requestSame", inPlace := ["internal/bytealg.IndexByteString", "internal/bytealg.IndexString"], unfollowed := true, recurses := true, named := ["strconv.ErrSyntax", "strconv.ErrRange", "internal/strconv.uint64pow10", "math/bits.deBruijn32tab", "math/bits.deBruijn64tab", "internal/bytealg.MaxLen"], loops := true, apart := false, laid := [("math/bits.deBruijn32tab", laid_math_bits_deBruijn32tab), ("math/bits.deBruijn64tab", laid_math_bits_deBruijn64tab), ("internal/strconv.uint64pow10", laid_internal_strconv_uint64pow10), ("strconv.ErrRange", laid_strconv_ErrRange), ("strconv.ErrSyntax", laid_strconv_ErrSyntax)] }
def RequestSameSaid : Prop := requestSameRow.holds Tryz.pinned (OpenSpec.ofChange requestSameSpec)

/-- ITS FALSE NEIGHBOUR: 'it returns false'. Refute it at one input. -/
def requestSameWrong : ChangeSpec := { name := "requestSame", fn := fun _ => fun
  | [d1, d2, d3] => { results := [.lit (.bool false)], args := [d1, d2, d3] }
  | _ => none }
def RequestSameWrongFalsely : Prop := requestSameRow.holds Tryz.pinned (OpenSpec.ofChange requestSameWrong)

/-- 'workflowlaw48.RequestDecodes': WHATEVER THE INPUT: true; the input reads as it did. -/
def requestDecodesSpec : ChangeSpec := { name := "requestDecodes", fn := fun _ => fun
  | [d] => { results := [.lit (.bool true)], args := [d] }
  | _ => none }
def requestDecodesRow : OpenClaim := { program := "ytnigjppddilpcaagreatdoor", sum := "73200c0119870caad17b964f20f29ac7eaf6daedd7dcab4ba3cb917e81e4b8ed", func := "workflow/workflowlaw48.RequestDecodes", spec := "requestDecodes", inPlace := ["internal/bytealg.IndexByteString", "internal/bytealg.IndexString"], unfollowed := true, recurses := true, named := ["strconv.ErrSyntax", "strconv.ErrRange", "internal/strconv.uint64pow10", "math/bits.deBruijn32tab", "math/bits.deBruijn64tab", "internal/bytealg.MaxLen"], apart := false, laid := [("math/bits.deBruijn32tab", laid_math_bits_deBruijn32tab), ("math/bits.deBruijn64tab", laid_math_bits_deBruijn64tab), ("internal/strconv.uint64pow10", laid_internal_strconv_uint64pow10), ("strconv.ErrRange", laid_strconv_ErrRange), ("strconv.ErrSyntax", laid_strconv_ErrSyntax)] }
def RequestDecodesSaid : Prop := requestDecodesRow.holds Tryz.pinned (OpenSpec.ofChange requestDecodesSpec)

/-- ITS FALSE NEIGHBOUR: 'it returns false'. Refute it at one input. -/
def requestDecodesWrong : ChangeSpec := { name := "requestDecodes", fn := fun _ => fun
  | [d] => { results := [.lit (.bool false)], args := [d] }
  | _ => none }
def RequestDecodesWrongFalsely : Prop := requestDecodesRow.holds Tryz.pinned (OpenSpec.ofChange requestDecodesWrong)

/-- 'workflowlaw48.RequestReplies': WHATEVER THE INPUT: true; the input reads as it did. -/
def requestRepliesSpec : ChangeSpec := { name := "requestReplies", fn := fun _ => fun
  | [d] => { results := [.lit (.bool true)], args := [d] }
  | _ => none }
def requestRepliesRow : OpenClaim := { program := "ytnigjppddilpcaagreatdoor", sum := "73200c0119870caad17b964f20f29ac7eaf6daedd7dcab4ba3cb917e81e4b8ed", func := "workflow/workflowlaw48.RequestReplies", spec := "requestReplies", inPlace := ["internal/bytealg.IndexByteString", "internal/bytealg.IndexString"], unfollowed := true, recurses := true, named := ["strconv.ErrSyntax", "strconv.ErrRange", "internal/strconv.uint64pow10", "math/bits.deBruijn32tab", "math/bits.deBruijn64tab", "internal/bytealg.MaxLen"], loops := true, apart := false, laid := [("math/bits.deBruijn32tab", laid_math_bits_deBruijn32tab), ("math/bits.deBruijn64tab", laid_math_bits_deBruijn64tab), ("internal/strconv.uint64pow10", laid_internal_strconv_uint64pow10), ("strconv.ErrRange", laid_strconv_ErrRange), ("strconv.ErrSyntax", laid_strconv_ErrSyntax)] }
def RequestRepliesSaid : Prop := requestRepliesRow.holds Tryz.pinned (OpenSpec.ofChange requestRepliesSpec)

/-- ITS FALSE NEIGHBOUR: 'it returns false'. Refute it at one input. -/
def requestRepliesWrong : ChangeSpec := { name := "requestReplies", fn := fun _ => fun
  | [d] => { results := [.lit (.bool false)], args := [d] }
  | _ => none }
def RequestRepliesWrongFalsely : Prop := requestRepliesRow.holds Tryz.pinned (OpenSpec.ofChange requestRepliesWrong)

/- THE SECOND FORM. 'bulk': how many values and letters a reading holds, each counted each time it is reached (what is shared counts as often as it is met; a slice's spare places count too). A statement '..UptoSaid' is the law's where the arguments, and the package variables that the reading takes, are together of bulk at most 1048576: NARROWER than '..Said'. Prove '..Said' where nothing that the law and all that it calls make is longer than what came in: it says more and counts as full. Else prove '..UptoSaid'. A law counts once. -/
mutual
def uptoBulk {H : Type} : DataW H → Nat
  | .lit (.string bytes) => bytes.length + 1
  | .lit _ => 1
  | .nil => 1
  | .ptr d => uptoBulk d + 1
  | .slice elems spare => uptoBulkAll elems + uptoBulkAll spare + 1
  | .agg parts => uptoBulkAll parts + 1
  | .iface _ d => uptoBulk d + 1
  | .map entries => uptoBulkEntries entries + 1
  | .held _ => 1
def uptoBulkAll {H : Type} : List (DataW H) → Nat
  | [] => 0
  | d :: r => uptoBulk d + uptoBulkAll r
def uptoBulkEntries {H : Type} : List (Lit × DataW H) → Nat
  | [] => 0
  | x :: r => uptoBulkEntry x + uptoBulkEntries r
def uptoBulkEntry {H : Type} : Lit × DataW H → Nat
  | (.string bytes, d) => bytes.length + uptoBulk d + 1
  | (_, d) => uptoBulk d + 1
 end
def uptoSmall : (H : Type) → List (DataW H) → Bool := fun _ ds => decide (uptoBulkAll ds ≤ 1048576)
def OpenSpec.upto (s : _root_.Go.ChangeSpec) : _root_.Go.OpenSpec := { _root_.Go.OpenSpec.ofChange s with cond := some uptoSmall }

/-- 'workflowlaw23.EventcodeEncode', WHERE WHAT IT READS IS OF BULK AT MOST 1048576: true; the input reads as it did. -/
def eventcodeEncodeUptoRow : OpenClaim := { program := "ytnigjppddilpcaagreatdoor", sum := "73200c0119870caad17b964f20f29ac7eaf6daedd7dcab4ba3cb917e81e4b8ed", func := "workflow/workflowlaw23.EventcodeEncode", spec := "eventcodeEncode", unfollowed := true, recurses := true, named := ["strconv.ErrSyntax", "strconv.ErrRange", "internal/strconv.uint64pow10", "math/bits.deBruijn32tab", "math/bits.deBruijn64tab"], loops := true, apart := false, laid := [("math/bits.deBruijn32tab", laid_math_bits_deBruijn32tab), ("math/bits.deBruijn64tab", laid_math_bits_deBruijn64tab), ("internal/strconv.uint64pow10", laid_internal_strconv_uint64pow10), ("strconv.ErrRange", laid_strconv_ErrRange), ("strconv.ErrSyntax", laid_strconv_ErrSyntax)], narrowed := true }
def EventcodeEncodeUptoSaid : Prop := eventcodeEncodeUptoRow.holds Tryz.pinned (OpenSpec.upto eventcodeEncodeSpec)

/-- 'workflowlaw23.EventcodeBatch', WHERE WHAT IT READS IS OF BULK AT MOST 1048576: true; the input reads as it did. -/
def eventcodeBatchUptoRow : OpenClaim := { program := "ytnigjppddilpcaagreatdoor", sum := "73200c0119870caad17b964f20f29ac7eaf6daedd7dcab4ba3cb917e81e4b8ed", func := "workflow/workflowlaw23.EventcodeBatch", spec := "eventcodeBatch", unfollowed := true, recurses := true, named := ["strconv.ErrSyntax", "strconv.ErrRange", "internal/strconv.uint64pow10", "math/bits.deBruijn32tab", "math/bits.deBruijn64tab"], loops := true, apart := false, laid := [("math/bits.deBruijn32tab", laid_math_bits_deBruijn32tab), ("math/bits.deBruijn64tab", laid_math_bits_deBruijn64tab), ("internal/strconv.uint64pow10", laid_internal_strconv_uint64pow10), ("strconv.ErrRange", laid_strconv_ErrRange), ("strconv.ErrSyntax", laid_strconv_ErrSyntax)], narrowed := true }
def EventcodeBatchUptoSaid : Prop := eventcodeBatchUptoRow.holds Tryz.pinned (OpenSpec.upto eventcodeBatchSpec)

/-- 'workflowlaw23.EventcodeUnbatch', WHERE WHAT IT READS IS OF BULK AT MOST 1048576: true; the input reads as it did. -/
def eventcodeUnbatchUptoRow : OpenClaim := { program := "ytnigjppddilpcaagreatdoor", sum := "73200c0119870caad17b964f20f29ac7eaf6daedd7dcab4ba3cb917e81e4b8ed", func := "workflow/workflowlaw23.EventcodeUnbatch", spec := "eventcodeUnbatch", unfollowed := true, recurses := true, named := ["strconv.ErrSyntax", "strconv.ErrRange", "internal/strconv.uint64pow10", "math/bits.deBruijn32tab", "math/bits.deBruijn64tab"], apart := false, laid := [("math/bits.deBruijn32tab", laid_math_bits_deBruijn32tab), ("math/bits.deBruijn64tab", laid_math_bits_deBruijn64tab), ("internal/strconv.uint64pow10", laid_internal_strconv_uint64pow10), ("strconv.ErrRange", laid_strconv_ErrRange), ("strconv.ErrSyntax", laid_strconv_ErrSyntax)], narrowed := true }
def EventcodeUnbatchUptoSaid : Prop := eventcodeUnbatchUptoRow.holds Tryz.pinned (OpenSpec.upto eventcodeUnbatchSpec)

/-- 'workflowlaw23.EventcodeChanged', WHERE WHAT IT READS IS OF BULK AT MOST 1048576: true; the input reads as it did. -/
def eventcodeChangedUptoRow : OpenClaim := { program := "ytnigjppddilpcaagreatdoor", sum := "73200c0119870caad17b964f20f29ac7eaf6daedd7dcab4ba3cb917e81e4b8ed", func := "workflow/workflowlaw23.EventcodeChanged", spec := "eventcodeChanged", unfollowed := true, recurses := true, named := ["strconv.ErrSyntax", "strconv.ErrRange", "internal/strconv.uint64pow10", "math/bits.deBruijn32tab", "math/bits.deBruijn64tab"], loops := true, apart := false, laid := [("math/bits.deBruijn32tab", laid_math_bits_deBruijn32tab), ("math/bits.deBruijn64tab", laid_math_bits_deBruijn64tab), ("internal/strconv.uint64pow10", laid_internal_strconv_uint64pow10), ("strconv.ErrRange", laid_strconv_ErrRange), ("strconv.ErrSyntax", laid_strconv_ErrSyntax)], narrowed := true }
def EventcodeChangedUptoSaid : Prop := eventcodeChangedUptoRow.holds Tryz.pinned (OpenSpec.upto eventcodeChangedSpec)

/-- 'workflowlaw23.EventcodeDecode', WHERE WHAT IT READS IS OF BULK AT MOST 1048576: true; the input reads as it did. -/
def eventcodeDecodeUptoRow : OpenClaim := { program := "ytnigjppddilpcaagreatdoor", sum := "73200c0119870caad17b964f20f29ac7eaf6daedd7dcab4ba3cb917e81e4b8ed", func := "workflow/workflowlaw23.EventcodeDecode", spec := "eventcodeDecode", unfollowed := true, recurses := true, named := ["strconv.ErrSyntax", "strconv.ErrRange", "internal/strconv.uint64pow10", "math/bits.deBruijn32tab", "math/bits.deBruijn64tab"], apart := false, laid := [("math/bits.deBruijn32tab", laid_math_bits_deBruijn32tab), ("math/bits.deBruijn64tab", laid_math_bits_deBruijn64tab), ("internal/strconv.uint64pow10", laid_internal_strconv_uint64pow10), ("strconv.ErrRange", laid_strconv_ErrRange), ("strconv.ErrSyntax", laid_strconv_ErrSyntax)], narrowed := true }
def EventcodeDecodeUptoSaid : Prop := eventcodeDecodeUptoRow.holds Tryz.pinned (OpenSpec.upto eventcodeDecodeSpec)

/-- 'workflowlaw23.EventcodeRound', WHERE WHAT IT READS IS OF BULK AT MOST 1048576: true; the input reads as it did. -/
def eventcodeRoundUptoRow : OpenClaim := { program := "ytnigjppddilpcaagreatdoor", sum := "73200c0119870caad17b964f20f29ac7eaf6daedd7dcab4ba3cb917e81e4b8ed", func := "workflow/workflowlaw23.EventcodeRound", spec := "eventcodeRound", unfollowed := true, recurses := true, named := ["strconv.ErrSyntax", "strconv.ErrRange", "internal/strconv.uint64pow10", "math/bits.deBruijn32tab", "math/bits.deBruijn64tab"], loops := true, apart := false, laid := [("math/bits.deBruijn32tab", laid_math_bits_deBruijn32tab), ("math/bits.deBruijn64tab", laid_math_bits_deBruijn64tab), ("internal/strconv.uint64pow10", laid_internal_strconv_uint64pow10), ("strconv.ErrRange", laid_strconv_ErrRange), ("strconv.ErrSyntax", laid_strconv_ErrSyntax)], narrowed := true }
def EventcodeRoundUptoSaid : Prop := eventcodeRoundUptoRow.holds Tryz.pinned (OpenSpec.upto eventcodeRoundSpec)

/-- 'workflowlaw48.RequestEncodes', WHERE WHAT IT READS IS OF BULK AT MOST 1048576: true; the input reads as it did. -/
def requestEncodesUptoRow : OpenClaim := { program := "ytnigjppddilpcaagreatdoor", sum := "73200c0119870caad17b964f20f29ac7eaf6daedd7dcab4ba3cb917e81e4b8ed", func := "workflow/workflowlaw48.RequestEncodes", spec := "requestEncodes", inPlace := ["internal/bytealg.IndexByteString", "internal/bytealg.IndexString"], unfollowed := true, recurses := true, named := ["strconv.ErrSyntax", "strconv.ErrRange", "internal/strconv.uint64pow10", "math/bits.deBruijn32tab", "math/bits.deBruijn64tab", "internal/bytealg.MaxLen"], loops := true, apart := false, laid := [("math/bits.deBruijn32tab", laid_math_bits_deBruijn32tab), ("math/bits.deBruijn64tab", laid_math_bits_deBruijn64tab), ("internal/strconv.uint64pow10", laid_internal_strconv_uint64pow10), ("strconv.ErrRange", laid_strconv_ErrRange), ("strconv.ErrSyntax", laid_strconv_ErrSyntax)], narrowed := true }
def RequestEncodesUptoSaid : Prop := requestEncodesUptoRow.holds Tryz.pinned (OpenSpec.upto requestEncodesSpec)

/-- 'workflowlaw48.RequestRoundTrip', WHERE WHAT IT READS IS OF BULK AT MOST 1048576: true; the input reads as it did. -/
def requestRoundTripUptoRow : OpenClaim := { program := "ytnigjppddilpcaagreatdoor", sum := "73200c0119870caad17b964f20f29ac7eaf6daedd7dcab4ba3cb917e81e4b8ed", func := "workflow/workflowlaw48.RequestRoundTrip", spec := "requestRoundTrip", inPlace := ["internal/bytealg.IndexByteString", "internal/bytealg.IndexString"], unfollowed := true, recurses := true, named := ["strconv.ErrSyntax", "strconv.ErrRange", "internal/strconv.uint64pow10", "math/bits.deBruijn32tab", "math/bits.deBruijn64tab", "internal/bytealg.MaxLen"], loops := true, apart := false, laid := [("math/bits.deBruijn32tab", laid_math_bits_deBruijn32tab), ("math/bits.deBruijn64tab", laid_math_bits_deBruijn64tab), ("internal/strconv.uint64pow10", laid_internal_strconv_uint64pow10), ("strconv.ErrRange", laid_strconv_ErrRange), ("strconv.ErrSyntax", laid_strconv_ErrSyntax)], narrowed := true }
def RequestRoundTripUptoSaid : Prop := requestRoundTripUptoRow.holds Tryz.pinned (OpenSpec.upto requestRoundTripSpec)

/-- 'workflowlaw48.RequestRight', WHERE WHAT IT READS IS OF BULK AT MOST 1048576: true; the input reads as it did. -/
def requestRightUptoRow : OpenClaim := { program := "ytnigjppddilpcaagreatdoor", sum := "73200c0119870caad17b964f20f29ac7eaf6daedd7dcab4ba3cb917e81e4b8ed", func := "workflow/workflowlaw48.RequestRight", spec := "requestRight", inPlace := ["internal/bytealg.IndexByteString", "internal/bytealg.IndexString"], unfollowed := true, recurses := true, named := ["strconv.ErrSyntax", "strconv.ErrRange", "internal/strconv.uint64pow10", "math/bits.deBruijn32tab", "math/bits.deBruijn64tab", "internal/bytealg.MaxLen"], loops := true, apart := false, laid := [("math/bits.deBruijn32tab", laid_math_bits_deBruijn32tab), ("math/bits.deBruijn64tab", laid_math_bits_deBruijn64tab), ("internal/strconv.uint64pow10", laid_internal_strconv_uint64pow10), ("strconv.ErrRange", laid_strconv_ErrRange), ("strconv.ErrSyntax", laid_strconv_ErrSyntax)], narrowed := true }
def RequestRightUptoSaid : Prop := requestRightUptoRow.holds Tryz.pinned (OpenSpec.upto requestRightSpec)

/-- 'workflowlaw48.RequestSame', WHERE WHAT IT READS IS OF BULK AT MOST 1048576: true; the input reads as it did. -/
def requestSameUptoRow : OpenClaim := { program := "ytnigjppddilpcaagreatdoor", sum := "73200c0119870caad17b964f20f29ac7eaf6daedd7dcab4ba3cb917e81e4b8ed", func := "workflow/workflowlaw48.RequestSame", spec := "requestSame", inPlace := ["internal/bytealg.IndexByteString", "internal/bytealg.IndexString"], unfollowed := true, recurses := true, named := ["strconv.ErrSyntax", "strconv.ErrRange", "internal/strconv.uint64pow10", "math/bits.deBruijn32tab", "math/bits.deBruijn64tab", "internal/bytealg.MaxLen"], loops := true, apart := false, laid := [("math/bits.deBruijn32tab", laid_math_bits_deBruijn32tab), ("math/bits.deBruijn64tab", laid_math_bits_deBruijn64tab), ("internal/strconv.uint64pow10", laid_internal_strconv_uint64pow10), ("strconv.ErrRange", laid_strconv_ErrRange), ("strconv.ErrSyntax", laid_strconv_ErrSyntax)], narrowed := true }
def RequestSameUptoSaid : Prop := requestSameUptoRow.holds Tryz.pinned (OpenSpec.upto requestSameSpec)

/-- 'workflowlaw48.RequestDecodes', WHERE WHAT IT READS IS OF BULK AT MOST 1048576: true; the input reads as it did. -/
def requestDecodesUptoRow : OpenClaim := { program := "ytnigjppddilpcaagreatdoor", sum := "73200c0119870caad17b964f20f29ac7eaf6daedd7dcab4ba3cb917e81e4b8ed", func := "workflow/workflowlaw48.RequestDecodes", spec := "requestDecodes", inPlace := ["internal/bytealg.IndexByteString", "internal/bytealg.IndexString"], unfollowed := true, recurses := true, named := ["strconv.ErrSyntax", "strconv.ErrRange", "internal/strconv.uint64pow10", "math/bits.deBruijn32tab", "math/bits.deBruijn64tab", "internal/bytealg.MaxLen"], apart := false, laid := [("math/bits.deBruijn32tab", laid_math_bits_deBruijn32tab), ("math/bits.deBruijn64tab", laid_math_bits_deBruijn64tab), ("internal/strconv.uint64pow10", laid_internal_strconv_uint64pow10), ("strconv.ErrRange", laid_strconv_ErrRange), ("strconv.ErrSyntax", laid_strconv_ErrSyntax)], narrowed := true }
def RequestDecodesUptoSaid : Prop := requestDecodesUptoRow.holds Tryz.pinned (OpenSpec.upto requestDecodesSpec)

/-- 'workflowlaw48.RequestReplies', WHERE WHAT IT READS IS OF BULK AT MOST 1048576: true; the input reads as it did. -/
def requestRepliesUptoRow : OpenClaim := { program := "ytnigjppddilpcaagreatdoor", sum := "73200c0119870caad17b964f20f29ac7eaf6daedd7dcab4ba3cb917e81e4b8ed", func := "workflow/workflowlaw48.RequestReplies", spec := "requestReplies", inPlace := ["internal/bytealg.IndexByteString", "internal/bytealg.IndexString"], unfollowed := true, recurses := true, named := ["strconv.ErrSyntax", "strconv.ErrRange", "internal/strconv.uint64pow10", "math/bits.deBruijn32tab", "math/bits.deBruijn64tab", "internal/bytealg.MaxLen"], loops := true, apart := false, laid := [("math/bits.deBruijn32tab", laid_math_bits_deBruijn32tab), ("math/bits.deBruijn64tab", laid_math_bits_deBruijn64tab), ("internal/strconv.uint64pow10", laid_internal_strconv_uint64pow10), ("strconv.ErrRange", laid_strconv_ErrRange), ("strconv.ErrSyntax", laid_strconv_ErrSyntax)], narrowed := true }
def RequestRepliesUptoSaid : Prop := requestRepliesUptoRow.holds Tryz.pinned (OpenSpec.upto requestRepliesSpec)

end Rows
end Go.Proofs.YtnigjppddilpcaaGreatDoor
