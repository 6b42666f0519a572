/- The law EventcodeUnbatch: what the row of its second form tells of the program. -/
import Derived.Test.YtnigjppddilpcaaGreatDoorRowPAEventcodeUnbatch
namespace Go.Proofs.YtnigjppddilpcaaGreatDoor.eventcodeUnbatch
open Go.ChangeShapes Go.WideShapes Go.ChangeAt Go.RowKit Go.Proofs.YtnigjppddilpcaaGreatDoor.Abs
set_option linter.unusedVariables false
theorem closed:joinedFacts Tryz.pinned.checked.prog 5 Tryz.f5 (OpenSpec.ofChange Rows.eventcodeUnbatchSpec).bare Rows.eventcodeUnbatchRow=true:=by kernel_rfl
