/- The law EventcodeRound: what the row of its second form tells of the program. -/
import Derived.Test.YtnigjppddilpcaaGreatDoorRowUAEventcodeRound
namespace Go.Proofs.YtnigjppddilpcaaGreatDoor.eventcodeRound
open Go.ChangeShapes Go.WideShapes Go.ChangeAt Go.RowKit Go.Proofs.YtnigjppddilpcaaGreatDoor.Abs
set_option linter.unusedVariables false
theorem closed:joinedFacts Tryz.pinned.checked.prog 8 Tryz.f8 (Rows.OpenSpec.upto Rows.eventcodeRoundSpec).bare Rows.eventcodeRoundUptoRow=true:=by kernel_rfl
end Go.Proofs.YtnigjppddilpcaaGreatDoor.eventcodeRound
