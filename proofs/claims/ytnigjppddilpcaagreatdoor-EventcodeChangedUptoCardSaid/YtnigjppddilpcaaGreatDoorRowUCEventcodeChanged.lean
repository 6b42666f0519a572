/- The law EventcodeChanged: what the row of its second form tells of the program. -/
import Derived.Test.YtnigjppddilpcaaGreatDoorRowUAEventcodeChanged
namespace Go.Proofs.YtnigjppddilpcaaGreatDoor.eventcodeChanged
open Go.ChangeShapes Go.WideShapes Go.ChangeAt Go.RowKit Go.Proofs.YtnigjppddilpcaaGreatDoor.Abs
set_option linter.unusedVariables false
theorem closed:joinedFacts Tryz.pinned.checked.prog 6 Tryz.f6 (Rows.OpenSpec.upto Rows.eventcodeChangedSpec).bare Rows.eventcodeChangedUptoRow=true:=by kernel_rfl
end Go.Proofs.YtnigjppddilpcaaGreatDoor.eventcodeChanged
