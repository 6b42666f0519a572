/- The law EventcodeEncode: what the row of its second form tells of the program. -/
import Derived.Test.YtnigjppddilpcaaGreatDoorRowUAEventcodeEncode
namespace Go.Proofs.YtnigjppddilpcaaGreatDoor.eventcodeEncode
open Go.ChangeShapes Go.WideShapes Go.ChangeAt Go.RowKit Go.Proofs.YtnigjppddilpcaaGreatDoor.Abs
set_option linter.unusedVariables false
theorem closed:joinedFacts Tryz.pinned.checked.prog 3 Tryz.f3 (Rows.OpenSpec.upto Rows.eventcodeEncodeSpec).bare Rows.eventcodeEncodeUptoRow=true:=by kernel_rfl
end Go.Proofs.YtnigjppddilpcaaGreatDoor.eventcodeEncode
