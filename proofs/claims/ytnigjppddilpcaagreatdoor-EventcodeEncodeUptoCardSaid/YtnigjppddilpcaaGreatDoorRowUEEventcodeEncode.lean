/- The law EventcodeEncode: by which way its row goes. -/
import Derived.Test.YtnigjppddilpcaaGreatDoorRowUAEventcodeEncode
namespace Go.Proofs.YtnigjppddilpcaaGreatDoor.eventcodeEncode
open Go.ChangeShapes Go.WideShapes Go.ChangeAt Go.RowKit Go.Proofs.YtnigjppddilpcaaGreatDoor.Abs
set_option linter.unusedVariables false
theorem goes:false=Rows.eventcodeEncodeUptoRow.goesBy Tryz.pinned.checked.prog:=by kernel_rfl
end Go.Proofs.YtnigjppddilpcaaGreatDoor.eventcodeEncode
