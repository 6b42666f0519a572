/- The law EventcodeChanged: by which way its row goes. -/
import Derived.Test.YtnigjppddilpcaaGreatDoorRowUAEventcodeChanged
namespace Go.Proofs.YtnigjppddilpcaaGreatDoor.eventcodeChanged
open Go.ChangeShapes Go.WideShapes Go.ChangeAt Go.RowKit Go.Proofs.YtnigjppddilpcaaGreatDoor.Abs
set_option linter.unusedVariables false
theorem goes:false=Rows.eventcodeChangedUptoRow.goesBy Tryz.pinned.checked.prog:=by kernel_rfl
end Go.Proofs.YtnigjppddilpcaaGreatDoor.eventcodeChanged
