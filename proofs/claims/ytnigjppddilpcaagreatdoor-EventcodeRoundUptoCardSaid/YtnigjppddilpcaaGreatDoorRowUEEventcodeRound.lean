/- The law EventcodeRound: by which way its row goes. -/
import Derived.Test.YtnigjppddilpcaaGreatDoorRowUAEventcodeRound
namespace Go.Proofs.YtnigjppddilpcaaGreatDoor.eventcodeRound
open Go.ChangeShapes Go.WideShapes Go.ChangeAt Go.RowKit Go.Proofs.YtnigjppddilpcaaGreatDoor.Abs
set_option linter.unusedVariables false
theorem goes:false=Rows.eventcodeRoundUptoRow.goesBy Tryz.pinned.checked.prog:=by kernel_rfl
end Go.Proofs.YtnigjppddilpcaaGreatDoor.eventcodeRound
