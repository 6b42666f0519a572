/- The law RequestSame: by which way its row goes. -/
import Derived.Test.YtnigjppddilpcaaGreatDoorRowPARequestSame
namespace Go.Proofs.YtnigjppddilpcaaGreatDoor.requestSame
open Go.ChangeShapes Go.WideShapes Go.ChangeAt Go.RowKit Go.Proofs.YtnigjppddilpcaaGreatDoor.Abs
set_option linter.unusedVariables false
theorem goes:false=Rows.requestSameRow.goesBy Tryz.pinned.checked.prog:=by kernel_rfl
