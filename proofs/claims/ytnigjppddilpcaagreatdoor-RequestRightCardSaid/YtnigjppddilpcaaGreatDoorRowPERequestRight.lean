/- The law RequestRight: by which way its row goes. -/
import Derived.Test.YtnigjppddilpcaaGreatDoorRowPARequestRight
namespace Go.Proofs.YtnigjppddilpcaaGreatDoor.requestRight
open Go.ChangeShapes Go.WideShapes Go.ChangeAt Go.RowKit Go.Proofs.YtnigjppddilpcaaGreatDoor.Abs
set_option linter.unusedVariables false
theorem goes:false=Rows.requestRightRow.goesBy Tryz.pinned.checked.prog:=by kernel_rfl
end Go.Proofs.YtnigjppddilpcaaGreatDoor.requestRight
