/- The law RequestEncodes: by which way its row goes. -/
import Derived.Test.YtnigjppddilpcaaGreatDoorRowUARequestEncodes
namespace Go.Proofs.YtnigjppddilpcaaGreatDoor.requestEncodes
open Go.ChangeShapes Go.WideShapes Go.ChangeAt Go.RowKit Go.Proofs.YtnigjppddilpcaaGreatDoor.Abs
set_option linter.unusedVariables false
theorem goes:false=Rows.requestEncodesUptoRow.goesBy Tryz.pinned.checked.prog:=by kernel_rfl
end Go.Proofs.YtnigjppddilpcaaGreatDoor.requestEncodes
