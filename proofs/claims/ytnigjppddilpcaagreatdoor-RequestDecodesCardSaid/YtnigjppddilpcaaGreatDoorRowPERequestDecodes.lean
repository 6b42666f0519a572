/- The law RequestDecodes: by which way its row goes. -/
import Derived.Test.YtnigjppddilpcaaGreatDoorRowPARequestDecodes
namespace Go.Proofs.YtnigjppddilpcaaGreatDoor.requestDecodes
open Go.ChangeShapes Go.WideShapes Go.ChangeAt Go.RowKit Go.Proofs.YtnigjppddilpcaaGreatDoor.Abs
set_option linter.unusedVariables false
theorem goes:false=Rows.requestDecodesRow.goesBy Tryz.pinned.checked.prog:=by kernel_rfl
