/- The law RequestRoundTrip: by which way its row goes. -/
import Derived.Test.YtnigjppddilpcaaGreatDoorRowUARequestRoundTrip
namespace Go.Proofs.YtnigjppddilpcaaGreatDoor.requestRoundTrip
open Go.ChangeShapes Go.WideShapes Go.ChangeAt Go.RowKit Go.Proofs.YtnigjppddilpcaaGreatDoor.Abs
set_option linter.unusedVariables false
theorem goes:false=Rows.requestRoundTripUptoRow.goesBy Tryz.pinned.checked.prog:=by kernel_rfl
end Go.Proofs.YtnigjppddilpcaaGreatDoor.requestRoundTrip
