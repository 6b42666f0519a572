/- The law RequestRoundTrip: what the row of its second form tells of the program. -/
import Derived.Test.YtnigjppddilpcaaGreatDoorRowUARequestRoundTrip
namespace Go.Proofs.YtnigjppddilpcaaGreatDoor.requestRoundTrip
open Go.ChangeShapes Go.WideShapes Go.ChangeAt Go.RowKit Go.Proofs.YtnigjppddilpcaaGreatDoor.Abs
set_option linter.unusedVariables false
theorem closed:joinedFacts Tryz.pinned.checked.prog 10 Tryz.f10 (Rows.OpenSpec.upto Rows.requestRoundTripSpec).bare Rows.requestRoundTripUptoRow=true:=by kernel_rfl
end Go.Proofs.YtnigjppddilpcaaGreatDoor.requestRoundTrip
