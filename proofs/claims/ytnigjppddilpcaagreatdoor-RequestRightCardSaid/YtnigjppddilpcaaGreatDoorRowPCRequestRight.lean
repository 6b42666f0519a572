/- The law RequestRight: what the row of its second form tells of the program. -/
import Derived.Test.YtnigjppddilpcaaGreatDoorRowPARequestRight
namespace Go.Proofs.YtnigjppddilpcaaGreatDoor.requestRight
open Go.ChangeShapes Go.WideShapes Go.ChangeAt Go.RowKit Go.Proofs.YtnigjppddilpcaaGreatDoor.Abs
set_option linter.unusedVariables false
theorem closed:joinedFacts Tryz.pinned.checked.prog 11 Tryz.f11 (OpenSpec.ofChange Rows.requestRightSpec).bare Rows.requestRightRow=true:=by kernel_rfl
end Go.Proofs.YtnigjppddilpcaaGreatDoor.requestRight
