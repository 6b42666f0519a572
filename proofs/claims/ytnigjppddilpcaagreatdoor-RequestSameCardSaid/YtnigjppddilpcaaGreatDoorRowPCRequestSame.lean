/- The law RequestSame: what the row of its second form tells of the program. -/
import Derived.Test.YtnigjppddilpcaaGreatDoorRowPARequestSame
namespace Go.Proofs.YtnigjppddilpcaaGreatDoor.requestSame
open Go.ChangeShapes Go.WideShapes Go.ChangeAt Go.RowKit Go.Proofs.YtnigjppddilpcaaGreatDoor.Abs
set_option linter.unusedVariables false
theorem closed:joinedFacts Tryz.pinned.checked.prog 12 Tryz.f12 (OpenSpec.ofChange Rows.requestSameSpec).bare Rows.requestSameRow=true:=by kernel_rfl
