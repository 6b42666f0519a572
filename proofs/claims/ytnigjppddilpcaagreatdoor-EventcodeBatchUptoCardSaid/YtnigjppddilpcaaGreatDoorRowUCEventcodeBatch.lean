/- The law EventcodeBatch: what the row of its second form tells of the program. -/
import Derived.Test.YtnigjppddilpcaaGreatDoorRowUAEventcodeBatch
namespace Go.Proofs.YtnigjppddilpcaaGreatDoor.eventcodeBatch
open Go.ChangeShapes Go.WideShapes Go.ChangeAt Go.RowKit Go.Proofs.YtnigjppddilpcaaGreatDoor.Abs
set_option linter.unusedVariables false
theorem closed:joinedFacts Tryz.pinned.checked.prog 4 Tryz.f4 (Rows.OpenSpec.upto Rows.eventcodeBatchSpec).bare Rows.eventcodeBatchUptoRow=true:=by kernel_rfl
end Go.Proofs.YtnigjppddilpcaaGreatDoor.eventcodeBatch
