/- The law EventcodeBatch: by which way its row goes. -/
import Derived.Test.YtnigjppddilpcaaGreatDoorRowUAEventcodeBatch
namespace Go.Proofs.YtnigjppddilpcaaGreatDoor.eventcodeBatch
open Go.ChangeShapes Go.WideShapes Go.ChangeAt Go.RowKit Go.Proofs.YtnigjppddilpcaaGreatDoor.Abs
set_option linter.unusedVariables false
theorem goes:false=Rows.eventcodeBatchUptoRow.goesBy Tryz.pinned.checked.prog:=by kernel_rfl
end Go.Proofs.YtnigjppddilpcaaGreatDoor.eventcodeBatch
