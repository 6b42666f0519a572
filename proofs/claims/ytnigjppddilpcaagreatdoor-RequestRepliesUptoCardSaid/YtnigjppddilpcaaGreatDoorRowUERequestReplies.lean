/- The law RequestReplies: by which way its row goes. -/
import Derived.Test.YtnigjppddilpcaaGreatDoorRowUARequestReplies
namespace Go.Proofs.YtnigjppddilpcaaGreatDoor.requestReplies
open Go.ChangeShapes Go.WideShapes Go.ChangeAt Go.RowKit Go.Proofs.YtnigjppddilpcaaGreatDoor.Abs
set_option linter.unusedVariables false
theorem goes:false=Rows.requestRepliesUptoRow.goesBy Tryz.pinned.checked.prog:=by kernel_rfl
