/- The law EventcodeUnbatch: by which way its row goes. -/
import Derived.Test.YtnigjppddilpcaaGreatDoorRowPAEventcodeUnbatch
namespace Go.Proofs.YtnigjppddilpcaaGreatDoor.eventcodeUnbatch
open Go.ChangeShapes Go.WideShapes Go.ChangeAt Go.RowKit Go.Proofs.YtnigjppddilpcaaGreatDoor.Abs
set_option linter.unusedVariables false
theorem goes:false=Rows.eventcodeUnbatchRow.goesBy Tryz.pinned.checked.prog:=by kernel_rfl
