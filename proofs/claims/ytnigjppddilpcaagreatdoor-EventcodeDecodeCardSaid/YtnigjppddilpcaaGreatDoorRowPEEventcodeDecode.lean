/- The law EventcodeDecode: by which way its row goes. -/
import Derived.Test.YtnigjppddilpcaaGreatDoorRowPAEventcodeDecode
namespace Go.Proofs.YtnigjppddilpcaaGreatDoor.eventcodeDecode
open Go.ChangeShapes Go.WideShapes Go.ChangeAt Go.RowKit Go.Proofs.YtnigjppddilpcaaGreatDoor.Abs
set_option linter.unusedVariables false
theorem goes:false=Rows.eventcodeDecodeRow.goesBy Tryz.pinned.checked.prog:=by kernel_rfl
