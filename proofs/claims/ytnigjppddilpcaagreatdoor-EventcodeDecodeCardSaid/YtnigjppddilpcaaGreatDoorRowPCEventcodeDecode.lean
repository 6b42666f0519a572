/- The law EventcodeDecode: what the row of its second form tells of the program. -/
import Derived.Test.YtnigjppddilpcaaGreatDoorRowPAEventcodeDecode
namespace Go.Proofs.YtnigjppddilpcaaGreatDoor.eventcodeDecode
open Go.ChangeShapes Go.WideShapes Go.ChangeAt Go.RowKit Go.Proofs.YtnigjppddilpcaaGreatDoor.Abs
set_option linter.unusedVariables false
theorem closed:joinedFacts Tryz.pinned.checked.prog 7 Tryz.f7 (OpenSpec.ofChange Rows.eventcodeDecodeSpec).bare Rows.eventcodeDecodeRow=true:=by kernel_rfl
