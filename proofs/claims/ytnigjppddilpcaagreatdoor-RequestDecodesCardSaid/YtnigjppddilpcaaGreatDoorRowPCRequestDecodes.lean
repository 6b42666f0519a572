/- The law RequestDecodes: what the row of its second form tells of the program. -/
import Derived.Test.YtnigjppddilpcaaGreatDoorCards
import Derived.JoinedOf
import Derived.KernelRfl
namespace Go.Proofs.YtnigjppddilpcaaGreatDoor.requestDecodes
open Go
set_option linter.unusedVariables false
theorem closed:joinedFacts Tryz.pinned.checked.prog 13 Tryz.f13 (OpenSpec.ofChange Rows.requestDecodesSpec).bare Rows.requestDecodesRow=true:=by kernel_rfl
