/- The program's own looks. -/
import Derived.Test.YtnigjppddilpcaaGreatDoorGlo
import Derived.Test.YtnigjppddilpcaaGreatDoorCards
import Derived.SevenTiedAt
namespace Go.Proofs.YtnigjppddilpcaaGreatDoor
theorem aSe:true=Tryz.pinned.checked.prog.looks []:=by kernel_rfl
