/- The program's main function. -/
import Derived.Test.YtnigjppddilpcaaGreatDoorGlo
import Derived.Test.YtnigjppddilpcaaGreatDoorCards
import Derived.SevenTiedAt
namespace Go.Proofs.YtnigjppddilpcaaGreatDoor
theorem aTk:Tryz.pinned.checked.prog.mainIs=some (true,("d3f8171a6e7a074e1ea4c0673278b9b1af8a30a7aeabba1b339a565d3619567c":String).toList):=by kernel_rfl
