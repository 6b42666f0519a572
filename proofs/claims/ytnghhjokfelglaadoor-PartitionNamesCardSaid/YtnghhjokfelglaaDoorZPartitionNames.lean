/- The law PartitionNames, called with any data of its types, returns true, and all else is as it was. Conditions: none. -/
import Derived.Test.YtnghhjokfelglaaDoorGALPartitionNames
import Derived.Test.YtnghhjokfelglaaDoorGAPPartN
namespace Go.Proofs.YtnghhjokfelglaaDoor
open Go Abs
set_option linter.unusedVariables false
def plainTypes : List TypeId := [9, 3]
theorem plain : plainOk Tryd.prog plainTypes = true := by kernel_rfl
theorem PartitionNames_law {p0 : PV} {n0 : Nat} (s0 : Shaped Tryd.prog n0 9 [p0]) {p1 : PV} {n1 : Nat} (s1 : Shaped Tryd.prog n1 3 [p1]) : ACalls Tryd.prog 4 [.c p0, .c p1] [] (.c (.bool true)) [] := PartitionNames_law_of (fun x0 x1 k0 k1 => PartitionNames_pure x0 x1 k1) s0 s1
end Go.Proofs.YtnghhjokfelglaaDoor
