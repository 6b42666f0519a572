/- The law PartitionForest, called with any data of its types, returns true, and all else is as it was. Conditions: none. -/
import Derived.Test.YtmbdbdhdcbdcpaaDoorGPLPartitionForest
import Derived.Test.YtmbdbdhdcbdcpaaDoorGPPPartF
namespace Go.Proofs.YtmbdbdhdcbdcpaaDoor
open Go Abs
set_option linter.unusedVariables false
def plainTypes : List TypeId := [9, 3]
theorem plain : plainOk Tryd.prog plainTypes = true := by kernel_rfl
theorem PartitionForest_law {p0 : PV} {n0 : Nat} (s0 : Shaped Tryd.prog n0 9 [p0]) {p1 : PV} {n1 : Nat} (s1 : Shaped Tryd.prog n1 3 [p1]) {p2 : PV} {n2 : Nat} (s2 : Shaped Tryd.prog n2 3 [p2]) : ACalls Tryd.prog 4 [.c p0, .c p1, .c p2] [] (.c (.bool true)) [] := PartitionForest_law_of (fun x0 x1 x2 k0 k1 k2 => PartitionForest_pure x0 x1 x2) s0 s1 s2
end Go.Proofs.YtmbdbdhdcbdcpaaDoor
