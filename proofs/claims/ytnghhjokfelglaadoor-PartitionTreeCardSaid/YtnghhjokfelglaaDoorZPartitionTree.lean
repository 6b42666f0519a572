/- The law PartitionTree, called with any data of its types, returns true, and all else is as it was. Conditions: none. -/
import Derived.Test.YtnghhjokfelglaaDoorGALPartitionTree
import Derived.Test.YtnghhjokfelglaaDoorGAPPart
namespace Go.Proofs.YtnghhjokfelglaaDoor
open Go Abs
set_option linter.unusedVariables false
def plainTypes : List TypeId := [9, 3]
theorem plain : plainOk Tryd.prog plainTypes = true := by kernel_rfl
theorem PartitionTree_law {p0 : PV} {n0 : Nat} (s0 : Shaped Tryd.prog n0 9 [p0]) {p1 : PV} {n1 : Nat} (s1 : Shaped Tryd.prog n1 3 [p1]) {p2 : PV} {n2 : Nat} (s2 : Shaped Tryd.prog n2 3 [p2]) {p3 : PV} {n3 : Nat} (s3 : Shaped Tryd.prog n3 3 [p3]) : ACalls Tryd.prog 5 [.c p0, .c p1, .c p2, .c p3] [] (.c (.bool true)) [] := PartitionTree_law_of (fun x0 x1 x2 x3 k0 k1 k2 k3 => PartitionTree_pure x0 x1 x2 x3) s0 s1 s2 s3
end Go.Proofs.YtnghhjokfelglaaDoor
