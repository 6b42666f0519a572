/- The law EventKinds, called with any data of its types, returns true, and all else is as it was. Conditions: none. -/
import Derived.Test.YtngcjjhbimanlaaDoorGALEventKinds
import Derived.Test.YtngcjjhbimanlaaDoorGAPEv3
namespace Go.Proofs.YtngcjjhbimanlaaDoor
open Go Abs
set_option linter.unusedVariables false
def plainTypes : List TypeId := [3, 9]
theorem plain : plainOk Tryd.prog plainTypes = true := by kernel_rfl
theorem EventKinds_law {p0 : PV} {n0 : Nat} (s0 : Shaped Tryd.prog n0 3 [p0]) {p1 : PV} {n1 : Nat} (s1 : Shaped Tryd.prog n1 9 [p1]) : ACalls Tryd.prog 5 [.c p0, .c p1] [] (.c (.bool true)) [] := EventKinds_law_of (fun x0 x1 k0 k1 => EventKinds_pure x0 x1) s0 s1
end Go.Proofs.YtngcjjhbimanlaaDoor
