/- The law EventValid, called with any data of its types, returns true, and all else is as it was. Conditions: none. -/
import Derived.Test.YtngcjjhbimanlaaDoorGALEventValid
import Derived.Test.YtngcjjhbimanlaaDoorGAPEv3
namespace Go.Proofs.YtngcjjhbimanlaaDoor
open Go Abs
set_option linter.unusedVariables false
def plainTypes : List TypeId := [29, 3, 9, 25, 22, 23, 27]
theorem plain : plainOk Tryd.prog plainTypes = true := by kernel_rfl
theorem EventValid_law {p0 : List PV} {n0 : Nat} (s0 : Shaped Tryd.prog n0 29 p0) {p1 : PV} {n1 : Nat} (s1 : Shaped Tryd.prog n1 3 [p1]) {p2 : PV} {n2 : Nat} (s2 : Shaped Tryd.prog n2 3 [p2]) {p3 : PV} {n3 : Nat} (s3 : Shaped Tryd.prog n3 3 [p3]) : ACalls Tryd.prog 3 [.agg (p0.map AV.c), .c p1, .c p2, .c p3] [] (.c (.bool true)) [] := EventValid_law_of (fun x0 x1 x2 x3 k0 k1 k2 k3 => EventValid_pure x0 x1 x2 x3 k0 k1 k2 k3) s0 s1 s2 s3
end Go.Proofs.YtngcjjhbimanlaaDoor
