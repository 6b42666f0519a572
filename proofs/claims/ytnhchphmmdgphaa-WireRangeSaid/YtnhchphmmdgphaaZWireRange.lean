/- The law WireRange, called with any data of its types, returns true, and all else is as it was. Conditions: none. -/
import Derived.Test.YtnhchphmmdgphaaGBLWireRange
import Derived.Test.YtnhchphmmdgphaaPWire3
namespace Go.Proofs.Ytnhchphmmdgphaa
open Go Abs
set_option linter.unusedVariables false
def plainTypes : List TypeId := [3]
theorem plain : plainOk Try.prog plainTypes = true := by kernel_rfl
theorem WireRange_law {p0 : PV} {n0 : Nat} (s0 : Shaped Try.prog n0 3 [p0]) {p1 : PV} {n1 : Nat} (s1 : Shaped Try.prog n1 3 [p1]) {p2 : PV} {n2 : Nat} (s2 : Shaped Try.prog n2 3 [p2]) : ACalls Try.prog 4 [.c p0, .c p1, .c p2] [] (.c (.bool true)) [] := WireRange_law_of (fun x0 x1 x2 k0 k1 k2 => WireRange_pure k0.1 k0.2) s0 s1 s2
end Go.Proofs.Ytnhchphmmdgphaa
