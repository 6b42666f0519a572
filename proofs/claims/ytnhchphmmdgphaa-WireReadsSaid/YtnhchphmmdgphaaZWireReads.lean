/- The law WireReads, called with any data of its types, returns true, and all else is as it was. Conditions: none. -/
import Derived.Test.YtnhchphmmdgphaaGBLWireReads
import Derived.Test.YtnhchphmmdgphaaPWire4
namespace Go.Proofs.Ytnhchphmmdgphaa
open Go Abs
set_option linter.unusedVariables false
def plainTypes : List TypeId := [22, 5, 52, 56, 3]
theorem plain : plainOk Try.prog plainTypes = true := by kernel_rfl
theorem WireReads_law {p0 : PV} {n0 : Nat} (s0 : Shaped Try.prog n0 22 [p0]) {p1 : PV} {n1 : Nat} (s1 : Shaped Try.prog n1 52 [p1]) : ACalls Try.prog 8 [.c p0, .c p1] [] (.c (.bool true)) [] := WireReads_law_of (fun x0 x1 k0 k1 => WireReads_pure x0 x1) s0 s1
end Go.Proofs.Ytnhchphmmdgphaa
