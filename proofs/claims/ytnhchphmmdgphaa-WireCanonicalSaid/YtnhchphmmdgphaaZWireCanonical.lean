/- The law WireCanonical, called with any data of its types, returns true, and all else is as it was. Conditions: none. -/
import Derived.Test.YtnhchphmmdgphaaGBLWireCanonical
import Derived.Test.YtnhchphmmdgphaaPWire5
namespace Go.Proofs.Ytnhchphmmdgphaa
open Go Abs
set_option linter.unusedVariables false
def plainTypes : List TypeId := [22, 5]
theorem plain : plainOk Try.prog plainTypes = true := by kernel_rfl
theorem WireCanonical_law {p0 : PV} {n0 : Nat} (s0 : Shaped Try.prog n0 22 [p0]) : ACalls Try.prog 11 [.c p0] [] (.c (.bool true)) [] := WireCanonical_law_of (fun x0 k0 => WireCanonical_pure x0) s0
end Go.Proofs.Ytnhchphmmdgphaa
