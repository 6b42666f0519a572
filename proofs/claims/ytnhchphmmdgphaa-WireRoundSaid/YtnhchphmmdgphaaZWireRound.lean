/- The law WireRound, called with any data of its types, returns true, and all else is as it was. Conditions: none. -/
import Derived.Test.YtnhchphmmdgphaaGBLWireRound
import Derived.Test.YtnhchphmmdgphaaPWire5
namespace Go.Proofs.Ytnhchphmmdgphaa
open Go Abs
set_option linter.unusedVariables false
def plainTypes : List TypeId := [3, 9, 4, 22, 5]
theorem plain : plainOk Try.prog plainTypes = true := by kernel_rfl
theorem WireRound_law {p0 : PV} {n0 : Nat} (s0 : Shaped Try.prog n0 3 [p0]) {p1 : PV} {n1 : Nat} (s1 : Shaped Try.prog n1 9 [p1]) {p2 : PV} {n2 : Nat} (s2 : Shaped Try.prog n2 4 [p2]) {p3 : PV} {n3 : Nat} (s3 : Shaped Try.prog n3 22 [p3]) : ACalls Try.prog 10 [.c p0, .c p1, .c p2, .c p3] [] (.c (.bool true)) [] := WireRound_law_of (fun x0 x1 x2 x3 k0 k1 k2 k3 => WireRound_pure k0.1 k0.2) s0 s1 s2 s3
end Go.Proofs.Ytnhchphmmdgphaa
