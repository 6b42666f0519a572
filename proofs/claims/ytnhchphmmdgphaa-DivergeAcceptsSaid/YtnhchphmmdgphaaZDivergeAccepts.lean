/- The law DivergeAccepts, called with any data of its types, returns true, and all else is as it was. Conditions: none. -/
import Derived.Test.YtnhchphmmdgphaaGALDivergeAccepts
import Derived.Test.YtnhchphmmdgphaaPDiv3
namespace Go.Proofs.Ytnhchphmmdgphaa
open Go Abs
set_option linter.unusedVariables false
def plainTypes : List TypeId := [48, 44, 3, 9, 40, 37, 38, 42]
theorem plain : plainOk Try.prog plainTypes = true := by kernel_rfl
theorem DivergeAccepts_law {p0 : PV} {n0 : Nat} (s0 : Shaped Try.prog n0 48 [p0]) {p1 : List PV} {n1 : Nat} (s1 : Shaped Try.prog n1 40 p1) {p2 : PV} {n2 : Nat} (s2 : Shaped Try.prog n2 3 [p2]) : ACalls Try.prog 13 [.c p0, .agg (p1.map AV.c), .c p2] [] (.c (.bool true)) [] := DivergeAccepts_law_of (fun x0 x1 x2 k0 k1 k2 => DivergeAccepts_pure k0 k2) s0 s1 s2
end Go.Proofs.Ytnhchphmmdgphaa
