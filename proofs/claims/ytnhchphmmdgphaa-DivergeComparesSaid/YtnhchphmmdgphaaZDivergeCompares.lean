/- The law DivergeCompares, called with any data of its types, returns true, and all else is as it was. Conditions: none. -/
import Derived.Test.YtnhchphmmdgphaaGBLDivergeCompares
import Derived.Test.YtnhchphmmdgphaaPDiv1
namespace Go.Proofs.Ytnhchphmmdgphaa
open Go Abs
set_option linter.unusedVariables false
def plainTypes : List TypeId := [48, 44, 3, 9, 40, 37, 38, 42, 49, 46]
theorem plain : plainOk Try.prog plainTypes = true := by kernel_rfl
theorem DivergeCompares_law {p0 : PV} {n0 : Nat} (s0 : Shaped Try.prog n0 48 [p0]) {p1 : PV} {n1 : Nat} (s1 : Shaped Try.prog n1 49 [p1]) : ACalls Try.prog 7 [.c p0, .c p1] [] (.c (.bool true)) [] := DivergeCompares_law_of (fun x0 x1 _ _ => DivergeCompares_pure x0 x1) s0 s1
end Go.Proofs.Ytnhchphmmdgphaa
