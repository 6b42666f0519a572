/- The law DivergeReads, called with any data of its types, returns true, and all else is as it was. Conditions: none. -/
import Derived.Test.YtnhchphmmdgphaaGBLDivergeReads
import Derived.Test.YtnhchphmmdgphaaPDiv2
namespace Go.Proofs.Ytnhchphmmdgphaa
open Go Abs
set_option linter.unusedVariables false
def plainTypes : List TypeId := [49, 46, 3, 9, 40, 37, 38, 42]
theorem plain : plainOk Try.prog plainTypes = true := by kernel_rfl
theorem DivergeReads_law {p0 : PV} {n0 : Nat} (s0 : Shaped Try.prog n0 49 [p0]) : ACalls Try.prog 12 [.c p0] [] (.c (.bool true)) [] := DivergeReads_law_of (fun x0 k0 => DivergeReads_pure k0) s0
end Go.Proofs.Ytnhchphmmdgphaa
