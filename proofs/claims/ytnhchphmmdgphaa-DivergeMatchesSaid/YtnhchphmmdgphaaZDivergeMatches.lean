/- The law DivergeMatches, called with any data of its types, returns true, and all else is as it was. Conditions: none. -/
import Derived.Test.YtnhchphmmdgphaaGBLDivergeMatches
import Derived.Test.YtnhchphmmdgphaaPDiv1
namespace Go.Proofs.Ytnhchphmmdgphaa
open Go Abs
set_option linter.unusedVariables false
def plainTypes : List TypeId := [44, 3, 9, 40, 37, 38, 42, 46]
theorem plain : plainOk Try.prog plainTypes = true := by kernel_rfl
theorem DivergeMatches_law {p0 : List PV} {n0 : Nat} (s0 : Shaped Try.prog n0 44 p0) {p1 : List PV} {n1 : Nat} (s1 : Shaped Try.prog n1 46 p1) : ACalls Try.prog 6 [.agg (p0.map AV.c), .agg (p1.map AV.c)] [] (.c (.bool true)) [] := DivergeMatches_law_of (fun x0 x1 _ _ => DivergeMatches_pure x0 x1) s0 s1
end Go.Proofs.Ytnhchphmmdgphaa
