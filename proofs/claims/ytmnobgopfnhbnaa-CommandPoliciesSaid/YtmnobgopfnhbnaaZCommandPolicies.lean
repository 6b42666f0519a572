/- The law CommandPolicies, called with any data of its types, returns true, and all else is as it was. Conditions: none. -/
import Derived.Test.YtmnobgopfnhbnaaGPLCommandPolicies
import Derived.Test.YtmnobgopfnhbnaaGPPCmd11
namespace Go.Proofs.Ytmnobgopfnhbnaa
open Go Abs
set_option linter.unusedVariables false
def plainTypes : List TypeId := [25, 3, 9, 22, 23]
theorem plain : plainOk Try.prog plainTypes = true := by kernel_rfl
theorem CommandPolicies_law {p0 : List PV} {n0 : Nat} (s0 : Shaped Try.prog n0 25 p0) : ACalls Try.prog 4 [.agg (p0.map AV.c)] [] (.c (.bool true)) [] := CommandPolicies_law_of (fun x0 k0 => CommandPolicies_pure k0) s0
end Go.Proofs.Ytmnobgopfnhbnaa
