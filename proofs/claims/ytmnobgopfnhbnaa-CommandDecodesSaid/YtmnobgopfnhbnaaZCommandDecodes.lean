/- The law CommandDecodes, called with any data of its types, returns true, and all else is as it was. Conditions: none. -/
import Derived.Test.YtmnobgopfnhbnaaGDLCommandDecodes
import Derived.Test.YtmnobgopfnhbnaaGDPCmd9
namespace Go.Proofs.Ytmnobgopfnhbnaa
open Go Abs
set_option linter.unusedVariables false
def plainTypes : List TypeId := [40, 5]
theorem plain : plainOk Try.prog plainTypes = true := by kernel_rfl
theorem CommandDecodes_law {p0 : PV} {n0 : Nat} (s0 : Shaped Try.prog n0 40 [p0]) : ACalls Try.prog 6 [.c p0] [] (.c (.bool true)) [] := CommandDecodes_law_of (fun x0 k0 => CommandDecodes_pure) s0
end Go.Proofs.Ytmnobgopfnhbnaa
