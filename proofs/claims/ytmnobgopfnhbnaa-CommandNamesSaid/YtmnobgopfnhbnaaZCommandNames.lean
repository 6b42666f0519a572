/- The law CommandNames, called with any data of its types, returns true, and all else is as it was. Conditions: none. -/
import Derived.Test.YtmnobgopfnhbnaaGNLCommandNames
import Derived.Test.YtmnobgopfnhbnaaGNPCmd7
namespace Go.Proofs.Ytmnobgopfnhbnaa
open Go Abs
set_option linter.unusedVariables false
def plainTypes : List TypeId := [3]
theorem plain : plainOk Try.prog plainTypes = true := by kernel_rfl
theorem CommandNames_law {p0 : PV} {n0 : Nat} (s0 : Shaped Try.prog n0 3 [p0]) : ACalls Try.prog 9 [.c p0] [] (.c (.bool true)) [] := CommandNames_law_of (fun x0 k0 => CommandNames_pure) s0
end Go.Proofs.Ytmnobgopfnhbnaa
