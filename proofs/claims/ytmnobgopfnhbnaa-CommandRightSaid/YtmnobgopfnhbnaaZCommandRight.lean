/- The law CommandRight, called with any data of its types, returns true, and all else is as it was. Conditions: none. -/
import Derived.Test.YtmnobgopfnhbnaaGRLCommandRight
import Derived.Test.YtmnobgopfnhbnaaGRPCmd5
namespace Go.Proofs.Ytmnobgopfnhbnaa
open Go Abs
set_option linter.unusedVariables false
def plainTypes : List TypeId := [29, 3, 9, 25, 22, 23, 27]
theorem plain : plainOk Try.prog plainTypes = true := by kernel_rfl
theorem CommandRight_law {p0 : List PV} {n0 : Nat} (s0 : Shaped Try.prog n0 29 p0) : ACalls Try.prog 3 [.agg (p0.map AV.c)] [] (.c (.bool true)) [] := CommandRight_law_of (fun x0 k0 => CommandRight_pure k0) s0
end Go.Proofs.Ytmnobgopfnhbnaa
