/- The law CommandEncodes, called with any data of its types, returns true, and all else is as it was. Conditions: none. -/
import Derived.Test.YtmnobgopfnhbnaaGELCommandEncodes
import Derived.Test.YtmnobgopfnhbnaaGEPCmd8
namespace Go.Proofs.Ytmnobgopfnhbnaa
open Go Abs
set_option linter.unusedVariables false
def plainTypes : List TypeId := [40, 5, 29, 3, 9, 25, 22, 23, 27]
theorem plain : plainOk Try.prog plainTypes = true := by kernel_rfl
theorem CommandEncodes_law {p0 : PV} {n0 : Nat} (s0 : Shaped Try.prog n0 40 [p0]) {p1 : List PV} {n1 : Nat} (s1 : Shaped Try.prog n1 29 p1) : ACalls Try.prog 8 [.c p0, .agg (p1.map AV.c)] [] (.c (.bool true)) [] := CommandEncodes_law_of (fun x0 x1 k0 k1 => CommandEncodes_pure k1) s0 s1
end Go.Proofs.Ytmnobgopfnhbnaa
