/- The law NameChecks, called with any data of its types, returns true, and all else is as it was. Conditions: none. -/
import Derived.Test.YtmnobgopfnhbnaaDoorGBLNameChecks
import Derived.Test.YtmnobgopfnhbnaaDoorGBPN1
namespace Go.Proofs.YtmnobgopfnhbnaaDoor
open Go Abs
set_option linter.unusedVariables false
def plainTypes : List TypeId := [9]
theorem plain : plainOk Tryd.prog plainTypes = true := by kernel_rfl
theorem NameChecks_law {p0 : PV} {n0 : Nat} (s0 : Shaped Tryd.prog n0 9 [p0]) : ACalls Tryd.prog 3 [.c p0] [] (.c (.bool true)) [] := NameChecks_law_of (fun x0 k0 => NameChecks_pure x0) s0
end Go.Proofs.YtmnobgopfnhbnaaDoor
