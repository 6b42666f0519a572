/- The law NameGrows, called with any data of its types, returns true, and all else is as it was. Conditions: none. -/
import Derived.Test.YtmnobgopfnhbnaaDoorGBLNameGrows
import Derived.Test.YtmnobgopfnhbnaaDoorGBPN4
namespace Go.Proofs.YtmnobgopfnhbnaaDoor
open Go Abs
set_option linter.unusedVariables false
def plainTypes : List TypeId := [9, 5]
theorem plain : plainOk Tryd.prog plainTypes = true := by kernel_rfl
theorem NameGrows_law {p0 : PV} {n0 : Nat} (s0 : Shaped Tryd.prog n0 9 [p0]) {p1 : PV} {n1 : Nat} (s1 : Shaped Tryd.prog n1 5 [p1]) : ACalls Tryd.prog 6 [.c p0, .c p1] [] (.c (.bool true)) [] := NameGrows_law_of (fun x0 x1 k0 k1 => NameGrows_pure x0 x1 k1) s0 s1
end Go.Proofs.YtmnobgopfnhbnaaDoor
