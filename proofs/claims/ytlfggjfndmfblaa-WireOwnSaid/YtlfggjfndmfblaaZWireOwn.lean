/- The law WireOwn, called with any data of its types, returns true, and all else is as it was. Conditions: none. -/
import Derived.Test.YtlfggjfndmfblaaGALWireOwn
import Derived.Test.YtlfggjfndmfblaaGAPWire6
namespace Go.Proofs.Ytlfggjfndmfblaa
open Go Abs
set_option linter.unusedVariables false
def plainTypes : List TypeId := [22, 5, 3]
theorem plain : plainOk Try.prog plainTypes = true := by kernel_rfl
theorem WireOwn_law {p0 : PV} {n0 : Nat} (s0 : Shaped Try.prog n0 22 [p0]) {p1 : PV} {n1 : Nat} (s1 : Shaped Try.prog n1 3 [p1]) : ACalls Try.prog 3 [.c p0, .c p1] [] (.c (.bool true)) [] := WireOwn_law_of (fun x0 x1 k0 k1 => WireOwn_pure k1.1 k1.2) s0 s1
end Go.Proofs.Ytlfggjfndmfblaa
