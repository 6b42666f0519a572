/- The law CommandRoundTrip, called with any data of its types, returns true, and all else is as it was. Conditions: none. -/
import Derived.Test.YtmnobgopfnhbnaaGTLCommandRoundTrip
import Derived.Test.YtmnobgopfnhbnaaGTPCmd10
namespace Go.Proofs.Ytmnobgopfnhbnaa
open Go Abs
set_option linter.unusedVariables false
def plainTypes : List TypeId := [29, 3, 9, 25, 22, 23, 27, 40, 5]
theorem plain : plainOk Try.prog plainTypes = true := by kernel_rfl
theorem CommandRoundTrip_law {p0 : List PV} {n0 : Nat} (s0 : Shaped Try.prog n0 29 p0) {p1 : PV} {n1 : Nat} (s1 : Shaped Try.prog n1 40 [p1]) : ACalls Try.prog 7 [.agg (p0.map AV.c), .c p1] [] (.c (.bool true)) [] := CommandRoundTrip_law_of (fun x0 x1 k0 k1 => CommandRoundTrip_pure k0) s0 s1
end Go.Proofs.Ytmnobgopfnhbnaa
