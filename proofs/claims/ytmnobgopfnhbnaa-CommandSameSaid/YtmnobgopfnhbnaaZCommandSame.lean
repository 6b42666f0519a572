/- The law CommandSame, called with any data of its types, returns true, and all else is as it was. Conditions: none. -/
import Derived.Test.YtmnobgopfnhbnaaGSLCommandSame
import Derived.Test.YtmnobgopfnhbnaaGSPCmd6
namespace Go.Proofs.Ytmnobgopfnhbnaa
open Go Abs
set_option linter.unusedVariables false
def plainTypes : List TypeId := [29, 3, 9, 25, 22, 23, 27]
theorem plain : plainOk Try.prog plainTypes = true := by kernel_rfl
theorem CommandSame_law {p0 : List PV} {n0 : Nat} (s0 : Shaped Try.prog n0 29 p0) {p1 : List PV} {n1 : Nat} (s1 : Shaped Try.prog n1 29 p1) : ACalls Try.prog 5 [.agg (p0.map AV.c), .agg (p1.map AV.c)] [] (.c (.bool true)) [] := CommandSame_law_of (fun x0 x1 k0 k1 => CommandSame_pure k0 k1) s0 s1
end Go.Proofs.Ytmnobgopfnhbnaa
