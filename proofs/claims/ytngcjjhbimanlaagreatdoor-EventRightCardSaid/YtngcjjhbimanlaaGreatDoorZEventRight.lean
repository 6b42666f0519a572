/- The law EventRight, called with any data of its types, returns true, and all else is as it was. Conditions: none. -/
import Derived.Test.YtngcjjhbimanlaaGreatDoorGRLEventRight
import Derived.Test.YtngcjjhbimanlaaGreatDoorGRPEv7
namespace Go.Proofs.YtngcjjhbimanlaaGreatDoor
open Go Abs
set_option linter.unusedVariables false
def plainTypes : List TypeId := [29, 3, 9, 25, 22, 23, 27]
theorem plain : plainOk Tryz.prog plainTypes = true := by kernel_rfl
theorem EventRight_law {p0 : List PV} {n0 : Nat} (s0 : Shaped Tryz.prog n0 29 p0) : ACalls Tryz.prog 3 [.agg (p0.map AV.c)] [] (.c (.bool true)) [] := EventRight_law_of (fun x0 k0 => EventRight_pure x0 k0) s0
end Go.Proofs.YtngcjjhbimanlaaGreatDoor
