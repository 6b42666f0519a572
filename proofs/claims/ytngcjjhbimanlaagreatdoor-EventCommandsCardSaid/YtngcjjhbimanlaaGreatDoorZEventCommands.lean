/- The law EventCommands, called with any data of its types, returns true, and all else is as it was. Conditions: none. -/
import Derived.Test.YtngcjjhbimanlaaGreatDoorGCLEventCommands
import Derived.Test.YtngcjjhbimanlaaGreatDoorGCPEv8
namespace Go.Proofs.YtngcjjhbimanlaaGreatDoor
open Go Abs
set_option linter.unusedVariables false
def plainTypes : List TypeId := [33, 3, 9, 25, 22, 23, 27, 29]
theorem plain : plainOk Tryz.prog plainTypes = true := by kernel_rfl
theorem EventCommands_law {p0 : List PV} {n0 : Nat} (s0 : Shaped Tryz.prog n0 33 p0) {p1 : List PV} {n1 : Nat} (s1 : Shaped Tryz.prog n1 29 p1) {p2 : PV} {n2 : Nat} (s2 : Shaped Tryz.prog n2 3 [p2]) {p3 : PV} {n3 : Nat} (s3 : Shaped Tryz.prog n3 3 [p3]) : ACalls Tryz.prog 4 [.agg (p0.map AV.c), .agg (p1.map AV.c), .c p2, .c p3] [] (.c (.bool true)) [] := EventCommands_law_of (fun x0 x1 x2 x3 k0 k1 k2 k3 => EventCommands_pure x0 x1 x2 x3 k0 k1 k2 k3) s0 s1 s2 s3
end Go.Proofs.YtngcjjhbimanlaaGreatDoor
