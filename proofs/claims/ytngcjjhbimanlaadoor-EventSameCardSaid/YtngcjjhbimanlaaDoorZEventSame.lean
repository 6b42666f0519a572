/- The law EventSame, called with any data of its types, returns true, and all else is as it was. Conditions: none. -/
import Derived.Test.YtngcjjhbimanlaaDoorGALEventSame
import Derived.Test.YtngcjjhbimanlaaDoorGAPEv3
namespace Go.Proofs.YtngcjjhbimanlaaDoor
open Go Abs
set_option linter.unusedVariables false
def plainTypes : List TypeId := [31, 3, 9, 25, 22, 23, 27]
theorem plain : plainOk Tryd.prog plainTypes = true := by kernel_rfl
theorem EventSame_law {p0 : List PV} {n0 : Nat} (s0 : Shaped Tryd.prog n0 31 p0) {p1 : List PV} {n1 : Nat} (s1 : Shaped Tryd.prog n1 31 p1) : ACalls Tryd.prog 4 [.agg (p0.map AV.c), .agg (p1.map AV.c)] [] (.c (.bool true)) [] := EventSame_law_of (fun x0 x1 k0 k1 => EventSame_pure x0 x1 k0 k1) s0 s1
end Go.Proofs.YtngcjjhbimanlaaDoor
