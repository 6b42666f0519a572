/- The law HistoryTurns, called with any data of its types, returns true, and all else is as it was. Conditions: none. -/
import Derived.Test.YtngcjjhbimanlaaGreatDoorGKLHistoryTurns
import Derived.Test.YtngcjjhbimanlaaGreatDoorGKPHistK2
namespace Go.Proofs.YtngcjjhbimanlaaGreatDoor
open Go Abs
set_option linter.unusedVariables false
def plainTypes : List TypeId := [40, 29, 3, 9, 25, 22, 23, 27]
theorem plain : plainOk Tryz.prog plainTypes = true := by kernel_rfl
theorem HistoryTurns_law {p0 : PV} {n0 : Nat} (s0 : Shaped Tryz.prog n0 40 [p0]) : ACalls Tryz.prog 6 [.c p0] [] (.c (.bool true)) [] := HistoryTurns_law_of (fun x0 k0 => HistoryTurns_pure x0 k0) s0
end Go.Proofs.YtngcjjhbimanlaaGreatDoor
