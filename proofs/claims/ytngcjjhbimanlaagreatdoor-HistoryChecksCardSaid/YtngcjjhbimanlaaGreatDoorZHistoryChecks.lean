/- The law HistoryChecks, called with any data of its types, returns true, and all else is as it was. Conditions: none. -/
import Derived.Test.YtngcjjhbimanlaaGreatDoorGKLHistoryChecks
import Derived.Test.YtngcjjhbimanlaaGreatDoorGKPHistK
namespace Go.Proofs.YtngcjjhbimanlaaGreatDoor
open Go Abs
set_option linter.unusedVariables false
def plainTypes : List TypeId := [40, 29, 3, 9, 25, 22, 23, 27]
theorem plain : plainOk Tryz.prog plainTypes = true := by kernel_rfl
theorem HistoryChecks_law {p0 : PV} {n0 : Nat} (s0 : Shaped Tryz.prog n0 40 [p0]) : ACalls Tryz.prog 5 [.c p0] [] (.c (.bool true)) [] := HistoryChecks_law_of (fun x0 k0 => HistoryChecks_pure x0 k0) s0
end Go.Proofs.YtngcjjhbimanlaaGreatDoor
