/- The law HistoryPrefixes, called with any data of its types, returns true, and all else is as it was. Conditions: none. -/
import Derived.Test.YtngcjjhbimanlaaDoorGPLHistoryPrefixes
import Derived.Test.YtngcjjhbimanlaaDoorGPPHistP
namespace Go.Proofs.YtngcjjhbimanlaaDoor
open Go Abs
set_option linter.unusedVariables false
def plainTypes : List TypeId := [44, 31, 3, 9, 25, 22, 23, 27]
theorem plain : plainOk Tryd.prog plainTypes = true := by kernel_rfl
theorem HistoryPrefixes_law {p0 : PV} {n0 : Nat} (s0 : Shaped Tryd.prog n0 44 [p0]) : ACalls Tryd.prog 6 [.c p0] [] (.c (.bool true)) [] := HistoryPrefixes_law_of (fun x0 k0 => HistoryPrefixes_pure x0 k0) s0
end Go.Proofs.YtngcjjhbimanlaaDoor
