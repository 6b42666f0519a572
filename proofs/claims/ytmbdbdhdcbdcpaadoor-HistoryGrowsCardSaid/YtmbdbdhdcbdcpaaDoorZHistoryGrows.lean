/- The law HistoryGrows, called with any data of its types, returns true, and all else is as it was. Conditions: none. -/
import Derived.Test.YtmbdbdhdcbdcpaaDoorGHLHistoryGrows
import Derived.Test.YtmbdbdhdcbdcpaaDoorGHPHistG
namespace Go.Proofs.YtmbdbdhdcbdcpaaDoor
open Go Abs
set_option linter.unusedVariables false
def plainTypes : List TypeId := [63, 116, 3, 9, 112, 109, 110, 114]
theorem plain : plainOk Tryd.prog plainTypes = true := by kernel_rfl
theorem HistoryGrows_law {p0 : PV} {n0 : Nat} (s0 : Shaped Tryd.prog n0 63 [p0]) {p1 : PV} {n1 : Nat} (s1 : Shaped Tryd.prog n1 63 [p1]) : ACalls Tryd.prog 7 [.c p0, .c p1] [] (.c (.bool true)) [] := HistoryGrows_law_of (fun x0 x1 k0 k1 => HistoryGrows_pure x0 x1 k0 k1) s0 s1
end Go.Proofs.YtmbdbdhdcbdcpaaDoor
