/- The law HistoryAppends, called with any data of its types, returns true, and all else is as it was. Conditions: none. -/
import Derived.Test.YtmbdbdhdcbdcpaaGreatDoorGALHistoryAppends
import Derived.Test.YtmbdbdhdcbdcpaaGreatDoorGAPHistA
namespace Go.Proofs.YtmbdbdhdcbdcpaaGreatDoor
open Go Abs
set_option linter.unusedVariables false
def plainTypes:List TypeId:=[22,45,3,9,41,38,39,43]
theorem plain:plainOk Tryz.prog plainTypes=true:=by kernel_rfl
theorem HistoryAppends_law {p0:PV}{n0:Nat} (s0:Shaped Tryz.prog n0 22 [p0]) {p1:PV}{n1:Nat} (s1:Shaped Tryz.prog n1 22 [p1]):ACalls Tryz.prog 3 [.c p0,.c p1] [] (.c (.bool true)) []:=HistoryAppends_law_of (fun x0 x1 k0 k1=>HistoryAppends_pure x0 x1 k0 k1) s0 s1
end Go.Proofs.YtmbdbdhdcbdcpaaGreatDoor
