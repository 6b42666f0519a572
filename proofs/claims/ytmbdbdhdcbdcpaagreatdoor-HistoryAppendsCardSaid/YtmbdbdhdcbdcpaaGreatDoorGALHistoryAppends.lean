import Derived.Test.YtmbdbdhdcbdcpaaGreatDoorGASh
import Derived.Test.YtmbdbdhdcbdcpaaGreatDoorGAF9
namespace Go.Proofs.YtmbdbdhdcbdcpaaGreatDoor
open Go Abs
set_option maxRecDepth 100000
set_option linter.unusedVariables false
set_option linter.unusedSimpArgs false
theorem HistoryAppends_law_of (pure_:∀ (x0:(List ApiEvent)) (x1:(List ApiEvent)),(okLs 272 okApiEvent x0)→(okLs 272 okApiEvent x1)→law24xHistoryAppends x0 x1=some true) {p0:PV}{n0:Nat} (s0:Shaped Tryz.prog n0 22 [p0]) {p1:PV}{n1:Nat} (s1:Shaped Tryz.prog n1 22 [p1]):ACalls Tryz.prog 3 [.c p0,.c p1] [] (.c (.bool true)) []:=by
 obtain ⟨x0,e0,k0⟩:=(sh_sl (row:=rowApiEvent) (ok:=okApiEvent) sl22 by45 s0 (fun m22 hm22 qs h22=>(sh_ApiEvent _ _ h22)))
 cases e0
 obtain ⟨x1,e1,k1⟩:=(sh_sl (row:=rowApiEvent) (ok:=okApiEvent) sl22 by45 s1 (fun m22 hm22 qs h22=>(sh_ApiEvent _ _ h22)))
 cases e1
 exact w_law24xHistoryAppends (pure_ x0 x1 k0 k1)
end Go.Proofs.YtmbdbdhdcbdcpaaGreatDoor
