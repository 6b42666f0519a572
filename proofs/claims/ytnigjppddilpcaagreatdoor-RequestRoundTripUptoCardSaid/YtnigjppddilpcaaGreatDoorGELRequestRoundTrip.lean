import Derived.Test.YtnigjppddilpcaaGreatDoorGESh
import Derived.Test.YtnigjppddilpcaaGreatDoorGEF16
import Derived.Test.YtnigjppddilpcaaGreatDoorAbsU
namespace Go.Proofs.YtnigjppddilpcaaGreatDoor
open Go Abs
set_option maxRecDepth 100000
set_option linter.unusedVariables false
set_option linter.unusedSimpArgs false
theorem xS (pure_:∀ (x0:aY) (x1:Int),(fO x0)→(lV x1)→PV.bulkRow (fX x0)+0≤1048576→iY x0 x1=some true) {p0:List PV}{n0:Nat} (s0:iB Tryz.prog n0 57 p0) {p1:PV}{n1:Nat} (s1:iB Tryz.prog n1 3 [p1]) (hb:PV.bulkRow p0+PV.bulkRow [p1]+0≤1048576):cC Tryz.prog 10 [.agg (p0.map AV.c),.c p1] [] (.c (.bool true)) []:=by
 obtain ⟨x0,e0,k0⟩:=(aGF _ _ s0)
 subst e0
 obtain ⟨x1,e1,k1⟩:=(mY tk3 s1)
 cases e1
 exact yD (pure_ x0 x1 k0 k1 (by simp only [PV.bulkRow,PV.bulk,PV.ls] at hb ⊢;omega))
end Go.Proofs.YtnigjppddilpcaaGreatDoor
