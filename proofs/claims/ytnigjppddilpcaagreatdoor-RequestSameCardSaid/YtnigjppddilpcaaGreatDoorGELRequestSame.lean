import Derived.Test.YtnigjppddilpcaaGreatDoorGESh
import Derived.Test.YtnigjppddilpcaaGreatDoorGEF17
import Derived.Test.YtnigjppddilpcaaGreatDoorAbsU
namespace Go.Proofs.YtnigjppddilpcaaGreatDoor
open Go Abs
set_option maxRecDepth 100000
set_option linter.unusedVariables false
set_option linter.unusedSimpArgs false
theorem aDz (pure_:∀ (x0:bO) (x1:bO) (x2:aCc),(iO x0)→(iO x1)→(aG1 x2)→qI x0 x1 x2=some true) {p0:List PV}{n0:Nat} (s0:jF Tryz.prog n0 57 p0) {p1:List PV}{n1:Nat} (s1:jF Tryz.prog n1 57 p1) {p2:List PV}{n2:Nat} (s2:jF Tryz.prog n2 67 p2):dE Tryz.prog 12 [.agg (p0.map AV.c),.agg (p1.map AV.c),.agg (p2.map AV.c)] [] (.c (.bool true)) []:=by
 obtain ⟨x0,e0,k0⟩:=(aDs _ _ s0)
 subst e0
 obtain ⟨x1,e1,k1⟩:=(aDs _ _ s1)
 subst e1
 obtain ⟨x2,e2,k2⟩:=(aNV _ _ s2)
 subst e2
 exact aDd (pure_ x0 x1 x2 k0 k1 k2)
