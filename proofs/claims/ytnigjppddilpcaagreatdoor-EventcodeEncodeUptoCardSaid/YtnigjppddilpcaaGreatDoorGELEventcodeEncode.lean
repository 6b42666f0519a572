import Derived.Test.YtnigjppddilpcaaGreatDoorGESh
import Derived.Test.YtnigjppddilpcaaGreatDoorGEF8
import Derived.Test.YtnigjppddilpcaaGreatDoorAbsU
namespace Go.Proofs.YtnigjppddilpcaaGreatDoor
open Go Abs
set_option maxRecDepth 100000
set_option linter.unusedVariables false
set_option linter.unusedSimpArgs false
theorem yI (pure_:∀ (x0:(List UInt8)) (x1:bI),(vF 1 (fun _=>True) x0)→(dW x1)→PV.bulkRows (x0.map dF)+PV.bulkRow (cD x1)+0≤1048576→jD x0 x1=some true) {p0:PV}{n0:Nat} (s0:gN Tryz.prog n0 22 [p0]) {p1:List PV}{n1:Nat} (s1:gN Tryz.prog n1 30 p1) (hb:PV.bulkRow [p0]+PV.bulkRow p1+0≤1048576):bS Tryz.prog 3 [.c p0,.agg (p1.map AV.c)] [] (.c (.bool true)) []:=by
 obtain ⟨x0,e0,k0⟩:=(aHg (row:=dF) (ok:=(fun _=>True)) aRC by5 s0 (fun m22 hm22 qs h22=>(aPG tk5 h22)))
 cases e0
 obtain ⟨x1,e1,k1⟩:=(aAU _ _ s1)
 subst e1
 exact yY (pure_ x0 x1 k0 k1 (by simp only [PV.bulkRow,PV.bulk,PV.ls] at hb ⊢;omega))
end Go.Proofs.YtnigjppddilpcaaGreatDoor
