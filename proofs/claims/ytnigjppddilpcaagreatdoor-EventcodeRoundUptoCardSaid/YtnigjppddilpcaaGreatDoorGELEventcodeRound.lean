import Derived.Test.YtnigjppddilpcaaGreatDoorGESh
import Derived.Test.YtnigjppddilpcaaGreatDoorGEF13
import Derived.Test.YtnigjppddilpcaaGreatDoorAbsU
namespace Go.Proofs.YtnigjppddilpcaaGreatDoor
open Go Abs
set_option maxRecDepth 100000
set_option linter.unusedVariables false
set_option linter.unusedSimpArgs false
theorem zA (pure_:∀ (x0:bI) (x1:(List UInt8)),(dW x0)→(vF 1 (fun _=>True) x1)→PV.bulkRow (cD x0)+PV.bulkRows (x1.map dF)+0≤1048576→jY x0 x1=some true) {p0:List PV}{n0:Nat} (s0:gN Tryz.prog n0 30 p0) {p1:PV}{n1:Nat} (s1:gN Tryz.prog n1 22 [p1]) (hb:PV.bulkRow p0+PV.bulkRow [p1]+0≤1048576):bS Tryz.prog 8 [.agg (p0.map AV.c),.c p1] [] (.c (.bool true)) []:=by
 obtain ⟨x0,e0,k0⟩:=(aAU _ _ s0)
 subst e0
 obtain ⟨x1,e1,k1⟩:=(aHg (row:=dF) (ok:=(fun _=>True)) aRC by5 s1 (fun m22 hm22 qs h22=>(aPG tk5 h22)))
 cases e1
 exact aAe (pure_ x0 x1 k0 k1 (by simp only [PV.bulkRow,PV.bulk,PV.ls] at hb ⊢;omega))
end Go.Proofs.YtnigjppddilpcaaGreatDoor
