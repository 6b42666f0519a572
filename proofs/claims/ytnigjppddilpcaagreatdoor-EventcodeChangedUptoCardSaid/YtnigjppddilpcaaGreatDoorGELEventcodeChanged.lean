import Derived.Test.YtnigjppddilpcaaGreatDoorGESh
import Derived.Test.YtnigjppddilpcaaGreatDoorGEF12
import Derived.Test.YtnigjppddilpcaaGreatDoorAbsU
namespace Go.Proofs.YtnigjppddilpcaaGreatDoor
open Go Abs
set_option maxRecDepth 100000
set_option linter.unusedVariables false
set_option linter.unusedSimpArgs false
theorem sZ (pure_:∀ (x0:(List aV)) (x1:Int) (x2:Int),(uG 272 dP x0)→(oG x1)→(okW .u8 x2)→PV.bulkRows (x0.map bZ)+0≤1048576→gI x0 x1 x2=some true) {p0:PV}{n0:Nat} (s0:gB Tryz.prog n0 32 [p0]) {p1:PV}{n1:Nat} (s1:gB Tryz.prog n1 3 [p1]) {p2:PV}{n2:Nat} (s2:gB Tryz.prog n2 5 [p2]) (hb:PV.bulkRow [p0]+PV.bulkRow [p1]+PV.bulkRow [p2]+0≤1048576):bR Tryz.prog 6 [.c p0,.c p1,.c p2] [] (.c (.bool true)) []:=by
 obtain ⟨x0,e0,k0⟩:=(aHH (row:=bZ) (ok:=dP) aN5 aNN s0 (fun m32 hm32 qs h32=>(aF1 _ _ h32)))
 cases e0
 obtain ⟨x1,e1,k1⟩:=(lU tk3 s1)
 cases e1
 obtain ⟨x2,e2,k2⟩:=(aJ9 tk5 s2)
 cases e2
 exact tH (pure_ x0 x1 x2 k0 k1 k2 (by simp only [PV.bulkRow,PV.bulk,PV.ls] at hb ⊢;omega))
end Go.Proofs.YtnigjppddilpcaaGreatDoor
