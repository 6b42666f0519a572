import Derived.Test.YtnigjppddilpcaaGreatDoorGESh
import Derived.Test.YtnigjppddilpcaaGreatDoorGEF10
import Derived.Test.YtnigjppddilpcaaGreatDoorAbsU
namespace Go.Proofs.YtnigjppddilpcaaGreatDoor
open Go Abs
set_option maxRecDepth 100000
set_option linter.unusedVariables false
set_option linter.unusedSimpArgs false
theorem yZ (pure_:∀ (x0:(List bI)),(vF 272 dW x0)→PV.bulkRows (x0.map cD)+0≤1048576→jX x0=some true) {p0:PV}{n0:Nat} (s0:gN Tryz.prog n0 32 [p0]) (hb:PV.bulkRow [p0]+0≤1048576):bS Tryz.prog 4 [.c p0] [] (.c (.bool true)) []:=by
 obtain ⟨x0,e0,k0⟩:=(aHg (row:=cD) (ok:=dW) aSl aRZ s0 (fun m32 hm32 qs h32=>(aAU _ _ h32)))
 cases e0
 exact aAd (pure_ x0 k0 (by simp only [PV.bulkRow,PV.bulk,PV.ls] at hb ⊢;omega))
end Go.Proofs.YtnigjppddilpcaaGreatDoor
