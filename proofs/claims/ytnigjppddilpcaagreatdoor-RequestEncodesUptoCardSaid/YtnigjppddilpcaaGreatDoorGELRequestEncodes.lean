import Derived.Test.YtnigjppddilpcaaGreatDoorGESh
import Derived.Test.YtnigjppddilpcaaGreatDoorGEF16
import Derived.Test.YtnigjppddilpcaaGreatDoorAbsU
namespace Go.Proofs.YtnigjppddilpcaaGreatDoor
open Go Abs
set_option maxRecDepth 100000
set_option linter.unusedVariables false
set_option linter.unusedSimpArgs false
theorem yP (pure_:∀ (x0:bK),(gA x0)→PV.bulkRow (fD x0)+0≤1048576→jU x0=some true) {p0:List PV}{n0:Nat} (s0:gD Tryz.prog n0 57 p0) (hb:PV.bulkRow p0+0≤1048576):bT Tryz.prog 9 [.agg (p0.map AV.c)] [] (.c (.bool true)) []:=by
 obtain ⟨x0,e0,k0⟩:=(aBD _ _ s0)
 subst e0
 exact zY (pure_ x0 k0 (by first | omega | (simp only [PV.bulkRow,PV.bulk,PV.ls] at hb ⊢;omega)))
end Go.Proofs.YtnigjppddilpcaaGreatDoor
