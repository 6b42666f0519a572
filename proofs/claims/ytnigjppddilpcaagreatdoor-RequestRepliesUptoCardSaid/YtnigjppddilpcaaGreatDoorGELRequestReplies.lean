import Derived.Test.YtnigjppddilpcaaGreatDoorGESh
import Derived.Test.YtnigjppddilpcaaGreatDoorGEF18
import Derived.Test.YtnigjppddilpcaaGreatDoorAbsU
namespace Go.Proofs.YtnigjppddilpcaaGreatDoor
open Go Abs
set_option maxRecDepth 100000
set_option linter.unusedVariables false
set_option linter.unusedSimpArgs false
theorem aDu (pure_:∀ (x0:iI),(vJ x0)→PV.bulkRow (lY x0)+0≤1048576→qF x0=some true) {p0:List PV}{n0:Nat} (s0:oB Tryz.prog n0 66 p0) (hb:PV.bulkRow p0+0≤1048576):cR Tryz.prog 14 [.agg (p0.map AV.c)] [] (.c (.bool true)) []:=by
 obtain ⟨x0,e0,k0⟩:=(aNW _ _ s0)
 subst e0
 exact aDW (pure_ x0 k0 (by first | omega | (simp only [PV.bulkRow,PV.bulk,PV.ls] at hb ⊢;omega)))
