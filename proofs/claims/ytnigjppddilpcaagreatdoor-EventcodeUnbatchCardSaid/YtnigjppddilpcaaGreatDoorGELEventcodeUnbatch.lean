import Derived.Test.YtnigjppddilpcaaGreatDoorGESh
import Derived.Test.YtnigjppddilpcaaGreatDoorGEF12
import Derived.Test.YtnigjppddilpcaaGreatDoorAbsU
namespace Go.Proofs.YtnigjppddilpcaaGreatDoor
open Go Abs
set_option maxRecDepth 100000
set_option linter.unusedVariables false
set_option linter.unusedSimpArgs false
theorem aCH (pure_:∀ (x0:(List UInt8)),(zU 1 (fun _=>True) x0)→oW x0=some true) {p0:PV}{n0:Nat} (s0:sH Tryz.prog n0 22 [p0]):cX Tryz.prog 5 [.c p0] [] (.c (.bool true)) []:=by
 obtain ⟨x0,e0,k0⟩:=(aTV (row:=gW) (ok:=(fun _=>True)) aVW by5 s0 (fun m22 hm22 qs h22=>(aTW tk5 h22)))
 cases e0
 exact aCD (pure_ x0 k0)
