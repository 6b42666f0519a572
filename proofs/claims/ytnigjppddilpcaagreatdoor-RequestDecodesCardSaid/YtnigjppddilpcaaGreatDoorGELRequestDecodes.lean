import Derived.Test.YtnigjppddilpcaaGreatDoorGESh
import Derived.Test.YtnigjppddilpcaaGreatDoorGEF18
import Derived.Test.YtnigjppddilpcaaGreatDoorAbsU
namespace Go.Proofs.YtnigjppddilpcaaGreatDoor
open Go Abs
set_option maxRecDepth 100000
set_option linter.unusedVariables false
set_option linter.unusedSimpArgs false
theorem aEl (pure_:∀ (x0:(List UInt8)),(aAc 1 (fun _=>True) x0)→qV x0=some true) {p0:PV}{n0:Nat} (s0:uH Tryz.prog n0 22 [p0]):cQ Tryz.prog 13 [.c p0] [] (.c (.bool true)) []:=by
 obtain ⟨x0,e0,k0⟩:=(aUm (row:=iT) (ok:=(fun _=>True)) aU2 by5 s0 (fun m22 hm22 qs h22=>(aUn tk5 h22)))
 cases e0
 exact aD6 (pure_ x0 k0)
