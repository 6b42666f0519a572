/- The law RequestRight, called with any data of its types, returns true, and all else is as it was. Conditions: none. -/
import Derived.Test.YtnigjppddilpcaaGreatDoorGELRequestRight
import Derived.Test.YtnigjppddilpcaaGreatDoorGEPP3
namespace Go.Proofs.YtnigjppddilpcaaGreatDoor
open Go Abs
set_option linter.unusedVariables false
def wT:List TypeId:=[57,3,9,26,23,24,28,55,103]
theorem plain:aBh Tryz.prog wT=true:=by kernel_rfl
theorem aC8 {p0:List PV}{n0:Nat} (s0:gD Tryz.prog n0 57 p0):bT Tryz.prog 11 [.agg (p0.map AV.c)] [] (.c (.bool true)) []:=aBm (fun x0 k0=>aCg x0 k0) s0
end Go.Proofs.YtnigjppddilpcaaGreatDoor
