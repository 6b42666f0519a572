/- The law RequestEncodes, called with data of its types of at most so many values and letters, returns true, and all else is as it was. -/
import Derived.Test.YtnigjppddilpcaaGreatDoorGELRequestEncodes
import Derived.Test.YtnigjppddilpcaaGreatDoorGEPP3
namespace Go.Proofs.YtnigjppddilpcaaGreatDoor
open Go Abs
set_option linter.unusedVariables false
def wT:List TypeId:=[57,3,9,26,23,24,28,55,103]
theorem plain:aBh Tryz.prog wT=true:=by kernel_rfl
theorem aBk {p0:List PV}{n0:Nat} (s0:gD Tryz.prog n0 57 p0) (hb:PV.bulkRow p0+0≤1048576):bT Tryz.prog 9 [.agg (p0.map AV.c)] [] (.c (.bool true)) []:=yP (fun x0 k0 hb=>aBl x0 k0 hb) s0 hb
end Go.Proofs.YtnigjppddilpcaaGreatDoor
