/- The law RequestReplies, called with data of its types of at most so many values and letters, returns true, and all else is as it was. -/
import Derived.Test.YtnigjppddilpcaaGreatDoorGELRequestReplies
import Derived.Test.YtnigjppddilpcaaGreatDoorGEPP4
namespace Go.Proofs.YtnigjppddilpcaaGreatDoor
open Go Abs
set_option linter.unusedVariables false
def aJP:List TypeId:=[66,37,9,3,26,23,24,32,30,28]
theorem plain:aL7 Tryz.prog aJP=true:=by kernel_rfl
theorem aFe {p0:List PV}{n0:Nat} (s0:oB Tryz.prog n0 66 p0) (hb:PV.bulkRow p0+0≤1048576):cR Tryz.prog 14 [.agg (p0.map AV.c)] [] (.c (.bool true)) []:=aDu (fun x0 k0 hb=>aFf x0 k0 hb) s0 hb
