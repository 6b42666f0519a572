/- The law EventcodeBatch, called with data of its types of at most so many values and letters, returns true, and all else is as it was. -/
import Derived.Test.YtnigjppddilpcaaGreatDoorGELEventcodeBatch
import Derived.Test.YtnigjppddilpcaaGreatDoorGEPP4
namespace Go.Proofs.YtnigjppddilpcaaGreatDoor
open Go Abs
set_option linter.unusedVariables false
def mJ:List TypeId:=[32,30,3,9,26,23,24,28]
theorem plain:aBj Tryz.prog mJ=true:=by kernel_rfl
theorem aBo {p0:PV}{n0:Nat} (s0:gN Tryz.prog n0 32 [p0]) (hb:PV.bulkRow [p0]+0≤1048576):bS Tryz.prog 4 [.c p0] [] (.c (.bool true)) []:=yZ (fun x0 k0 hb=>aBp x0 k0 hb) s0 hb
end Go.Proofs.YtnigjppddilpcaaGreatDoor
