/- The law EventcodeEncode, called with data of its types of at most so many values and letters, returns true, and all else is as it was. -/
import Derived.Test.YtnigjppddilpcaaGreatDoorGELEventcodeEncode
import Derived.Test.YtnigjppddilpcaaGreatDoorGEPP4
namespace Go.Proofs.YtnigjppddilpcaaGreatDoor
open Go Abs
set_option linter.unusedVariables false
def mJ:List TypeId:=[22,5,30,3,9,26,23,24,28]
theorem plain:aBj Tryz.prog mJ=true:=by kernel_rfl
theorem aAt {p0:PV}{n0:Nat} (s0:gN Tryz.prog n0 22 [p0]) {p1:List PV}{n1:Nat} (s1:gN Tryz.prog n1 30 p1) (hb:PV.bulkRow [p0]+PV.bulkRow p1+0≤1048576):bS Tryz.prog 3 [.c p0,.agg (p1.map AV.c)] [] (.c (.bool true)) []:=yI (fun x0 x1 k0 k1 hb=>aAu x0 x1 k0 k1 hb) s0 s1 hb
end Go.Proofs.YtnigjppddilpcaaGreatDoor
