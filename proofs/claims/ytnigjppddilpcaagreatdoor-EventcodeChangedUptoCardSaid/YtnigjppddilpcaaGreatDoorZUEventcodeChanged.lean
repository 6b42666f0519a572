/- The law EventcodeChanged, called with data of its types of at most so many values and letters, returns true, and all else is as it was. -/
import Derived.Test.YtnigjppddilpcaaGreatDoorGELEventcodeChanged
import Derived.Test.YtnigjppddilpcaaGreatDoorGEPP3
namespace Go.Proofs.YtnigjppddilpcaaGreatDoor
open Go Abs
set_option linter.unusedVariables false
def uK:List TypeId:=[32,30,3,9,26,23,24,28,5]
theorem plain:aEE Tryz.prog uK=true:=by kernel_rfl
theorem vK {p0:PV}{n0:Nat} (s0:gB Tryz.prog n0 32 [p0]) {p1:PV}{n1:Nat} (s1:gB Tryz.prog n1 3 [p1]) {p2:PV}{n2:Nat} (s2:gB Tryz.prog n2 5 [p2]) (hb:PV.bulkRow [p0]+PV.bulkRow [p1]+PV.bulkRow [p2]+0≤1048576):bR Tryz.prog 6 [.c p0,.c p1,.c p2] [] (.c (.bool true)) []:=sZ (fun x0 x1 x2 k0 k1 k2 hb=>vL x0 x1 x2 k0 k1 k2 hb) s0 s1 s2 hb
end Go.Proofs.YtnigjppddilpcaaGreatDoor
