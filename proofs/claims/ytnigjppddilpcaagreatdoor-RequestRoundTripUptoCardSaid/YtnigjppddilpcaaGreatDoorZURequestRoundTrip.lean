/- The law RequestRoundTrip, called with data of its types of at most so many values and letters, returns true, and all else is as it was. -/
import Derived.Test.YtnigjppddilpcaaGreatDoorGELRequestRoundTrip
import Derived.Test.YtnigjppddilpcaaGreatDoorGEPP5
namespace Go.Proofs.YtnigjppddilpcaaGreatDoor
open Go Abs
set_option linter.unusedVariables false
def aB8:List TypeId:=[57,3,9,26,23,24,28,55,103]
theorem plain:aEY Tryz.prog aB8=true:=by kernel_rfl
theorem aAy {p0:List PV}{n0:Nat} (s0:iB Tryz.prog n0 57 p0) {p1:PV}{n1:Nat} (s1:iB Tryz.prog n1 3 [p1]) (hb:PV.bulkRow p0+PV.bulkRow [p1]+0≤1048576):cC Tryz.prog 10 [.agg (p0.map AV.c),.c p1] [] (.c (.bool true)) []:=xS (fun x0 x1 k0 k1 hb=>aAz x0 x1 k0 k1 hb) s0 s1 hb
end Go.Proofs.YtnigjppddilpcaaGreatDoor
