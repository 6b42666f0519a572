/- The law EventcodeRound, called with data of its types of at most so many values and letters, returns true, and all else is as it was. -/
import Derived.Test.YtnigjppddilpcaaGreatDoorGELEventcodeRound
import Derived.Test.YtnigjppddilpcaaGreatDoorGEPP4
namespace Go.Proofs.YtnigjppddilpcaaGreatDoor
open Go Abs
set_option linter.unusedVariables false
def mJ:List TypeId:=[30,3,9,26,23,24,28,22,5]
theorem plain:aBj Tryz.prog mJ=true:=by kernel_rfl
theorem aBq {p0:List PV}{n0:Nat} (s0:gN Tryz.prog n0 30 p0) {p1:PV}{n1:Nat} (s1:gN Tryz.prog n1 22 [p1]) (hb:PV.bulkRow p0+PV.bulkRow [p1]+0≤1048576):bS Tryz.prog 8 [.agg (p0.map AV.c),.c p1] [] (.c (.bool true)) []:=zA (fun x0 x1 k0 k1 hb=>aBr x0 x1 k0 k1 hb) s0 s1 hb
end Go.Proofs.YtnigjppddilpcaaGreatDoor
