/- The law RequestSame, called with any data of its types, returns true, and all else is as it was. Conditions: none. -/
import Derived.Test.YtnigjppddilpcaaGreatDoorGELRequestSame
import Derived.Test.YtnigjppddilpcaaGreatDoorGEPP3
namespace Go.Proofs.YtnigjppddilpcaaGreatDoor
open Go Abs
set_option linter.unusedVariables false
def aBz:List TypeId:=[57,3,9,26,23,24,28,55,103,67,66,37,32,30]
theorem plain:aGq Tryz.prog aBz=true:=by kernel_rfl
theorem aFN {p0:List PV}{n0:Nat} (s0:jF Tryz.prog n0 57 p0) {p1:List PV}{n1:Nat} (s1:jF Tryz.prog n1 57 p1) {p2:List PV}{n2:Nat} (s2:jF Tryz.prog n2 67 p2):dE Tryz.prog 12 [.agg (p0.map AV.c),.agg (p1.map AV.c),.agg (p2.map AV.c)] [] (.c (.bool true)) []:=aDz (fun x0 x1 x2 k0 k1 k2=>aEM x0 x1 x2 k0 k1 k2) s0 s1 s2
