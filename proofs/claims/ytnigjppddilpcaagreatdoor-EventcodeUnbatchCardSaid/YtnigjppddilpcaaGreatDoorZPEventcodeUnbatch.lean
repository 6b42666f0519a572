/- The law EventcodeUnbatch, called with any data of its types, returns true, and all else is as it was. Conditions: none. -/
import Derived.Test.YtnigjppddilpcaaGreatDoorGELEventcodeUnbatch
import Derived.Test.YtnigjppddilpcaaGreatDoorGEPP5
namespace Go.Proofs.YtnigjppddilpcaaGreatDoor
open Go Abs
set_option linter.unusedVariables false
def aB2:List TypeId:=[22,5]
theorem plain:aIa Tryz.prog aB2=true:=by kernel_rfl
theorem aD7 {p0:PV}{n0:Nat} (s0:sH Tryz.prog n0 22 [p0]):cX Tryz.prog 5 [.c p0] [] (.c (.bool true)) []:=aCH (fun x0 k0=>aDY x0) s0
