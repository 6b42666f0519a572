/- The law RequestDecodes, called with any data of its types, returns true, and all else is as it was. Conditions: none. -/
import Derived.Test.YtnigjppddilpcaaGreatDoorGELRequestDecodes
import Derived.Test.YtnigjppddilpcaaGreatDoorGEPP4
namespace Go.Proofs.YtnigjppddilpcaaGreatDoor
open Go Abs
set_option linter.unusedVariables false
def aJd:List TypeId:=[22,5]
theorem plain:aLk Tryz.prog aJd=true:=by kernel_rfl
theorem aFJ {p0:PV}{n0:Nat} (s0:uH Tryz.prog n0 22 [p0]):cQ Tryz.prog 13 [.c p0] [] (.c (.bool true)) []:=aEl (fun x0 k0=>aFg x0) s0
