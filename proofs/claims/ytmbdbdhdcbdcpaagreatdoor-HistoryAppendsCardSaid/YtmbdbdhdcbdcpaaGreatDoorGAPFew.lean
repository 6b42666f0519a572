/- Values of few nodes and bytes, counted as the statements of several layers count. -/
import Derived.Test.YtmbdbdhdcbdcpaaGreatDoorGAPVal1
namespace Go.Proofs.YtmbdbdhdcbdcpaaGreatDoor
open Go Abs
set_option linter.unusedSimpArgs false
set_option linter.unusedVariables false
def wf {α:Type} (f:Int→α→Int):List α→Int→Int
 | [],a=>a
 | x :: l,a=>if 0≤a then wf f l (f a x) else a
