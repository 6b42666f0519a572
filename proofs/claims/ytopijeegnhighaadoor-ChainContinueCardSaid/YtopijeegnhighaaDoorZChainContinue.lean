/- The law ChainContinue, called with any data of its types, returns true, and all else is as it was. Conditions: none. -/
import Derived.Test.YtopijeegnhighaaDoorGBLChainContinue
import Derived.Test.YtopijeegnhighaaDoorGBPCh4
namespace Go.Proofs.YtopijeegnhighaaDoor
open Go Abs
set_option linter.unusedVariables false
def plainTypes : List TypeId := [37, 9, 3, 22, 80, 26, 23, 24, 41, 33, 4, 27, 183, 28, 185, 29, 87, 30, 91, 31, 187, 34, 189, 35, 52]
theorem plain : plainOk Tryd.prog plainTypes = true := by kernel_rfl
theorem ChainContinue_law {p0 : List PV} {n0 : Nat} (s0 : Shaped Tryd.prog n0 37 p0) : ACalls Tryd.prog 10 [.agg (p0.map AV.c)] [] (.c (.bool true)) [] := ChainContinue_law_of (fun x0 k0 => ChainContinue_pure x0 k0) s0
end Go.Proofs.YtopijeegnhighaaDoor
