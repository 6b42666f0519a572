/- The law ChainAdds, called with any data of its types, returns true, and all else is as it was. Conditions: none. -/
import Derived.Test.YtopijeegnhighaaDoorGBLChainAdds
import Derived.Test.YtopijeegnhighaaDoorGBPCh7
namespace Go.Proofs.YtopijeegnhighaaDoor
open Go Abs
set_option linter.unusedVariables false
def plainTypes : List TypeId := [62, 37, 9, 3, 22, 80, 26, 23, 24, 41, 33, 4, 27, 183, 28, 185, 29, 87, 30, 91, 31, 187, 34, 189, 35, 52]
theorem plain : plainOk Tryd.prog plainTypes = true := by kernel_rfl
theorem ChainAdds_law {p0 : PV} {n0 : Nat} (s0 : Shaped Tryd.prog n0 62 [p0]) {p1 : PV} {n1 : Nat} (s1 : Shaped Tryd.prog n1 9 [p1]) : ACalls Tryd.prog 11 [.c p0, .c p1] [] (.c (.bool true)) [] := ChainAdds_law_of (fun x0 x1 k0 k1 => ChainAdds_pure x0 x1 k0) s0 s1
end Go.Proofs.YtopijeegnhighaaDoor
