/- The law ChildrenStarts, called with any data of its types, returns true, and all else is as it was. Conditions: none. -/
import Derived.Test.YtopijeegnhighaaDoorGALChildrenStarts
import Derived.Test.YtopijeegnhighaaDoorGAPKid6
namespace Go.Proofs.YtopijeegnhighaaDoor
open Go Abs
set_option linter.unusedVariables false
def plainTypes : List TypeId := [37, 9, 3, 22, 80, 26, 23, 24, 41, 33, 4, 27, 183, 28, 185, 29, 87, 30, 91, 31, 187, 34, 189, 35, 52, 55, 53]
theorem plain : plainOk Tryd.prog plainTypes = true := by kernel_rfl
theorem ChildrenStarts_law {p0 : List PV} {n0 : Nat} (s0 : Shaped Tryd.prog n0 37 p0) {p1 : List PV} {n1 : Nat} (s1 : Shaped Tryd.prog n1 52 p1) {p2 : List PV} {n2 : Nat} (s2 : Shaped Tryd.prog n2 55 p2) : ACalls Tryd.prog 5 [.agg (p0.map AV.c), .agg (p1.map AV.c), .agg (p2.map AV.c)] [] (.c (.bool true)) [] := ChildrenStarts_law_of (fun x0 x1 x2 k0 k1 k2 => ChildrenStarts_pure x0 x1 x2 k0 k1) s0 s1 s2
end Go.Proofs.YtopijeegnhighaaDoor
