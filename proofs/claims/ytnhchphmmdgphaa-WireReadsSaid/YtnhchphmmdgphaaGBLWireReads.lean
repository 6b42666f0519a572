import Derived.Test.YtnhchphmmdgphaaGBSh
import Derived.Test.YtnhchphmmdgphaaGBF5
namespace Go.Proofs.Ytnhchphmmdgphaa
open Go Abs
set_option maxRecDepth 100000
set_option linter.unusedVariables false
set_option linter.unusedSimpArgs false
theorem WireReads_law_of (pure_ : ∀ (x0 : (List UInt8)) (x1 : (List Law01Read)), (okLs (fun _ => True) x0) → (okLs okLaw01Read x1) → law01xWireReads x0 x1 = some true) {p0 : PV} {n0 : Nat} (s0 : Shaped Try.prog n0 22 [p0]) {p1 : PV} {n1 : Nat} (s1 : Shaped Try.prog n1 52 [p1]) : ACalls Try.prog 8 [.c p0, .c p1] [] (.c (.bool true)) [] := by
  obtain ⟨x0, e0, k0⟩ := (sh_sl (row := brow) (ok := (fun _ => True)) sl22 s0 (fun m22 hm22 qs h22 => (sh_u8 tk5 h22)))
  cases e0
  obtain ⟨x1, e1, k1⟩ := (sh_sl (row := rowLaw01Read) (ok := okLaw01Read) sl52 s1 (fun m52 hm52 qs h52 => (sh_Law01Read _ _ h52)))
  cases e1
  exact w_law01xWireReads (pure_ x0 x1 k0 k1)
end Go.Proofs.Ytnhchphmmdgphaa
