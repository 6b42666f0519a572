import Derived.Test.YtnhchphmmdgphaaGBSh
import Derived.Test.YtnhchphmmdgphaaGBF5
namespace Go.Proofs.Ytnhchphmmdgphaa
open Go Abs
set_option maxRecDepth 100000
set_option linter.unusedVariables false
set_option linter.unusedSimpArgs false
theorem WireCanonical_law_of (pure_ : ∀ (x0 : (List UInt8)), (okLs (fun _ => True) x0) → law01xWireCanonical x0 = some true) {p0 : PV} {n0 : Nat} (s0 : Shaped Try.prog n0 22 [p0]) : ACalls Try.prog 11 [.c p0] [] (.c (.bool true)) [] := by
  obtain ⟨x0, e0, k0⟩ := (sh_sl (row := brow) (ok := (fun _ => True)) sl22 s0 (fun m22 hm22 qs h22 => (sh_u8 tk5 h22)))
  cases e0
  exact w_law01xWireCanonical (pure_ x0 k0)
end Go.Proofs.Ytnhchphmmdgphaa
