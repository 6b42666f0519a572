import Derived.Test.YtnhchphmmdgphaaGBSh
import Derived.Test.YtnhchphmmdgphaaGBF7
namespace Go.Proofs.Ytnhchphmmdgphaa
open Go Abs
set_option maxRecDepth 100000
set_option linter.unusedVariables false
set_option linter.unusedSimpArgs false
theorem DivergeReads_law_of (pure_ : ∀ (x0 : (List ApiEvent)), (okLs 272 okApiEvent x0) → law27xDivergeReads x0 = some true) {p0 : PV} {n0 : Nat} (s0 : Shaped Try.prog n0 49 [p0]) : ACalls Try.prog 12 [.c p0] [] (.c (.bool true)) [] := by
  obtain ⟨x0, e0, k0⟩ := (sh_sl (row := rowApiEvent) (ok := okApiEvent) sl49 by46 s0 (fun m49 hm49 qs h49 => (sh_ApiEvent _ _ h49)))
  cases e0
  exact w_law27xDivergeReads (pure_ x0 k0)
end Go.Proofs.Ytnhchphmmdgphaa
