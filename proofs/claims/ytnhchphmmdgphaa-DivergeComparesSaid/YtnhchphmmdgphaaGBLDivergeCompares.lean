import Derived.Test.YtnhchphmmdgphaaGBSh
import Derived.Test.YtnhchphmmdgphaaGBF3
namespace Go.Proofs.Ytnhchphmmdgphaa
open Go Abs
set_option maxRecDepth 100000
set_option linter.unusedVariables false
set_option linter.unusedSimpArgs false
theorem DivergeCompares_law_of (pure_ : ∀ (x0 : (List ApiCommand)) (x1 : (List ApiEvent)), (okLs okApiCommand x0) → (okLs okApiEvent x1) → law27xDivergeCompares x0 x1 = some true) {p0 : PV} {n0 : Nat} (s0 : Shaped Try.prog n0 48 [p0]) {p1 : PV} {n1 : Nat} (s1 : Shaped Try.prog n1 49 [p1]) : ACalls Try.prog 7 [.c p0, .c p1] [] (.c (.bool true)) [] := by
  obtain ⟨x0, e0, k0⟩ := (sh_sl (row := rowApiCommand) (ok := okApiCommand) sl48 s0 (fun m48 hm48 qs h48 => (sh_ApiCommand _ _ h48)))
  cases e0
  obtain ⟨x1, e1, k1⟩ := (sh_sl (row := rowApiEvent) (ok := okApiEvent) sl49 s1 (fun m49 hm49 qs h49 => (sh_ApiEvent _ _ h49)))
  cases e1
  exact w_law27xDivergeCompares (pure_ x0 x1 k0 k1)
end Go.Proofs.Ytnhchphmmdgphaa
