import Derived.Test.YtnhchphmmdgphaaGASh
import Derived.Test.YtnhchphmmdgphaaGAF7
namespace Go.Proofs.Ytnhchphmmdgphaa
open Go Abs
set_option maxRecDepth 100000
set_option linter.unusedVariables false
set_option linter.unusedSimpArgs false
theorem DivergeAccepts_law_of (pure_ : ∀ (x0 : (List ApiCommand)) (x1 : ApiValue) (x2 : Int), (okLs 240 okApiCommand x0) → (okApiValue x1) → (okI x2) → law27xDivergeAccepts x0 x1 x2 = some true) {p0 : PV} {n0 : Nat} (s0 : Shaped Try.prog n0 48 [p0]) {p1 : List PV} {n1 : Nat} (s1 : Shaped Try.prog n1 40 p1) {p2 : PV} {n2 : Nat} (s2 : Shaped Try.prog n2 3 [p2]) : ACalls Try.prog 13 [.c p0, .agg (p1.map AV.c), .c p2] [] (.c (.bool true)) [] := by
  obtain ⟨x0, e0, k0⟩ := (sh_sl (row := rowApiCommand) (ok := okApiCommand) sl48 by44 s0 (fun m48 hm48 qs h48 => (sh_ApiCommand _ _ h48)))
  cases e0
  obtain ⟨x1, e1, k1⟩ := (sh_ApiValue _ _ s1)
  subst e1
  obtain ⟨x2, e2, k2⟩ := (sh_i64 tk3 s2)
  cases e2
  exact w_law27xDivergeAccepts (pure_ x0 x1 x2 k0 k1 k2)
end Go.Proofs.Ytnhchphmmdgphaa
