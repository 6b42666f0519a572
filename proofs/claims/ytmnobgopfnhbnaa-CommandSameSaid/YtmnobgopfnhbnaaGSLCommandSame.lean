import Derived.Test.YtmnobgopfnhbnaaGSSh
import Derived.Test.YtmnobgopfnhbnaaGSF6
namespace Go.Proofs.Ytmnobgopfnhbnaa
open Go Abs
set_option maxRecDepth 100000
set_option linter.unusedVariables false
set_option linter.unusedSimpArgs false
theorem CommandSame_law_of (pure_ : ∀ (x0 : ApiCommand) (x1 : ApiCommand), (okApiCommand x0) → (okApiCommand x1) → law20xCommandSame x0 x1 = some true) {p0 : List PV} {n0 : Nat} (s0 : Shaped Try.prog n0 29 p0) {p1 : List PV} {n1 : Nat} (s1 : Shaped Try.prog n1 29 p1) : ACalls Try.prog 5 [.agg (p0.map AV.c), .agg (p1.map AV.c)] [] (.c (.bool true)) [] := by
  obtain ⟨x0, e0, k0⟩ := (sh_ApiCommand _ _ s0)
  subst e0
  obtain ⟨x1, e1, k1⟩ := (sh_ApiCommand _ _ s1)
  subst e1
  exact w_law20xCommandSame (pure_ x0 x1 k0 k1)
end Go.Proofs.Ytmnobgopfnhbnaa
