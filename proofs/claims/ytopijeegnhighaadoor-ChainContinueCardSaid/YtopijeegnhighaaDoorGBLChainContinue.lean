import Derived.Test.YtopijeegnhighaaDoorGBSh
import Derived.Test.YtopijeegnhighaaDoorGBF3
namespace Go.Proofs.YtopijeegnhighaaDoor
open Go Abs
set_option maxRecDepth 100000
set_option linter.unusedVariables false
set_option linter.unusedSimpArgs false
theorem ChainContinue_law_of (pure_ : ∀ (x0 : ApiRun), (okApiRun x0) → law44xChainContinue x0 = some true) {p0 : List PV} {n0 : Nat} (s0 : Shaped Tryd.prog n0 37 p0) : ACalls Tryd.prog 10 [.agg (p0.map AV.c)] [] (.c (.bool true)) [] := by
  obtain ⟨x0, e0, k0⟩ := (sh_ApiRun _ _ s0)
  subst e0
  exact w_law44xChainContinue (pure_ x0 k0)
end Go.Proofs.YtopijeegnhighaaDoor
