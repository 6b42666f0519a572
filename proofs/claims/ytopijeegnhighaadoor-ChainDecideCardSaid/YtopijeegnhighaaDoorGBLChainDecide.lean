import Derived.Test.YtopijeegnhighaaDoorGBSh
import Derived.Test.YtopijeegnhighaaDoorGBF2
namespace Go.Proofs.YtopijeegnhighaaDoor
open Go Abs
set_option maxRecDepth 100000
set_option linter.unusedVariables false
set_option linter.unusedSimpArgs false
theorem ChainDecide_law_of (pure_ : ∀ (x0 : (List ApiRun)) (x1 : ApiRequest), (okLs 544 okApiRun x0) → (okApiRequest x1) → law44xChainDecide x0 x1 = some true) {p0 : PV} {n0 : Nat} (s0 : Shaped Tryd.prog n0 62 [p0]) {p1 : List PV} {n1 : Nat} (s1 : Shaped Tryd.prog n1 44 p1) : ACalls Tryd.prog 8 [.c p0, .agg (p1.map AV.c)] [] (.c (.bool true)) [] := by
  obtain ⟨x0, e0, k0⟩ := (sh_sl (row := rowApiRun) (ok := okApiRun) sl62 by37 s0 (fun m62 hm62 qs h62 => (sh_ApiRun _ _ h62)))
  cases e0
  obtain ⟨x1, e1, k1⟩ := (sh_ApiRequest _ _ s1)
  subst e1
  exact w_law44xChainDecide (pure_ x0 x1 k0 k1)
end Go.Proofs.YtopijeegnhighaaDoor
