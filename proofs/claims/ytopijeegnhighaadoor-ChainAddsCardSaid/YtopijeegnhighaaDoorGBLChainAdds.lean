import Derived.Test.YtopijeegnhighaaDoorGBSh
import Derived.Test.YtopijeegnhighaaDoorGBF3
namespace Go.Proofs.YtopijeegnhighaaDoor
open Go Abs
set_option maxRecDepth 100000
set_option linter.unusedVariables false
set_option linter.unusedSimpArgs false
theorem ChainAdds_law_of (pure_ : ∀ (x0 : (List ApiRun)) (x1 : (List UInt8)), (okLs 544 okApiRun x0) → (okS x1) → law44xChainAdds x0 x1 = some true) {p0 : PV} {n0 : Nat} (s0 : Shaped Tryd.prog n0 62 [p0]) {p1 : PV} {n1 : Nat} (s1 : Shaped Tryd.prog n1 9 [p1]) : ACalls Tryd.prog 11 [.c p0, .c p1] [] (.c (.bool true)) [] := by
  obtain ⟨x0, e0, k0⟩ := (sh_sl (row := rowApiRun) (ok := okApiRun) sl62 by37 s0 (fun m62 hm62 qs h62 => (sh_ApiRun _ _ h62)))
  cases e0
  obtain ⟨x1, e1, k1⟩ := (sh_str ti9 s1)
  cases e1
  exact w_law44xChainAdds (pure_ x0 x1 k0 k1)
end Go.Proofs.YtopijeegnhighaaDoor
