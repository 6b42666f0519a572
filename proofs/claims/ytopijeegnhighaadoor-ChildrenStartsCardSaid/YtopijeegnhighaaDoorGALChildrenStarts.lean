import Derived.Test.YtopijeegnhighaaDoorGASh
import Derived.Test.YtopijeegnhighaaDoorGAF3
namespace Go.Proofs.YtopijeegnhighaaDoor
open Go Abs
set_option maxRecDepth 100000
set_option linter.unusedVariables false
set_option linter.unusedSimpArgs false
theorem ChildrenStarts_law_of (pure_ : ∀ (x0 : ApiRun) (x1 : ApiTask) (x2 : ApiReply), (okApiRun x0) → (okApiTask x1) → (okApiReply x2) → law45xChildrenStarts x0 x1 x2 = some true) {p0 : List PV} {n0 : Nat} (s0 : Shaped Tryd.prog n0 37 p0) {p1 : List PV} {n1 : Nat} (s1 : Shaped Tryd.prog n1 52 p1) {p2 : List PV} {n2 : Nat} (s2 : Shaped Tryd.prog n2 55 p2) : ACalls Tryd.prog 5 [.agg (p0.map AV.c), .agg (p1.map AV.c), .agg (p2.map AV.c)] [] (.c (.bool true)) [] := by
  obtain ⟨x0, e0, k0⟩ := (sh_ApiRun _ _ s0)
  subst e0
  obtain ⟨x1, e1, k1⟩ := (sh_ApiTask _ _ s1)
  subst e1
  obtain ⟨x2, e2, k2⟩ := (sh_ApiReply _ _ s2)
  subst e2
  exact w_law45xChildrenStarts (pure_ x0 x1 x2 k0 k1 k2)
end Go.Proofs.YtopijeegnhighaaDoor
