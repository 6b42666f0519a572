import Derived.Test.YtngcjjhbimanlaaGreatDoorGCSh
import Derived.Test.YtngcjjhbimanlaaGreatDoorGCF7
namespace Go.Proofs.YtngcjjhbimanlaaGreatDoor
open Go Abs
set_option maxRecDepth 100000
set_option linter.unusedVariables false
set_option linter.unusedSimpArgs false
theorem EventCommands_law_of (pure_ : ∀ (x0 : ApiCommand) (x1 : ApiEvent) (x2 : Int) (x3 : Int), (okApiCommand x0) → (okApiEvent x1) → (okI x2) → (okI x3) → law22xEventCommands x0 x1 x2 x3 = some true) {p0 : List PV} {n0 : Nat} (s0 : Shaped Tryz.prog n0 33 p0) {p1 : List PV} {n1 : Nat} (s1 : Shaped Tryz.prog n1 29 p1) {p2 : PV} {n2 : Nat} (s2 : Shaped Tryz.prog n2 3 [p2]) {p3 : PV} {n3 : Nat} (s3 : Shaped Tryz.prog n3 3 [p3]) : ACalls Tryz.prog 4 [.agg (p0.map AV.c), .agg (p1.map AV.c), .c p2, .c p3] [] (.c (.bool true)) [] := by
  obtain ⟨x0, e0, k0⟩ := (sh_ApiCommand _ _ s0)
  subst e0
  obtain ⟨x1, e1, k1⟩ := (sh_ApiEvent _ _ s1)
  subst e1
  obtain ⟨x2, e2, k2⟩ := (sh_i64 tk3 s2)
  cases e2
  obtain ⟨x3, e3, k3⟩ := (sh_i64 tk3 s3)
  cases e3
  exact w_law22xEventCommands (pure_ x0 x1 x2 x3 k0 k1 k2 k3)
end Go.Proofs.YtngcjjhbimanlaaGreatDoor
