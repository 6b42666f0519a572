import Derived.Test.YtmnobgopfnhbnaaGDTy
import Derived.Test.YtmnobgopfnhbnaaAbs29
namespace Go.Proofs.Ytmnobgopfnhbnaa
open Go Abs
set_option maxRecDepth 100000
set_option linter.unusedVariables false
set_option linter.unusedSimpArgs false
mutual
def okApiValue : ApiValue → Prop
  | ⟨x0, x1, x2, x3, x4⟩ => okI x0 ∧ okI x1 ∧ okS x2 ∧ (x3.length ≤ 9223372036854775807 ∧ x3.length * 80 ≤ 140737488351232 ∧ oksApiValue x3) ∧ okLs 16 okS x4
def oksApiValue : List ApiValue → Prop
  | [] => True
  | x :: l => okApiValue x ∧ oksApiValue l
end
theorem oksApiValue_iff : ∀ l, oksApiValue l ↔ ∀ x ∈ l, okApiValue x
  | [] => by simp [oksApiValue]
  | x :: l => by simp [oksApiValue, oksApiValue_iff l]
theorem okApiValue_iff (x : ApiValue) : okApiValue x ↔ okI x.Kind ∧ okI x.Int ∧ okS x.Text ∧ okLs 80 okApiValue x.Items ∧ okLs 16 okS x.Keys := by
  cases x; simp only [okApiValue, okLs, oksApiValue_iff]
def okApiPolicy (x : ApiPolicy) : Prop := okS x.Queue ∧ okI x.ToStart ∧ okI x.ToClose ∧ okI x.Total ∧ okI x.Beat ∧ okI x.First ∧ okI x.Coef ∧ okI x.Most ∧ okI x.Attempts ∧ okLs 16 okS x.Fatal
def okApiCommand (x : ApiCommand) : Prop := okI x.Kind ∧ okI x.Seq ∧ okS x.Name ∧ okS x.Key ∧ okI x.N ∧ okApiValue x.Data ∧ okApiPolicy x.Opts
end Go.Proofs.Ytmnobgopfnhbnaa
