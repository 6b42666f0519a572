/- Layer 20: policies. -/
import Derived.Test.YtmnobgopfnhbnaaGPPPol2
import Derived.Test.YtmnobgopfnhbnaaGPPCmd3
import Derived.Test.YtmnobgopfnhbnaaGPEvWorks20
import Derived.Test.YtmnobgopfnhbnaaGPF7
namespace Go.Proofs.Ytmnobgopfnhbnaa
open Go Abs
set_option linter.unusedSimpArgs false
set_option linter.unusedVariables false

theorem CommandPolicies_pure {v : ApiValue} (h : okApiValue v) : law20xCommandPolicies v = some true := by
  unfold law20xCommandPolicies
  rw [works20_eq, Few_eq h]
  obtain ⟨o, e, h1, h2, h3, h4⟩ := Policy_both h
  by_cases hf : 0 ≤ few v 1200
  · simp only [hf, decide_true, Bool.not_true, Option.bind_some, cond_false]
    rw [h1, h2]
    simp only [Option.bind_some, decide_true]
    rw [refSamePolicy_eq h3, psame_refl, RightPolicy_eq h3]
    by_cases he : e = 0
    · simp [he, h4 he, gd]
    · simp [he, gd]
  · simp [hf]
end Go.Proofs.Ytmnobgopfnhbnaa
