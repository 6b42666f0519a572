/- Layer 20: names. -/
import Derived.Test.YtmnobgopfnhbnaaGNPCmd1
import Derived.Test.YtmnobgopfnhbnaaGNEvWorks20
import Derived.Test.YtmnobgopfnhbnaaGNF6
namespace Go.Proofs.Ytmnobgopfnhbnaa
open Go Abs
set_option linter.unusedSimpArgs false
set_option linter.unusedVariables false

theorem CommandNames_pure {k : Int} : law20xCommandNames k = some true := by
  unfold law20xCommandNames
  rw [works20_eq]
  by_cases h : 1 ≤ k ∧ k ≤ 14
  · have h14 : k = 1 ∨ k = 2 ∨ k = 3 ∨ k = 4 ∨ k = 5 ∨ k = 6 ∨ k = 7 ∨ k = 8 ∨ k = 9 ∨ k = 10 ∨ k = 11 ∨ k = 12 ∨ k = 13 ∨ k = 14 := by omega
    clear h
    rcases h14 with rfl | rfl | rfl | rfl | rfl | rfl | rfl | rfl | rfl | rfl | rfl | rfl | rfl | rfl <;> rfl
  · unfold command_Closes ref20xCloses command_Name ref20xName
    simp only [command_in_eq, ref20in_eq, Option.bind_some, List.length_cons, List.length_nil]
    have hb : inB k 1 14 = false := by unfold inB; simp; omega
    have hb2 : inB k 1 ((0 + 1 + 1 + 1 + 1 + 1 + 1 + 1 + 1 + 1 + 1 + 1 + 1 + 1 + 1 : Nat) : Int) = false := hb
    have hc : (cond (cond (cond (decide (k = (11 : Int))) true (decide (k = (12 : Int)))) true (decide (k = (13 : Int)))) true (decide (k = (14 : Int)))) = inB k 11 14 := by
      have : inB k 11 14 = false := by unfold inB; simp; omega
      rw [this]; simp; omega
    rw [hb, hb2, hc]
    simp [gd]
end Go.Proofs.Ytmnobgopfnhbnaa
