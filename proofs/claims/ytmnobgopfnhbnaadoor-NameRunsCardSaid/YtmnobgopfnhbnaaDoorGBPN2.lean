/- NameRuns: the plain law. -/
import Derived.Test.YtmnobgopfnhbnaaDoorGBPSplit
import Derived.Test.YtmnobgopfnhbnaaDoorGBF0
namespace Go.Proofs.YtmnobgopfnhbnaaDoor
open Go Abs
theorem NameRuns_pure (n : Int) (s : List UInt8) (hn : okI n) : law06xNameRuns n s = some true := by
  unfold law06xNameRuns
  rw [lives06]
  by_cases h : (10000 : Int) < (s.length : Int)
  · rw [cond_d, if_pos h]; rfl
  · rw [cond_d, if_neg h, name_Number_eq (by omega), refNumber_eq (by omega), name_Run_eq hn, ref06Run_eq hn]
    rw [Option.bind_some, Option.bind_some, Option.bind_some, Option.bind_some]
    have key : ∃ y, (gd (((cond (cond (!decide (runS n = runS n)) true (!decide ((numberS s).1 = (numberS s).1))) true (!((numberS s).2 == (numberS s).2))) == false) && ((numberS s).2 == true)) (name_Run (numberS s).1)) = some y ∧ (cond (numberS s).2 (!decide (y = s)) false) = false := by
      rcases numberS_iff s with ⟨v, h1, h2, h3, h4⟩ | ⟨h3, h4⟩
      · rw [h4, name_Run_eq ⟨by show _ ≤ v; omega, h2⟩]
        exact ⟨s, by simp [gd, h3], by simp⟩
      · rw [h4]
        exact ⟨default, by simp [gd], rfl⟩
    obtain ⟨y, hy, hy2⟩ := key
    rw [hy, Option.bind_some, hy2]
    have hl : (runS n).length ≤ 140737488355328 := by
      unfold runS
      split
      · simp
      · have := Lib.itoa_length_le n hn.1 hn.2
        simp; omega
    simp only [decide_true, Bool.not_true, cond_false, beq_self_eq_true]
    rw [Option.bind_some, name_Number_eq hl, Option.bind_some, cond_d]
    by_cases h1 : n < 1
    · have e : runS n = [] := by unfold runS; rw [if_pos h1]
      have e2 : numberS [] = (0, false) := by
        rcases numberS_iff [] with ⟨v, g1, g2, g3, g4⟩ | ⟨g3, g4⟩
        · rw [runS_pos g1] at g3; cases g3
        · exact g4
      rw [if_pos h1, e, e2]; rfl
    · rw [if_neg h1, numberS_run (by omega) hn.2]
      simp [gd]
end Go.Proofs.YtmnobgopfnhbnaaDoor
