/- NameChecks: the plain law. -/
import Derived.Test.YtmnobgopfnhbnaaDoorGBPSplit
import Derived.Test.YtmnobgopfnhbnaaDoorGBF0
namespace Go.Proofs.YtmnobgopfnhbnaaDoor
open Go Abs
theorem NameChecks_pure (s : List UInt8) : law06xNameChecks s = some true := by
  unfold law06xNameChecks
  rw [name_Right_eq, ref06Right_eq, lives06]
  by_cases h : (10000 : Int) < (s.length : Int)
  · have e : decide ((10000 : Int) < (s.length : Int)) = true := by simp [h]
    rw [e]; simp [gd]
  · have e : decide ((10000 : Int) < (s.length : Int)) = false := by simp [h]
    rw [e]; simp [gd]
end Go.Proofs.YtmnobgopfnhbnaaDoor
