import Derived.Test.YtmnobgopfnhbnaaDoorProg
import Derived.Test.YtmnobgopfnhbnaaDoorAbs29
import Derived.Test.YtmnobgopfnhbnaaDoorLib
namespace Go.Proofs.YtmnobgopfnhbnaaDoor
open Go Abs
set_option maxRecDepth 100000
set_option linter.unusedVariables false
set_option linter.unusedSimpArgs false

theorem ti9 : tyIs Tryd.prog 9 = 2 := by kernel_rfl
theorem ti4 : tyIs Tryd.prog 4 = 4 := by kernel_rfl
theorem tk5 : tyInt Tryd.prog 5 = some .u8 := by kernel_rfl
theorem tk3 : tyInt Tryd.prog 3 = some .i64 := by kernel_rfl
theorem ts32 : tySlice Tryd.prog 32 = some (5, 1, 1) := by kernel_rfl
theorem tby32 : aval.tyBytes Tryd.prog 32 := by show (match Tryd.prog.underlying 32 with | some (.slice e) => tyInt Tryd.prog e = some .u8 | _ => False); rw [show Tryd.prog.underlying 32 = some (.slice 5) by kernel_rfl]; exact (by kernel_rfl : tyInt Tryd.prog 5 = some .u8)
end Go.Proofs.YtmnobgopfnhbnaaDoor
