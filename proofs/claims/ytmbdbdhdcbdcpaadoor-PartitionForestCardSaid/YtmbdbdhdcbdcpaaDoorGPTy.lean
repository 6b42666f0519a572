import Derived.Test.YtmbdbdhdcbdcpaaDoorProg
import Derived.Test.YtmbdbdhdcbdcpaaDoorAbs29
import Derived.Test.YtmbdbdhdcbdcpaaDoorLib
namespace Go.Proofs.YtmbdbdhdcbdcpaaDoor
open Go Abs
set_option maxRecDepth 100000
set_option linter.unusedVariables false
set_option linter.unusedSimpArgs false

theorem ti9 : tyIs Tryd.prog 9 = 2 := by kernel_rfl
theorem ts40 : tySlice Tryd.prog 40 = some (3, 1, 8) := by kernel_rfl
theorem ti40 : tyIs Tryd.prog 40 = 3 := by kernel_rfl
theorem tv3 : tyVar Tryd.prog 3 = some (false, 1) := by kernel_rfl
theorem tz3 : tyZero Tryd.prog 3 = some [.int .i64 0] := by kernel_rfl
theorem tk5 : tyInt Tryd.prog 5 = some .u8 := by kernel_rfl
theorem tk166 : tyInt Tryd.prog 166 = some .u32 := by kernel_rfl
theorem tk3 : tyInt Tryd.prog 3 = some .i64 := by kernel_rfl
end Go.Proofs.YtmbdbdhdcbdcpaaDoor
