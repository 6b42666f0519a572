/- The listed variable (only the powers of ten). -/
import Derived.Test.YtopijeegnhighaaDoorShelf
import Derived.Test.YtopijeegnhighaaDoorAbs29
import Derived.Lib.AtoiErrMem
import Derived.Lib.AppendIntMem
import Derived.Lib.ItoaLen
namespace Go.Proofs.YtopijeegnhighaaDoor
open Go Abs RowKit
set_option maxRecDepth 100000
set_option linter.unusedVariables false
set_option linter.unusedSimpArgs false

theorem gPow : Tryd.prog.globalNamed "internal/strconv.uint64pow10" = some 3 := by kernel_rfl
theorem glo_tab {I : Nat → Nat → Prop} {w : World} (h : Glo I w) : Lib.TabIs Tryd.prog w "internal/strconv.uint64pow10" .u64 Lib.pow10Tab := by
  obtain ⟨cs, h1, h2⟩ := glo_var h (.head _) gPow
  unfold Lib.TabIs
  rw [h1, h2]
  rfl
theorem glo_below {I : Nat → Nat → Prop} {w w' : World} (hI : ∀ b o, I b o → b < w.heap.size) (h : Glo I w) (hb : Below w.heap.size w w') : Glo I w' :=
  h.mono (fun _ _ h => h) fun b o ho => by simp [World.cell?, hb.block b (hI b o ho)]
theorem rav_pair {g : G} {w : World} {u v : Value} {a b : AV} (h1 : RAV g w u a) (h2 : RAV g w v b) : RAV g w (.tuple #[u, v]) (.tup [a, b]) :=
  .tup _ _ rfl fun i x y hx hy => by
    match i with
    | 0 => simp at hx hy; subst hx hy; exact h1
    | 1 => simp at hx hy; subst hx hy; exact h2
    | i + 2 => simp at hx

end Go.Proofs.YtopijeegnhighaaDoor
