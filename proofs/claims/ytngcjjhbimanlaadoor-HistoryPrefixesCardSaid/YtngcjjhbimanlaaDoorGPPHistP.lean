/- HistoryPrefixes: the plain law. -/
import Derived.Test.YtngcjjhbimanlaaDoorGPPHist2
import Derived.Test.YtngcjjhbimanlaaDoorGPEvW24
import Derived.Test.YtngcjjhbimanlaaDoorGPF5
namespace Go.Proofs.YtngcjjhbimanlaaDoor
open Go Abs
set_option linter.unusedSimpArgs false
set_option linter.unusedVariables false
theorem refCloses_eq (k : Int) : ref22xCloses k = some (stK k).2 := (show ref22xCloses k = event_Closes k from rfl).trans (Closes_eq k)
theorem HistoryPrefixes_pure (l : List ApiEvent) (hl : okLs 272 okApiEvent l) : law24xHistoryPrefixes l = some true := by
  unfold law24xHistoryPrefixes
  rw [Check_eq hl, works24]
  by_cases h60 : (60 : Int) < (l.length : Int)
  · simp [h60, gd]
  · have h2 : ¬ 2000 < l.length := by omega
    rw [if_neg h2]
    simp only [h60, decide_false, beq_self_eq_true, gd, if_true, Option.bind_some, cond_false]
    by_cases h0 : chk 0 l zeroK = 0
    · simp only [h0, decide_true, Bool.not_true, cond_false]
      have hn : l.length ≤ 9223372036854775807 := by omega
      rw [loop_look l.length (.go () : Fl Bool Unit) (fun i hi => ?_) ?_]
      · rfl
      · unfold law24xHistoryPrefixes_l1
        rw [cond_d, if_neg (by omega)]
      · unfold law24xHistoryPrefixes_l1
        have ht : okLs 272 okApiEvent (l.take i) := okLs_take hl i
        have hc : IntKind.i64.wrap ((l.length : Int) - 1) = (l.length : Int) - 1 := w64 (by omega) (by omega)
        rw [cond_d, if_pos (by omega), slcH_ok (by omega), Option.bind_some, Int.toNat_natCast, Check_eq ht, if_neg (by rw [List.length_take]; omega), chk_take l 0 i zeroK h0, Option.bind_some, idx_ok hi, Option.bind_some, refCloses_eq, Option.bind_some, w64s hi hn, hc]
        simp only [decide_true, Bool.not_true, cond_false]
        by_cases hj : i + 1 < l.length
        · rw [chk_closed l 0 zeroK h0 i hj]; rfl
        · have : ¬ (i : Int) < (l.length : Int) - 1 := by omega
          simp [this]
    · simp only [h0, decide_false, Bool.not_false, cond_true]
end Go.Proofs.YtngcjjhbimanlaaDoor
