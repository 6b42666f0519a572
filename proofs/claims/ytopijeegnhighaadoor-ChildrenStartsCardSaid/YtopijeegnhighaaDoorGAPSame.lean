/- Policies: equality by the reference, plainly. -/
import Derived.Test.YtopijeegnhighaaDoorGAPSamV
import Derived.Test.YtopijeegnhighaaDoorGAF1
namespace Go.Proofs.YtopijeegnhighaaDoor
open Go Abs
set_option linter.unusedSimpArgs false
set_option linter.unusedVariables false

def psame (a b : ApiPolicy) : Bool := decide (a.Queue = b.Queue) && decide (a.ToStart = b.ToStart) && decide (a.ToClose = b.ToClose) && decide (a.Total = b.Total) && decide (a.Beat = b.Beat) && decide (a.First = b.First) && decide (a.Coef = b.Coef) && decide (a.Most = b.Most) && decide (a.Attempts = b.Attempts) && decide (a.Fatal = b.Fatal)
theorem all_opt {a b : List (List UInt8)} (hlen : a.length = b.length) : ((List.range a.length).all fun i => decide (a[i]? = b[i]?)) = decide (a = b) := by
  rw [Bool.eq_iff_iff, List.all_eq_true]
  simp only [decide_eq_true_eq]
  constructor
  · refine fun h6 => List.ext_getElem? fun i => ?_
    by_cases hi : i < a.length
    · exact h6 i (List.mem_range.2 hi)
    · rw [List.getElem?_eq_none (by omega), List.getElem?_eq_none (by omega)]
  · intro e i _; rw [e]
theorem refSamePolicy_eq {a b : ApiPolicy} (h : okApiPolicy a) : ref20xSamePolicy a b = some (psame a b) := by
  have hf : a.Fatal.length ≤ 9223372036854775807 := h.2.2.2.2.2.2.2.2.2.1
  unfold ref20xSamePolicy psame
  have hl : (a.Fatal.length : Int) = b.Fatal.length → loopO (ref20xSamePolicy_l1 a b) (0 : Int) = some (if decide (a.Fatal = b.Fatal) then .go () else .done false) := fun hlen => by
    rw [loop_all a.Fatal.length (fun i => decide (a.Fatal[i]? = b.Fatal[i]?)) false (fun i hi => ?_) ?_]
    · rw [all_opt (by omega)]
    · unfold ref20xSamePolicy_l1
      rw [cond_d, if_neg (by omega)]
    · unfold ref20xSamePolicy_l1
      have hb : i < b.Fatal.length := by omega
      rw [cond_d, if_pos (by omega), idx_ok hi, Option.bind_some, idx_ok hb, Option.bind_some, cond_nd, w64s hi hf, List.getElem?_eq_getElem hi, List.getElem?_eq_getElem hb]
      simp only [Option.some.injEq, decide_eq_true_eq]
      split <;> rfl
  by_cases h0 : (a.Fatal.length : Int) = b.Fatal.length
  · rw [hl h0]
    by_cases h9 : a.Fatal = b.Fatal
    · simp only [h9, decide_true, if_true, Option.bind_some, Fl.next, Bool.not_true]
      cases decide (a.Queue = b.Queue) <;> cases decide (a.ToStart = b.ToStart) <;> cases decide (a.ToClose = b.ToClose) <;> cases decide (a.Total = b.Total) <;> cases decide (a.Beat = b.Beat) <;> first | rfl | (cases decide (a.First = b.First) <;> cases decide (a.Coef = b.Coef) <;> cases decide (a.Most = b.Most) <;> cases decide (a.Attempts = b.Attempts) <;> rfl)
    · simp only [h9, h0, decide_true, decide_false, Option.bind_some, Fl.next, Bool.and_false]
      simp
  · have h9 : a.Fatal ≠ b.Fatal := fun e => h0 (by rw [e])
    simp [h0, h9]
theorem psame_refl (p : ApiPolicy) : psame p p = true := by simp [psame]
end Go.Proofs.YtopijeegnhighaaDoor
