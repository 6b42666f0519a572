/- ChainFind and ChainDecide: the plain laws. -/
import Derived.Test.YtopijeegnhighaaDoorGBPW44
import Derived.Test.YtopijeegnhighaaDoorGBPLarge
import Derived.Test.YtopijeegnhighaaDoorGBF2
namespace Go.Proofs.YtopijeegnhighaaDoor
open Go Abs
set_option linter.unusedSimpArgs false
set_option linter.unusedVariables false
theorem okL_of {l : List ApiRun} (h : okLs 544 okApiRun l) (hl : l.length ≤ 30) : okL l :=
  ⟨by omega, fun r hr => by have := (h.2.2 r hr).2.1; unfold okS at this; omega, fun r hr => (h.2.2 r hr).2.2.2.2.1.1⟩
theorem ChainDecide_pure (l : List ApiRun) (q : ApiRequest) (h : okLs 544 okApiRun l) : law44xChainDecide l q = some true := by
  unfold law44xChainDecide
  obtain ⟨b, h1, h2⟩ := large_ex h
  rw [h1, works44]
  cases b
  · obtain ⟨x, h3, h4⟩ := Decide_both (q := q) (okL_of h (h2 rfl))
    rw [h3, h4]
    simp [gd]
  · rfl
theorem Find_ex {l : List ApiRun} {w id : List UInt8} (ok : okL l) : ∃ x, chain_Find l w id = some x := by
  unfold chain_Find
  by_cases hi : id = []
  · rw [decide_eq_true hi, cond_true, Latest_eq ok]; exact ⟨_, rfl⟩
  · rw [decide_eq_false hi, cond_false]
    have : loopO (chain_Find_l1 l id w) (0 : Int) = some (firstR (fun i (_ : ApiRun) => ((i : Int), true)) (firstF (fun r : ApiRun => decide (r.Workflow = w ∧ r.ID = id)) l 0)) := by
      refine loop_first (l := l) (fun r : ApiRun => decide (r.Workflow = w ∧ r.ID = id)) (fun i _ => ((i : Int), true)) (fun i hi => ?_) ?_
      · unfold chain_Find_l1
        rw [cond_d, if_pos (by omega), idx_ok hi, Option.bind_some, w64s hi (by have := ok.len; omega)]
        by_cases h1 : l[i].Workflow = w <;> by_cases h2 : l[i].ID = id <;> simp [h1, h2]
      · unfold chain_Find_l1
        rw [cond_d, if_neg (by omega)]
    rw [this, Option.bind_some]
    cases firstF (fun r : ApiRun => decide (r.Workflow = w ∧ r.ID = id)) l 0 with
    | none => exact ⟨_, rfl⟩
    | some z => exact ⟨_, rfl⟩
theorem ChainFind_pure (l : List ApiRun) (w id : List UInt8) (h : okLs 544 okApiRun l) : law44xChainFind l w id = some true := by
  unfold law44xChainFind
  obtain ⟨b, h1, h2⟩ := large_ex h
  rw [h1, works44]
  cases b
  · have ok := okL_of h (h2 rfl)
    obtain ⟨x, h3, h4⟩ := Next_both (w := w) ok
    obtain ⟨y, h5⟩ := Find_ex (w := w) (id := id) ok
    rw [Find_eq ok, h3, h4, h5, Latest_eq ok, refLatest_eq ok]
    simp [gd]
  · rfl
end Go.Proofs.YtopijeegnhighaaDoor
