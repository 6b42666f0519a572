/- ChainContinue and ChainFollow: the plain laws. -/
import Derived.Test.YtopijeegnhighaaDoorGBPCh3
import Derived.Test.YtopijeegnhighaaDoorGBF1
import Derived.Test.YtopijeegnhighaaDoorGBF3
namespace Go.Proofs.YtopijeegnhighaaDoor
open Go Abs
set_option linter.unusedSimpArgs false
set_option linter.unusedVariables false
theorem ChainContinue_pure (r : ApiRun) (h : okApiRun r) : law44xChainContinue r = some true := by
  unfold law44xChainContinue
  obtain ⟨b, h1, h2⟩ := large_ex (l := [r]) ⟨by simp, by simp, by simpa using h⟩
  rw [h1, works44]
  cases b
  · obtain ⟨q, q', b, c1, c2, hd, rfl, hc, ht⟩ := Continue_both h.2.2.2.2.1.1 h.2.2.2.2.1.2.2
    rw [c1, c2]
    simp only [Option.bind_some, cond_false]
    rw [refSame_eq hd, vsame_refl]
    simp [gd, hc, ht]
  · rfl
theorem Find_ex2 {l : List ApiRun} {w id : List UInt8} (ok : okL l) : (∃ x, chain_Find l w id = some (x, false)) ∨ ∃ (i : Nat) (r : ApiRun), chain_Find l w id = some ((i : Int), true) ∧ l[i]? = some r ∧ r.Workflow = w := by
  unfold chain_Find
  by_cases hi : id = []
  · rw [decide_eq_true hi, cond_true, Latest_eq ok, Option.bind_some]
    rcases lat_mem l w with h | ⟨i, r, h1, h2, h3, h4⟩
    · rw [h]; exact .inl ⟨_, rfl⟩
    · rw [h2, h3, decide_eq_true h4]
      exact .inr ⟨i, r, rfl, h1, ((numR_ok w r).2.2.1.1 h4).1⟩
  · rw [decide_eq_false hi, cond_false]
    have : loopO (chain_Find_l1 l id w) (0 : Int) = some (firstR (fun i (_ : ApiRun) => ((i : Int), true)) (firstF (fun r : ApiRun => decide (r.Workflow = w ∧ r.ID = id)) l 0)) := by
      refine loop_first (l := l) (fun r : ApiRun => decide (r.Workflow = w ∧ r.ID = id)) (fun i _ => ((i : Int), true)) (fun i hi => ?_) ?_
      · unfold chain_Find_l1
        rw [cond_d, if_pos (by omega), idx_ok hi, Option.bind_some, w64s hi (by have := ok.len; omega)]
        by_cases h1 : l[i].Workflow = w <;> by_cases h2 : l[i].ID = id <;> simp [h1, h2]
      · unfold chain_Find_l1
        rw [cond_d, if_neg (by omega)]
    rw [this, Option.bind_some]
    cases hf : firstF (fun r : ApiRun => decide (r.Workflow = w ∧ r.ID = id)) l 0 with
    | none => exact .inl ⟨_, rfl⟩
    | some z =>
      obtain ⟨i, r⟩ := z
      obtain ⟨_, h2, h3⟩ := firstF_some hf
      rw [decide_eq_true_eq] at h3
      exact .inr ⟨i, r, rfl, by simpa using h2, h3.1⟩
/-- The program's and the reference's chain ends at the same run. -/
theorem ends_both {l : List ApiRun} {w id : List UInt8} (ok : okL l) : (chain_last l w id = some (0, false) ∧ ref44xfollow l w id = some (0, false)) ∨ ∃ (i : Nat) (r : ApiRun), chain_last l w id = some ((i : Int), true) ∧ ref44xfollow l w id = some ((i : Int), true) ∧ l[i]? = some r ∧ r.Workflow = w := by
  unfold chain_last ref44xfollow
  rw [Find_eq ok]
  rcases Find_ex2 (w := w) (id := id) ok with ⟨x, h⟩ | ⟨i0, r0, h, h1, h2⟩
  · rw [h]; exact .inl ⟨rfl, rfl⟩
  · obtain ⟨i, r, g1, g2, g3, g4⟩ := last_both (id := id) ok h1 h2
    rw [h]
    simp only [Option.bind_some, Bool.not_true, cond_false]
    rw [g3, g4]
    exact .inr ⟨i, r, rfl, rfl, g1, g2⟩
theorem Follow_both {l : List ApiRun} {w id : List UInt8} (ok : okL l) : ∃ x, chain_Follow l w id = some x ∧ ref44xFollow l w id = some x := by
  unfold chain_Follow ref44xFollow
  rcases ends_both (w := w) (id := id) ok with ⟨h1, h2⟩ | ⟨i, r, h1, h2, h3, _⟩
  · rw [h1, h2]; exact ⟨_, rfl, rfl⟩
  · have hr := List.mem_of_getElem? h3
    rw [h1, h2]
    simp only [Option.bind_some, Bool.not_true, cond_false]
    rw [idx_nat, h3]
    simp only [Option.bind_some]
    rw [history_Status_eq (ok.his r hr), refstatus_eq (ok.his r hr)]
    exact ⟨_, rfl, rfl⟩
theorem Result_both {l : List ApiRun} {w id : List UInt8} (ok : okL l) (hev : ∀ r ∈ l, ∀ e ∈ r.History, okApiEvent e) : ∃ x, chain_Result l w id = some x ∧ ref44xResult l w id = some x ∧ okApiValue x.2.1 := by
  unfold chain_Result ref44xResult
  have okZ : okApiValue (ApiValue.mk 0 0 [] [] []) := (okApiValue_iff _).2 (by simp [okI, okS, okLs])
  rcases ends_both (w := w) (id := id) ok with ⟨h1, h2⟩ | ⟨i, r, h1, h2, h3, _⟩
  · rw [h1, h2]; exact ⟨_, rfl, rfl, okZ⟩
  · have hr := List.mem_of_getElem? h3
    rw [h1, h2]
    simp only [Option.bind_some, Bool.not_true, cond_false]
    rw [idx_nat, h3]
    simp only [Option.bind_some]
    rw [history_Status_eq (ok.his r hr), refstatus_eq (ok.his r hr)]
    simp only [Option.bind_some]
    rcases statusS_cases r.History with h0 | ⟨k, e, s, k1, k2, k3, k4⟩
    · rw [h0]; exact ⟨_, rfl, rfl, okZ⟩
    · have he := okEv_data (hev r hr e (List.mem_of_getElem? k1))
      rw [endE_some k1 k2 (by omega), k2]
      simp only
      rw [idx_nat, k1]
      simp only [Option.bind_some]
      rw [value_Copy_eq he, refCopy_eq he]
      have hs : s = 1 ∨ s = 2 ∨ s = 3 ∨ s = 4 ∨ s = 5 ∨ s = 6 := by omega
      rcases hs with rfl | rfl | rfl | rfl | rfl | rfl
      · exact ⟨_, rfl, rfl, he⟩
      · exact ⟨_, rfl, rfl, he⟩
      · exact ⟨_, rfl, rfl, he⟩
      · exact ⟨_, rfl, rfl, okZ⟩
      · exact ⟨_, rfl, rfl, okZ⟩
      · exact ⟨_, rfl, rfl, okZ⟩
theorem ChainFollow_pure (l : List ApiRun) (w id : List UInt8) (h : okLs 544 okApiRun l) : law44xChainFollow l w id = some true := by
  unfold law44xChainFollow
  obtain ⟨b, h1, h2⟩ := large_ex h
  rw [h1, works44]
  cases b
  · have ok := okL_of h (h2 rfl)
    obtain ⟨x, g1, g2⟩ := Follow_both (w := w) (id := id) ok
    obtain ⟨y, f1, f2, f3⟩ := Result_both (w := w) (id := id) ok (fun r hr => (h.2.2 r hr).2.2.2.2.1.2.2)
    rw [g1, g2, f1, f2]
    simp only [Option.bind_some, cond_false]
    rw [refSame_eq f3, vsame_refl]
    simp [gd]
  · rfl
end Go.Proofs.YtopijeegnhighaaDoor
