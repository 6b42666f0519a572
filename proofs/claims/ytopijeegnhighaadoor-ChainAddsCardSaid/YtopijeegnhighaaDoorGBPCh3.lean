/- ChainContinue: the plain law. -/
import Derived.Test.YtopijeegnhighaaDoorGBPCh2
import Derived.Test.YtopijeegnhighaaDoorGBF1
import Derived.Test.YtopijeegnhighaaDoorGBF3
namespace Go.Proofs.YtopijeegnhighaaDoor
open Go Abs
set_option linter.unusedSimpArgs false
set_option linter.unusedVariables false
theorem okEv_data {e : ApiEvent} (h : okApiEvent e) : okApiValue e.Data := h.2.2.2.2.2.2.2.2.2.1
theorem endE_some {r : ApiRun} {i : Nat} {e : ApiEvent} {s : Int} (h1 : r.History[i]? = some e) (h2 : statusS r.History = (s, (i : Int))) (h3 : s ≠ 0) : endE r = e := by
  unfold endE
  rw [h2]
  simp only [Int.toNat_natCast, h1, h3, if_false]
theorem Continue_both {r : ApiRun} (hl : r.History.length ≤ 9223372036854775807) (hev : ∀ e ∈ r.History, okApiEvent e) : ∃ q q' b, chain_Continue r = some (q, b) ∧ ref44xContinue r = some (q', b) ∧ okApiValue q.Data ∧ q = q' ∧ q.Commands = [] ∧ q.Token = 0 := by
  obtain ⟨e, b, g1, _⟩ := begun_ex r
  unfold chain_Continue ref44xContinue
  rw [started_eq, g1, Option.bind_some, Option.bind_some, history_Status_eq hl, refstatus_eq hl, Option.bind_some, Option.bind_some]
  have okZ : okApiValue (ApiValue.mk 0 0 [] [] []) := (okApiValue_iff _).2 (by simp [okI, okS, okLs])
  by_cases hc : (cond (!b) true (!decide ((statusS r.History).1 = 6))) = true
  · rw [hc]; exact ⟨_, _, _, rfl, rfl, okZ, rfl, rfl, rfl⟩
  · rw [Bool.not_eq_true] at hc
    rw [hc]
    have h6 : (statusS r.History).1 = 6 := by
      cases b
      · cases hc
      · simpa using hc
    rcases statusS_cases r.History with h0 | ⟨i, x, s, h1, h2, _, _⟩
    · rw [h0] at h6; cases h6
    · have hx := okEv_data (hev x (List.mem_of_getElem? h1))
      have hs : s = 6 := by rw [h2] at h6; exact h6
      rw [endE_some h1 h2 (by omega), h2]
      simp only [cond_false]
      rw [idx_nat, h1, Option.bind_some, value_Copy_eq hx, refCopy_eq hx]
      exact ⟨_, _, _, rfl, rfl, hx, rfl, rfl, rfl⟩
end Go.Proofs.YtopijeegnhighaaDoor
