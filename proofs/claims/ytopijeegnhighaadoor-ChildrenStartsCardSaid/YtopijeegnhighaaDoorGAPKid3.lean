/- ChildrenReports: the plain law. -/
import Derived.Test.YtopijeegnhighaaDoorGAPKid2

namespace Go.Proofs.YtopijeegnhighaaDoor
open Go Abs
set_option linter.unusedSimpArgs false
set_option linter.unusedVariables false
theorem okR_of {r : ApiRun} (h : okApiRun r) (hk : r.Pending.Kids.length ≤ 50) : okR r := by
  obtain ⟨h1, h2, h3, h4, h5, h6, _⟩ := h
  exact { hist := h5.1, evs := h5.2.2, par := h3, id := h2, wf := h1, kids := h6.2.2.2.2.2.2.2.2.2.2.2.2.1.2.2, kl := hk }
theorem okReport {r : ApiRun} {now : Int} (h : okR r) : okApiValue (reportS r now).1.Data ∧ okApiPolicy (reportS r now).1.Opts := by
  unfold reportS
  split
  · exact ⟨okV0, okP0⟩
  · split
    · exact ⟨okV0, okP0⟩
    · rename_i e he
      refine ⟨?_, okP0⟩
      show okApiValue (if _ then e.Data else V0)
      split
      · exact okData (h.evs e (List.mem_of_getElem? he))
      · exact okV0
theorem okOrph {r : ApiRun} {now : Int} {q : ApiRequest} (h : q ∈ orphansS r now) : okApiValue q.Data ∧ okApiPolicy q.Opts := by
  unfold orphansS at h
  split at h
  · obtain ⟨k, _, hk⟩ := List.mem_filterMap.1 h
    unfold orphQ at hk
    split at hk
    · cases hk
    · split at hk
      · cases hk; exact ⟨okV0, okP0⟩
      · split at hk
        · cases hk; exact ⟨okV0, okP0⟩
        · cases hk
  · cases h