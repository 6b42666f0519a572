/- ChildrenReports: the plain law. -/
import Derived.Test.YtopijeegnhighaaDoorGAPKid2
import Derived.Test.YtopijeegnhighaaDoorGAF2
namespace Go.Proofs.YtopijeegnhighaaDoor
open Go Abs
set_option linter.unusedSimpArgs false
set_option linter.unusedVariables false
theorem okR_of {r : ApiRun} (h : okApiRun r) (hk : r.Pending.Kids.length ≤ 50) : okR r := by
  obtain ⟨h1, h2, h3, h4, h5, h6, _⟩ := h
  exact { hist := h5.1, evs := h5.2.2, par := h3, id := h2, wf := h1, kids := h6.2.2.2.2.2.2.2.2.2.2.2.2.1.2.2, kl := hk }
theorem okReport {r : ApiRun} {now : Int} (h : okR r) : okApiValue (reportS r now).1.Data ∧ okApiPolicy (reportS r now).1.Opts := by
  unfold reportS
  split
  · exact ⟨okV0, okP0⟩
  · split
    · exact ⟨okV0, okP0⟩
    · rename_i e he
      refine ⟨?_, okP0⟩
      show okApiValue (if _ then e.Data else V0)
      split
      · exact okData (h.evs e (List.mem_of_getElem? he))
      · exact okV0
theorem okOrph {r : ApiRun} {now : Int} {q : ApiRequest} (h : q ∈ orphansS r now) : okApiValue q.Data ∧ okApiPolicy q.Opts := by
  unfold orphansS at h
  split at h
  · obtain ⟨k, _, hk⟩ := List.mem_filterMap.1 h
    unfold orphQ at hk
    split at hk
    · cases hk
    · split at hk
      · cases hk; exact ⟨okV0, okP0⟩
      · split at hk
        · cases hk; exact ⟨okV0, okP0⟩
        · cases hk
  · cases h
theorem ChildrenReports_pure (r : ApiRun) (now : Int) (h : okApiRun r) : law45xChildrenReports r now = some true := by
  unfold law45xChildrenReports
  rw [few_iff, Option.bind_some, works45]
  by_cases hf : r.History.length ≤ 100 ∧ r.Pending.Kids.length ≤ 50 ∧ r.Pending.Sends.length ≤ 50
  · rw [decide_eq_true hf, Bool.not_true, cond_false]
    have ok := okR_of h hf.2.1
    have hr := okReport (now := now) ok
    rw [(Report_both ok).1, (Report_both ok).2, Option.bind_some, Option.bind_some, Orphans_eq ok, refOrphans_eq ok, Option.bind_some, Option.bind_some, same_refl hr.1 hr.2]
    have hlen : (orphansS r now).length ≤ 9223372036854775807 := by
      unfold orphansS
      split
      · have := List.length_filterMap_le (orphQ r now) r.Pending.Kids
        have := hf.2.1
        omega
      · simp
    have hl : loopO (law45xChildrenReports_l1 (orphansS r now) (orphansS r now)) (0 : Int) = some (.go ()) := by
      rw [loop_all (orphansS r now).length (fun _ => true) false (fun i hi => ?_) ?_]
      · simp
      · unfold law45xChildrenReports_l1
        rw [cond_d, if_neg (by omega)]
      · unfold law45xChildrenReports_l1
        have hm := okOrph (List.getElem_mem hi)
        rw [cond_d, if_pos (by omega), idx_ok hi, Option.bind_some, Option.bind_some, same_refl hm.1 hm.2, Option.bind_some, w64s hi hlen]; rfl
    rw [hl]
    simp [gd, Fl.next]
  · rw [decide_eq_false hf]; rfl
end Go.Proofs.YtopijeegnhighaaDoor
