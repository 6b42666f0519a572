/- ChildrenSends: the plain law. -/
import Derived.Test.YtopijeegnhighaaDoorGAPKid3

namespace Go.Proofs.YtopijeegnhighaaDoor
open Go Abs
set_option linter.unusedSimpArgs false
set_option linter.unusedVariables false
def K0 : ApiSend := ApiSend.mk 0 0 [] []
def E0 : ApiEvent := ApiEvent.mk 0 0 0 0 0 0 0 [] [] V0 P0
def sendS (l : List ApiSend) (n : Int) : ApiSend × Bool := match firstF (fun k : ApiSend => decide (k.Seq = n)) l 0 with | some (_, k) => (k, true) | none => (K0, false)
theorem opened_ex {r : ApiRun} {id kind : Int} (h : r.History.length ≤ 100) : ∃ e b, children_opened r id kind = some (e, b) ∧ (b = true → e ∈ r.History) := by
  unfold children_opened
  by_cases hc : (cond (decide (id < (1 : Int))) true (decide ((r.History.length : Int) < id))) = true
  · rw [hc]
    exact ⟨_, _, rfl, fun hh => by cases hh⟩
  · rw [Bool.not_eq_true] at hc
    have h1 : 1 ≤ id := Decidable.byContradiction fun hh => by
      have : id < 1 := by omega
      simp [this] at hc
    have h2 : id ≤ r.History.length := Decidable.byContradiction fun hh => by
      have : (r.History.length : Int) < id := by omega
      simp [this] at hc
    obtain ⟨k, rfl⟩ : ∃ k : Nat, id = ((k + 1 : Nat) : Int) := ⟨(id - 1).toNat, by omega⟩
    have hk : k < r.History.length := by omega
    rw [hc, show ((k + 1 : Nat) : Int) - 1 = (k : Int) by omega, w64 (by omega) (by omega), idx_ok hk]
    simp only [gd, beq_self_eq_true, if_true, Option.bind_some, cond_false]
    by_cases h3 : r.History[k].Kind = kind
    · exact ⟨r.History[k], true, by simp [h3], fun _ => List.getElem_mem hk⟩
    · exact ⟨E0, false, by simp [h3, E0, V0, P0], fun hh => by cases hh⟩
theorem opening_eq : ref45xopening = children_opened := by funext r i k; rfl