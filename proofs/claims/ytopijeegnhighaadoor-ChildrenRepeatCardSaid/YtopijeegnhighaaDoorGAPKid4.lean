/- ChildrenSends: the plain law. -/
import Derived.Test.YtopijeegnhighaaDoorGAPKid3
import Derived.Test.YtopijeegnhighaaDoorGAF2
import Derived.Test.YtopijeegnhighaaDoorGAF3
import Derived.Test.YtopijeegnhighaaDoorGAF4
namespace Go.Proofs.YtopijeegnhighaaDoor
open Go Abs
set_option linter.unusedSimpArgs false
set_option linter.unusedVariables false
def K0 : ApiSend := ApiSend.mk 0 0 [] []
def E0 : ApiEvent := ApiEvent.mk 0 0 0 0 0 0 0 [] [] V0 P0
def sendS (l : List ApiSend) (n : Int) : ApiSend × Bool := match firstF (fun k : ApiSend => decide (k.Seq = n)) l 0 with | some (_, k) => (k, true) | none => (K0, false)
theorem Send_eq {p : ApiPending} {n : Int} (h : p.Sends.length ≤ 50) : pending_Send p n = some (sendS p.Sends n) := by
  unfold pending_Send pending_pick_api_Send_pending_Send_1 pending_find_api_Send_pending_Send_1 sendS
  rw [loop_first (l := p.Sends) (fun k : ApiSend => decide (k.Seq = n)) (fun i _ => (i : Int)) (fun i hi => ?_) ?_, Option.bind_some]
  · cases hf : firstF (fun k : ApiSend => decide (k.Seq = n)) p.Sends 0 with
    | none => rfl
    | some x =>
      obtain ⟨i, k⟩ := x
      obtain ⟨_, h2, _⟩ := firstF_some hf
      simp only [firstR, Fl.next, Option.bind_some]
      rw [cond_d, if_pos (by omega), idx_nat]
      rw [Nat.sub_zero] at h2
      rw [h2]; rfl
  · unfold pending_find_api_Send_pending_Send_1_l1
    rw [cond_d, if_neg (by omega)]
  · unfold pending_find_api_Send_pending_Send_1_l1 pending_Send_1
    rw [cond_d, if_pos (by omega), idx_ok hi, Option.bind_some, Option.bind_some, w64s hi (by omega)]
    cases decide (p.Sends[i].Seq = n) <;> rfl
theorem refSend_eq {p : ApiPending} {n : Int} (h : p.Sends.length ≤ 50) : ref25xSend p n = some (sendS p.Sends n) := by
  unfold ref25xSend sendS
  rw [loop_first (l := p.Sends) (fun k : ApiSend => decide (k.Seq = n)) (fun _ k => (k, true)) (fun i hi => ?_) ?_, Option.bind_some]
  · cases hf : firstF (fun k : ApiSend => decide (k.Seq = n)) p.Sends 0 with
    | none => rfl
    | some x => rfl
  · unfold ref25xSend_l1
    rw [cond_d, if_neg (by omega)]
  · unfold ref25xSend_l1
    rw [cond_d, if_pos (by omega), idx_ok hi, Option.bind_some, Option.bind_some, w64s hi (by omega)]
    cases decide (p.Sends[i].Seq = n) <;> rfl
theorem opened_ex {r : ApiRun} {id kind : Int} (h : r.History.length ≤ 100) : ∃ e b, children_opened r id kind = some (e, b) ∧ (b = true → e ∈ r.History) := by
  unfold children_opened
  by_cases hc : (cond (decide (id < (1 : Int))) true (decide ((r.History.length : Int) < id))) = true
  · rw [hc]
    exact ⟨_, _, rfl, fun hh => by cases hh⟩
  · rw [Bool.not_eq_true] at hc
    have h1 : 1 ≤ id := Decidable.byContradiction fun hh => by
      have : id < 1 := by omega
      simp [this] at hc
    have h2 : id ≤ r.History.length := Decidable.byContradiction fun hh => by
      have : (r.History.length : Int) < id := by omega
      simp [this] at hc
    obtain ⟨k, rfl⟩ : ∃ k : Nat, id = ((k + 1 : Nat) : Int) := ⟨(id - 1).toNat, by omega⟩
    have hk : k < r.History.length := by omega
    rw [hc, show ((k + 1 : Nat) : Int) - 1 = (k : Int) by omega, w64 (by omega) (by omega), idx_ok hk]
    simp only [gd, beq_self_eq_true, if_true, Option.bind_some, cond_false]
    by_cases h3 : r.History[k].Kind = kind
    · exact ⟨r.History[k], true, by simp [h3], fun _ => List.getElem_mem hk⟩
    · exact ⟨E0, false, by simp [h3, E0, V0, P0], fun hh => by cases hh⟩
theorem opening_eq : ref45xopening = children_opened := by funext r i k; rfl
theorem sendOf_both {r : ApiRun} {t : ApiTask} (h : r.History.length ≤ 100) (hs : r.Pending.Sends.length ≤ 50) : ∃ k e b, children_sendOf r t = some (k, e, b) ∧ ref45xsend r t = some (k, e, b) ∧ (b = true → e ∈ r.History) := by
  unfold children_sendOf ref45xsend
  rw [Send_eq hs, refSend_eq hs, opening_eq, Option.bind_some]
  by_cases hc : (cond (!(sendS r.Pending.Sends t.Seq).2) true (!decide (t.Kind = (4 : Int)))) = true
  · rw [hc]
    exact ⟨_, _, _, rfl, rfl, fun hh => by cases hh⟩
  · rw [Bool.not_eq_true] at hc
    rw [hc]
    obtain ⟨e, b, h1, h2⟩ := opened_ex (r := r) (id := (sendS r.Pending.Sends t.Seq).1.Event) (kind := 23) h
    rw [h1]
    exact ⟨_, _, _, rfl, rfl, h2⟩
theorem Signal_both {r : ApiRun} {t : ApiTask} {now : Int} (ok : okR r) (h : r.History.length ≤ 100) (hs : r.Pending.Sends.length ≤ 50) (ht : okI t.Seq) : ∃ q b, children_Signal r t now = some (q, b) ∧ ref45xSignal r t now = some (q, b) ∧ okApiValue q.Data ∧ okApiPolicy q.Opts := by
  obtain ⟨k, e, b, h1, h2, h3⟩ := sendOf_both (t := t) h hs
  unfold children_Signal ref45xSignal
  rw [h1, h2, Option.bind_some, Option.bind_some]
  cases b
  · exact ⟨_, _, rfl, rfl, okV0, okP0⟩
  · have he := ok.evs e (h3 rfl)
    simp only [Bool.not_true, cond_false]
    rw [identifier_eq ok.id ok.wf ht, refIdentifier_eq ok.id ok.wf ht, Option.bind_some, Option.bind_some, value_Copy_eq (okData he), Option.bind_some]
    exact ⟨_, _, rfl, rfl, okData he, okP0⟩
theorem Sent_both {r : ApiRun} {t : ApiTask} {a : ApiReply} {now : Int} (h : r.History.length ≤ 100) (hs : r.Pending.Sends.length ≤ 50) : ∃ q b, children_Sent r t a now = some (q, b) ∧ ref45xSent r t a now = some (q, b) ∧ okApiValue q.Data ∧ okApiPolicy q.Opts := by
  obtain ⟨k, e, b, h1, h2, h3⟩ := sendOf_both (t := t) h hs
  unfold children_Sent ref45xSent
  rw [h1, h2, Option.bind_some]
  cases b
  · exact ⟨_, _, rfl, rfl, okV0, okP0⟩
  · simp only [Bool.not_true, cond_false]
    by_cases e1 : a.Err = 0
    · simp only [e1, decide_true, cond_true, Option.bind_some]; exact ⟨_, _, rfl, rfl, okV0, okP0⟩
    · by_cases e2 : a.Err = 15
      · simp only [e2, show ¬ (15 : Int) = 0 by decide, decide_false, cond_false, decide_true, cond_true, Option.bind_some]; exact ⟨_, _, rfl, rfl, okV0, okP0⟩
      · by_cases e3 : a.Err = 17
        · simp only [e3, show ¬ (17 : Int) = 0 by decide, show ¬ (17 : Int) = 15 by decide, decide_false, cond_false, decide_true, cond_true, Option.bind_some]; exact ⟨_, _, rfl, rfl, okV0, okP0⟩
        · simp only [e1, e2, e3, decide_false, cond_false, Option.bind_some]; exact ⟨_, _, rfl, rfl, okV0, okP0⟩
theorem ChildrenSends_pure (r : ApiRun) (t : ApiTask) (a : ApiReply) (h : okApiRun r) (ht : okApiTask t) : law45xChildrenSends r t a = some true := by
  unfold law45xChildrenSends
  rw [few_iff, Option.bind_some, works45]
  by_cases hf : r.History.length ≤ 100 ∧ r.Pending.Kids.length ≤ 50 ∧ r.Pending.Sends.length ≤ 50
  · rw [decide_eq_true hf, Bool.not_true, cond_false]
    have ok := okR_of h hf.2.1
    have hts : okI t.Seq := by unfold okApiTask at ht; simp only [ht, and_self]
    obtain ⟨q, b, h1, h2, h3, h4⟩ := Signal_both (t := t) (now := t.Due) ok hf.1 hf.2.2 hts
    obtain ⟨q', b', g1, g2, g3, g4⟩ := Sent_both (r := r) (t := t) (a := a) (now := t.Due) hf.1 hf.2.2
    rw [h1, h2, g1, g2]
    simp only [Option.bind_some]
    rw [same_refl h3 h4, same_refl g3 g4]
    simp [gd]
  · rw [decide_eq_false hf]; rfl
end Go.Proofs.YtopijeegnhighaaDoor
