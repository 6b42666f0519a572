/- history.Check as a recursion; HistoryPrefixes. -/
import Derived.Test.YtmbdbdhdcbdcpaaDoorGHPHist1
import Derived.Test.YtmbdbdhdcbdcpaaDoorGHF4
namespace Go.Proofs.YtmbdbdhdcbdcpaaDoor
open Go Abs
set_option linter.unusedSimpArgs false
set_option linter.unusedVariables false
def outB (i : Nat) (e : ApiEvent) (k : HistoryChecker) : Bool := !decide (e.ID = (i : Int) + 1) || (decide (0 < i) && decide (e.Time < k.before_.Time))
/-- The error of an event, or 0. -/
noncomputable def errE (i : Nat) (e : ApiEvent) (k : HistoryChecker) : Int :=
  if eright e = false then 11 else if outB i e k then 30 else if (allowsP i e k).1 = false then 16 else 0
def nextK (i : Nat) (e : ApiEvent) (k : HistoryChecker) : HistoryChecker := ⟨(allowsP i e k).2.task_, (allowsP i e k).2.ref_, e, (stK e.Kind).2⟩
noncomputable def chk : Nat → List ApiEvent → HistoryChecker → Int
  | _, [], _ => 0
  | i, e :: l, k => if errE i e k = 0 then chk (i + 1) l (nextK i e k) else errE i e k
def zeroK : HistoryChecker := ⟨0, 0, ⟨0, 0, 0, 0, 0, 0, 0, [], [], ⟨0, 0, [], [], []⟩, ⟨[], 0, 0, 0, 0, 0, 0, 0, 0, []⟩⟩, false⟩
theorem Closes_eq (k : Int) : event_Closes k = some (stK k).2 := by unfold event_Closes; rw [event_Status_eq, Option.bind_some]
theorem Check_l1 {l : List ApiEvent} (hl : okLs 272 okApiEvent l) (i : Nat) (hi : i < l.length) (k : HistoryChecker) : history_Check_l1 l ((i : Int), k) =
    some (if errE i l[i] k = 0 then .next (((i + 1 : Nat) : Int), nextK i l[i] k) else .out (.done (errE i l[i] k))) := by
  have hn : l.length ≤ 9223372036854775807 := hl.1
  have he : okApiEvent l[i] := hl.2.2 _ (List.getElem_mem hi)
  unfold history_Check_l1
  simp only
  rw [cond_d, if_pos (by omega), idx_ok hi, Option.bind_some, event_Right_eq he, Option.bind_some, w64s hi hn, allows_eq, Option.bind_some, Closes_eq, Option.bind_some]
  have hb : (cond (!decide (l[i].ID = ((i + 1 : Nat) : Int))) true (cond (decide ((0 : Int) < (i : Int))) (decide (l[i].Time < k.before_.Time)) false)) = outB i l[i] k := by
    unfold outB
    rw [Bool.cond_true_left, Bool.cond_false_right]
    congr 2
    rw [decide_eq_decide]; omega
  rw [hb]
  unfold errE nextK
  cases eright l[i]
  · rfl
  · cases outB i l[i] k
    · cases (allowsP i l[i] k).1 <;> rfl
    · rfl
theorem Check_loop {l : List ApiEvent} (hl : okLs 272 okApiEvent l) : ∀ (suf pre : List ApiEvent) (k : HistoryChecker), l = pre ++ suf → ∃ k', loopO (history_Check_l1 l) ((pre.length : Int), k) = some (if chk pre.length suf k = 0 then .go k' else .done (chk pre.length suf k)) := by
  intro suf
  induction suf with
  | nil =>
    intro pre k e
    rw [List.append_nil] at e
    refine ⟨k, ?_⟩
    have h1 : history_Check_l1 l ((pre.length : Int), k) = some (.out (.go k)) := by
      unfold history_Check_l1
      simp only
      rw [cond_d, if_neg (by rw [← e]; omega)]
    rw [loopO_eq, h1, Option.bind_some]
    unfold chk
    rfl
  | cons x suf ih =>
    intro pre k e
    have hi : pre.length < l.length := by rw [e]; simp
    have hx : l[pre.length] = x := by simp [e]
    rw [loopO_eq, Check_l1 hl _ hi, hx]
    unfold chk
    by_cases h0 : errE pre.length x k = 0
    · obtain ⟨k', hk⟩ := ih (pre ++ [x]) (nextK pre.length x k) (by simp [e])
      rw [List.length_append, List.length_singleton] at hk
      refine ⟨k', ?_⟩
      simp only [h0, if_true, Option.bind_some]
      exact hk
    · refine ⟨k, ?_⟩
      simp only [h0, if_false, Option.bind_some]
theorem Check_eq {l : List ApiEvent} (hl : okLs 272 okApiEvent l) : history_Check l = some (if 2000 < l.length then 6 else chk 0 l zeroK) := by
  unfold history_Check
  rw [cond_d]
  by_cases h : 2000 < l.length
  · rw [if_pos (by omega), if_pos h]
  · rw [if_neg (by omega), if_neg h]
    obtain ⟨k', hk⟩ := Check_loop hl l [] zeroK rfl
    have hk : loopO (history_Check_l1 l) ((0 : Int), zeroK) = _ := hk
    unfold zeroK at hk
    rw [hk, Option.bind_some]
    split
    · rename_i h0
      rw [Fl.next]
      exact congrArg some h0.symm
    · rfl
theorem okLs_take {α : Type} {k : Nat} {ok : α → Prop} {l : List α} (h : okLs k ok l) (j : Nat) : okLs k ok (l.take j) :=
  ⟨Nat.le_trans (by rw [List.length_take]; omega) h.1, Nat.le_trans (Nat.mul_le_mul_right k (by rw [List.length_take]; omega)) h.2.1, fun x hx => h.2.2 x (List.mem_of_mem_take hx)⟩
theorem chk_take : ∀ (l : List ApiEvent) (i j : Nat) (k : HistoryChecker), chk i l k = 0 → chk i (l.take j) k = 0
  | [], _, _, _, h => by rw [List.take_nil]; exact h
  | e :: l, i, 0, k, h => rfl
  | e :: l, i, j + 1, k, h => by
    unfold chk at h
    rw [List.take_succ_cons]
    unfold chk
    by_cases h0 : errE i e k = 0
    · rw [if_pos h0] at h ⊢
      exact chk_take l (i + 1) j _ h
    · rw [if_neg h0] at h
      exact absurd h h0
theorem errE_closed {i : Nat} {e : ApiEvent} {k : HistoryChecker} (h : errE i e k = 0) : k.closed_ = false := by
  cases hc : k.closed_
  · rfl
  · exfalso
    have : (allowsP i e k).1 = false := by unfold allowsP bar1; rw [hc]; rfl
    unfold errE at h
    rw [this] at h
    revert h
    split
    · simp
    · split
      · simp
      · simp
theorem chk_closed : ∀ (l : List ApiEvent) (i : Nat) (k : HistoryChecker), chk i l k = 0 → ∀ j (hj : j + 1 < l.length), (stK l[j].Kind).2 = false
  | [], _, _, _, j, hj => by simp at hj
  | [e], _, _, _, j, hj => by simp at hj
  | e :: e' :: l, i, k, h, j, hj => by
    unfold chk at h
    by_cases h0 : errE i e k = 0
    · rw [if_pos h0] at h
      cases j with
      | zero =>
        unfold chk at h
        by_cases h1 : errE (i + 1) e' (nextK i e k) = 0
        · exact errE_closed h1
        · rw [if_neg h1] at h; exact absurd h h1
      | succ j =>
        exact chk_closed (e' :: l) (i + 1) _ h j (by simp only [List.length_cons] at hj ⊢; omega)
    · rw [if_neg h0] at h; exact absurd h h0
end Go.Proofs.YtmbdbdhdcbdcpaaDoor
