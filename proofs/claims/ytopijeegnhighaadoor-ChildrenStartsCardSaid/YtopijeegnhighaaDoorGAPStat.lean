/- The status of a history, plainly. -/
import Derived.Test.YtopijeegnhighaaDoorGAPLoop
import Derived.Test.YtopijeegnhighaaDoorGAF0
import Derived.Test.YtopijeegnhighaaDoorGAF2
namespace Go.Proofs.YtopijeegnhighaaDoor
open Go Abs
set_option linter.unusedSimpArgs false
set_option linter.unusedVariables false

/-! ### The first one of a kind -/
/-- The first element with a property, and where it lies. -/
def firstF {α : Type} (p : α → Bool) : List α → Nat → Option (Nat × α)
  | [], _ => none
  | x :: l, k => if p x then some (k, x) else firstF p l (k + 1)
def firstR {α τ : Type} (d : Nat → α → τ) : Option (Nat × α) → Fl τ Unit
  | some (i, x) => .done (d i x)
  | none => .go ()
theorem loop_first_aux {α τ : Type} {l : List α} {p : α → Bool} {d : Nat → α → τ} {body : Int → Option (Step Int (Fl τ Unit))} (h : ∀ (i : Nat) (hi : i < l.length), body (i : Int) = some (if p l[i] then .out (.done (d i l[i])) else .next ((i + 1 : Nat) : Int)))
    (hout : body (l.length : Int) = some (.out (.go ()))) : ∀ (suf pre : List α), l = pre ++ suf → loopO body (pre.length : Int) = some (firstR d (firstF p suf pre.length)) := by
  intro suf
  induction suf with
  | nil =>
    intro pre e
    rw [List.append_nil] at e
    rw [loopO_eq, ← e, hout]; rfl
  | cons x suf ih =>
    intro pre e
    have hi : pre.length < l.length := by rw [e]; simp
    have hx : l[pre.length] = x := by simp [e]
    rw [loopO_eq, h _ hi, hx]
    cases hp : p x
    · have := ih (pre ++ [x]) (by simp [e])
      rw [List.length_append, List.length_singleton] at this
      simp only [firstF, hp, Bool.false_eq_true, if_false, Option.bind_some]
      exact this
    · simp only [firstF, hp, if_true, Option.bind_some, firstR]
theorem loop_first {α τ : Type} {l : List α} (p : α → Bool) (d : Nat → α → τ) {body : Int → Option (Step Int (Fl τ Unit))} (h : ∀ (i : Nat) (hi : i < l.length), body (i : Int) = some (if p l[i] then .out (.done (d i l[i])) else .next ((i + 1 : Nat) : Int)))
    (hout : body (l.length : Int) = some (.out (.go ()))) : loopO body (0 : Int) = some (firstR d (firstF p l 0)) := loop_first_aux h hout l [] rfl
theorem firstF_some {α : Type} {p : α → Bool} : ∀ {l : List α} {k i : Nat} {x : α}, firstF p l k = some (i, x) → k ≤ i ∧ l[i - k]? = some x ∧ p x = true
  | [], _, _, _, h => by cases h
  | y :: l, k, i, x, h => by
    unfold firstF at h
    split at h
    · rename_i hp
      cases h
      exact ⟨Nat.le_refl _, by simp, hp⟩
    · obtain ⟨h1, h2, h3⟩ := firstF_some h
      refine ⟨by omega, ?_, h3⟩
      rw [show i - k = (i - (k + 1)) + 1 by omega, List.getElem?_cons_succ]
      exact h2

/-! ### Status -/
def stK (k : Int) : Int × Bool := if k = 30 then (1, true) else if k = 31 then (2, true) else if k = 32 then (3, true) else if k = 33 then (4, true) else if k = 34 then (5, true) else if k = 35 then (6, true) else (0, false)
theorem event_Status_eq (k : Int) : event_Status k = some (stK k) := by
  unfold event_Status stK
  repeat rw [cond_d]
  repeat' split
  all_goals rfl
def statusS (l : List ApiEvent) : Int × Int := match firstF (fun e : ApiEvent => (stK e.Kind).2) l 0 with | some (i, e) => ((stK e.Kind).1, (i : Int)) | none => (0, -1)
theorem history_Status_eq {l : List ApiEvent} (h : l.length ≤ 9223372036854775807) : history_Status l = some (statusS l) := by
  unfold history_Status statusS
  rw [loop_first (l := l) (fun e : ApiEvent => (stK e.Kind).2) (fun i e => ((stK e.Kind).1, (i : Int))) (fun i hi => ?_) ?_, Option.bind_some]
  · cases firstF (fun e : ApiEvent => (stK e.Kind).2) l 0 with
    | none => rfl
    | some x => rfl
  · unfold history_Status_l1
    rw [cond_d, if_neg (by omega)]
  · unfold history_Status_l1
    rw [cond_d, if_pos (by omega), idx_ok hi, Option.bind_some, event_Status_eq, Option.bind_some, w64s hi h]
    cases (stK l[i].Kind).2 <;> rfl
theorem ref24Status_eq : ref24xStatus = history_Status := by
  funext l
  have : ref24xStatus_l1 l = history_Status_l1 l := by funext s; rfl
  unfold ref24xStatus history_Status
  rw [this]
theorem statusS_cases (l : List ApiEvent) : (statusS l = (0, -1)) ∨ ∃ (i : Nat) (e : ApiEvent) (s : Int), l[i]? = some e ∧ statusS l = (s, (i : Int)) ∧ 1 ≤ s ∧ s ≤ 6 := by
  unfold statusS
  cases h : firstF (fun e : ApiEvent => (stK e.Kind).2) l 0 with
  | none => exact .inl rfl
  | some x =>
    obtain ⟨i, e⟩ := x
    obtain ⟨_, h2, h3⟩ := firstF_some h
    refine .inr ⟨i, e, (stK e.Kind).1, h2, rfl, ?_⟩
    revert h3
    unfold stK
    repeat' split
    all_goals simp
end Go.Proofs.YtopijeegnhighaaDoor
