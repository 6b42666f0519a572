/- Events: kinds and names, plainly. -/
import Derived.Test.YtmbdbdhdcbdcpaaDoorGHPStat
import Derived.Test.YtmbdbdhdcbdcpaaDoorGHPEv1
import Derived.Test.YtmbdbdhdcbdcpaaDoorGHPFew
import Derived.Test.YtmbdbdhdcbdcpaaDoorGHF3
namespace Go.Proofs.YtmbdbdhdcbdcpaaDoor
open Go Abs
set_option linter.unusedSimpArgs false
set_option linter.unusedVariables false
set_option maxRecDepth 20000

/-! ### A loop that begins at one -/
theorem loop_first1_aux {α τ : Type} {l : List α} {p : α → Bool} {d : Nat → α → τ} {body : Int → Option (Step Int (Fl τ Unit))} (h : ∀ (i : Nat) (hi : i < l.length), body ((i + 1 : Nat) : Int) = some (if p l[i] then .out (.done (d i l[i])) else .next ((i + 2 : Nat) : Int)))
    (hout : body ((l.length + 1 : Nat) : Int) = some (.out (.go ()))) : ∀ (suf pre : List α), l = pre ++ suf → loopO body ((pre.length + 1 : Nat) : Int) = some (firstR d (firstF p suf pre.length)) := by
  intro suf
  induction suf with
  | nil =>
    intro pre e
    rw [List.append_nil] at e
    rw [loopO_eq, ← e, hout]; rfl
  | cons x suf ih =>
    intro pre e
    have hi : pre.length < l.length := by rw [e]; simp
    have hx : l[pre.length] = x := by simp [e]
    rw [loopO_eq, h _ hi, hx]
    cases hp : p x
    · have := ih (pre ++ [x]) (by simp [e])
      rw [List.length_append, List.length_singleton] at this
      simp only [firstF, hp, Bool.false_eq_true, if_false, Option.bind_some]
      exact this
    · simp only [firstF, hp, if_true, Option.bind_some, firstR]
theorem loop_first1 {α τ : Type} {l : List α} (p : α → Bool) (d : Nat → α → τ) {body : Int → Option (Step Int (Fl τ Unit))} (h : ∀ (i : Nat) (hi : i < l.length), body ((i + 1 : Nat) : Int) = some (if p l[i] then .out (.done (d i l[i])) else .next ((i + 2 : Nat) : Int)))
    (hout : body ((l.length + 1 : Nat) : Int) = some (.out (.go ()))) : loopO body (1 : Int) = some (firstR d (firstF p l 0)) := loop_first1_aux h hout l [] rfl

/-! ### Kinds of commands -/
def kinds35 : List Int := [1, 2, 3, 4, 5, 6, 7, 8, 9, 10, 11, 12, 13, 14, 15, 16, 17, 18, 19, 20, 21, 22, 23, 24, 25, 26, 27, 28, 29, 30, 31, 32, 33, 34, 35]
theorem kinds_get {i : Nat} (hi : i < kinds35.length) : kinds35[i] = (i : Int) + 1 := by
  have h : i < 35 := hi
  have key : ∀ j : Fin 35, kinds35[j.1]'(j.2) = (j.1 : Int) + 1 := by decide
  exact key ⟨i, h⟩
theorem cmdOf_range (k : Int) : 0 ≤ cmdOf k ∧ cmdOf k ≤ 14 := by
  unfold cmdOf
  repeat' split
  all_goals omega
theorem IsCommand_eq (k : Int) : event_IsCommand k = some (!decide (cmdOf k = 0)) := by unfold event_IsCommand; rw [commandOf_eq, Option.bind_some]
def cmds14 : List Int := [7, 12, 14, 16, 19, 23, 18, 27, 28, 29, 30, 31, 32, 35]
def isInp (k : Int) : Bool := decide (k = 9 ∨ k = 10 ∨ k = 11 ∨ k = 13 ∨ k = 15 ∨ k = 17 ∨ k = 20 ∨ k = 21 ∨ k = 22 ∨ k = 24 ∨ k = 25 ∨ k = 26)
theorem cond_tf {b : Bool} : cond b (some true) (some false) = some b := by cases b <;> rfl
theorem inp_cmd (k : Int) : isInp k = true → cmdOf k = 0 ∧ (stK k).2 = false := by
  unfold isInp
  rw [decide_eq_true_eq]
  rintro (rfl | rfl | rfl | rfl | rfl | rfl | rfl | rfl | rfl | rfl | rfl | rfl) <;> exact ⟨rfl, rfl⟩

/-! ### Names -/
theorem idxA_ok {α : Type} {n : Nat} {l : List α} {i : Nat} (h : i < n) (hi : i < l.length) : idxA n l (i : Int) = some l[i] := by unfold idxA; rw [if_pos (by omega), idx_ok hi]
theorem name_cond {k : Int} {α : Type} {x y : α} : cond (cond (decide (k < 1)) true (decide (35 < k))) x y = if 1 ≤ k ∧ k ≤ 35 then y else x := by
  by_cases h1 : k < 1
  · have : ¬ (1 ≤ k ∧ k ≤ 35) := by omega
    simp [h1, this]
  · by_cases h2 : 35 < k
    · have : ¬ (1 ≤ k ∧ k ≤ 35) := by omega
      simp [h2, this]
    · have : 1 ≤ k ∧ k ≤ 35 := by omega
      simp [h1, h2, this]
/-! ### Equality -/
def esame (a b : ApiEvent) : Bool := decide (a.ID = b.ID) && decide (a.Kind = b.Kind) && decide (a.Time = b.Time) && decide (a.Seq = b.Seq) && decide (a.Ref = b.Ref) && decide (a.N = b.N) && decide (a.Code = b.Code) && decide (a.Name = b.Name) && decide (a.Key = b.Key) && vsame a.Data b.Data && psame a.Opts b.Opts
theorem same_tail {a b c : Bool} : ((gd (a == true) (some b)).bind fun (x1 : Bool) => (gd ((cond a x1 false) == true) (some c)).bind fun (x3 : Bool) => some (cond (cond a x1 false) x3 false)) = some (a && b && c) := by cases a <;> cases b <;> rfl
theorem esame_refl (a : ApiEvent) : esame a a = true := by unfold esame; simp [vsame_refl, psame_refl]