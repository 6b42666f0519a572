/- Events: kinds and names, plainly. -/
import Derived.Test.YtngcjjhbimanlaaGreatDoorGCPStat
import Derived.Test.YtngcjjhbimanlaaGreatDoorGCPEv1
import Derived.Test.YtngcjjhbimanlaaGreatDoorGCPFew
import Derived.Test.YtngcjjhbimanlaaGreatDoorGCF2
import Derived.Test.YtngcjjhbimanlaaGreatDoorGCF6
namespace Go.Proofs.YtngcjjhbimanlaaGreatDoor
open Go Abs
set_option linter.unusedSimpArgs false
set_option linter.unusedVariables false
set_option maxRecDepth 20000

/-! ### A loop that begins at one -/
theorem loop_first1_aux {α τ : Type} {l : List α} {p : α → Bool} {d : Nat → α → τ} {body : Int → Option (Step Int (Fl τ Unit))} (h : ∀ (i : Nat) (hi : i < l.length), body ((i + 1 : Nat) : Int) = some (if p l[i] then .out (.done (d i l[i])) else .next ((i + 2 : Nat) : Int)))
    (hout : body ((l.length + 1 : Nat) : Int) = some (.out (.go ()))) : ∀ (suf pre : List α), l = pre ++ suf → loopO body ((pre.length + 1 : Nat) : Int) = some (firstR d (firstF p suf pre.length)) := by
  intro suf
  induction suf with
  | nil =>
    intro pre e
    rw [List.append_nil] at e
    rw [loopO_eq, ← e, hout]; rfl
  | cons x suf ih =>
    intro pre e
    have hi : pre.length < l.length := by rw [e]; simp
    have hx : l[pre.length] = x := by simp [e]
    rw [loopO_eq, h _ hi, hx]
    cases hp : p x
    · have := ih (pre ++ [x]) (by simp [e])
      rw [List.length_append, List.length_singleton] at this
      simp only [firstF, hp, Bool.false_eq_true, if_false, Option.bind_some]
      exact this
    · simp only [firstF, hp, if_true, Option.bind_some, firstR]
theorem loop_first1 {α τ : Type} {l : List α} (p : α → Bool) (d : Nat → α → τ) {body : Int → Option (Step Int (Fl τ Unit))} (h : ∀ (i : Nat) (hi : i < l.length), body ((i + 1 : Nat) : Int) = some (if p l[i] then .out (.done (d i l[i])) else .next ((i + 2 : Nat) : Int)))
    (hout : body ((l.length + 1 : Nat) : Int) = some (.out (.go ()))) : loopO body (1 : Int) = some (firstR d (firstF p l 0)) := loop_first1_aux h hout l [] rfl

/-! ### Kinds of commands -/
def kinds35 : List Int := [1, 2, 3, 4, 5, 6, 7, 8, 9, 10, 11, 12, 13, 14, 15, 16, 17, 18, 19, 20, 21, 22, 23, 24, 25, 26, 27, 28, 29, 30, 31, 32, 33, 34, 35]
theorem kinds_get {i : Nat} (hi : i < kinds35.length) : kinds35[i] = (i : Int) + 1 := by
  have h : i < 35 := hi
  have key : ∀ j : Fin 35, kinds35[j.1]'(j.2) = (j.1 : Int) + 1 := by decide
  exact key ⟨i, h⟩
theorem eventOf_eq (k : Int) : event_eventOf k = some (match firstF (fun x => decide (cmdOf x ≠ 0 ∧ cmdOf x = k)) kinds35 0 with | some (i, x) => x | none => 0) := by
  unfold event_eventOf
  rw [loop_first1 (l := kinds35) (fun x => decide (cmdOf x ≠ 0 ∧ cmdOf x = k)) (fun _ x => x) (fun i hi => ?_) ?_, Option.bind_some]
  · cases firstF (fun x => decide (cmdOf x ≠ 0 ∧ cmdOf x = k)) kinds35 0 with
    | none => rfl
    | some x => rfl
  · unfold event_eventOf_l1
    rfl
  · have h : i < 35 := hi
    unfold event_eventOf_l1
    rw [kinds_get hi, cond_d, if_pos (by omega), commandOf_eq, Option.bind_some, show ((i + 1 : Nat) : Int) = (i : Int) + 1 by omega]
    have e : (cond (!decide (cmdOf ((i : Int) + 1) = 0)) (decide (cmdOf ((i : Int) + 1) = k)) false) = decide (cmdOf ((i : Int) + 1) ≠ 0 ∧ cmdOf ((i : Int) + 1) = k) := by
      by_cases h1 : cmdOf ((i : Int) + 1) = 0 <;> simp [h1]
    rw [e, cond_d, w64 (x := (i : Int) + 1 + 1) (by omega) (by omega)]
    simp only [decide_eq_true_eq]
    split
    · rfl
    · show some (Step.next ((i : Int) + 1 + 1)) = some (Step.next ((i + 2 : Nat) : Int))
      rw [show ((i + 2 : Nat) : Int) = (i : Int) + 1 + 1 by omega]
theorem eventOf_14 {k : Int} (h1 : 1 ≤ k) (h2 : k ≤ 14) : ∃ e, event_eventOf k = some e ∧ 1 ≤ e ∧ e ≤ 35 ∧ cmdOf e = k ∧ ((e = 12 ∨ e = 16) ↔ (k = 2 ∨ k = 4)) := by
  have h : k = 1 ∨ k = 2 ∨ k = 3 ∨ k = 4 ∨ k = 5 ∨ k = 6 ∨ k = 7 ∨ k = 8 ∨ k = 9 ∨ k = 10 ∨ k = 11 ∨ k = 12 ∨ k = 13 ∨ k = 14 := by omega
  rcases h with rfl | rfl | rfl | rfl | rfl | rfl | rfl | rfl | rfl | rfl | rfl | rfl | rfl | rfl
  · exact ⟨7, by rw [eventOf_eq]; rfl, by omega, by omega, rfl, by omega⟩
  · exact ⟨12, by rw [eventOf_eq]; rfl, by omega, by omega, rfl, by omega⟩
  · exact ⟨14, by rw [eventOf_eq]; rfl, by omega, by omega, rfl, by omega⟩
  · exact ⟨16, by rw [eventOf_eq]; rfl, by omega, by omega, rfl, by omega⟩
  · exact ⟨19, by rw [eventOf_eq]; rfl, by omega, by omega, rfl, by omega⟩
  · exact ⟨23, by rw [eventOf_eq]; rfl, by omega, by omega, rfl, by omega⟩
  · exact ⟨18, by rw [eventOf_eq]; rfl, by omega, by omega, rfl, by omega⟩
  · exact ⟨27, by rw [eventOf_eq]; rfl, by omega, by omega, rfl, by omega⟩
  · exact ⟨28, by rw [eventOf_eq]; rfl, by omega, by omega, rfl, by omega⟩
  · exact ⟨29, by rw [eventOf_eq]; rfl, by omega, by omega, rfl, by omega⟩
  · exact ⟨30, by rw [eventOf_eq]; rfl, by omega, by omega, rfl, by omega⟩
  · exact ⟨31, by rw [eventOf_eq]; rfl, by omega, by omega, rfl, by omega⟩
  · exact ⟨32, by rw [eventOf_eq]; rfl, by omega, by omega, rfl, by omega⟩
  · exact ⟨35, by rw [eventOf_eq]; rfl, by omega, by omega, rfl, by omega⟩
theorem cmdOf_range (k : Int) : 0 ≤ cmdOf k ∧ cmdOf k ≤ 14 := by
  unfold cmdOf
  repeat' split
  all_goals omega
theorem IsCommand_eq (k : Int) : event_IsCommand k = some (!decide (cmdOf k = 0)) := by unfold event_IsCommand; rw [commandOf_eq, Option.bind_some]
def cmds14 : List Int := [7, 12, 14, 16, 19, 23, 18, 27, 28, 29, 30, 31, 32, 35]
theorem refcommand_eq (k : Int) : ref22xcommand k = some (cmdOf k) := by
  unfold ref22xcommand
  rw [show ref22xcommands = some cmds14 from rfl, Option.bind_some]
  rw [loop_first (l := cmds14) (fun x => decide (x = k)) (fun i _ => (i : Int) + 1) (fun i hi => ?_) ?_, Option.bind_some]
  · unfold cmdOf
    by_cases h7 : k = 7
    · subst h7; rfl
    by_cases h12 : k = 12
    · subst h12; rfl
    by_cases h14 : k = 14
    · subst h14; rfl
    by_cases h16 : k = 16
    · subst h16; rfl
    by_cases h19 : k = 19
    · subst h19; rfl
    by_cases h23 : k = 23
    · subst h23; rfl
    by_cases h18 : k = 18
    · subst h18; rfl
    by_cases h27 : k = 27
    · subst h27; rfl
    by_cases h28 : k = 28
    · subst h28; rfl
    by_cases h29 : k = 29
    · subst h29; rfl
    by_cases h30 : k = 30
    · subst h30; rfl
    by_cases h31 : k = 31
    · subst h31; rfl
    by_cases h32 : k = 32
    · subst h32; rfl
    by_cases h35 : k = 35
    · subst h35; rfl
    simp [cmds14, firstF, firstR, Fl.next, h7, h12, h14, h16, h19, h23, h18, h27, h28, h29, h30, h31, h32, h35, Ne.symm h7, Ne.symm h12, Ne.symm h14, Ne.symm h16, Ne.symm h19, Ne.symm h23, Ne.symm h18, Ne.symm h27, Ne.symm h28, Ne.symm h29, Ne.symm h30, Ne.symm h31, Ne.symm h32, Ne.symm h35]
  · unfold ref22xcommand_l1
    rw [cond_d, if_neg (by omega)]
  · have h : i < 14 := hi
    unfold ref22xcommand_l1
    rw [cond_d, if_pos (by omega), idx_ok hi, Option.bind_some, w64s hi (by show (14 : Nat) ≤ _; omega)]
    simp only [decide_eq_true_eq, cond_d]
    split <;> rfl
theorem refIsCommand_eq (k : Int) : ref22xIsCommand k = some (!decide (cmdOf k = 0)) := by
  unfold ref22xIsCommand
  rw [refcommand_eq, Option.bind_some]
  have := (cmdOf_range k).1
  by_cases h : cmdOf k = 0
  · rw [h]; rfl
  · have h2 : 0 < cmdOf k := by omega
    simp [h, h2]
def isInp (k : Int) : Bool := decide (k = 9 ∨ k = 10 ∨ k = 11 ∨ k = 13 ∨ k = 15 ∨ k = 17 ∨ k = 20 ∨ k = 21 ∨ k = 22 ∨ k = 24 ∨ k = 25 ∨ k = 26)
theorem cond_tf {b : Bool} : cond b (some true) (some false) = some b := by cases b <;> rfl
theorem inp_cmd (k : Int) : isInp k = true → cmdOf k = 0 ∧ (stK k).2 = false := by
  unfold isInp
  rw [decide_eq_true_eq]
  rintro (rfl | rfl | rfl | rfl | rfl | rfl | rfl | rfl | rfl | rfl | rfl | rfl) <;> exact ⟨rfl, rfl⟩

/-! ### Names -/
noncomputable def names35 : List (List UInt8) := event_names.getD []
theorem names_eq : event_names = some names35 := rfl
theorem names_len : names35.length = 35 := rfl
theorem idxA_ok {α : Type} {n : Nat} {l : List α} {i : Nat} (h : i < n) (hi : i < l.length) : idxA n l (i : Int) = some l[i] := by unfold idxA; rw [if_pos (by omega), idx_ok hi]
noncomputable def byN (name : List UInt8) : Int × Bool := match firstF (fun x => decide (x = name)) names35 0 with | some (i, _) => ((i : Int) + 1, true) | none => (0, false)
theorem ByName_eq (name : List UInt8) : event_ByName name = some (byN name) := by
  unfold event_ByName byN
  rw [names_eq, Option.bind_some, loop_first (l := names35) (fun x => decide (x = name)) (fun i _ => ((i : Int) + 1, true)) (fun i hi => ?_) ?_, Option.bind_some]
  · cases firstF (fun x => decide (x = name)) names35 0 with
    | none => rfl
    | some z => rfl
  · unfold event_ByName_l1
    rw [names_len, cond_d, if_neg (by omega)]
  · have h : i < 35 := by rw [← names_len]; exact hi
    unfold event_ByName_l1
    rw [cond_d, if_pos (by omega), idxA_ok h hi, Option.bind_some, w64s hi (by rw [names_len]; omega)]
    simp only [decide_eq_true_eq, cond_d]
    split <;> rfl
noncomputable def nameOf (k : Int) : List UInt8 := if 1 ≤ k ∧ k ≤ 35 then names35.getD (k - 1).toNat [] else []
theorem name_cond {k : Int} {α : Type} {x y : α} : cond (cond (decide (k < 1)) true (decide (35 < k))) x y = if 1 ≤ k ∧ k ≤ 35 then y else x := by
  by_cases h1 : k < 1
  · have : ¬ (1 ≤ k ∧ k ≤ 35) := by omega
    simp [h1, this]
  · by_cases h2 : 35 < k
    · have : ¬ (1 ≤ k ∧ k ≤ 35) := by omega
      simp [h2, this]
    · have : 1 ≤ k ∧ k ≤ 35 := by omega
      simp [h1, h2, this]
theorem Name_eq (k : Int) : event_Name k = some (nameOf k) := by
  unfold event_Name nameOf
  rw [name_cond]
  split
  · rename_i h
    obtain ⟨i, rfl⟩ : ∃ i : Nat, k = (i : Int) + 1 := ⟨(k - 1).toNat, by omega⟩
    have hi : i < names35.length := by rw [names_len]; omega
    rw [names_eq, Option.bind_some, w64 (by omega) (by omega), show (i : Int) + 1 - 1 = (i : Int) by omega, idxA_ok (by omega) hi, Option.bind_some, Int.toNat_natCast, List.getD_eq_getElem?_getD, List.getElem?_eq_getElem hi]; rfl
  · rfl
theorem byN_all : ∀ i : Fin 35, byN (names35.getD i.1 []) = ((i.1 : Int) + 1, true) := by decide +kernel
theorem byN_nil : byN [] = (0, false) := by decide +kernel
theorem byN_name (k : Int) : byN (nameOf k) = if 1 ≤ k ∧ k ≤ 35 then (k, true) else (0, false) := by
  unfold nameOf
  split
  · rename_i h
    have := byN_all ⟨(k - 1).toNat, by omega⟩
    simp only at this
    rw [this]
    congr 1
    omega
  · exact byN_nil

/-! ### Equality -/
def esame (a b : ApiEvent) : Bool := decide (a.ID = b.ID) && decide (a.Kind = b.Kind) && decide (a.Time = b.Time) && decide (a.Seq = b.Seq) && decide (a.Ref = b.Ref) && decide (a.N = b.N) && decide (a.Code = b.Code) && decide (a.Name = b.Name) && decide (a.Key = b.Key) && vsame a.Data b.Data && psame a.Opts b.Opts
theorem same_tail {a b c : Bool} : ((gd (a == true) (some b)).bind fun (x1 : Bool) => (gd ((cond a x1 false) == true) (some c)).bind fun (x3 : Bool) => some (cond (cond a x1 false) x3 false)) = some (a && b && c) := by cases a <;> cases b <;> rfl
theorem refSame22_eq {a b : ApiEvent} (h : okApiEvent a) : ref22xSame a b = some (esame a b) := by
  have hd : okApiValue a.Data := h.2.2.2.2.2.2.2.2.2.1
  have ho : okApiPolicy a.Opts := h.2.2.2.2.2.2.2.2.2.2
  unfold ref22xSame esame
  rw [refSame_eq hd, refSamePolicy_eq ho, same_tail]
  simp only [Bool.cond_false_right]
theorem esame_refl (a : ApiEvent) : esame a a = true := by unfold esame; simp [vsame_refl, psame_refl]
theorem Small22_ex {e : ApiEvent} (h : okApiEvent e) : ∃ b, law22xSmall e = some b := by
  have hd : okApiValue e.Data := h.2.2.2.2.2.2.2.2.2.1
  have hf : e.Opts.Fatal.length ≤ 9223372036854775807 := h.2.2.2.2.2.2.2.2.2.2.2.2.2.2.2.2.2.2.2.1
  unfold law22xSmall
  rw [Few3_eq hd, Option.bind_some, loop_wf (l := e.Opts.Fatal) (f := fun a x => IntKind.i64.wrap (IntKind.i64.wrap (a - 1) - (List.length x : Int))) (fun a i hi ha => ?_) (fun a i hh => ?_), Option.bind_some]
  · exact ⟨_, rfl⟩
  · unfold law22xSmall_l1
    simp only
    rw [wf_cond, if_pos ⟨by omega, ha⟩, idx_ok hi, Option.bind_some, w64s hi hf]
  · unfold law22xSmall_l1
    simp only
    rw [wf_cond, if_neg (fun h => hh ⟨by omega, h.2⟩)]
end Go.Proofs.YtngcjjhbimanlaaGreatDoor
