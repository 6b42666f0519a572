/- Values of few nodes and bytes, counted as the statements of several layers count. -/
import Derived.Test.YtmbdbdhdcbdcpaaDoorGHPVal1

namespace Go.Proofs.YtmbdbdhdcbdcpaaDoor
open Go Abs
set_option linter.unusedSimpArgs false
set_option linter.unusedVariables false

/-- A count down along a list that ends below zero. -/
def wf {α : Type} (f : Int → α → Int) : List α → Int → Int
  | [], a => a
  | x :: l, a => if 0 ≤ a then wf f l (f a x) else a
theorem loop_wf {α : Type} {l : List α} {f : Int → α → Int} {body : Int × Int → Option (Step (Int × Int) Int)} (h : ∀ (a : Int) (i : Nat) (hi : i < l.length), 0 ≤ a → body (a, (i : Int)) = some (.next (f a l[i], ((i + 1 : Nat) : Int))))
    (h2 : ∀ (a : Int) (i : Nat), ¬ (i < l.length ∧ 0 ≤ a) → body (a, (i : Int)) = some (.out a)) (a0 : Int) : loopO body (a0, (0 : Int)) = some (wf f l a0) := by
  refine loop_to (fun s => ∃ i : Nat, s.2 = (i : Int) ∧ i ≤ l.length ∧ wf f (l.drop i) s.1 = wf f l a0) (fun s => l.length - s.2.toNat) (fun _ => wf f l a0) ?_ _ ⟨0, rfl, by omega, by simp⟩
  rintro ⟨a, i0⟩ ⟨i, hi0, hi, he⟩
  simp only at hi0 he
  subst hi0
  by_cases hlt : i < l.length
  · rw [List.drop_eq_getElem_cons hlt, wf] at he
    by_cases ha : 0 ≤ a
    · rw [if_pos ha] at he
      exact .inl ⟨_, h a i hlt ha, ⟨i + 1, rfl, hlt, he⟩, by simp; omega, rfl⟩
    · rw [if_neg ha] at he
      rw [h2 a i (fun hh => ha hh.2), he]
      exact .inr rfl
  · rw [List.drop_eq_nil_of_le (by omega), wf] at he
    rw [h2 a i (fun hh => hlt hh.1), he]
    exact .inr rfl
theorem wf_cond {l : Int} {i : Int} {a : Int} {α : Type} {x y : α} : cond (cond (decide (i < l)) (decide ((0 : Int) ≤ a)) false) x y = if i < l ∧ 0 ≤ a then x else y := by
  by_cases h1 : i < l <;> by_cases h2 : (0 : Int) ≤ a <;> simp [h1, h2]
mutual
/-- How many nodes and bytes are left. -/
def few3 : ApiValue → Int → Int
  | ⟨_, _, t, l, ks⟩, k => few3s l (wf (fun a x => IntKind.i64.wrap (a - (List.length x : Int))) ks (IntKind.i64.wrap (IntKind.i64.wrap (k - 1) - (t.length : Int))))
def few3s : List ApiValue → Int → Int
  | [], a => a
  | x :: l, a => if 0 ≤ a then few3s l (few3 x a) else a
end
theorem few3s_eq : ∀ (l : List ApiValue) (a : Int), few3s l a = wf (fun a x => few3 x a) l a
  | [], a => by simp only [few3s, wf]
  | x :: l, a => by simp only [few3s, wf, few3s_eq l]
theorem few3_eq (v : ApiValue) (k : Int) : few3 v k = wf (fun a x => few3 x a) v.Items (wf (fun a x => IntKind.i64.wrap (a - (List.length x : Int))) v.Keys (IntKind.i64.wrap (IntKind.i64.wrap (k - 1) - (v.Text.length : Int)))) := by
  cases v; simp only [few3, few3s_eq]