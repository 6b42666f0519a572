/- Laws of layer 20, plainly: what needs no decoding. -/
import Derived.Test.YtmnobgopfnhbnaaGPPCmd2
import Derived.Test.YtmnobgopfnhbnaaGPF5
import Derived.Test.YtmnobgopfnhbnaaGPF7
namespace Go.Proofs.Ytmnobgopfnhbnaa
open Go Abs
set_option linter.unusedSimpArgs false
set_option linter.unusedVariables false

mutual
/-- How many nodes are left. -/
def few : ApiValue → Int → Int
  | ⟨_, _, _, l, _⟩, k => fews l (IntKind.i64.wrap (k - 1))
def fews : List ApiValue → Int → Int
  | [], a => a
  | x :: l, a => if 0 ≤ a then fews l (few x a) else a
end
theorem few_eq (v : ApiValue) (k : Int) : few v k = fews v.Items (IntKind.i64.wrap (k - 1)) := by cases v; simp only [few]
theorem fewF_eq : ∀ (n : Nat) (v : ApiValue) (k : Int), okApiValue v → hgt v ≤ n → ref02xfewF n v k = some (few v k) := by
  intro n
  induction n with
  | zero => intro v k hv hn; have := hgt_eq v; omega
  | succ n ih =>
    intro v k hv hn
    have hh := hgt_eq v
    obtain ⟨k0, k1, k2, k3, k4⟩ := (okApiValue_iff v).1 hv
    rw [ref02xfewF, few_eq]
    have hl : loopO (ref02xfew_l1 (ref02xfewF n) v) (IntKind.i64.wrap (k - 1), (0 : Int)) = some (fews v.Items (IntKind.i64.wrap (k - 1))) := by
      refine loop_to (fun s => ∃ i : Nat, s.2 = (i : Int) ∧ i ≤ v.Items.length ∧ fews (v.Items.drop i) s.1 = fews v.Items (IntKind.i64.wrap (k - 1))) (fun s => v.Items.length - s.2.toNat) (fun _ => fews v.Items (IntKind.i64.wrap (k - 1))) ?_ _ ⟨0, rfl, by omega, by simp⟩
      rintro ⟨a, i0⟩ ⟨i, hi0, hi, he⟩
      simp only at hi0 he
      subst hi0
      unfold ref02xfew_l1
      by_cases hlt : i < v.Items.length
      · rw [List.drop_eq_getElem_cons hlt, fews] at he
        by_cases ha : 0 ≤ a
        · rw [if_pos ha] at he
          have e : (cond (decide ((i : Int) < (v.Items.length : Int))) (decide ((0 : Int) ≤ a)) false) = true := by simp [hlt, ha]
          simp only
          rw [e, cond_true, idx_ok hlt, Option.bind_some, ih _ _ (k3.2.2 _ (List.getElem_mem hlt)) (by have := hgts_ge (List.getElem_mem hlt); omega), Option.bind_some, w64s hlt k3.1]
          exact .inl ⟨_, rfl, ⟨i + 1, rfl, hlt, he⟩, by simp; omega, trivial⟩
        · rw [if_neg ha] at he
          have e : (cond (decide ((i : Int) < (v.Items.length : Int))) (decide ((0 : Int) ≤ a)) false) = false := by simp [ha]
          simp only
          rw [e, cond_false, he]
          exact .inr rfl
      · have e : (cond (decide ((i : Int) < (v.Items.length : Int))) (decide ((0 : Int) ≤ a)) false) = false := by simp [hlt]
        rw [List.drop_eq_nil_of_le (by omega), fews] at he
        simp only
        rw [e, cond_false, he]
        exact .inr rfl
    rw [hl, Option.bind_some]
theorem Few_eq {v : ApiValue} {k : Int} (hv : okApiValue v) : ref02xFew v k = some (decide (0 ≤ few v k)) := by
  unfold ref02xFew ref02xfew
  rw [lim_eq (hgt v) fun n hn => fewF_eq n v k hv hn, Option.bind_some]
def small (c : ApiCommand) : Bool := decide (c.Name.length ≤ 10000) && decide (c.Key.length ≤ 1000) && decide (c.Opts.Fatal.length ≤ 100) && decide (0 ≤ few c.Data 1200)
theorem Small_eq {c : ApiCommand} (h : okApiCommand c) : ref20xSmall c = some (small c) := by
  have hd : okApiValue c.Data := h.2.2.2.2.2.1
  unfold ref20xSmall small
  rw [Few_eq hd]
  have e1 : decide ((c.Name.length : Int) ≤ 10000) = decide (c.Name.length ≤ 10000) := by rw [Bool.eq_iff_iff]; simp; omega
  have e2 : decide ((c.Key.length : Int) ≤ 1000) = decide (c.Key.length ≤ 1000) := by rw [Bool.eq_iff_iff]; simp; omega
  have e3 : decide ((c.Opts.Fatal.length : Int) ≤ 100) = decide (c.Opts.Fatal.length ≤ 100) := by rw [Bool.eq_iff_iff]; simp; omega
  rw [e1, e2, e3]
  cases decide (c.Name.length ≤ 10000) <;> cases decide (c.Key.length ≤ 1000) <;> cases decide (c.Opts.Fatal.length ≤ 100) <;> rfl

end Go.Proofs.Ytmnobgopfnhbnaa
