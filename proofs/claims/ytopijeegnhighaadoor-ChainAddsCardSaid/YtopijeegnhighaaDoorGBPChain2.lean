/- The last run of a chain: the program's loop and the reference's bounded one end at the same run. -/
import Derived.Test.YtopijeegnhighaaDoorGBPChain1
import Derived.Test.YtopijeegnhighaaDoorGBF1
import Derived.Test.YtopijeegnhighaaDoorGBF2
import Derived.Test.YtopijeegnhighaaDoorGBF3
namespace Go.Proofs.YtopijeegnhighaaDoor
open Go Abs
set_option linter.unusedSimpArgs false
set_option linter.unusedVariables false

def nx : Option (Nat × ApiRun) → Int
  | some (k, _) => (k : Int)
  | none => -1
def isNext (w : List UInt8) (n : Int) (r : ApiRun) : Bool := decide (numR w r = n + 1)
def nextI (l : List ApiRun) (w : List UInt8) (n : Int) : Int := nx (firstF (isNext w n) l 0)

/-! ### The program's search -/
def nf (w : List UInt8) (n : Int) (s : Int) (k : Nat) (r : ApiRun) : Int := if s < 0 ∧ isNext w n r = true then (k : Int) else s
theorem nf_done {w : List UInt8} {n s : Int} (h : 0 ≤ s) : ∀ (l : List ApiRun) (k : Nat), foldi (nf w n) s l k = s
  | [], _ => rfl
  | x :: l, k => by
    unfold foldi
    have : nf w n s k x = s := by unfold nf; rw [if_neg (by omega)]
    rw [this]; exact nf_done h l (k + 1)
theorem nf_first {w : List UInt8} {n : Int} : ∀ (l : List ApiRun) (k : Nat), foldi (nf w n) (-1) l k = nx (firstF (isNext w n) l k)
  | [], _ => rfl
  | x :: l, k => by
    unfold foldi firstF
    cases h : isNext w n x
    · have : nf w n (-1) k x = -1 := by unfold nf; rw [if_neg (by simp [h])]
      rw [this, nf_first l (k + 1)]; rfl
    · have : nf w n (-1) k x = (k : Int) := by unfold nf; rw [if_pos ⟨by omega, h⟩]
      rw [this, nf_done (by omega)]; rfl
theorem next_eq {l : List ApiRun} {w : List UInt8} {n : Int} {b : Bool} (ok : okL l) (h1 : 1 ≤ n) (h2 : n ≤ 9223372036854775807) : loopO (chain_last_l2 l (n, b) w) ((-1 : Int), (0 : Int)) = some (nextI l w n) := by
  unfold nextI
  rw [← nf_first]
  refine loop_foldi (l := l) (nf w n) (fun s i => (s, (i : Int))) (fun s => s) (-1) (fun s i hi => ?_) (fun s => ?_)
  · unfold chain_last_l2 nf isNext
    simp only
    obtain ⟨m1, m2, m3, m4⟩ := numR_ok w l[i]
    rw [cond_d, if_pos (by omega), idx_ok hi, Option.bind_some, name_Number_eq (ok.ids _ (List.getElem_mem hi)), Option.bind_some, w64s hi (by have := ok.len; omega)]
    have hm : 0 ≤ (numberS l[i].ID).1 ∧ (numberS l[i].ID).1 ≤ 9223372036854775807 := by
      rcases numberS_pos l[i].ID with ⟨_, a, b, _⟩ | a
      · exact ⟨by omega, b⟩
      · rw [a]; exact ⟨by simp, by simp⟩
    rw [w64 (by omega) (by omega)]
    have hc : (cond (cond (cond (decide (s < 0)) (decide (l[i].Workflow = w)) false) (numberS l[i].ID).2 false) (decide ((numberS l[i].ID).1 - n = 1)) false) = decide (s < 0 ∧ decide (numR w l[i] = n + 1) = true) := by
      rw [Bool.eq_iff_iff]
      simp only [Bool.cond_eq_ite, Bool.if_false_right, Bool.and_eq_true, decide_eq_true_eq]
      constructor
      · rintro ⟨⟨⟨a1, a2⟩, a3⟩, a4⟩
        have := m4 (m3.2 ⟨a2, a3⟩)
        exact ⟨a1, by omega⟩
      · rintro ⟨a1, a2⟩
        have a3 := m3.1 (by omega)
        have := m4 (by omega)
        exact ⟨⟨⟨a1, a3.1⟩, a3.2⟩, by omega⟩
    rw [hc, cond_d]
    split <;> rfl
  · unfold chain_last_l2
    simp only
    rw [cond_d, if_neg (by omega)]

/-! ### The reference's search -/
theorem refnext_eq {l : List ApiRun} {w : List UInt8} {n : Int} (ok : okL l) (h1 : 1 ≤ n) (h2 : n ≤ 9223372036854775807) : loopO (ref44xfollow_l2 l n w) ((-1 : Int), (IntKind.wrap .i64 ((l.length : Int) - 1))) = some (nextI l w n) := by
  have hlen := ok.len
  have key : ∃ x, loopO (ref44xfollow_l2 l n w) ((-1 : Int), (l.length : Int) - 1) = some x ∧ x = nextI l w n := by
    refine loop_ex (fun t => ∃ m : Nat, m ≤ l.length ∧ t.2 = (m : Int) - 1 ∧ t.1 = nx (firstF (isNext w n) (l.drop m) m)) (fun t => (t.2 + 1).toNat) _ ?_ _ ⟨l.length, Nat.le_refl _, rfl, by rw [List.drop_length]; rfl⟩
    rintro ⟨s, k⟩ ⟨m, hm, hk, hs⟩
    simp only at hk hs
    subst hk
    unfold ref44xfollow_l2
    simp only
    cases m with
    | zero =>
      rw [cond_d, if_neg (by omega)]
      exact .inr ⟨_, rfl, by rw [hs]; rfl⟩
    | succ m =>
      have hi : m < l.length := by omega
      obtain ⟨m1, m2, m3, m4⟩ := numR_ok w l[m]
      rw [show ((m + 1 : Nat) : Int) - 1 = (m : Int) by omega, cond_d, if_pos (by omega), idx_ok hi, Option.bind_some, refnumber_eq (ok.ids _ (List.getElem_mem hi)), Option.bind_some, w64 (by omega) (by omega), w64 (by omega) (by omega)]
      have hd : l.drop m = l[m] :: l.drop (m + 1) := List.drop_eq_getElem_cons hi
      refine .inl ?_
      by_cases hc : numR w l[m] - 1 = n
      · have hn : isNext w n l[m] = true := by unfold isNext; rw [decide_eq_true_eq]; omega
        rw [decide_eq_true hc, cond_true]
        exact ⟨_, rfl, ⟨m, by omega, rfl, by rw [hd]; unfold firstF; rw [if_pos hn]; rfl⟩, by simp only; omega⟩
      · have hn : ¬ isNext w n l[m] = true := by unfold isNext; rw [decide_eq_true_eq]; omega
        rw [decide_eq_false hc, cond_false]
        exact ⟨_, rfl, ⟨m, by omega, rfl, by rw [hd, hs]; conv => { rhs; unfold firstF }; rw [if_neg hn]⟩, by simp only; omega⟩
  obtain ⟨x, hx, rfl⟩ := key
  rw [w64 (by omega) (by omega)]
  exact hx

/-! ### How many numbers are greater -/
def cnt (l : List ApiRun) (w : List UInt8) (n : Int) : Nat := l.countP fun r => decide (n < numR w r)
theorem countP_lt {α : Type} {p q : α → Bool} : ∀ {l : List α} {x : α}, x ∈ l → (∀ y, p y = true → q y = true) → q x = true → p x = false → l.countP p < l.countP q
  | y :: l, x, hx, h, h1, h2 => by
    rw [List.countP_cons, List.countP_cons]
    have hle : l.countP p ≤ l.countP q := List.countP_mono_left fun z _ hz => h z hz
    rcases List.mem_cons.1 hx with rfl | hx
    · rw [h1, h2]; simp; omega
    · have := countP_lt hx h h1 h2
      by_cases hp : p y = true
      · rw [hp, h y hp]; simp; omega
      · have : p y = false := by simpa using hp
        rw [this]; simp; split <;> omega
theorem cnt_lt {l : List ApiRun} {w : List UInt8} {n : Int} {r : ApiRun} (hr : r ∈ l) (h : numR w r = n + 1) : cnt l w (n + 1) < cnt l w n :=
  countP_lt hr (fun y hy => by rw [decide_eq_true_eq] at hy ⊢; omega) (by rw [decide_eq_true_eq]; omega) (by rw [decide_eq_false_iff_not]; omega)
theorem cnt_lt_len {l : List ApiRun} {w : List UInt8} {r : ApiRun} (hr : r ∈ l) : cnt l w (numR w r) < l.length := by
  have := countP_lt (p := fun s => decide (numR w r < numR w s)) (q := fun _ => true) hr (fun _ _ => rfl) rfl (by rw [decide_eq_false_iff_not]; omega)
  rw [List.countP_true] at this
  exact this
end Go.Proofs.YtopijeegnhighaaDoor
