/- Policies of values: both sides, plainly. -/
import Derived.Test.YtmnobgopfnhbnaaGPPRt1
import Derived.Test.YtmnobgopfnhbnaaGPPCmd2
import Derived.Test.YtmnobgopfnhbnaaGPF2
import Derived.Test.YtmnobgopfnhbnaaGPF7
namespace Go.Proofs.Ytmnobgopfnhbnaa
open Go Abs
set_option linter.unusedSimpArgs false
set_option linter.unusedVariables false

theorem bl_irrefl : ∀ a : List UInt8, Op.bytesLess a a = false
  | [] => rfl
  | x :: a => by simp [Op.bytesLess, bl_irrefl a, UInt8.lt_irrefl]
theorem bl_trans : ∀ {a b c : List UInt8}, Op.bytesLess a b = true → Op.bytesLess b c = true → Op.bytesLess a c = true
  | [], [], _, h, _ => by simp [Op.bytesLess] at h
  | [], _ :: _, [], _, h => by simp [Op.bytesLess] at h
  | [], _ :: _, _ :: _, _, _ => by simp [Op.bytesLess]
  | _ :: _, [], _, h, _ => by simp [Op.bytesLess] at h
  | _ :: _, _ :: _, [], _, h => by simp [Op.bytesLess] at h
  | x :: a, y :: b, z :: c, h1, h2 => by
    simp only [Op.bytesLess, Bool.or_eq_true, Bool.and_eq_true, decide_eq_true_eq, beq_iff_eq] at h1 h2 ⊢
    rcases h1 with h1 | ⟨rfl, h1⟩
    · rcases h2 with h2 | ⟨rfl, h2⟩
      · exact .inl (UInt8.lt_trans h1 h2)
      · exact .inl h1
    · rcases h2 with h2 | ⟨rfl, h2⟩
      · exact .inl h2
      · exact .inr ⟨rfl, bl_trans h1 h2⟩
theorem rise_lt {l : List (List UInt8)} (h : l.length ≤ 9223372036854775807) (hr : rise l = true) : ∀ (d i : Nat) (hi : i + 1 + d < l.length), Op.bytesLess (l[i]'(by omega)) l[i + 1 + d] = true
  | 0, i, hi => rise_less h hr i hi
  | d + 1, i, hi => bl_trans (rise_lt h hr d i (by omega)) (rise_less h hr (i + 1 + d) hi)
theorem rise_ne {l : List (List UInt8)} (h : l.length ≤ 9223372036854775807) (hr : rise l = true) {i j : Nat} (hij : i < j) (hj : j < l.length) : l[i]'(by omega) ≠ l[j] := fun e => by
  have h1 := rise_lt h hr (j - i - 1) i (by omega)
  have e2 : i + 1 + (j - i - 1) = j := by omega
  simp only [e2] at h1
  rw [e, bl_irrefl] at h1
  cases h1

abbrev nToStart : List UInt8 := [116, 111, 83, 116, 97, 114, 116]
abbrev nToClose : List UInt8 := [116, 111, 67, 108, 111, 115, 101]
abbrev nTotal : List UInt8 := [116, 111, 116, 97, 108]
abbrev nBeat : List UInt8 := [98, 101, 97, 116]
abbrev nFirst : List UInt8 := [102, 105, 114, 115, 116]
abbrev nCoef : List UInt8 := [99, 111, 101, 102]
abbrev nMost : List UInt8 := [109, 111, 115, 116]
abbrev nAttempts : List UInt8 := [97, 116, 116, 101, 109, 112, 116, 115]
abbrev nQueue : List UInt8 := [113, 117, 101, 117, 101]
abbrev nFatal : List UInt8 := [102, 97, 116, 97, 108]
abbrev names8 : List (List UInt8) := [nToStart, nToClose, nTotal, nBeat, nFirst, nCoef, nMost, nAttempts]
/-- A key's place among the numbers' names. -/
def at8 (k : List UInt8) : Int := if k = nToStart then 0 else if k = nToClose then 1 else if k = nTotal then 2 else if k = nBeat then 3 else if k = nFirst then 4 else if k = nCoef then 5 else if k = nMost then 6 else if k = nAttempts then 7 else -1
theorem idx_step {k : List UInt8} {i : Nat} {n : List UInt8} (h : names8[i]? = some n) : slices_Index_string_string_l1 names8 k (i : Int) = some (if k = n then .out (.done (i : Int)) else .next ((i + 1 : Nat) : Int)) := by
  have hi : i < 8 := by
    have := (List.getElem?_eq_some_iff.1 h).1
    simpa using this
  unfold slices_Index_string_string_l1
  rw [cond_d, if_pos (by simp; omega), idx_nat, h, Option.bind_some, cond_d, w64 (by omega) (by omega)]
  split <;> rfl
theorem index_eq (k : List UInt8) : slices_Index_string_string names8 k = some (at8 k) := by
  unfold slices_Index_string_string at8
  have s0 := idx_step (k := k) (i := 0) (n := nToStart) rfl
  have s1 := idx_step (k := k) (i := 1) (n := nToClose) rfl
  have s2 := idx_step (k := k) (i := 2) (n := nTotal) rfl
  have s3 := idx_step (k := k) (i := 3) (n := nBeat) rfl
  have s4 := idx_step (k := k) (i := 4) (n := nFirst) rfl
  have s5 := idx_step (k := k) (i := 5) (n := nCoef) rfl
  have s6 := idx_step (k := k) (i := 6) (n := nMost) rfl
  have s7 := idx_step (k := k) (i := 7) (n := nAttempts) rfl
  have s8 : slices_Index_string_string_l1 names8 k ((8 : Nat) : Int) = some (.out (.go ())) := rfl
  rw [show (0 : Int) = ((0 : Nat) : Int) from rfl]
  by_cases h0 : k = nToStart
  · rw [if_pos h0] at s0 ⊢; rw [loop_out s0]; rfl
  rw [if_neg h0] at s0 ⊢; rw [loop_next s0]
  by_cases h1 : k = nToClose
  · rw [if_pos h1] at s1 ⊢; rw [loop_out s1]; rfl
  rw [if_neg h1] at s1 ⊢; rw [loop_next s1]
  by_cases h2 : k = nTotal
  · rw [if_pos h2] at s2 ⊢; rw [loop_out s2]; rfl
  rw [if_neg h2] at s2 ⊢; rw [loop_next s2]
  by_cases h3 : k = nBeat
  · rw [if_pos h3] at s3 ⊢; rw [loop_out s3]; rfl
  rw [if_neg h3] at s3 ⊢; rw [loop_next s3]
  by_cases h4 : k = nFirst
  · rw [if_pos h4] at s4 ⊢; rw [loop_out s4]; rfl
  rw [if_neg h4] at s4 ⊢; rw [loop_next s4]
  by_cases h5 : k = nCoef
  · rw [if_pos h5] at s5 ⊢; rw [loop_out s5]; rfl
  rw [if_neg h5] at s5 ⊢; rw [loop_next s5]
  by_cases h6 : k = nMost
  · rw [if_pos h6] at s6 ⊢; rw [loop_out s6]; rfl
  rw [if_neg h6] at s6 ⊢; rw [loop_next s6]
  by_cases h7 : k = nAttempts
  · rw [if_pos h7] at s7 ⊢; rw [loop_out s7]; rfl
  rw [if_neg h7] at s7 ⊢; rw [loop_next s7, loop_out s8]; rfl
theorem num_step {k : List UInt8} {i : Nat} {n : List UInt8} (h : names8[i]? = some n) : ref20xnumbered_l1 k (i : Int) = some (if k = n then .out (.done true) else .next ((i + 1 : Nat) : Int)) := by
  have hi : i < 8 := by
    have := (List.getElem?_eq_some_iff.1 h).1
    simpa using this
  unfold ref20xnumbered_l1
  rw [cond_d, if_pos (by simp; omega), idx_nat, h, Option.bind_some, cond_d, w64 (by omega) (by omega)]
  by_cases e : k = n
  · rw [if_pos e, if_pos e.symm]
  · rw [if_neg e, if_neg fun h => e h.symm]; rfl
theorem numbered_eq (k : List UInt8) : ref20xnumbered k = some (decide (0 ≤ at8 k)) := by
  unfold ref20xnumbered at8
  have s0 := num_step (k := k) (i := 0) (n := nToStart) rfl
  have s1 := num_step (k := k) (i := 1) (n := nToClose) rfl
  have s2 := num_step (k := k) (i := 2) (n := nTotal) rfl
  have s3 := num_step (k := k) (i := 3) (n := nBeat) rfl
  have s4 := num_step (k := k) (i := 4) (n := nFirst) rfl
  have s5 := num_step (k := k) (i := 5) (n := nCoef) rfl
  have s6 := num_step (k := k) (i := 6) (n := nMost) rfl
  have s7 := num_step (k := k) (i := 7) (n := nAttempts) rfl
  have s8 : ref20xnumbered_l1 k ((8 : Nat) : Int) = some (.out (.go ())) := rfl
  rw [show (0 : Int) = ((0 : Nat) : Int) from rfl]
  by_cases h0 : k = nToStart
  · rw [if_pos h0] at s0 ⊢; rw [loop_out s0]; rfl
  rw [if_neg h0] at s0 ⊢; rw [loop_next s0]
  by_cases h1 : k = nToClose
  · rw [if_pos h1] at s1 ⊢; rw [loop_out s1]; rfl
  rw [if_neg h1] at s1 ⊢; rw [loop_next s1]
  by_cases h2 : k = nTotal
  · rw [if_pos h2] at s2 ⊢; rw [loop_out s2]; rfl
  rw [if_neg h2] at s2 ⊢; rw [loop_next s2]
  by_cases h3 : k = nBeat
  · rw [if_pos h3] at s3 ⊢; rw [loop_out s3]; rfl
  rw [if_neg h3] at s3 ⊢; rw [loop_next s3]
  by_cases h4 : k = nFirst
  · rw [if_pos h4] at s4 ⊢; rw [loop_out s4]; rfl
  rw [if_neg h4] at s4 ⊢; rw [loop_next s4]
  by_cases h5 : k = nCoef
  · rw [if_pos h5] at s5 ⊢; rw [loop_out s5]; rfl
  rw [if_neg h5] at s5 ⊢; rw [loop_next s5]
  by_cases h6 : k = nMost
  · rw [if_pos h6] at s6 ⊢; rw [loop_out s6]; rfl
  rw [if_neg h6] at s6 ⊢; rw [loop_next s6]
  by_cases h7 : k = nAttempts
  · rw [if_pos h7] at s7 ⊢; rw [loop_out s7]; rfl
  rw [if_neg h7] at s7 ⊢; rw [loop_next s7, loop_out s8]; rfl
end Go.Proofs.Ytmnobgopfnhbnaa
