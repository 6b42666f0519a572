/- Keys and their parts, plainly; chapter 06's examples. -/
import Derived.Test.YtopijeegnhighaaDoorGAPLoop
import Derived.Test.YtopijeegnhighaaDoorLib
import Derived.Test.YtopijeegnhighaaDoorGAF0
namespace Go.Proofs.YtopijeegnhighaaDoor
open Go Abs
set_option linter.unusedSimpArgs false
set_option linter.unusedVariables false

/-- What a key's parts are: before and behind its one slash. -/
def splitS (s : List UInt8) : List UInt8 × List UInt8 × Bool :=
  if Lib.indexByte s 47 < 0 then ([], [], false)
  else if 0 ≤ Lib.indexByte (s.drop ((Lib.indexByte s 47).toNat + 1)) 47 then ([], [], false)
  else (s.take (Lib.indexByte s 47).toNat, s.drop ((Lib.indexByte s 47).toNat + 1), true)

theorem ib_cases (s : List UInt8) (c : UInt8) : (Lib.indexByte s c = -1 ∧ ∀ k : Nat, s[k]? ≠ some c) ∨ ∃ o : Nat, Lib.indexByte s c = (o : Int) ∧ s[o]? = some c ∧ (∀ k : Nat, k < o → s[k]? ≠ some c) ∧ o < s.length := by
  by_cases h : Lib.indexByte s c = -1
  · exact .inl ⟨h, Lib.indexByte_none h⟩
  · have hg := Lib.indexByte_ge s c
    obtain ⟨o, ho⟩ : ∃ o : Nat, Lib.indexByte s c = (o : Int) := ⟨(Lib.indexByte s c).toNat, by omega⟩
    obtain ⟨h1, h2⟩ := Lib.indexByte_some ho
    exact .inr ⟨o, ho, h1, h2, (List.getElem?_eq_some_iff.1 h1).1⟩
/-- Three ways a key can be. -/
theorem split_cases (s : List UInt8) : ((∀ k : Nat, s[k]? ≠ some 47) ∧ splitS s = ([], [], false)) ∨ (∃ i j : Nat, i < j ∧ s[i]? = some 47 ∧ s[j]? = some 47 ∧ splitS s = ([], [], false)) ∨ ∃ j : Nat, s[j]? = some 47 ∧ (∀ k : Nat, k ≠ j → s[k]? ≠ some 47) ∧ j < s.length ∧ splitS s = (s.take j, s.drop (j + 1), true) := by
  unfold splitS
  rcases ib_cases s 47 with ⟨h1, h2⟩ | ⟨o, h1, h2, h3, h4⟩
  · exact .inl ⟨h2, by rw [if_pos (by omega)]⟩
  · rw [if_neg (by omega), h1, Int.toNat_natCast]
    rcases ib_cases (s.drop (o + 1)) 47 with ⟨k1, k2⟩ | ⟨p, k1, k2, k3, k4⟩
    · refine .inr (.inr ⟨o, h2, fun k hk => ?_, h4, by rw [if_neg (by omega)]⟩)
      rcases Nat.lt_or_gt_of_ne hk with hk | hk
      · exact h3 k hk
      · have := k2 (k - (o + 1))
        rw [List.getElem?_drop, show o + 1 + (k - (o + 1)) = k by omega] at this
        exact this
    · rw [List.getElem?_drop] at k2
      exact .inr (.inl ⟨o, o + 1 + p, by omega, h2, k2, by rw [if_pos (by omega)]⟩)
theorem split_one {s : List UInt8} {j : Nat} (h : s[j]? = some 47) (hu : ∀ k : Nat, k ≠ j → s[k]? ≠ some 47) : splitS s = (s.take j, s.drop (j + 1), true) := by
  rcases split_cases s with ⟨h1, _⟩ | ⟨i, k, hik, h1, h2, _⟩ | ⟨i, h1, h2, _, h3⟩
  · exact absurd h (h1 j)
  · by_cases e : i = j
    · exact absurd h2 (hu k (by omega))
    · exact absurd h1 (hu i e)
  · have : i = j := Decidable.byContradiction fun e => hu i e h1
    rw [h3, this]
theorem split_two {s : List UInt8} {i j : Nat} (hij : i < j) (h : s[i]? = some 47) (h' : s[j]? = some 47) : splitS s = ([], [], false) := by
  rcases split_cases s with ⟨_, h2⟩ | ⟨_, _, _, _, _, h2⟩ | ⟨k, h1, h2, _, h3⟩
  · exact h2
  · exact h2
  · by_cases e : i = k
    · exact absurd h' (h2 j (by omega))
    · exact absurd h (h2 i e)
theorem split_none {s : List UInt8} (h : ∀ k : Nat, s[k]? ≠ some 47) : splitS s = ([], [], false) := by
  rcases split_cases s with ⟨_, h2⟩ | ⟨_, _, _, _, _, h2⟩ | ⟨k, h1, _⟩
  · exact h2
  · exact h2
  · exact absurd h1 (h k)

theorem cut_eq {s : List UInt8} (h : s.length ≤ 140737488355328) : strings_Cut s [47] = some (if Lib.indexByte s 47 < 0 then (s, [], false) else (s.take (Lib.indexByte s 47).toNat, s.drop ((Lib.indexByte s 47).toNat + 1), true)) := by
  unfold strings_Cut stringslite_Cut stringslite_Index
  simp only [Option.bind_some]
  rcases ib_cases s 47 with ⟨h1, h2⟩ | ⟨o, h1, h2, h3, h4⟩
  · rw [h1]; rfl
  · rw [h1, cond_d, if_pos (by omega), if_neg (by omega), slcH_ok (by omega), Option.bind_some]
    simp only [List.length_singleton]
    rw [w64 (by omega) (by omega), slcL_ok (by omega), Option.bind_some, Option.bind_some, show ((o : Int) + ((1 : Nat) : Int)).toNat = o + 1 by omega, Int.toNat_natCast]
theorem name_Split_eq {s : List UInt8} (h : s.length ≤ 140737488355328) : name_Split s = some (splitS s) := by
  unfold name_Split strings_Contains splitS
  rw [cut_eq h, Option.bind_some]
  by_cases h1 : Lib.indexByte s 47 < 0
  · rw [if_pos h1, if_pos h1]
    simp [gd]
  · rw [if_neg h1, if_neg h1]
    by_cases h2 : 0 ≤ Lib.indexByte (s.drop ((Lib.indexByte s 47).toNat + 1)) 47
    · rw [if_pos h2]; simp [gd, h2]
    · rw [if_neg h2]; simp [gd, h2]
theorem uniq {s : List UInt8} {j : Nat} (h : ∀ k : Nat, k < s.length → k ≠ j → s[k]? ≠ some 47) : ∀ k : Nat, k ≠ j → s[k]? ≠ some 47 := fun k hk => by
  by_cases e : k < s.length
  · exact h k e hk
  · rw [List.getElem?_eq_none (by omega)]; simp
end Go.Proofs.YtopijeegnhighaaDoor
