/- NameKeys: the plain law. -/
import Derived.Test.YtmnobgopfnhbnaaDoorGBPSplit
import Derived.Test.YtmnobgopfnhbnaaDoorGBF0
namespace Go.Proofs.YtmnobgopfnhbnaaDoor
open Go Abs
theorem split_key (a b : List UInt8) : (splitS (a ++ [47] ++ b)).2.2 = true → (splitS (a ++ [47] ++ b)).1 = a ∧ (splitS (a ++ [47] ++ b)).2.1 = b := by
  have ha : (a ++ [47] ++ b)[a.length]? = some 47 := by simp
  rcases split_cases (a ++ [47] ++ b) with ⟨_, h2⟩ | ⟨_, _, _, _, _, h2⟩ | ⟨k, h1, h2, _, h3⟩
  · rw [h2]; intro h; cases h
  · rw [h2]; intro h; cases h
  · have e : a.length = k := Decidable.byContradiction fun hh => h2 _ hh ha
    subst e
    rw [h3]
    intro _
    exact ⟨by simp, by simp⟩
theorem split_back (s : List UInt8) : (splitS s).2.2 = true → (splitS s).1 ++ [47] ++ (splitS s).2.1 = s := by
  rcases split_cases s with ⟨_, h2⟩ | ⟨_, _, _, _, _, h2⟩ | ⟨k, h1, h2, h4, h3⟩
  · rw [h2]; intro h; cases h
  · rw [h2]; intro h; cases h
  · rw [h3]
    intro _
    simp only
    have h5 : s[k] = 47 := by
      have := List.getElem?_eq_getElem h4
      rw [h1] at this
      exact (Option.some.inj this).symm
    rw [← h5, List.append_assoc, List.singleton_append, ← List.drop_eq_getElem_cons h4, List.take_append_drop]
theorem NameKeys_pure (a b : List UInt8) : law06xNameKeys a b = some true := by
  unfold law06xNameKeys
  rw [lives06]
  by_cases h : (cond (decide ((10000 : Int) < (a.length : Int))) true (decide ((10000 : Int) < (b.length : Int)))) = true
  · rw [h]; rfl
  · have h1 : a.length ≤ 10000 := Decidable.byContradiction fun hh => h (by have : (10000 : Int) < (a.length : Int) := by omega
                                                                            simp [this])
    have h2 : b.length ≤ 10000 := Decidable.byContradiction fun hh => h (by have : (10000 : Int) < (b.length : Int) := by omega
                                                                            simp [this])
    rw [Bool.not_eq_true] at h
    rw [h, cond_false, key_eq (by omega), Option.bind_some, name_Split_eq (by simp; omega), Option.bind_some, refSplit_eq (by simp; omega), Option.bind_some, refKey_eq (by omega), Option.bind_some]
    have hk : (cond (splitS (a ++ [47] ++ b)).2.2 (cond (!decide ((splitS (a ++ [47] ++ b)).1 = a)) true (!decide ((splitS (a ++ [47] ++ b)).2.1 = b))) false) = false := by
      have := split_key a b
      cases hc : (splitS (a ++ [47] ++ b)).2.2
      · rfl
      · obtain ⟨h3, h4⟩ := this hc
        rw [h3, h4]; simp
    rw [hk]
    simp only [decide_true, Bool.not_true, cond_false, beq_self_eq_true]
    rw [name_Split_eq (by omega), Option.bind_some]
    have hb := split_back a
    have hl : (splitS a).1.length + (splitS a).2.1.length ≤ 1000000000 := by
      unfold splitS
      split
      · simp
      · split
        · simp
        · simp; omega
    rw [key_eq hl]
    cases hc : (splitS a).2.2
    · simp [gd]
    · rw [hb hc]; simp [gd]
end Go.Proofs.YtmnobgopfnhbnaaDoor
