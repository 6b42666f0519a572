/- NameGrows: the plain law. -/
import Derived.Test.YtmnobgopfnhbnaaDoorGBPSplit
import Derived.Test.YtmnobgopfnhbnaaDoorGBF0
namespace Go.Proofs.YtmnobgopfnhbnaaDoor
open Go Abs
theorem NameGrows_pure (s : List UInt8) (c : Int) (hc : okW .u8 c) : law06xNameGrows s c = some true := by
  unfold law06xNameGrows
  rw [lives06, name_Right_eq]
  by_cases h : (1000 : Int) < (s.length : Int)
  · have e : decide ((1000 : Int) < (s.length : Int)) = true := by simp [h]
    rw [e]; simp [gd]
  · have e : decide ((1000 : Int) < (s.length : Int)) = false := by simp [h]
    rw [e]
    simp only [gd, beq_self_eq_true, if_true, Option.bind_some, cond_false]
    cases hr : nright s
    · rfl
    · have hc' : 0 ≤ c ∧ c < 256 := by
        unfold okW at hc
        simp only [Lit.wf, IntKind.min, IntKind.max, IntKind.signed, IntKind.bits, Bool.and_eq_true, decide_eq_true_eq, Bool.false_eq_true, if_false] at hc
        omega
      obtain ⟨m, rfl⟩ : ∃ m : Nat, c = (m : Int) := ⟨c.toNat, by omega⟩
      have hm : m < 256 := by omega
      have htn : (UInt8.ofNat m).toNat = m := by simp; omega
      rw [byteOf_u hm, Bool.not_true, cond_false, Option.bind_some, cat_ok (by simp; omega), Option.bind_some, name_Right_eq, Option.bind_some, cat_ok (by simp; omega), name_Right_eq]
      have h55 : nright ([55] ++ s) = false := by unfold nright; simp [digitC]
      have hgr : nright (s ++ [UInt8.ofNat m]) = (cond (cond (cond (cond (cond (decide ((97 : Int) ≤ (m : Int))) (decide ((m : Int) ≤ (122 : Int))) false) true (cond (decide ((65 : Int) ≤ (m : Int))) (decide ((m : Int) ≤ (90 : Int))) false)) true (cond (decide ((48 : Int) ≤ (m : Int))) (decide ((m : Int) ≤ (57 : Int))) false)) true (decide ((m : Int) = (95 : Int)))) (decide ((s.length : Int) < (64 : Int))) false) := by
        unfold nright at hr ⊢
        simp only [Bool.and_eq_true, Bool.not_eq_true', decide_eq_false_iff_not, decide_eq_true_eq] at hr
        obtain ⟨⟨⟨h1, h2⟩, h3⟩, h4⟩ := hr
        obtain ⟨x, r, rfl⟩ : ∃ x r, s = x :: r := by cases s with
          | nil => exact absurd rfl h1
          | cons x r => exact ⟨x, r, rfl⟩
        have e2 : (letterC (UInt8.ofNat m) || digitC (UInt8.ofNat m)) = (cond (cond (cond (cond (decide ((97 : Int) ≤ (m : Int))) (decide ((m : Int) ≤ (122 : Int))) false) true (cond (decide ((65 : Int) ≤ (m : Int))) (decide ((m : Int) ≤ (90 : Int))) false)) true (cond (decide ((48 : Int) ≤ (m : Int))) (decide ((m : Int) ≤ (57 : Int))) false)) true (decide ((m : Int) = (95 : Int)))) := by
          have := ref06letter_eq (UInt8.ofNat m)
          rw [htn] at this
          unfold ref06xletter at this
          have := Option.some.inj this
          rw [← this]
          skip
        rw [List.all_append, h4, ← e2]
        simp only [List.headD_cons, List.cons_append] at h3 ⊢
        rw [h3]
        by_cases h6 : r.length < 63
        · have g1 : r.length + 1 + 1 ≤ 64 := by omega
          have g2 : (r.length : Int) + 1 < 64 := by omega
          simp [g1, g2]
        · have g1 : ¬ r.length + 1 + 1 ≤ 64 := by omega
          have g2 : ¬ (r.length : Int) + 1 < 64 := by omega
          simp [g1, g2]
      rw [h55, ← hgr]
      simp
end Go.Proofs.YtmnobgopfnhbnaaDoor
