/- Parents and children: what the functions share, plainly. -/
import Derived.Test.YtopijeegnhighaaDoorGAPSame
import Derived.Test.YtopijeegnhighaaDoorGAPStat
import Derived.Test.YtopijeegnhighaaDoorGAPSplit
import Derived.Test.YtopijeegnhighaaDoorGAPDig
import Derived.Test.YtopijeegnhighaaDoorGAEvMono45
import Derived.Test.YtopijeegnhighaaDoorGAF0
import Derived.Test.YtopijeegnhighaaDoorGAF1
import Derived.Test.YtopijeegnhighaaDoorGAF2
namespace Go.Proofs.YtopijeegnhighaaDoor
open Go Abs
set_option linter.unusedSimpArgs false
set_option linter.unusedVariables false

def closedS (r : ApiRun) : Bool := !decide ((statusS r.History).1 = 0)
theorem closed_eq {r : ApiRun} (h : r.History.length ≤ 9223372036854775807) : children_closed r = some (closedS r) := by
  unfold children_closed closedS
  rw [history_Status_eq h]; rfl
theorem refclosed_eq : ref45xclosed = children_closed := by
  funext r
  unfold ref45xclosed children_closed
  rw [ref24Status_eq]

/-! ### Identifiers -/
theorem digits45F_nonneg : ∀ (n u : Nat), u < 10 ^ (n + 1) → u ≤ 9223372036854775807 → n ≤ 30 → ref45xdigitsF (n + 1) (u : Int) = some (Lib.decDigits u) := by
  intro n
  induction n with
  | zero =>
    intro u h hb _
    have hu : u < 10 := by omega
    rw [ref45xdigitsF, cond_d, if_neg (by omega), cond_d, if_pos (by omega), show (48 : Int) + (u : Int) = ((48 + u : Nat) : Int) by omega, w64 (by omega) (by omega), IntKind.wrap_u8, show (((48 + u : Nat) : Int)) % 256 = ((48 + u : Nat) : Int) by omega, byteOf_u (by omega), Option.bind_some, dec_lt hu]
  | succ n ih =>
    intro u h hb hn
    rw [ref45xdigitsF, cond_d, if_neg (by omega), cond_d]
    by_cases hu : u < 10
    · rw [if_pos (by omega), show (48 : Int) + (u : Int) = ((48 + u : Nat) : Int) by omega, w64 (by omega) (by omega), IntKind.wrap_u8, show (((48 + u : Nat) : Int)) % 256 = ((48 + u : Nat) : Int) by omega, byteOf_u (by omega), Option.bind_some, dec_lt hu]
    · have e1 : (u : Int).tdiv 10 = ((u / 10 : Nat) : Int) := by rw [Int.tdiv_eq_ediv_of_nonneg (by omega)]; omega
      have e2 : (u : Int).tmod 10 = ((u % 10 : Nat) : Int) := by rw [Int.tmod_eq_emod_of_nonneg (by omega)]; omega
      have h10 : 10 ^ (n + 1 + 1) = 10 ^ (n + 1) * 10 := Nat.pow_succ ..
      have hp : 0 < 10 ^ n := Nat.pow_pos (by omega)
      have hp2 : 10 ^ (n + 1) = 10 ^ n * 10 := Nat.pow_succ ..
      have hl := dec_len n (u / 10) (by omega)
      rw [if_neg (by omega), e1, e2, w64 (by omega) (by omega), ih (u / 10) (by omega) (by omega) (by omega), Option.bind_some, ih (u % 10) (by omega) (by omega) (by omega), Option.bind_some, dec_lt (u := u % 10) (by omega), cat_ok (by simp; omega), Option.bind_some, dec_ge hu]
theorem digits45F_eq {n : Int} (h : okI n) : ref45xdigitsF 23 n = some (Lib.itoa n) := by
  obtain ⟨h1, h2⟩ := h
  by_cases h0 : n < 0
  · obtain ⟨u, hu, rfl⟩ : ∃ u : Nat, 1 ≤ u ∧ n = -(u : Int) := ⟨(-n).toNat, by omega, by omega⟩
    rw [ref45xdigitsF, cond_d, if_pos h0, cond_d, Lib.itoa_neg u hu]
    by_cases h3 : u < 10
    · rw [if_pos (by omega), show (0 : Int) - -(u : Int) = (u : Int) by omega, w64 (by omega) (by omega), digits45F_nonneg 21 u (by omega) (by omega) (by omega), Option.bind_some, dec_lt h3, cat_ok (by simp), Option.bind_some]; rfl
    · have e1 : (-(u : Int)).tdiv 10 = -((u / 10 : Nat) : Int) := by rw [Int.neg_tdiv, Int.tdiv_eq_ediv_of_nonneg (by omega)]; omega
      have e2 : (-(u : Int)).tmod 10 = -((u % 10 : Nat) : Int) := by rw [Int.neg_tmod, Int.tmod_eq_emod_of_nonneg (by omega)]; omega
      have hl := dec_len 21 (u / 10) (by omega)
      rw [if_neg (by omega), e1, e2, w64 (x := -((u / 10 : Nat) : Int)) (by omega) (by omega), show (0 : Int) - -((u / 10 : Nat) : Int) = ((u / 10 : Nat) : Int) by omega, show (0 : Int) - -((u % 10 : Nat) : Int) = ((u % 10 : Nat) : Int) by omega, w64 (by omega) (by omega), w64 (by omega) (by omega), digits45F_nonneg 21 (u / 10) (by omega) (by omega) (by omega), Option.bind_some,
        cat_ok (by simp; omega), Option.bind_some, digits45F_nonneg 21 (u % 10) (by omega) (by omega) (by omega), Option.bind_some, dec_lt (u := u % 10) (by omega), cat_ok (by simp; omega), Option.bind_some, dec_ge h3]
      rfl
  · obtain ⟨u, rfl⟩ : ∃ u : Nat, n = (u : Int) := ⟨n.toNat, by omega⟩
    rw [digits45F_nonneg 22 u (by omega) (by omega) (by omega), Lib.itoa_nonneg]
theorem digits45_eq {n : Int} (h : okI n) : ref45xdigits n = some (Lib.itoa n) := ref45xdigits_lim (digits45F_eq h)
/-- The identifier of an operation. -/
def identS (r : ApiRun) (n : Int) : List UInt8 := ((((r.ID ++ [46]) ++ Lib.itoa n) ++ [46]) ++ r.Workflow).take 64
theorem identifier_eq {r : ApiRun} {n : Int} (h1 : okS r.ID) (h2 : okS r.Workflow) (h : okI n) : children_identifier r n = some (identS r n) := by
  unfold okS at h1 h2
  have hl := Lib.itoa_length_le n h.1 h.2
  unfold children_identifier strconv_Itoa identS
  rw [cat_ok (by simp; omega), Option.bind_some, if_pos ⟨h.1, h.2⟩, Option.bind_some, cat_ok (by simp; omega), Option.bind_some, cat_ok (by simp; omega), Option.bind_some, cat_ok (by simp; omega), Option.bind_some]
  generalize ((((r.ID ++ [46]) ++ Lib.itoa n) ++ [46]) ++ r.Workflow) = s
  by_cases h3 : (64 : Int) < s.length
  · rw [if_pos h3, slcH_ok (by omega), Option.bind_some]; rfl
  · rw [if_neg h3, slcH_ok (by omega), Option.bind_some, Int.toNat_natCast, List.take_length, List.take_of_length_le (by omega)]
theorem refIdentifier_eq {r : ApiRun} {n : Int} (h1 : okS r.ID) (h2 : okS r.Workflow) (h : okI n) : ref45xIdentifier r n = some (identS r n) := by
  unfold okS at h1 h2
  have hl := Lib.itoa_length_le n h.1 h.2
  unfold ref45xIdentifier identS
  rw [cat_ok (by simp; omega), Option.bind_some, digits45_eq h, Option.bind_some, cat_ok (by simp; omega), Option.bind_some, cat_ok (by simp; omega), Option.bind_some, cat_ok (by simp; omega), Option.bind_some]
  generalize ((((r.ID ++ [46]) ++ Lib.itoa n) ++ [46]) ++ r.Workflow) = s
  rw [cond_d]
  by_cases h3 : (64 : Int) < s.length
  · rw [if_pos h3, slcH_ok (by omega), Option.bind_some]; rfl
  · rw [if_neg h3, List.take_of_length_le (by omega)]

/-! ### Equal requests -/
theorem same_refl {q : ApiRequest} (h1 : okApiValue q.Data) (h2 : okApiPolicy q.Opts) : law45xsame q q = some true := by
  unfold law45xsame
  rw [refSame_eq h1, vsame_refl, refSamePolicy_eq h2, psame_refl]
  simp [gd]
theorem few_iff {r : ApiRun} : law45xfew r = some (decide (r.History.length ≤ 100 ∧ r.Pending.Kids.length ≤ 50 ∧ r.Pending.Sends.length ≤ 50)) := by
  unfold law45xfew
  congr 1
  rw [Bool.eq_iff_iff]
  by_cases h1 : r.History.length ≤ 100 <;> by_cases h2 : r.Pending.Kids.length ≤ 50 <;> by_cases h3 : r.Pending.Sends.length ≤ 50 <;> simp [h1, h2, h3] <;> omega
end Go.Proofs.YtopijeegnhighaaDoor
