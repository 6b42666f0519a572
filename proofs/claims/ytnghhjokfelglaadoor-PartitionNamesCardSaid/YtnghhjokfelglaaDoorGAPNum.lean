/- Decimal numerals, plainly: the reference's digits, and reading them back. -/
import Derived.Test.YtnghhjokfelglaaDoorGAPLoop
import Derived.Test.YtnghhjokfelglaaDoorGAEvMono
import Derived.Test.YtnghhjokfelglaaDoorGAPDig
import Derived.Test.YtnghhjokfelglaaDoorGAPNm

namespace Go.Proofs.YtnghhjokfelglaaDoor
open Go Abs
set_option linter.unusedSimpArgs false
set_option linter.unusedVariables false

theorem digitsF_eq : ∀ (n u : Nat), u < 10 ^ (n + 1) → u ≤ 9223372036854775808 → n ≤ 30 → ref03xdigitsF (n + 1) (-(u : Int)) = some (Lib.decDigits u) := by
  intro n
  induction n with
  | zero =>
    intro u h hb _
    have hu : u < 10 := by omega
    rw [ref03xdigitsF]
    have e1 : IntKind.u8.wrap (IntKind.i64.wrap (48 + IntKind.i64.wrap (0 - (-(u : Int)).tmod 10))) = ((48 + u : Nat) : Int) := by
      have : (-(u : Int)).tmod 10 = -(u : Int) := by rw [Int.neg_tmod, Int.tmod_eq_emod_of_nonneg (by omega)]; omega
      rw [this, IntKind.wrap_u8, IntKind.wrap_i64, IntKind.wrap_i64]; omega
    rw [e1, byteOf_u (by omega), Option.bind_some, cond_d, if_pos (by omega), dec_lt hu]
  | succ n ih =>
    intro u h hb hn
    rw [ref03xdigitsF]
    have e1 : IntKind.u8.wrap (IntKind.i64.wrap (48 + IntKind.i64.wrap (0 - (-(u : Int)).tmod 10))) = ((48 + u % 10 : Nat) : Int) := by
      have : (-(u : Int)).tmod 10 = -((u % 10 : Nat) : Int) := by rw [Int.neg_tmod, Int.tmod_eq_emod_of_nonneg (by omega)]; omega
      rw [this, IntKind.wrap_u8, IntKind.wrap_i64, IntKind.wrap_i64]; omega
    rw [e1, byteOf_u (by omega), Option.bind_some, cond_d]
    by_cases hu : u < 10
    · rw [if_pos (by omega), dec_lt hu, Nat.mod_eq_of_lt hu]
    · rw [if_neg (by omega)]
      have e2 : IntKind.i64.wrap ((-(u : Int)).tdiv 10) = -((u / 10 : Nat) : Int) := by
        have : (-(u : Int)).tdiv 10 = -((u / 10 : Nat) : Int) := by rw [Int.neg_tdiv, Int.tdiv_eq_ediv_of_nonneg (by omega)]; omega
        rw [this, w64 (by omega) (by omega)]
      have hl := dec_len n (u / 10) (by rw [Nat.pow_succ] at h; omega)
      rw [e2, ih (u / 10) (by rw [Nat.pow_succ] at h; omega) (by omega) (by omega), Option.bind_some, cat_ok (by simp; omega), Option.bind_some, dec_ge hu]
theorem digits_eq {u : Nat} (h : u ≤ 9223372036854775808) : ref03xdigits (-(u : Int)) = some (Lib.decDigits u) := ref03xdigits_lim (digitsF_eq 19 u (by omega) h (by omega))
/-! ### Reading back -/
/-- One digit more. -/
def rdS (a : Nat) (c : UInt8) : Nat := 10 * a + (c.toNat - 48)
/-- What the digits behind a number add to it. -/
def rd (a : Nat) (l : List UInt8) : Nat := l.foldl rdS a
theorem rd_cons (c : UInt8) (l : List UInt8) (a : Nat) : rd a (c :: l) = rd (rdS a c) l := List.foldl_cons ..
theorem rd_nil (a : Nat) : rd a [] = a := List.foldl_nil ..
theorem rd_append (l m : List UInt8) (a : Nat) : rd a (l ++ m) = rd (rd a l) m := List.foldl_append ..
theorem rdS_ge (a : Nat) (c : UInt8) : a ≤ rdS a c := by unfold rdS; omega
theorem rd_ge : ∀ (l : List UInt8) (a : Nat), a ≤ rd a l
  | [], a => by rw [rd_nil]; exact Nat.le_refl a
  | c :: l, a => by rw [rd_cons]; exact Nat.le_trans (rdS_ge a c) (rd_ge l (rdS a c))
def dig (c : UInt8) : Prop := 48 ≤ c.toNat ∧ c.toNat ≤ 57
theorem dig_of {u : Nat} (h : u < 10) : dig (UInt8.ofNat (48 + u)) ∧ (UInt8.ofNat (48 + u)).toNat - 48 = u := by
  have : (UInt8.ofNat (48 + u)).toNat = 48 + u := by simp; omega
  unfold dig; omega
theorem rd_dec : ∀ u, rd 0 (Lib.decDigits u) = u ∧ ∀ c ∈ Lib.decDigits u, dig c := by
  intro u
  induction u using Nat.strongRecOn with
  | _ u ih =>
    by_cases h : u < 10
    · obtain ⟨h1, h2⟩ := dig_of h
      rw [dec_lt h, rd_cons, rd_nil]
      refine ⟨?_, by simp only [List.mem_singleton]; rintro c rfl; exact h1⟩
      unfold rdS
      omega
    · obtain ⟨h1, h2⟩ := dig_of (u := u % 10) (by omega)
      obtain ⟨i1, i2⟩ := ih (u / 10) (by omega)
      rw [dec_ge h, rd_append, i1, rd_cons, rd_nil]
      refine ⟨?_, ?_⟩
      · unfold rdS
        omega
      · intro c hc
        rcases List.mem_append.1 hc with hc | hc
        · exact i2 c hc
        · rw [List.mem_singleton.1 hc]; exact h1
theorem dec_ne (u : Nat) : Lib.decDigits u ≠ [] := by
  by_cases h : u < 10
  · rw [dec_lt h]; simp
  · rw [dec_ge h]; simp
theorem parse_rd : ∀ (l : List UInt8) (a : Nat), (∀ c ∈ l, dig c) → rd a l < 18446744073709551616 → Lib.parseUint10 a l = .ok (rd a l) := by
  intro l
  induction l with
  | nil => intro a _ _; rw [rd_nil, Lib.parseUint10]
  | cons c l ih =>
    intro a hd hr
    have hc := hd c (by simp)
    have hge := rd_ge l (rdS a c)
    rw [rd_cons] at hr ⊢
    unfold dig at hc
    have hs : rdS a c = 10 * a + (c.toNat - 48) := rfl
    rw [Lib.parseUint10, if_pos hc, if_neg (by omega), Nat.mul_comm a 10, if_neg (by omega), ← hs]
    exact ih _ (fun x hx => hd x (by simp [hx])) hr
theorem atoi_dec {u : Nat} (h : u ≤ 9223372036854775807) : Lib.atoiAll (Lib.decDigits u) = .ok (u : Int) := by
  obtain ⟨h1, h2⟩ := rd_dec u
  have hp := parse_rd (Lib.decDigits u) 0 h2 (by omega)
  rw [h1] at hp
  have hne := dec_ne u
  generalize Lib.decDigits u = l at *
  cases l with
  | nil => exact absurd rfl hne
  | cons c r =>
    have hc := h2 c (by simp)
    unfold dig at hc
    unfold Lib.atoiAll
    simp only
    rw [if_neg (by omega)]
    unfold Lib.parseMag
    rw [if_neg (by simp), hp]
    simp only
    rw [if_neg (by omega), if_neg (by omega), if_neg (by omega)]

/-! ### A run's number -/
theorem em64 {x : Int} (h1 : -9223372036854775808 ≤ x) (h2 : x ≤ 9223372036854775807) : (x + 9223372036854775808) % 18446744073709551616 - 9223372036854775808 = x := by omega
theorem em64b {x : Int} (h1 : -9223372036854775808 ≤ x - 48) (h2 : x - 48 ≤ 9223372036854775807) : ((x + 9223372036854775808) % 18446744073709551616 - 9223372036854775808 - 48 + 9223372036854775808) % 18446744073709551616 - 9223372036854775808 = x - 48 := by omega
theorem rd_take1 (c : UInt8) (l : List UInt8) : rd 0 (((c :: l).take 1).drop 1) = 0 := by
  rw [List.take_succ_cons, List.take_zero, List.drop_succ_cons, List.drop_zero, rd_nil]
theorem drop1 (c : UInt8) (l : List UInt8) : (c :: l).drop 1 = l := by rw [List.drop_succ_cons, List.drop_zero]