/- Integers and their bytes, plainly; words for pure proofs. -/
import Derived.Test.YtlfggjfndmfblaaAbs29
import Derived.KernelRfl
namespace Go.Proofs.Ytlfggjfndmfblaa
open Go Abs
set_option linter.unusedSimpArgs false
set_option linter.unusedVariables false



/-! ### Integers as bytes, plainly -/
def zz (n : Int) : Nat := if 0 ≤ n then (2 * n).toNat else (2 * (-(n + 1)) + 1).toNat
def unzz (u : Nat) : Int := if u % 2 = 1 then -((u / 2 : Nat) : Int) - 1 else ((u / 2 : Nat) : Int)
def vint (u : Nat) : List UInt8 := if h : u < 128 then [UInt8.ofNat u] else UInt8.ofNat (128 + u % 128) :: vint (u / 128)
termination_by u
decreasing_by omega

theorem vint_lt {u : Nat} (h : u < 128) : vint u = [UInt8.ofNat u] := by rw [vint]; simp [h]
theorem vint_ge {u : Nat} (h : ¬ u < 128) : vint u = UInt8.ofNat (128 + u % 128) :: vint (u / 128) := by rw [vint]; simp [h]
theorem vint_len (k : Nat) : ∀ u, u < 128 ^ (k + 1) → (vint u).length ≤ k + 1 := by
  induction k with
  | zero => intro u h; rw [vint_lt (by simpa using h)]; simp
  | succ k ih =>
    intro u h
    by_cases hu : u < 128
    · rw [vint_lt hu]; simp
    · rw [vint_ge hu]
      have := ih (u / 128) (by rw [Nat.div_lt_iff_lt_mul (by omega)]; rw [Nat.pow_succ] at h; exact h)
      simp only [List.length_cons]
      omega
theorem vint_len10 {u : Nat} (h : u < 18446744073709551616) : (vint u).length ≤ 10 := vint_len 9 u (by omega)
theorem zz_lt {n : Int} (h1 : -9223372036854775808 ≤ n) (h2 : n ≤ 9223372036854775807) : zz n < 18446744073709551616 := by unfold zz; split <;> omega
theorem unzz_zz (n : Int) : unzz (zz n) = n := by unfold unzz zz; split <;> split <;> omega
theorem zz_unzz (u : Nat) : zz (unzz u) = u := by unfold unzz zz; split <;> split <;> omega
theorem unzz_ge {u : Nat} (h : u < 18446744073709551616) : -9223372036854775808 ≤ unzz u ∧ unzz u ≤ 9223372036854775807 := by unfold unzz; split <;> omega

theorem abits_xor64 (x y : Int) : abits .xor .u64 x y = IntKind.u64.wrap ((BitVec.ofInt 64 x ^^^ BitVec.ofInt 64 y).toNat : Int) := rfl
theorem u64_xor_zz {n : Int} (h1 : -9223372036854775808 ≤ n) (h2 : n ≤ 9223372036854775807) :
    abits .xor .u64 (IntKind.u64.wrap (IntKind.u64.wrap n * 2)) (IntKind.u64.wrap (n.fdiv 9223372036854775808)) = (zz n : Nat) := by
  rw [abits_xor64]
  by_cases h0 : 0 ≤ n
  · have e : n.fdiv 9223372036854775808 = 0 := by rw [Int.fdiv_eq_ediv_of_nonneg _ (by omega)]; omega
    have e2 : BitVec.ofInt 64 (IntKind.u64.wrap 0) = 0#64 := by decide
    rw [e, e2, BitVec.xor_zero, BitVec.toNat_ofInt]
    simp only [zz, h0, if_true, IntKind.wrap_u64]
    omega
  · have e : n.fdiv 9223372036854775808 = -1 := by rw [Int.fdiv_eq_ediv_of_nonneg _ (by omega)]; omega
    have e2 : BitVec.ofInt 64 (IntKind.u64.wrap (-1)) = BitVec.allOnes 64 := by decide
    rw [e, e2, BitVec.xor_allOnes, BitVec.toNat_not, BitVec.toNat_ofInt]
    simp only [zz, h0, if_false, IntKind.wrap_u64]
    omega

theorem u8_or_all : ((List.range 256).all fun x => decide (abits .or .u8 (x : Int) 128 = ((128 + x % 128 : Nat) : Int))) = true := by kernel_rfl
theorem u8_or {u : Nat} : abits .or .u8 (IntKind.u8.wrap u) 128 = ((128 + u % 128 : Nat) : Int) := by
  have h := List.all_eq_true.1 u8_or_all (u % 256) (List.mem_range.2 (by omega))
  rw [IntKind.wrap_u8, show (u : Int) % 256 = ((u % 256 : Nat) : Int) by omega, of_decide_eq_true h]
  omega
theorem shr7 {u : Nat} : (u : Int).fdiv 128 = ((u / 128 : Nat) : Int) := by rw [Int.fdiv_eq_ediv_of_nonneg _ (by omega)]; omega
theorem u8_byte {u : Nat} (h : u < 256) : (IntKind.u8.wrap (u : Int)) = ((UInt8.ofNat u).toNat : Int) := by
  rw [IntKind.wrap_u8]; simp
theorem byte_nat {u : Nat} (h : u < 256) : (u : Int) = ((UInt8.ofNat u).toNat : Int) := by simp; omega


/-- An integer read: an error, or the number and how many bytes it took. -/
def scan (k u : Nat) : List UInt8 → Nat ⊕ (Nat × Nat)
  | [] => if 10 ≤ k then .inl 3 else .inl 4
  | c :: r => if 10 ≤ k then .inl 3 else if 128 ≤ c.toNat then scan (k + 1) (u + c.toNat % 128 * 128 ^ k) r
    else if (0 < k ∧ c.toNat = 0) ∨ (k = 9 ∧ 1 < c.toNat) then .inl 3 else .inr (u + c.toNat * 128 ^ k, k + 1)

def rInt (rest : List UInt8) (low high : Int) : Int × Nat × Nat := match scan 0 0 rest with
  | .inl e => (0, 0, e)
  | .inr (u, k) => if unzz u < low ∨ high < unzz u then (0, k, 14) else (unzz u, k, 0)

theorem and127_all : ((List.range 256).all fun x => decide (abits .and .u8 (x : Int) 127 = ((x % 128 : Nat) : Int))) = true := by kernel_rfl
theorem and127 (c : UInt8) : abits .and .u8 (c.toNat : Int) 127 = ((c.toNat % 128 : Nat) : Int) :=
  of_decide_eq_true (List.all_eq_true.1 and127_all c.toNat (List.mem_range.2 (by have := c.toNat_lt; omega)))

theorem abits_or64 (x y : Int) : abits .or .u64 x y = IntKind.u64.wrap ((BitVec.ofInt 64 x ||| BitVec.ofInt 64 y).toNat : Int) := rfl
theorem abits_and64 (x y : Int) : abits .and .u64 x y = IntKind.u64.wrap ((BitVec.ofInt 64 x &&& BitVec.ofInt 64 y).toNat : Int) := rfl
theorem abits_xori64 (x y : Int) : abits .xor .i64 x y = IntKind.i64.wrap ((BitVec.ofInt 64 x ^^^ BitVec.ofInt 64 y).toNat : Int) := rfl

theorem or_add {u x i : Nat} (hu : u < 2 ^ i) (hx : 2 ^ i * x < 18446744073709551616) (hu2 : u < 18446744073709551616) : abits .or .u64 (u : Int) ((2 ^ i * x : Nat) : Int) = ((u + 2 ^ i * x : Nat) : Int) := by
  have h1 : 2 ^ i * x + u = 2 ^ i * x ||| u := Nat.two_pow_add_eq_or_of_lt hu x
  have h2 : (2 ^ i * x ||| u) < 2 ^ 64 := Nat.or_lt_two_pow (by omega) (by omega)
  rw [abits_or64, BitVec.toNat_or, BitVec.toNat_ofInt, BitVec.toNat_ofInt]
  have e1 : ((u : Int) % ((2 ^ 64 : Nat) : Int)).toNat = u := by omega
  have e2 : (((2 ^ i * x : Nat) : Int) % ((2 ^ 64 : Nat) : Int)).toNat = 2 ^ i * x := by omega
  rw [e1, e2, Nat.or_comm, ← h1, IntKind.wrap_u64]
  omega

theorem pow128 (k : Nat) : 128 ^ k = 2 ^ (7 * k) := by rw [Nat.pow_mul]

/-- One byte more. -/
theorem or_byte {u : Nat} (c : UInt8) {k : Nat} (hk : k ≤ 9) (hu : u < 128 ^ k) (hc : k ≤ 8 ∨ c.toNat ≤ 1) :
    abits .or .u64 (u : Int) (IntKind.u64.wrap (IntKind.u64.wrap ((c.toNat % 128 : Nat) : Int) * 2 ^ min (IntKind.i64.wrap (7 * (k : Int))).toNat IntKind.u64.bits)) = ((u + c.toNat % 128 * 128 ^ k : Nat) : Int) := by
  have h7 : (IntKind.i64.wrap (7 * (k : Int))).toNat = 7 * k := by
    have e : IntKind.i64.wrap (7 * (k : Int)) = 7 * (k : Int) := by rw [IntKind.wrap_i64]; omega
    rw [e]; omega
  have hm : min (7 * k) IntKind.u64.bits = 7 * k := by show min (7 * k) 64 = 7 * k; omega
  rw [h7, hm]
  have hx : 2 ^ (7 * k) * (c.toNat % 128) < 18446744073709551616 := by
    have hlt := c.toNat_lt
    have : k = 0 ∨ k = 1 ∨ k = 2 ∨ k = 3 ∨ k = 4 ∨ k = 5 ∨ k = 6 ∨ k = 7 ∨ k = 8 ∨ k = 9 := by omega
    rcases this with rfl | rfl | rfl | rfl | rfl | rfl | rfl | rfl | rfl | rfl <;> omega
  have hu64 : u < 18446744073709551616 := by
    have : (128 : Nat) ^ k ≤ 128 ^ 9 := Nat.pow_le_pow_right (by omega) hk
    omega
  rw [pow128] at hu
  have e : IntKind.u64.wrap (IntKind.u64.wrap ((c.toNat % 128 : Nat) : Int) * 2 ^ (7 * k)) = ((2 ^ (7 * k) * (c.toNat % 128) : Nat) : Int) := by
    have e1 : IntKind.u64.wrap ((c.toNat % 128 : Nat) : Int) = ((c.toNat % 128 : Nat) : Int) := by rw [IntKind.wrap_u64]; omega
    rw [e1, IntKind.wrap_u64]
    have e2 : ((c.toNat % 128 : Nat) : Int) * 2 ^ (7 * k) = ((2 ^ (7 * k) * (c.toNat % 128) : Nat) : Int) := by
      rw [Int.natCast_mul, Int.natCast_pow, Int.mul_comm]; rfl
    rw [e2]
    omega
  rw [e, or_add hu hx hu64, pow128, Nat.mul_comm]

theorem unzz_bits {u : Nat} (hu : u < 18446744073709551616) :
    abits .xor .i64 (IntKind.i64.wrap ((u : Int).fdiv 2)) (IntKind.i64.wrap (0 - IntKind.i64.wrap (abits .and .u64 (u : Int) 1))) = unzz u := by
  have ea : abits .and .u64 (u : Int) 1 = ((u % 2 : Nat) : Int) := by
    rw [abits_and64, BitVec.toNat_and, BitVec.toNat_ofInt, BitVec.toNat_ofInt]
    have e1 : ((u : Int) % ((2 ^ 64 : Nat) : Int)).toNat = u := by omega
    have e2 : ((1 : Int) % ((2 ^ 64 : Nat) : Int)).toNat = 1 := by decide
    rw [e1, e2, Nat.and_one_is_mod, IntKind.wrap_u64]
    omega
  have ef : (u : Int).fdiv 2 = ((u / 2 : Nat) : Int) := by rw [Int.fdiv_eq_ediv_of_nonneg _ (by omega)]; omega
  rw [ea, ef, abits_xori64]
  unfold unzz
  split
  · rename_i h
    have e2 : BitVec.ofInt 64 (IntKind.i64.wrap (0 - IntKind.i64.wrap ((u % 2 : Nat) : Int))) = BitVec.allOnes 64 := by rw [h]; decide
    rw [e2, BitVec.xor_allOnes, BitVec.toNat_not, BitVec.toNat_ofInt]
    simp only [IntKind.wrap_i64]
    omega
  · rename_i h
    have h0 : u % 2 = 0 := by omega
    have e2 : BitVec.ofInt 64 (IntKind.i64.wrap (0 - IntKind.i64.wrap ((u % 2 : Nat) : Int))) = 0#64 := by rw [h0]; decide
    rw [e2, BitVec.xor_zero, BitVec.toNat_ofInt]
    simp only [IntKind.wrap_i64]
    omega

theorem at_wrap {a k : Nat} (ha : a ≤ 1000000000000) (hk : k ≤ 9) : IntKind.i64.wrap ((a : Int) + IntKind.i64.wrap ((k : Int) + 1)) = ((a + (k + 1) : Nat) : Int) := by
  rw [show IntKind.i64.wrap ((k : Int) + 1) = (k : Int) + 1 by rw [IntKind.wrap_i64]; omega, IntKind.wrap_i64]; omega
theorem w64 {x : Int} (h1 : -9223372036854775808 ≤ x) (h2 : x ≤ 9223372036854775807) : IntKind.i64.wrap x = x := by rw [IntKind.wrap_i64]; omega
theorem wu64 {x : Int} (h1 : 0 ≤ x) (h2 : x ≤ 18446744073709551615) : IntKind.u64.wrap x = x := by rw [IntKind.wrap_u64]; omega
theorem sh1 : (2 : Int) ^ min (Int.toNat 1) IntKind.u64.bits = 2 := by decide
theorem sh63 : (2 : Int) ^ min (Int.toNat 63) IntKind.i64.bits = 9223372036854775808 := by decide
theorem sh7 : (2 : Int) ^ min (Int.toNat 7) IntKind.u64.bits = 128 := by decide
theorem byteOf_eq {n : Int} {x : UInt8} (h : n = (x.toNat : Int)) : byteOf n = some x := by rw [h, byteOf_nat]
theorem byteOf_u {n : Nat} (h : n < 256) : byteOf (n : Int) = some (UInt8.ofNat n) := byteOf_eq (byte_nat h)
theorem app_ok {α : Type} {k : Nat} {xs ys : List α} (h : (xs.length + ys.length) * k ≤ 140737488355328) : app k xs ys = some (xs ++ ys) := by rw [app, if_pos h]
theorem cat_ok {xs ys : List UInt8} (h : xs.length + ys.length ≤ 9223372036854775807) : cat xs ys = some (xs ++ ys) := by rw [cat, if_pos h]
theorem idx_of {α : Type} {l : List α} {i : Int} {n : Nat} (h : i = (n : Int)) : idx l i = l[n]? := by rw [h, idx_nat]
theorem nn_ok {b : Int} (h : 0 ≤ b) : nn b = some b := by rw [nn, if_pos h]
theorem nz_ok {b : Int} (h : b ≠ 0) : nz b = some b := by rw [nz, if_pos h]
theorem slcL_ok {α : Type} {xs : List α} {l : Int} (h : 0 ≤ l ∧ l ≤ xs.length) : slcL xs l = some (xs.drop l.toNat) := by rw [slcL, if_pos h]
theorem slcH_ok {α : Type} {xs : List α} {l : Int} (h : 0 ≤ l ∧ l ≤ xs.length) : slcH xs l = some (xs.take l.toNat) := by rw [slcH, if_pos h]
theorem slcB_ok {α : Type} {xs : List α} {l h : Int} (hh : 0 ≤ l ∧ l ≤ h ∧ h ≤ xs.length) : slcB xs l h = some ((xs.take h.toNat).drop l.toNat) := by rw [slcB, if_pos hh]
theorem cond_d {p : Prop} [Decidable p] {α : Type} {x y : α} : cond (decide p) x y = if p then x else y := by by_cases h : p <;> simp [h]
theorem cond_nd {p : Prop} [Decidable p] {α : Type} {x y : α} : cond (!decide p) x y = if p then y else x := by by_cases h : p <;> simp [h]
theorem cond_some {α : Type} {c : Bool} {a b : Option α} (ha : ∃ x, a = some x) (hb : ∃ x, b = some x) : ∃ x, cond c a b = some x := by cases c <;> assumption
theorem loop_next {σ ρ : Type} {body : σ → Option (Step σ ρ)} {s s' : σ} (h : body s = some (.next s')) : loopO body s = loopO body s' := by rw [loopO_eq, h]; rfl
theorem loop_out {σ ρ : Type} {body : σ → Option (Step σ ρ)} {s : σ} {r : ρ} (h : body s = some (.out r)) : loopO body s = some r := by rw [loopO_eq, h]; rfl

/-! ### Less and more fuel -/
def LeO {α : Type} (a b : Option α) : Prop := ∀ r, a = some r → b = some r
theorem le_same {α : Type} (a : Option α) : LeO a a := fun _ h => h
theorem le_none {α : Type} (a : Option α) : LeO none a := fun _ h => by cases h
theorem le_bind {α β : Type} {a b : Option α} {f g : α → Option β} (h : LeO a b) (k : ∀ x, LeO (f x) (g x)) : LeO (a.bind f) (b.bind g) := fun r e => by
  obtain ⟨x, hx, e⟩ := bind_s e
  rw [h x hx]; exact k x r e
theorem le_cond {α : Type} {c : Bool} {a b a2 b2 : Option α} (h : LeO a a2) (k : LeO b b2) : LeO (cond c a b) (cond c a2 b2) := by cases c <;> assumption
theorem le_gd {α : Type} [Inhabited α] {c : Bool} {a b : Option α} (h : LeO a b) : LeO (gd c a) (gd c b) := by
  cases c
  · exact fun _ h => h
  · exact h
theorem le_next {τ κ : Type} {x : Fl τ κ} {f g : κ → Option τ} (h : ∀ j, LeO (f j) (g j)) : LeO (Fl.next x f) (Fl.next x g) := by
  cases x
  · exact fun _ h => h
  · exact h _
def loopE {σ ρ : Type} (n : Nat) (body : σ → Option (Step σ ρ)) (s : σ) : Option ρ := loopF body n s
theorem loopF_le {σ ρ : Type} {b c : σ → Option (Step σ ρ)} (h : ∀ s, LeO (b s) (c s)) : ∀ n s, LeO (loopF b n s) (loopF c n s)
  | 0, _ => fun _ h => by cases h
  | n + 1, s => fun r e => by
    simp only [loopF] at e ⊢
    cases hb : b s with
    | none => rw [hb] at e; cases e
    | some x =>
      rw [hb] at e; rw [h s _ hb]
      cases x with
      | out y => exact e
      | next t => exact loopF_le h n t r e
theorem le_loop {σ ρ : Type} {n : Nat} {b c : σ → Option (Step σ ρ)} {s : σ} (h : ∀ s, LeO (b s) (c s)) : LeO (loopE n b s) (loopO c s) := fun r e => loopO_of (loopF_le h _ s r e)
theorem le_loopO {σ ρ : Type} {b c : σ → Option (Step σ ρ)} {s : σ} (h : ∀ s, LeO (b s) (c s)) : LeO (loopO b s) (loopO c s) := fun r e => by
  obtain ⟨n, hn⟩ := loopO_some e
  exact loopO_of (loopF_le h n s r hn)
theorem le_lim2 {β : Type} {n : Nat} {a : Option β} {f : Nat → Option β} (h : ∀ m, n ≤ m → LeO a (f m)) : LeO a (lim f) := fun r e => lim_eq n fun m hm => h m hm r e
theorem lim_of {β : Type} {n : Nat} {f : Nat → Option β} {r : β} (h : f n = some r) (mono : ∀ m, n ≤ m → LeO (f n) (f m)) : lim f = some r := lim_eq n fun m hm => mono m hm r h
end Go.Proofs.Ytlfggjfndmfblaa
