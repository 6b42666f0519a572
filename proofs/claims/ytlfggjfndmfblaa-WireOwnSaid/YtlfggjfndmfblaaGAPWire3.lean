/- The reader's strings and booleans, the reference's writers, the examples, and three laws of layer 1, plainly. -/
import Derived.Test.YtlfggjfndmfblaaGAPWire2
import Derived.Test.YtlfggjfndmfblaaGAF0
namespace Go.Proofs.Ytlfggjfndmfblaa
open Go Abs
set_option linter.unusedSimpArgs false
set_option linter.unusedVariables false

/-! ### Reading what was written -/
theorem pow_le_2_64 {k u : Nat} (h : u * 128 ^ k < 18446744073709551616) (hu : 0 < u) : k ≤ 9 := by
  refine Classical.byContradiction fun hk => ?_
  have h1 : 128 ^ 10 ≤ 128 ^ k := Nat.pow_le_pow_right (by omega) (by omega)
  have h2 : 1 * 128 ^ k ≤ u * 128 ^ k := Nat.mul_le_mul_right _ hu
  have h3 : (128 : Nat) ^ 10 = 1180591620717411303424 := by decide
  omega

theorem scan_vint (rest : List UInt8) : ∀ (u k acc : Nat), (k = 0 ∨ 0 < u) → u * 128 ^ k < 18446744073709551616 → scan k acc (vint u ++ rest) = .inr (acc + u * 128 ^ k, k + (vint u).length) := by
  intro u
  induction u using Nat.strongRecOn with
  | _ u ih =>
    intro k acc h0 hlt
    have hk : k ≤ 9 := by
      rcases h0 with h | h
      · omega
      · exact pow_le_2_64 hlt h
    by_cases h : u < 128
    · rw [vint_lt h]
      have e : (UInt8.ofNat u).toNat = u := by simp; omega
      simp only [List.cons_append, List.nil_append, scan, e]
      rw [if_neg (by omega), if_neg (by omega), if_neg]
      · rfl
      · rintro (⟨h1, h2⟩ | ⟨h1, h2⟩)
        · omega
        · subst h1
          have : (128 : Nat) ^ 9 = 9223372036854775808 := by decide
          rw [this] at hlt
          omega
    · rw [vint_ge h]
      have e : (UInt8.ofNat (128 + u % 128)).toNat = 128 + u % 128 := by simp; omega
      simp only [List.cons_append, scan, e]
      rw [if_neg (by omega), if_pos (by omega)]
      have hs : 128 ^ (k + 1) = 128 ^ k * 128 := Nat.pow_succ ..
      have hm : u / 128 * 128 ^ (k + 1) + u % 128 * 128 ^ k = u * 128 ^ k := by
        rw [hs, Nat.mul_comm (128 ^ k) 128, ← Nat.mul_assoc, ← Nat.add_mul, Nat.mul_comm (u / 128) 128, Nat.div_add_mod]
      rw [ih (u / 128) (by omega) (k + 1) _ (.inr (by omega)) (by omega), show (128 + u % 128) % 128 = u % 128 by omega]
      simp only [List.length_cons, Sum.inr.injEq, Prod.mk.injEq]
      exact ⟨by omega, by omega⟩

theorem rInt_vint {n low high : Int} (rest : List UInt8) (h1 : -9223372036854775808 ≤ n) (h2 : n ≤ 9223372036854775807) :
    rInt (vint (zz n) ++ rest) low high = if n < low ∨ high < n then (0, (vint (zz n)).length, 14) else (n, (vint (zz n)).length, 0) := by
  have h := zz_lt h1 h2
  unfold rInt
  rw [scan_vint rest (zz n) 0 0 (.inl rfl) (by simpa using h)]
  simp only [Nat.zero_add, Nat.pow_zero, Nat.mul_one, unzz_zz]

/-- An integer's encoding begins another one's only if they are the same. -/
theorem vint_pre : ∀ (u v : Nat), vint u = (vint v).take (vint u).length → u = v := by
  intro u
  induction u using Nat.strongRecOn with
  | _ u ih =>
    intro v h
    by_cases hu : u < 128
    · rw [vint_lt hu] at h
      by_cases hv : v < 128
      · rw [vint_lt hv] at h
        have := congrArg (fun l => l.map UInt8.toNat) h
        simp at this
        omega
      · rw [vint_ge hv] at h
        have := congrArg (fun l => l.map UInt8.toNat) h
        simp at this
        omega
    · rw [vint_ge hu] at h
      by_cases hv : v < 128
      · rw [vint_lt hv] at h
        have := congrArg (fun l => l.map UInt8.toNat) h
        simp at this
        omega
      · rw [vint_ge hv] at h
        simp only [List.length_cons, List.take_succ_cons, List.cons.injEq] at h
        have e := ih (u / 128) (by omega) (v / 128) h.2
        have h3 := congrArg UInt8.toNat h.1
        simp at h3
        omega

/-! ### The reader -/
theorem scan_used : ∀ (l : List UInt8) (k u w n : Nat), scan k u l = .inr (w, n) → n ≤ k + l.length
  | [], k, u, w, n, h => by simp only [scan] at h; split at h <;> cases h
  | c :: r, k, u, w, n, h => by
    simp only [scan] at h
    split at h
    · cases h
    · split at h
      · have := scan_used r _ _ _ _ h
        simp only [List.length_cons]
        omega
      · split at h
        · cases h
        · cases h
          simp only [List.length_cons]
          omega
theorem rInt_used (l : List UInt8) (low high : Int) : (rInt l low high).2.1 ≤ l.length := by
  unfold rInt
  split
  · simp
  · rename_i u k h
    have := scan_used l 0 0 u k h
    split <;> simp <;> omega
theorem rInt_in {l : List UInt8} {low high : Int} (h : (rInt l low high).2.2 = 0) : low ≤ (rInt l low high).1 ∧ (rInt l low high).1 ≤ high := by
  unfold rInt at h ⊢
  split
  · rename_i e hs
    rw [hs] at h
    simp only at h
    exfalso
    -- an error is not 0
    have key : ∀ (l : List UInt8) (k u e : Nat), scan k u l = .inl e → e = 3 ∨ e = 4 := by
      intro l
      induction l with
      | nil => intro k u e h; simp only [scan] at h; split at h <;> cases h <;> simp
      | cons c r ih =>
        intro k u e h
        simp only [scan] at h
        split at h
        · cases h; simp
        · split at h
          · exact ih _ _ _ h
          · split at h <;> cases h
            simp
    rcases key _ _ _ _ hs with h2 | h2 <;> omega
  · rename_i u k hs
    rw [hs] at h
    simp only at h
    by_cases hc : unzz u < low ∨ high < unzz u
    · rw [if_pos hc] at h; simp at h
    · rw [if_neg hc]; simp only; omega

def rText (b : List UInt8) (at_ : Nat) (most : Int) : List UInt8 × WireReader :=
  if (rInt (b.drop at_) 0 most).2.2 ≠ 0 then ([], afterInt b at_ 0 most)
  else if (b.length : Int) - (at_ + (rInt (b.drop at_) 0 most).2.1 : Nat) < (rInt (b.drop at_) 0 most).1 then ([], ⟨b, (at_ + (rInt (b.drop at_) 0 most).2.1 : Nat), 4, true⟩)
  else ((b.drop (at_ + (rInt (b.drop at_) 0 most).2.1)).take (rInt (b.drop at_) 0 most).1.toNat, ⟨b, (at_ + (rInt (b.drop at_) 0 most).2.1 + (rInt (b.drop at_) 0 most).1.toNat : Nat), 0, true⟩)

theorem text_eq {b : List UInt8} {at_ : Nat} {most : Int} (h1 : at_ ≤ b.length) (hb : b.length ≤ 1000000000) : wire_Reader_Text most ⟨b, at_, 0, true⟩ = some (rText b at_ most) := by
  have hu := rInt_used (b.drop at_) 0 most
  rw [List.length_drop] at hu
  unfold wire_Reader_Text rText
  rw [int_eq h1 hb, Option.bind_some]
  unfold afterInt
  rw [dead_eq, Option.bind_some]
  by_cases he : (rInt (b.drop at_) 0 most).2.2 = 0
  · have hin := rInt_in he
    generalize hr : rInt (b.drop at_) 0 most = r at *
    obtain ⟨v, k, e⟩ := r
    simp only at he hin hu
    subst he
    simp only [Bool.not_true, cond_false, Int.natCast_zero, decide_true, cond_d, ne_eq, not_true_eq_false, if_false]
    rw [w64 (by omega) (by omega)]
    by_cases h3 : (b.length : Int) - (at_ + k : Nat) < v
    · rw [if_pos h3, if_pos h3]
    · rw [if_neg h3, if_neg h3, w64 (by omega) (by omega), slcB_ok (by omega), Option.bind_some]
      have e1 : (((at_ + k : Nat) : Int) + v).toNat = at_ + k + v.toNat := by omega
      rw [e1, Int.toNat_natCast, List.drop_take, show at_ + k + v.toNat - (at_ + k) = v.toNat by omega]
      congr 3
      omega
  · rw [if_pos he]
    have : decide (((rInt (b.drop at_) 0 most).2.2 : Int) = 0) = false := by simp; omega
    simp only [this, Bool.not_true, Bool.not_false, cond_false, cond_true]

def rBool (rest : List UInt8) : Bool × Nat × Nat := match rest with
  | [] => (false, 0, 4)
  | c :: _ => if 1 < c.toNat then (false, 0, 3) else (c.toNat == 1, 1, 0)
theorem bool_eq {b : List UInt8} {at_ : Nat} (h1 : at_ ≤ b.length) (hb : b.length ≤ 1000000000) : wire_Reader_Bool ⟨b, at_, 0, true⟩ = some ((rBool (b.drop at_)).1, ⟨b, (at_ + (rBool (b.drop at_)).2.1 : Nat), (rBool (b.drop at_)).2.2, true⟩) := by
  unfold wire_Reader_Bool
  rw [dead_eq, Option.bind_some]
  simp only [Bool.not_true, cond_false, decide_true, cond_d]
  by_cases h2 : (b.length : Int) ≤ at_
  · rw [if_pos h2, List.drop_eq_nil_of_le (by omega)]; rfl
  · rw [if_neg h2]
    have hlt : at_ < b.length := by omega
    rw [idx_nat, List.getElem?_eq_getElem hlt, Option.bind_some, List.drop_eq_getElem_cons hlt]
    simp only [rBool]
    by_cases h3 : (1 : Int) < (b[at_].toNat : Int)
    · rw [if_pos h3, if_pos (by omega)]; rfl
    · rw [if_neg h3, if_neg (by omega), w64 (by omega) (by omega)]
      congr 2
      rw [Bool.eq_iff_iff]; simp; omega

/-! ### The reference's writers -/
theorem zigzag_eq {n : Int} (h1 : -9223372036854775808 ≤ n) (h2 : n ≤ 9223372036854775807) : ref01xzigzag n = some (zz n : Int) := by
  unfold ref01xzigzag
  rw [cond_d]
  by_cases h : 0 ≤ n
  · rw [if_pos h]; congr 1; simp only [IntKind.wrap_u64, zz, h, if_true]; omega
  · rw [if_neg h]; congr 1; simp only [IntKind.wrap_u64, IntKind.wrap_i64, zz, h, if_false]; omega

theorem refPutInt_eq {b : List UInt8} {n : Int} (hb : b.length ≤ 1000000000) (h1 : -9223372036854775808 ≤ n) (h2 : n ≤ 9223372036854775807) : ref01xPutInt b n = some (b ++ vint (zz n)) := by
  have hv := vint_len10 (zz_lt h1 h2)
  unfold ref01xPutInt
  rw [app_ok (by simp; omega), Option.bind_some, List.nil_append, zigzag_eq h1 h2, Option.bind_some]
  obtain ⟨r, hr, u, hu, hlt, he⟩ := loop_ex (body := ref01xPutInt_l1) (fun s => ∃ u : Nat, s.2 = (u : Int) ∧ u < 18446744073709551616 ∧ s.1 ++ vint u = b ++ vint (zz n)) (fun s => s.2.toNat)
    (fun r => ∃ u : Nat, r.2 = (u : Int) ∧ u < 128 ∧ r.1 ++ vint u = b ++ vint (zz n)) (fun s ⟨u, hu, hlt, he⟩ => by
      have hlen : s.1.length + (vint u).length = b.length + (vint (zz n)).length := by simpa using congrArg List.length he
      unfold ref01xPutInt_l1
      rw [hu, cond_d]
      by_cases h : u < 128
      · rw [if_neg (by omega)]
        exact .inr ⟨_, rfl, u, rfl, h, he⟩
      · rw [if_pos (by omega)]
        have e : IntKind.u8.wrap (IntKind.u64.wrap ((u : Int).tmod 128 + 128)) = ((128 + u % 128 : Nat) : Int) := by
          rw [IntKind.wrap_u64, IntKind.wrap_u8, Int.tmod_eq_emod_of_nonneg (by omega)]; omega
        rw [e, byteOf_u (by omega), Option.bind_some, app_ok (by simp; omega), Option.bind_some]
        have e2 : IntKind.u64.wrap ((u : Int).tdiv 128) = ((u / 128 : Nat) : Int) := by rw [IntKind.wrap_u64, Int.tdiv_eq_ediv_of_nonneg (by omega)]; omega
        rw [e2]
        refine .inl ⟨_, rfl, ⟨u / 128, rfl, by omega, ?_⟩, by simp; omega⟩
        rw [← he, vint_ge h, List.append_assoc, List.singleton_append]) (b, (zz n : Nat)) ⟨zz n, rfl, zz_lt h1 h2, rfl⟩
  have hlen : r.1.length + (vint u).length = b.length + (vint (zz n)).length := by simpa using congrArg List.length he
  rw [hr, Option.bind_some, hu, byteOf_eq (u8_byte (by omega)), Option.bind_some, app_ok (by simp; omega), Option.bind_some, ← vint_lt hlt, he]

theorem works_eq : law01xworks = some true := by
  have b1 : byteOf (1 : Int) = some 1 := rfl
  have b0 : byteOf (0 : Int) = some 0 := rfl
  have b4 : byteOf (4 : Int) = some 4 := rfl
  have b7 : byteOf (7 : Int) = some 7 := rfl
  have b97 : byteOf (97 : Int) = some 97 := rfl
  have b98 : byteOf (98 : Int) = some 98 := rfl
  have b128 : byteOf (128 : Int) = some 128 := rfl
  have b129 : byteOf (129 : Int) = some 129 := rfl
  have e3 : rText [4, 97] 0 9 = ([], ⟨[4, 97], 1, 4, true⟩) := by
    unfold rText
    have : rInt (List.drop 0 [4, 97]) 0 9 = (2, 1, 0) := by decide
    rw [this]; rfl
  have hT : wire_Reader_Text 9 ⟨[4, 97], 0, 0, true⟩ = some ([], ⟨[4, 97], 1, 4, true⟩) := by
    have := text_eq (b := [4, 97]) (at_ := 0) (most := 9) (by decide) (by decide)
    rw [e3] at this
    exact this
  have e4 : afterInt [128, 0] 0 (-9223372036854775808) 9223372036854775807 = ⟨[128, 0], 0, 3, true⟩ := by
    unfold afterInt
    have : rInt (List.drop 0 [128, 0]) (-9223372036854775808) 9223372036854775807 = (0, 0, 3) := by decide
    rw [this]; rfl
  have hI : wire_Reader_Int (-9223372036854775808) 9223372036854775807 ⟨[128, 0], 0, 0, true⟩ = some (0, ⟨[128, 0], 0, 3, true⟩) := by
    have := int_eq (b := [128, 0]) (at_ := 0) (low := -9223372036854775808) (high := 9223372036854775807) (by decide) (by decide)
    rw [e4] at this
    have h2 : (rInt (List.drop 0 [128, 0]) (-9223372036854775808) 9223372036854775807).1 = 0 := by decide
    rw [h2] at this
    exact this
  have v1 : ([7] : List UInt8) ++ vint (zz (-65)) = [7, 129, 1] := by
    rw [show zz (-65) = 129 by decide, vint_ge (by decide), vint_lt (by decide)]; decide
  have v2 : ([] : List UInt8) ++ vint (zz (([97, 98] : List UInt8).length : Int)) ++ [97, 98] = [4, 97, 98] := by
    rw [show zz (([97, 98] : List UInt8).length : Int) = 4 by decide, vint_lt (by decide)]; decide
  have hp : wire_PutInt [7] (-65) = some [7, 129, 1] := by rw [wire_PutInt_eq (by decide) (by decide) (by decide), v1]
  have hq : wire_PutText [] [97, 98] = some [4, 97, 98] := by rw [wire_PutText_eq (by decide) (by decide), v2]
  unfold law01xworks
  simp only [b0, b1, b4, b7, b97, b98, b128, b129, Option.bind_some, wire_Open_eq (show ([4, 97] : List UInt8).length ≤ 140737488355328 by decide), wire_Open_eq (show ([128, 0] : List UInt8).length ≤ 140737488355328 by decide), hT, hI, hp, hq, equal_eq (show ([7, 129, 1] : List UInt8).length ≤ 1000000000 by decide), equal_eq (show ([4, 97, 98] : List UInt8).length ≤ 1000000000 by decide), decide_true, cond_true, err_eq, wire_Open_eq (show ([] : List UInt8).length ≤ 140737488355328 by decide), end_eq]
  rfl

/-! ### Laws -/