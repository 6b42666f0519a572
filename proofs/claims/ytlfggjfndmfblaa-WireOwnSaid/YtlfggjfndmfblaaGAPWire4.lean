/- The reference's reader, and laws of layer 1, plainly. -/
import Derived.Test.YtlfggjfndmfblaaGAPWire3
import Derived.Test.YtlfggjfndmfblaaGAF0
namespace Go.Proofs.Ytlfggjfndmfblaa
open Go Abs
set_option linter.unusedSimpArgs false
set_option linter.unusedVariables false

/-! ### The number of some bytes -/
def val128 : List UInt8 → Nat
  | [] => 0
  | c :: r => c.toNat % 128 + 128 * val128 r
theorem scan_val : ∀ (l : List UInt8) (k u w n : Nat), scan k u l = .inr (w, n) → k < n ∧ n ≤ k + l.length ∧ w = u + 128 ^ k * val128 (l.take (n - k))
  | [], k, u, w, n, h => by simp only [scan] at h; split at h <;> cases h
  | c :: r, k, u, w, n, h => by
    simp only [scan] at h
    split at h
    · cases h
    · split at h
      · obtain ⟨h1, h2, h3⟩ := scan_val r _ _ _ _ h
        refine ⟨by omega, by simp only [List.length_cons]; omega, ?_⟩
        rw [show n - k = (n - (k + 1)) + 1 by omega, List.take_succ_cons, val128, h3, Nat.pow_succ, Nat.mul_add, Nat.mul_assoc, Nat.add_assoc, Nat.mul_comm (c.toNat % 128)]
      · rename_i h3
        split at h
        · cases h
        · cases h
          refine ⟨by omega, by simp, ?_⟩
          rw [show k + 1 - k = 0 + 1 by omega, List.take_succ_cons, val128, List.take_zero, val128, show c.toNat % 128 = c.toNat by omega, Nat.mul_zero, Nat.add_zero, Nat.mul_comm]
theorem scan_lt : ∀ (l : List UInt8) (k u w n : Nat), scan k u l = .inr (w, n) → k ≤ 9 → u < 128 ^ k → w < 18446744073709551616
  | [], k, u, w, n, h, _, _ => by simp only [scan] at h; split at h <;> cases h
  | c :: r, k, u, w, n, h, hk, hu => by
    have hc := c.toNat_lt
    simp only [scan] at h
    split at h
    · cases h
    · split at h
      · have hlt : u + c.toNat % 128 * 128 ^ k < 128 ^ (k + 1) := by
          rw [Nat.pow_succ]
          have : c.toNat % 128 * 128 ^ k ≤ 127 * 128 ^ k := Nat.mul_le_mul_right _ (by omega)
          omega
        by_cases hk9 : k = 9
        · exfalso
          subst hk9
          cases r with
          | nil => simp [scan] at h
          | cons d r => simp [scan] at h
        · exact scan_lt r _ _ _ _ h (by omega) hlt
      · split at h
        · cases h
        · rename_i h3 h4
          cases h
          have : k = 0 ∨ k = 1 ∨ k = 2 ∨ k = 3 ∨ k = 4 ∨ k = 5 ∨ k = 6 ∨ k = 7 ∨ k = 8 ∨ k = 9 := by omega
          rcases this with rfl | rfl | rfl | rfl | rfl | rfl | rfl | rfl | rfl | rfl <;> omega
theorem scan_err : ∀ (l : List UInt8) (k u e : Nat), scan k u l = .inl e → e = 3 ∨ e = 4
  | [], k, u, e, h => by simp only [scan] at h; split at h <;> cases h <;> simp
  | c :: r, k, u, e, h => by
    simp only [scan] at h
    split at h
    · cases h; simp
    · split at h
      · exact scan_err r _ _ _ h
      · split at h <;> cases h
        simp

/-! ### The reference's reader -/
def scanRes (rest : List UInt8) : Int × Int := match scan 0 0 rest with
  | .inl e => (0, (e : Int))
  | .inr (_, n) => ((n : Int), 0)
theorem count_eq {m : Bool} {rest : List UInt8} {x : Int} (hr : rest.length ≤ 1000000000) : ref01xReader_count ⟨m, rest, x⟩ = some (scanRes rest) := by
  unfold ref01xReader_count
  obtain ⟨r, h1, h2⟩ : ∃ r, loopO (ref01xReader_count_l1 ⟨m, rest, x⟩) (1 : Int) = some r ∧ Fl.next r (fun _ => some ((0 : Int), (3 : Int))) = some (scanRes rest) := by
    refine loop_ex (fun (s : Int) => ∃ k : Nat, s = (k : Int) + 1 ∧ ((k ≤ 9 ∧ k ≤ rest.length ∧ ∃ u : Nat, scan 0 0 rest = scan k u (rest.drop k)) ∨ (k = 10 ∧ scan 0 0 rest = .inl 3))) (fun s => 12 - s.toNat) _ ?_ 1 ⟨0, rfl, .inl ⟨by omega, by omega, 0, by simp⟩⟩
    rintro s ⟨k, rfl, hI⟩
    unfold ref01xReader_count_l1
    rw [cond_d]
    obtain ⟨hk, hkl, u, hs⟩ | ⟨rfl, hs⟩ := hI
    · rw [if_pos (by omega), cond_d]
      by_cases h3 : (rest.length : Int) < (k : Int) + 1
      · rw [if_pos h3]
        refine .inr ⟨_, rfl, ?_⟩
        have hd : rest.drop k = [] := List.drop_eq_nil_of_le (by omega)
        rw [hd] at hs
        simp only [scan] at hs
        rw [if_neg (by omega)] at hs
        simp only [scanRes, hs]; rfl
      · rw [if_neg h3]
        have hlt : k < rest.length := by omega
        rw [w64 (by omega) (by omega), show (k : Int) + 1 - 1 = (k : Int) by omega, idx_nat, List.getElem?_eq_getElem hlt, Option.bind_some]
        generalize hc : rest[k] = c
        have hd : rest.drop k = c :: rest.drop (k + 1) := by rw [← hc]; exact List.drop_eq_getElem_cons hlt
        rw [hd] at hs
        simp only [scan] at hs
        rw [if_neg (by omega)] at hs
        rw [cond_d]
        by_cases h4 : (c.toNat : Int) < 128
        · rw [if_pos h4]
          rw [if_neg (by omega)] at hs
          by_cases hX : (0 < k ∧ c.toNat = 0) ∨ (k = 9 ∧ 1 < c.toNat)
          · rw [if_pos hX] at hs
            have e : (cond (cond (decide ((1 : Int) < (k : Int) + 1)) (decide ((c.toNat : Int) = 0)) false) true (cond (decide ((k : Int) + 1 = 10)) (decide ((1 : Int) < (c.toNat : Int))) false)) = true := by
              rcases hX with ⟨h5, h6⟩ | ⟨h5, h6⟩
              · have : (1 : Int) < (k : Int) + 1 := by omega
                simp [h6, this]
              · simp [h5]; omega
            rw [e, cond_true]
            refine .inr ⟨_, rfl, ?_⟩
            simp only [scanRes, hs]; rfl
          · rw [if_neg hX] at hs
            have e : (cond (cond (decide ((1 : Int) < (k : Int) + 1)) (decide ((c.toNat : Int) = 0)) false) true (cond (decide ((k : Int) + 1 = 10)) (decide ((1 : Int) < (c.toNat : Int))) false)) = false := by
              simp only [Bool.cond_eq_ite]
              by_cases h5 : 0 < k <;> by_cases h6 : c.toNat = 0 <;> by_cases h7 : k = 9 <;> by_cases h8 : 1 < c.toNat <;> simp <;> omega
            rw [e, cond_false]
            refine .inr ⟨_, rfl, ?_⟩
            simp only [scanRes, hs]; rfl
        · rw [if_neg h4]
          rw [if_pos (by omega)] at hs
          refine .inl ⟨_, rfl, ⟨k + 1, by rw [w64 (by omega) (by omega)]; omega, ?_⟩, by rw [w64 (by omega) (by omega)]; omega⟩
          by_cases hk9 : k = 9
          · refine .inr ⟨by omega, ?_⟩
            rw [hs, hk9]
            cases rest.drop (9 + 1) <;> simp [scan]
          · exact .inl ⟨by omega, by omega, _, hs⟩
    · rw [if_neg (by omega)]
      refine .inr ⟨_, rfl, ?_⟩
      simp only [scanRes, hs]; rfl
  rw [h1, Option.bind_some]
  exact h2

theorem val_le (c : UInt8) (r : List UInt8) : val128 r ≤ val128 (c :: r) := by simp only [val128]; omega
theorem val_drop : ∀ (l : List UInt8) (j : Nat), val128 (l.drop j) ≤ val128 l
  | [], j => by simp
  | c :: r, 0 => by simp
  | c :: r, j + 1 => Nat.le_trans (val_drop r j) (val_le c r)

theorem refLoop_eq {m : Bool} {rest : List UInt8} {x : Int} {k : Nat} (hk : k ≤ rest.length) (hw : val128 (rest.take k) < 18446744073709551616) (hr : rest.length ≤ 1000000000) : loopO (ref01xReader_Int_l1 ⟨m, rest, x⟩) ((0 : Int), (k : Int) - 1) = some (val128 (rest.take k) : Int) := by
  refine loop_to (fun (s : Int × Int) => ∃ j : Nat, s.2 = (j : Int) - 1 ∧ j ≤ k ∧ s.1 = (val128 ((rest.take k).drop j) : Int)) (fun s => (s.2 + 1).toNat) (fun _ => (val128 (rest.take k) : Int)) ?_ _ ⟨k, rfl, Nat.le_refl _, by simp [val128]⟩
  rintro ⟨u, i⟩ ⟨j, hi, hj, hu⟩
  simp only at hi hu
  subst hi hu
  unfold ref01xReader_Int_l1
  simp only [cond_d]
  cases j with
  | zero =>
    rw [if_neg (by omega), List.drop_zero]
    exact .inr rfl
  | succ j =>
    rw [if_pos (by omega), show ((j + 1 : Nat) : Int) - 1 = (j : Int) by omega, idx_nat, List.getElem?_eq_getElem (by omega), Option.bind_some]
    have hlt : j < (rest.take k).length := by simp; omega
    have hd : (rest.take k).drop j = rest[j] :: (rest.take k).drop (j + 1) := by rw [List.drop_eq_getElem_cons hlt]; congr 1; simp
    have hv : val128 ((rest.take k).drop j) = rest[j].toNat % 128 + 128 * val128 ((rest.take k).drop (j + 1)) := by rw [hd, val128]
    have hb := Nat.lt_of_le_of_lt (val_drop (rest.take k) j) hw
    have e : IntKind.u64.wrap (IntKind.u64.wrap ((val128 ((rest.take k).drop (j + 1)) : Int) * 128) + IntKind.u64.wrap ((rest[j].toNat : Int).tmod 128)) = (val128 ((rest.take k).drop j) : Int) := by
      rw [Int.tmod_eq_emod_of_nonneg (by omega)]
      simp only [IntKind.wrap_u64]
      omega
    rw [e, w64 (by omega) (by omega)]
    refine .inl ⟨((val128 ((rest.take k).drop j) : Int), (j : Int) - 1), rfl, ⟨j, rfl, by omega, rfl⟩, ?_, trivial⟩
    simp only
    omega

def refAfter (rest : List UInt8) (low high : Int) : Ref01Reader := ⟨true, if (rInt rest low high).2.2 = 0 then rest.drop (rInt rest low high).2.1 else [], (rInt rest low high).2.2⟩
theorem refInt_eq {rest : List UInt8} {low high : Int} (hr : rest.length ≤ 1000000000) : ref01xReader_Int low high ⟨true, rest, 0⟩ = some ((rInt rest low high).1, refAfter rest low high) := by
  unfold ref01xReader_Int ref01xReader_stopped
  rw [count_eq hr]
  simp only [Option.bind_some, Bool.not_true, cond_false, decide_true, cond_nd]
  unfold scanRes refAfter
  cases hs : scan 0 0 rest with
  | inl e =>
    have he := scan_err rest 0 0 e hs
    have hr : rInt rest low high = (0, 0, e) := by simp only [rInt, hs]
    rw [hr]
    simp only
    rw [if_neg (by omega), if_neg (by omega)]
    rfl
  | inr wn =>
    obtain ⟨w, n⟩ := wn
    obtain ⟨h1, h2, h3⟩ := scan_val rest 0 0 w n hs
    have h4 := scan_lt rest 0 0 w n hs (by omega) (by omega)
    simp only [Nat.sub_zero, Nat.pow_zero, Nat.one_mul, Nat.zero_add] at h2 h3
    subst h3
    have hr : rInt rest low high = if unzz (val128 (rest.take n)) < low ∨ high < unzz (val128 (rest.take n)) then (0, n, 14) else (unzz (val128 (rest.take n)), n, 0) := by simp only [rInt, hs]
    rw [hr]
    simp only [if_true]
    rw [w64 (by omega) (by omega), refLoop_eq h2 h4 (by omega), Option.bind_some]
    generalize val128 (rest.take n) = w at *
    have e1 : (cond (decide ((w : Int).tmod 2 = 1)) (some (IntKind.i64.wrap (IntKind.i64.wrap (0 - IntKind.i64.wrap (IntKind.u64.wrap ((w : Int).tdiv 2))) - 1))) (some (IntKind.i64.wrap (IntKind.u64.wrap ((w : Int).tdiv 2))))) = some (unzz w) := by
      have e2 : (w : Int).tdiv 2 = ((w / 2 : Nat) : Int) := by rw [Int.tdiv_eq_ediv_of_nonneg (by omega)]; omega
      have e3 : (w : Int).tmod 2 = ((w % 2 : Nat) : Int) := by rw [Int.tmod_eq_emod_of_nonneg (by omega)]; omega
      rw [e2, e3, cond_d, wu64 (by omega) (by omega), w64 (x := ((w / 2 : Nat) : Int)) (by omega) (by omega)]
      unfold unzz
      by_cases h5 : w % 2 = 1
      · rw [if_pos (by omega), if_pos h5, w64 (x := 0 - ((w / 2 : Nat) : Int)) (by omega) (by omega), w64 (by omega) (by omega)]
        congr 1
        omega
      · rw [if_neg (by omega), if_neg h5]
    rw [e1, Option.bind_some]
    by_cases hlow : unzz w < low
    · rw [if_pos (.inl hlow)]
      simp only [hlow, decide_true, cond_true, ref01xReader_set, Option.bind_some]
      simp
    · by_cases hhigh : high < unzz w
      · rw [if_pos (.inr hhigh)]
        simp only [hlow, hhigh, decide_true, decide_false, cond_true, cond_false, ref01xReader_set, Option.bind_some]
        simp
      · rw [if_neg (by omega)]
        simp only [hlow, hhigh, decide_true, decide_false, cond_true, cond_false]
        rw [slcL_ok (by omega), Option.bind_some]
        simp

def refText (rest : List UInt8) (most : Int) : List UInt8 × Ref01Reader :=
  if (rInt rest 0 most).2.2 ≠ 0 then ([], refAfter rest 0 most)
  else if ((rest.drop (rInt rest 0 most).2.1).length : Int) < (rInt rest 0 most).1 then ([], ⟨true, [], 4⟩)
  else ((rest.drop (rInt rest 0 most).2.1).take (rInt rest 0 most).1.toNat, ⟨true, (rest.drop (rInt rest 0 most).2.1).drop (rInt rest 0 most).1.toNat, 0⟩)
/-- The two readers are alike. -/
def Like (r : WireReader) (w : Ref01Reader) : Prop := ∃ (b : List UInt8) (a : Nat) (e : Int), b.length ≤ 1000000000 ∧ a ≤ b.length ∧ r = ⟨b, a, e, true⟩ ∧ w = ⟨true, if e = 0 then b.drop a else [], e⟩

theorem like_int {r : WireReader} {w : Ref01Reader} {low high : Int} (h : Like r w) : ∃ x r' w', wire_Reader_Int low high r = some (x, r') ∧ ref01xReader_Int low high w = some (x, w') ∧ Like r' w' := by
  obtain ⟨b, a, e, hb, ha, rfl, rfl⟩ := h
  by_cases h : e = 0
  · subst h
    have hu := rInt_used (b.drop a) low high
    rw [List.length_drop] at hu
    refine ⟨_, _, _, int_eq ha hb, refInt_eq (by simp; omega), b, a + (rInt (b.drop a) low high).2.1, (rInt (b.drop a) low high).2.2, hb, by omega, rfl, ?_⟩
    unfold refAfter
    simp only [if_true]
    by_cases h2 : (rInt (b.drop a) low high).2.2 = 0
    · rw [if_pos h2, if_pos (by omega), List.drop_drop]
    · rw [if_neg h2, if_neg (by omega)]
  · refine ⟨0, ⟨b, a, e, true⟩, ⟨true, [], e⟩, ?_, ?_, b, a, e, hb, ha, rfl, by simp [h]⟩
    · unfold wire_Reader_Int; rw [dead_eq]; simp [h]
    · unfold ref01xReader_Int ref01xReader_stopped; simp [h]
theorem like_open {b : List UInt8} (h : b.length ≤ 1000000000) : ∃ r w, wire_Open b = some r ∧ ref01xOpen b = some w ∧ Like r w := by
  refine ⟨_, ⟨true, b, 0⟩, wire_Open_eq (by omega), ?_, b, 0, 0, h, by omega, rfl, by simp⟩
  unfold ref01xOpen
  rw [app_ok (by simp; omega)]; simp
