/- The readers of layer 1 and of its reference, plainly: they are alike. -/
import Derived.Test.YtmnobgopfnhbnaaGDPPut
import Derived.Test.YtmnobgopfnhbnaaGDF3
import Derived.Test.YtmnobgopfnhbnaaGDF5
import Derived.Test.YtmnobgopfnhbnaaGDF8
import Derived.Test.YtmnobgopfnhbnaaGDF9
namespace Go.Proofs.Ytmnobgopfnhbnaa
open Go Abs
set_option linter.unusedSimpArgs false
set_option linter.unusedVariables false
theorem wire_Open_eq {b : List UInt8} (h : b.length ≤ 140737488355328) : wire_Open b = some ⟨b, 0, 0, true⟩ := by
  unfold wire_Open
  rw [clone_bytes h]; rfl
theorem dead_eq {b : List UInt8} {a e : Int} {m : Bool} : wire_Reader_dead ⟨b, a, e, m⟩ = some (cond (!m) true (!decide (e = 0))) := by
  unfold wire_Reader_dead; rfl
theorem left_eq {b : List UInt8} {a e : Int} : wire_Reader_Left ⟨b, a, e, true⟩ = some (if e = 0 then IntKind.i64.wrap (b.length - a) else 0) := by
  unfold wire_Reader_Left
  rw [dead_eq]
  by_cases h : e = 0 <;> simp [h]
theorem fail_eq {b : List UInt8} {a e x : Int} : wire_Reader_Fail x ⟨b, a, e, true⟩ = some ⟨b, a, (if e = 0 then x else e), true⟩ := by
  unfold wire_Reader_Fail
  rw [dead_eq]
  by_cases h : e = 0 <;> simp [h]
def afterInt (b : List UInt8) (at_ : Nat) (low high : Int) : WireReader := ⟨b, (at_ + (rInt (b.drop at_) low high).2.1 : Nat), (rInt (b.drop at_) low high).2.2, true⟩
theorem int_eq {b : List UInt8} {at_ : Nat} {low high : Int} (h1 : at_ ≤ b.length) (hb : b.length ≤ 1000000000) :
    wire_Reader_Int low high ⟨b, at_, 0, true⟩ = some ((rInt (b.drop at_) low high).1, afterInt b at_ low high) := by
  unfold wire_Reader_Int
  rw [dead_eq]
  simp only [Bool.not_true, cond_false, decide_true, Option.bind_some]
  rw [slcL_ok (by simp; omega), Option.bind_some]
  unfold afterInt
  generalize hrest : b.drop at_ = rest
  have hrl : rest.length = b.length - at_ := by rw [← hrest]; simp
  have hdrop : List.drop (Int.toNat (at_ : Int)) b = rest := by rw [Int.toNat_natCast]; exact hrest
  obtain ⟨r, hr, hq⟩ : ∃ r, loopO (wire_Reader_Int_l1 ⟨b, at_, 0, true⟩ low high) ((0 : Int), (0 : Int)) = some r ∧ Fl.next r (fun _ => some ((0 : Int), WireReader.mk b at_ 3 true)) = some ((rInt rest low high).1, ⟨b, (at_ + (rInt rest low high).2.1 : Nat), (rInt rest low high).2.2, true⟩) := by
    refine loop_ex (fun (s : Int × Int) => ∃ k : Nat, s.2 = (k : Int) ∧ ((k ≤ 9 ∧ k ≤ rest.length ∧ ∃ u : Nat, s.1 = (u : Int) ∧ u < 128 ^ k ∧ scan 0 0 rest = scan k u (rest.drop k)) ∨ (k = 10 ∧ scan 0 0 rest = .inl 3)))
      (fun s => 10 - s.2.toNat) _ ?_ ((0 : Int), (0 : Int)) ⟨0, rfl, .inl ⟨by simp, by simp, 0, rfl, by simp, by simp⟩⟩
    rintro ⟨u0, k0⟩ ⟨k, hk0, hI⟩
    simp only at hk0 hI
    subst hk0
    unfold wire_Reader_Int_l1
    simp only [hdrop]
    rw [cond_d]
    obtain ⟨hk, hkl, u, rfl, hu, hs⟩ | ⟨rfl, hs⟩ := hI
    · rw [if_pos (by omega), cond_d]
      by_cases h3 : (rest.length : Int) ≤ k
      · rw [if_pos h3]
        refine .inr ⟨_, rfl, ?_⟩
        have hd : rest.drop k = [] := List.drop_eq_nil_of_le (by omega)
        have hr : rInt rest low high = (0, 0, 4) := by simp only [rInt, hs, hd, scan]; rw [if_neg (by omega)]
        rw [hr]; rfl
      · rw [if_neg h3]
        have hlt : k < rest.length := by omega
        rw [idx_nat, List.getElem?_eq_getElem hlt, Option.bind_some]
        generalize hc : rest[k] = c
        have hd : rest.drop k = c :: rest.drop (k + 1) := by rw [← hc]; exact List.drop_eq_getElem_cons hlt
        have hcl := c.toNat_lt
        rw [hd] at hs
        simp only [scan] at hs
        rw [if_neg (by omega)] at hs
        rw [nn_ok (by rw [show IntKind.i64.wrap (7 * (k : Int)) = 7 * (k : Int) by rw [IntKind.wrap_i64]; omega]; omega), Option.bind_some, and127]
        generalize hv : abits .or .u64 (u : Int) _ = v
        have hv' : k ≤ 8 ∨ c.toNat ≤ 1 → v = ((u + c.toNat % 128 * 128 ^ k : Nat) : Int) := fun hx => hv ▸ or_byte c hk hu hx
        clear hv
        rw [cond_d]
        by_cases h4 : (128 : Int) ≤ (c.toNat : Int)
        · rw [if_pos h4]
          rw [if_pos (by omega)] at hs
          refine .inl ⟨_, rfl, ⟨k + 1, by rw [w64 (by omega) (by omega)]; rfl, ?_⟩, by simp only [w64 (show (-9223372036854775808 : Int) ≤ (k : Int) + 1 by omega) (by omega)]; omega⟩
          by_cases hk9 : k = 9
          · refine .inr ⟨by omega, ?_⟩
            rw [hs, hk9]
            cases rest.drop (9 + 1) <;> simp [scan]
          · have hve := hv' (.inl (by omega))
            refine .inl ⟨by omega, by omega, _, hve, ?_, hs⟩
            rw [Nat.pow_succ]
            have h3 : c.toNat % 128 * 128 ^ k ≤ 127 * 128 ^ k := Nat.mul_le_mul_right _ (by omega)
            omega
        · rw [if_neg h4]
          rw [if_neg (by omega)] at hs
          by_cases hX : (0 < k ∧ c.toNat = 0) ∨ (k = 9 ∧ 1 < c.toNat)
          · rw [if_pos hX] at hs
            have hr : rInt rest low high = (0, 0, 3) := by simp only [rInt, hs]
            rw [hr]
            have e : (cond (cond (decide ((0 : Int) < (k : Int))) (decide ((c.toNat : Int) = 0)) false) true (cond (decide ((k : Int) = 9)) (decide ((1 : Int) < (c.toNat : Int))) false)) = true := by
              rcases hX with ⟨h5, h6⟩ | ⟨h5, h6⟩
              · simp [h6]; omega
              · simp [h5]; omega
            rw [e, cond_true]
            exact .inr ⟨_, rfl, rfl⟩
          · rw [if_neg hX] at hs
            have e : (cond (cond (decide ((0 : Int) < (k : Int))) (decide ((c.toNat : Int) = 0)) false) true (cond (decide ((k : Int) = 9)) (decide ((1 : Int) < (c.toNat : Int))) false)) = false := by
              simp only [Bool.cond_eq_ite]
              by_cases h5 : 0 < k <;> by_cases h6 : c.toNat = 0 <;> by_cases h7 : k = 9 <;> by_cases h8 : 1 < c.toNat <;> simp <;> omega
            rw [e, cond_false]
            have hve := hv' (by omega)
            have hmod : c.toNat % 128 = c.toNat := by omega
            rw [hmod] at hve
            clear hv'
            subst hve
            have hw : (u + c.toNat * 128 ^ k) < 18446744073709551616 := by
              have : k = 0 ∨ k = 1 ∨ k = 2 ∨ k = 3 ∨ k = 4 ∨ k = 5 ∨ k = 6 ∨ k = 7 ∨ k = 8 ∨ k = 9 := by omega
              rcases this with rfl | rfl | rfl | rfl | rfl | rfl | rfl | rfl | rfl | rfl <;> omega
            generalize u + c.toNat * 128 ^ k = w at hs hw
            have hr : rInt rest low high = if unzz w < low ∨ high < unzz w then (0, k + 1, 14) else (unzz w, k + 1, 0) := by simp only [rInt, hs]
            rw [hr, show (2 : Int) ^ min (Int.toNat 1) IntKind.u64.bits = 2 from sh1, unzz_bits hw, at_wrap (by omega) hk]
            refine .inr ?_
            by_cases hlow : unzz w < low
            · rw [if_pos (.inl hlow)]
              simp only [hlow, decide_true, cond_true]
              exact ⟨_, rfl, rfl⟩
            · by_cases hhigh : high < unzz w
              · rw [if_pos (.inr hhigh)]
                simp only [hlow, hhigh, decide_true, decide_false, cond_true, cond_false]
                exact ⟨_, rfl, rfl⟩
              · rw [if_neg (by omega)]
                simp only [hlow, hhigh, decide_true, decide_false, cond_true, cond_false]
                exact ⟨_, rfl, rfl⟩
    · rw [if_neg (by omega)]
      refine .inr ⟨_, rfl, ?_⟩
      have hr : rInt rest low high = (0, 0, 3) := by simp only [rInt, hs]
      rw [hr]; rfl
  rw [hr, Option.bind_some]
  exact hq
theorem scan_used : ∀ (l : List UInt8) (k u w n : Nat), scan k u l = .inr (w, n) → n ≤ k + l.length
  | [], k, u, w, n, h => by simp only [scan] at h; split at h <;> cases h
  | c :: r, k, u, w, n, h => by
    simp only [scan] at h
    split at h
    · cases h
    · split at h
      · have := scan_used r _ _ _ _ h
        simp only [List.length_cons]
        omega
      · split at h
        · cases h
        · cases h
          simp only [List.length_cons]
          omega
theorem rInt_used (l : List UInt8) (low high : Int) : (rInt l low high).2.1 ≤ l.length := by
  unfold rInt
  split
  · simp
  · rename_i u k h
    have := scan_used l 0 0 u k h
    split <;> simp <;> omega
theorem rInt_in {l : List UInt8} {low high : Int} (h : (rInt l low high).2.2 = 0) : low ≤ (rInt l low high).1 ∧ (rInt l low high).1 ≤ high := by
  unfold rInt at h ⊢
  split
  · rename_i e hs
    rw [hs] at h
    simp only at h
    exfalso
    -- an error is not 0
    have key : ∀ (l : List UInt8) (k u e : Nat), scan k u l = .inl e → e = 3 ∨ e = 4 := by
      intro l
      induction l with
      | nil => intro k u e h; simp only [scan] at h; split at h <;> cases h <;> simp
      | cons c r ih =>
        intro k u e h
        simp only [scan] at h
        split at h
        · cases h; simp
        · split at h
          · exact ih _ _ _ h
          · split at h <;> cases h
            simp
    rcases key _ _ _ _ hs with h2 | h2 <;> omega
  · rename_i u k hs
    rw [hs] at h
    simp only at h
    by_cases hc : unzz u < low ∨ high < unzz u
    · rw [if_pos hc] at h; simp at h
    · rw [if_neg hc]; simp only; omega
def rText (b : List UInt8) (at_ : Nat) (most : Int) : List UInt8 × WireReader :=
  if (rInt (b.drop at_) 0 most).2.2 ≠ 0 then ([], afterInt b at_ 0 most)
  else if (b.length : Int) - (at_ + (rInt (b.drop at_) 0 most).2.1 : Nat) < (rInt (b.drop at_) 0 most).1 then ([], ⟨b, (at_ + (rInt (b.drop at_) 0 most).2.1 : Nat), 4, true⟩)
  else ((b.drop (at_ + (rInt (b.drop at_) 0 most).2.1)).take (rInt (b.drop at_) 0 most).1.toNat, ⟨b, (at_ + (rInt (b.drop at_) 0 most).2.1 + (rInt (b.drop at_) 0 most).1.toNat : Nat), 0, true⟩)
theorem text_eq {b : List UInt8} {at_ : Nat} {most : Int} (h1 : at_ ≤ b.length) (hb : b.length ≤ 1000000000) : wire_Reader_Text most ⟨b, at_, 0, true⟩ = some (rText b at_ most) := by
  have hu := rInt_used (b.drop at_) 0 most
  rw [List.length_drop] at hu
  unfold wire_Reader_Text rText
  rw [int_eq h1 hb, Option.bind_some]
  unfold afterInt
  rw [dead_eq, Option.bind_some]
  by_cases he : (rInt (b.drop at_) 0 most).2.2 = 0
  · have hin := rInt_in he
    generalize hr : rInt (b.drop at_) 0 most = r at *
    obtain ⟨v, k, e⟩ := r
    simp only at he hin hu
    subst he
    simp only [Bool.not_true, cond_false, Int.natCast_zero, decide_true, cond_d, ne_eq, not_true_eq_false, if_false]
    rw [w64 (by omega) (by omega)]
    by_cases h3 : (b.length : Int) - (at_ + k : Nat) < v
    · rw [if_pos h3, if_pos h3]
    · rw [if_neg h3, if_neg h3, w64 (by omega) (by omega), slcB_ok (by omega), Option.bind_some]
      have e1 : (((at_ + k : Nat) : Int) + v).toNat = at_ + k + v.toNat := by omega
      rw [e1, Int.toNat_natCast, List.drop_take, show at_ + k + v.toNat - (at_ + k) = v.toNat by omega]
      congr 3
      omega
  · rw [if_pos he]
    have : decide (((rInt (b.drop at_) 0 most).2.2 : Int) = 0) = false := by simp; omega
    simp only [this, Bool.not_true, Bool.not_false, cond_false, cond_true]
def val128 : List UInt8 → Nat
  | [] => 0
  | c :: r => c.toNat % 128 + 128 * val128 r
theorem scan_val : ∀ (l : List UInt8) (k u w n : Nat), scan k u l = .inr (w, n) → k < n ∧ n ≤ k + l.length ∧ w = u + 128 ^ k * val128 (l.take (n - k))
  | [], k, u, w, n, h => by simp only [scan] at h; split at h <;> cases h
  | c :: r, k, u, w, n, h => by
    simp only [scan] at h
    split at h
    · cases h
    · split at h
      · obtain ⟨h1, h2, h3⟩ := scan_val r _ _ _ _ h
        refine ⟨by omega, by simp only [List.length_cons]; omega, ?_⟩
        rw [show n - k = (n - (k + 1)) + 1 by omega, List.take_succ_cons, val128, h3, Nat.pow_succ, Nat.mul_add, Nat.mul_assoc, Nat.add_assoc, Nat.mul_comm (c.toNat % 128)]
      · rename_i h3
        split at h
        · cases h
        · cases h
          refine ⟨by omega, by simp, ?_⟩
          rw [show k + 1 - k = 0 + 1 by omega, List.take_succ_cons, val128, List.take_zero, val128, show c.toNat % 128 = c.toNat by omega, Nat.mul_zero, Nat.add_zero, Nat.mul_comm]
theorem scan_lt : ∀ (l : List UInt8) (k u w n : Nat), scan k u l = .inr (w, n) → k ≤ 9 → u < 128 ^ k → w < 18446744073709551616
  | [], k, u, w, n, h, _, _ => by simp only [scan] at h; split at h <;> cases h
  | c :: r, k, u, w, n, h, hk, hu => by
    have hc := c.toNat_lt
    simp only [scan] at h
    split at h
    · cases h
    · split at h
      · have hlt : u + c.toNat % 128 * 128 ^ k < 128 ^ (k + 1) := by
          rw [Nat.pow_succ]
          have : c.toNat % 128 * 128 ^ k ≤ 127 * 128 ^ k := Nat.mul_le_mul_right _ (by omega)
          omega
        by_cases hk9 : k = 9
        · exfalso
          subst hk9
          cases r with
          | nil => simp [scan] at h
          | cons d r => simp [scan] at h
        · exact scan_lt r _ _ _ _ h (by omega) hlt
      · split at h
        · cases h
        · rename_i h3 h4
          cases h
          have : k = 0 ∨ k = 1 ∨ k = 2 ∨ k = 3 ∨ k = 4 ∨ k = 5 ∨ k = 6 ∨ k = 7 ∨ k = 8 ∨ k = 9 := by omega
          rcases this with rfl | rfl | rfl | rfl | rfl | rfl | rfl | rfl | rfl | rfl <;> omega
theorem scan_err : ∀ (l : List UInt8) (k u e : Nat), scan k u l = .inl e → e = 3 ∨ e = 4
  | [], k, u, e, h => by simp only [scan] at h; split at h <;> cases h <;> simp
  | c :: r, k, u, e, h => by
    simp only [scan] at h
    split at h
    · cases h; simp
    · split at h
      · exact scan_err r _ _ _ h
      · split at h <;> cases h
        simp
def scanRes (rest : List UInt8) : Int × Int := match scan 0 0 rest with
  | .inl e => (0, (e : Int))
  | .inr (_, n) => ((n : Int), 0)
theorem count_eq {m : Bool} {rest : List UInt8} {x : Int} (hr : rest.length ≤ 1000000000) : ref01xReader_count ⟨m, rest, x⟩ = some (scanRes rest) := by
  unfold ref01xReader_count
  obtain ⟨r, h1, h2⟩ : ∃ r, loopO (ref01xReader_count_l1 ⟨m, rest, x⟩) (1 : Int) = some r ∧ Fl.next r (fun _ => some ((0 : Int), (3 : Int))) = some (scanRes rest) := by
    refine loop_ex (fun (s : Int) => ∃ k : Nat, s = (k : Int) + 1 ∧ ((k ≤ 9 ∧ k ≤ rest.length ∧ ∃ u : Nat, scan 0 0 rest = scan k u (rest.drop k)) ∨ (k = 10 ∧ scan 0 0 rest = .inl 3))) (fun s => 12 - s.toNat) _ ?_ 1 ⟨0, rfl, .inl ⟨by omega, by omega, 0, by simp⟩⟩
    rintro s ⟨k, rfl, hI⟩
    unfold ref01xReader_count_l1
    rw [cond_d]
    obtain ⟨hk, hkl, u, hs⟩ | ⟨rfl, hs⟩ := hI
    · rw [if_pos (by omega), cond_d]
      by_cases h3 : (rest.length : Int) < (k : Int) + 1
      · rw [if_pos h3]
        refine .inr ⟨_, rfl, ?_⟩
        have hd : rest.drop k = [] := List.drop_eq_nil_of_le (by omega)
        rw [hd] at hs
        simp only [scan] at hs
        rw [if_neg (by omega)] at hs
        simp only [scanRes, hs]; rfl
      · rw [if_neg h3]
        have hlt : k < rest.length := by omega
        rw [w64 (by omega) (by omega), show (k : Int) + 1 - 1 = (k : Int) by omega, idx_nat, List.getElem?_eq_getElem hlt, Option.bind_some]
        generalize hc : rest[k] = c
        have hd : rest.drop k = c :: rest.drop (k + 1) := by rw [← hc]; exact List.drop_eq_getElem_cons hlt
        rw [hd] at hs
        simp only [scan] at hs
        rw [if_neg (by omega)] at hs
        rw [cond_d]
        by_cases h4 : (c.toNat : Int) < 128
        · rw [if_pos h4]
          rw [if_neg (by omega)] at hs
          by_cases hX : (0 < k ∧ c.toNat = 0) ∨ (k = 9 ∧ 1 < c.toNat)
          · rw [if_pos hX] at hs
            have e : (cond (cond (decide ((1 : Int) < (k : Int) + 1)) (decide ((c.toNat : Int) = 0)) false) true (cond (decide ((k : Int) + 1 = 10)) (decide ((1 : Int) < (c.toNat : Int))) false)) = true := by
              rcases hX with ⟨h5, h6⟩ | ⟨h5, h6⟩
              · have : (1 : Int) < (k : Int) + 1 := by omega
                simp [h6, this]
              · simp [h5]; omega
            rw [e, cond_true]
            refine .inr ⟨_, rfl, ?_⟩
            simp only [scanRes, hs]; rfl
          · rw [if_neg hX] at hs
            have e : (cond (cond (decide ((1 : Int) < (k : Int) + 1)) (decide ((c.toNat : Int) = 0)) false) true (cond (decide ((k : Int) + 1 = 10)) (decide ((1 : Int) < (c.toNat : Int))) false)) = false := by
              simp only [Bool.cond_eq_ite]
              by_cases h5 : 0 < k <;> by_cases h6 : c.toNat = 0 <;> by_cases h7 : k = 9 <;> by_cases h8 : 1 < c.toNat <;> simp <;> omega
            rw [e, cond_false]
            refine .inr ⟨_, rfl, ?_⟩
            simp only [scanRes, hs]; rfl
        · rw [if_neg h4]
          rw [if_pos (by omega)] at hs
          refine .inl ⟨_, rfl, ⟨k + 1, by rw [w64 (by omega) (by omega)]; omega, ?_⟩, by rw [w64 (by omega) (by omega)]; omega⟩
          by_cases hk9 : k = 9
          · refine .inr ⟨by omega, ?_⟩
            rw [hs, hk9]
            cases rest.drop (9 + 1) <;> simp [scan]
          · exact .inl ⟨by omega, by omega, _, hs⟩
    · rw [if_neg (by omega)]
      refine .inr ⟨_, rfl, ?_⟩
      simp only [scanRes, hs]; rfl
  rw [h1, Option.bind_some]
  exact h2
theorem val_le (c : UInt8) (r : List UInt8) : val128 r ≤ val128 (c :: r) := by simp only [val128]; omega
theorem val_drop : ∀ (l : List UInt8) (j : Nat), val128 (l.drop j) ≤ val128 l
  | [], j => by simp
  | c :: r, 0 => by simp
  | c :: r, j + 1 => Nat.le_trans (val_drop r j) (val_le c r)
theorem refLoop_eq {m : Bool} {rest : List UInt8} {x : Int} {k : Nat} (hk : k ≤ rest.length) (hw : val128 (rest.take k) < 18446744073709551616) (hr : rest.length ≤ 1000000000) : loopO (ref01xReader_Int_l1 ⟨m, rest, x⟩) ((0 : Int), (k : Int) - 1) = some (val128 (rest.take k) : Int) := by
  refine loop_to (fun (s : Int × Int) => ∃ j : Nat, s.2 = (j : Int) - 1 ∧ j ≤ k ∧ s.1 = (val128 ((rest.take k).drop j) : Int)) (fun s => (s.2 + 1).toNat) (fun _ => (val128 (rest.take k) : Int)) ?_ _ ⟨k, rfl, Nat.le_refl _, by simp [val128]⟩
  rintro ⟨u, i⟩ ⟨j, hi, hj, hu⟩
  simp only at hi hu
  subst hi hu
  unfold ref01xReader_Int_l1
  simp only [cond_d]
  cases j with
  | zero =>
    rw [if_neg (by omega), List.drop_zero]
    exact .inr rfl
  | succ j =>
    rw [if_pos (by omega), show ((j + 1 : Nat) : Int) - 1 = (j : Int) by omega, idx_nat, List.getElem?_eq_getElem (by omega), Option.bind_some]
    have hlt : j < (rest.take k).length := by simp; omega
    have hd : (rest.take k).drop j = rest[j] :: (rest.take k).drop (j + 1) := by rw [List.drop_eq_getElem_cons hlt]; congr 1; simp
    have hv : val128 ((rest.take k).drop j) = rest[j].toNat % 128 + 128 * val128 ((rest.take k).drop (j + 1)) := by rw [hd, val128]
    have hb := Nat.lt_of_le_of_lt (val_drop (rest.take k) j) hw
    have e : IntKind.u64.wrap (IntKind.u64.wrap ((val128 ((rest.take k).drop (j + 1)) : Int) * 128) + IntKind.u64.wrap ((rest[j].toNat : Int).tmod 128)) = (val128 ((rest.take k).drop j) : Int) := by
      rw [Int.tmod_eq_emod_of_nonneg (by omega)]
      simp only [IntKind.wrap_u64]
      omega
    rw [e, w64 (by omega) (by omega)]
    refine .inl ⟨((val128 ((rest.take k).drop j) : Int), (j : Int) - 1), rfl, ⟨j, rfl, by omega, rfl⟩, ?_, trivial⟩
    simp only
    omega
def refAfter (rest : List UInt8) (low high : Int) : Ref01Reader := ⟨true, if (rInt rest low high).2.2 = 0 then rest.drop (rInt rest low high).2.1 else [], (rInt rest low high).2.2⟩
theorem refInt_eq {rest : List UInt8} {low high : Int} (hr : rest.length ≤ 1000000000) : ref01xReader_Int low high ⟨true, rest, 0⟩ = some ((rInt rest low high).1, refAfter rest low high) := by
  unfold ref01xReader_Int ref01xReader_stopped
  rw [count_eq hr]
  simp only [Option.bind_some, Bool.not_true, cond_false, decide_true, cond_nd]
  unfold scanRes refAfter
  cases hs : scan 0 0 rest with
  | inl e =>
    have he := scan_err rest 0 0 e hs
    have hr : rInt rest low high = (0, 0, e) := by simp only [rInt, hs]
    rw [hr]
    simp only
    rw [if_neg (by omega), if_neg (by omega)]
    rfl
  | inr wn =>
    obtain ⟨w, n⟩ := wn
    obtain ⟨h1, h2, h3⟩ := scan_val rest 0 0 w n hs
    have h4 := scan_lt rest 0 0 w n hs (by omega) (by omega)
    simp only [Nat.sub_zero, Nat.pow_zero, Nat.one_mul, Nat.zero_add] at h2 h3
    subst h3
    have hr : rInt rest low high = if unzz (val128 (rest.take n)) < low ∨ high < unzz (val128 (rest.take n)) then (0, n, 14) else (unzz (val128 (rest.take n)), n, 0) := by simp only [rInt, hs]
    rw [hr]
    simp only [if_true]
    rw [w64 (by omega) (by omega), refLoop_eq h2 h4 (by omega), Option.bind_some]
    generalize val128 (rest.take n) = w at *
    have e1 : (cond (decide ((w : Int).tmod 2 = 1)) (some (IntKind.i64.wrap (IntKind.i64.wrap (0 - IntKind.i64.wrap (IntKind.u64.wrap ((w : Int).tdiv 2))) - 1))) (some (IntKind.i64.wrap (IntKind.u64.wrap ((w : Int).tdiv 2))))) = some (unzz w) := by
      have e2 : (w : Int).tdiv 2 = ((w / 2 : Nat) : Int) := by rw [Int.tdiv_eq_ediv_of_nonneg (by omega)]; omega
      have e3 : (w : Int).tmod 2 = ((w % 2 : Nat) : Int) := by rw [Int.tmod_eq_emod_of_nonneg (by omega)]; omega
      rw [e2, e3, cond_d, wu64 (by omega) (by omega), w64 (x := ((w / 2 : Nat) : Int)) (by omega) (by omega)]
      unfold unzz
      by_cases h5 : w % 2 = 1
      · rw [if_pos (by omega), if_pos h5, w64 (x := 0 - ((w / 2 : Nat) : Int)) (by omega) (by omega), w64 (by omega) (by omega)]
        congr 1
        omega
      · rw [if_neg (by omega), if_neg h5]
    rw [e1, Option.bind_some]
    by_cases hlow : unzz w < low
    · rw [if_pos (.inl hlow)]
      simp only [hlow, decide_true, cond_true, ref01xReader_set, Option.bind_some]
      simp
    · by_cases hhigh : high < unzz w
      · rw [if_pos (.inr hhigh)]
        simp only [hlow, hhigh, decide_true, decide_false, cond_true, cond_false, ref01xReader_set, Option.bind_some]
        simp
      · rw [if_neg (by omega)]
        simp only [hlow, hhigh, decide_true, decide_false, cond_true, cond_false]
        rw [slcL_ok (by omega), Option.bind_some]
        simp
def refText (rest : List UInt8) (most : Int) : List UInt8 × Ref01Reader :=
  if (rInt rest 0 most).2.2 ≠ 0 then ([], refAfter rest 0 most)
  else if ((rest.drop (rInt rest 0 most).2.1).length : Int) < (rInt rest 0 most).1 then ([], ⟨true, [], 4⟩)
  else ((rest.drop (rInt rest 0 most).2.1).take (rInt rest 0 most).1.toNat, ⟨true, (rest.drop (rInt rest 0 most).2.1).drop (rInt rest 0 most).1.toNat, 0⟩)
theorem refText_eq {rest : List UInt8} {most : Int} (hr : rest.length ≤ 1000000000) : ref01xReader_Text most ⟨true, rest, 0⟩ = some (refText rest most) := by
  have hu := rInt_used rest 0 most
  unfold ref01xReader_Text refText
  rw [refInt_eq hr, Option.bind_some]
  unfold refAfter ref01xReader_stopped
  simp only [Option.bind_some, Bool.not_true, cond_false]
  by_cases he : (rInt rest 0 most).2.2 = 0
  · have hin := rInt_in he
    have he2 : ((rInt rest 0 most).2.2 : Int) = 0 := by omega
    simp only [he, he2, if_true, ne_eq, not_true_eq_false, if_false]
    generalize hd : rest.drop (rInt rest 0 most).2.1 = d
    simp only [Int.ofNat_zero, Int.natCast_zero, decide_true, Bool.not_true, cond_false, cond_d]
    by_cases h3 : (d.length : Int) < (rInt rest 0 most).1
    · rw [if_pos h3, if_pos h3]; rfl
    · rw [if_neg h3, if_neg h3, slcH_ok (by omega), Option.bind_some, slcL_ok (by omega), Option.bind_some]
  · rw [if_pos he]
    have e : decide (((rInt rest 0 most).2.2 : Int) = 0) = false := by simp; omega
    simp only [e, Bool.not_false, cond_true]
def Like (r : WireReader) (w : Ref01Reader) : Prop := ∃ (b : List UInt8) (a : Nat) (e : Int), b.length ≤ 1000000000 ∧ a ≤ b.length ∧ r = ⟨b, a, e, true⟩ ∧ w = ⟨true, if e = 0 then b.drop a else [], e⟩
theorem like_left {r : WireReader} {w : Ref01Reader} (h : Like r w) : ∃ x, wire_Reader_Left r = some x ∧ ref01xReader_Left w = some x := by
  obtain ⟨b, a, e, hb, ha, rfl, rfl⟩ := h
  refine ⟨_, left_eq, ?_⟩
  unfold ref01xReader_Left ref01xReader_stopped
  simp only [Bool.not_true, cond_false, Option.bind_some, cond_nd]
  by_cases h : e = 0
  · simp only [h, if_true, decide_true, Bool.not_true, cond_false, List.length_drop]
    rw [w64 (by omega) (by omega)]
    congr 1
    omega
  · simp only [h, if_false, decide_false, Bool.not_false, cond_true]
theorem like_int {r : WireReader} {w : Ref01Reader} {low high : Int} (h : Like r w) : ∃ x r' w', wire_Reader_Int low high r = some (x, r') ∧ ref01xReader_Int low high w = some (x, w') ∧ Like r' w' := by
  obtain ⟨b, a, e, hb, ha, rfl, rfl⟩ := h
  by_cases h : e = 0
  · subst h
    have hu := rInt_used (b.drop a) low high
    rw [List.length_drop] at hu
    refine ⟨_, _, _, int_eq ha hb, refInt_eq (by simp; omega), b, a + (rInt (b.drop a) low high).2.1, (rInt (b.drop a) low high).2.2, hb, by omega, rfl, ?_⟩
    unfold refAfter
    simp only [if_true]
    by_cases h2 : (rInt (b.drop a) low high).2.2 = 0
    · rw [if_pos h2, if_pos (by omega), List.drop_drop]
    · rw [if_neg h2, if_neg (by omega)]
  · refine ⟨0, ⟨b, a, e, true⟩, ⟨true, [], e⟩, ?_, ?_, b, a, e, hb, ha, rfl, by simp [h]⟩
    · unfold wire_Reader_Int; rw [dead_eq]; simp [h]
    · unfold ref01xReader_Int ref01xReader_stopped; simp [h]
theorem like_text {r : WireReader} {w : Ref01Reader} {most : Int} (h : Like r w) : ∃ x r' w', wire_Reader_Text most r = some (x, r') ∧ ref01xReader_Text most w = some (x, w') ∧ Like r' w' := by
  obtain ⟨b, a, e, hb, ha, rfl, rfl⟩ := h
  by_cases h : e = 0
  · subst h
    have hu := rInt_used (b.drop a) 0 most
    rw [List.length_drop] at hu
    rw [text_eq ha hb]
    simp only [if_true]
    rw [refText_eq (by simp; omega)]
    unfold rText refText afterInt refAfter
    by_cases he : (rInt (b.drop a) 0 most).2.2 = 0
    · have hin := rInt_in he
      have he2 : ((rInt (b.drop a) 0 most).2.2 : Int) = 0 := by omega
      simp only [he, he2, if_true, ne_eq, not_true_eq_false, if_false]
      have e1 : ((List.drop (rInt (b.drop a) 0 most).2.1 (b.drop a)).length : Int) = (b.length : Int) - (a + (rInt (b.drop a) 0 most).2.1 : Nat) := by simp; omega
      rw [e1]
      by_cases h3 : (b.length : Int) - (a + (rInt (b.drop a) 0 most).2.1 : Nat) < (rInt (b.drop a) 0 most).1
      · rw [if_pos h3, if_pos h3]
        exact ⟨_, _, _, rfl, rfl, b, _, 4, hb, by omega, rfl, by simp⟩
      · rw [if_neg h3, if_neg h3]
        refine ⟨_, _, _, rfl, by rw [List.drop_drop], b, _, 0, hb, by omega, rfl, ?_⟩
        simp [Nat.add_assoc]
    · simp only [ne_eq, he, not_false_eq_true, if_true]
      refine ⟨_, _, _, rfl, rfl, b, _, _, hb, by omega, rfl, ?_⟩
      have he2 : ¬ ((rInt (b.drop a) 0 most).2.2 : Int) = 0 := by omega
      simp only [he2, if_false]
  · refine ⟨[], ⟨b, a, e, true⟩, ⟨true, [], e⟩, ?_, ?_, b, a, e, hb, ha, rfl, by simp [h]⟩
    · unfold wire_Reader_Text wire_Reader_Int; rw [dead_eq]; simp [h, dead_eq]
    · unfold ref01xReader_Text ref01xReader_Int ref01xReader_stopped; simp [h]
end Go.Proofs.Ytmnobgopfnhbnaa
