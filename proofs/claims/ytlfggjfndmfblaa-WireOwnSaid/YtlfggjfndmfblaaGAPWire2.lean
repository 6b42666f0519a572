/- What the wire package's reader gives, plainly. -/
import Derived.Test.YtlfggjfndmfblaaGAPWire1
import Derived.Test.YtlfggjfndmfblaaGAF0
import Derived.Test.YtlfggjfndmfblaaGAF1
namespace Go.Proofs.Ytlfggjfndmfblaa
open Go Abs
set_option linter.unusedSimpArgs false
set_option linter.unusedVariables false

theorem wire_Open_eq {b : List UInt8} (h : b.length ≤ 140737488355328) : wire_Open b = some ⟨b, 0, 0, true⟩ := by
  unfold wire_Open
  rw [clone_bytes h]; rfl
theorem dead_eq {b : List UInt8} {a e : Int} {m : Bool} : wire_Reader_dead ⟨b, a, e, m⟩ = some (cond (!m) true (!decide (e = 0))) := by
  unfold wire_Reader_dead; rfl
theorem err_eq {b : List UInt8} {a e : Int} : wire_Reader_Err ⟨b, a, e, true⟩ = some e := rfl
theorem left_eq {b : List UInt8} {a e : Int} : wire_Reader_Left ⟨b, a, e, true⟩ = some (if e = 0 then IntKind.i64.wrap (b.length - a) else 0) := by
  unfold wire_Reader_Left
  rw [dead_eq]
  by_cases h : e = 0 <;> simp [h]
theorem end_eq {b : List UInt8} {a e : Int} : wire_Reader_End ⟨b, a, e, true⟩ = some (if e = 0 then (if a < b.length then 3 else 0) else e) := by
  unfold wire_Reader_End
  rw [err_eq]
  by_cases h : e = 0
  · by_cases h2 : a < b.length <;> simp [h, h2]
  · simp [h]
theorem fail_eq {b : List UInt8} {a e x : Int} : wire_Reader_Fail x ⟨b, a, e, true⟩ = some ⟨b, a, (if e = 0 then x else e), true⟩ := by
  unfold wire_Reader_Fail
  rw [dead_eq]
  by_cases h : e = 0 <;> simp [h]

/-- The reader after an integer. -/
def afterInt (b : List UInt8) (at_ : Nat) (low high : Int) : WireReader := ⟨b, (at_ + (rInt (b.drop at_) low high).2.1 : Nat), (rInt (b.drop at_) low high).2.2, true⟩

theorem int_eq {b : List UInt8} {at_ : Nat} {low high : Int} (h1 : at_ ≤ b.length) (hb : b.length ≤ 1000000000) :
    wire_Reader_Int low high ⟨b, at_, 0, true⟩ = some ((rInt (b.drop at_) low high).1, afterInt b at_ low high) := by
  unfold wire_Reader_Int
  rw [dead_eq]
  simp only [Bool.not_true, cond_false, decide_true, Option.bind_some]
  rw [slcL_ok (by simp; omega), Option.bind_some]
  unfold afterInt
  generalize hrest : b.drop at_ = rest
  have hrl : rest.length = b.length - at_ := by rw [← hrest]; simp
  have hdrop : List.drop (Int.toNat (at_ : Int)) b = rest := by rw [Int.toNat_natCast]; exact hrest
  obtain ⟨r, hr, hq⟩ : ∃ r, loopO (wire_Reader_Int_l1 ⟨b, at_, 0, true⟩ low high) ((0 : Int), (0 : Int)) = some r ∧ Fl.next r (fun _ => some ((0 : Int), WireReader.mk b at_ 3 true)) = some ((rInt rest low high).1, ⟨b, (at_ + (rInt rest low high).2.1 : Nat), (rInt rest low high).2.2, true⟩) := by
    refine loop_ex (fun (s : Int × Int) => ∃ k : Nat, s.2 = (k : Int) ∧ ((k ≤ 9 ∧ k ≤ rest.length ∧ ∃ u : Nat, s.1 = (u : Int) ∧ u < 128 ^ k ∧ scan 0 0 rest = scan k u (rest.drop k)) ∨ (k = 10 ∧ scan 0 0 rest = .inl 3)))
      (fun s => 10 - s.2.toNat) _ ?_ ((0 : Int), (0 : Int)) ⟨0, rfl, .inl ⟨by simp, by simp, 0, rfl, by simp, by simp⟩⟩
    rintro ⟨u0, k0⟩ ⟨k, hk0, hI⟩
    simp only at hk0 hI
    subst hk0
    unfold wire_Reader_Int_l1
    simp only [hdrop]
    rw [cond_d]
    obtain ⟨hk, hkl, u, rfl, hu, hs⟩ | ⟨rfl, hs⟩ := hI
    · rw [if_pos (by omega), cond_d]
      by_cases h3 : (rest.length : Int) ≤ k
      · rw [if_pos h3]
        refine .inr ⟨_, rfl, ?_⟩
        have hd : rest.drop k = [] := List.drop_eq_nil_of_le (by omega)
        have hr : rInt rest low high = (0, 0, 4) := by simp only [rInt, hs, hd, scan]; rw [if_neg (by omega)]
        rw [hr]; rfl
      · rw [if_neg h3]
        have hlt : k < rest.length := by omega
        rw [idx_nat, List.getElem?_eq_getElem hlt, Option.bind_some]
        generalize hc : rest[k] = c
        have hd : rest.drop k = c :: rest.drop (k + 1) := by rw [← hc]; exact List.drop_eq_getElem_cons hlt
        have hcl := c.toNat_lt
        rw [hd] at hs
        simp only [scan] at hs
        rw [if_neg (by omega)] at hs
        rw [nn_ok (by rw [show IntKind.i64.wrap (7 * (k : Int)) = 7 * (k : Int) by rw [IntKind.wrap_i64]; omega]; omega), Option.bind_some, and127]
        generalize hv : abits .or .u64 (u : Int) _ = v
        have hv' : k ≤ 8 ∨ c.toNat ≤ 1 → v = ((u + c.toNat % 128 * 128 ^ k : Nat) : Int) := fun hx => hv ▸ or_byte c hk hu hx
        clear hv
        rw [cond_d]
        by_cases h4 : (128 : Int) ≤ (c.toNat : Int)
        · rw [if_pos h4]
          rw [if_pos (by omega)] at hs
          refine .inl ⟨_, rfl, ⟨k + 1, by rw [w64 (by omega) (by omega)]; rfl, ?_⟩, by simp only [w64 (show (-9223372036854775808 : Int) ≤ (k : Int) + 1 by omega) (by omega)]; omega⟩
          by_cases hk9 : k = 9
          · refine .inr ⟨by omega, ?_⟩
            rw [hs, hk9]
            cases rest.drop (9 + 1) <;> simp [scan]
          · have hve := hv' (.inl (by omega))
            refine .inl ⟨by omega, by omega, _, hve, ?_, hs⟩
            rw [Nat.pow_succ]
            have h3 : c.toNat % 128 * 128 ^ k ≤ 127 * 128 ^ k := Nat.mul_le_mul_right _ (by omega)
            omega
        · rw [if_neg h4]
          rw [if_neg (by omega)] at hs
          by_cases hX : (0 < k ∧ c.toNat = 0) ∨ (k = 9 ∧ 1 < c.toNat)
          · rw [if_pos hX] at hs
            have hr : rInt rest low high = (0, 0, 3) := by simp only [rInt, hs]
            rw [hr]
            have e : (cond (cond (decide ((0 : Int) < (k : Int))) (decide ((c.toNat : Int) = 0)) false) true (cond (decide ((k : Int) = 9)) (decide ((1 : Int) < (c.toNat : Int))) false)) = true := by
              rcases hX with ⟨h5, h6⟩ | ⟨h5, h6⟩
              · simp [h6]; omega
              · simp [h5]; omega
            rw [e, cond_true]
            exact .inr ⟨_, rfl, rfl⟩
          · rw [if_neg hX] at hs
            have e : (cond (cond (decide ((0 : Int) < (k : Int))) (decide ((c.toNat : Int) = 0)) false) true (cond (decide ((k : Int) = 9)) (decide ((1 : Int) < (c.toNat : Int))) false)) = false := by
              simp only [Bool.cond_eq_ite]
              by_cases h5 : 0 < k <;> by_cases h6 : c.toNat = 0 <;> by_cases h7 : k = 9 <;> by_cases h8 : 1 < c.toNat <;> simp <;> omega
            rw [e, cond_false]
            have hve := hv' (by omega)
            have hmod : c.toNat % 128 = c.toNat := by omega
            rw [hmod] at hve
            clear hv'
            subst hve
            have hw : (u + c.toNat * 128 ^ k) < 18446744073709551616 := by
              have : k = 0 ∨ k = 1 ∨ k = 2 ∨ k = 3 ∨ k = 4 ∨ k = 5 ∨ k = 6 ∨ k = 7 ∨ k = 8 ∨ k = 9 := by omega
              rcases this with rfl | rfl | rfl | rfl | rfl | rfl | rfl | rfl | rfl | rfl <;> omega
            generalize u + c.toNat * 128 ^ k = w at hs hw
            have hr : rInt rest low high = if unzz w < low ∨ high < unzz w then (0, k + 1, 14) else (unzz w, k + 1, 0) := by simp only [rInt, hs]
            rw [hr, show (2 : Int) ^ min (Int.toNat 1) IntKind.u64.bits = 2 from sh1, unzz_bits hw, at_wrap (by omega) hk]
            refine .inr ?_
            by_cases hlow : unzz w < low
            · rw [if_pos (.inl hlow)]
              simp only [hlow, decide_true, cond_true]
              exact ⟨_, rfl, rfl⟩
            · by_cases hhigh : high < unzz w
              · rw [if_pos (.inr hhigh)]
                simp only [hlow, hhigh, decide_true, decide_false, cond_true, cond_false]
                exact ⟨_, rfl, rfl⟩
              · rw [if_neg (by omega)]
                simp only [hlow, hhigh, decide_true, decide_false, cond_true, cond_false]
                exact ⟨_, rfl, rfl⟩
    · rw [if_neg (by omega)]
      refine .inr ⟨_, rfl, ?_⟩
      have hr : rInt rest low high = (0, 0, 3) := by simp only [rInt, hs]
      rw [hr]; rfl
  rw [hr, Option.bind_some]
  exact hq
theorem int_eq0 {b : List UInt8} {low high : Int} (hb : b.length ≤ 1000000000) :
    wire_Reader_Int low high ⟨b, 0, 0, true⟩ = some ((rInt b low high).1, ⟨b, ((rInt b low high).2.1 : Nat), (rInt b low high).2.2, true⟩) := by
  have := int_eq (b := b) (at_ := 0) (low := low) (high := high) (by omega) hb
  unfold afterInt at this
  rw [List.drop_zero, Nat.zero_add] at this
  exact this
end Go.Proofs.Ytlfggjfndmfblaa
