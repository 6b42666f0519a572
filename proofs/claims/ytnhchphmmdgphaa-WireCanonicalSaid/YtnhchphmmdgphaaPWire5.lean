/- Two laws of layer 1 plainly: what was written is read back, and what is read is canonical. -/
import Derived.Test.YtnhchphmmdgphaaPWire4
import Derived.Test.YtnhchphmmdgphaaGBF5
namespace Go.Proofs.Ytnhchphmmdgphaa
open Go Abs
set_option linter.unusedSimpArgs false
set_option linter.unusedVariables false

theorem scan_enc : ∀ (l : List UInt8) (k u w n : Nat), scan k u l = .inr (w, n) → vint (val128 (l.take (n - k))) = l.take (n - k) ∧ (0 < k → 0 < val128 (l.take (n - k)))
  | [], k, u, w, n, h => by simp only [scan] at h; split at h <;> cases h
  | c :: r, k, u, w, n, h => by
    have hc := c.toNat_lt
    simp only [scan] at h
    split at h
    · cases h
    · split at h
      · obtain ⟨h0, _, _⟩ := scan_val r _ _ _ _ h
        obtain ⟨h1, h2⟩ := scan_enc r _ _ _ _ h
        have h3 := h2 (by omega)
        rw [show n - k = (n - (k + 1)) + 1 by omega, List.take_succ_cons, val128]
        generalize r.take (n - (k + 1)) = t at *
        rw [vint_ge (by omega), show (c.toNat % 128 + 128 * val128 t) / 128 = val128 t by omega, h1, show 128 + (c.toNat % 128 + 128 * val128 t) % 128 = c.toNat by omega]
        refine ⟨by simp, fun _ => by omega⟩
      · rename_i h3
        split at h
        · cases h
        · rename_i h4
          cases h
          rw [show k + 1 - k = 0 + 1 by omega, List.take_succ_cons, List.take_zero, val128, val128, vint_lt (by omega), show c.toNat % 128 + 128 * 0 = c.toNat by omega]
          exact ⟨by simp, fun _ => by omega⟩

theorem rInt_enc {l : List UInt8} {low high : Int} (h : (rInt l low high).2.2 = 0) : vint (zz (rInt l low high).1) = l.take (rInt l low high).2.1 := by
  cases hs : scan 0 0 l with
  | inl e =>
    have := scan_err l 0 0 e hs
    simp only [rInt, hs] at h
    omega
  | inr wk =>
    obtain ⟨w, k⟩ := wk
    obtain ⟨h1, h2, h3⟩ := scan_val l 0 0 w k hs
    obtain ⟨h4, _⟩ := scan_enc l 0 0 w k hs
    simp only [rInt, hs] at h ⊢
    by_cases hc : unzz w < low ∨ high < unzz w
    · rw [if_pos hc] at h; simp at h
    · rw [if_neg hc]
      simp only [zz_unzz]
      simp only [Nat.sub_zero, Nat.pow_zero, Nat.one_mul, Nat.zero_add] at h3 h4
      rw [h3, h4]

theorem WireRound_pure {n : Int} {s rest : List UInt8} {y : Bool} (hn1 : -9223372036854775808 ≤ n) (hn2 : n ≤ 9223372036854775807) : law01xWireRound n s y rest = some true := by
  have hvn := vint_len10 (zz_lt hn1 hn2)
  unfold law01xWireRound
  simp only [works_eq, Option.bind_some]
  by_cases h : (300 : Int) < s.length ∨ (50 : Int) < rest.length
  · have : (cond (decide ((300 : Int) < (s.length : Int))) true (decide ((50 : Int) < (rest.length : Int)))) = true := by simp; omega
    rw [this]; rfl
  · have : (cond (decide ((300 : Int) < (s.length : Int))) true (decide ((50 : Int) < (rest.length : Int)))) = false := by simp; omega
    have hv2 := vint_len10 (zz_lt (n := (s.length : Int)) (by omega) (by omega))
    rw [this, cond_false, wire_PutInt_eq (by simp) hn1 hn2, Option.bind_some, List.nil_append, wire_PutText_eq (by omega) (by omega), Option.bind_some, wire_PutBool_eq (by simp; omega), Option.bind_some, app_ok (by simp; omega), Option.bind_some]
    generalize hB : vint (zz n) ++ vint (zz s.length) ++ s ++ [if y then 1 else 0] ++ rest = B
    have hlen : B.length = (vint (zz n)).length + (vint (zz s.length)).length + s.length + 1 + rest.length := by rw [← hB]; simp; omega
    rw [wire_Open_eq (by omega), Option.bind_some]
    have hB0 : B = vint (zz n) ++ (vint (zz s.length) ++ (s ++ ([if y then 1 else 0] ++ rest))) := by rw [← hB]; simp
    have h0 := int_eq0 (b := B) (low := n) (high := n) (by omega)
    rw [show rInt B n n = (n, (vint (zz n)).length, 0) by rw [hB0, rInt_vint _ hn1 hn2, if_neg (by omega)]] at h0
    rw [h0, Option.bind_some]
    have hd1 : B.drop (vint (zz n)).length = vint (zz s.length) ++ (s ++ ([if y then 1 else 0] ++ rest)) := by rw [hB0, List.drop_left]
    have hr1 : rInt (B.drop (vint (zz n)).length) 0 s.length = ((s.length : Int), (vint (zz s.length)).length, 0) := by rw [hd1, rInt_vint _ (by omega) (by omega), if_neg (by omega)]
    have hd2 : B.drop ((vint (zz n)).length + (vint (zz s.length)).length) = s ++ ([if y then 1 else 0] ++ rest) := by rw [← List.drop_drop, hd1, List.drop_left]
    have hd3 : B.drop ((vint (zz n)).length + (vint (zz s.length)).length + s.length) = [if y then 1 else 0] ++ rest := by rw [← List.drop_drop, hd2, List.drop_left]
    have hT := text_eq (b := B) (at_ := (vint (zz n)).length) (most := s.length) (by omega) (by omega)
    have hT2 : rText B (vint (zz n)).length s.length = (s, ⟨B, (((vint (zz n)).length + (vint (zz s.length)).length + s.length : Nat) : Int), 0, true⟩) := by
      unfold rText
      rw [hr1]
      simp only [ne_eq, not_true_eq_false, if_false, Int.toNat_natCast]
      rw [if_neg (by omega), hd2, List.take_left]
    rw [hT2] at hT
    have hBo := bool_eq (b := B) (at_ := (vint (zz n)).length + (vint (zz s.length)).length + s.length) (by omega) (by omega)
    have hrb : rBool ([if y then 1 else 0] ++ rest) = (y, 1, 0) := by cases y <;> simp [rBool]
    rw [hd3, hrb] at hBo
    have e0 : (((0 : Nat) : Int)) = 0 := rfl
    simp only [decide_true, Bool.not_true, cond_false, e0]
    rw [hT, Option.bind_some]
    simp only [decide_true, Bool.not_true, cond_false, e0]
    rw [hBo, Option.bind_some]
    simp only [beq_self_eq_true, Bool.not_true, cond_false, Option.bind_some, Fl.next, e0]
    rw [err_eq, Option.bind_some, left_eq]
    simp only [decide_true, cond_true, Option.bind_some, if_true]
    rw [w64 (by omega) (by omega)]
    have : decide ((B.length : Int) - ((vint (zz n)).length + (vint (zz s.length)).length + s.length + 1 : Nat) = rest.length) = true := by simp; omega
    rw [this]; rfl

theorem WireCanonical_pure (b : List UInt8) : law01xWireCanonical b = some true := by
  unfold law01xWireCanonical
  simp only [works_eq, Option.bind_some]
  rw [cond_d]
  by_cases h : (300 : Int) < b.length
  · rw [if_pos h]
  · rw [if_neg h, wire_Open_eq (by omega), Option.bind_some, Option.bind_some, Option.bind_some]
    have hB := bool_eq (b := b) (at_ := 0) (by omega) (by omega)
    have hT := text_eq (b := b) (at_ := 0) (most := 9223372036854775807) (by omega) (by omega)
    simp only [Int.ofNat_zero, Int.natCast_zero, List.drop_zero, Nat.zero_add] at hB hT
    rw [int_eq0 (by omega), Option.bind_some, hT, Option.bind_some, hB, Option.bind_some]
    -- the text
    have fT : ((wire_Reader_Err (rText b 0 9223372036854775807).2).bind fun (x34 : Int) => cond (decide (x34 = (0 : Int))) ((wire_PutText ([] : List UInt8) (rText b 0 9223372036854775807).1).bind fun (x37 : (List UInt8)) => (wire_Reader_Left (rText b 0 9223372036854775807).2).bind fun (x39 : Int) => (slcH b (IntKind.wrap .i64 ((b.length : Int) - x39))).bind fun (x41 : (List UInt8)) => (law01xequal x37 (List.take (Int.toNat (IntKind.wrap .i64 ((b.length : Int) - x39))) b)).bind fun (x43 : Bool) => cond (!x43) (some (Fl.done (κ := Unit) false)) (some (Fl.go ()))) (some (Fl.go ()))) = some (Fl.go ()) := by
      have hu := rInt_used b 0 9223372036854775807
      unfold rText
      rw [List.drop_zero]
      by_cases he : (rInt b 0 9223372036854775807).2.2 = 0
      · have hin := rInt_in he
        have henc := rInt_enc he
        simp only [he, ne_eq, not_true_eq_false, if_false, Nat.zero_add]
        by_cases h3 : (b.length : Int) - ((rInt b 0 9223372036854775807).2.1 : Nat) < (rInt b 0 9223372036854775807).1
        · rw [if_pos h3, err_eq, Option.bind_some]
          rfl
        · rw [if_neg h3]
          generalize rInt b 0 9223372036854775807 = q at *
          obtain ⟨v, k, e⟩ := q
          simp only at *
          obtain ⟨m, rfl⟩ : ∃ m : Nat, v = (m : Int) := ⟨v.toNat, by omega⟩
          rw [err_eq, Option.bind_some]
          simp only [decide_true, cond_true, Int.toNat_natCast]
          have hl : ((b.drop k).take m).length = m := by simp; omega
          rw [wire_PutText_eq (by simp) (by omega), Option.bind_some, left_eq, Option.bind_some, List.nil_append, hl, henc]
          simp only [if_true]
          rw [w64 (x := (b.length : Int) - (k + m : Nat)) (by omega) (by omega), w64 (by omega) (by omega), slcH_ok (by omega), Option.bind_some, equal_eq (by simp; omega), Option.bind_some]
          have e1 : ((b.length : Int) - ((b.length : Int) - (k + m : Nat))).toNat = k + m := by omega
          rw [e1, ← List.take_add]
          simp
      · simp only [ne_eq, he, not_false_eq_true, if_true, afterInt, List.drop_zero]
        rw [err_eq, Option.bind_some]
        have : decide (((rInt b 0 9223372036854775807).2.2 : Int) = 0) = false := by simp; omega
        rw [this]; rfl
    -- the bool
    have fB : ((wire_Reader_Err ⟨b, ((rBool b).2.1 : Nat), ((rBool b).2.2 : Nat), true⟩).bind fun (x63 : Int) => cond (!decide (x63 = (0 : Int))) (some true) ((wire_PutBool ([] : List UInt8) (rBool b).1).bind fun (x69 : (List UInt8)) => (wire_Reader_Left ⟨b, ((rBool b).2.1 : Nat), ((rBool b).2.2 : Nat), true⟩).bind fun (x71 : Int) => (slcH b (IntKind.wrap .i64 ((b.length : Int) - x71))).bind fun (x73 : (List UInt8)) => (law01xequal x69 (List.take (Int.toNat (IntKind.wrap .i64 ((b.length : Int) - x71))) b)).bind fun (x75 : Bool) => cond x75 (some true) (some false))) = some true := by
      rw [err_eq, Option.bind_some]
      cases b with
      | nil => rfl
      | cons c r =>
        by_cases h5 : 1 < c.toNat
        · have hb : rBool (c :: r) = (false, 0, 3) := by simp [rBool, h5]
          rw [hb]; rfl
        · have hb : rBool (c :: r) = (c.toNat == 1, 1, 0) := by simp [rBool, h5]
          rw [hb]
          simp only [Int.ofNat_zero, Int.natCast_zero, decide_true, Bool.not_true, cond_false]
          rw [wire_PutBool_eq (by simp), Option.bind_some, left_eq, Option.bind_some]
          simp only [if_true]
          simp only [List.length_cons] at h ⊢
          rw [w64 (x := ((r.length + 1 : Nat) : Int) - (1 : Nat)) (by omega) (by omega), w64 (by omega) (by omega), slcH_ok (by simp only [List.length_cons]; omega), Option.bind_some, equal_eq (by simp), Option.bind_some]
          have e1 : (((r.length + 1 : Nat) : Int) - (((r.length + 1 : Nat) : Int) - (1 : Nat))).toNat = 0 + 1 := by omega
          rw [e1, List.take_succ_cons]
          have e2 : (if (c.toNat == 1) = true then (1 : UInt8) else 0) = c := by
            by_cases h6 : c.toNat = 1
            · simp [h6]; exact UInt8.toNat_inj.mp h6.symm
            · simp [h6]; exact UInt8.toNat_inj.mp (by simp; omega)
          rw [e2]
          simp
    by_cases he : (rInt b (-9223372036854775808) 9223372036854775807).2.2 = 0
    · have hin := rInt_in he
      have henc := rInt_enc he
      have hu := rInt_used b (-9223372036854775808) 9223372036854775807
      rw [err_eq, Option.bind_some]
      simp only [he, Int.ofNat_zero, Int.natCast_zero, decide_true, cond_true]
      rw [wire_PutInt_eq (by simp) hin.1 hin.2, Option.bind_some, left_eq, Option.bind_some, List.nil_append, henc]
      simp only [if_true]
      rw [w64 (x := (b.length : Int) - ((rInt b (-9223372036854775808) 9223372036854775807).2.1 : Nat)) (by omega) (by omega), w64 (by omega) (by omega), slcH_ok (by omega), Option.bind_some, equal_eq (by simp; omega), Option.bind_some]
      have e1 : ((b.length : Int) - ((b.length : Int) - ((rInt b (-9223372036854775808) 9223372036854775807).2.1 : Nat))).toNat = (rInt b (-9223372036854775808) 9223372036854775807).2.1 := by omega
      rw [e1]
      simp only [decide_true, Bool.not_true, cond_false]
      rw [fT, Option.bind_some]
      simp only [Fl.next]
      exact fB
    · rw [err_eq, Option.bind_some]
      have : decide (((rInt b (-9223372036854775808) 9223372036854775807).2.2 : Int) = 0) = false := by simp; omega
      rw [this, cond_false, fT, Option.bind_some]
      simp only [Fl.next]
      exact fB
end Go.Proofs.Ytnhchphmmdgphaa
