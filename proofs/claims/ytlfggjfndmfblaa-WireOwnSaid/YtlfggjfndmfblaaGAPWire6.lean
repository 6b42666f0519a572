/- The law WireOwn plainly: what was written and what is read do not hang on the bytes that were handed over. -/
import Derived.Test.YtlfggjfndmfblaaGAPWire4
import Derived.Test.YtlfggjfndmfblaaGAF1
namespace Go.Proofs.Ytlfggjfndmfblaa
open Go Abs
set_option linter.unusedSimpArgs false
set_option linter.unusedVariables false

theorem own_loop {b : List UInt8} (hb : b.length ≤ 1000) : loopO (law01xWireOwn_l1 b) (b, (0 : Int)) = some () := by
  obtain ⟨q, h1, _⟩ : ∃ q, loopO (law01xWireOwn_l1 b) (b, (0 : Int)) = some q ∧ True := by
    refine loop_ex (fun s => ∃ i : Nat, s.2 = (i : Int) ∧ i ≤ b.length ∧ s.1.length = b.length) (fun s => b.length - s.2.toNat) _ ?_ _ ⟨0, rfl, by omega, rfl⟩
    rintro ⟨l, i0⟩ ⟨i, hi0, hi, hl⟩
    simp only at hi0 hl
    subst hi0
    unfold law01xWireOwn_l1
    simp only [cond_d]
    by_cases h : i < b.length
    · rw [if_pos (by omega), idx_nat, List.getElem?_eq_getElem (by omega), Option.bind_some]
      refine .inl ⟨(List.set l i 255, ((i + 1 : Nat) : Int)), ?_, ⟨i + 1, rfl, h, by simp [hl]⟩, by simp; omega⟩
      rw [w64 (by omega) (by omega)]; rfl
    · rw [if_neg (by omega)]
      exact .inr ⟨_, rfl, trivial⟩
  exact h1
theorem zero_text : wire_Reader_Text (9 : Int) ⟨[], 0, 0, false⟩ = some ([], ⟨[], 0, 0, false⟩) := rfl
theorem WireOwn_pure {b : List UInt8} {n : Int} (hn1 : -9223372036854775808 ≤ n) (hn2 : n ≤ 9223372036854775807) : law01xWireOwn b n = some true := by
  unfold law01xWireOwn
  rw [works_eq]
  by_cases h : (100 : Int) < b.length
  · rw [decide_eq_true h]; rfl
  · rw [decide_eq_false h, cond_false, app_ok (by simp; omega), Option.bind_some, List.nil_append, wire_PutInt_eq (by omega) hn1 hn2, Option.bind_some]
    have e : wire_Open_own b = some ⟨b, 0, 0, true⟩ := wire_Open_eq (by omega)
    rw [e, Option.bind_some, own_loop (by omega), Option.bind_some, refPutInt_eq (by omega) hn1 hn2]
    obtain ⟨r, w, e1, e2, hl⟩ := like_open (b := b) (by omega)
    have e3 : r = ⟨b, 0, 0, true⟩ := by rw [wire_Open_eq (by omega)] at e1; exact (Option.some.inj e1).symm
    obtain ⟨x, r', w', h1, h2, _⟩ := like_int (low := -9223372036854775808) (high := 9223372036854775807) hl
    have f1 : wire_Reader_Fail_nil (2 : Int) = some () := rfl
    have f2 : wire_Reader_Fail_zero (2 : Int) (0 : Int) (0 : Int) false = some ⟨[], 0, 0, false⟩ := rfl
    have f3 : wire_Reader_Err_nil = some (1 : Int) := rfl
    have f4 : wire_Reader_Err ⟨[], 0, 0, false⟩ = some (1 : Int) := rfl
    have f5 : wire_Reader_End_nil = some (1 : Int) := rfl
    have f6 : wire_Reader_End ⟨[], 0, 0, false⟩ = some (1 : Int) := rfl
    have f7 : wire_Reader_Int_nil (0 : Int) (9 : Int) = some (0 : Int) := rfl
    have f8 : wire_Reader_Bool_nil = some false := rfl
    have f9 : wire_Reader_Left ⟨[], 0, 0, false⟩ = some (0 : Int) := rfl
    have e4 : law01xequal (b ++ vint (zz n)) (b ++ vint (zz n)) = some true := by
      have := vint_len10 (zz_lt hn1 hn2)
      rw [equal_eq (by simp; omega), decide_eq_true rfl]
    rw [e3] at h1
    simp only [f1, f2, f3, f4, f5, f6, f7, f8, f9, zero_text, Option.bind_some, Bool.not_true, decide_true, cond_false, cond_true, Fl.next, e4, h1, e2, h2]
end Go.Proofs.Ytlfggjfndmfblaa
