/- Copies by the reference; ChainContinue: the plain law. -/
import Derived.Test.YtopijeegnhighaaDoorGBPCh1
import Derived.Test.YtopijeegnhighaaDoorGBF3
namespace Go.Proofs.YtopijeegnhighaaDoor
open Go Abs
set_option linter.unusedSimpArgs false
set_option linter.unusedVariables false
theorem refCopyF_eq : ∀ (n : Nat) (v : ApiValue), okApiValue v → hgt v ≤ n → ref02xCopyF n v = some v := by
  intro n
  induction n with
  | zero => intro v hv hn; have := hgt_eq v; omega
  | succ n ih =>
    intro v hv hn
    have hh := hgt_eq v
    obtain ⟨k0, k1, k2, k3, k4⟩ := (okApiValue_iff v).1 hv
    have h16 := k4.2.1
    have h80 := k3.2.1
    have key : ∃ x, loopO (ref02xCopy_l1 (ref02xCopyF n) v) ((0 : Int), ([] : List ApiValue)) = some x ∧ x = v.Items := by
      refine loop_ex (fun t => ∃ i : Nat, t = ((i : Int), v.Items.take i) ∧ i ≤ v.Items.length) (fun t => v.Items.length - t.1.toNat) _ ?_ _ ⟨0, rfl, by omega⟩
      rintro _ ⟨i, rfl, hi⟩
      unfold ref02xCopy_l1
      simp only
      by_cases hc : i < v.Items.length
      · rw [cond_d, if_pos (by omega), idx_ok hc, Option.bind_some, ih _ (k3.2.2 _ (List.getElem_mem hc)) (by have := hgts_ge (List.getElem_mem hc); omega), Option.bind_some, app_ok (by simp; omega), Option.bind_some, w64s hc k3.1]
        refine .inl ⟨_, rfl, ⟨i + 1, by rw [List.take_succ_eq_append_getElem hc], hc⟩, by simp only [Int.toNat_natCast]; omega⟩
      · rw [cond_d, if_neg (by omega)]
        exact .inr ⟨_, rfl, by rw [List.take_of_length_le (by omega)]⟩
    obtain ⟨x, hx, rfl⟩ := key
    rw [ref02xCopyF, app_ok (by simp; omega), Option.bind_some, hx, Option.bind_some, List.nil_append]
    cases v; rfl
theorem refCopy_eq {v : ApiValue} (hv : okApiValue v) : ref02xCopy v = some v := lim_eq (hgt v) fun n hn => refCopyF_eq n v hv hn
end Go.Proofs.YtopijeegnhighaaDoor
