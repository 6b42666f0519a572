/- Copies of values, plainly. -/
import Derived.Test.YtngcjjhbimanlaaGreatDoorGCPVal1
import Derived.Test.YtngcjjhbimanlaaGreatDoorGCF2
namespace Go.Proofs.YtngcjjhbimanlaaGreatDoor
open Go Abs
set_option linter.unusedSimpArgs false
set_option linter.unusedVariables false

theorem CopyF_eq : ∀ (n : Nat) (v : ApiValue), okApiValue v → 2 * hgt v ≤ n → value_CopyF n v = some v := by
  intro n
  induction n using Nat.strongRecOn with
  | _ n ih =>
    intro v hv hn
    have hh := hgt_eq v
    obtain ⟨m, rfl⟩ : ∃ m, n = m + 2 := ⟨n - 2, by omega⟩
    obtain ⟨k0, k1, k2, k3, k4⟩ := (okApiValue_iff v).1 hv
    rw [value_CopyF, value_copiesF]
    have hl : loopO (value_copies_l1 (value_CopyF m) v.Items) (([] : List ApiValue), (0 : Int)) = some (v.Items.filterMap some) := by
      refine loop_fm some v.Items (fun acc i hi hacc => ?_) (fun acc => ?_)
      · unfold value_copies_l1
        have h80 := k3.2.1
        rw [cond_d, if_pos (by simp only; omega), idx_ok hi, Option.bind_some, ih m (by omega) _ (k3.2.2 _ (List.getElem_mem hi)) (by have := hgts_ge (List.getElem_mem hi); omega), Option.bind_some, app_ok (by simp; omega), Option.bind_some, w64s hi k3.1]
        rfl
      · unfold value_copies_l1
        rw [cond_d, if_neg (by simp only; omega)]
    have h16 := k4.2.1
    rw [hl, Option.bind_some, Option.bind_some, slices_Clone_string_string, app_ok (by simp; omega), Option.bind_some, List.filterMap_some, List.nil_append]
    cases v; rfl
theorem value_Copy_eq {v : ApiValue} (hv : okApiValue v) : value_Copy v = some v := lim_eq (2 * hgt v) fun n hn => CopyF_eq n v hv hn
end Go.Proofs.YtngcjjhbimanlaaGreatDoor
