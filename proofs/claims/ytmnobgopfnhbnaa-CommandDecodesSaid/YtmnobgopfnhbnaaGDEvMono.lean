/- More fuel gives no less. -/
import Derived.Test.YtmnobgopfnhbnaaPk2
import Derived.Test.YtmnobgopfnhbnaaGDF4
import Derived.Test.YtmnobgopfnhbnaaGDF9
namespace Go.Proofs.Ytmnobgopfnhbnaa
open Go Abs
set_option maxRecDepth 100000
set_option linter.unusedVariables false
set_option linter.unusedSimpArgs false
theorem mono_value_decoder_items_l1 (rec_value_decoder_value rec_value_decoder_valueE : Int → Int → WireReader → Option (ApiValue × Int × WireReader)) (x1 : (Int × WireReader)) (p1vx0 : Int) (p2depth : Int) (s10 : (Int × Int × WireReader × (List ApiValue) × (List (List UInt8)))) (hrec_value_decoder_value : ∀ a0 a1 a2, LeO (rec_value_decoder_valueE a0 a1 a2) (rec_value_decoder_value a0 a1 a2)) : LeO (value_decoder_items_l1 rec_value_decoder_valueE x1 p1vx0 p2depth s10) (value_decoder_items_l1 rec_value_decoder_value x1 p1vx0 p2depth s10) := by
  unfold value_decoder_items_l1
  repeat' with_reducible (first | exact hrec_value_decoder_value _ _ _ | refine le_bind ?_ (fun _ => ?_) | refine le_cond ?_ ?_ | refine le_gd ?_ | refine le_next (fun _ => ?_) | refine le_loopO (fun _ => ?_) | exact le_same _)
theorem mono_rec_value_decoder_items (n : Nat) : (∀ a0 a1 a2 a3 a4 a5 m, n ≤ m → LeO (value_decoder_itemsF n a0 a1 a2 a3 a4 a5) (value_decoder_itemsF m a0 a1 a2 a3 a4 a5)) ∧ (∀ a0 a1 a2 m, n ≤ m → LeO (value_decoder_valueF n a0 a1 a2) (value_decoder_valueF m a0 a1 a2)) := by
  induction n with
  | zero => exact ⟨fun _ _ _ _ _ _ _ _ => by intro r h; simp [value_decoder_itemsF] at h, fun _ _ _ _ _ => by intro r h; simp [value_decoder_valueF] at h⟩
  | succ n ih =>
    refine ⟨?_, ?_⟩
    · intro a0 a1 a2 a3 a4 a5 m hm
      obtain ⟨m, rfl⟩ : ∃ k, m = k + 1 := ⟨m - 1, by omega⟩
      rw [value_decoder_itemsF, value_decoder_itemsF]
      repeat' with_reducible (first | exact ih.1 _ _ _ _ _ _ _ (by omega) | exact ih.2 _ _ _ _ (by omega) | refine mono_value_decoder_items_l1 _ _ _ _ _ _ (fun _ _ _ => ?_) | refine le_bind ?_ (fun _ => ?_) | refine le_cond ?_ ?_ | refine le_gd ?_ | refine le_next (fun _ => ?_) | refine le_loopO (fun _ => ?_) | exact le_same _)
    · intro a0 a1 a2 m hm
      obtain ⟨m, rfl⟩ : ∃ k, m = k + 1 := ⟨m - 1, by omega⟩
      rw [value_decoder_valueF, value_decoder_valueF]
      repeat' with_reducible (first | exact ih.1 _ _ _ _ _ _ _ (by omega) | exact ih.2 _ _ _ _ (by omega) | refine mono_value_decoder_items_l1 _ _ _ _ _ _ (fun _ _ _ => ?_) | refine le_bind ?_ (fun _ => ?_) | refine le_cond ?_ ?_ | refine le_gd ?_ | refine le_next (fun _ => ?_) | refine le_loopO (fun _ => ?_) | exact le_same _)
theorem value_decoder_value_lim {n : Nat} {p1depth : Int} {p100vx1 : Int} {p101v : WireReader} {r : (ApiValue × Int × WireReader)} (h : value_decoder_valueF n p1depth p100vx1 p101v = some r) : value_decoder_value p1depth p100vx1 p101v = some r := by
  unfold value_decoder_value
  exact lim_of (n := n) h fun m hm => (mono_rec_value_decoder_items n).2 p1depth p100vx1 p101v m hm
theorem mono_ref02xdecoder_items_l1 (rec_ref02xdecoder_value rec_ref02xdecoder_valueE : Int → Int → Ref01Reader → Option (ApiValue × Int × Ref01Reader)) (x1 : (Int × Ref01Reader)) (p1vx0 : Int) (p2depth : Int) (s8 : (Int × Int × Ref01Reader × (List ApiValue) × (List (List UInt8)))) (hrec_ref02xdecoder_value : ∀ a0 a1 a2, LeO (rec_ref02xdecoder_valueE a0 a1 a2) (rec_ref02xdecoder_value a0 a1 a2)) : LeO (ref02xdecoder_items_l1 rec_ref02xdecoder_valueE x1 p1vx0 p2depth s8) (ref02xdecoder_items_l1 rec_ref02xdecoder_value x1 p1vx0 p2depth s8) := by
  unfold ref02xdecoder_items_l1
  repeat' with_reducible (first | exact hrec_ref02xdecoder_value _ _ _ | refine le_bind ?_ (fun _ => ?_) | refine le_cond ?_ ?_ | refine le_gd ?_ | refine le_next (fun _ => ?_) | refine le_loopO (fun _ => ?_) | exact le_same _)
theorem mono_rec_ref02xdecoder_items (n : Nat) : (∀ a0 a1 a2 a3 a4 a5 m, n ≤ m → LeO (ref02xdecoder_itemsF n a0 a1 a2 a3 a4 a5) (ref02xdecoder_itemsF m a0 a1 a2 a3 a4 a5)) ∧ (∀ a0 a1 a2 m, n ≤ m → LeO (ref02xdecoder_valueF n a0 a1 a2) (ref02xdecoder_valueF m a0 a1 a2)) := by
  induction n with
  | zero => exact ⟨fun _ _ _ _ _ _ _ _ => by intro r h; simp [ref02xdecoder_itemsF] at h, fun _ _ _ _ _ => by intro r h; simp [ref02xdecoder_valueF] at h⟩
  | succ n ih =>
    refine ⟨?_, ?_⟩
    · intro a0 a1 a2 a3 a4 a5 m hm
      obtain ⟨m, rfl⟩ : ∃ k, m = k + 1 := ⟨m - 1, by omega⟩
      rw [ref02xdecoder_itemsF, ref02xdecoder_itemsF]
      repeat' with_reducible (first | exact ih.1 _ _ _ _ _ _ _ (by omega) | exact ih.2 _ _ _ _ (by omega) | refine mono_ref02xdecoder_items_l1 _ _ _ _ _ _ (fun _ _ _ => ?_) | refine le_bind ?_ (fun _ => ?_) | refine le_cond ?_ ?_ | refine le_gd ?_ | refine le_next (fun _ => ?_) | refine le_loopO (fun _ => ?_) | exact le_same _)
    · intro a0 a1 a2 m hm
      obtain ⟨m, rfl⟩ : ∃ k, m = k + 1 := ⟨m - 1, by omega⟩
      rw [ref02xdecoder_valueF, ref02xdecoder_valueF]
      repeat' with_reducible (first | exact ih.1 _ _ _ _ _ _ _ (by omega) | exact ih.2 _ _ _ _ (by omega) | refine mono_ref02xdecoder_items_l1 _ _ _ _ _ _ (fun _ _ _ => ?_) | refine le_bind ?_ (fun _ => ?_) | refine le_cond ?_ ?_ | refine le_gd ?_ | refine le_next (fun _ => ?_) | refine le_loopO (fun _ => ?_) | exact le_same _)
theorem ref02xdecoder_value_lim {n : Nat} {p1depth : Int} {p100vx1 : Int} {p101v : Ref01Reader} {r : (ApiValue × Int × Ref01Reader)} (h : ref02xdecoder_valueF n p1depth p100vx1 p101v = some r) : ref02xdecoder_value p1depth p100vx1 p101v = some r := by
  unfold ref02xdecoder_value
  exact lim_of (n := n) h fun m hm => (mono_rec_ref02xdecoder_items n).2 p1depth p100vx1 p101v m hm
end Go.Proofs.Ytmnobgopfnhbnaa
