/- The writers of layer 1 and of its reference, plainly. -/
import Derived.Test.YtmnobgopfnhbnaaGPPLoop
import Derived.Test.YtmnobgopfnhbnaaGPF5
import Derived.Test.YtmnobgopfnhbnaaGPF7
namespace Go.Proofs.Ytmnobgopfnhbnaa
open Go Abs
set_option linter.unusedSimpArgs false
set_option linter.unusedVariables false

theorem clone_bytes {xs : List UInt8} (h : xs.length ≤ 140737488355328) : slices_Clone_byte_byte xs = some xs := by
  rw [slices_Clone_byte_byte, app_ok (by simpa using h)]; simp
theorem wire_PutInt_eq {b : List UInt8} {n : Int} (hb : b.length ≤ 10000000000000) (h1 : -9223372036854775808 ≤ n) (h2 : n ≤ 9223372036854775807) : wire_PutInt b n = some (b ++ vint (zz n)) := by
  have hv := vint_len10 (zz_lt h1 h2)
  unfold wire_PutInt
  rw [clone_bytes (by omega), Option.bind_some, sh1, sh63, u64_xor_zz h1 h2]
  obtain ⟨r, hr, u, hu, hlt, he⟩ := loop_ex (body := wire_PutInt_l1) (fun s => ∃ u : Nat, s.2 = (u : Int) ∧ u < 18446744073709551616 ∧ s.1 ++ vint u = b ++ vint (zz n)) (fun s => s.2.toNat)
    (fun r => ∃ u : Nat, r.2 = (u : Int) ∧ u < 128 ∧ r.1 ++ vint u = b ++ vint (zz n)) (fun s ⟨u, hu, hlt, he⟩ => by
      have hlen : s.1.length + (vint u).length = b.length + (vint (zz n)).length := by simpa using congrArg List.length he
      unfold wire_PutInt_l1
      rw [hu, cond_d]
      by_cases h : u < 128
      · rw [if_neg (by omega)]
        exact .inr ⟨_, rfl, u, rfl, h, he⟩
      · rw [if_pos (by omega), u8_or, byteOf_u (by omega), Option.bind_some, app_ok (by simp; omega), Option.bind_some, sh7, shr7]
        refine .inl ⟨_, rfl, ⟨u / 128, rfl, by omega, ?_⟩, by simp; omega⟩
        rw [← he, vint_ge h, List.append_assoc, List.singleton_append]) (b, (zz n : Nat)) ⟨zz n, rfl, zz_lt h1 h2, rfl⟩
  have hlen : r.1.length + (vint u).length = b.length + (vint (zz n)).length := by simpa using congrArg List.length he
  rw [hr, Option.bind_some, hu, byteOf_eq (u8_byte (by omega)), Option.bind_some, app_ok (by simp; omega), Option.bind_some, ← vint_lt hlt, he]
theorem wire_PutText_eq {b s : List UInt8} (hb : b.length ≤ 10000000000000) (hs : s.length ≤ 10000000000000) : wire_PutText b s = some (b ++ vint (zz s.length) ++ s) := by
  have hv := vint_len10 (zz_lt (n := (s.length : Int)) (by omega) (by omega))
  unfold wire_PutText
  rw [wire_PutInt_eq (by omega) (by omega) (by omega), Option.bind_some, app_ok (by simp; omega), Option.bind_some]
theorem zigzag_eq {n : Int} (h1 : -9223372036854775808 ≤ n) (h2 : n ≤ 9223372036854775807) : ref01xzigzag n = some (zz n : Int) := by
  unfold ref01xzigzag
  rw [cond_d]
  by_cases h : 0 ≤ n
  · rw [if_pos h]; congr 1; simp only [IntKind.wrap_u64, zz, h, if_true]; omega
  · rw [if_neg h]; congr 1; simp only [IntKind.wrap_u64, IntKind.wrap_i64, zz, h, if_false]; omega
theorem refPutInt_eq {b : List UInt8} {n : Int} (hb : b.length ≤ 10000000000000) (h1 : -9223372036854775808 ≤ n) (h2 : n ≤ 9223372036854775807) : ref01xPutInt b n = some (b ++ vint (zz n)) := by
  have hv := vint_len10 (zz_lt h1 h2)
  unfold ref01xPutInt
  rw [app_ok (by simp; omega), Option.bind_some, List.nil_append, zigzag_eq h1 h2, Option.bind_some]
  obtain ⟨r, hr, u, hu, hlt, he⟩ := loop_ex (body := ref01xPutInt_l1) (fun s => ∃ u : Nat, s.2 = (u : Int) ∧ u < 18446744073709551616 ∧ s.1 ++ vint u = b ++ vint (zz n)) (fun s => s.2.toNat)
    (fun r => ∃ u : Nat, r.2 = (u : Int) ∧ u < 128 ∧ r.1 ++ vint u = b ++ vint (zz n)) (fun s ⟨u, hu, hlt, he⟩ => by
      have hlen : s.1.length + (vint u).length = b.length + (vint (zz n)).length := by simpa using congrArg List.length he
      unfold ref01xPutInt_l1
      rw [hu, cond_d]
      by_cases h : u < 128
      · rw [if_neg (by omega)]
        exact .inr ⟨_, rfl, u, rfl, h, he⟩
      · rw [if_pos (by omega)]
        have e : IntKind.u8.wrap (IntKind.u64.wrap ((u : Int).tmod 128 + 128)) = ((128 + u % 128 : Nat) : Int) := by
          rw [IntKind.wrap_u64, IntKind.wrap_u8, Int.tmod_eq_emod_of_nonneg (by omega)]; omega
        rw [e, byteOf_u (by omega), Option.bind_some, app_ok (by simp; omega), Option.bind_some]
        have e2 : IntKind.u64.wrap ((u : Int).tdiv 128) = ((u / 128 : Nat) : Int) := by rw [IntKind.wrap_u64, Int.tdiv_eq_ediv_of_nonneg (by omega)]; omega
        rw [e2]
        refine .inl ⟨_, rfl, ⟨u / 128, rfl, by omega, ?_⟩, by simp; omega⟩
        rw [← he, vint_ge h, List.append_assoc, List.singleton_append]) (b, (zz n : Nat)) ⟨zz n, rfl, zz_lt h1 h2, rfl⟩
  have hlen : r.1.length + (vint u).length = b.length + (vint (zz n)).length := by simpa using congrArg List.length he
  rw [hr, Option.bind_some, hu, byteOf_eq (u8_byte (by omega)), Option.bind_some, app_ok (by simp; omega), Option.bind_some, ← vint_lt hlt, he]
theorem refPutText_eq {b s : List UInt8} (hb : b.length ≤ 10000000000000) (hs : s.length ≤ 10000000000000) : ref01xPutText b s = some (b ++ vint (zz s.length) ++ s) := by
  have hv := vint_len10 (zz_lt (n := (s.length : Int)) (by omega) (by omega))
  unfold ref01xPutText
  rw [refPutInt_eq (by omega) (by omega) (by omega), Option.bind_some]
  rw [loop_to (body := ref01xPutText_l1 s) (fun x => ∃ i : Nat, x.2 = (i : Int) ∧ i ≤ s.length ∧ x.1 = b ++ vint (zz s.length) ++ s.take i) (fun x => s.length - x.2.toNat) (fun _ => b ++ vint (zz s.length) ++ s) ?_ (b ++ vint (zz s.length), 0) ⟨0, rfl, by omega, by simp⟩]
  · rfl
  · rintro ⟨o, i0⟩ ⟨i, hi0, hi, ho⟩
    simp only at hi0 ho
    subst hi0 ho
    unfold ref01xPutText_l1
    rw [cond_d]
    by_cases h : i < s.length
    · rw [if_pos (by omega), idx_nat, List.getElem?_eq_getElem h, Option.bind_some, byteOf_nat, Option.bind_some, app_ok (by simp; omega), Option.bind_some]
      refine .inl ⟨_, rfl, ⟨i + 1, by rw [w64 (by omega) (by omega)]; rfl, h, ?_⟩, by simp only [w64 (show (-9223372036854775808 : Int) ≤ (i : Int) + 1 by omega) (by omega)]; omega, rfl⟩
      rw [List.take_succ_eq_append_getElem h]; simp
    · rw [if_neg (by omega), List.take_of_length_le (by omega)]
      exact .inr rfl
end Go.Proofs.Ytmnobgopfnhbnaa
