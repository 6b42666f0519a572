/- What the wire package's writers give, plainly. -/
import Derived.Test.YtlfggjfndmfblaaPk2
import Derived.Test.YtlfggjfndmfblaaGAF0
namespace Go.Proofs.Ytlfggjfndmfblaa
open Go Abs
set_option linter.unusedSimpArgs false
set_option linter.unusedVariables false

theorem clone_bytes {xs : List UInt8} (h : xs.length ≤ 140737488355328) : slices_Clone_byte_byte xs = some xs := by
  rw [slices_Clone_byte_byte, app_ok (by simpa using h)]; simp

theorem wire_PutInt_eq {b : List UInt8} {n : Int} (hb : b.length ≤ 1000000000) (h1 : -9223372036854775808 ≤ n) (h2 : n ≤ 9223372036854775807) : wire_PutInt b n = some (b ++ vint (zz n)) := by
  have hv := vint_len10 (zz_lt h1 h2)
  unfold wire_PutInt
  rw [clone_bytes (by omega), Option.bind_some, sh1, sh63, u64_xor_zz h1 h2]
  obtain ⟨r, hr, u, hu, hlt, he⟩ := loop_ex (body := wire_PutInt_l1) (fun s => ∃ u : Nat, s.2 = (u : Int) ∧ u < 18446744073709551616 ∧ s.1 ++ vint u = b ++ vint (zz n)) (fun s => s.2.toNat)
    (fun r => ∃ u : Nat, r.2 = (u : Int) ∧ u < 128 ∧ r.1 ++ vint u = b ++ vint (zz n)) (fun s ⟨u, hu, hlt, he⟩ => by
      have hlen : s.1.length + (vint u).length = b.length + (vint (zz n)).length := by simpa using congrArg List.length he
      unfold wire_PutInt_l1
      rw [hu, cond_d]
      by_cases h : u < 128
      · rw [if_neg (by omega)]
        exact .inr ⟨_, rfl, u, rfl, h, he⟩
      · rw [if_pos (by omega), u8_or, byteOf_u (by omega), Option.bind_some, app_ok (by simp; omega), Option.bind_some, sh7, shr7]
        refine .inl ⟨_, rfl, ⟨u / 128, rfl, by omega, ?_⟩, by simp; omega⟩
        rw [← he, vint_ge h, List.append_assoc, List.singleton_append]) (b, (zz n : Nat)) ⟨zz n, rfl, zz_lt h1 h2, rfl⟩
  have hlen : r.1.length + (vint u).length = b.length + (vint (zz n)).length := by simpa using congrArg List.length he
  rw [hr, Option.bind_some, hu, byteOf_eq (u8_byte (by omega)), Option.bind_some, app_ok (by simp; omega), Option.bind_some, ← vint_lt hlt, he]

theorem wire_PutText_eq {b s : List UInt8} (hb : b.length ≤ 1000000) (hs : s.length ≤ 1000000) : wire_PutText b s = some (b ++ vint (zz s.length) ++ s) := by
  have hv := vint_len10 (zz_lt (n := (s.length : Int)) (by omega) (by omega))
  unfold wire_PutText
  rw [wire_PutInt_eq (by omega) (by omega) (by omega), Option.bind_some, app_ok (by simp; omega), Option.bind_some]

theorem equal_eq {a b : List UInt8} (ha : a.length ≤ 1000000000) : law01xequal a b = some (decide (a = b)) := by
  unfold law01xequal
  rw [cond_nd]
  by_cases hl : a.length = b.length
  · rw [if_pos (by omega)]
    rw [loop_to (body := law01xequal_l1 a b) (fun s => ∃ i : Nat, s = (i : Int) ∧ i ≤ a.length ∧ a.take i = b.take i) (fun s => a.length - s.toNat) (fun _ => if a = b then Fl.go () else Fl.done false) ?_ 0 ⟨0, rfl, by omega, by simp⟩]
    · by_cases h : a = b
      · rw [if_pos h]; simp [Fl.next, h]
      · rw [if_neg h]; simp [Fl.next, h]
    · rintro s ⟨i, rfl, hi, he⟩
      unfold law01xequal_l1
      rw [cond_d]
      by_cases hlt : i < a.length
      · rw [if_pos (by omega), idx_nat, List.getElem?_eq_getElem hlt, Option.bind_some, idx_nat, List.getElem?_eq_getElem (by omega), Option.bind_some, cond_nd]
        by_cases hc : a[i] = b[i]
        · rw [if_pos (by rw [hc])]
          refine .inl ⟨_, rfl, ⟨i + 1, by rw [w64 (by omega) (by omega)]; rfl, hlt, ?_⟩, by rw [w64 (by omega) (by omega)]; omega, rfl⟩
          rw [List.take_succ_eq_append_getElem hlt, List.take_succ_eq_append_getElem (by omega), he, hc]
        · rw [if_neg (fun h => hc (UInt8.toNat_inj.1 (by omega))), if_neg (fun h => hc (by simp [h]))]
          exact .inr rfl
      · rw [if_neg (by omega)]
        have hi' : i = a.length := by omega
        rw [hi', List.take_length, hl, List.take_length] at he
        rw [if_pos he]
        exact .inr rfl
  · rw [if_neg (by omega)]
    simp only [Option.some.injEq]
    rw [eq_comm, decide_eq_false_iff_not]
    exact fun h => hl (by rw [h])
end Go.Proofs.Ytlfggjfndmfblaa
