/- Reading back what was written: policies, commands. -/
import Derived.Test.YtmnobgopfnhbnaaGTPRt1
import Derived.Test.YtmnobgopfnhbnaaGTPEnc3
import Derived.Test.YtmnobgopfnhbnaaGTF5
namespace Go.Proofs.Ytmnobgopfnhbnaa
open Go Abs
set_option linter.unusedSimpArgs false
set_option linter.unusedVariables false

theorem at_n64 {r : WireReader} {n : Int} {rest : List UInt8} (h : At r (ienc n ++ rest)) (hn : okI n) : ∃ r', command_number64 r = some (n, r') ∧ At r' rest := by
  obtain ⟨r', h1, h2⟩ := at_int (low := -9223372036854775808) (high := 9223372036854775807) h hn hn.1 hn.2
  exact ⟨r', by unfold command_number64; rw [h1]; rfl, h2⟩
theorem policy_back {r : WireReader} {o : ApiPolicy} {rest : List UInt8} (h : At r (penc o ++ rest)) (ho : okApiPolicy o) (hp : pright o = true) : ∃ r', command_DecodePolicy r = some (o, r') ∧ At r' rest := by
  obtain ⟨p1, p2, p3⟩ := pright_lens hp
  obtain ⟨k0, k1, k2, k3, k4, k5, k6, k7, k8, k9⟩ := id ho
  have hok : okI (o.Fatal.length : Int) := ⟨by omega, by omega⟩
  unfold penc at h
  simp only [List.append_assoc] at h
  obtain ⟨r0, a0, l0⟩ := at_text (most := 4096) h (by omega)
  obtain ⟨r1, a1, l1⟩ := at_n64 l0 k1
  obtain ⟨r2, a2, l2⟩ := at_n64 l1 k2
  obtain ⟨r3, a3, l3⟩ := at_n64 l2 k3
  obtain ⟨r4, a4, l4⟩ := at_n64 l3 k4
  obtain ⟨r5, a5, l5⟩ := at_n64 l4 k5
  obtain ⟨r6, a6, l6⟩ := at_n64 l5 k6
  obtain ⟨r7, a7, l7⟩ := at_n64 l6 k7
  obtain ⟨r8, a8, l8⟩ := at_n64 l7 k8
  obtain ⟨r9, a9, l9⟩ := at_n64 l8 hok
  unfold command_DecodePolicy
  rw [a0]
  simp only [Option.bind_some, command_numbers]
  rw [a1]
  simp only [Option.bind_some]
  rw [a2]
  simp only [Option.bind_some]
  rw [a3]
  simp only [Option.bind_some]
  rw [a4]
  simp only [Option.bind_some]
  rw [a5]
  simp only [Option.bind_some]
  rw [a6]
  simp only [Option.bind_some]
  rw [a7]
  simp only [Option.bind_some]
  rw [a8]
  simp only [Option.bind_some]
  rw [a9]
  simp only [Option.bind_some]
  rw [at_err l9, command_in_eq]
  have hin : inB (o.Fatal.length : Int) 0 64 = true := by unfold inB; simp; omega
  rw [hin]
  simp only [Option.bind_some, decide_true, beq_self_eq_true, gd, if_true, Bool.not_true, cond_true, cond_false]
  obtain ⟨X, g1, g2⟩ := loop_ex (body := command_DecodePolicy_l1 ((o.Fatal.length : Int), r9))
    (fun s => ∃ (i : Nat) (r' : WireReader), i ≤ o.Fatal.length ∧ s = ((i : Int), r', o.Fatal.take i) ∧ At r' ((o.Fatal.drop i).flatMap tenc ++ rest)) (fun s => o.Fatal.length - s.1.toNat)
    (fun X => ∃ r', X = (r', o.Fatal) ∧ At r' rest) (by
      rintro s ⟨i, r', hi, rfl, hat'⟩
      unfold command_DecodePolicy_l1
      by_cases hlt : i < o.Fatal.length
      · rw [take_flat tenc _ i hlt, List.append_assoc] at hat'
        obtain ⟨r3, f1, f2⟩ := at_text (most := 4096) hat' (by have := p3 _ (List.getElem_mem hlt); omega)
        refine .inl ⟨((i + 1 : Nat), r3, o.Fatal.take (i + 1)), ?_, ⟨i + 1, r3, by omega, rfl, f2⟩, by simp; omega⟩
        simp only
        rw [cond_d, if_pos (by omega), at_err hat']
        simp only [Option.bind_some, decide_true, cond_true, Fl.next]
        rw [f1]
        simp only [Option.bind_some]
        rw [app_ok (by simp; omega), w64s hlt (by omega), ← List.take_succ_eq_append_getElem hlt]
        rfl
      · obtain rfl : i = o.Fatal.length := by omega
        refine .inr ⟨(r', o.Fatal), ?_, r', rfl, by simpa using hat'⟩
        simp only
        rw [cond_d, if_neg (by omega), List.take_length]; rfl) ((0 : Int), r9, []) ⟨0, r9, by omega, by simp, by simpa using l9⟩
  obtain ⟨r', rfl, hat'⟩ := g2
  rw [g1]
  simp only [Option.bind_some]
  have hokP : okApiPolicy ⟨o.Queue, o.ToStart, o.ToClose, o.Total, o.Beat, o.First, o.Coef, o.Most, o.Attempts, o.Fatal⟩ := ho
  have hpP : pright ⟨o.Queue, o.ToStart, o.ToClose, o.Total, o.Beat, o.First, o.Coef, o.Most, o.Attempts, o.Fatal⟩ = true := hp
  rw [at_err hat', RightPolicy_eq hokP, hpP]
  refine ⟨r', ?_, hat'⟩
  simp only [Option.bind_some, decide_true, beq_self_eq_true, gd, if_true, Bool.not_true, cond_true, cond_false]
  rw [at_err hat']
  rfl
theorem value_Decode_back {r : WireReader} {v : ApiValue} {rest : List UInt8} (h : At r (venc v ++ rest)) (hv : okApiValue v) (hr : vright v = true) (hn : nsz v ≤ 1200) : ∃ r', value_Decode r = some (v, r') ∧ At r' rest := by
  obtain ⟨q1, q2, q3⟩ := vright_parts hr
  obtain ⟨d1, d2⟩ := dep_hgt (hgt v) v (Nat.le_refl _) (by omega)
  have hw : wth v = true := by unfold vright at hr; simp only [Bool.and_eq_true] at hr; exact hr.1
  unfold wth at hw
  rw [d1, d2] at hw
  simp only [Bool.and_eq_true, decide_eq_true_eq] at hw
  obtain ⟨r', g1, g2⟩ := value_back (2 * hgt v) v 1 0 r rest h hv q2 q1 (by omega) (by omega) (by omega) (Nat.le_refl _)
  have g1 := value_decoder_value_lim g1
  simp only [Int.natCast_zero] at g1
  refine ⟨r', ?_, g2⟩
  unfold value_Decode
  rw [at_err h]
  simp only [Option.bind_some, Int.reduceEq, decide_false, cond_false, Fl.next]
  rw [g1]
  simp only [Option.bind_some]
  rw [at_err g2]
  rfl
theorem command_back {r : WireReader} {c : ApiCommand} {rest : List UInt8} (h : At r (cenc c ++ rest)) (hc : okApiCommand c) (hs : small c = true) (hr : cright c = true) : ∃ r', command_Decode r = some (c, r') ∧ At r' rest := by
  obtain ⟨c1, c2⟩ := cright_parts hr
  obtain ⟨s1, s2, s3⟩ := small_lens hs
  obtain ⟨k0, k1, k2, k3, k4, k5, k6⟩ := id hc
  have hnm : c.Name.length ≤ 4096 ∧ c.Key.length ≤ 4096 := by
    unfold cright at hr
    simp only [Bool.and_eq_true, Bool.or_eq_true, Bool.not_eq_true'] at hr
    refine ⟨?_, by omega⟩
    obtain ⟨⟨⟨⟨⟨⟨⟨_, hb⟩, _⟩, _⟩, _⟩, _⟩, hn⟩, _⟩ := hr
    rcases hn with hn | hn
    · unfold bareB at hb
      simp only [Bool.and_eq_true, Bool.or_eq_true, hn, decide_eq_true_eq] at hb
      have := hb.1.1.1.1.2
      simp at this
      rw [this]; simp
    · by_cases h12 : c.Kind = 12
      · rw [if_pos h12] at hn
        simp only [longS, Bool.not_eq_true', decide_eq_false_iff_not] at hn
        omega
      · rw [if_neg h12] at hn
        have := nright_len hn
        omega
  unfold cenc at h
  simp only [List.append_assoc] at h
  obtain ⟨r0, a0, l0⟩ := at_n64 h k0
  obtain ⟨r1, a1, l1⟩ := at_n64 l0 k1
  obtain ⟨r2, a2, l2⟩ := at_text (most := 4096) l1 (by omega)
  obtain ⟨r3, a3, l3⟩ := at_text (most := 4096) l2 (by omega)
  obtain ⟨r4, a4, l4⟩ := at_n64 l3 k4
  obtain ⟨r5, a5, l5⟩ := value_Decode_back l4 k5 c1 s3
  obtain ⟨r6, a6, l6⟩ := policy_back l5 k6 c2
  unfold command_Decode
  rw [a0]
  simp only [Option.bind_some]
  rw [a1]
  simp only [Option.bind_some]
  rw [a2]
  simp only [Option.bind_some]
  rw [a3]
  simp only [Option.bind_some]
  rw [a4]
  simp only [Option.bind_some]
  rw [a5]
  simp only [Option.bind_some]
  rw [a6]
  simp only [Option.bind_some]
  have e : (⟨c.Kind, c.Seq, c.Name, c.Key, c.N, c.Data, c.Opts⟩ : ApiCommand) = c := rfl
  rw [at_err l6, e, command_Right_eq hc, hr]
  refine ⟨r6, ?_, l6⟩
  simp only [Option.bind_some, decide_true, beq_self_eq_true, gd, if_true, Bool.not_true, cond_true, cond_false]
  rw [at_err l6]
  rfl
end Go.Proofs.Ytmnobgopfnhbnaa
