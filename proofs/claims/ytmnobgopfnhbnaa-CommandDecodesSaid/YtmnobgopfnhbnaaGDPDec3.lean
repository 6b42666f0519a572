/- Layer 20's decoders side by side, plainly. -/
import Derived.Test.YtmnobgopfnhbnaaGDPDec2
import Derived.Test.YtmnobgopfnhbnaaGDPCmd2
import Derived.Test.YtmnobgopfnhbnaaGDEvMono
import Derived.Test.YtmnobgopfnhbnaaGDF4
import Derived.Test.YtmnobgopfnhbnaaGDF5
import Derived.Test.YtmnobgopfnhbnaaGDF9
namespace Go.Proofs.Ytmnobgopfnhbnaa
open Go Abs
set_option linter.unusedSimpArgs false
set_option linter.unusedVariables false
theorem le_n64 {e : Int} {r : WireReader} {w : Ref01Reader} (h : LikeE e r w) : ∃ x e' r' w', command_number64 r = some (x, r') ∧ ref20xread w = some (x, w') ∧ LikeE e' r' w' ∧ okI x ∧ (e ≠ 0 → x = 0 ∧ e' = e) ∧ (e' = 0 → e = 0) := by
  obtain ⟨x, e', r', w', h1, h2, h3, h4, h5, h6⟩ := le_int (-9223372036854775808) 9223372036854775807 h
  exact ⟨x, e', r', w', by unfold command_number64; rw [h1]; rfl, by unfold ref20xread; rw [h2]; rfl, h3, h4, h5, h6⟩
theorem le_value {e : Int} {r : WireReader} {w : Ref01Reader} (h : LikeE e r w) : ∃ v e' r' w', value_Decode r = some (v, r') ∧ ref02xDecode w = some (v, w') ∧ LikeE e' r' w' ∧ okApiValue v ∧ (e ≠ 0 → e' = e) := by
  obtain ⟨v, k, v', k', e', r', w', h1, h2, h3, h4, h5, h6⟩ := value_both 33 1 0 r w e h (by omega) (by omega) (by omega)
  have h1 := value_decoder_value_lim h1
  have h2 := ref02xdecoder_value_lim h2
  unfold value_Decode ref02xDecode
  rw [(le_err h).1, h2]
  simp only [Option.bind_some]
  rw [le_good k' h3]
  simp only [Option.bind_some]
  by_cases he1 : e = 1
  · have hne : e ≠ 0 := by omega
    have hst := h6 hne
    rw [hst] at h3
    simp only [he1, decide_true, cond_true, Option.bind_some, Fl.next]
    refine ⟨zV, e, r, w', rfl, ?_, h.trans_w h3 hne, ok_zV, fun _ => he1⟩
    simp [hst, he1, zV]
  · simp only [he1, decide_false, cond_false, Option.bind_some, Fl.next]
    rw [h1]
    simp only [Option.bind_some]
    rw [(le_err h3).1]
    simp only [Option.bind_some]
    by_cases he0 : e' = 0
    · obtain ⟨rfl, rfl⟩ := h5 he0
      exact ⟨v, e', r', w', by simp [he0], by simp [he0], h3, h4, h6⟩
    · exact ⟨zV, e', r', w', by simp [he0, zV], by simp [he0, zV], h3, ok_zV, h6⟩
theorem le_unless {e : Int} {r : WireReader} {w : Ref01Reader} (c : Bool) (h : LikeE e r w) : ∃ r' w', (cond (cond (decide (e = (0 : Int))) (!(if e = 0 then c else false)) false) ((wire_Reader_Fail (3 : Int) r).bind fun x => some x) (some r)) = some r' ∧ (cond (!c) ((ref01xReader_Fail (3 : Int) w).bind fun x => some x) (some w)) = some w' ∧ LikeE (eIf c e) r' w' := by
  obtain ⟨r', w', h3, h4, h5⟩ := le_fail 3 h
  by_cases he : e = 0
  · cases c
    · exact ⟨r', w', by simp [he, h3], by simp [h4], by simpa [eIf, he] using h5⟩
    · exact ⟨r, w, by simp [he], by simp, by simpa [eIf, he] using h⟩
  · have e1 : eIf c e = e := by unfold eIf; rw [if_neg he]
    rw [e1]
    cases c
    · refine ⟨r, w', by simp [he], by simp [h4], ?_⟩
      rw [if_neg he] at h5
      exact h.trans_w h5 he
    · exact ⟨r, w, by simp [he], by simp, h⟩
def zP : ApiPolicy := ⟨[], 0, 0, 0, 0, 0, 0, 0, 0, []⟩
theorem ok_zP : okApiPolicy zP := by
  simp [okApiPolicy, zP, okI, okS, okLs]
theorem eIf_ne {c : Bool} {e : Int} (h : e ≠ 0) : eIf c e = e := by unfold eIf; rw [if_neg h]
theorem le_policy {e : Int} {r : WireReader} {w : Ref01Reader} (h : LikeE e r w) : ∃ o e' r' w', command_DecodePolicy r = some (o, r') ∧ ref20xDecodePolicy w = some (o, w') ∧ LikeE e' r' w' ∧ okApiPolicy o ∧ (e ≠ 0 → e' = e) := by
  obtain ⟨q, e0, r0, w0, a0, b0, l0, k0, z0, y0⟩ := le_text 4096 h
  obtain ⟨n1, e1, r1, w1, a1, b1, l1, k1, z1, y1⟩ := le_n64 l0
  obtain ⟨n2, e2, r2, w2, a2, b2, l2, k2, z2, y2⟩ := le_n64 l1
  obtain ⟨n3, e3, r3, w3, a3, b3, l3, k3, z3, y3⟩ := le_n64 l2
  obtain ⟨n4, e4, r4, w4, a4, b4, l4, k4, z4, y4⟩ := le_n64 l3
  obtain ⟨n5, e5, r5, w5, a5, b5, l5, k5, z5, y5⟩ := le_n64 l4
  obtain ⟨n6, e6, r6, w6, a6, b6, l6, k6, z6, y6⟩ := le_n64 l5
  obtain ⟨n7, e7, r7, w7, a7, b7, l7, k7, z7, y7⟩ := le_n64 l6
  obtain ⟨n8, e8, r8, w8, a8, b8, l8, k8, z8, y8⟩ := le_n64 l7
  obtain ⟨n9, e9, r9, w9, a9, b9, l9, k9, z9, y9⟩ := le_n64 l8
  have hstay : e ≠ 0 → e9 = e := fun he => by
    have h0 := (z0 he).2
    have h1 := (z1 (by omega)).2
    have h2 := (z2 (by omega)).2
    have h3 := (z3 (by omega)).2
    have h4 := (z4 (by omega)).2
    have h5 := (z5 (by omega)).2
    have h6 := (z6 (by omega)).2
    have h7 := (z7 (by omega)).2
    have h8 := (z8 (by omega)).2
    have h9 := (z9 (by omega)).2
    omega
  unfold command_DecodePolicy ref20xDecodePolicy
  rw [a0, b0]
  simp only [Option.bind_some, command_numbers]
  rw [a1, b1]
  simp only [Option.bind_some]
  rw [a2, b2]
  simp only [Option.bind_some]
  rw [a3, b3]
  simp only [Option.bind_some]
  rw [a4, b4]
  simp only [Option.bind_some]
  rw [a5, b5]
  simp only [Option.bind_some]
  rw [a6, b6]
  simp only [Option.bind_some]
  rw [a7, b7]
  simp only [Option.bind_some]
  rw [a8, b8]
  simp only [Option.bind_some]
  rw [a9, b9]
  simp only [Option.bind_some]
  rw [(le_err l9).1, ref20in_eq, command_in_eq]
  simp only [Option.bind_some]
  have hg : ∀ c : Bool, gd ((decide (e9 = (0 : Int))) == true) (some c) = some (if e9 = 0 then c else false) := fun c => by by_cases h : e9 = 0 <;> simp [gd, h] <;> rfl
  rw [hg]
  simp only [Option.bind_some]
  obtain ⟨r10, w10, a10, b10, l10⟩ := le_unless (inB n9 0 64) l9
  rw [a10, b10]
  simp only [Option.bind_some]
  obtain ⟨X, Y, m1, m2, fl, e11, hX, hY, l11, k11, hs11⟩ : ∃ X Y, loopO (command_DecodePolicy_l1 (n9, r9)) ((0 : Int), r10, ([] : List (List UInt8))) = some X ∧ loopO (ref20xDecodePolicy_l1 (n9, w9)) ((0 : Int), w10, ([] : List (List UInt8))) = some Y ∧
      ∃ fl e', X.2 = fl ∧ Y.2 = fl ∧ LikeE e' X.1 Y.1 ∧ okLs 16 okS fl ∧ (eIf (inB n9 0 64) e9 ≠ 0 → e' = eIf (inB n9 0 64) e9) := by
    let R : (Int × WireReader × List (List UInt8)) → (Int × Ref01Reader × List (List UInt8)) → Prop := fun s t => ∃ (i : Nat) (r : WireReader) (w : Ref01Reader) (l : List (List UInt8)) (e : Int), s = ((i : Int), r, l) ∧ t = ((i : Int), w, l) ∧ LikeE e r w ∧ l.length = i ∧ i ≤ 64 ∧ (∀ x ∈ l, x.length ≤ 1000000000) ∧ (e = 0 → 0 ≤ n9 ∧ n9 ≤ 64) ∧ (eIf (inB n9 0 64) e9 ≠ 0 → e = eIf (inB n9 0 64) e9)
    have hok : ∀ l : List (List UInt8), l.length ≤ 64 → (∀ x ∈ l, x.length ≤ 1000000000) → okLs 16 okS l := fun l h1 h2 => ⟨by omega, by omega, fun x hx => by have := h2 x hx; simp only [okS]; omega⟩
    refine loop_two R (fun s => 65 - s.1.toNat) (fun (X : WireReader × List (List UInt8)) (Y : Ref01Reader × List (List UInt8)) => ∃ fl e', X.2 = fl ∧ Y.2 = fl ∧ LikeE e' X.1 Y.1 ∧ okLs 16 okS fl ∧ (eIf (inB n9 0 64) e9 ≠ 0 → e' = eIf (inB n9 0 64) e9)) ?_ _ _ ⟨0, r10, w10, [], _, rfl, rfl, l10, rfl, by omega, by simp, fun h => ?_, fun _ => rfl⟩
    · rintro s t ⟨i, r, w, l, e, rfl, rfl, hl, hlen, hi, hx, hn, hst⟩
      unfold command_DecodePolicy_l1
      by_cases hgo : (i : Int) < n9 ∧ e = 0
      · obtain ⟨x, e', r', w', g1, g2, g3, g4, g5, g6⟩ := le_text 4096 hl
        have hn' := hn hgo.2
        have hi1 : IntKind.i64.wrap ((i : Int) + 1) = ((i + 1 : Nat) : Int) := by rw [w64 (by omega) (by omega)]; omega
        refine .inl ⟨((i + 1 : Nat), r', l ++ [x]), ((i + 1 : Nat), w', l ++ [x]), ?_, ?_, ⟨i + 1, r', w', l ++ [x], e', rfl, rfl, g3, by simp [hlen], by omega, ?_, fun _ => hn', fun h => absurd hgo.2 (by rw [hst h]; exact h)⟩, by simp; omega⟩
        · simp only
          rw [cond_d, if_pos hgo.1, (le_err hl).1]
          simp only [Option.bind_some, hgo.2, decide_true, cond_true, Fl.next]
          rw [g1, Option.bind_some, app_ok (by simp; omega), Option.bind_some, hi1]
        · unfold ref20xDecodePolicy_l1
          simp only
          rw [cond_d, if_pos hgo.1, (le_err hl).2]
          simp only [Option.bind_some, hgo.2, decide_true, cond_true, Fl.next]
          rw [g2, Option.bind_some, app_ok (by simp; omega), Option.bind_some, hi1]
        · intro y hy
          rcases List.mem_append.1 hy with hy | hy
          · exact hx y hy
          · rw [List.mem_singleton.1 hy]; exact g4
      · refine .inr ⟨(r, l), (w, l), ?_, loop_out ?_, l, e, rfl, rfl, hl, hok l (by omega) hx, hst⟩
        · simp only
          by_cases h1 : (i : Int) < n9
          · have h2 : ¬ e = 0 := fun h => hgo ⟨h1, h⟩
            rw [cond_d, if_pos h1, (le_err hl).1]
            simp [h2, Fl.next]
          · rw [cond_d, if_neg h1]; simp [Fl.next]
        · unfold ref20xDecodePolicy_l1
          simp only
          by_cases h1 : (i : Int) < n9
          · have h2 : ¬ e = 0 := fun h => hgo ⟨h1, h⟩
            rw [cond_d, if_pos h1, (le_err hl).2]
            simp [h2, Fl.next]
          · rw [cond_d, if_neg h1]; simp [Fl.next]
    · have := (eIf_0.1 h).2
      unfold inB at this
      simpa using this
  rw [m1, m2]
  obtain ⟨rX, lX⟩ := X
  obtain ⟨wY, lY⟩ := Y
  simp only at hX hY l11
  subst hX hY
  have hokP : okApiPolicy ⟨q, n1, n2, n3, n4, n5, n6, n7, n8, lY⟩ := ⟨by simp only [okS]; omega, k1, k2, k3, k4, k5, k6, k7, k8, k11⟩
  simp only [Option.bind_some]
  rw [(le_err l11).1, RightPolicy_eq hokP, refRightPolicy_eq hokP]
  simp only [Option.bind_some]
  have hg2 : ∀ c : Bool, gd ((decide (e11 = (0 : Int))) == true) (some c) = some (if e11 = 0 then c else false) := fun c => by by_cases h : e11 = 0 <;> simp [gd, h] <;> rfl
  rw [hg2]
  simp only [Option.bind_some]
  obtain ⟨r12, w12, a12, b12, l12⟩ := le_unless (pright ⟨q, n1, n2, n3, n4, n5, n6, n7, n8, lY⟩) l11
  rw [a12, b12]
  simp only [Option.bind_some]
  rw [(le_err l12).1, (le_err l12).2]
  have hst2 : e ≠ 0 → eIf (pright ⟨q, n1, n2, n3, n4, n5, n6, n7, n8, lY⟩) e11 = e := fun he => by
    have h9 := hstay he
    have h10 : eIf (inB n9 0 64) e9 = e9 := eIf_ne (by omega)
    rw [h10] at hs11
    have h11 := hs11 (by omega)
    rw [eIf_ne (by omega), h11, h9]
  by_cases he0 : eIf (pright ⟨q, n1, n2, n3, n4, n5, n6, n7, n8, lY⟩) e11 = 0
  · exact ⟨_, _, r12, w12, by simp [he0], by simp [he0], l12, hokP, hst2⟩
  · exact ⟨zP, _, r12, w12, by simp [he0, zP], by simp [he0, zP], l12, ok_zP, hst2⟩
def zC : ApiCommand := ⟨0, 0, [], [], 0, zV, zP⟩
theorem ok_zC : okApiCommand zC := ⟨by simp [zC, okI], by simp [zC, okI], by simp [zC, okS], by simp [zC, okS], by simp [zC, okI], ok_zV, ok_zP⟩
theorem le_command {e : Int} {r : WireReader} {w : Ref01Reader} (h : LikeE e r w) : ∃ c e' r' w', command_Decode r = some (c, r') ∧ ref20xDecode w = some (c, w') ∧ LikeE e' r' w' ∧ okApiCommand c ∧ (e ≠ 0 → e' = e) := by
  obtain ⟨n0, e0, r0, w0, a0, b0, l0, k0, z0, y0⟩ := le_n64 h
  obtain ⟨n1, e1, r1, w1, a1, b1, l1, k1, z1, y1⟩ := le_n64 l0
  obtain ⟨n2, e2, r2, w2, a2, b2, l2, k2, z2, y2⟩ := le_text 4096 l1
  obtain ⟨n3, e3, r3, w3, a3, b3, l3, k3, z3, y3⟩ := le_text 4096 l2
  obtain ⟨n4, e4, r4, w4, a4, b4, l4, k4, z4, y4⟩ := le_n64 l3
  obtain ⟨n5, e5, r5, w5, a5, b5, l5, k5, z5⟩ := le_value l4
  obtain ⟨n6, e6, r6, w6, a6, b6, l6, k6, z6⟩ := le_policy l5
  have hstay : e ≠ 0 → e6 = e := fun he => by
    have h0 := (z0 he).2
    have h1 := (z1 (by omega)).2
    have h2 := (z2 (by omega)).2
    have h3 := (z3 (by omega)).2
    have h4 := (z4 (by omega)).2
    have h5 := z5 (by omega)
    have h6 := z6 (by omega)
    omega
  have hokC : okApiCommand ⟨n0, n1, n2, n3, n4, n5, n6⟩ := ⟨k0, k1, by simp only [okS]; omega, by simp only [okS]; omega, k4, k5, k6⟩
  unfold command_Decode ref20xDecode
  rw [a0, b0]
  simp only [Option.bind_some]
  rw [a1, b1]
  simp only [Option.bind_some]
  rw [a2, b2]
  simp only [Option.bind_some]
  rw [a3, b3]
  simp only [Option.bind_some]
  rw [a4, b4]
  simp only [Option.bind_some]
  rw [a5, b5]
  simp only [Option.bind_some]
  rw [a6, b6]
  simp only [Option.bind_some]
  rw [(le_err l6).1, command_Right_eq hokC, ref20Right_eq hokC]
  simp only [Option.bind_some]
  have hg2 : ∀ c : Bool, gd ((decide (e6 = (0 : Int))) == true) (some c) = some (if e6 = 0 then c else false) := fun c => by by_cases h : e6 = 0 <;> simp [gd, h] <;> rfl
  rw [hg2]
  simp only [Option.bind_some]
  obtain ⟨r12, w12, a12, b12, l12⟩ := le_unless (cright ⟨n0, n1, n2, n3, n4, n5, n6⟩) l6
  rw [a12, b12]
  simp only [Option.bind_some]
  rw [(le_err l12).1, (le_err l12).2]
  have hst2 : e ≠ 0 → eIf (cright ⟨n0, n1, n2, n3, n4, n5, n6⟩) e6 = e := fun he => by
    have h9 := hstay he
    rw [eIf_ne (by omega), h9]
  by_cases he0 : eIf (cright ⟨n0, n1, n2, n3, n4, n5, n6⟩) e6 = 0
  · exact ⟨_, _, r12, w12, by simp [he0], by simp [he0], l12, hokC, hst2⟩
  · exact ⟨zC, _, r12, w12, by simp [he0, zC, zP, zV], by simp [he0, zC, zP, zV], l12, ok_zC, hst2⟩
end Go.Proofs.Ytmnobgopfnhbnaa
