/- The value packages' decoders side by side, plainly. -/
import Derived.Test.YtmnobgopfnhbnaaGDPDec1
import Derived.Test.YtmnobgopfnhbnaaGDPVal2
import Derived.Test.YtmnobgopfnhbnaaGDF4
import Derived.Test.YtmnobgopfnhbnaaGDF9
namespace Go.Proofs.Ytmnobgopfnhbnaa
open Go Abs
set_option linter.unusedSimpArgs false
set_option linter.unusedVariables false
theorem le_ok {e : Int} {r : WireReader} {w : Ref01Reader} (c : Bool) (k k2 : Int) (h : LikeE e r w) : ∃ r' w', value_decoder_ok c k r = some (decide (eIf c e = 0), r') ∧ ref02xdecoder_check c k2 w = some w' ∧ LikeE (eIf c e) r' w' := by
  obtain ⟨h1, h2⟩ := le_err h
  unfold value_decoder_ok ref02xdecoder_check
  rw [h1]
  by_cases hc : c = true
  · have he : eIf c e = e := by unfold eIf; by_cases h : e = 0 <;> simp [h, hc]
    rw [he]
    refine ⟨r, w, ?_, by simp [hc], h⟩
    simp [hc, h1]
  · have hc : c = false := by simpa using hc
    obtain ⟨r', w', h3, h4, h5⟩ := le_fail 3 h
    have he : eIf c e = if e = 0 then 3 else e := by unfold eIf; simp [hc]
    rw [he]
    by_cases h0 : e = 0
    · refine ⟨r', w', ?_, by simp [hc, h4], h5⟩
      simp [hc, h0, h3, (le_err h5).1]
    · refine ⟨r, w', ?_, by simp [hc, h4], ?_⟩
      · simp [hc, h0, h1]
      · -- the reader that has failed stays
        obtain ⟨b, a, hb, ha, rfl, rfl⟩ := h
        rw [fail_eq] at h3
        simp only [h0, if_false] at h3 h5 ⊢
        rw [Option.some.inj h3]; exact h5
theorem le_good {e : Int} {r : WireReader} {w : Ref01Reader} (k : Int) (h : LikeE e r w) : ref02xdecoder_good k w = some (decide (e = 0)) := by
  unfold ref02xdecoder_good
  rw [(le_err h).2]; rfl
theorem le_num {e : Int} {r : WireReader} {w : Ref01Reader} (k : Int) (h : LikeE e r w) : ∃ x e' r' w', wire_Reader_Int (-9223372036854775808) 9223372036854775807 r = some (x, r') ∧ ref02xdecoder_number k w = some (x, w') ∧ LikeE e' r' w' ∧ okI x ∧ (e ≠ 0 → x = 0 ∧ e' = e) ∧ (e' = 0 → e = 0) := by
  obtain ⟨x, e', r', w', h1, h2, h3, h4, h5, h6⟩ := le_int (-9223372036854775808) 9223372036854775807 h
  exact ⟨x, e', r', w', h1, by unfold ref02xdecoder_number; rw [h2]; rfl, h3, h4, h5, h6⟩
theorem le_short {e : Int} {r : WireReader} {w : Ref01Reader} (k : Int) (h : LikeE e r w) : ∃ x e' r' w', wire_Reader_Text 9223372036854775807 r = some (x, r') ∧ LikeE e' r' w' ∧ x.length ≤ 1000000000 ∧ (e ≠ 0 → x = [] ∧ e' = e) ∧ (e' = 0 → e = 0) ∧
    ∃ w'', ref02xdecoder_text k w = some (x, w'') ∧ ref02xdecoder_check (decide ((x.length : Int) ≤ 4096)) k w' = some w'' := by
  obtain ⟨x, e', r', w', h1, h2, h3, h4, h5, h6⟩ := le_text 9223372036854775807 h
  obtain ⟨r2, w2, g1, g2, g3⟩ := le_ok (decide ((x.length : Int) ≤ 4096)) k k h3
  refine ⟨x, e', r', w', h1, h3, h4, h5, h6, w2, ?_, g2⟩
  unfold ref02xdecoder_text
  rw [h2, Option.bind_some]
  simp only
  rw [g2, Option.bind_some]
theorem LikeE.trans_w {e : Int} {r r2 : WireReader} {w w2 : Ref01Reader} (h : LikeE e r w) (h2 : LikeE e r2 w2) (he : e ≠ 0) : LikeE e r w2 := by
  obtain ⟨b, a, hb, ha, rfl, rfl⟩ := h
  obtain ⟨b2, a2, hb2, ha2, rfl, rfl⟩ := h2
  exact ⟨b, a, hb, ha, rfl, by simp [he]⟩
theorem check_two {e : Int} {r : WireReader} {w w1 : Ref01Reader} (c1 c2 : Bool) (k : Int) (h : LikeE e r w) (h1 : ref02xdecoder_check c1 k w = some w1) : ref02xdecoder_check c2 k w1 = ref02xdecoder_check (c1 && c2) k w := by
  obtain ⟨b, a, hb, ha, rfl, rfl⟩ := h
  unfold ref02xdecoder_check ref01xReader_Fail ref01xReader_stopped ref01xReader_set at *
  by_cases he : e = 0
  · cases c1 <;> cases c2 <;> simp [he] at h1 ⊢ <;> subst h1 <;> simp
  · cases c1 <;> cases c2 <;> simp [he] at h1 ⊢ <;> subst h1 <;> simp [he]
def zV : ApiValue := ⟨0, 0, [], [], []⟩
theorem ok_zV : okApiValue zV := by
  refine (okApiValue_iff _).2 ⟨?_, ?_, ?_, ?_, ?_⟩ <;> simp [zV, okI, okS, okLs]
theorem ok_leaf {k i : Int} {t : List UInt8} (hk : okI k) (hi : okI i) (ht : t.length ≤ 1000000000) : okApiValue ⟨k, i, t, [], []⟩ :=
  (okApiValue_iff _).2 ⟨hk, hi, by simp only [okS]; omega, by simp [okLs], by simp [okLs]⟩
def Both (A : Option (ApiValue × Int × WireReader)) (B : Option (ApiValue × Int × Ref01Reader)) (e : Int) : Prop :=
  ∃ v k v' k' e' r' w', A = some (v, k, r') ∧ B = some (v', k', w') ∧ LikeE e' r' w' ∧ okApiValue v' ∧ (e' = 0 → v = v' ∧ k = k') ∧ (e ≠ 0 → e' = e)
theorem items_both {n : Nat} {kd d : Int} (hk : okI kd)
    (ih : ∀ (k : Int) (r : WireReader) (w : Ref01Reader), LikeE 0 r w → Both (value_decoder_valueF n (IntKind.i64.wrap (d + 1)) k r) (ref02xdecoder_valueF n (IntKind.i64.wrap (d + 1)) k w) 0)
    (k : Int) (r : WireReader) (w : Ref01Reader) (h : LikeE 0 r w) : Both (value_decoder_itemsF (n + 1) kd 0 [] d k r) (ref02xdecoder_itemsF (n + 1) kd 0 [] d k w) 0 := by
  rw [value_decoder_itemsF, ref02xdecoder_itemsF]
  obtain ⟨x, e1, r1, w1, h1, h2, h3, h4, h5, h6⟩ := le_num k h
  rw [h1, h2]
  simp only [Option.bind_some]
  obtain ⟨r2, w2, g1, g2, g3⟩ := le_ok (cond (decide ((0 : Int) ≤ x)) (decide (x ≤ (1000 : Int))) false) k k h3
  rw [g1, g2]
  simp only [Option.bind_some]
  generalize hE : eIf (cond (decide ((0 : Int) ≤ x)) (decide (x ≤ (1000 : Int))) false) e1 = E at g1 g3
  have hno : ∀ (e : Int) (r : WireReader) (w : Ref01Reader) (i k : Int) (vs : List ApiValue) (ks : List (List UInt8)), e ≠ 0 → LikeE e r w → loopO (ref02xdecoder_items_l1 (ref02xdecoder_valueF n) (x, w1) kd d) (i, k, w, vs, ks) = some (k, w, vs, ks) := by
    intro e r w i k vs ks he hl
    refine loop_out ?_
    unfold ref02xdecoder_items_l1
    simp only
    by_cases hi : i < x
    · rw [cond_d, if_pos hi, le_good k hl]; simp [he, Fl.next]
    · rw [cond_d, if_neg hi]; simp [Fl.next]
  by_cases hE0 : E = 0
  · -- the number is good
    have hx : 0 ≤ x ∧ x ≤ 1000 := by
      rw [hE0] at hE
      have := (eIf_0.1 hE).2
      by_cases h0 : 0 ≤ x
      · simp [h0] at this; exact ⟨h0, this⟩
      · simp [h0] at this
    obtain ⟨m, rfl⟩ : ∃ m : Nat, x = (m : Int) := ⟨x.toNat, by omega⟩
    rw [hE0] at g3
    simp only [hE0, decide_true, Bool.not_true, cond_false]
    let Q : Fl (ApiValue × Int × WireReader) (Int × WireReader × List ApiValue × List (List UInt8)) → (Int × Ref01Reader × List ApiValue × List (List UInt8)) → Prop := fun a b =>
      (∃ (k : Int) (vs : List ApiValue) (ks : List (List UInt8)) (r : WireReader) (w : Ref01Reader), a = .go (k, r, vs, ks) ∧ b = (k, w, vs, ks) ∧ LikeE 0 r w ∧ okApiValue ⟨kd, 0, [], vs, ks⟩) ∨
      (∃ (v : ApiValue) (k k' : Int) (vs : List ApiValue) (ks : List (List UInt8)) (r : WireReader) (w : Ref01Reader) (e : Int), a = .done (v, k, r) ∧ b = (k', w, vs, ks) ∧ LikeE e r w ∧ e ≠ 0 ∧ okApiValue ⟨kd, 0, [], vs, ks⟩)
    let R : (Int × Int × WireReader × List ApiValue × List (List UInt8)) → (Int × Int × Ref01Reader × List ApiValue × List (List UInt8)) → Prop := fun s t =>
      ∃ (i : Nat) (k : Int) (vs : List ApiValue) (ks : List (List UInt8)) (r : WireReader) (w : Ref01Reader), s = ((i : Int), k, r, vs, ks) ∧ t = ((i : Int), k, w, vs, ks) ∧ LikeE 0 r w ∧ i ≤ m ∧ vs.length = i ∧ (ks.length = if kd = 5 then i else 0) ∧ (∀ v ∈ vs, okApiValue v) ∧ ∀ s ∈ ks, s.length ≤ 1000000000
    have hok : ∀ (vs : List ApiValue) (ks : List (List UInt8)), vs.length ≤ 1000 → ks.length ≤ 1001 → (∀ v ∈ vs, okApiValue v) → (∀ s ∈ ks, s.length ≤ 1000000000) → okApiValue ⟨kd, 0, [], vs, ks⟩ := fun vs ks a1 a2 a3 a4 =>
      (okApiValue_iff _).2 ⟨hk, by simp [okI], by simp [okS], ⟨by simp only; omega, by simp only; omega, a3⟩, ⟨by simp only; omega, by simp only; omega, fun s hs => by have := a4 s hs; simp only [okS]; omega⟩⟩
    obtain ⟨X, Y, l1, l2, l3⟩ := loop_two (b1 := value_decoder_items_l1 (value_decoder_valueF n) ((m : Int), r1) kd d) (b2 := ref02xdecoder_items_l1 (ref02xdecoder_valueF n) ((m : Int), w1) kd d) R (fun s => m - s.1.toNat) Q (by
      rintro s t ⟨i, k, vs, ks, r, w, rfl, rfl, hl, hi, hvs, hks, ov, ok⟩
      have hkl : ks.length ≤ 1000 := by rw [hks]; split <;> omega
      by_cases hlt : i < m
      · skip
        -- the key
        by_cases h5k : kd = 5
        · obtain ⟨x, e3, r3, w3, a1, a2, a3, a4, a5, w4, a6, a7⟩ := le_short k hl
          have hprev : (gd ((decide (((x).length : Int) ≤ (4096 : Int))) == true && ((decide ((i : Int) = (0 : Int))) == false)) (idx ks (IntKind.wrap .i64 ((i : Int) - (1 : Int))))) = some (if x.length ≤ 4096 ∧ i ≠ 0 then ks.getD (i - 1) [] else []) := by
            by_cases hx : x.length ≤ 4096
            · by_cases hi0 : i = 0
              · subst hi0; simp [gd, hx]; rfl
              · have e : IntKind.i64.wrap ((i : Int) - 1) = ((i - 1 : Nat) : Int) := by rw [w64 (by omega) (by omega)]; omega
                have hik : i - 1 < ks.length := by rw [hks, if_pos h5k]; omega
                rw [e, idx_ok hik]
                have c1 : decide ((x.length : Int) ≤ 4096) = true := by simp; omega
                have c2 : decide ((i : Int) = 0) = false := by simp; omega
                rw [c1, c2]
                simp [gd, hx, hi0, hik]
            · have c1 : decide ((x.length : Int) ≤ 4096) = false := by simp; omega
              rw [c1]; simp [gd, hx]; rfl
          have hp2 : ∀ l : List (List UInt8), l = ks ++ [x] → (gd ((decide ((i : Int) = (0 : Int))) == false) (idx l (IntKind.wrap .i64 ((i : Int) - (1 : Int))))) = some (if i ≠ 0 then ks.getD (i - 1) [] else []) ∧ (gd ((decide ((i : Int) = (0 : Int))) == false) (idx l (i : Int))) = some (if i ≠ 0 then x else []) := by
            rintro l rfl
            by_cases hi0 : i = 0
            · subst hi0; constructor <;> (simp [gd]; rfl)
            · have e : IntKind.i64.wrap ((i : Int) - 1) = ((i - 1 : Nat) : Int) := by rw [w64 (by omega) (by omega)]; omega
              have hkl2 : ks.length = i := by rw [hks, if_pos h5k]
              have hik : i - 1 < ks.length := by omega
              have c2 : decide ((i : Int) = 0) = false := by simp; omega
              rw [e, idx_ok (l := ks ++ [x]) (by simp; omega), idx_ok (l := ks ++ [x]) (i := i) (by simp; omega), c2]
              constructor
              · simp [gd, hi0, List.getElem_append_left hik]
                rw [List.getElem?_eq_getElem hik]; rfl
              · simp [gd, hi0, hkl2]
          obtain ⟨p1, p2⟩ := hp2 _ rfl
          generalize hprevv : (if x.length ≤ 4096 ∧ i ≠ 0 then ks.getD (i - 1) [] else []) = pv at hprev
          generalize hC : (cond (decide (((x).length : Int) ≤ (4096 : Int))) (cond (decide ((i : Int) = (0 : Int))) true (!(Op.bytesLess x pv || decide (x = pv)))) false) = C
          have hC2 : (decide ((x.length : Int) ≤ 4096) && cond (decide ((i : Int) = 0)) true (Op.bytesLess (if i ≠ 0 then ks.getD (i - 1) [] else []) (if i ≠ 0 then x else []))) = C := by
            rw [← hC, ← hprevv, bl_total]
            by_cases hx : x.length ≤ 4096
            · have c1 : decide ((x.length : Int) ≤ 4096) = true := by simp; omega
              rw [c1]
              by_cases hi0 : i = 0
              · subst hi0; simp
              · have c2 : decide ((i : Int) = 0) = false := by simp; omega
                rw [c2]; simp [hx, hi0]
            · have c1 : decide ((x.length : Int) ≤ 4096) = false := by simp; omega
              rw [c1]; rfl
          obtain ⟨r5, w5, s1, s2, s3⟩ := le_ok C k k a2
          have s4 : ref02xdecoder_check (cond (decide ((i : Int) = 0)) true (Op.bytesLess (if i ≠ 0 then ks.getD (i - 1) [] else []) (if i ≠ 0 then x else []))) k w4 = some w5 := by rw [check_two _ _ k a2 a7, hC2, s2]
          have hkl5 : (ks ++ [x]).length = i + 1 := by rw [List.length_append, hks, if_pos h5k]; rfl
          have okks : ∀ s ∈ ks ++ [x], s.length ≤ 1000000000 := by
            intro s hs
            rcases List.mem_append.1 hs with hs | hs
            · exact ok s hs
            · rw [List.mem_singleton.1 hs]; exact a3
          have hL : value_decoder_items_l1 (value_decoder_valueF n) ((m : Int), r1) kd d ((i : Int), k, r, vs, ks) = cond (!decide (eIf C e3 = 0)) (some (Step.out (Fl.done (zV, k, r5)))) (((value_decoder_valueF n) (IntKind.i64.wrap (d + 1)) k r5).bind fun x30 => (wire_Reader_Err x30.2.2).bind fun x32 => cond (!decide (x32 = (0 : Int))) (some (Step.out (Fl.done (zV, x30.2.1, x30.2.2)))) ((app 80 vs [x30.1]).bind fun x38 => some (Step.next ((IntKind.i64.wrap ((i : Int) + 1)), x30.2.1, x30.2.2, x38, ks ++ [x])))) := by
            unfold value_decoder_items_l1
            simp only
            rw [cond_d, if_pos (by omega)]
            simp only [h5k, decide_true, cond_true]
            rw [a1]
            simp only [Option.bind_some]
            rw [hprev]
            simp only [Option.bind_some]
            rw [hC, s1, app_ok (by simp; omega)]
            by_cases hz : eIf C e3 = 0
            · simp [hz, Fl.next, zV]
            · simp [hz, Fl.next, zV]
          have hR : ref02xdecoder_items_l1 (ref02xdecoder_valueF n) ((m : Int), w1) kd d ((i : Int), k, w, vs, ks) = cond (decide (eIf C e3 = 0)) (((ref02xdecoder_valueF n) (IntKind.i64.wrap (d + 1)) k w5).bind fun x39 => (app 80 vs [x39.1]).bind fun x41 => some (Step.next ((IntKind.i64.wrap ((i : Int) + 1)), x39.2.1, x39.2.2, x41, ks ++ [x]))) (some (Step.next ((IntKind.i64.wrap ((i : Int) + 1)), k, w5, vs, ks ++ [x]))) := by
            unfold ref02xdecoder_items_l1
            simp only
            rw [cond_d, if_pos (by omega), le_good k hl]
            simp only [decide_true, Option.bind_some, cond_true, Fl.next, h5k]
            rw [a6]
            simp only [Option.bind_some]
            rw [app_ok (by simp; omega)]
            simp only [Option.bind_some]
            rw [p1, p2]
            simp only [Option.bind_some]
            rw [s4]
            simp only [Option.bind_some]
            rw [le_good k s3]
            rfl
          rw [hL]
          by_cases hz : eIf C e3 = 0
          · rw [hz] at s3
            obtain ⟨v, k1, v', k1', e', r', w', b1, b2, b3, b4, b5, b6⟩ := ih k r5 w5 s3
            have hi1 : IntKind.i64.wrap ((i : Int) + 1) = ((i + 1 : Nat) : Int) := by rw [w64 (by omega) (by omega)]; omega
            have hR2 : ref02xdecoder_items_l1 (ref02xdecoder_valueF n) ((m : Int), w1) kd d ((i : Int), k, w, vs, ks) = some (Step.next (((i + 1 : Nat) : Int), k1', w', vs ++ [v'], ks ++ [x])) := by
              rw [hR, hz]
              simp only [decide_true, cond_true]
              rw [b2, Option.bind_some, app_ok (by simp; omega), Option.bind_some, hi1]
            rw [hz, b1]
            simp only [decide_true, Bool.not_true, cond_false, Option.bind_some]
            rw [(le_err b3).1, app_ok (by simp; omega), hi1]
            simp only [Option.bind_some]
            have okvs : ∀ y ∈ vs ++ [v'], okApiValue y := by
              intro y hy
              rcases List.mem_append.1 hy with hy | hy
              · exact ov y hy
              · rw [List.mem_singleton.1 hy]; exact b4
            by_cases he : e' = 0
            · obtain ⟨rfl, rfl⟩ := b5 he
              subst he
              exact .inl ⟨_, _, rfl, hR2, ⟨i + 1, k1, vs ++ [v], ks ++ [x], r', w', rfl, rfl, b3, by omega, by simp [hvs], by rw [if_pos h5k]; exact hkl5, okvs, okks⟩, by simp; omega⟩
            · refine .inr ⟨.done (zV, k1, r'), (k1', w', vs ++ [v'], ks ++ [x]), by simp [he], ?_, .inr ⟨zV, k1, k1', vs ++ [v'], ks ++ [x], r', w', e', rfl, rfl, b3, he, hok _ _ (by simp; omega) (by omega) okvs okks⟩⟩
              rw [loop_next hR2, hno e' r' w' _ _ _ _ he b3]
          · refine .inr ⟨.done (zV, k, r5), (k, w5, vs, ks ++ [x]), by simp [hz], ?_, .inr ⟨zV, k, k, vs, ks ++ [x], r5, w5, _, rfl, rfl, s3, hz, hok _ _ (by omega) (by omega) ov okks⟩⟩
            have hR3 : ref02xdecoder_items_l1 (ref02xdecoder_valueF n) ((m : Int), w1) kd d ((i : Int), k, w, vs, ks) = some (Step.next ((IntKind.i64.wrap ((i : Int) + 1)), k, w5, vs, ks ++ [x])) := by rw [hR]; simp [hz]
            rw [loop_next hR3, hno _ r5 w5 _ _ _ _ hz s3]
        · obtain ⟨v, k1, v', k1', e', r', w', b1, b2, b3, b4, b5, b6⟩ := ih k r w hl
          have hi1 : IntKind.i64.wrap ((i : Int) + 1) = ((i + 1 : Nat) : Int) := by rw [w64 (by omega) (by omega)]; omega
          have hR2 : ref02xdecoder_items_l1 (ref02xdecoder_valueF n) ((m : Int), w1) kd d ((i : Int), k, w, vs, ks) = some (Step.next (((i + 1 : Nat) : Int), k1', w', vs ++ [v'], ks)) := by
            unfold ref02xdecoder_items_l1
            simp only
            rw [cond_d, if_pos (by omega), le_good k hl]
            simp only [decide_true, Option.bind_some, cond_true, Fl.next, h5k, decide_false, cond_false]
            rw [le_good k hl]
            simp only [decide_true, Option.bind_some, cond_true]
            rw [b2, Option.bind_some, app_ok (by simp; omega), Option.bind_some, hi1]
          unfold value_decoder_items_l1
          simp only
          rw [cond_d, if_pos (by omega)]
          simp only [h5k, decide_false, cond_false, Option.bind_some, Fl.next]
          rw [b1]
          simp only [Option.bind_some]
          rw [(le_err b3).1, app_ok (by simp; omega), hi1]
          simp only [Option.bind_some]
          have okvs : ∀ y ∈ vs ++ [v'], okApiValue y := by
            intro y hy
            rcases List.mem_append.1 hy with hy | hy
            · exact ov y hy
            · rw [List.mem_singleton.1 hy]; exact b4
          by_cases he : e' = 0
          · obtain ⟨rfl, rfl⟩ := b5 he
            subst he
            exact .inl ⟨_, _, rfl, hR2, ⟨i + 1, k1, vs ++ [v], ks, r', w', rfl, rfl, b3, by omega, by simp [hvs], by rw [if_neg h5k] at hks ⊢; exact hks, okvs, ok⟩, by simp; omega⟩
          · refine .inr ⟨.done (zV, k1, r'), (k1', w', vs ++ [v'], ks), by simp [he, zV], ?_, .inr ⟨zV, k1, k1', vs ++ [v'], ks, r', w', e', rfl, rfl, b3, he, hok _ _ (by simp; omega) (by omega) okvs ok⟩⟩
            rw [loop_next hR2, hno e' r' w' _ _ _ _ he b3]
      · refine .inr ⟨.go (k, r, vs, ks), (k, w, vs, ks), ?_, ?_, .inl ⟨k, vs, ks, r, w, rfl, rfl, hl, hok vs ks (by omega) (by omega) ov ok⟩⟩
        · unfold value_decoder_items_l1
          rw [cond_d, if_neg (by simp only; omega)]
        · refine loop_out ?_
          unfold ref02xdecoder_items_l1
          rw [cond_d, if_neg (by simp only; omega)]; rfl) (0, k, r2, [], []) (0, k, w2, [], []) ⟨0, k, [], [], r2, w2, rfl, rfl, g3, by omega, rfl, by simp, by simp, by simp⟩
    rw [l1, l2]
    rcases l3 with ⟨k, vs, ks, r, w, rfl, rfl, q1, q2⟩ | ⟨v, k, k', vs, ks, r, w, e, rfl, rfl, q1, q2, q3⟩
    · exact ⟨_, _, _, _, 0, _, _, rfl, rfl, q1, q2, fun _ => ⟨rfl, rfl⟩, fun h => absurd rfl h⟩
    · exact ⟨_, _, _, _, e, _, _, rfl, rfl, q1, q3, fun h => absurd h q2, fun h => absurd rfl h⟩
  · have hd : decide (E = 0) = false := by simp [hE0]
    simp only [hd, Bool.not_false, cond_true]
    rw [hno E r2 w2 0 k [] [] hE0 g3]
    exact ⟨_, _, _, _, E, _, _, rfl, rfl, g3, ok_leaf hk (by simp [okI]) (by simp), fun h => absurd h hE0, fun h => absurd rfl h⟩
theorem value_both : ∀ (n : Nat) (d k : Int) (r : WireReader) (w : Ref01Reader) (e : Int), LikeE e r w → -1000000 ≤ d → d ≤ 1000000 → 2 * (17 - d).toNat + 1 ≤ n → Both (value_decoder_valueF n d k r) (ref02xdecoder_valueF n d k w) e := by
  intro n
  induction n using Nat.strongRecOn with
  | _ n ih =>
    intro d k r w e h hd1 hd2 hn
    obtain ⟨m, rfl⟩ : ∃ m, n = m + 1 := ⟨n - 1, by omega⟩
    rw [value_decoder_valueF, ref02xdecoder_valueF]
    generalize hk1 : IntKind.i64.wrap (k + 1) = k1
    obtain ⟨r1, w1, a1, a2, a3⟩ := le_ok (cond (decide (k < (1000 : Int))) (decide (d ≤ (16 : Int))) false) k k h
    rw [a1, a2]
    simp only [Option.bind_some]
    generalize hE : eIf (cond (decide (k < (1000 : Int))) (decide (d ≤ (16 : Int))) false) e = E at a1 a3
    obtain ⟨x, e2, r2, w2, b1, b2, b3, b4, b5, b6⟩ := le_num k1 a3
    rw [b1, b2]
    by_cases hE0 : E = 0
    · subst hE0
      obtain ⟨he0, hc⟩ := eIf_0.1 hE
      have hd : d ≤ 16 := by
        by_cases hk : k < 1000
        · simpa [hk] using hc
        · simp [hk] at hc
      simp only [decide_true, Bool.not_true, cond_false, Option.bind_some]
      obtain ⟨r3, w3, c1, c2, c3⟩ := le_ok (cond (decide ((0 : Int) ≤ x)) (decide (x ≤ (5 : Int))) false) k1 k1 b3
      rw [c1, c2]
      simp only [Option.bind_some]
      rw [le_good k1 c3]
      simp only [Option.bind_some]
      generalize hE3 : eIf (cond (decide ((0 : Int) ≤ x)) (decide (x ≤ (5 : Int))) false) e2 = E3 at c1 c3
      by_cases hE30 : E3 = 0
      · subst hE30
        simp only [decide_true, Bool.not_true, cond_false]
        by_cases h1 : x = 1
        · simp only [h1, decide_true, cond_true]
          obtain ⟨x4, e4, r4, w4, d1, d2, d3, d4, d5, d6⟩ := le_num k1 c3
          obtain ⟨r5, w5, f1, f2, f3⟩ := le_ok (cond (decide (x4 = (0 : Int))) true (decide (x4 = (1 : Int)))) k1 k1 d3
          rw [d1, d2]
          simp only [Option.bind_some]
          rw [f1, f2]
          exact ⟨_, _, _, _, _, _, _, rfl, rfl, f3, ok_leaf (by simp [okI]) d4 (by simp), fun _ => ⟨rfl, rfl⟩, fun h => absurd he0 h⟩
        · simp only [h1, decide_false, cond_false]
          by_cases h2 : x = 2
          · simp only [h2, decide_true, cond_true]
            obtain ⟨x4, e4, r4, w4, d1, d2, d3, d4, d5, d6⟩ := le_num k1 c3
            rw [d1, d2]
            exact ⟨_, _, _, _, _, _, _, rfl, rfl, d3, ok_leaf (by simp [okI]) d4 (by simp), fun _ => ⟨rfl, rfl⟩, fun h => absurd he0 h⟩
          · simp only [h2, decide_false, cond_false]
            by_cases h3 : x = 3
            · simp only [h3, decide_true, cond_true]
              obtain ⟨x4, e4, r4, w4, d1, d2, d3, d4, d5, w6, d6, d7⟩ := le_short k1 c3
              obtain ⟨r5, w5, f1, f2, f3⟩ := le_ok (decide ((x4.length : Int) ≤ 4096)) k1 k1 d2
              have : w6 = w5 := by rw [d7] at f2; exact Option.some.inj f2
              subst this
              rw [d1, d6]
              simp only [Option.bind_some]
              rw [f1]
              exact ⟨_, _, _, _, _, _, _, rfl, rfl, f3, ok_leaf (by simp [okI]) (by simp [okI]) d3, fun _ => ⟨rfl, rfl⟩, fun h => absurd he0 h⟩
            · simp only [h3, decide_false, cond_false]
              by_cases h45 : x = 4 ∨ x = 5
              · have e45 : (cond (decide (x = (4 : Int))) (some (decide (x = (4 : Int)))) (some (decide (x = (5 : Int))))) = some true := by rcases h45 with h | h <;> simp [h]
                rw [e45]
                simp only [Option.bind_some, cond_true]
                obtain ⟨m2, rfl⟩ : ∃ m2, m = m2 + 1 := ⟨m - 1, by omega⟩
                have hdw : IntKind.i64.wrap (d + 1) = d + 1 := w64 (by omega) (by omega)
                obtain ⟨v, kk, v', kk', e', r', w', g1, g2, g3, g4, g5, g6⟩ := items_both (n := m2) (kd := x) (d := d) b4 (fun k r w hl => ih m2 (by omega) _ k r w 0 hl (by rw [hdw]; omega) (by rw [hdw]; omega) (by rw [hdw]; omega)) k1 r3 w3 c3
                rw [g1, g2]
                exact ⟨v, kk, v', kk', e', r', w', rfl, rfl, g3, g4, g5, fun h => absurd he0 h⟩
              · have h4 : x ≠ 4 := fun h => h45 (.inl h)
                have h5 : x ≠ 5 := fun h => h45 (.inr h)
                simp only [h4, h5, decide_false, cond_false, Option.bind_some]
                exact ⟨_, _, _, _, _, _, _, rfl, rfl, c3, ok_leaf b4 (by simp [okI]) (by simp), fun _ => ⟨rfl, rfl⟩, fun h => absurd he0 h⟩
      · have hd : decide (E3 = 0) = false := by simp [hE30]
        simp only [hd, Bool.not_false, cond_true]
        exact ⟨_, _, _, _, E3, _, _, rfl, rfl, c3, ok_zV, fun h => absurd h hE30, fun h => absurd he0 h⟩
    · have hd : decide (E = 0) = false := by simp [hE0]
      obtain ⟨rfl, rfl⟩ := b5 hE0
      simp only [hd, Bool.not_false, cond_true, Option.bind_some]
      obtain ⟨r3, w3, c1, c2, c3⟩ := le_ok (cond (decide ((0 : Int) ≤ 0)) (decide ((0 : Int) ≤ (5 : Int))) false) k1 k1 b3
      rw [c2]
      simp only [Option.bind_some]
      rw [le_good k1 c3]
      have hz : eIf (cond (decide ((0 : Int) ≤ 0)) (decide ((0 : Int) ≤ (5 : Int))) false) e2 = e2 := by unfold eIf; rw [if_neg hE0]
      rw [hz] at c3 ⊢
      have hw : w3 = w2 := by simp [ref02xdecoder_check] at c2; exact c2.symm
      subst hw
      simp only [hE0, decide_false, Bool.not_false, cond_true, Option.bind_some]
      exact ⟨_, _, _, _, e2, _, _, rfl, rfl, a3.trans_w b3 hE0, ok_zV, fun h => absurd h hE0, fun h => by unfold eIf at hE; rw [if_neg h] at hE; exact hE.symm⟩
end Go.Proofs.Ytmnobgopfnhbnaa
