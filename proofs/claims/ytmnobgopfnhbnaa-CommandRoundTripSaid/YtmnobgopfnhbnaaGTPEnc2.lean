/- The value packages' encoders, plainly. -/
import Derived.Test.YtmnobgopfnhbnaaGTPEnc
import Derived.Test.YtmnobgopfnhbnaaGTF6
import Derived.Test.YtmnobgopfnhbnaaGTF8
namespace Go.Proofs.Ytmnobgopfnhbnaa
open Go Abs
set_option linter.unusedSimpArgs false
set_option linter.unusedVariables false

theorem rputI {b : List UInt8} {n : Int} (hb : b.length ≤ 10000000000000) (h : okI n) : ref01xPutInt b n = some (b ++ ienc n) := refPutInt_eq hb h.1 h.2
theorem rputT {b s : List UInt8} (hb : b.length ≤ 10000000000000) (hs : s.length ≤ 10000000000000) : ref01xPutText b s = some (b ++ tenc s) := by rw [refPutText_eq hb hs, tenc, List.append_assoc]
theorem kinds_or (v : ApiValue) : (cond (decide (v.Kind = (1 : Int))) (some (decide (v.Kind = (1 : Int)))) (cond (decide (v.Kind = (2 : Int))) (some (decide (v.Kind = (2 : Int)))) (some (decide (v.Kind = (6 : Int)))))) = some (decide (v.Kind = 1 ∨ v.Kind = 2 ∨ v.Kind = 6)) := by
  by_cases h1 : v.Kind = 1
  · simp [h1]
  · by_cases h2 : v.Kind = 2 <;> simp [h1, h2]
theorem kinds_or2 (v : ApiValue) : (cond (decide (v.Kind = (4 : Int))) (some (decide (v.Kind = (4 : Int)))) (some (decide (v.Kind = (5 : Int))))) = some (decide (v.Kind = 4 ∨ v.Kind = 5)) := by
  by_cases h1 : v.Kind = 4 <;> simp [h1]

theorem encodeF_eq : ∀ (n : Nat) (v : ApiValue) (b : List UInt8), hgt v ≤ n → okApiValue v → fmd true v = true → (b ++ venc v).length ≤ 1000000000000 → value_encodeF n b v = some (b ++ venc v) ∧ ref02xputF n b v = some (b ++ venc v) := by
  intro n
  induction n with
  | zero => intro v b h; have := hgt_eq v; omega
  | succ n ih =>
    intro v b h hv hf hB
    have hh := hgt_eq v
    obtain ⟨k0, k1, k2, k3, k4⟩ := (okApiValue_iff v).1 hv
    obtain ⟨l1, l2, l3⟩ := fmd_lens hf
    rw [venc_eq] at hB ⊢
    rw [value_encodeF, ref02xputF, kinds_or, kinds_or2]
    simp only [List.length_append] at hB
    rw [putI (by omega) k0, rputI (by omega) k0]
    simp only [Option.bind_some]
    have hb0 : (b ++ ienc v.Kind).length = b.length + (ienc v.Kind).length := by simp
    by_cases h126 : v.Kind = 1 ∨ v.Kind = 2 ∨ v.Kind = 6
    · simp only [h126, decide_true, cond_true, if_true] at hB ⊢
      rw [putI (by omega) k1, rputI (by omega) k1]
      simp [Fl.next]
    · simp only [h126, decide_false, cond_false, if_false] at hB ⊢
      by_cases h3 : v.Kind = 3
      · have h3t := tenc_ge v.Text
        simp only [h3, decide_true, cond_true, if_true] at hB hb0 ⊢
        rw [putT (by omega) (by omega), rputT (by omega) (by omega)]
        simp [Fl.next]
      · simp only [h3, decide_false, cond_false, if_false] at hB ⊢
        by_cases h4 : v.Kind = 4
        · have hok : okI (v.Items.length : Int) := ⟨by omega, by have := k3.1; omega⟩
          simp only [h4, true_or, decide_true, cond_true, if_true, List.length_append] at hB ⊢
          rw [putI (by simp only [List.length_append]; omega) hok, rputI (by simp only [List.length_append]; omega) hok]
          simp only [Option.bind_some, Fl.next]
          rw [loop_cat 1000000000000 v.Items venc _ (by simp only [List.length_append]; omega) (fun s i hi hs => ?_) (fun s => ?_), loop_cat 1000000000000 v.Items venc _ (by simp only [List.length_append]; omega) (fun s i hi hs => ?_) (fun s => ?_)]
          · simp
          · unfold ref02xput_l1
            rw [cond_d, if_pos (by simp only; omega)]
            simp only [h4, Int.reduceEq, decide_false, cond_false, Option.bind_some]
            rw [idx_ok hi, Option.bind_some, (ih _ _ (by have := hgts_ge (List.getElem_mem hi); omega) (k3.2.2 _ (List.getElem_mem hi)) (l3 _ (List.getElem_mem hi)) hs).2, Option.bind_some, w64s hi k3.1]
          · unfold ref02xput_l1
            rw [cond_d, if_neg (by simp only; omega)]
          · unfold value_encode_l1
            rw [cond_d, if_pos (by simp only; omega), idx_ok hi, Option.bind_some]
            simp only [h4, Int.reduceEq, decide_false, cond_false]
            rw [(ih _ _ (by have := hgts_ge (List.getElem_mem hi); omega) (k3.2.2 _ (List.getElem_mem hi)) (l3 _ (List.getElem_mem hi)) hs).1, Option.bind_some, w64s hi k3.1]
          · unfold value_encode_l1
            rw [cond_d, if_neg (by simp only; omega)]
        · by_cases h5 : v.Kind = 5
          · have hok : okI (v.Items.length : Int) := ⟨by omega, by have := k3.1; omega⟩
            have hlen := l2 h5
            have hz : (v.Items.zip v.Keys).length = v.Items.length := by simp [hlen]
            simp only [h5, or_true, Int.reduceEq, decide_true, cond_true, if_true, if_false, List.length_append] at hB ⊢
            rw [putI (by simp only [List.length_append]; omega) hok, rputI (by simp only [List.length_append]; omega) hok]
            simp only [Option.bind_some, Fl.next]
            rw [loop_cat 1000000000000 (v.Items.zip v.Keys) (fun p => tenc p.2 ++ venc p.1) _ (by simp only [List.length_append]; omega) (fun s i hi hs => ?_) (fun s => ?_), loop_cat 1000000000000 (v.Items.zip v.Keys) (fun p => tenc p.2 ++ venc p.1) _ (by simp only [List.length_append]; omega) (fun s i hi hs => ?_) (fun s => ?_)]
            · simp
            · unfold ref02xput_l1
              rw [hz] at hi
              have hik : i < v.Keys.length := by omega
              simp only [List.getElem_zip, List.length_append] at hs ⊢
              have := tenc_ge v.Keys[i]
              rw [cond_d, if_pos (by omega)]
              simp only [h5, decide_true, cond_true]
              rw [idx_ok hik, Option.bind_some, rputT (by omega) (by omega), Option.bind_some, Option.bind_some, idx_ok hi, Option.bind_some, (ih _ _ (by have := hgts_ge (List.getElem_mem hi); omega) (k3.2.2 _ (List.getElem_mem hi)) (l3 _ (List.getElem_mem hi)) (by simp only [List.length_append]; omega)).2, Option.bind_some, w64s hi k3.1]
              simp
            · unfold ref02xput_l1
              rw [cond_d, if_neg (by simp only; omega)]
            · unfold value_encode_l1
              rw [hz] at hi
              have hik : i < v.Keys.length := by omega
              simp only [List.getElem_zip, List.length_append] at hs ⊢
              have := tenc_ge v.Keys[i]
              rw [cond_d, if_pos (by omega), idx_ok hi, Option.bind_some]
              simp only [h5, decide_true, cond_true]
              rw [idx_ok hik, Option.bind_some, putT (by omega) (by omega), Option.bind_some, (ih _ _ (by have := hgts_ge (List.getElem_mem hi); omega) (k3.2.2 _ (List.getElem_mem hi)) (l3 _ (List.getElem_mem hi)) (by simp only [List.length_append]; omega)).1, Option.bind_some, w64s hi k3.1]
              simp
            · unfold value_encode_l1
              rw [cond_d, if_neg (by simp only; omega)]
          · simp only [h4, h5, or_self, decide_false, cond_false, if_false, Option.bind_some, Fl.next]
            rw [loop_out (body := value_encode_l1 (value_encodeF n) v) (s := (b ++ ienc v.Kind, 0)) (r := b ++ ienc v.Kind) (by unfold value_encode_l1; rw [l1 h4 h5]; rfl)]
            simp
theorem value_Encode_eq {b : List UInt8} {v : ApiValue} (hv : okApiValue v) (hB : (b ++ venc v).length ≤ 1000000000000) : value_Encode b v = some (b ++ if fmd true v then venc v else []) := by
  unfold value_Encode value_encode
  simp only [List.length_append] at hB
  rw [clone_bytes (by omega), value_formed_eq hv]
  cases hf : fmd true v
  · simp
  · simp only [Option.bind_some, Bool.not_true, cond_false, if_true]
    rw [lim_eq (hgt v) fun n hn => (encodeF_eq n v b hn hv hf (by simp only [List.length_append]; omega)).1, Option.bind_some]
theorem refEncode_eq {b : List UInt8} {v : ApiValue} (hv : okApiValue v) (hB : (b ++ venc v).length ≤ 1000000000000) : ref02xEncode b v = some (b ++ if fmd true v then venc v else []) := by
  unfold ref02xEncode ref02xput
  simp only [List.length_append] at hB
  rw [app_ok (by simp; omega), refWellFormed_eq hv]
  cases hf : fmd true v
  · simp
  · simp only [Option.bind_some, Bool.not_true, cond_false, if_true, List.nil_append]
    rw [lim_eq (hgt v) fun n hn => (encodeF_eq n v b hn hv hf (by simp only [List.length_append]; omega)).2, Option.bind_some]
end Go.Proofs.Ytmnobgopfnhbnaa
