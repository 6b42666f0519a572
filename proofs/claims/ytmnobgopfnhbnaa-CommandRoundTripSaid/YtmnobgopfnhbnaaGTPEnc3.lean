/- Layer 20's encoders, plainly. -/
import Derived.Test.YtmnobgopfnhbnaaGTPEnc2
import Derived.Test.YtmnobgopfnhbnaaGTPCmd3
import Derived.Test.YtmnobgopfnhbnaaGTF6
import Derived.Test.YtmnobgopfnhbnaaGTF8
namespace Go.Proofs.Ytmnobgopfnhbnaa
open Go Abs
set_option linter.unusedSimpArgs false
set_option linter.unusedVariables false

def penc (o : ApiPolicy) : List UInt8 := tenc o.Queue ++ ienc o.ToStart ++ ienc o.ToClose ++ ienc o.Total ++ ienc o.Beat ++ ienc o.First ++ ienc o.Coef ++ ienc o.Most ++ ienc o.Attempts ++ ienc o.Fatal.length ++ o.Fatal.flatMap tenc
def cenc (c : ApiCommand) : List UInt8 := ienc c.Kind ++ ienc c.Seq ++ tenc c.Name ++ tenc c.Key ++ ienc c.N ++ venc c.Data ++ penc c.Opts

theorem flat_le {α : Type} (f : α → List UInt8) (m : Nat) : ∀ (l : List α), (∀ x ∈ l, (f x).length ≤ m) → (l.flatMap f).length ≤ l.length * m
  | [], _ => by simp
  | x :: l, h => by
    have h1 := h x (by simp)
    have h2 := flat_le f m l (fun y hy => h y (by simp [hy]))
    simp only [List.flatMap_cons, List.length_append, List.length_cons, Nat.add_mul]; omega
theorem nright_len {s : List UInt8} (h : nright s = true) : s.length ≤ 64 := by
  unfold nright at h
  simp only [Bool.and_eq_true, decide_eq_true_eq] at h
  exact h.1.1.2
theorem pright_lens {o : ApiPolicy} (h : pright o = true) : o.Queue.length ≤ 64 ∧ o.Fatal.length ≤ 64 ∧ ∀ s ∈ o.Fatal, s.length ≤ 4096 := by
  unfold pright at h
  simp only [Bool.and_eq_true, Bool.or_eq_true, decide_eq_true_eq, Bool.not_eq_true', List.any_eq_false, longS, decide_eq_false_iff_not] at h
  refine ⟨?_, h.1.1.1.1.2, fun s hs => by have := h.2 s hs; omega⟩
  rcases h.1.1.1.1.1 with hq | hq
  · rw [hq]; simp
  · exact nright_len hq
theorem penc_len {o : ApiPolicy} (h : okApiPolicy o) (hp : pright o = true) : (penc o).length ≤ 300000 := by
  obtain ⟨h1, h2, h3⟩ := pright_lens hp
  obtain ⟨k0, k1, k2, k3, k4, k5, k6, k7, k8, k9⟩ := h
  have a0 := tenc_len (s := o.Queue) (by omega)
  have a1 := ienc_len k1
  have a2 := ienc_len k2
  have a3 := ienc_len k3
  have a4 := ienc_len k4
  have a5 := ienc_len k5
  have a6 := ienc_len k6
  have a7 := ienc_len k7
  have a8 := ienc_len k8
  have a9 := ienc_len_nat k9.1
  have a10 := flat_le tenc 4106 o.Fatal (fun s hs => by have := h3 s hs; have := tenc_len (s := s) (by omega); omega)
  unfold penc
  simp only [List.length_append]
  omega

theorem policy_eq {b : List UInt8} {o : ApiPolicy} (h : okApiPolicy o) (hp : pright o = true) (hb : b.length ≤ 100000000000) : command_policy b o = some (b ++ penc o) := by
  obtain ⟨h1, h2, h3⟩ := pright_lens hp
  have hl := penc_len h hp
  obtain ⟨k0, k1, k2, k3, k4, k5, k6, k7, k8, k9⟩ := h
  have hok : okI (o.Fatal.length : Int) := ⟨by omega, by omega⟩
  unfold penc at hl ⊢
  simp only [List.length_append] at hl
  unfold command_policy
  simp only [command_numbers_v3, Option.bind_some]
  rw [putT (by first | omega | (simp only [List.length_append]; omega)) (by omega), Option.bind_some, putI (by first | omega | (simp only [List.length_append]; omega)) k1, Option.bind_some, putI (by first | omega | (simp only [List.length_append]; omega)) k2, Option.bind_some,
    putI (by first | omega | (simp only [List.length_append]; omega)) k3, Option.bind_some, putI (by first | omega | (simp only [List.length_append]; omega)) k4, Option.bind_some, putI (by first | omega | (simp only [List.length_append]; omega)) k5, Option.bind_some,
    putI (by first | omega | (simp only [List.length_append]; omega)) k6, Option.bind_some, putI (by first | omega | (simp only [List.length_append]; omega)) k7, Option.bind_some, putI (by first | omega | (simp only [List.length_append]; omega)) k8, Option.bind_some,
    putI (by first | omega | (simp only [List.length_append]; omega)) hok, Option.bind_some]
  rw [loop_cat 1000000000000 o.Fatal tenc _ (by first | omega | (simp only [List.length_append]; omega)) (fun s i hi hs => ?_) (fun s => ?_)]
  · simp
  · unfold command_policy_l1
    simp only [List.length_append] at hs
    have := tenc_ge o.Fatal[i]
    rw [cond_d, if_pos (by simp only; omega), idx_ok hi, Option.bind_some, putT (by simp only; omega) (by omega), Option.bind_some, w64s hi k9.1]
  · unfold command_policy_l1
    rw [cond_d, if_neg (by simp only; omega)]
theorem EncodePolicy_eq {b : List UInt8} {o : ApiPolicy} (h : okApiPolicy o) (hb : b.length ≤ 100000000000) : command_EncodePolicy b o = some (b ++ if pright o then penc o else []) := by
  unfold command_EncodePolicy
  rw [clone_bytes (by omega), RightPolicy_eq h]
  cases hp : pright o
  · simp
  · simp [policy_eq h hp hb]
theorem refEncodePolicy_eq {b : List UInt8} {o : ApiPolicy} (h : okApiPolicy o) (hb : b.length ≤ 100000000000) : ref20xEncodePolicy b o = some (b ++ if pright o then penc o else []) := by
  unfold ref20xEncodePolicy
  rw [app_ok (by simp; omega), refRightPolicy_eq h]
  cases hp : pright o
  · simp
  · obtain ⟨h1, h2, h3⟩ := pright_lens hp
    have hl := penc_len h hp
    obtain ⟨k0, k1, k2, k3, k4, k5, k6, k7, k8, k9⟩ := h
    have hok : okI (o.Fatal.length : Int) := ⟨by omega, by omega⟩
    unfold penc at hl ⊢
    simp only [List.length_append] at hl
    simp only [Option.bind_some, List.nil_append, Bool.not_true, cond_false, if_true]
    rw [rputT (by omega) (by omega), Option.bind_some]
    have hns : ∀ n ∈ [o.ToStart, o.ToClose, o.Total, o.Beat, o.First, o.Coef, o.Most, o.Attempts, (o.Fatal.length : Int)], okI n := by
      simp only [List.mem_cons, List.not_mem_nil, or_false]
      rintro n (rfl | rfl | rfl | rfl | rfl | rfl | rfl | rfl | rfl) <;> assumption
    rw [loop_cat 1000000000000 [o.ToStart, o.ToClose, o.Total, o.Beat, o.First, o.Coef, o.Most, o.Attempts, (o.Fatal.length : Int)] ienc _ (by simp only [List.length_append, List.flatMap_cons, List.flatMap_nil, List.length_nil]; omega) (fun s i hi hs => ?_) (fun s => ?_), Option.bind_some]
    · rw [loop_cat 1000000000000 o.Fatal tenc _ (by simp only [List.length_append, List.flatMap_cons, List.flatMap_nil, List.length_nil]; omega) (fun s i hi hs => ?_) (fun s => ?_)]
      · simp
      · unfold ref20xEncodePolicy_l2
        simp only [List.length_append] at hs
        have := tenc_ge o.Fatal[i]
        rw [cond_d, if_pos (by simp only; omega), idx_ok hi, Option.bind_some, rputT (by simp only; omega) (by omega), Option.bind_some, w64s hi k9.1]
      · unfold ref20xEncodePolicy_l2
        rw [cond_d, if_neg (by simp only; omega)]
    · unfold ref20xEncodePolicy_l1
      simp only [List.length_append] at hs
      rw [cond_d, if_pos (by simp only; omega), idx_ok hi, Option.bind_some, rputI (by simp only; omega) (hns _ (List.getElem_mem hi)), Option.bind_some, w64s hi (by simp)]
    · unfold ref20xEncodePolicy_l1
      rw [cond_d, if_neg (by simp only; omega)]

/-! ### Few nodes -/
theorem few_nsz : ∀ (n : Nat) (v : ApiValue) (k : Int), hgt v ≤ n → 0 ≤ k → k ≤ 5000 → -1 ≤ few v k ∧ few v k ≤ k ∧ (0 ≤ few v k → few v k = k - nsz v) := by
  intro n
  induction n with
  | zero => intro v k h; have := hgt_eq v; omega
  | succ n ih =>
    intro v k h h0 h1
    have hh := hgt_eq v
    rw [few_eq, w64 (by omega) (by omega), nsz_eq]
    have key : ∀ (l : List ApiValue) (a : Int), (∀ x ∈ l, hgt x ≤ n) → -1 ≤ a → a ≤ 5000 → -1 ≤ fews l a ∧ fews l a ≤ a ∧ (0 ≤ fews l a → fews l a = a - nszs l) := by
      intro l
      induction l with
      | nil => intro a _ _ _; simp only [fews, nszs]; omega
      | cons x l ihl =>
        intro a hx h2 h3
        simp only [fews, nszs]
        by_cases ha : 0 ≤ a
        · rw [if_pos ha]
          have a1 := ih x a (hx x (by simp)) ha h3
          have a2 := ihl (few x a) (fun y hy => hx y (by simp [hy])) a1.1 (by omega)
          refine ⟨a2.1, by omega, fun h4 => ?_⟩
          have a3 := a2.2.2 h4
          have a4 := a1.2.2 (by omega)
          omega
        · rw [if_neg ha]; omega
    have := key v.Items (k - 1) (fun x hx => by have := hgts_ge hx; omega) (by omega) (by omega)
    refine ⟨this.1, by omega, fun h4 => ?_⟩
    have := this.2.2 h4
    omega
theorem small_lens {c : ApiCommand} (h : small c = true) : c.Name.length ≤ 10000 ∧ c.Key.length ≤ 1000 ∧ nsz c.Data ≤ 1200 := by
  unfold small at h
  simp only [Bool.and_eq_true, decide_eq_true_eq] at h
  refine ⟨h.1.1.1, h.1.1.2, ?_⟩
  have := (few_nsz (hgt c.Data) c.Data 1200 (Nat.le_refl _) (by omega) (by omega)).2.2 h.2
  omega
theorem vright_parts {v : ApiValue} (h : vright v = true) : shr v = true ∧ fmd false v = true ∧ fmd true v = true := by
  unfold vright wth at h
  simp only [Bool.and_eq_true] at h
  refine ⟨h.1.2, h.2, ?_⟩
  have := h.2
  rw [fmd_f (hgt v) v (Nat.le_refl _)] at this
  simp only [Bool.and_eq_true] at this
  exact this.1
theorem cright_parts {c : ApiCommand} (h : cright c = true) : vright c.Data = true ∧ pright c.Opts = true := by
  unfold cright at h
  simp only [Bool.and_eq_true] at h
  exact ⟨h.1.1.1.1.1.2, h.1.1.1.1.2⟩
theorem cenc_len {c : ApiCommand} (h : okApiCommand c) (hs : small c = true) (hr : cright c = true) : (cenc c).length ≤ 11000000 ∧ (venc c.Data).length ≤ 10100000 := by
  obtain ⟨s1, s2, s3⟩ := small_lens hs
  obtain ⟨r1, r2⟩ := cright_parts hr
  obtain ⟨k0, k1, k2, k3, k4, k5, k6⟩ := h
  have a0 := ienc_len k0
  have a1 := ienc_len k1
  have a2 := tenc_len (s := c.Name) (by omega)
  have a3 := tenc_len (s := c.Key) (by omega)
  have a4 := ienc_len k4
  have a5 := venc_len (hgt c.Data) c.Data (Nat.le_refl _) k5 (vright_parts r1).1
  have a6 := penc_len k6 r2
  unfold cenc
  simp only [List.length_append]
  omega
theorem command_Encode_eq {b : List UInt8} {c : ApiCommand} (h : okApiCommand c) (hs : small c = true) (hb : b.length ≤ 1000000) : command_Encode b c = some (b ++ if cright c then cenc c else []) := by
  unfold command_Encode
  rw [clone_bytes (by omega), command_Right_eq h]
  cases hr : cright c
  · simp
  · obtain ⟨r1, r2⟩ := cright_parts hr
    obtain ⟨s1, s2, s3⟩ := small_lens hs
    have hl := cenc_len h hs hr
    obtain ⟨k0, k1, k2, k3, k4, k5, k6⟩ := h
    unfold cenc at hl ⊢
    simp only [List.length_append] at hl
    simp only [Option.bind_some, Bool.not_true, cond_false, if_true]
    rw [putI (by omega) k0, Option.bind_some, putI (by first | omega | (simp only [List.length_append]; omega)) k1, Option.bind_some, putT (by first | omega | (simp only [List.length_append]; omega)) (by omega), Option.bind_some, putT (by first | omega | (simp only [List.length_append]; omega)) (by omega), Option.bind_some,
      putI (by first | omega | (simp only [List.length_append]; omega)) k4, Option.bind_some, value_Encode_eq k5 (by first | omega | (simp only [List.length_append]; omega)), (vright_parts r1).2.2, Option.bind_some]
    rw [policy_eq k6 r2 (by simp only [if_true, List.length_append]; omega)]
    simp
theorem refEncode20_eq {b : List UInt8} {c : ApiCommand} (h : okApiCommand c) (hs : small c = true) (hb : b.length ≤ 1000000) : ref20xEncode b c = some (b ++ if cright c then cenc c else []) := by
  unfold ref20xEncode
  rw [app_ok (by simp; omega), ref20Right_eq h]
  cases hr : cright c
  · simp
  · obtain ⟨r1, r2⟩ := cright_parts hr
    obtain ⟨s1, s2, s3⟩ := small_lens hs
    have hl := cenc_len h hs hr
    obtain ⟨k0, k1, k2, k3, k4, k5, k6⟩ := h
    unfold cenc at hl ⊢
    simp only [List.length_append] at hl
    simp only [Option.bind_some, Bool.not_true, cond_false, if_true, List.nil_append]
    rw [rputI (by omega) k0, Option.bind_some, rputI (by first | omega | (simp only [List.length_append]; omega)) k1, Option.bind_some, rputT (by first | omega | (simp only [List.length_append]; omega)) (by omega), Option.bind_some, rputT (by first | omega | (simp only [List.length_append]; omega)) (by omega), Option.bind_some,
      rputI (by first | omega | (simp only [List.length_append]; omega)) k4, Option.bind_some, refEncode_eq k5 (by first | omega | (simp only [List.length_append]; omega)), (vright_parts r1).2.2, Option.bind_some]
    rw [refEncodePolicy_eq k6 (by simp only [if_true, List.length_append]; omega), r2]
    simp
end Go.Proofs.Ytmnobgopfnhbnaa
