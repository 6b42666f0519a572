/- Reading back what was written: values. -/
import Derived.Test.YtmnobgopfnhbnaaGPPDec1
import Derived.Test.YtmnobgopfnhbnaaGPPEnc
import Derived.Test.YtmnobgopfnhbnaaGPEvMono
import Derived.Test.YtmnobgopfnhbnaaGPF4
import Derived.Test.YtmnobgopfnhbnaaGPF6
namespace Go.Proofs.Ytmnobgopfnhbnaa
open Go Abs
set_option linter.unusedSimpArgs false
set_option linter.unusedVariables false

/-- A reader before some bytes. -/
def At (r : WireReader) (rest : List UInt8) : Prop := ∃ (b : List UInt8) (a : Nat), b.length ≤ 1000000000 ∧ a ≤ b.length ∧ r = ⟨b, a, 0, true⟩ ∧ b.drop a = rest
theorem at_err {r : WireReader} {l : List UInt8} (h : At r l) : wire_Reader_Err r = some 0 := by
  obtain ⟨b, a, _, _, rfl, _⟩ := h
  rfl
theorem at_left {r : WireReader} {l : List UInt8} (h : At r l) : wire_Reader_Left r = some (l.length : Int) := by
  obtain ⟨b, a, hb, ha, rfl, rfl⟩ := h
  rw [left_eq, if_pos rfl, w64 (by omega) (by omega), List.length_drop]
  congr 1; omega
theorem at_open {b : List UInt8} (h : b.length ≤ 1000000000) : ∃ r, wire_Open b = some r ∧ At r b := ⟨_, wire_Open_eq (by omega), b, 0, h, by omega, rfl, rfl⟩
theorem at_int {r : WireReader} {n low high : Int} {rest : List UInt8} (h : At r (ienc n ++ rest)) (hn : okI n) (h1 : low ≤ n) (h2 : n ≤ high) : ∃ r', wire_Reader_Int low high r = some (n, r') ∧ At r' rest := by
  obtain ⟨b, a, hb, ha, rfl, hd⟩ := h
  have hr := rInt_vint (low := low) (high := high) rest hn.1 hn.2
  rw [if_neg (by omega)] at hr
  have hlen : (ienc n).length ≤ b.length - a := by
    have := congrArg List.length hd
    simp only [List.length_drop, List.length_append] at this
    omega
  refine ⟨_, by rw [int_eq ha hb, hd]; unfold ienc; rw [hr], b, a + (ienc n).length, hb, by omega, ?_, ?_⟩
  · unfold afterInt
    rw [hd]; unfold ienc; rw [hr]; rfl
  · rw [← List.drop_drop, hd, List.drop_left]
theorem at_text {r : WireReader} {s : List UInt8} {most : Int} {rest : List UInt8} (h : At r (tenc s ++ rest)) (hs : (s.length : Int) ≤ most) : ∃ r', wire_Reader_Text most r = some (s, r') ∧ At r' rest := by
  obtain ⟨b, a, hb, ha, rfl, hd⟩ := h
  have hl := congrArg List.length hd
  simp only [List.length_drop, List.length_append, tenc] at hl
  have hr := rInt_vint (low := 0) (high := most) (s ++ rest) (n := (s.length : Int)) (by omega) (by omega)
  rw [if_neg (by omega)] at hr
  have hd' : b.drop a = vint (zz s.length) ++ (s ++ rest) := by rw [hd, tenc, List.append_assoc]
  have hd2 : b.drop (a + (vint (zz s.length)).length) = s ++ rest := by rw [← List.drop_drop, hd', List.drop_left]
  refine ⟨⟨b, (a + (vint (zz s.length)).length + s.length : Nat), 0, true⟩, ?_, b, a + (vint (zz s.length)).length + s.length, hb, by omega, rfl, ?_⟩
  · rw [text_eq ha hb]
    unfold rText
    rw [hd', hr]
    simp only [ne_eq, not_true_eq_false, if_false]
    rw [if_neg (by omega), hd2]
    simp
  · rw [← List.drop_drop, hd2, List.drop_left]

/-! ### Keys that rise -/
open Classical in
theorem rise_less {l : List (List UInt8)} (h : l.length ≤ 9223372036854775807) (hr : rise l = true) (i : Nat) (hi : i + 1 < l.length) : Op.bytesLess l[i] l[i + 1] = true := by
  have key : ref02xRising l = some (decide (∀ j, 1 ≤ j → (hj : j < l.length) → Op.bytesLess (l[j - 1]'(by omega)) l[j] = true)) := by
    unfold ref02xRising
    rw [loop_to (body := ref02xRising_l1 l) (fun s => ∃ i : Nat, s = (i : Int) ∧ 1 ≤ i ∧ (i ≤ l.length ∨ l.length = 0)) (fun s => l.length - s.toNat)
      (fun s => if ∀ j, s.toNat ≤ j → 1 ≤ j → (hj : j < l.length) → Op.bytesLess (l[j - 1]'(by omega)) l[j] = true then Fl.go () else Fl.done false) ?_ 1 ⟨1, rfl, by omega, by omega⟩, Option.bind_some]
    · by_cases hc : ∀ j, 1 ≤ j → (hj : j < l.length) → Op.bytesLess (l[j - 1]'(by omega)) l[j] = true
      · rw [if_pos (fun j h1 h2 h3 => hc j h2 h3), decide_eq_true hc]; rfl
      · rw [if_neg (fun hh => hc fun j h2 h3 => hh j (by simpa using h2) h2 h3), decide_eq_false hc]; rfl
    · rintro s ⟨i, rfl, h1, h2⟩
      unfold ref02xRising_l1
      by_cases hlt : i < l.length
      · have e : IntKind.i64.wrap ((i : Int) - 1) = ((i - 1 : Nat) : Int) := by rw [w64 (by omega) (by omega)]; omega
        rw [cond_d, if_pos (by omega), e, idx_ok (i := i - 1) (by omega), Option.bind_some, idx_ok hlt, Option.bind_some]
        by_cases hb : Op.bytesLess (l[i - 1]'(by omega)) l[i] = true
        · refine .inl ⟨((i + 1 : Nat) : Int), ?_, ⟨i + 1, rfl, by omega, by omega⟩, by simp; omega, ?_⟩
          · simp only [hb, Bool.not_true, cond_false]
            rw [w64s hlt h]
          · simp only [Int.toNat_natCast]
            by_cases hc : ∀ j, i + 1 ≤ j → 1 ≤ j → (hj : j < l.length) → Op.bytesLess (l[j - 1]'(by omega)) l[j] = true
            · rw [if_pos hc, if_pos]
              intro j h3 h4 h5
              by_cases hji : j = i
              · subst hji; exact hb
              · exact hc j (by omega) h4 h5
            · rw [if_neg hc, if_neg]
              exact fun hh => hc fun j h3 h4 h5 => hh j (by omega) h4 h5
        · refine .inr ?_
          simp only [hb, Bool.not_false, cond_true]
          rw [if_neg]
          exact fun hh => hb (hh i (by simp) h1 hlt)
      · refine .inr ?_
        rw [cond_d, if_neg (by omega), if_pos]
        intro j h3 h4 h5
        simp only [Int.toNat_natCast] at h3
        omega
  have h2 := refRising_eq h
  rw [key, hr] at h2
  exact of_decide_eq_true (Option.some.inj h2) (i + 1) (by omega) hi

/-! ### Depth and size, counted truly -/
theorem hgt_nsz : ∀ (n : Nat) (v : ApiValue), hgt v ≤ n → hgt v ≤ nsz v := by
  intro n
  induction n with
  | zero => intro v h; have := hgt_eq v; omega
  | succ n ih =>
    intro v h
    have hh := hgt_eq v
    rw [hh, nsz_eq]
    have key : ∀ l : List ApiValue, (∀ x ∈ l, hgt x ≤ nsz x) → hgts l ≤ nszs l := by
      intro l
      induction l with
      | nil => simp [hgts, nszs]
      | cons x l ihl =>
        intro hl
        have h1 := hl x (by simp)
        have h2 := ihl (fun y hy => hl y (by simp [hy]))
        simp only [hgts, nszs]; omega
    have := key v.Items (fun x hx => ih x (by have := hgts_ge hx; omega))
    omega
theorem nszs_mem : ∀ {l : List ApiValue} {x : ApiValue}, x ∈ l → nsz x ≤ nszs l
  | [], x, h => by simp at h
  | y :: l, x, h => by
    simp only [nszs]
    rcases List.mem_cons.1 h with rfl | h
    · omega
    · have := nszs_mem h; omega
theorem dep_hgt : ∀ (n : Nat) (v : ApiValue), hgt v ≤ n → nsz v ≤ 1000000 → dep v = (hgt v : Int) ∧ siz v = (nsz v : Int) := by
  intro n
  induction n with
  | zero => intro v h; have := hgt_eq v; omega
  | succ n ih =>
    intro v h hn
    have hh := hgt_eq v
    have hz := nsz_eq v
    have hm := hgt_nsz _ v (Nat.le_refl _)
    have k1 : ∀ (l : List ApiValue) (a : Nat), (∀ x ∈ l, dep x = (hgt x : Int)) → l.foldl (fun a x => if dep x > a then dep x else a) (a : Int) = ((max a (hgts l) : Nat) : Int) := by
      intro l
      induction l with
      | nil => intro a _; simp [hgts]
      | cons x l ihl =>
        intro a hl
        have h1 := hl x (by simp)
        simp only [List.foldl_cons, h1]
        have e : (if ((hgt x : Nat) : Int) > ((a : Nat) : Int) then ((hgt x : Nat) : Int) else ((a : Nat) : Int)) = ((max a (hgt x) : Nat) : Int) := by split <;> omega
        rw [e, ihl _ (fun y hy => hl y (by simp [hy]))]
        simp only [hgts]
        omega
    have k2 : ∀ (l : List ApiValue) (a : Nat), (∀ x ∈ l, siz x = (nsz x : Int)) → a + nszs l ≤ 2000000 → l.foldl (fun a x => IntKind.i64.wrap (a + siz x)) (a : Int) = ((a + nszs l : Nat) : Int) := by
      intro l
      induction l with
      | nil => intro a _ _; simp [nszs]
      | cons x l ihl =>
        intro a hl ha
        simp only [nszs] at ha
        have h1 := hl x (by simp)
        simp only [List.foldl_cons, h1]
        rw [w64 (by omega) (by omega), show ((a : Nat) : Int) + (nsz x : Int) = ((a + nsz x : Nat) : Int) by omega, ihl _ (fun y hy => hl y (by simp [hy])) (by omega)]
        simp only [nszs]
        omega
    have hi : ∀ x ∈ v.Items, dep x = (hgt x : Int) ∧ siz x = (nsz x : Int) := fun x hx => ih x (by have := hgts_ge hx; omega) (by have := nszs_mem hx; omega)
    constructor
    · rw [dep_eq]
      have := k1 v.Items 0 (fun x hx => (hi x hx).1)
      simp only [Int.natCast_zero] at this
      rw [this, w64 (by omega) (by omega)]
      omega
    · rw [siz_eq]
      have := k2 v.Items 1 (fun x hx => (hi x hx).2) (by omega)
      rw [show (1 : Int) = ((1 : Nat) : Int) from rfl, this]
      omega
theorem ok_at {r : WireReader} {l : List UInt8} (k : Int) (h : At r l) : value_decoder_ok true k r = some (true, r) := by
  unfold value_decoder_ok
  rw [at_err h]
  simp [at_err h]

/-- What lies before the i-th item of a list or map. -/
theorem take_flat {α : Type} (f : α → List UInt8) (l : List α) (i : Nat) (hi : i < l.length) : (l.drop i).flatMap f = f l[i] ++ (l.drop (i + 1)).flatMap f := by
  rw [List.drop_eq_getElem_cons hi, List.flatMap_cons]
theorem nszs_take : ∀ (l : List ApiValue) (i : Nat) (hi : i < l.length), nszs (l.take (i + 1)) = nszs (l.take i) + nsz l[i]
  | [], i, hi => by simp at hi
  | x :: l, 0, hi => by simp [nszs]
  | x :: l, i + 1, hi => by
    have := nszs_take l i (by simpa using hi)
    simp only [List.take_succ_cons, nszs, List.getElem_cons_succ] at this ⊢
    omega
theorem nszs_take_le : ∀ (l : List ApiValue) (i : Nat), nszs (l.take i) ≤ nszs l
  | [], i => by simp
  | x :: l, 0 => by simp [nszs]
  | x :: l, i + 1 => by have := nszs_take_le l i; simp only [List.take_succ_cons, nszs]; omega

theorem value_back : ∀ (n : Nat) (v : ApiValue) (d : Int) (k : Nat) (r : WireReader) (rest : List UInt8), At r (venc v ++ rest) → okApiValue v → fmd false v = true → shr v = true → 0 ≤ d → (hgt v : Int) + d ≤ 17 → k + nsz v ≤ 1000 → 2 * hgt v ≤ n →
    ∃ r', value_decoder_valueF n d k r = some (v, ((k + nsz v : Nat) : Int), r') ∧ At r' rest := by
  intro n
  induction n using Nat.strongRecOn with
  | _ n ih =>
    intro v d k r rest hat hv hf hs hd0 hd hk hn
    have hh := hgt_eq v
    have hz := nsz_eq v
    obtain ⟨m, rfl⟩ : ∃ m, n = m + 2 := ⟨n - 2, by omega⟩
    obtain ⟨q0, q1, q2, q3, q4⟩ := (okApiValue_iff v).1 hv
    have hft := hf
    rw [fmd_f (hgt v) v (Nat.le_refl _)] at hft
    simp only [Bool.and_eq_true, Bool.not_eq_true'] at hft
    obtain ⟨l1, l2, l3⟩ := fmd_lens hft.1
    have hfi : ∀ x ∈ v.Items, fmd false x = true := (fmd_lens hf).2.2
    have hs' := hs
    rw [shr_eq] at hs'
    simp only [Bool.and_eq_true, Bool.not_eq_true', List.all_eq_true, List.any_eq_false, longS, decide_eq_false_iff_not, decide_eq_true_eq] at hs'
    obtain ⟨⟨s1, s2⟩, s3⟩ := hs'
    have hflo : floc false v = true := by rw [fmd_eq, Bool.and_eq_true] at hf; exact hf.1
    have hk05 : 0 ≤ v.Kind ∧ v.Kind ≤ 5 := by
      unfold floc at hflo
      by_cases h0 : v.Kind = 0
      · omega
      by_cases h1 : v.Kind = 1
      · omega
      by_cases h2 : v.Kind = 2
      · omega
      by_cases h6 : v.Kind = 6
      · simp [h6] at hflo
      by_cases h3 : v.Kind = 3
      · omega
      by_cases h4 : v.Kind = 4
      · omega
      by_cases h5 : v.Kind = 5
      · omega
      simp [h0, h1, h2, h6, h3, h4, h5] at hflo
    rw [venc_eq, List.append_assoc] at hat
    obtain ⟨r1, a1, a2⟩ := at_int (low := -9223372036854775808) (high := 9223372036854775807) hat q0 q0.1 q0.2
    have ek : IntKind.i64.wrap ((k : Int) + 1) = ((k + 1 : Nat) : Int) := by rw [w64 (by omega) (by omega)]; omega
    rw [value_decoder_valueF]
    have c1 : (cond (decide ((k : Int) < (1000 : Int))) (decide (d ≤ (16 : Int))) false) = true := by
      have h1 : (k : Int) < 1000 := by omega
      have h2 : d ≤ 16 := by omega
      simp [h1, h2]
    have c2 : (cond (decide ((0 : Int) ≤ v.Kind)) (decide (v.Kind ≤ (5 : Int))) false) = true := by simp [hk05.1, hk05.2]
    rw [c1, ok_at _ hat]
    simp only [Option.bind_some, Bool.not_true, cond_false]
    rw [a1]
    simp only [Option.bind_some]
    rw [c2, ek, ok_at _ a2]
    simp only [Option.bind_some, Bool.not_true, cond_false]
    have hnil : ∀ {α : Type} {l : List α}, decide (l.length = 0) = true → l = [] := fun h => by simpa using h
    by_cases h1 : v.Kind = 1
    · simp only [h1, true_or, if_true] at a2
      obtain ⟨r2, b1, b2⟩ := at_int (low := -9223372036854775808) (high := 9223372036854775807) a2 q1 q1.1 q1.2
      have hfl := hflo
      simp only [floc, h1, Int.reduceEq, if_true, if_false, Bool.and_eq_true, Bool.or_eq_true, decide_eq_true_eq] at hfl
      have c3 : (cond (decide (v.Int = (0 : Int))) true (decide (v.Int = (1 : Int)))) = true := by rcases hfl.1.1.1 with h | h <;> simp [h]
      simp only [h1, decide_true, cond_true]
      rw [b1]
      simp only [Option.bind_some]
      rw [c3, ok_at _ b2]
      simp only [Option.bind_some, Fl.next]
      have hit := l1 (by omega) (by omega)
      have hks : v.Keys = [] := by simpa using hfl.2
      have htx : v.Text = [] := hfl.1.1.2
      refine ⟨r2, ?_, b2⟩
      rw [hz, hit]
      obtain ⟨kd, i, t, l, ks⟩ := v
      simp only at h1 hit hks htx ⊢
      subst h1 hit hks htx
      simp [nszs]
    by_cases h2 : v.Kind = 2
    · simp only [h2, true_or, or_true, if_true] at a2
      obtain ⟨r2, b1, b2⟩ := at_int (low := -9223372036854775808) (high := 9223372036854775807) a2 q1 q1.1 q1.2
      have hfl := hflo
      simp only [floc, h2, Int.reduceEq, if_true, if_false, Bool.and_eq_true, decide_eq_true_eq] at hfl
      simp only [h2, Int.reduceEq, decide_false, decide_true, cond_true, cond_false]
      rw [b1]
      simp only [Option.bind_some, Fl.next]
      have hit := l1 (by omega) (by omega)
      have hks : v.Keys = [] := by simpa using hfl.2
      have htx : v.Text = [] := hfl.1.1
      refine ⟨r2, ?_, b2⟩
      rw [hz, hit]
      obtain ⟨kd, i, t, l, ks⟩ := v
      simp only at h2 hit hks htx ⊢
      subst h2 hit hks htx
      simp [nszs]
    by_cases h3 : v.Kind = 3
    · simp only [h3, Int.reduceEq, or_self, if_true, if_false] at a2
      obtain ⟨r2, b1, b2⟩ := at_text (most := 9223372036854775807) a2 (by omega)
      have hfl := hflo
      simp only [floc, h3, Int.reduceEq, if_true, if_false, Bool.and_eq_true, decide_eq_true_eq] at hfl
      simp only [h3, Int.reduceEq, decide_false, decide_true, cond_true, cond_false]
      rw [b1]
      simp only [Option.bind_some]
      have c3 : decide ((v.Text.length : Int) ≤ 4096) = true := by simp; omega
      rw [c3, ok_at _ b2]
      simp only [Option.bind_some, Fl.next]
      have hit := l1 (by omega) (by omega)
      have hks : v.Keys = [] := by simpa using hfl.2
      have hin : v.Int = 0 := hfl.1.1
      refine ⟨r2, ?_, b2⟩
      rw [hz, hit]
      obtain ⟨kd, i, t, l, ks⟩ := v
      simp only at h3 hit hks hin ⊢
      subst h3 hit hks hin
      simp [nszs]
    by_cases h0 : v.Kind = 0
    · simp only [h0, Int.reduceEq, or_self, if_false, List.nil_append] at a2
      have hfl := hflo
      simp only [floc, h0, if_true, Bool.and_eq_true, decide_eq_true_eq] at hfl
      simp only [h0, Int.reduceEq, decide_false, cond_false, Option.bind_some, Fl.next]
      have hit := l1 (by omega) (by omega)
      have hks : v.Keys = [] := by simpa using hfl.2
      have htx : v.Text = [] := hfl.1.1.2
      have hin : v.Int = 0 := hfl.1.1.1
      refine ⟨r1, ?_, a2⟩
      rw [hz, hit]
      obtain ⟨kd, i, t, l, ks⟩ := v
      simp only at h0 hit hks htx hin ⊢
      subst h0 hit hks htx hin
      simp [nszs]
    -- lists and maps
    have h45 : v.Kind = 4 ∨ v.Kind = 5 := by omega
    have e45 : (cond (decide (v.Kind = (4 : Int))) (some (decide (v.Kind = (4 : Int)))) (some (decide (v.Kind = (5 : Int))))) = some true := by rcases h45 with h | h <;> simp [h]
    simp only [h1, h2, h3, decide_false, cond_false]
    rw [e45]
    simp only [Option.bind_some, cond_true]
    have hnl : v.Items.length ≤ nszs v.Items := nszs_ge _
    have okn : okI (v.Items.length : Int) := ⟨by omega, by omega⟩
    -- the pairs
    have hdw : IntKind.i64.wrap (d + 1) = d + 1 := w64 (by omega) (by omega)
    have c3 : (cond (decide ((0 : Int) ≤ (v.Items.length : Int))) (decide ((v.Items.length : Int) ≤ (1000 : Int))) false) = true := by
      have h1 : (0 : Int) ≤ (v.Items.length : Int) := by omega
      have h2 : (v.Items.length : Int) ≤ 1000 := by omega
      simp [h1, h2]
    have hItem : ∀ (i : Nat) (hi : i < v.Items.length) (k' : Nat) (r : WireReader) (rest : List UInt8), k' + nsz v.Items[i] ≤ 1000 → At r (venc v.Items[i] ++ rest) → ∃ r', value_decoder_valueF m (IntKind.i64.wrap (d + 1)) k' r = some (v.Items[i], ((k' + nsz v.Items[i] : Nat) : Int), r') ∧ At r' rest := fun i hi k' r rest hk' hat' => by
      have hmem := List.getElem_mem hi
      have hge := hgts_ge hmem
      rw [hdw]
      exact ih m (by omega) v.Items[i] (d + 1) k' r rest hat' (q3.2.2 _ hmem) (hfi _ hmem) (s3 _ hmem) (by omega) (by omega) hk' (by omega)
    rw [value_decoder_itemsF]
    by_cases h4 : v.Kind = 4
    · simp only [h4, Int.reduceEq, or_self, if_true, if_false, List.append_assoc] at a2
      obtain ⟨r2, b1, b2⟩ := at_int (low := -9223372036854775808) (high := 9223372036854775807) a2 okn okn.1 okn.2
      rw [b1]
      simp only [Option.bind_some]
      rw [c3, ok_at _ b2]
      simp only [Option.bind_some, Bool.not_true, cond_false]
      obtain ⟨X, g1, g2⟩ := loop_ex (body := value_decoder_items_l1 (value_decoder_valueF m) ((v.Items.length : Int), r2) v.Kind d)
        (fun s => ∃ (i : Nat) (r' : WireReader), i ≤ v.Items.length ∧ s = ((i : Int), ((k + 1 + nszs (v.Items.take i) : Nat) : Int), r', v.Items.take i, []) ∧ At r' ((v.Items.drop i).flatMap venc ++ rest)) (fun s => v.Items.length - s.1.toNat)
        (fun X => ∃ r', X = .go (((k + 1 + nszs v.Items : Nat) : Int), r', v.Items, []) ∧ At r' rest) (by
          rintro s ⟨i, r', hi, rfl, hat'⟩
          by_cases hlt : i < v.Items.length
          · rw [take_flat venc _ i hlt, List.append_assoc] at hat'
            have ht1 := nszs_take v.Items i hlt
            have ht2 := nszs_take_le v.Items (i + 1)
            obtain ⟨r3, f1, f2⟩ := hItem i hlt (k + 1 + nszs (v.Items.take i)) r' _ (by omega) hat'
            refine .inl ⟨_, ?_, ⟨i + 1, r3, by omega, rfl, f2⟩, by simp; omega⟩
            unfold value_decoder_items_l1
            simp only
            rw [cond_d, if_pos (by omega)]
            simp only [h4, Int.reduceEq, decide_false, cond_false, Option.bind_some, Fl.next]
            rw [f1]
            simp only [Option.bind_some]
            rw [at_err f2, app_ok (by simp; omega), w64s hlt (by omega), List.take_succ_eq_append_getElem hlt]
            simp only [Option.bind_some, decide_true, Bool.not_true, cond_false]
            rw [← List.take_succ_eq_append_getElem hlt, ht1, Nat.add_assoc]
          · obtain rfl : i = v.Items.length := by omega
            refine .inr ⟨.go (((k + 1 + nszs v.Items : Nat) : Int), r', v.Items, []), ?_, r', rfl, by simpa using hat'⟩
            unfold value_decoder_items_l1
            simp only
            rw [cond_d, if_neg (by omega), List.take_length]) ((0 : Int), ((k + 1 : Nat) : Int), r2, [], []) ⟨0, r2, by omega, by simp [nszs], by simpa using b2⟩
      obtain ⟨r', rfl, hat'⟩ := g2
      rw [h4] at g1
      rw [h4, g1]
      simp only [Option.bind_some, Fl.next]
      have hfl := hflo
      simp only [floc, h4, Int.reduceEq, if_true, if_false, Bool.and_eq_true, decide_eq_true_eq] at hfl
      have hks : v.Keys = [] := by simpa using hfl.2
      have htx : v.Text = [] := hfl.1.2
      have hin : v.Int = 0 := hfl.1.1
      refine ⟨r', ?_, hat'⟩
      rw [hz]
      obtain ⟨kd, i, t, l, ks⟩ := v
      simp only at h4 hks htx hin ⊢
      subst h4 hks htx hin
      rw [show k + 1 + nszs l = k + (nszs l + 1) from by omega]
    · have h5 : v.Kind = 5 := by omega
      have hlen := l2 h5
      simp only [h5, Int.reduceEq, or_self, if_true, if_false, List.append_assoc] at a2
      obtain ⟨r2, b1, b2⟩ := at_int (low := -9223372036854775808) (high := 9223372036854775807) a2 okn okn.1 okn.2
      rw [b1]
      simp only [Option.bind_some]
      rw [c3, ok_at _ b2]
      simp only [Option.bind_some, Bool.not_true, cond_false]
      have hfl := hflo
      simp only [floc, h5, Int.reduceEq, if_true, if_false, Bool.and_eq_true, decide_eq_true_eq] at hfl
      have hzl : (v.Items.zip v.Keys).length = v.Items.length := by simp [hlen]
      obtain ⟨X, g1, g2⟩ := loop_ex (body := value_decoder_items_l1 (value_decoder_valueF m) ((v.Items.length : Int), r2) v.Kind d)
        (fun s => ∃ (i : Nat) (r' : WireReader), i ≤ v.Items.length ∧ s = ((i : Int), ((k + 1 + nszs (v.Items.take i) : Nat) : Int), r', v.Items.take i, v.Keys.take i) ∧ At r' (((v.Items.zip v.Keys).drop i).flatMap (fun p => tenc p.2 ++ venc p.1) ++ rest)) (fun s => v.Items.length - s.1.toNat)
        (fun X => ∃ r', X = .go (((k + 1 + nszs v.Items : Nat) : Int), r', v.Items, v.Keys) ∧ At r' rest) (by
          rintro s ⟨i, r', hi, rfl, hat'⟩
          by_cases hlt : i < v.Items.length
          · have hik : i < v.Keys.length := by omega
            rw [take_flat _ _ i (by omega), List.append_assoc, List.getElem_zip, List.append_assoc] at hat'
            have ht1 := nszs_take v.Items i hlt
            have ht2 := nszs_take_le v.Items (i + 1)
            obtain ⟨r3, e1, e2⟩ := at_text (most := 9223372036854775807) hat' (by have := s2 _ (List.getElem_mem hik); simp only; omega)
            obtain ⟨r4, f1, f2⟩ := hItem i hlt (k + 1 + nszs (v.Items.take i)) r3 _ (by omega) e2
            have hl4 : (v.Keys[i].length : Int) ≤ 4096 := by have := s2 _ (List.getElem_mem hik); omega
            have hprev : (gd ((decide ((v.Keys[i].length : Int) ≤ (4096 : Int))) == true && ((decide ((i : Int) = (0 : Int))) == false)) (idx (v.Keys.take i) (IntKind.wrap .i64 ((i : Int) - (1 : Int))))) = some (if h : i = 0 then [] else v.Keys[i - 1]'(by omega)) := by
              by_cases hi0 : i = 0
              · subst hi0; simp [gd]; rfl
              · have e : IntKind.i64.wrap ((i : Int) - 1) = ((i - 1 : Nat) : Int) := by rw [w64 (by omega) (by omega)]; omega
                have c2 : decide ((i : Int) = 0) = false := by simp; omega
                rw [e, idx_ok (l := v.Keys.take i) (i := i - 1) (by simp; omega), c2, decide_eq_true hl4]
                simp [gd, hi0]
            refine .inl ⟨((i + 1 : Nat), ((k + 1 + nszs (v.Items.take (i + 1)) : Nat) : Int), r4, v.Items.take (i + 1), v.Keys.take (i + 1)), ?_, ⟨i + 1, r4, by omega, rfl, f2⟩, by simp; omega⟩
            unfold value_decoder_items_l1
            simp only
            rw [cond_d, if_pos (by omega)]
            simp only [h5, decide_true, cond_true]
            rw [e1]
            simp only [Option.bind_some]
            rw [hprev]
            simp only [Option.bind_some]
            have hC : (cond (decide ((v.Keys[i].length : Int) ≤ (4096 : Int))) (cond (decide ((i : Int) = (0 : Int))) true (!(Op.bytesLess v.Keys[i] (if h : i = 0 then [] else v.Keys[i - 1]'(by omega)) || decide (v.Keys[i] = (if h : i = 0 then [] else v.Keys[i - 1]'(by omega)))))) false) = true := by
              rw [decide_eq_true hl4, bl_total]
              by_cases hi0 : i = 0
              · subst hi0; simp
              · have c2 : decide ((i : Int) = 0) = false := by simp; omega
                have hr := rise_less (l := v.Keys) (by omega) hfl.2 (i - 1) (by omega)
                have e : i - 1 + 1 = i := by omega
                simp only [e] at hr
                rw [c2]; simp [hi0, hr]
            rw [hC, ok_at _ e2]
            simp only [Option.bind_some, Bool.not_true, cond_false]
            rw [app_ok (by simp; omega)]
            simp only [Option.bind_some, Fl.next]
            rw [f1]
            simp only [Option.bind_some]
            rw [at_err f2, app_ok (by simp; omega), w64s hlt (by omega)]
            simp only [Option.bind_some, decide_true, Bool.not_true, cond_false]
            rw [← List.take_succ_eq_append_getElem hlt, ← List.take_succ_eq_append_getElem hik, ht1, Nat.add_assoc]
          · obtain rfl : i = v.Items.length := by omega
            refine .inr ⟨.go (((k + 1 + nszs v.Items : Nat) : Int), r', v.Items, v.Keys), ?_, r', rfl, ?_⟩
            · unfold value_decoder_items_l1
              simp only
              rw [cond_d, if_neg (by omega), List.take_length, ← hlen, List.take_length]
            · rw [List.drop_eq_nil_of_le (by omega)] at hat'; simpa using hat') ((0 : Int), ((k + 1 : Nat) : Int), r2, [], []) ⟨0, r2, by omega, by simp [nszs], by simpa using b2⟩
      obtain ⟨r', rfl, hat'⟩ := g2
      rw [h5] at g1
      rw [h5, g1]
      simp only [Option.bind_some, Fl.next]
      have htx : v.Text = [] := hfl.1.1.2
      have hin : v.Int = 0 := hfl.1.1.1
      refine ⟨r', ?_, hat'⟩
      rw [hz]
      obtain ⟨kd, i, t, l, ks⟩ := v
      simp only at h5 htx hin ⊢
      subst h5 htx hin
      rw [show k + 1 + nszs l = k + (nszs l + 1) from by omega]
end Go.Proofs.Ytmnobgopfnhbnaa
