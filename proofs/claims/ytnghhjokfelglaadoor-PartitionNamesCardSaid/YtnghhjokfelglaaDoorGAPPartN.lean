/- PartitionNames: the plain law. -/
import Derived.Test.YtnghhjokfelglaaDoorGAPPart
import Derived.Test.YtnghhjokfelglaaDoorGAPNum
import Derived.Test.YtnghhjokfelglaaDoorGAPFirst
import Derived.Test.YtnghhjokfelglaaDoorGAF0
namespace Go.Proofs.YtnghhjokfelglaaDoor
open Go Abs
set_option linter.unusedSimpArgs false
set_option linter.unusedVariables false
theorem itoa16 : ∀ k : Fin 16, ((match Lib.atoiAll (Lib.itoa (k.1 : Int)) with | .ok v => decide (v = (k.1 : Int)) | _ => false) && !(Lib.itoa (k.1 : Int)).contains 35) = true := by decide +kernel
theorem itoa_ok {n : Int} (h0 : 0 ≤ n) (h1 : n < 16) : Lib.atoiAll (Lib.itoa n) = .ok n ∧ (35 : UInt8) ∉ Lib.itoa n := by
  have h := itoa16 ⟨n.toNat, by omega⟩
  simp only [show ((n.toNat : Nat) : Int) = n by omega, Bool.and_eq_true] at h
  obtain ⟨a, b⟩ := h
  refine ⟨?_, fun hm => ?_⟩
  · cases hh : Lib.atoiAll (Lib.itoa n) with
    | ok v => rw [hh] at a; simp only [decide_eq_true_eq] at a; rw [a]
    | _ => rw [hh] at a; simp at a
  · rw [List.contains_iff_mem.2 hm] at b; simp at b
theorem data_get {q : List UInt8} {j : Nat} (h : j < q.length) : ((((⟨q.toArray⟩ : ByteArray).data[j]!).toNat : Nat) : Int) = 35 ↔ q[j] = 35 := by
  have : (⟨q.toArray⟩ : ByteArray).data[j]! = q[j] := by
    show q.toArray[j]! = q[j]
    rw [getElem!_pos q.toArray j (by simpa using h)]; simp
  rw [this]
  constructor
  · intro h; apply UInt8.toNat_inj.1; show q[j].toNat = 35; omega
  · intro h; rw [h]; rfl
theorem lastAt_eq {a t : List UInt8} (ht : (35 : UInt8) ∉ t) : lastAt (a ++ 35 :: t) = (a.length : Int) := by
  unfold lastAt
  have hlen : (⟨(a ++ 35 :: t).toArray⟩ : ByteArray).size = (a ++ 35 :: t).length := rfl
  have hal : a.length < (a ++ 35 :: t).length := by simp
  have hat : (a ++ 35 :: t)[a.length] = 35 := by simp
  rcases Lib.lastIndexByte_spec (⟨(a ++ 35 :: t).toArray⟩ : ByteArray) 35 with ⟨_, h⟩ | ⟨i, hi, h1, h2, h3⟩
  · exact absurd ((data_get hal).2 hat) (h _ (by rw [hlen]; exact hal))
  · rw [h1]
    rw [hlen] at hi
    have hi35 := (data_get hi).1 h2
    by_cases hlt : i < a.length
    · exact absurd ((data_get hal).2 hat) (h3 _ hlt (by rw [hlen]; exact hal))
    · by_cases hgt : a.length < i
      · exfalso
        apply ht
        rw [List.getElem_append_right (by omega)] at hi35
        obtain ⟨m, hm⟩ : ∃ m, i - a.length = m + 1 := ⟨i - a.length - 1, by omega⟩
        simp only [hm, List.getElem_cons_succ] at hi35
        rw [← hi35]; exact List.getElem_mem _
      · have : i = a.length := by omega
        rw [this]
theorem split_of {a : List UInt8} {n : Int} (h0 : 0 ≤ n) (h1 : n < 16) : splitPS (a ++ 35 :: Lib.itoa n) = (a, n, true) := by
  obtain ⟨e1, e2⟩ := itoa_ok h0 h1
  unfold splitPS
  rw [lastAt_eq e2, if_neg (by omega), Int.toNat_natCast]
  have ed : (a ++ 35 :: Lib.itoa n).drop (a.length + 1) = Lib.itoa n := by rw [show a ++ 35 :: Lib.itoa n = (a ++ [35]) ++ Lib.itoa n by simp, List.drop_left' (by simp)]
  have et : (a ++ 35 :: Lib.itoa n).take a.length = a := List.take_left' rfl
  rw [ed, e1, et]
  have ep : pnameS a n = a ++ 35 :: Lib.itoa n := by unfold pnameS; rw [if_pos ⟨h0, h1⟩]; simp
  simp only [ep, if_true]
theorem split_true {q : List UInt8} (h : (splitPS q).2.2 = true) : 0 ≤ (splitPS q).2.1 ∧ (splitPS q).2.1 < 16 ∧ q = (splitPS q).1 ++ 35 :: Lib.itoa (splitPS q).2.1 ∧ pnameS (splitPS q).1 (splitPS q).2.1 = q := by
  unfold splitPS at h ⊢
  by_cases hn : lastAt q < 0
  · rw [if_pos hn] at h; simp at h
  · rw [if_neg hn] at h ⊢
    cases ha : Lib.atoiAll (q.drop ((lastAt q).toNat + 1)) with
    | ok v =>
      rw [ha] at h
      simp only at h ⊢
      by_cases hp : pnameS (q.take (lastAt q).toNat) v = q
      · rw [if_pos hp]
        simp only
        by_cases hv : 0 ≤ v ∧ v < 16
        · refine ⟨hv.1, hv.2, ?_, hp⟩
          have := hp
          unfold pnameS at this
          rw [if_pos hv] at this
          rw [← List.append_cons] at this
          exact this.symm
        · exfalso
          unfold pnameS at hp
          rw [if_neg hv] at hp
          rw [← hp] at hn
          exact hn (by decide +kernel)
      · rw [if_neg hp] at h; simp at h
    | _ => rw [ha] at h; simp at h
theorem split_false {q : List UInt8} (h : (splitPS q).2.2 = false) : splitPS q = ([], 0, false) := by
  unfold splitPS at h ⊢
  by_cases hn : lastAt q < 0
  · rw [if_pos hn]
  · rw [if_neg hn] at h ⊢
    cases ha : Lib.atoiAll (q.drop ((lastAt q).toNat + 1)) with
    | ok v =>
      rw [ha] at h
      simp only at h ⊢
      by_cases hp : pnameS (q.take (lastAt q).toNat) v = q
      · rw [if_pos hp] at h; simp at h
      · rw [if_neg hp]
    | _ => rfl
theorem pname_eq {q : List UInt8} {i : Int} (hq : q.length ≤ 1000000) (hi : okI i) : partition_Name q i = some (pnameS q i) := by
  have hl := Lib.itoa_length_le i hi.1 hi.2
  unfold partition_Name partition_known pnameS strconv_Itoa
  rw [if_pos (show -9223372036854775808 ≤ i ∧ i ≤ 9223372036854775807 from hi)]
  by_cases h : 0 ≤ i ∧ i < 16
  · rw [if_pos h]
    simp only [h.1, h.2, decide_true, cond_true, Option.bind_some, Bool.not_true, cond_false]
    rw [cat_ok (by simp; omega), Option.bind_some, cat_ok (by simp; omega), Option.bind_some]
  · rw [if_neg h]
    by_cases h1 : 0 ≤ i
    · have h2 : ¬ i < 16 := fun hh => h ⟨h1, hh⟩
      simp [h1, h2]
    · simp [h1]
theorem decimal_eq {i : Int} (h : 0 ≤ i ∧ i < 16) : ref03xDecimal i = some (Lib.itoa i) := by
  unfold ref03xDecimal
  have h1 : ¬ i < 0 := by omega
  rw [decide_eq_false h1, cond_false, w64 (by omega) (by omega)]
  obtain ⟨u, rfl⟩ : ∃ u : Nat, i = (u : Int) := ⟨i.toNat, by omega⟩
  rw [show (0 : Int) - (u : Int) = -(u : Int) by omega, digits_eq (by omega), Option.bind_some, Lib.itoa_nonneg]
theorem refName_eq {q : List UInt8} {i : Int} (hq : q.length ≤ 1000000) (hi : okI i) : ref39xName q i = some (pnameS q i) := by
  have hl := Lib.itoa_length_le i hi.1 hi.2
  unfold ref39xName pnameS
  by_cases h : 0 ≤ i ∧ i < 16
  · have h1 : ¬ i < 0 := by omega
    have h2 : ¬ 16 ≤ i := by omega
    rw [if_pos h, decimal_eq h]
    simp only [h1, h2, decide_false, cond_false, Option.bind_some]
    rw [cat_ok (by simp; omega), Option.bind_some, cat_ok (by simp; omega), Option.bind_some]
  · rw [if_neg h]
    by_cases h1 : i < 0
    · simp [h1]
    · have h2 : 16 ≤ i := by omega
      simp [h2]
theorem firstF_none {α : Type} {p : α → Bool} : ∀ {l : List α} {k : Nat}, firstF p l k = none → ∀ x ∈ l, p x = false
  | [], _, _, x, hx => by simp at hx
  | y :: l, k, h, x, hx => by
    unfold firstF at h
    by_cases hp : p y = true
    · rw [if_pos hp] at h; cases h
    · rw [if_neg hp] at h
      rcases List.mem_cons.1 hx with rfl | hx
      · simpa using hp
      · exact firstF_none h x hx
def endS (i : Nat) : List UInt8 := 35 :: Lib.itoa (i : Int)
def endsP (q : List UInt8) (i : Nat) : Bool := decide ((endS i).length ≤ q.length) && decide (q.drop (q.length - (endS i).length) = endS i)
theorem pname_nil {i : Nat} (h : i < 16) : pnameS [] (i : Int) = endS i := by unfold pnameS endS; rw [if_pos (by omega)]; rfl
theorem refSplit_eq {q : List UInt8} (hq : q.length ≤ 1000000) : ref39xSplit q = some (splitPS q) := by
  unfold ref39xSplit
  rw [loop_first (l := List.range 16) (endsP q) (fun i _ => (q.take (q.length - (endS i).length), (i : Int), true)) (fun i hi => ?_) ?_]
  · rw [Option.bind_some]
    cases hf : firstF (endsP q) (List.range 16) 0 with
    | none =>
      have hn := firstF_none hf
      simp only [firstR, Fl.next]
      cases hb : (splitPS q).2.2
      · rw [split_false hb]
      · exfalso
        obtain ⟨h0, h1, h2, _⟩ := split_true hb
        have := hn (splitPS q).2.1.toNat (List.mem_range.2 (by omega))
        have he : endS (splitPS q).2.1.toNat = 35 :: Lib.itoa (splitPS q).2.1 := by unfold endS; rw [show (((splitPS q).2.1.toNat : Nat) : Int) = (splitPS q).2.1 by omega]
        unfold endsP at this
        rw [he] at this
        have hlen : q.length = (splitPS q).1.length + (35 :: Lib.itoa (splitPS q).2.1).length := by
          conv => lhs; rw [h2]
          rw [List.length_append]
        have hd : q.drop (q.length - (35 :: Lib.itoa (splitPS q).2.1).length) = 35 :: Lib.itoa (splitPS q).2.1 := by
          rw [show q.length - (35 :: Lib.itoa (splitPS q).2.1).length = (splitPS q).1.length by omega]
          exact (congrArg (List.drop (splitPS q).1.length) h2).trans (List.drop_left' rfl)
        rw [decide_eq_true hd, decide_eq_true (by omega)] at this
        exact absurd this (by decide)
    | some x =>
      obtain ⟨i, y⟩ := x
      obtain ⟨_, h2, h3⟩ := firstF_some hf
      rw [Nat.sub_zero] at h2
      have hi : i < 16 := by
        have := (List.getElem?_eq_some_iff.1 h2).1
        simpa using this
      have hy : y = i := by
        rw [List.getElem?_range hi] at h2
        exact (Option.some.inj h2).symm
      subst hy
      simp only [firstR, Fl.next]
      unfold endsP at h3
      rw [Bool.and_eq_true, decide_eq_true_eq, decide_eq_true_eq] at h3
      have hqe : q = q.take (q.length - (endS y).length) ++ endS y := by
        conv => lhs; rw [← List.take_append_drop (q.length - (endS y).length) q, h3.2]
      have := split_of (a := q.take (q.length - (endS y).length)) (n := (y : Int)) (by omega) (by omega)
      rw [show (35 : UInt8) :: Lib.itoa (y : Int) = endS y from rfl, ← hqe] at this
      rw [this]
  · unfold ref39xSplit_l1
    rw [List.length_range, cond_d, if_neg (by omega)]
  · rw [List.length_range] at hi
    rw [List.getElem_range]
    unfold ref39xSplit_l1 endsP
    rw [cond_d, if_pos (by omega), refName_eq (by simp) ⟨by omega, by omega⟩, Option.bind_some, pname_nil hi, w64s hi (by omega)]
    by_cases hle : (endS i).length ≤ q.length
    · have hw : IntKind.i64.wrap ((q.length : Int) - ((endS i).length : Int)) = ((q.length - (endS i).length : Nat) : Int) := by rw [w64 (by omega) (by omega)]; omega
      rw [hw, decide_eq_true (show ((endS i).length : Int) ≤ (q.length : Int) by omega), decide_eq_true hle, slcH_ok (by omega), Int.toNat_natCast]
      have hs : slcL q ((q.length - (endS i).length : Nat) : Int) = some (q.drop (q.length - (endS i).length)) := by
        unfold slcL
        rw [if_pos (by omega), Int.toNat_natCast]
      rw [hs]
      by_cases he : q.drop (q.length - (endS i).length) = endS i
      · simp [gd, he]
      · simp [gd, he]
    · rw [decide_eq_false (show ¬ ((endS i).length : Int) ≤ (q.length : Int) by omega), decide_eq_false hle]
      simp [gd]
theorem PartitionNames_pure (q : List UInt8) (i : Int) (hi : okI i) : law39xPartitionNames q i = some true := by
  unfold law39xPartitionNames
  rw [lives39]
  by_cases h : (10000 : Int) < (q.length : Int)
  · simp [h]
  · have hl := Lib.itoa_length_le i hi.1 hi.2
    have hp : (pnameS q i).length ≤ 20000 := by
      unfold pnameS
      split
      · simp; omega
      · simp
    have hS : ∀ x : List UInt8, x.length ≤ 20000 → partition_Split x = some (splitPS x) := fun x hx => by unfold partition_Split; rw [if_pos (by omega)]
    rw [pname_eq (by omega) hi, refName_eq (by omega) hi, hS q (by omega), refSplit_eq (by omega)]
    simp only [h, decide_false, cond_false, Option.bind_some]
    rw [hS _ hp]
    have hlast : i < 0 ∨ 16 ≤ i ∨ splitPS (pnameS q i) = (q, i, true) := by
      by_cases hk : 0 ≤ i ∧ i < 16
      · have := split_of (a := q) hk.1 hk.2
        rw [show pnameS q i = q ++ 35 :: Lib.itoa i by unfold pnameS; rw [if_pos hk]; simp]
        exact .inr (.inr this)
      · omega
    have hL : (cond (cond (decide (i < (0 : Int))) true (decide ((16 : Int) ≤ i))) true (cond (cond (splitPS (pnameS q i)).2.2 (decide ((splitPS (pnameS q i)).1 = q)) false) (decide ((splitPS (pnameS q i)).2.1 = i)) false)) = true := by
      rcases hlast with h | h | h
      · simp [h]
      · simp [h]
      · simp [h]
    rw [Option.bind_some, hL]
    cases hb : (splitPS q).2.2
    · simp [gd]
    · obtain ⟨h0, h1, h2, h3⟩ := split_true hb
      have hlq : (splitPS q).1.length ≤ q.length := by
        conv => rhs; rw [h2]
        rw [List.length_append]; omega
      rw [pname_eq (by omega) ⟨by omega, by omega⟩, h3]
      simp [gd]
end Go.Proofs.YtnghhjokfelglaaDoor
