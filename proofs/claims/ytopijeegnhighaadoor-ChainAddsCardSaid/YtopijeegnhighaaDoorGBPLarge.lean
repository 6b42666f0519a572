/- Runs that are not too large, plainly. -/
import Derived.Test.YtopijeegnhighaaDoorGBPSamV
import Derived.Test.YtopijeegnhighaaDoorGBPChain1
import Derived.Test.YtopijeegnhighaaDoorGBF0
namespace Go.Proofs.YtopijeegnhighaaDoor
open Go Abs
set_option linter.unusedSimpArgs false
set_option linter.unusedVariables false

mutual
def siz : ApiValue → Int
  | ⟨_, _, _, l, _⟩ => sizs l 1
def sizs : List ApiValue → Int → Int
  | [], a => a
  | x :: l, a => sizs l (IntKind.i64.wrap (a + siz x))
end
theorem siz_eq (v : ApiValue) : siz v = v.Items.foldl (fun a x => IntKind.i64.wrap (a + siz x)) 1 := by
  have key : ∀ (l : List ApiValue) (a : Int), sizs l a = l.foldl (fun a x => IntKind.i64.wrap (a + siz x)) a := by
    intro l
    induction l with
    | nil => intro a; simp [sizs]
    | cons x l ih => intro a; simp [sizs, ih]
  cases v; simp only [siz, key]
theorem refSizeF_eq : ∀ (n : Nat) (v : ApiValue), okApiValue v → hgt v ≤ n → ref02xSizeF n v = some (siz v) := by
  intro n
  induction n with
  | zero => intro v hv hn; have := hgt_eq v; omega
  | succ n ih =>
    intro v hv hn
    have hh := hgt_eq v
    obtain ⟨k0, k1, k2, k3, k4⟩ := (okApiValue_iff v).1 hv
    have hi1 := fun (i : Nat) (hi : i < v.Items.length) => ih _ (k3.2.2 _ (List.getElem_mem hi)) (by have := hgts_ge (List.getElem_mem hi); omega)
    rw [ref02xSizeF, siz_eq]
    rw [loop_fold v.Items (fun a x => IntKind.i64.wrap (a + siz x)) 1 (fun s i hi => ?_) (fun s => ?_), Option.bind_some]
    · unfold ref02xSize_l1
      rw [cond_d, if_pos (by simp only; omega), idx_ok hi, Option.bind_some, (hi1 i hi), Option.bind_some, w64s hi k3.1]
    · unfold ref02xSize_l1
      rw [cond_d, if_neg (by simp only; omega)]
theorem refSize_eq {v : ApiValue} (hv : okApiValue v) : ref02xSize v = some (siz v) := lim_eq (hgt v) fun n hn => refSizeF_eq n v hv hn
/-- What large says is always said; a list that is not large has at most 30 runs of at most 30 events. -/
theorem large_ex {l : List ApiRun} (h : okLs 544 okApiRun l) : ∃ b, law44xlarge l = some b ∧ (b = false → l.length ≤ 30) := by
  unfold law44xlarge
  by_cases h1 : (30 : Int) < (l.length : Int)
  · rw [decide_eq_true h1]; exact ⟨true, rfl, fun hh => by cases hh⟩
  · rw [decide_eq_false h1, cond_false]
    have key : ∃ x, loopO (law44xlarge_l1 l) (0 : Int) = some x ∧ (x = .done true ∨ x = .go ()) := by
      refine loop_ex (fun t => ∃ i : Nat, t = (i : Int) ∧ i ≤ l.length) (fun t => l.length - t.toNat) _ ?_ _ ⟨0, rfl, by omega⟩
      rintro _ ⟨i, rfl, hi⟩
      unfold law44xlarge_l1
      by_cases hc : i < l.length
      · have hr := h.2.2 _ (List.getElem_mem hc)
        have hev : okLs 272 okApiEvent l[i].History := hr.2.2.2.2.1
        rw [cond_d, if_pos (by omega), idx_ok hc, Option.bind_some, cond_d]
        by_cases h2 : (30 : Int) < (l[i].History.length : Int)
        · rw [if_pos h2]; exact .inr ⟨_, rfl, .inl rfl⟩
        · rw [if_neg h2]
          have key2 : ∃ x, loopO (law44xlarge_l2 l[i]) (0 : Int) = some x ∧ (x = .done (.out (.done true)) ∨ x = .go ()) := by
            refine loop_ex (fun t => ∃ k : Nat, t = (k : Int) ∧ k ≤ l[i].History.length) (fun t => l[i].History.length - t.toNat) _ ?_ _ ⟨0, rfl, by omega⟩
            rintro _ ⟨k, rfl, hk⟩
            unfold law44xlarge_l2
            by_cases hc2 : k < l[i].History.length
            · have he := hev.2.2 _ (List.getElem_mem hc2)
              rw [cond_d, if_pos (by omega), idx_ok hc2, Option.bind_some, refSize_eq he.2.2.2.2.2.2.2.2.2.1, Option.bind_some, cond_d]
              by_cases h3 : (100 : Int) < siz l[i].History[k].Data
              · rw [if_pos h3]; exact .inr ⟨_, rfl, .inl rfl⟩
              · rw [if_neg h3, w64s hc2 (by omega)]
                exact .inl ⟨_, rfl, ⟨k + 1, rfl, hc2⟩, by simp only [Int.toNat_natCast]; omega⟩
            · rw [cond_d, if_neg (by omega)]; exact .inr ⟨_, rfl, .inr rfl⟩
          obtain ⟨x, hx, hx2⟩ := key2
          rw [hx, Option.bind_some]
          rcases hx2 with rfl | rfl
          · exact .inr ⟨_, rfl, .inl rfl⟩
          · rw [w64s hc (by omega)]
            exact .inl ⟨_, rfl, ⟨i + 1, rfl, hc⟩, by simp only [Int.toNat_natCast]; omega⟩
      · rw [cond_d, if_neg (by omega)]; exact .inr ⟨_, rfl, .inr rfl⟩
    obtain ⟨x, hx, hx2⟩ := key
    rw [hx, Option.bind_some]
    rcases hx2 with rfl | rfl
    · exact ⟨true, rfl, fun hh => by cases hh⟩
    · exact ⟨false, rfl, fun _ => by omega⟩
end Go.Proofs.YtopijeegnhighaaDoor
