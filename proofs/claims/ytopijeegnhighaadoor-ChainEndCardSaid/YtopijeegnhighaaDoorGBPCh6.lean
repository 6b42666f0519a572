/- ChainEnd: the plain law. -/
import Derived.Test.YtopijeegnhighaaDoorGBPCh5
import Derived.Test.YtopijeegnhighaaDoorGBF4
namespace Go.Proofs.YtopijeegnhighaaDoor
open Go Abs
set_option linter.unusedSimpArgs false
set_option linter.unusedVariables false

def dist (l : List ApiRun) (n : Nat) : Prop := ∀ (a b : Nat) (x y : ApiRun), a < b → b < n → l[a]? = some x → l[b]? = some y → ¬ (x.Workflow = y.Workflow ∧ x.ID = y.ID)
theorem inner_eq {l : List ApiRun} {i : Nat} (s1 : List ApiRun) (hi : i < l.length) (hl : l.length ≤ 30) :
    ∃ x, loopO (law44xChainEnd_l2 l (s1, (i : Int)) l[i]) (0 : Int) = some x ∧ (x = .done (.out (.done true)) ∨ (x = .go () ∧ ∀ (a : Nat) (y : ApiRun), a < i → l[a]? = some y → ¬ (y.Workflow = l[i].Workflow ∧ y.ID = l[i].ID))) := by
  refine loop_ex (fun t => ∃ k : Nat, t = (k : Int) ∧ k ≤ i ∧ ∀ (a : Nat) (y : ApiRun), a < k → l[a]? = some y → ¬ (y.Workflow = l[i].Workflow ∧ y.ID = l[i].ID)) (fun t => i - t.toNat) _ ?_ _ ⟨0, rfl, by omega, fun a y h => by omega⟩
  rintro _ ⟨k, rfl, hk, hd⟩
  unfold law44xChainEnd_l2
  simp only [Int.toNat_natCast]
  have hlen : (l.take i).length = i := by rw [List.length_take]; omega
  by_cases hc : k < i
  · have hk2 : k < (l.take i).length := by omega
    rw [cond_d, if_pos (by omega), idx_ok hk2, Option.bind_some, List.getElem_take, works44]
    by_cases h1 : l[k].Workflow = l[i].Workflow ∧ l[k].ID = l[i].ID
    · rw [decide_eq_true h1.1, decide_eq_true h1.2]
      exact .inr ⟨_, rfl, .inl rfl⟩
    · have : cond (decide (l[k].Workflow = l[i].Workflow)) (decide (l[k].ID = l[i].ID)) false = false := by
        by_cases h2 : l[k].Workflow = l[i].Workflow
        · have h3 : ¬ l[k].ID = l[i].ID := fun h => h1 ⟨h2, h⟩
          simp [h2, h3]
        · simp [h2]
      rw [this, cond_false, w64s hc (by omega)]
      refine .inl ⟨_, rfl, ⟨k + 1, rfl, hc, fun a y ha hy => ?_⟩, by simp only [Int.toNat_natCast]; omega⟩
      rcases Nat.lt_succ_iff_lt_or_eq.1 ha with h4 | rfl
      · exact hd a y h4 hy
      · rw [List.getElem?_eq_getElem (by omega)] at hy
        cases hy
        exact h1
  · rw [cond_d, if_neg (by omega)]
    exact .inr ⟨_, rfl, .inr ⟨rfl, fun a y ha hy => hd a y (by omega) hy⟩⟩
theorem outer_eq {l : List ApiRun} (hl : l.length ≤ 30) : ∃ x, loopO (law44xChainEnd_l1 l) (([] : List ApiRun), (0 : Int)) = some x ∧ (x = .done true ∨ (x = .go (l.filter (ownW [119])) ∧ dist l l.length)) := by
  refine loop_ex (fun t => ∃ i : Nat, t = ((l.take i).filter (ownW [119]), (i : Int)) ∧ i ≤ l.length ∧ dist l i) (fun t => l.length - t.2.toNat) _ ?_ _ ⟨0, rfl, by omega, fun a b x y h1 h2 => by omega⟩
  rintro _ ⟨i, rfl, hi, hd⟩
  unfold law44xChainEnd_l1
  simp only
  by_cases hc : i < l.length
  · rw [cond_d, if_pos (by omega), idx_ok hc, Option.bind_some, slcH_ok ⟨by omega, by omega⟩, Option.bind_some]
    obtain ⟨x, hx, h⟩ := inner_eq ((l.take i).filter (ownW [119])) hc hl
    rw [hx, Option.bind_some]
    rcases h with rfl | ⟨rfl, h⟩
    · exact .inr ⟨_, rfl, .inl rfl⟩
    · have hd2 : dist l (i + 1) := by
        intro a b x y hab hb hx' hy
        rcases Nat.lt_succ_iff_lt_or_eq.1 hb with h4 | rfl
        · exact hd a b x y hab h4 hx' hy
        · rw [List.getElem?_eq_getElem hc] at hy
          cases hy
          exact h a x hab hx'
      simp only [Fl.next]
      have hlf : ((l.take i).filter (ownW [119])).length ≤ 30 := Nat.le_trans (List.length_filter_le _ _) (by rw [List.length_take]; omega)
      rw [cond_d, app_ok (by simp only [List.length_singleton]; omega), Option.bind_some, w64s hc (by omega)]
      by_cases hw : l[i].Workflow = [119]
      · rw [if_pos hw]
        refine .inl ⟨_, rfl, ⟨i + 1, ?_, hc, hd2⟩, by simp only [Int.toNat_natCast]; omega⟩
        rw [List.take_succ_eq_append_getElem hc, List.filter_append, List.filter_cons_of_pos (by unfold ownW; exact decide_eq_true hw)]
        rfl
      · rw [if_neg hw]
        refine .inl ⟨_, rfl, ⟨i + 1, ?_, hc, hd2⟩, by simp only [Int.toNat_natCast]; omega⟩
        rw [List.take_succ_eq_append_getElem hc, List.filter_append, List.filter_cons_of_neg (by unfold ownW; simp [hw])]
        simp
  · obtain rfl : i = l.length := by omega
    rw [cond_d, if_neg (by omega)]
    exact .inr ⟨_, rfl, .inr ⟨by rw [List.take_length], hd⟩⟩
theorem okL_own {l : List ApiRun} {w : List UInt8} (ok : okL l) : okL (l.filter (ownW w)) :=
  ⟨Nat.le_trans (List.length_filter_le _ _) ok.len, fun r hr => ok.ids r (List.mem_filter.1 hr).1, fun r hr => ok.his r (List.mem_filter.1 hr).1⟩
theorem find_dist {l : List ApiRun} (hd : dist l l.length) {r : ApiRun} (hr : r ∈ l) : l.find? (fun x : ApiRun => decide (x.Workflow = r.Workflow ∧ x.ID = r.ID)) = some r := by
  cases hf : l.find? (fun x : ApiRun => decide (x.Workflow = r.Workflow ∧ x.ID = r.ID)) with
  | none =>
    have := List.find?_eq_none.1 hf r hr
    simp at this
  | some y =>
    have hp := List.find?_some hf
    rw [decide_eq_true_eq] at hp
    obtain ⟨a, ha, hya⟩ := List.mem_iff_getElem.1 (List.mem_of_find?_eq_some hf)
    obtain ⟨b, hb, hrb⟩ := List.mem_iff_getElem.1 hr
    rcases Nat.lt_trichotomy a b with h | h | h
    · exact absurd hp (hd a b y r h hb (by rw [List.getElem?_eq_getElem ha, hya]) (by rw [List.getElem?_eq_getElem hb, hrb]))
    · subst h; rw [← hya, ← hrb]
    · exact absurd ⟨hp.1.symm, hp.2.symm⟩ (hd b a r y h ha (by rw [List.getElem?_eq_getElem hb, hrb]) (by rw [List.getElem?_eq_getElem ha, hya]))
theorem ChainEnd_pure (l : List ApiRun) (id : List UInt8) (h : okLs 544 okApiRun l) : law44xChainEnd l id = some true := by
  unfold law44xChainEnd
  obtain ⟨b, h1, h2⟩ := large_ex h
  rw [h1, works44]
  cases b
  · have hl := h2 rfl
    have ok := okL_of h hl
    obtain ⟨x, hx, hx2⟩ := outer_eq hl
    rw [hx]
    simp only [Option.bind_some, cond_false]
    rcases hx2 with rfl | ⟨rfl, hd⟩
    · rfl
    · simp only [Fl.next]
      rcases Follow_E (w := [119]) (id := id) ok with ⟨f1, f2⟩ | ⟨r0, r, f1, f2, f3, f4, f5⟩
      · rcases Follow_E (w := [119]) (id := id) (okL_own (w := [119]) ok) with ⟨g1, g2⟩ | ⟨s0, s, g1, _⟩
        · rw [f1, g1]; rfl
        · rw [findE_own, f2] at g1; cases g1
      · rcases Follow_E (w := [119]) (id := id) (okL_own (w := [119]) ok) with ⟨g1, g2⟩ | ⟨s0, s, g1, g2, g3, g4, g5⟩
        · rw [findE_own, f1] at g2; cases g2
        · rw [findE_own, f1] at g1
          cases g1
          rw [stepR_own] at g2
          obtain rfl := f2.det g2
          rw [f5, g5]
          simp only [Option.bind_some, decide_true, Bool.not_true, cond_false, beq_self_eq_true]
          rw [refNumber_eq (ok.ids r f3), Option.bind_some]
          cases hn : (numberS r.ID).2
          · rfl
          · simp only [Bool.not_true, cond_false]
            have hne : r.ID ≠ [] := by
              intro e
              rw [e] at hn
              revert hn
              unfold numberS
              simp [Lib.hasPrefix]
            have hfE : findE l [119] r.ID = some r := by
              unfold findE
              rw [if_neg hne]
              have := find_dist hd f3
              rw [f4] at this
              exact this
            rcases Follow_E (w := [119]) (id := r.ID) ok with ⟨k1, k2⟩ | ⟨s0, s, k1, k2, k3, k4, k5⟩
            · rw [hfE] at k2; cases k2
            · rw [hfE] at k1
              cases k1
              obtain rfl := k2.det (.stop f2.last)
              rw [k5]
              simp [gd]
  · rfl
end Go.Proofs.YtopijeegnhighaaDoor
