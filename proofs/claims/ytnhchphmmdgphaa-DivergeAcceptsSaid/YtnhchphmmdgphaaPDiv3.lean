/- Commands recorded as events match: DivergeAccepts, plainly. -/
import Derived.Test.YtnhchphmmdgphaaPDiv1
import Derived.Test.YtnhchphmmdgphaaPCmd2
import Derived.Test.YtnhchphmmdgphaaGAF7
namespace Go.Proofs.Ytnhchphmmdgphaa
open Go Abs
set_option linter.unusedSimpArgs false
set_option linter.unusedVariables false

theorem compare_spec {l : List ApiCommand} {es : List ApiEvent} (hl : l.length ≤ 1000000) (he : es.length ≤ 1000000) :
    ∃ x, diverge_Compare l es = some x ∧ (x = -1 ↔ l.length = es.length ∧ ∀ i (h : i < l.length) (h2 : i < es.length), diverge_Match l[i] es[i] = some true) := by
  unfold diverge_Compare
  obtain ⟨r, h1, x, h2, h3⟩ : ∃ r, loopO (diverge_Compare_l1 l es) (0 : Int) = some r ∧ ∃ x : Int, (Fl.next r fun _ => some (-1 : Int)) = some x ∧ (x = -1 ↔ l.length = es.length ∧ ∀ i (h : i < l.length) (h2 : i < es.length), diverge_Match l[i] es[i] = some true) := by
    refine loop_ex (fun s => ∃ i : Nat, s = (i : Int) ∧ i ≤ l.length ∧ i ≤ es.length ∧ ∀ j (h : j < l.length) (h2 : j < es.length), j < i → diverge_Match l[j] es[j] = some true) (fun s => l.length - s.toNat) _ ?_ _ ⟨0, rfl, by omega, by omega, by omega⟩
    rintro s ⟨i, rfl, hil, hie, hm⟩
    unfold diverge_Compare_l1
    by_cases h3 : i < l.length ∧ i < es.length
    · have e1 : decide ((i : Int) < (if ((es).length : Int) > ((l).length : Int) then ((es).length : Int) else ((l).length : Int))) = true := by simp; split <;> omega
      have e3 : (cond (decide (((l).length : Int) ≤ (i : Int))) true (decide (((es).length : Int) ≤ (i : Int)))) = false := by
        have h4 : ¬ l.length ≤ i := by omega
        have h5 : ¬ es.length ≤ i := by omega
        simp [h4, h5]
      obtain ⟨b, hb1, hb2⟩ := match_eq l[i] es[i]
      rw [e1, e3]
      simp only [cond_true, beq_self_eq_true, gd, if_true, cond_false, idx_nat, List.getElem?_eq_getElem h3.1, List.getElem?_eq_getElem h3.2, Option.bind_some, hb1]
      cases b
      · refine .inr ⟨_, rfl, i, rfl, ?_⟩
        constructor
        · intro h; omega
        · rintro ⟨_, h⟩
          rw [h i h3.1 h3.2] at hb1
          cases hb1
      · refine .inl ⟨_, rfl, ⟨i + 1, by rw [w64 (by omega) (by omega)]; omega, by omega, by omega, fun j hj hj2 hji => ?_⟩, by rw [w64 (by omega) (by omega)]; omega⟩
        rcases Nat.lt_succ_iff_lt_or_eq.1 hji with h | rfl
        · exact hm j hj hj2 h
        · exact hb1
    · by_cases hmax : l.length = es.length
      · have e1 : decide ((i : Int) < (if ((es).length : Int) > ((l).length : Int) then ((es).length : Int) else ((l).length : Int))) = false := by simp; split <;> omega
        rw [e1]
        refine .inr ⟨_, rfl, -1, rfl, ?_⟩
        simp only [true_iff]
        exact ⟨hmax, fun j hj hj2 => hm j hj hj2 (by omega)⟩
      · have e1 : decide ((i : Int) < (if ((es).length : Int) > ((l).length : Int) then ((es).length : Int) else ((l).length : Int))) = true := by simp; split <;> omega
        have e3 : (cond (decide (((l).length : Int) ≤ (i : Int))) true (decide (((es).length : Int) ≤ (i : Int)))) = true := by
          by_cases h4 : l.length ≤ i
          · simp [h4]
          · have : es.length ≤ i := by omega
            simp [this]
        rw [e1, e3]
        refine .inr ⟨_, rfl, i, rfl, ?_⟩
        constructor
        · intro h; omega
        · rintro ⟨h, _⟩; exact absurd h hmax
  exact ⟨x, by rw [h1, Option.bind_some]; exact h2, h3⟩

theorem eventOf_case {k v : Int} (h : loopF (event_eventOf_l1 k) 40 1 = some (Fl.done v)) : event_eventOf k = some v := by
  unfold event_eventOf
  rw [loopO_of h]; rfl
theorem eventOf_one {c : ApiCommand} {k v : Int} {f : DivergeFields} (h : c.Kind = k) (hv : loopF (event_eventOf_l1 k) 40 1 = some (Fl.done v)) (hk : diverge_kind k = some v) (hf : diverge_compared k = some f) (hc : isCmd v = true) :
    ∃ v, event_eventOf c.Kind = some v ∧ ∀ e : ApiEvent, e.Kind = v → e.Seq = c.Seq → e.Name = c.Name → e.Key = c.Key → e.N = c.N → diverge_Match c e = some true := by
  refine ⟨v, by rw [h]; exact eventOf_case hv, fun e e1 e2 e3 e4 e5 => ?_⟩
  rw [match_case (c := c) (e := e) (by rw [h]; exact hk) (by rw [h]; exact hf) hc, e1, e2, e3, e4, e5]
  simp
/-- A right command's event's kind, and that they match. -/
theorem eventOf_match {c : ApiCommand} (h1 : 1 ≤ c.Kind) (h2 : c.Kind ≤ 14) : ∃ v, event_eventOf c.Kind = some v ∧ ∀ e : ApiEvent, e.Kind = v → e.Seq = c.Seq → e.Name = c.Name → e.Key = c.Key → e.N = c.N → diverge_Match c e = some true := by
  have hk : c.Kind = 1 ∨ c.Kind = 2 ∨ c.Kind = 3 ∨ c.Kind = 4 ∨ c.Kind = 5 ∨ c.Kind = 6 ∨ c.Kind = 7 ∨ c.Kind = 8 ∨ c.Kind = 9 ∨ c.Kind = 10 ∨ c.Kind = 11 ∨ c.Kind = 12 ∨ c.Kind = 13 ∨ c.Kind = 14 := by omega
  rcases hk with h | h | h | h | h | h | h | h | h | h | h | h | h | h
  · exact eventOf_one h (v := 7) (by kernel_rfl) rfl rfl (by kernel_rfl)
  · exact eventOf_one h (v := 12) (by kernel_rfl) rfl rfl (by kernel_rfl)
  · exact eventOf_one h (v := 14) (by kernel_rfl) rfl rfl (by kernel_rfl)
  · exact eventOf_one h (v := 16) (by kernel_rfl) rfl rfl (by kernel_rfl)
  · exact eventOf_one h (v := 19) (by kernel_rfl) rfl rfl (by kernel_rfl)
  · exact eventOf_one h (v := 23) (by kernel_rfl) rfl rfl (by kernel_rfl)
  · exact eventOf_one h (v := 18) (by kernel_rfl) rfl rfl (by kernel_rfl)
  · exact eventOf_one h (v := 27) (by kernel_rfl) rfl rfl (by kernel_rfl)
  · exact eventOf_one h (v := 28) (by kernel_rfl) rfl rfl (by kernel_rfl)
  · exact eventOf_one h (v := 29) (by kernel_rfl) rfl rfl (by kernel_rfl)
  · exact eventOf_one h (v := 30) (by kernel_rfl) rfl rfl (by kernel_rfl)
  · exact eventOf_one h (v := 31) (by kernel_rfl) rfl rfl (by kernel_rfl)
  · exact eventOf_one h (v := 32) (by kernel_rfl) rfl rfl (by kernel_rfl)
  · exact eventOf_one h (v := 35) (by kernel_rfl) rfl rfl (by kernel_rfl)
theorem OfCommand_eq {c : ApiCommand} {id t : Int} (h : okApiCommand c) (hr : cright c = true) : ∃ v, event_OfCommand c id t = some (⟨id, v, t, c.Seq, 0, c.N, 0, c.Name, c.Key, c.Data, c.Opts⟩, true) ∧ event_eventOf c.Kind = some v ∧ ∀ e : ApiEvent, e.Kind = v → e.Seq = c.Seq → e.Name = c.Name → e.Key = c.Key → e.N = c.N → diverge_Match c e = some true := by
  have hd : okApiValue c.Data := h.2.2.2.2.2.1
  have hf : c.Opts.Fatal.length * 16 ≤ 140737488351232 := h.2.2.2.2.2.2.2.2.2.2.2.2.2.2.2.2.1
  have hin : inB c.Kind 1 14 = true := by unfold cright at hr; simp only [Bool.and_eq_true] at hr; exact hr.1.1.1.1.1.1.1
  unfold inB at hin
  simp only [Bool.and_eq_true, decide_eq_true_eq] at hin
  obtain ⟨v, hv, hm⟩ := eventOf_match hin.1 hin.2
  refine ⟨v, ?_, hv, hm⟩
  unfold event_OfCommand
  rw [command_Right_eq h, Option.bind_some, hr]
  simp only [Bool.not_true, cond_false]
  rw [app_ok (by simp; omega), Option.bind_some, hv, Option.bind_some, value_Copy_eq hd, Option.bind_some]
  rfl

theorem DivergeAccepts_pure {l : List ApiCommand} {data : ApiValue} {at_ : Int} (h : okLs 240 okApiCommand l) (ha : okI at_) : law27xDivergeAccepts l data at_ = some true := by
  unfold law27xDivergeAccepts
  simp only [works27, Option.bind_some]
  rw [cond_d]
  by_cases hl : (100 : Int) < l.length
  · rw [if_pos hl]
  · rw [if_neg hl]
    obtain ⟨r, h1, h2⟩ : ∃ r, loopO (law27xDivergeAccepts_l1 l data) (([] : List ApiEvent), (0 : Int)) = some r ∧ (r = Fl.done true ∨ ∃ es : List ApiEvent, r = Fl.go es ∧ es.length = l.length ∧ ∀ i (h : i < l.length) (h2 : i < es.length), diverge_Match l[i] es[i] = some true) := by
      refine loop_ex (fun s => ∃ i : Nat, s.2 = (i : Int) ∧ i ≤ l.length ∧ s.1.length = i ∧ ∀ j (h : j < l.length) (h2 : j < s.1.length), diverge_Match l[j] s.1[j] = some true) (fun s => l.length - s.2.toNat) _ ?_ _ ⟨0, rfl, by omega, rfl, fun j _ h2 => by simp at h2⟩
      rintro ⟨es, i0⟩ ⟨i, hi0, hi, hlen, hm⟩
      simp only at hi0 hlen hm
      subst hi0
      unfold law27xDivergeAccepts_l1
      simp only [cond_d]
      by_cases hlt : i < l.length
      · have hc := h.2.2 _ (List.getElem_mem hlt)
        rw [if_pos (by omega), idx_ok hlt, Option.bind_some, ref20Right_eq hc, Option.bind_some]
        cases hr : cright l[i]
        · exact .inr ⟨_, by simp [works27], .inl rfl⟩
        · obtain ⟨v, hv, _, hmm⟩ := OfCommand_eq (id := IntKind.i64.wrap ((i : Int) + 1)) (t := 0) hc hr
          simp only [Bool.not_true, cond_false]
          rw [hv, Option.bind_some]
          simp only [Bool.not_true, beq_self_eq_true, gd, if_true, command_Right_eq hc, hr, Option.bind_some, cond_false]
          rw [app_ok (by simp; omega), Option.bind_some, w64s hlt (by omega)]
          refine .inl ⟨_, rfl, ⟨i + 1, rfl, hlt, by simp [hlen], fun j hj hj2 => ?_⟩, by simp; omega⟩
          by_cases hji : j < es.length
          · rw [List.getElem_append_left hji]; exact hm j hj hji
          · have : j = i := by simp at hj2; omega
            subst this
            rw [List.getElem_append_right (by omega)]
            simp only [List.getElem_singleton]
            exact hmm _ rfl rfl rfl rfl rfl
      · rw [if_neg (by omega)]
        exact .inr ⟨_, rfl, .inr ⟨es, rfl, by omega, hm⟩⟩
    rw [h1, Option.bind_some]
    rcases h2 with rfl | ⟨es, rfl, hlen, hm⟩
    · rfl
    · simp only [Fl.next]
      obtain ⟨x, hx, hx2⟩ := compare_spec (l := l) (es := es) (by omega) (by omega)
      have : x = -1 := hx2.2 ⟨hlen.symm, hm⟩
      subst this
      rw [hx, Option.bind_some]
      simp only [decide_true, Bool.not_true, cond_false]
      by_cases hat : at_ < 0 ∨ (es.length : Int) ≤ at_
      · have e : (cond (decide (at_ < 0)) true (decide ((es.length : Int) ≤ at_))) = true := by
          by_cases h3 : at_ < 0
          · simp [h3]
          · have : (es.length : Int) ≤ at_ := by omega
            simp [this]
        rw [e]; rfl
      · have e : (cond (decide (at_ < 0)) true (decide ((es.length : Int) ≤ at_))) = false := by
          have h3 : ¬ at_ < 0 := by omega
          have h4 : ¬ (es.length : Int) ≤ at_ := by omega
          simp [h3, h4]
        obtain ⟨k, rfl⟩ : ∃ k : Nat, at_ = (k : Int) := ⟨at_.toNat, by omega⟩
        rw [e, cond_false, slcH_ok (by omega), Option.bind_some, app_ok (by simp; omega), Option.bind_some, w64 (by omega) (by omega), slcL_ok (by omega), Option.bind_some, app_ok (by simp; omega), Option.bind_some,
          slcH_ok (by omega), Option.bind_some, app_ok (by simp; omega), Option.bind_some, slcL_ok (by omega), Option.bind_some, app_ok (by simp; omega), Option.bind_some]
        have e1 : ((k : Int) + 1).toNat = k + 1 := by omega
        rw [e1, Int.toNat_natCast]
        obtain ⟨y, hy, hy2⟩ := compare_spec (l := l) (es := [] ++ es.take k ++ es.drop (k + 1)) (by omega) (by simp; omega)
        obtain ⟨z, hz, hz2⟩ := compare_spec (l := [] ++ l.take k ++ l.drop (k + 1)) (es := es) (by simp; omega) (by omega)
        have hyn : y ≠ -1 := fun e => by have := (hy2.1 e).1; simp at this; omega
        have hzn : z ≠ -1 := fun e => by have := (hz2.1 e).1; simp at this; omega
        rw [hy, hz, Option.bind_some]
        simp [hyn, hzn, gd]
end Go.Proofs.Ytnhchphmmdgphaa
