/- Matching commands with events, plainly. -/
import Derived.Test.YtnhchphmmdgphaaPk2
import Derived.Test.YtnhchphmmdgphaaGAF0
import Derived.Test.YtnhchphmmdgphaaGAF1
import Derived.Test.YtnhchphmmdgphaaGAF8
namespace Go.Proofs.Ytnhchphmmdgphaa
open Go Abs
set_option linter.unusedSimpArgs false
set_option linter.unusedVariables false
set_option maxHeartbeats 1000000

noncomputable def isCmd (k : Int) : Bool := (event_IsCommand k).getD false
theorem commandOf_some (k : Int) : ∃ x, event_commandOf k = some x := by
  unfold event_commandOf
  repeat (first | exact ⟨_, rfl⟩ | refine cond_some ⟨_, rfl⟩ ?_)
theorem isCommand_eq (k : Int) : event_IsCommand k = some (isCmd k) := by
  obtain ⟨x, hx⟩ := commandOf_some k
  unfold isCmd event_IsCommand
  rw [hx]; rfl

/-- A case: the command's kind is told, and with it the event's. -/
theorem match_case {c : ApiCommand} {e : ApiEvent} {v : Int} {f : DivergeFields} (hk : diverge_kind c.Kind = some v) (hf : diverge_compared c.Kind = some f) (hc : isCmd v = true) :
    diverge_Match c e = some (decide (e.Kind = v) && (!f.seq_ || decide (c.Seq = e.Seq)) && (!f.name_ || decide (c.Name = e.Name)) && (!f.key_ || decide (c.Key = e.Key)) && (!f.n_ || decide (c.N = e.N))) := by
  unfold diverge_Match
  rw [hf, Option.bind_some, isCommand_eq, Option.bind_some, hk]
  by_cases h : e.Kind = v
  · rw [h, hc]
    cases f.seq_ <;> cases f.name_ <;> cases f.key_ <;> cases f.n_ <;> simp [gd]
  · cases isCmd e.Kind <;> simp [gd, h]

theorem match_eq (c : ApiCommand) (e : ApiEvent) : ∃ b, diverge_Match c e = some b ∧ ref27xMatch c e = some b := by
  have hk : c.Kind = 1 ∨ c.Kind = 2 ∨ c.Kind = 3 ∨ c.Kind = 4 ∨ c.Kind = 5 ∨ c.Kind = 6 ∨ c.Kind = 7 ∨ c.Kind = 8 ∨ c.Kind = 9 ∨ c.Kind = 10 ∨ c.Kind = 11 ∨ c.Kind = 12 ∨ c.Kind = 13 ∨ c.Kind = 14 ∨ (c.Kind < 1 ∨ 14 < c.Kind) := by omega
  rcases hk with h | h | h | h | h | h | h | h | h | h | h | h | h | h | h
  case inr.inr.inr.inr.inr.inr.inr.inr.inr.inr.inr.inr.inr.inr =>
    have hne : ∀ n : Int, 1 ≤ n → n ≤ 14 → ¬ c.Kind = n := fun n h1 h2 => by omega
    have h0 : diverge_kind c.Kind = some 0 := by
      unfold diverge_kind
      have : (cond (decide (c.Kind < (1 : Int))) true (decide ((14 : Int) < c.Kind))) = true := by
        by_cases h2 : c.Kind < 1
        · simp [h2]
        · have : 14 < c.Kind := by omega
          simp [this]
      rw [this]; rfl
    have h1 : ref27xkind c.Kind = some 0 := by
      unfold ref27xkind
      simp [hne]
    have h2 : isCmd 0 = false := by kernel_rfl
    refine ⟨false, ?_, ?_⟩
    · unfold diverge_Match
      have h3 : diverge_compared c.Kind = some ⟨false, false, false, false⟩ := by
        unfold diverge_compared
        simp [hne]
      rw [h3, Option.bind_some, isCommand_eq, Option.bind_some, h0]
      cases hc : isCmd e.Kind
      · simp [gd]
      · have : e.Kind ≠ 0 := fun he => by rw [he, h2] at hc; cases hc
        simp [gd, this]
    · unfold ref27xMatch
      rw [h1]
      simp [gd]
  all_goals
    refine ⟨_, match_case (by rw [h]; rfl) (by rw [h]; rfl) (by kernel_rfl), ?_⟩
    unfold ref27xMatch
    rw [h]
    first
      | (rw [show ref27xkind 1 = some 7 from rfl]; by_cases he : e.Kind = 7 <;> simp [he, gd])
      | (rw [show ref27xkind 2 = some 12 from rfl]; by_cases he : e.Kind = 12 <;> simp [he, gd])
      | (rw [show ref27xkind 3 = some 14 from rfl]; by_cases he : e.Kind = 14 <;> simp [he, gd])
      | (rw [show ref27xkind 4 = some 16 from rfl]; by_cases he : e.Kind = 16 <;> simp [he, gd])
      | (rw [show ref27xkind 5 = some 19 from rfl]; by_cases he : e.Kind = 19 <;> simp [he, gd])
      | (rw [show ref27xkind 6 = some 23 from rfl]; by_cases he : e.Kind = 23 <;> simp [he, gd])
      | (rw [show ref27xkind 7 = some 18 from rfl]; by_cases he : e.Kind = 18 <;> simp [he, gd])
      | (rw [show ref27xkind 8 = some 27 from rfl]; by_cases he : e.Kind = 27 <;> simp [he, gd])
      | (rw [show ref27xkind 9 = some 28 from rfl]; by_cases he : e.Kind = 28 <;> simp [he, gd])
      | (rw [show ref27xkind 10 = some 29 from rfl]; by_cases he : e.Kind = 29 <;> simp [he, gd])
      | (rw [show ref27xkind 11 = some 30 from rfl]; by_cases he : e.Kind = 30 <;> simp [he, gd])
      | (rw [show ref27xkind 12 = some 31 from rfl]; by_cases he : e.Kind = 31 <;> simp [he, gd])
      | (rw [show ref27xkind 13 = some 32 from rfl]; by_cases he : e.Kind = 32 <;> simp [he, gd])
      | (rw [show ref27xkind 14 = some 35 from rfl]; by_cases he : e.Kind = 35 <;> simp [he, gd])

theorem compare_eq {l : List ApiCommand} {es : List ApiEvent} (hl : l.length ≤ 1000000) (he : es.length ≤ 1000000) : ∃ x, diverge_Compare l es = some x ∧ ref27xCompare l es = some x := by
  have key : ∀ s : Int, (∃ i : Nat, s = (i : Int) ∧ i ≤ max l.length es.length) → ∃ r, loopO (diverge_Compare_l1 l es) s = some r ∧ loopO (ref27xCompare_l1 l es) s = some r := by
    intro s
    induction hn : (max l.length es.length) - s.toNat using Nat.strongRecOn generalizing s with
    | _ n ih =>
      rintro ⟨i, rfl, hi⟩
      by_cases h : i < max l.length es.length
      · have e1 : decide ((i : Int) < (if ((es).length : Int) > ((l).length : Int) then ((es).length : Int) else ((l).length : Int))) = true := by simp; split <;> omega
        have e2 : (cond (decide ((i : Int) < ((l).length : Int))) true (decide ((i : Int) < ((es).length : Int)))) = true := by
          by_cases h1 : i < l.length
          · simp [h1]
          · have : i < es.length := by omega
            simp [this]
        by_cases h3 : i < l.length ∧ i < es.length
        · have e3 : (cond (decide (((l).length : Int) ≤ (i : Int))) true (decide (((es).length : Int) ≤ (i : Int)))) = false := by
            have h4 : ¬ l.length ≤ i := by omega
            have h5 : ¬ es.length ≤ i := by omega
            simp [h4, h5]
          obtain ⟨b, hb1, hb2⟩ := match_eq l[i] es[i]
          have s1 : diverge_Compare_l1 l es (i : Int) = some (cond (!b) (Step.out (Fl.done (i : Int))) (Step.next (IntKind.i64.wrap ((i : Int) + 1)))) := by
            unfold diverge_Compare_l1
            rw [e1, e3]
            simp only [cond_true, beq_self_eq_true, gd, if_true, cond_false, idx_nat, List.getElem?_eq_getElem h3.1, List.getElem?_eq_getElem h3.2, Option.bind_some, hb1]
            cases b <;> rfl
          have s2 : ref27xCompare_l1 l es (i : Int) = some (cond (!b) (Step.out (Fl.done (i : Int))) (Step.next (IntKind.i64.wrap ((i : Int) + 1)))) := by
            unfold ref27xCompare_l1
            rw [e2, e3]
            simp only [cond_true, beq_self_eq_true, gd, if_true, cond_false, idx_nat, List.getElem?_eq_getElem h3.1, List.getElem?_eq_getElem h3.2, Option.bind_some, hb2]
            cases b <;> rfl
          cases b
          · exact ⟨_, loop_out s1, loop_out s2⟩
          · rw [loop_next s1, loop_next s2, w64 (by omega) (by omega)]
            exact ih _ (by omega) ((i : Int) + 1) rfl ⟨i + 1, by omega, by omega⟩
        · have e3 : (cond (decide (((l).length : Int) ≤ (i : Int))) true (decide (((es).length : Int) ≤ (i : Int)))) = true := by
            by_cases h4 : l.length ≤ i
            · simp [h4]
            · have : es.length ≤ i := by omega
              simp [this]
          have s1 : diverge_Compare_l1 l es (i : Int) = some (Step.out (Fl.done (i : Int))) := by
            unfold diverge_Compare_l1
            rw [e1, e3]; rfl
          have s2 : ref27xCompare_l1 l es (i : Int) = some (Step.out (Fl.done (i : Int))) := by
            unfold ref27xCompare_l1
            rw [e2, e3]; rfl
          exact ⟨_, loop_out s1, loop_out s2⟩
      · have e1 : decide ((i : Int) < (if ((es).length : Int) > ((l).length : Int) then ((es).length : Int) else ((l).length : Int))) = false := by simp; split <;> omega
        have e2 : (cond (decide ((i : Int) < ((l).length : Int))) true (decide ((i : Int) < ((es).length : Int)))) = false := by
          have h1 : ¬ i < l.length := by omega
          have h2 : ¬ i < es.length := by omega
          simp [h1, h2]
        have s1 : diverge_Compare_l1 l es (i : Int) = some (Step.out (Fl.go ())) := by
          unfold diverge_Compare_l1
          rw [e1]; rfl
        have s2 : ref27xCompare_l1 l es (i : Int) = some (Step.out (Fl.go ())) := by
          unfold ref27xCompare_l1
          rw [e2]; rfl
        exact ⟨_, loop_out s1, loop_out s2⟩
  obtain ⟨r, h1, h2⟩ := key 0 ⟨0, rfl, by omega⟩
  unfold diverge_Compare ref27xCompare
  rw [h1, h2]
  cases r with
  | done t => exact ⟨_, rfl, rfl⟩
  | go j => exact ⟨_, rfl, rfl⟩

theorem works27 : law27xworks = some true := by
  have hM : ∀ c e b, ref27xMatch c e = some b → diverge_Match c e = some b := fun c e b h => by
    obtain ⟨x, h1, h2⟩ := match_eq c e
    rw [h] at h2; cases h2; exact h1
  have hC : ∀ l es x, l.length ≤ 2 → es.length ≤ 2 → ref27xCompare l es = some x → diverge_Compare l es = some x := fun l es x h1 h2 h => by
    obtain ⟨y, h3, h4⟩ := compare_eq (l := l) (es := es) (by omega) (by omega)
    rw [h] at h4; cases h4; exact h3
  have hr1 : ∀ c e b, ref27xMatch c e = some b → ref27xCompare [c] [e] = some (if b then -1 else 0) := fun c e b h => by
    unfold ref27xCompare
    have s0 : ref27xCompare_l1 [c] [e] 0 = some (cond (!b) (Step.out (Fl.done 0)) (Step.next 1)) := by
      unfold ref27xCompare_l1
      simp [gd, idx, h]
      cases b <;> rfl
    have s1 : ref27xCompare_l1 [c] [e] 1 = some (Step.out (Fl.go ())) := by
      unfold ref27xCompare_l1; simp
    cases b
    · rw [loop_out s0]; rfl
    · rw [loop_next s0, loop_out s1]; rfl
  have hr2 : ∀ c e, ref27xMatch c e = some true → ref27xCompare [c, c] [e] = some 1 := fun c e h => by
    unfold ref27xCompare
    have s0 : ref27xCompare_l1 [c, c] [e] 0 = some (Step.next 1) := by
      unfold ref27xCompare_l1
      simp [gd, idx, h]
      rfl
    have s1 : ref27xCompare_l1 [c, c] [e] 1 = some (Step.out (Fl.done 1)) := by
      unfold ref27xCompare_l1; simp [gd, idx]
    rw [loop_next s0, loop_out s1]; rfl
  unfold law27xworks
  rw [hM _ _ true (by kernel_rfl), Option.bind_some, cond_true, hM _ _ false (by kernel_rfl), Option.bind_some, Bool.not_false, cond_true, hC _ _ 1 (by decide) (by decide) (hr2 _ _ (by kernel_rfl)), Option.bind_some]
  simp only [decide_true, cond_true]
  rw [hC _ _ (-1) (by decide) (by decide) (hr1 _ _ true (by kernel_rfl)), Option.bind_some]
  simp only [decide_true, cond_true]
  have hm : ∀ e : ApiEvent, e.Kind = 18 → e.N = 0 → ∃ p, diverge_Markers [e] = some [p] := fun e h1 h2 => by
    unfold diverge_Markers
    have s0 : diverge_Markers_l1 [e] ([], 0) = some (Step.next ([ApiPatch.mk 0 e.Name e.N (ApiValue.mk 0 0 [] [] [])], 1)) := by
      unfold diverge_Markers_l1
      simp [idx, h1, h2, app]
      rfl
    have s1 : ∀ p, diverge_Markers_l1 [e] ([p], 1) = some (Step.out [p]) := fun p => by
      unfold diverge_Markers_l1; simp
    exact ⟨_, by rw [loop_next s0, loop_out (s1 _)]; rfl⟩
  obtain ⟨p, hp⟩ := hm (ApiEvent.mk 0 18 0 0 0 0 0 [] [] ⟨0, 0, [], [], []⟩ ⟨[], 0, 0, 0, 0, 0, 0, 0, 0, []⟩) rfl rfl
  rw [hp]; rfl
end Go.Proofs.Ytnhchphmmdgphaa
