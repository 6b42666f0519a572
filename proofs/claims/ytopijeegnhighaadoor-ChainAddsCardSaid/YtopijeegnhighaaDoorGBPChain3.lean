/- Where a chain ends, and what the chapter decides, plainly. -/
import Derived.Test.YtopijeegnhighaaDoorGBPChain2
import Derived.Test.YtopijeegnhighaaDoorGBF0
import Derived.Test.YtopijeegnhighaaDoorGBF1
import Derived.Test.YtopijeegnhighaaDoorGBF2
import Derived.Test.YtopijeegnhighaaDoorGBF3
namespace Go.Proofs.YtopijeegnhighaaDoor
open Go Abs
set_option linter.unusedSimpArgs false
set_option linter.unusedVariables false

def EV0 : ApiEvent := ApiEvent.mk 0 0 0 0 0 0 0 [] [] (ApiValue.mk 0 0 [] [] []) (ApiPolicy.mk [] 0 0 0 0 0 0 0 0 [])
def endE (r : ApiRun) : ApiEvent := match r.History[(statusS r.History).2.toNat]? with | some e => if (statusS r.History).1 = 0 then EV0 else e | none => EV0
theorem refstatus_eq {r : ApiRun} (h : r.History.length ≤ 9223372036854775807) : ref44xstatus r = some ((statusS r.History).1, endE r) := by
  unfold ref44xstatus endE
  rw [ref24Status_eq, history_Status_eq h, Option.bind_some]
  rcases statusS_cases r.History with h0 | ⟨i, e, s, h1, h2, h3, h4⟩
  · rw [h0]
    simp only [show decide ((-1 : Int) < 0) = true from rfl, cond_true, if_true]
    cases r.History[((-1 : Int)).toNat]? <;> rfl
  · rw [h2]
    have hi : i < r.History.length := (List.getElem?_eq_some_iff.1 h1).1
    have a1 : ¬ ((i : Int) < 0) := by omega
    have a2 : ¬ ((r.History.length : Int) ≤ (i : Int)) := by omega
    have a3 : ¬ (s = 0) := by omega
    simp only [a1, a2, a3, decide_false, cond_false, Int.toNat_natCast, h1, if_false]
    rw [idx_nat, h1]; rfl
theorem started_eq : ref44xstarted = chain_begun := by funext r; rfl
theorem begun_ex (r : ApiRun) : ∃ e b, chain_begun r = some (e, b) ∧ (b = true → e ∈ r.History) := by
  unfold chain_begun
  cases hh : r.History with
  | nil => exact ⟨_, _, rfl, fun h => by cases h⟩
  | cons x l =>
    have e1 : decide (((x :: l).length : Int) = 0) = false := by simp; omega
    rw [e1]
    have e2 : idx (x :: l) (0 : Int) = some x := rfl
    rw [e2]
    simp only [gd, beq_self_eq_true, if_true, Option.bind_some, cond_false]
    by_cases hk : x.Kind = 1
    · exact ⟨x, true, by simp [hk], fun _ => by simp⟩
    · exact ⟨EV0, false, by simp [hk, EV0], fun h => by cases h⟩

/-- The latest run is one of the list, and has a number. -/
theorem lat_mem (l : List ApiRun) (w : List UInt8) : (latS l w = (0, 0)) ∨ ∃ (i : Nat) (r : ApiRun), l[i]? = some r ∧ (latS l w).1 = (i : Int) ∧ (latS l w).2 = numR w r ∧ 0 < numR w r := by
  have key : ∀ (suf pre : List ApiRun) (s : Int × Int), l = pre ++ suf → (s = (0, 0) ∨ ∃ (i : Nat) (r : ApiRun), l[i]? = some r ∧ s.1 = (i : Int) ∧ s.2 = numR w r ∧ 0 < numR w r) → (foldi (latF w) s suf pre.length = (0, 0) ∨ ∃ (i : Nat) (r : ApiRun), l[i]? = some r ∧ (foldi (latF w) s suf pre.length).1 = (i : Int) ∧ (foldi (latF w) s suf pre.length).2 = numR w r ∧ 0 < numR w r) := by
    intro suf
    induction suf with
    | nil => intro pre s _ h; exact h
    | cons x suf ih =>
      intro pre s e h
      have := ih (pre ++ [x]) (latF w s pre.length x) (by simp [e]) (by
        unfold latF
        by_cases hp : s.2 < numR w x
        · rw [if_pos hp]
          refine .inr ⟨pre.length, x, by rw [e]; simp, rfl, rfl, ?_⟩
          rcases h with rfl | ⟨_, _, _, _, h2, h3⟩
          · exact hp
          · show 0 < numR w x; omega
        · rw [if_neg hp]; exact h)
      rw [List.length_append, List.length_singleton] at this
      exact this
  exact key l [] (0, 0) rfl (.inl rfl)
theorem Decide_both {l : List ApiRun} {q : ApiRequest} (ok : okL l) : ∃ x, chain_Decide l q = some x ∧ ref44xDecide l q = some x := by
  unfold chain_Decide ref44xDecide
  rw [Latest_eq ok, refLatest_eq ok, Option.bind_some, Option.bind_some]
  rcases lat_mem l q.Workflow with h | ⟨i, r, h1, h2, h3, h4⟩
  · rw [h]; exact ⟨_, rfl, rfl⟩
  · obtain ⟨e, b, g1, _⟩ := begun_ex r
    have hr := List.mem_of_getElem? h1
    rw [h2, h3, decide_eq_true h4, started_eq]
    simp only [Bool.not_true, cond_false]
    rw [idx_nat, h1]
    simp only [Option.bind_some]
    rw [g1, history_Status_eq (ok.his r hr), refstatus_eq (ok.his r hr)]
    simp only [Option.bind_some]
    cases hb : cond b (decide (e.Key = q.ID)) false
    · by_cases s0 : (statusS r.History).1 = 0
      · simp [s0]
      · by_cases n0 : q.N = 0
        · simp [s0, n0]
        · by_cases n1 : q.N = 1
          · by_cases s1 : (statusS r.History).1 = 1 <;> simp [s0, n1, s1]
          · simp [s0, n0, n1]
    · exact ⟨_, rfl, rfl⟩
theorem Next_both {l : List ApiRun} {w : List UInt8} (ok : okL l) : ∃ x, chain_Next l w = some x ∧ ref44xNext l w = some x := by
  unfold chain_Next ref44xNext
  rw [Latest_eq ok, refLatest_eq ok, Option.bind_some, Option.bind_some]
  rcases lat_mem l w with h | ⟨i, r, h1, h2, h3, h4⟩
  · rw [h]
    simp only [show decide ((0 : Int) < 0) = false from rfl, Bool.not_false, cond_true]
    rw [name_Run_eq (by unfold okI; omega), ref06Run_eq (by unfold okI; omega)]
    exact ⟨_, rfl, rfl⟩
  · have hr := List.mem_of_getElem? h1
    obtain ⟨m1, m2, m3, m4⟩ := numR_ok w r
    rw [h2, h3, decide_eq_true h4]
    simp only [Bool.not_true, cond_false]
    rw [idx_nat, h1]
    simp only [Option.bind_some]
    rw [name_Number_eq (ok.ids r hr), refnumber_eq (ok.ids r hr)]
    simp only [Option.bind_some]
    have hw : okI (IntKind.i64.wrap (numR w r + 1)) := by unfold okI; rw [IntKind.wrap_i64]; omega
    rw [← m4 h4, name_Run_eq hw, ref06Run_eq hw]
    exact ⟨_, rfl, rfl⟩

/-! ### The end of a chain -/
theorem last_both {l : List ApiRun} {w id : List UInt8} (ok : okL l) {i0 : Nat} {r0 : ApiRun} (hr0 : l[i0]? = some r0) (hw0 : r0.Workflow = w) :
    ∃ (i : Nat) (r : ApiRun), l[i]? = some r ∧ r.Workflow = w ∧ loopO (chain_last_l1 l w) (i0 : Int) = some (.done ((i : Int), true)) ∧ loopO (ref44xfollow_l1 l w) ((i0 : Int), (0 : Int)) = some (i : Int) := by
  have hlen := ok.len
  have key : ∃ x, loopO (ref44xfollow_l1 l w) ((i0 : Int), (0 : Int)) = some x ∧ ∃ (i : Nat) (r : ApiRun), x = (i : Int) ∧ l[i]? = some r ∧ r.Workflow = w ∧ loopO (chain_last_l1 l w) (i0 : Int) = some (.done ((i : Int), true)) := by
    refine loop_ex (fun t => ∃ (i j : Nat) (r : ApiRun), t = ((i : Int), (j : Int)) ∧ l[i]? = some r ∧ r.Workflow = w ∧ j + cnt l w (numR w r) < l.length ∧ loopO (chain_last_l1 l w) (i0 : Int) = loopO (chain_last_l1 l w) (i : Int)) (fun t => l.length - t.2.toNat) _ ?_ _ ⟨i0, 0, r0, rfl, hr0, hw0, by rw [Nat.zero_add]; exact cnt_lt_len (List.mem_of_getElem? hr0), rfl⟩
    rintro _ ⟨i, j, r, rfl, h1, hw, hj, hl⟩
    have hr := List.mem_of_getElem? h1
    obtain ⟨m1, m2, m3, m4⟩ := numR_ok w r
    have hbody : chain_last_l1 l w (i : Int) = if numR w r = 0 ∨ (statusS r.History).1 ≠ 6 ∨ nextI l w (numR w r) < 0 then some (.out (.done ((i : Int), true))) else some (.next (nextI l w (numR w r))) := by
      unfold chain_last_l1
      rw [idx_nat, h1, Option.bind_some, history_Status_eq (ok.his r hr), Option.bind_some, Option.bind_some, name_Number_eq (ok.ids r hr), Option.bind_some]
      by_cases hp : 0 < numR w r
      · have hn := (m3.1 hp).2
        rw [hn]
        by_cases hs : (statusS r.History).1 = 6
        · simp only [hs, decide_true, Bool.not_true, cond_false, ne_eq, not_true, false_or]
          rw [show numberS r.ID = (numR w r, true) from Prod.ext (m4 hp).symm hn, next_eq ok (by omega) m2, Option.bind_some, cond_d]
          by_cases hx : nextI l w (numR w r) < 0
          · rw [if_pos hx, if_pos (.inr hx)]
          · rw [if_neg hx, if_neg (by omega)]
        · simp [hs]
      · have hn : (numberS r.ID).2 = false := by
          cases hb : (numberS r.ID).2
          · rfl
          · exact absurd (m3.2 ⟨hw, hb⟩) hp
        rw [hn, if_pos (.inl (by omega))]
        simp
    unfold ref44xfollow_l1
    simp only
    rw [cond_d, if_pos (by omega), idx_nat, h1, Option.bind_some, refnumber_eq (ok.ids r hr), Option.bind_some, Option.bind_some, refstatus_eq (ok.his r hr), Option.bind_some]
    have hstop : (numR w r = 0 ∨ (statusS r.History).1 ≠ 6 ∨ nextI l w (numR w r) < 0) → loopO (chain_last_l1 l w) (i0 : Int) = some (.done ((i : Int), true)) := fun hc => by
      rw [hl, loopO_eq, hbody, if_pos hc]; rfl
    by_cases c1 : numR w r = 0
    · simp only [c1, decide_true, cond_true]
      exact .inr ⟨_, rfl, i, r, rfl, h1, hw, hstop (.inl c1)⟩
    · by_cases c2 : (statusS r.History).1 = 6
      · simp only [c1, c2, decide_false, decide_true, Bool.not_true, cond_false]
        rw [refnext_eq ok (by omega) m2, Option.bind_some, cond_d]
        by_cases c3 : nextI l w (numR w r) < 0
        · rw [if_pos c3]
          exact .inr ⟨_, rfl, i, r, rfl, h1, hw, hstop (.inr (.inr c3))⟩
        · rw [if_neg c3]
          have hnx : ∃ (k : Nat) (y : ApiRun), nextI l w (numR w r) = (k : Int) ∧ l[k]? = some y ∧ numR w y = numR w r + 1 := by
            unfold nextI at c3 ⊢
            cases hf : firstF (isNext w (numR w r)) l 0 with
            | none => rw [hf] at c3; exact absurd (show (-1 : Int) < 0 by omega) c3
            | some z =>
              obtain ⟨k, y⟩ := z
              obtain ⟨_, f2, f3⟩ := firstF_some hf
              unfold isNext at f3
              rw [decide_eq_true_eq] at f3
              exact ⟨k, y, rfl, by simpa using f2, f3⟩
          obtain ⟨k, y, k1, k2, k3⟩ := hnx
          have hy := List.mem_of_getElem? k2
          have hcnt := cnt_lt hy k3
          have hyw := (numR_ok w y).2.2.1.1 (by omega)
          rw [w64 (by omega) (by omega)]
          refine .inl ⟨_, rfl, ⟨k, j + 1, y, by rw [k1]; rfl, k2, hyw.1, by rw [k3]; omega, ?_⟩, by simp only; omega⟩
          rw [hl, loopO_eq, hbody, if_neg (by omega), k1]; rfl
      · simp only [c1, c2, decide_false, Bool.not_false, cond_false, cond_true]
        exact .inr ⟨_, rfl, i, r, rfl, h1, hw, hstop (.inr (.inl c2))⟩
  obtain ⟨x, h1, i, r, rfl, h2, h3, h4⟩ := key
  exact ⟨i, r, h2, h3, h4, h1⟩
end Go.Proofs.YtopijeegnhighaaDoor
