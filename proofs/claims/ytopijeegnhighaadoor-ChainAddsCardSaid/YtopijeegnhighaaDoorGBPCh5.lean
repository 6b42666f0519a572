/- Chains told by their runs, not by where they lie. -/
import Derived.Test.YtopijeegnhighaaDoorGBPCh4
import Derived.Test.YtopijeegnhighaaDoorGBF0
import Derived.Test.YtopijeegnhighaaDoorGBF1
import Derived.Test.YtopijeegnhighaaDoorGBF2
namespace Go.Proofs.YtopijeegnhighaaDoor
open Go Abs
set_option linter.unusedSimpArgs false
set_option linter.unusedVariables false

/-- The next run of a chain. -/
def stepR (l : List ApiRun) (w : List UInt8) (r : ApiRun) : Option ApiRun := if numR w r = 0 ∨ (statusS r.History).1 ≠ 6 then none else l.find? (isNext w (numR w r))
inductive Ends (f : ApiRun → Option ApiRun) : ApiRun → ApiRun → Prop
  | stop {r : ApiRun} (h : f r = none) : Ends f r r
  | go {r s z : ApiRun} (h : f r = some s) (t : Ends f s z) : Ends f r z
theorem Ends.det {f : ApiRun → Option ApiRun} {r a b : ApiRun} (h : Ends f r a) : Ends f r b → a = b := by
  induction h with
  | stop h =>
    intro g
    cases g with
    | stop _ => rfl
    | go h' _ => rw [h] at h'; cases h'
  | go h _ ih =>
    intro g
    cases g with
    | stop h' => rw [h] at h'; cases h'
    | go h' t' => rw [h] at h'; cases h'; exact ih t'
theorem Ends.last {f : ApiRun → Option ApiRun} {r z : ApiRun} (h : Ends f r z) : f z = none := by
  induction h with
  | stop h => exact h
  | go _ _ ih => exact ih
theorem firstF_find {α : Type} (p : α → Bool) : ∀ (l : List α) (k : Nat), (firstF p l k).map (·.2) = l.find? p
  | [], _ => rfl
  | x :: l, k => by
    unfold firstF
    cases h : p x
    · rw [List.find?_cons_of_neg (by simp [h])]
      simpa using firstF_find p l (k + 1)
    · rw [List.find?_cons_of_pos h]
      rfl
theorem find_filter {α : Type} {p q : α → Bool} (h : ∀ x, p x = true → q x = true) : ∀ (l : List α), (l.filter q).find? p = l.find? p
  | [] => rfl
  | x :: l => by
    cases hq : q x
    · have hp : p x = false := by
        cases hp : p x
        · rfl
        · rw [h x hp] at hq; cases hq
      rw [List.filter_cons_of_neg (by simp [hq]), List.find?_cons_of_neg (by simp [hp])]
      exact find_filter h l
    · rw [List.filter_cons_of_pos hq]
      cases hp : p x
      · rw [List.find?_cons_of_neg (by simp [hp]), List.find?_cons_of_neg (by simp [hp])]
        exact find_filter h l
      · rw [List.find?_cons_of_pos hp, List.find?_cons_of_pos hp]
def ownW (w : List UInt8) (r : ApiRun) : Bool := decide (r.Workflow = w)
theorem stepR_own (l : List ApiRun) (w : List UInt8) : stepR (l.filter (ownW w)) w = stepR l w := by
  funext r
  unfold stepR
  split
  · rfl
  · rename_i hc
    refine find_filter (fun x hx => ?_) l
    unfold isNext at hx
    rw [decide_eq_true_eq] at hx
    have := (numR_ok w r).1
    exact decide_eq_true ((numR_ok w x).2.2.1.1 (by omega)).1
/-- The latest run. -/
def numO (w : List UInt8) : Option ApiRun → Int
  | some r => numR w r
  | none => 0
def latEF (w : List UInt8) (s : Option ApiRun) (r : ApiRun) : Option ApiRun := if numO w s < numR w r then some r else s
def latE (l : List ApiRun) (w : List UInt8) : Option ApiRun := l.foldl (latEF w) none
theorem numO_ge (w : List UInt8) (s : Option ApiRun) : 0 ≤ numO w s := by
  cases s with
  | none => exact Int.le_refl 0
  | some r => exact (numR_ok w r).1
theorem latE_own (l : List ApiRun) (w : List UInt8) : latE (l.filter (ownW w)) w = latE l w := by
  unfold latE
  rw [List.foldl_filter]
  congr 1
  funext s r
  split
  · rfl
  · rename_i h
    have hw : ¬ r.Workflow = w := by unfold ownW at h; simpa using h
    have := numO_ge w s
    have h0 : ¬ numO w s < numR w r := fun hh => hw ((numR_ok w r).2.2.1.1 (by omega)).1
    unfold latEF
    rw [if_neg h0]
theorem lat_E (l : List ApiRun) (w : List UInt8) : (latS l w = (0, 0) ∧ latE l w = none) ∨ ∃ (i : Nat) (r : ApiRun), l[i]? = some r ∧ latS l w = ((i : Int), numR w r) ∧ 0 < numR w r ∧ latE l w = some r := by
  have key : ∀ (suf pre : List ApiRun) (s : Int × Int) (t : Option ApiRun), l = pre ++ suf → ((s = (0, 0) ∧ t = none) ∨ ∃ (i : Nat) (r : ApiRun), l[i]? = some r ∧ s = ((i : Int), numR w r) ∧ 0 < numR w r ∧ t = some r) →
      ((foldi (latF w) s suf pre.length = (0, 0) ∧ suf.foldl (latEF w) t = none) ∨ ∃ (i : Nat) (r : ApiRun), l[i]? = some r ∧ foldi (latF w) s suf pre.length = ((i : Int), numR w r) ∧ 0 < numR w r ∧ suf.foldl (latEF w) t = some r) := by
    intro suf
    induction suf with
    | nil => intro pre s t _ h; exact h
    | cons x suf ih =>
      intro pre s t e h
      have hs : s.2 = numO w t := by
        rcases h with ⟨rfl, rfl⟩ | ⟨i, r, _, rfl, _, rfl⟩ <;> rfl
      have := ih (pre ++ [x]) (latF w s pre.length x) (latEF w t x) (by simp [e]) (by
        unfold latF latEF
        rw [hs]
        by_cases hp : numO w t < numR w x
        · rw [if_pos hp, if_pos hp]
          have := numO_ge w t
          exact .inr ⟨pre.length, x, by rw [e]; simp, rfl, by omega, rfl⟩
        · rw [if_neg hp, if_neg hp]; exact h)
      rw [List.length_append, List.length_singleton] at this
      exact this
  exact key l [] (0, 0) none rfl (.inl ⟨rfl, rfl⟩)
theorem lat_max (l : List ApiRun) (w : List UInt8) : ∀ r ∈ l, numR w r ≤ (latS l w).2 := by
  have key : ∀ (suf : List ApiRun) (k : Nat) (s : Int × Int), s.2 ≤ (foldi (latF w) s suf k).2 ∧ ∀ r ∈ suf, numR w r ≤ (foldi (latF w) s suf k).2 := by
    intro suf
    induction suf with
    | nil => intro k s; exact ⟨Int.le_refl _, fun r hr => by cases hr⟩
    | cons x suf ih =>
      intro k s
      obtain ⟨h1, h2⟩ := ih (k + 1) (latF w s k x)
      have h3 : s.2 ≤ (latF w s k x).2 ∧ numR w x ≤ (latF w s k x).2 := by
        unfold latF
        split
        · exact ⟨by show s.2 ≤ numR w x; omega, Int.le_refl _⟩
        · exact ⟨Int.le_refl _, by omega⟩
      refine ⟨Int.le_trans h3.1 h1, fun r hr => ?_⟩
      rcases List.mem_cons.1 hr with rfl | hr
      · exact Int.le_trans h3.2 h1
      · exact h2 r hr
  exact (key l 0 (0, 0)).2
theorem foldi_append {α σ : Type} (f : σ → Nat → α → σ) : ∀ (l m : List α) (s : σ) (k : Nat), foldi f s (l ++ m) k = foldi f (foldi f s l k) m (k + l.length)
  | [], m, s, k => rfl
  | x :: l, m, s, k => by
    rw [List.cons_append]
    unfold foldi
    rw [foldi_append f l m, List.length_cons, show k + 1 + l.length = k + (l.length + 1) by omega]
    cases l <;> cases m <;> rfl

/-! ### Finding -/
def findE (l : List ApiRun) (w id : List UInt8) : Option ApiRun := if id = [] then latE l w else l.find? fun r : ApiRun => decide (r.Workflow = w ∧ r.ID = id)
theorem findE_own (l : List ApiRun) (w id : List UInt8) : findE (l.filter (ownW w)) w id = findE l w id := by
  unfold findE
  rw [latE_own, find_filter (fun x hx => by rw [decide_eq_true_eq] at hx; exact decide_eq_true hx.1) l]
theorem Find_E {l : List ApiRun} {w id : List UInt8} (ok : okL l) : ((∃ x, chain_Find l w id = some (x, false)) ∧ findE l w id = none) ∨ ∃ (i : Nat) (r : ApiRun), chain_Find l w id = some ((i : Int), true) ∧ l[i]? = some r ∧ r.Workflow = w ∧ findE l w id = some r := by
  unfold chain_Find findE
  by_cases hi : id = []
  · rw [decide_eq_true hi, cond_true, Latest_eq ok, Option.bind_some, if_pos hi]
    rcases lat_E l w with ⟨h1, h2⟩ | ⟨i, r, h1, h2, h3, h4⟩
    · rw [h1, h2]; exact .inl ⟨⟨_, rfl⟩, rfl⟩
    · rw [h2, h4]
      simp only [h3, decide_true]
      exact .inr ⟨i, r, rfl, h1, ((numR_ok w r).2.2.1.1 h3).1, rfl⟩
  · rw [decide_eq_false hi, cond_false, if_neg hi]
    have : loopO (chain_Find_l1 l id w) (0 : Int) = some (firstR (fun i (_ : ApiRun) => ((i : Int), true)) (firstF (fun r : ApiRun => decide (r.Workflow = w ∧ r.ID = id)) l 0)) := by
      refine loop_first (l := l) (fun r : ApiRun => decide (r.Workflow = w ∧ r.ID = id)) (fun i _ => ((i : Int), true)) (fun i hi => ?_) ?_
      · unfold chain_Find_l1
        rw [cond_d, if_pos (by omega), idx_ok hi, Option.bind_some, w64s hi (by have := ok.len; omega)]
        by_cases h1 : l[i].Workflow = w <;> by_cases h2 : l[i].ID = id <;> simp [h1, h2]
      · unfold chain_Find_l1
        rw [cond_d, if_neg (by omega)]
    rw [this, Option.bind_some, ← firstF_find (fun r : ApiRun => decide (r.Workflow = w ∧ r.ID = id)) l 0]
    cases hf : firstF (fun r : ApiRun => decide (r.Workflow = w ∧ r.ID = id)) l 0 with
    | none => exact .inl ⟨⟨_, rfl⟩, rfl⟩
    | some z =>
      obtain ⟨i, r⟩ := z
      obtain ⟨_, h2, h3⟩ := firstF_some hf
      rw [decide_eq_true_eq] at h3
      exact .inr ⟨i, r, rfl, by simpa using h2, h3.1, rfl⟩

/-! ### Where a chain ends -/
theorem nextI_step {l : List ApiRun} {w : List UInt8} {r : ApiRun} (h1 : numR w r ≠ 0) (h2 : (statusS r.History).1 = 6) : (nextI l w (numR w r) < 0 ∧ stepR l w r = none) ∨ ∃ (k : Nat) (y : ApiRun), nextI l w (numR w r) = (k : Int) ∧ l[k]? = some y ∧ numR w y = numR w r + 1 ∧ stepR l w r = some y := by
  have hs : stepR l w r = l.find? (isNext w (numR w r)) := by unfold stepR; rw [if_neg (by simp [h1, h2])]
  rw [hs, ← firstF_find (isNext w (numR w r)) l 0]
  unfold nextI
  cases hf : firstF (isNext w (numR w r)) l 0 with
  | none => exact .inl ⟨by show (-1 : Int) < 0; omega, rfl⟩
  | some z =>
    obtain ⟨k, y⟩ := z
    obtain ⟨_, f2, f3⟩ := firstF_some hf
    unfold isNext at f3
    rw [decide_eq_true_eq] at f3
    exact .inr ⟨k, y, rfl, by simpa using f2, f3, rfl⟩
theorem last_ends {l : List ApiRun} {w : List UInt8} (ok : okL l) {i0 : Nat} {r0 : ApiRun} (hr0 : l[i0]? = some r0) (hw0 : r0.Workflow = w) :
    ∃ (i : Nat) (r : ApiRun), l[i]? = some r ∧ r.Workflow = w ∧ loopO (chain_last_l1 l w) (i0 : Int) = some (.done ((i : Int), true)) ∧ Ends (stepR l w) r0 r := by
  have key : ∃ x, loopO (chain_last_l1 l w) (i0 : Int) = some x ∧ ∃ (i : Nat) (r : ApiRun), x = .done ((i : Int), true) ∧ l[i]? = some r ∧ r.Workflow = w ∧ Ends (stepR l w) r0 r := by
    refine loop_ex (fun t => ∃ (i : Nat) (r : ApiRun), t = (i : Int) ∧ l[i]? = some r ∧ r.Workflow = w ∧ ∀ z, Ends (stepR l w) r z → Ends (stepR l w) r0 z) (fun t => match l[t.toNat]? with | some r => cnt l w (numR w r) | none => 0) _ ?_ _ ⟨i0, r0, rfl, hr0, hw0, fun z h => h⟩
    rintro _ ⟨i, r, rfl, h1, hw, hl⟩
    have hr := List.mem_of_getElem? h1
    obtain ⟨m1, m2, m3, m4⟩ := numR_ok w r
    unfold chain_last_l1
    rw [idx_nat, h1, Option.bind_some, history_Status_eq (ok.his r hr), Option.bind_some, Option.bind_some, name_Number_eq (ok.ids r hr), Option.bind_some]
    by_cases hp : 0 < numR w r
    · have hn := (m3.1 hp).2
      rw [hn]
      by_cases hs : (statusS r.History).1 = 6
      · simp only [hs, decide_true, Bool.not_true, cond_false]
        rw [show numberS r.ID = (numR w r, true) from Prod.ext (m4 hp).symm hn, next_eq ok (by omega) m2, Option.bind_some, cond_d]
        rcases nextI_step (l := l) (w := w) (r := r) (by omega) hs with ⟨g1, g2⟩ | ⟨k, y, g1, g2, g3, g4⟩
        · rw [if_pos g1]
          exact .inr ⟨_, rfl, i, r, rfl, h1, hw, hl _ (.stop g2)⟩
        · have hy := List.mem_of_getElem? g2
          have hcnt := cnt_lt hy g3
          rw [if_neg (by omega), g1]
          refine .inl ⟨_, rfl, ⟨k, y, rfl, g2, ((numR_ok w y).2.2.1.1 (by omega)).1, fun z hz => hl z (.go g4 hz)⟩, ?_⟩
          simp only [Int.toNat_natCast, g2, h1, g3]
          exact hcnt
      · have hst : stepR l w r = none := by unfold stepR; rw [if_pos (.inr hs)]
        simp only [hs, decide_false, Bool.not_false, cond_true]
        exact .inr ⟨_, rfl, i, r, rfl, h1, hw, hl _ (.stop hst)⟩
    · have hn : (numberS r.ID).2 = false := by
        cases hb : (numberS r.ID).2
        · rfl
        · exact absurd (m3.2 ⟨hw, hb⟩) hp
      have hst : stepR l w r = none := by unfold stepR; rw [if_pos (.inl (by omega))]
      rw [hn]
      simp only [Bool.not_false]
      refine .inr ⟨.done ((i : Int), true), ?_, i, r, rfl, h1, hw, hl _ (.stop hst)⟩
      cases (!decide ((statusS r.History).1 = 6)) <;> rfl
  obtain ⟨x, h1, i, r, rfl, h2, h3, h4⟩ := key
  exact ⟨i, r, h2, h3, h1, h4⟩
/-- What Follow answers, told by runs. -/
theorem Follow_E {l : List ApiRun} {w id : List UInt8} (ok : okL l) : (chain_Follow l w id = some ([], 0, false) ∧ findE l w id = none) ∨ ∃ r0 r : ApiRun, findE l w id = some r0 ∧ Ends (stepR l w) r0 r ∧ r ∈ l ∧ r.Workflow = w ∧ chain_Follow l w id = some (r.ID, (statusS r.History).1, true) := by
  unfold chain_Follow chain_last
  rcases Find_E (w := w) (id := id) ok with ⟨⟨x, h⟩, h2⟩ | ⟨i0, r0, h, h1, h2, h3⟩
  · rw [h]; exact .inl ⟨rfl, h2⟩
  · obtain ⟨i, r, g1, g2, g3, g4⟩ := last_ends ok h1 h2
    have hr := List.mem_of_getElem? g1
    rw [h]
    simp only [Option.bind_some, Bool.not_true, cond_false]
    rw [g3]
    refine .inr ⟨r0, r, h3, g4, hr, g2, ?_⟩
    simp only [Option.bind_some, Fl.next, Bool.not_true, cond_false]
    rw [idx_nat, g1]
    simp only [Option.bind_some]
    rw [history_Status_eq (ok.his r hr)]
    rfl

/-! ### The next identifier -/
theorem Next_val {l : List ApiRun} {w : List UInt8} (ok : okL l) : chain_Next l w = some (runS (IntKind.i64.wrap ((latS l w).2 + 1))) := by
  unfold chain_Next
  rw [Latest_eq ok, Option.bind_some]
  rcases lat_mem l w with h | ⟨i, r, h1, h2, h3, h4⟩
  · rw [h]
    simp only [show decide ((0 : Int) < 0) = false from rfl, Bool.not_false, cond_true]
    rw [name_Run_eq (by unfold okI; omega)]
    rfl
  · have hr := List.mem_of_getElem? h1
    obtain ⟨m1, m2, m3, m4⟩ := numR_ok w r
    rw [h2, h3, decide_eq_true h4]
    simp only [Bool.not_true, cond_false]
    rw [idx_nat, h1]
    simp only [Option.bind_some]
    rw [name_Number_eq (ok.ids r hr)]
    simp only [Option.bind_some]
    have hw : okI (IntKind.i64.wrap (numR w r + 1)) := by unfold okI; rw [IntKind.wrap_i64]; omega
    rw [← m4 h4, name_Run_eq hw]
    rfl
end Go.Proofs.YtopijeegnhighaaDoor
