/- The runs of a workflow identifier: the latest run, plainly. -/
import Derived.Test.YtopijeegnhighaaDoorGBPNum
import Derived.Test.YtopijeegnhighaaDoorGBPStat
import Derived.Test.YtopijeegnhighaaDoorGBF0
import Derived.Test.YtopijeegnhighaaDoorGBF2
namespace Go.Proofs.YtopijeegnhighaaDoor
open Go Abs
set_option linter.unusedSimpArgs false
set_option linter.unusedVariables false

def foldi {α σ : Type} (f : σ → Nat → α → σ) : σ → List α → Nat → σ
  | s, [], _ => s
  | s, x :: l, k => foldi f (f s k x) l (k + 1)
theorem loop_foldi_aux {α σ τ ρ : Type} {l : List α} {f : σ → Nat → α → σ} {e : σ → Nat → τ} {g : σ → ρ} {body : τ → Option (Step τ ρ)} (h : ∀ (s : σ) (i : Nat) (hi : i < l.length), body (e s i) = some (.next (e (f s i l[i]) (i + 1))))
    (hout : ∀ s, body (e s l.length) = some (.out (g s))) : ∀ (suf pre : List α) (s : σ), l = pre ++ suf → loopO body (e s pre.length) = some (g (foldi f s suf pre.length)) := by
  intro suf
  induction suf with
  | nil =>
    intro pre s eq
    rw [List.append_nil] at eq
    rw [loopO_eq, ← eq, hout]; rfl
  | cons x suf ih =>
    intro pre s eq
    have hi : pre.length < l.length := by rw [eq]; simp
    have hx : l[pre.length] = x := by simp [eq]
    have := ih (pre ++ [x]) (f s pre.length x) (by simp [eq])
    rw [List.length_append, List.length_singleton] at this
    rw [loopO_eq, h _ _ hi, hx]
    exact this
theorem loop_foldi {α σ τ ρ : Type} {l : List α} (f : σ → Nat → α → σ) (e : σ → Nat → τ) (g : σ → ρ) (s : σ) {body : τ → Option (Step τ ρ)} (h : ∀ (s : σ) (i : Nat) (hi : i < l.length), body (e s i) = some (.next (e (f s i l[i]) (i + 1))))
    (hout : ∀ s, body (e s l.length) = some (.out (g s))) : loopO body (e s 0) = some (g (foldi f s l 0)) := loop_foldi_aux h hout l [] s rfl
/-- A relation of two folds. -/
theorem foldi_rel {α σ τ : Type} {f : σ → Nat → α → σ} {f' : τ → Nat → α → τ} (R : Nat → σ → τ → Prop) : ∀ (l : List α) (k : Nat) (s : σ) (t : τ), R k s t → (∀ k s t x, x ∈ l → R k s t → R (k + 1) (f s k x) (f' t k x)) → R (k + l.length) (foldi f s l k) (foldi f' t l k)
  | [], _, _, _, h, _ => h
  | x :: l, k, s, t, h, hs => by
    have := foldi_rel R l (k + 1) (f s k x) (f' t k x) (hs k s t x (by simp) h) (fun k s t y hy => hs k s t y (by simp [hy]))
    rw [List.length_cons, show k + (l.length + 1) = k + 1 + l.length by omega]
    exact this

/-! ### Numbers -/
/-- The number of a run of a workflow, or 0. -/
def numR (w : List UInt8) (r : ApiRun) : Int := if r.Workflow = w then (if (numberS r.ID).2 = true then (numberS r.ID).1 else 0) else 0
theorem numberS_pos (s : List UInt8) : ((numberS s).2 = true ∧ 1 ≤ (numberS s).1 ∧ (numberS s).1 ≤ 9223372036854775807 ∧ runS (numberS s).1 = s) ∨ numberS s = (0, false) := by
  rcases numberS_iff s with ⟨v, h1, h2, h3, h4⟩ | ⟨_, h4⟩
  · exact .inl (by rw [h4]; exact ⟨rfl, h1, h2, h3⟩)
  · exact .inr h4
theorem refnumber_eq {r : ApiRun} {w : List UInt8} (h : r.ID.length ≤ 140737488355328) : ref44xnumber r w = some (numR w r) := by
  unfold ref44xnumber numR
  rw [refNumber_eq h, Option.bind_some]
  by_cases h1 : r.Workflow = w
  · cases h2 : (numberS r.ID).2 <;> simp [h1, h2]
  · simp [h1]
theorem numR_ok (w : List UInt8) (r : ApiRun) : 0 ≤ numR w r ∧ numR w r ≤ 9223372036854775807 ∧ (0 < numR w r ↔ (r.Workflow = w ∧ (numberS r.ID).2 = true)) ∧ (0 < numR w r → numR w r = (numberS r.ID).1) := by
  unfold numR
  rcases numberS_pos r.ID with ⟨h1, h2, h3, _⟩ | h
  · by_cases hw : r.Workflow = w
    · rw [if_pos hw, if_pos h1]; exact ⟨by omega, h3, ⟨fun _ => ⟨hw, h1⟩, fun _ => by omega⟩, fun _ => rfl⟩
    · rw [if_neg hw]; exact ⟨by omega, by omega, ⟨fun h => by omega, fun h => absurd h.1 hw⟩, fun h => by omega⟩
  · rw [h]
    by_cases hw : r.Workflow = w <;> simp [hw]

/-! ### The latest one -/
def latF (w : List UInt8) (s : Int × Int) (i : Nat) (r : ApiRun) : Int × Int := if s.2 < numR w r then ((i : Int), numR w r) else s
def latS (l : List ApiRun) (w : List UInt8) : Int × Int := foldi (latF w) (0, 0) l 0
structure okL (l : List ApiRun) : Prop where
  len : l.length ≤ 1000000
  ids : ∀ r ∈ l, r.ID.length ≤ 140737488355328
  his : ∀ r ∈ l, r.History.length ≤ 9223372036854775807
theorem refLatest_eq {l : List ApiRun} {w : List UInt8} (h : okL l) : ref44xLatest l w = some ((latS l w).1, decide (0 < (latS l w).2)) := by
  have hl : loopO (ref44xLatest_l1 l w) ((0 : Int), (0 : Int), (0 : Int)) = some (latS l w) := by
    refine loop_foldi (l := l) (latF w) (fun s i => (s.1, s.2, (i : Int))) (fun s => s) (0, 0) (fun s i hi => ?_) (fun s => ?_)
    · unfold ref44xLatest_l1 latF
      simp only
      rw [cond_d, if_pos (by omega), idx_ok hi, Option.bind_some, refnumber_eq (h.ids _ (List.getElem_mem hi)), Option.bind_some, cond_d, w64s hi (by have := h.len; omega)]
      split <;> rfl
    · unfold ref44xLatest_l1
      simp only
      rw [cond_d, if_neg (by omega)]
  unfold ref44xLatest
  rw [hl, Option.bind_some]
def latG (w : List UInt8) (s : Int × Int) (i : Nat) (r : ApiRun) : Int × Int := if (r.Workflow = w ∧ (numberS r.ID).2 = true) ∧ (s.2 < 0 ∨ s.1 < (numberS r.ID).1) then ((numberS r.ID).1, (i : Int)) else s
theorem latG_rel (l : List ApiRun) (w : List UInt8) : ((foldi (latG w) (0, -1) l 0).2 = -1 ∧ latS l w = (0, 0)) ∨ (∃ i : Nat, i < l.length ∧ (foldi (latG w) (0, -1) l 0).2 = (i : Int) ∧ (latS l w).1 = (i : Int) ∧ 0 < (latS l w).2) := by
  have := foldi_rel (f := latG w) (f' := latF w) (fun k s t => (s = (0, -1) ∧ t = (0, 0)) ∨ (∃ i : Nat, i < k ∧ s.2 = (i : Int) ∧ t.1 = (i : Int) ∧ s.1 = t.2 ∧ 0 < t.2)) l 0 (0, -1) (0, 0) (.inl ⟨rfl, rfl⟩) (fun k s t r hr h => by
    obtain ⟨n1, n2, n3, n4⟩ := numR_ok w r
    unfold latG latF
    rcases h with ⟨rfl, rfl⟩ | ⟨i, h0, h1, h2, h3, h4⟩
    · by_cases hp : 0 < numR w r
      · rw [if_pos ⟨n3.1 hp, .inl (by show (-1 : Int) < 0; omega)⟩, if_pos hp]
        exact .inr ⟨k, by omega, rfl, rfl, (n4 hp).symm, hp⟩
      · rw [if_neg (fun hh => hp (n3.2 hh.1)), if_neg hp]
        exact .inl ⟨rfl, rfl⟩
    · by_cases hp : t.2 < numR w r
      · have hp0 : 0 < numR w r := by omega
        rw [if_pos ⟨n3.1 hp0, .inr (by rw [h3, ← n4 hp0]; exact hp)⟩, if_pos hp]
        exact .inr ⟨k, by omega, rfl, rfl, (n4 hp0).symm, hp0⟩
      · rw [if_neg (fun hh => by
          have hp0 := n3.2 hh.1
          rcases hh.2 with h5 | h5
          · omega
          · rw [h3, ← n4 hp0] at h5; exact hp h5), if_neg hp]
        exact .inr ⟨i, by omega, h1, h2, h3, h4⟩)
  rw [Nat.zero_add] at this
  rcases this with ⟨h1, h2⟩ | ⟨i, h1, h2, h3, _, h5⟩
  · exact .inl ⟨by rw [h1], h2⟩
  · exact .inr ⟨i, h1, h2, h3, h5⟩
theorem Latest_eq {l : List ApiRun} {w : List UInt8} (h : okL l) : chain_Latest l w = some ((latS l w).1, decide (0 < (latS l w).2)) := by
  have hl : loopO (chain_Latest_l1 l w) ((0 : Int), (-1 : Int), (0 : Int)) = some (foldi (latG w) (0, -1) l 0).2 := by
    refine loop_foldi (l := l) (latG w) (fun s i => (s.1, s.2, (i : Int))) (fun s => s.2) (0, -1) (fun s i hi => ?_) (fun s => ?_)
    · unfold chain_Latest_l1 latG
      simp only
      rw [cond_d, if_pos (by omega), idx_ok hi, Option.bind_some, name_Number_eq (h.ids _ (List.getElem_mem hi)), Option.bind_some, w64s hi (by have := h.len; omega)]
      have hc : (cond (cond (decide (l[i].Workflow = w)) (numberS l[i].ID).2 false) (cond (decide (s.2 < 0)) true (decide (s.1 < (numberS l[i].ID).1))) false) = decide ((l[i].Workflow = w ∧ (numberS l[i].ID).2 = true) ∧ (s.2 < 0 ∨ s.1 < (numberS l[i].ID).1)) := by
        cases h2 : (numberS l[i].ID).2 <;> by_cases h1 : l[i].Workflow = w <;> by_cases h3 : s.2 < 0 <;> simp [h1, h2, h3]
      rw [hc, cond_d]
      split <;> rfl
    · unfold chain_Latest_l1
      simp only
      rw [cond_d, if_neg (by omega)]
  unfold chain_Latest
  rw [hl, Option.bind_some, cond_d]
  rcases latG_rel l w with ⟨h1, h2⟩ | ⟨i, h0, h1, h2, h3⟩
  · rw [h1, h2]; rfl
  · rw [h1, if_neg (by omega), h2, decide_eq_true h3]
theorem Find_eq : ∀ {l : List ApiRun} {w id : List UInt8}, okL l → ref44xFind l w id = chain_Find l w id := by
  intro l w id h
  have : ref44xFind_l1 l id w = chain_Find_l1 l id w := by funext s; rfl
  unfold ref44xFind chain_Find
  rw [this, refLatest_eq h, Latest_eq h]
end Go.Proofs.YtopijeegnhighaaDoor
