/- Policies of values: they are the same on both sides. -/
import Derived.Test.YtmnobgopfnhbnaaGPPPol
import Derived.Test.YtmnobgopfnhbnaaGPF2
import Derived.Test.YtmnobgopfnhbnaaGPF7
namespace Go.Proofs.Ytmnobgopfnhbnaa
open Go Abs
set_option linter.unusedSimpArgs false
set_option linter.unusedVariables false

abbrev zeroPol : ApiPolicy := ⟨[], 0, 0, 0, 0, 0, 0, 0, 0, []⟩
def allText (x : ApiValue) : Bool := x.Items.all fun y => decide (y.Kind = 3)
/-- What one key does to a policy. -/
def polNext (o : ApiPolicy) (k : List UInt8) (x : ApiValue) : Except Int ApiPolicy :=
  if k = nToStart then if x.Kind = 2 then .ok ⟨o.Queue, x.Int, o.ToClose, o.Total, o.Beat, o.First, o.Coef, o.Most, o.Attempts, o.Fatal⟩ else .error 12
  else if k = nToClose then if x.Kind = 2 then .ok ⟨o.Queue, o.ToStart, x.Int, o.Total, o.Beat, o.First, o.Coef, o.Most, o.Attempts, o.Fatal⟩ else .error 12
  else if k = nTotal then if x.Kind = 2 then .ok ⟨o.Queue, o.ToStart, o.ToClose, x.Int, o.Beat, o.First, o.Coef, o.Most, o.Attempts, o.Fatal⟩ else .error 12
  else if k = nBeat then if x.Kind = 2 then .ok ⟨o.Queue, o.ToStart, o.ToClose, o.Total, x.Int, o.First, o.Coef, o.Most, o.Attempts, o.Fatal⟩ else .error 12
  else if k = nFirst then if x.Kind = 2 then .ok ⟨o.Queue, o.ToStart, o.ToClose, o.Total, o.Beat, x.Int, o.Coef, o.Most, o.Attempts, o.Fatal⟩ else .error 12
  else if k = nCoef then if x.Kind = 2 then .ok ⟨o.Queue, o.ToStart, o.ToClose, o.Total, o.Beat, o.First, x.Int, o.Most, o.Attempts, o.Fatal⟩ else .error 12
  else if k = nMost then if x.Kind = 2 then .ok ⟨o.Queue, o.ToStart, o.ToClose, o.Total, o.Beat, o.First, o.Coef, x.Int, o.Attempts, o.Fatal⟩ else .error 12
  else if k = nAttempts then if x.Kind = 2 then .ok ⟨o.Queue, o.ToStart, o.ToClose, o.Total, o.Beat, o.First, o.Coef, o.Most, x.Int, o.Fatal⟩ else .error 12
  else if k = nQueue then if x.Kind = 3 then .ok ⟨x.Text, o.ToStart, o.ToClose, o.Total, o.Beat, o.First, o.Coef, o.Most, o.Attempts, o.Fatal⟩ else .error 12
  else if k = nFatal then if x.Kind = 4 ∧ allText x = true then .ok ⟨o.Queue, o.ToStart, o.ToClose, o.Total, o.Beat, o.First, o.Coef, o.Most, o.Attempts, x.Items.map (·.Text)⟩ else .error 12
  else .error 8

theorem texts_eq {x : ApiValue} (h : x.Items.length ≤ 2000000000000) : ref20xtexts x = some (if allText x = true then (x.Items.map (·.Text), decide (x.Kind = 4)) else ([], false)) := by
  unfold ref20xtexts
  rw [loop_to (body := ref20xtexts_l1 x) (fun s => ∃ i : Nat, i ≤ x.Items.length ∧ s = ((x.Items.take i).map (·.Text), (i : Int)) ∧ (x.Items.take i).all (fun y => decide (y.Kind = 3)) = true) (fun s => x.Items.length - s.2.toNat)
    (fun _ => if allText x = true then (Fl.go (x.Items.map (·.Text)) : Fl (List (List UInt8) × Bool) (List (List UInt8))) else .done ([], false)) ?_ ([], 0) ⟨0, by omega, rfl, rfl⟩, Option.bind_some]
  · by_cases h2 : allText x = true <;> simp [h2, Fl.next]
  · rintro s ⟨i, hi, rfl, ha⟩
    unfold ref20xtexts_l1
    by_cases hlt : i < x.Items.length
    · simp only
      rw [cond_d, if_pos (by omega), idx_ok hlt, Option.bind_some]
      by_cases hk : x.Items[i].Kind = 3
      · refine .inl ⟨((x.Items.take (i + 1)).map (·.Text), ((i + 1 : Nat) : Int)), ?_, ⟨i + 1, by omega, rfl, ?_⟩, by simp; omega, trivial⟩
        · simp only [hk, decide_true, Bool.not_true, cond_false]
          rw [Option.bind_some, app_ok (by simp; omega), Option.bind_some, w64s hlt (by omega), List.take_succ_eq_append_getElem hlt, List.map_append]; rfl
        · rw [List.take_succ_eq_append_getElem hlt, List.all_append, ha]; simp [hk]
      · refine .inr ?_
        have : allText x = false := by
          unfold allText
          rw [List.all_eq_false]
          exact ⟨x.Items[i], List.getElem_mem hlt, by simp [hk]⟩
        simp [hk, this]
    · obtain rfl : i = x.Items.length := by omega
      rw [List.take_length] at ha
      refine .inr ?_
      simp only
      rw [cond_d, if_neg (by omega), List.take_length]
      simp [allText, ha]
theorem l2_eq {x : ApiValue} (h : x.Items.length ≤ 2000000000000) : loopO (command_Policy_l2 x) ((0 : Int), ([] : List (List UInt8))) = some (if allText x = true then .go (x.Items.map (·.Text)) else .done (.out (.done (zeroPol, 12)))) := by
  refine loop_to (body := command_Policy_l2 x) (fun s => ∃ i : Nat, i ≤ x.Items.length ∧ s = ((i : Int), (x.Items.take i).map (·.Text)) ∧ (x.Items.take i).all (fun y => decide (y.Kind = 3)) = true) (fun s => x.Items.length - s.1.toNat)
    (fun _ => if allText x = true then (Fl.go (x.Items.map (·.Text))) else .done (.out (.done (zeroPol, 12)))) ?_ (0, []) ⟨0, by omega, rfl, rfl⟩
  rintro s ⟨i, hi, rfl, ha⟩
  unfold command_Policy_l2
  by_cases hlt : i < x.Items.length
  · simp only
    rw [cond_d, if_pos (by omega), idx_ok hlt, Option.bind_some]
    by_cases hk : x.Items[i].Kind = 3
    · refine .inl ⟨(((i + 1 : Nat) : Int), (x.Items.take (i + 1)).map (·.Text)), ?_, ⟨i + 1, by omega, rfl, ?_⟩, by simp; omega, trivial⟩
      · simp only [hk, decide_true, Bool.not_true, cond_false]
        rw [app_ok (by simp; omega), Option.bind_some, w64s hlt (by omega), List.take_succ_eq_append_getElem hlt, List.map_append]; rfl
      · rw [List.take_succ_eq_append_getElem hlt, List.all_append, ha]; simp [hk]
    · refine .inr ?_
      have : allText x = false := by
        unfold allText
        rw [List.all_eq_false]
        exact ⟨x.Items[i], List.getElem_mem hlt, by simp [hk]⟩
      simp [hk, this]
  · obtain rfl : i = x.Items.length := by omega
    rw [List.take_length] at ha
    refine .inr ?_
    simp only
    rw [cond_d, if_neg (by omega), List.take_length]
    simp [allText, ha]

theorem with_eq {o : ApiPolicy} {k : List UInt8} {x : ApiValue} (h : x.Items.length ≤ 2000000000000) : ref20xwith o k x = some (match polNext o k x with | .ok p => (p, 0) | .error e => (o, e)) := by
  unfold ref20xwith polNext
  rw [texts_eq h, numbered_eq]
  have e1 : ∀ n : List UInt8, n ∈ names8 → n ≠ nFatal ∧ n ≠ nQueue := by decide
  by_cases hF : k = nFatal
  · subst hF
    by_cases h4 : x.Kind = 4 <;> cases ha : allText x <;> simp [h4, ha]
  by_cases hQ : k = nQueue
  · subst hQ
    by_cases h3 : x.Kind = 3 <;> simp [h3]
  simp only [hF, hQ, decide_false, cond_false, if_false, Option.bind_some]
  by_cases h0 : k = nToStart
  · subst h0; by_cases h2 : x.Kind = 2 <;> simp [h2, at8]
  by_cases h1 : k = nToClose
  · subst h1; by_cases h2 : x.Kind = 2 <;> simp [h2, at8]
  by_cases h2 : k = nTotal
  · subst h2; by_cases h2 : x.Kind = 2 <;> simp [h2, at8]
  by_cases h3 : k = nBeat
  · subst h3; by_cases h2 : x.Kind = 2 <;> simp [h2, at8]
  by_cases h4 : k = nFirst
  · subst h4; by_cases h2 : x.Kind = 2 <;> simp [h2, at8]
  by_cases h5 : k = nCoef
  · subst h5; by_cases h2 : x.Kind = 2 <;> simp [h2, at8]
  by_cases h6 : k = nMost
  · subst h6; by_cases h2 : x.Kind = 2 <;> simp [h2, at8]
  by_cases h7 : k = nAttempts
  · subst h7; by_cases h2 : x.Kind = 2 <;> simp [h2, at8]
  simp [h0, h1, h2, h3, h4, h5, h6, h7, at8]

def tp (i : Int) (o : ApiPolicy) : Int × (List UInt8) × Int × Int × Int × Int × Int × Int × Int × Int × (List (List UInt8)) := (i, o.Queue, o.ToStart, o.ToClose, o.Total, o.Beat, o.First, o.Coef, o.Most, o.Attempts, o.Fatal)
theorem step_eq {v : ApiValue} {o : ApiPolicy} {i : Nat} (hi : i < v.Keys.length) (hi2 : i < v.Items.length) (hk : v.Keys.length ≤ 9223372036854775807) (h : v.Items[i].Items.length ≤ 2000000000000) (hf : v.Keys[i] = nFatal → o.Fatal = []) :
    command_Policy_l1 v (tp i o) = some (match polNext o v.Keys[i] v.Items[i] with | .ok p => .next (tp ((i + 1 : Nat) : Int) p) | .error e => .out (.done (zeroPol, e))) := by
  unfold command_Policy_l1 polNext tp
  simp only
  rw [cond_d, if_pos (by omega), idx_ok hi, Option.bind_some, idx_ok hi2, Option.bind_some, index_eq, Option.bind_some, w64s hi hk]
  generalize v.Keys[i] = k at hf ⊢
  generalize v.Items[i] = x at h ⊢
  simp only [command_numbers, command_numbers_v2, Option.bind_some]
  by_cases hF : k = nFatal
  · subst hF
    rw [hf rfl, l2_eq h]
    by_cases h4 : x.Kind = 4 <;> cases ha : allText x <;> simp [h4, ha, at8, Fl.next]
  by_cases hQ : k = nQueue
  · subst hQ
    by_cases h3 : x.Kind = 3 <;> simp [h3, at8]
  simp only [hF, hQ, decide_false, cond_false, if_false, Option.bind_some]
  by_cases h0 : k = nToStart
  · subst h0; by_cases h2 : x.Kind = 2 <;> simp [h2, at8]
  by_cases h1 : k = nToClose
  · subst h1; by_cases h2 : x.Kind = 2 <;> simp [h2, at8]
  by_cases h2 : k = nTotal
  · subst h2; by_cases h2 : x.Kind = 2 <;> simp [h2, at8]
  by_cases h3 : k = nBeat
  · subst h3; by_cases h2 : x.Kind = 2 <;> simp [h2, at8]
  by_cases h4 : k = nFirst
  · subst h4; by_cases h2 : x.Kind = 2 <;> simp [h2, at8]
  by_cases h5 : k = nCoef
  · subst h5; by_cases h2 : x.Kind = 2 <;> simp [h2, at8]
  by_cases h6 : k = nMost
  · subst h6; by_cases h2 : x.Kind = 2 <;> simp [h2, at8]
  by_cases h7 : k = nAttempts
  · subst h7; by_cases h2 : x.Kind = 2 <;> simp [h2, at8]
  simp [h0, h1, h2, h3, h4, h5, h6, h7, at8]
theorem rstep_eq {v : ApiValue} {o : ApiPolicy} {i : Nat} (hi : i < v.Keys.length) (hi2 : i < v.Items.length) (hk : v.Keys.length ≤ 9223372036854775807) (h : v.Items[i].Items.length ≤ 2000000000000) (he : ∀ e, polNext o v.Keys[i] v.Items[i] = .error e → e ≠ 0) :
    ref20xPolicy_l1 v ((i : Int), o) = some (match polNext o v.Keys[i] v.Items[i] with | .ok p => .next (((i + 1 : Nat) : Int), p) | .error e => .out (.done (zeroPol, e))) := by
  unfold ref20xPolicy_l1
  simp only
  rw [cond_d, if_pos (by omega), idx_ok hi, Option.bind_some, idx_ok hi2, Option.bind_some, with_eq h, Option.bind_some, w64s hi hk]
  cases hp : polNext o v.Keys[i] v.Items[i] with
  | ok p => simp
  | error e => simp [he e hp]
theorem polNext_err {o : ApiPolicy} {k : List UInt8} {x : ApiValue} {e : Int} (h : polNext o k x = .error e) : e ≠ 0 := by
  unfold polNext at h
  by_cases hnToStart : k = nToStart
  · rw [if_pos hnToStart] at h
    by_cases hk : x.Kind = 2
    · rw [if_pos hk] at h; cases h
    · rw [if_neg hk] at h; cases h; decide
  rw [if_neg hnToStart] at h
  by_cases hnToClose : k = nToClose
  · rw [if_pos hnToClose] at h
    by_cases hk : x.Kind = 2
    · rw [if_pos hk] at h; cases h
    · rw [if_neg hk] at h; cases h; decide
  rw [if_neg hnToClose] at h
  by_cases hnTotal : k = nTotal
  · rw [if_pos hnTotal] at h
    by_cases hk : x.Kind = 2
    · rw [if_pos hk] at h; cases h
    · rw [if_neg hk] at h; cases h; decide
  rw [if_neg hnTotal] at h
  by_cases hnBeat : k = nBeat
  · rw [if_pos hnBeat] at h
    by_cases hk : x.Kind = 2
    · rw [if_pos hk] at h; cases h
    · rw [if_neg hk] at h; cases h; decide
  rw [if_neg hnBeat] at h
  by_cases hnFirst : k = nFirst
  · rw [if_pos hnFirst] at h
    by_cases hk : x.Kind = 2
    · rw [if_pos hk] at h; cases h
    · rw [if_neg hk] at h; cases h; decide
  rw [if_neg hnFirst] at h
  by_cases hnCoef : k = nCoef
  · rw [if_pos hnCoef] at h
    by_cases hk : x.Kind = 2
    · rw [if_pos hk] at h; cases h
    · rw [if_neg hk] at h; cases h; decide
  rw [if_neg hnCoef] at h
  by_cases hnMost : k = nMost
  · rw [if_pos hnMost] at h
    by_cases hk : x.Kind = 2
    · rw [if_pos hk] at h; cases h
    · rw [if_neg hk] at h; cases h; decide
  rw [if_neg hnMost] at h
  by_cases hnAttempts : k = nAttempts
  · rw [if_pos hnAttempts] at h
    by_cases hk : x.Kind = 2
    · rw [if_pos hk] at h; cases h
    · rw [if_neg hk] at h; cases h; decide
  rw [if_neg hnAttempts] at h
  by_cases hQ : k = nQueue
  · rw [if_pos hQ] at h
    by_cases hk : x.Kind = 3
    · rw [if_pos hk] at h; cases h
    · rw [if_neg hk] at h; cases h; decide
  rw [if_neg hQ] at h
  by_cases hF : k = nFatal
  · rw [if_pos hF] at h
    by_cases hk : x.Kind = 4 ∧ allText x = true
    · rw [if_pos hk] at h; cases h
    · rw [if_neg hk] at h; cases h; decide
  rw [if_neg hF] at h
  cases h; decide
theorem polNext_ok {o p : ApiPolicy} {k : List UInt8} {x : ApiValue} (h : polNext o k x = .ok p) (ho : okApiPolicy o) (hx : okApiValue x) : okApiPolicy p ∧ (p.Fatal = o.Fatal ∨ k = nFatal) := by
  obtain ⟨q0, q1, q2, q3, q4⟩ := (okApiValue_iff x).1 hx
  obtain ⟨k0, k1, k2, k3, k4, k5, k6, k7, k8, k9⟩ := ho
  have hl : okLs 16 okS (x.Items.map (·.Text)) := by
    refine ⟨by simpa using q3.1, by have := q3.2.1; simp only [List.length_map]; omega, fun s hs => ?_⟩
    obtain ⟨y, hy, rfl⟩ := List.mem_map.1 hs
    exact ((okApiValue_iff y).1 (q3.2.2 y hy)).2.2.1
  unfold polNext at h
  by_cases hnToStart : k = nToStart
  · rw [if_pos hnToStart] at h
    by_cases hk : x.Kind = 2
    · rw [if_pos hk] at h; cases h; exact ⟨⟨k0, q1, k2, k3, k4, k5, k6, k7, k8, k9⟩, .inl rfl⟩
    · rw [if_neg hk] at h; cases h
  rw [if_neg hnToStart] at h
  by_cases hnToClose : k = nToClose
  · rw [if_pos hnToClose] at h
    by_cases hk : x.Kind = 2
    · rw [if_pos hk] at h; cases h; exact ⟨⟨k0, k1, q1, k3, k4, k5, k6, k7, k8, k9⟩, .inl rfl⟩
    · rw [if_neg hk] at h; cases h
  rw [if_neg hnToClose] at h
  by_cases hnTotal : k = nTotal
  · rw [if_pos hnTotal] at h
    by_cases hk : x.Kind = 2
    · rw [if_pos hk] at h; cases h; exact ⟨⟨k0, k1, k2, q1, k4, k5, k6, k7, k8, k9⟩, .inl rfl⟩
    · rw [if_neg hk] at h; cases h
  rw [if_neg hnTotal] at h
  by_cases hnBeat : k = nBeat
  · rw [if_pos hnBeat] at h
    by_cases hk : x.Kind = 2
    · rw [if_pos hk] at h; cases h; exact ⟨⟨k0, k1, k2, k3, q1, k5, k6, k7, k8, k9⟩, .inl rfl⟩
    · rw [if_neg hk] at h; cases h
  rw [if_neg hnBeat] at h
  by_cases hnFirst : k = nFirst
  · rw [if_pos hnFirst] at h
    by_cases hk : x.Kind = 2
    · rw [if_pos hk] at h; cases h; exact ⟨⟨k0, k1, k2, k3, k4, q1, k6, k7, k8, k9⟩, .inl rfl⟩
    · rw [if_neg hk] at h; cases h
  rw [if_neg hnFirst] at h
  by_cases hnCoef : k = nCoef
  · rw [if_pos hnCoef] at h
    by_cases hk : x.Kind = 2
    · rw [if_pos hk] at h; cases h; exact ⟨⟨k0, k1, k2, k3, k4, k5, q1, k7, k8, k9⟩, .inl rfl⟩
    · rw [if_neg hk] at h; cases h
  rw [if_neg hnCoef] at h
  by_cases hnMost : k = nMost
  · rw [if_pos hnMost] at h
    by_cases hk : x.Kind = 2
    · rw [if_pos hk] at h; cases h; exact ⟨⟨k0, k1, k2, k3, k4, k5, k6, q1, k8, k9⟩, .inl rfl⟩
    · rw [if_neg hk] at h; cases h
  rw [if_neg hnMost] at h
  by_cases hnAttempts : k = nAttempts
  · rw [if_pos hnAttempts] at h
    by_cases hk : x.Kind = 2
    · rw [if_pos hk] at h; cases h; exact ⟨⟨k0, k1, k2, k3, k4, k5, k6, k7, q1, k9⟩, .inl rfl⟩
    · rw [if_neg hk] at h; cases h
  rw [if_neg hnAttempts] at h
  by_cases hQ : k = nQueue
  · rw [if_pos hQ] at h
    by_cases hk : x.Kind = 3
    · rw [if_pos hk] at h; cases h; exact ⟨⟨q2, k1, k2, k3, k4, k5, k6, k7, k8, k9⟩, .inl rfl⟩
    · rw [if_neg hk] at h; cases h
  rw [if_neg hQ] at h
  by_cases hF : k = nFatal
  · rw [if_pos hF] at h
    by_cases hk : x.Kind = 4 ∧ allText x = true
    · rw [if_pos hk] at h; cases h; exact ⟨⟨k0, k1, k2, k3, k4, k5, k6, k7, k8, hl⟩, .inr hF⟩
    · rw [if_neg hk] at h; cases h
  rw [if_neg hF] at h
  cases h

theorem Policy_both {v : ApiValue} (hv : okApiValue v) : ∃ o e, command_Policy v = some (o, e) ∧ ref20xPolicy v = some (o, e) ∧ okApiPolicy o ∧ (e = 0 → pright o = true) := by
  obtain ⟨q0, q1, q2, q3, q4⟩ := (okApiValue_iff v).1 hv
  have okz : okApiPolicy zeroPol := by simp [okApiPolicy, okI, okS, okLs]
  unfold command_Policy ref20xPolicy
  rw [value_Right_eq hv, refRight02_eq hv]
  by_cases h5 : v.Kind = 5
  · cases hr : vright v
    · exact ⟨zeroPol, 12, by simp [h5, gd], by simp [h5], okz, fun h => by cases h⟩
    · simp only [h5, decide_true, Bool.not_true, Option.bind_some, cond_false, beq_self_eq_true, gd, if_true]
      have hfm : floc false v = true := by
        unfold vright at hr
        rw [fmd_eq, Bool.and_eq_true, Bool.and_eq_true] at hr
        exact hr.2.1
      simp only [floc, h5, Int.reduceEq, if_true, if_false, Bool.and_eq_true, decide_eq_true_eq] at hfm
      have hlen := hfm.1.2
      have hrise := hfm.2
      let R : (Int × (List UInt8) × Int × Int × Int × Int × Int × Int × Int × Int × (List (List UInt8))) → (Int × ApiPolicy) → Prop := fun s t => ∃ (i : Nat) (o : ApiPolicy), s = tp i o ∧ t = ((i : Int), o) ∧ i ≤ v.Keys.length ∧ okApiPolicy o ∧ (o.Fatal = [] ∨ ∃ j, ∃ hj : j < v.Keys.length, j < i ∧ v.Keys[j] = nFatal)
      let Q : Fl (ApiPolicy × Int) ((List UInt8) × Int × Int × Int × Int × Int × Int × Int × Int × (List (List UInt8))) → Fl (ApiPolicy × Int) ApiPolicy → Prop := fun X Y => (∃ e, X = .done (zeroPol, e) ∧ Y = .done (zeroPol, e) ∧ e ≠ 0) ∨ ∃ o, X = .go (tp 0 o).2 ∧ Y = .go o ∧ okApiPolicy o
      obtain ⟨X, Y, g1, g2, g3⟩ := loop_two (b1 := command_Policy_l1 v) (b2 := ref20xPolicy_l1 v) R (fun s => v.Keys.length - s.1.toNat) Q (by
        rintro s t ⟨i, o, rfl, rfl, hi, ho, hf⟩
        by_cases hlt : i < v.Keys.length
        · have hi2 : i < v.Items.length := by omega
          have hx := q3.2.2 _ (List.getElem_mem hi2)
          have hxl : v.Items[i].Items.length ≤ 2000000000000 := by
            have := ((okApiValue_iff _).1 hx).2.2.2.1.2.1
            omega
          have hff : v.Keys[i] = nFatal → o.Fatal = [] := fun hk => by
            rcases hf with hf | ⟨j, hj, hji, hkj⟩
            · exact hf
            · exact absurd (hkj.trans hk.symm) (rise_ne q4.1 hrise hji hlt)
          rw [step_eq hlt hi2 q4.1 hxl hff]
          have hrs := rstep_eq (o := o) hlt hi2 q4.1 hxl (fun e he => polNext_err he)
          cases hp : polNext o v.Keys[i] v.Items[i] with
          | ok p =>
            rw [hp] at hrs
            obtain ⟨p1, p2⟩ := polNext_ok hp ho hx
            refine .inl ⟨_, _, rfl, hrs, ⟨i + 1, p, rfl, rfl, by omega, p1, ?_⟩, by simp [tp]; omega⟩
            rcases p2 with p2 | p2
            · rcases hf with hf | ⟨j, hj, hji, hkj⟩
              · exact .inl (by rw [p2, hf])
              · exact .inr ⟨j, hj, by omega, hkj⟩
            · exact .inr ⟨i, hlt, by omega, p2⟩
          | error e =>
            rw [hp] at hrs
            exact .inr ⟨_, _, rfl, loop_out hrs, .inl ⟨e, rfl, rfl, polNext_err hp⟩⟩
        · refine .inr ⟨.go (tp 0 o).2, .go o, ?_, loop_out ?_, .inr ⟨o, rfl, rfl, ho⟩⟩
          · unfold command_Policy_l1 tp
            simp only
            rw [cond_d, if_neg (by omega)]
          · unfold ref20xPolicy_l1
            simp only
            rw [cond_d, if_neg (by omega)]) (tp 0 zeroPol) (0, zeroPol) ⟨0, zeroPol, rfl, rfl, by omega, okz, .inl rfl⟩
      have g1' : loopO (command_Policy_l1 v) ((0 : Int), ([] : List UInt8), (0 : Int), (0 : Int), (0 : Int), (0 : Int), (0 : Int), (0 : Int), (0 : Int), (0 : Int), ([] : (List (List UInt8)))) = some X := g1
      rw [g1', g2]
      rcases g3 with ⟨e, rfl, rfl, he⟩ | ⟨o, rfl, rfl, ho⟩
      · exact ⟨zeroPol, e, rfl, rfl, okz, fun h => absurd h he⟩
      · simp only [Option.bind_some, Fl.next, tp]
        rw [RightPolicy_eq (o := ⟨o.Queue, o.ToStart, o.ToClose, o.Total, o.Beat, o.First, o.Coef, o.Most, o.Attempts, o.Fatal⟩) ho, refRightPolicy_eq ho]
        cases hp : pright o
        · exact ⟨zeroPol, 2, by simp [hp], by simp, okz, fun h => by cases h⟩
        · exact ⟨o, 0, by simp [hp], by simp, ho, fun _ => hp⟩
  · exact ⟨zeroPol, 12, by cases vright v <;> simp [h5, gd], by cases vright v <;> simp [h5], okz, fun h => by cases h⟩
end Go.Proofs.Ytmnobgopfnhbnaa
