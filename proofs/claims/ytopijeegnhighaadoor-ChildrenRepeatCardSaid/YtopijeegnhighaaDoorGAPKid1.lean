/- Parents and children: what the functions share, plainly. -/
import Derived.Test.YtopijeegnhighaaDoorGAPSame
import Derived.Test.YtopijeegnhighaaDoorGAPSplit
import Derived.Test.YtopijeegnhighaaDoorGAPDig
import Derived.Test.YtopijeegnhighaaDoorGAEvMono45
import Derived.Test.YtopijeegnhighaaDoorGAF0
import Derived.Test.YtopijeegnhighaaDoorGAF1
import Derived.Test.YtopijeegnhighaaDoorGAF2
namespace Go.Proofs.YtopijeegnhighaaDoor
open Go Abs
set_option linter.unusedSimpArgs false
set_option linter.unusedVariables false

/-! ### The first one of a kind -/
/-- The first element with a property, and where it lies. -/
def firstF {α : Type} (p : α → Bool) : List α → Nat → Option (Nat × α)
  | [], _ => none
  | x :: l, k => if p x then some (k, x) else firstF p l (k + 1)
def firstR {α τ : Type} (d : Nat → α → τ) : Option (Nat × α) → Fl τ Unit
  | some (i, x) => .done (d i x)
  | none => .go ()
theorem loop_first_aux {α τ : Type} {l : List α} {p : α → Bool} {d : Nat → α → τ} {body : Int → Option (Step Int (Fl τ Unit))} (h : ∀ (i : Nat) (hi : i < l.length), body (i : Int) = some (if p l[i] then .out (.done (d i l[i])) else .next ((i + 1 : Nat) : Int)))
    (hout : body (l.length : Int) = some (.out (.go ()))) : ∀ (suf pre : List α), l = pre ++ suf → loopO body (pre.length : Int) = some (firstR d (firstF p suf pre.length)) := by
  intro suf
  induction suf with
  | nil =>
    intro pre e
    rw [List.append_nil] at e
    rw [loopO_eq, ← e, hout]; rfl
  | cons x suf ih =>
    intro pre e
    have hi : pre.length < l.length := by rw [e]; simp
    have hx : l[pre.length] = x := by simp [e]
    rw [loopO_eq, h _ hi, hx]
    cases hp : p x
    · have := ih (pre ++ [x]) (by simp [e])
      rw [List.length_append, List.length_singleton] at this
      simp only [firstF, hp, Bool.false_eq_true, if_false, Option.bind_some]
      exact this
    · simp only [firstF, hp, if_true, Option.bind_some, firstR]
theorem loop_first {α τ : Type} {l : List α} (p : α → Bool) (d : Nat → α → τ) {body : Int → Option (Step Int (Fl τ Unit))} (h : ∀ (i : Nat) (hi : i < l.length), body (i : Int) = some (if p l[i] then .out (.done (d i l[i])) else .next ((i + 1 : Nat) : Int)))
    (hout : body (l.length : Int) = some (.out (.go ()))) : loopO body (0 : Int) = some (firstR d (firstF p l 0)) := loop_first_aux h hout l [] rfl
theorem firstF_some {α : Type} {p : α → Bool} : ∀ {l : List α} {k i : Nat} {x : α}, firstF p l k = some (i, x) → k ≤ i ∧ l[i - k]? = some x ∧ p x = true
  | [], _, _, _, h => by cases h
  | y :: l, k, i, x, h => by
    unfold firstF at h
    split at h
    · rename_i hp
      cases h
      exact ⟨Nat.le_refl _, by simp, hp⟩
    · obtain ⟨h1, h2, h3⟩ := firstF_some h
      refine ⟨by omega, ?_, h3⟩
      rw [show i - k = (i - (k + 1)) + 1 by omega, List.getElem?_cons_succ]
      exact h2

/-! ### Status -/
def stK (k : Int) : Int × Bool := if k = 30 then (1, true) else if k = 31 then (2, true) else if k = 32 then (3, true) else if k = 33 then (4, true) else if k = 34 then (5, true) else if k = 35 then (6, true) else (0, false)
theorem event_Status_eq (k : Int) : event_Status k = some (stK k) := by
  unfold event_Status stK
  repeat rw [cond_d]
  repeat' split
  all_goals rfl
def statusS (l : List ApiEvent) : Int × Int := match firstF (fun e : ApiEvent => (stK e.Kind).2) l 0 with | some (i, e) => ((stK e.Kind).1, (i : Int)) | none => (0, -1)
theorem history_Status_eq {l : List ApiEvent} (h : l.length ≤ 9223372036854775807) : history_Status l = some (statusS l) := by
  unfold history_Status statusS
  rw [loop_first (l := l) (fun e : ApiEvent => (stK e.Kind).2) (fun i e => ((stK e.Kind).1, (i : Int))) (fun i hi => ?_) ?_, Option.bind_some]
  · cases firstF (fun e : ApiEvent => (stK e.Kind).2) l 0 with
    | none => rfl
    | some x => rfl
  · unfold history_Status_l1
    rw [cond_d, if_neg (by omega)]
  · unfold history_Status_l1
    rw [cond_d, if_pos (by omega), idx_ok hi, Option.bind_some, event_Status_eq, Option.bind_some, w64s hi h]
    cases (stK l[i].Kind).2 <;> rfl
theorem ref24Status_eq : ref24xStatus = history_Status := by
  funext l
  have : ref24xStatus_l1 l = history_Status_l1 l := by funext s; rfl
  unfold ref24xStatus history_Status
  rw [this]
theorem statusS_cases (l : List ApiEvent) : (statusS l = (0, -1)) ∨ ∃ (i : Nat) (e : ApiEvent) (s : Int), l[i]? = some e ∧ statusS l = (s, (i : Int)) ∧ 1 ≤ s ∧ s ≤ 6 := by
  unfold statusS
  cases h : firstF (fun e : ApiEvent => (stK e.Kind).2) l 0 with
  | none => exact .inl rfl
  | some x =>
    obtain ⟨i, e⟩ := x
    obtain ⟨_, h2, h3⟩ := firstF_some h
    refine .inr ⟨i, e, (stK e.Kind).1, h2, rfl, ?_⟩
    revert h3
    unfold stK
    repeat' split
    all_goals simp
def closedS (r : ApiRun) : Bool := !decide ((statusS r.History).1 = 0)
theorem closed_eq {r : ApiRun} (h : r.History.length ≤ 9223372036854775807) : children_closed r = some (closedS r) := by
  unfold children_closed closedS
  rw [history_Status_eq h]; rfl
theorem refclosed_eq : ref45xclosed = children_closed := by
  funext r
  unfold ref45xclosed children_closed
  rw [ref24Status_eq]

/-! ### Identifiers -/
theorem digits45F_nonneg : ∀ (n u : Nat), u < 10 ^ (n + 1) → u ≤ 9223372036854775807 → n ≤ 30 → ref45xdigitsF (n + 1) (u : Int) = some (Lib.decDigits u) := by
  intro n
  induction n with
  | zero =>
    intro u h hb _
    have hu : u < 10 := by omega
    rw [ref45xdigitsF, cond_d, if_neg (by omega), cond_d, if_pos (by omega), show (48 : Int) + (u : Int) = ((48 + u : Nat) : Int) by omega, w64 (by omega) (by omega), IntKind.wrap_u8, show (((48 + u : Nat) : Int)) % 256 = ((48 + u : Nat) : Int) by omega, byteOf_u (by omega), Option.bind_some, dec_lt hu]
  | succ n ih =>
    intro u h hb hn
    rw [ref45xdigitsF, cond_d, if_neg (by omega), cond_d]
    by_cases hu : u < 10
    · rw [if_pos (by omega), show (48 : Int) + (u : Int) = ((48 + u : Nat) : Int) by omega, w64 (by omega) (by omega), IntKind.wrap_u8, show (((48 + u : Nat) : Int)) % 256 = ((48 + u : Nat) : Int) by omega, byteOf_u (by omega), Option.bind_some, dec_lt hu]
    · have e1 : (u : Int).tdiv 10 = ((u / 10 : Nat) : Int) := by rw [Int.tdiv_eq_ediv_of_nonneg (by omega)]; omega
      have e2 : (u : Int).tmod 10 = ((u % 10 : Nat) : Int) := by rw [Int.tmod_eq_emod_of_nonneg (by omega)]; omega
      have h10 : 10 ^ (n + 1 + 1) = 10 ^ (n + 1) * 10 := Nat.pow_succ ..
      have hp : 0 < 10 ^ n := Nat.pow_pos (by omega)
      have hp2 : 10 ^ (n + 1) = 10 ^ n * 10 := Nat.pow_succ ..
      have hl := dec_len n (u / 10) (by omega)
      rw [if_neg (by omega), e1, e2, w64 (by omega) (by omega), ih (u / 10) (by omega) (by omega) (by omega), Option.bind_some, ih (u % 10) (by omega) (by omega) (by omega), Option.bind_some, dec_lt (u := u % 10) (by omega), cat_ok (by simp; omega), Option.bind_some, dec_ge hu]
theorem digits45F_eq {n : Int} (h : okI n) : ref45xdigitsF 23 n = some (Lib.itoa n) := by
  obtain ⟨h1, h2⟩ := h
  by_cases h0 : n < 0
  · obtain ⟨u, hu, rfl⟩ : ∃ u : Nat, 1 ≤ u ∧ n = -(u : Int) := ⟨(-n).toNat, by omega, by omega⟩
    rw [ref45xdigitsF, cond_d, if_pos h0, cond_d, Lib.itoa_neg u hu]
    by_cases h3 : u < 10
    · rw [if_pos (by omega), show (0 : Int) - -(u : Int) = (u : Int) by omega, w64 (by omega) (by omega), digits45F_nonneg 21 u (by omega) (by omega) (by omega), Option.bind_some, dec_lt h3, cat_ok (by simp), Option.bind_some]; rfl
    · have e1 : (-(u : Int)).tdiv 10 = -((u / 10 : Nat) : Int) := by rw [Int.neg_tdiv, Int.tdiv_eq_ediv_of_nonneg (by omega)]; omega
      have e2 : (-(u : Int)).tmod 10 = -((u % 10 : Nat) : Int) := by rw [Int.neg_tmod, Int.tmod_eq_emod_of_nonneg (by omega)]; omega
      have hl := dec_len 21 (u / 10) (by omega)
      rw [if_neg (by omega), e1, e2, w64 (x := -((u / 10 : Nat) : Int)) (by omega) (by omega), show (0 : Int) - -((u / 10 : Nat) : Int) = ((u / 10 : Nat) : Int) by omega, show (0 : Int) - -((u % 10 : Nat) : Int) = ((u % 10 : Nat) : Int) by omega, w64 (by omega) (by omega), w64 (by omega) (by omega), digits45F_nonneg 21 (u / 10) (by omega) (by omega) (by omega), Option.bind_some,
        cat_ok (by simp; omega), Option.bind_some, digits45F_nonneg 21 (u % 10) (by omega) (by omega) (by omega), Option.bind_some, dec_lt (u := u % 10) (by omega), cat_ok (by simp; omega), Option.bind_some, dec_ge h3]
      rfl
  · obtain ⟨u, rfl⟩ : ∃ u : Nat, n = (u : Int) := ⟨n.toNat, by omega⟩
    rw [digits45F_nonneg 22 u (by omega) (by omega) (by omega), Lib.itoa_nonneg]
theorem digits45_eq {n : Int} (h : okI n) : ref45xdigits n = some (Lib.itoa n) := ref45xdigits_lim (digits45F_eq h)
/-- The identifier of an operation. -/
def identS (r : ApiRun) (n : Int) : List UInt8 := ((((r.ID ++ [46]) ++ Lib.itoa n) ++ [46]) ++ r.Workflow).take 64
theorem identifier_eq {r : ApiRun} {n : Int} (h1 : okS r.ID) (h2 : okS r.Workflow) (h : okI n) : children_identifier r n = some (identS r n) := by
  unfold okS at h1 h2
  have hl := Lib.itoa_length_le n h.1 h.2
  unfold children_identifier strconv_Itoa identS
  rw [cat_ok (by simp; omega), Option.bind_some, if_pos ⟨h.1, h.2⟩, Option.bind_some, cat_ok (by simp; omega), Option.bind_some, cat_ok (by simp; omega), Option.bind_some, cat_ok (by simp; omega), Option.bind_some]
  generalize ((((r.ID ++ [46]) ++ Lib.itoa n) ++ [46]) ++ r.Workflow) = s
  by_cases h3 : (64 : Int) < s.length
  · rw [if_pos h3, slcH_ok (by omega), Option.bind_some]; rfl
  · rw [if_neg h3, slcH_ok (by omega), Option.bind_some, Int.toNat_natCast, List.take_length, List.take_of_length_le (by omega)]
theorem refIdentifier_eq {r : ApiRun} {n : Int} (h1 : okS r.ID) (h2 : okS r.Workflow) (h : okI n) : ref45xIdentifier r n = some (identS r n) := by
  unfold okS at h1 h2
  have hl := Lib.itoa_length_le n h.1 h.2
  unfold ref45xIdentifier identS
  rw [cat_ok (by simp; omega), Option.bind_some, digits45_eq h, Option.bind_some, cat_ok (by simp; omega), Option.bind_some, cat_ok (by simp; omega), Option.bind_some, cat_ok (by simp; omega), Option.bind_some]
  generalize ((((r.ID ++ [46]) ++ Lib.itoa n) ++ [46]) ++ r.Workflow) = s
  rw [cond_d]
  by_cases h3 : (64 : Int) < s.length
  · rw [if_pos h3, slcH_ok (by omega), Option.bind_some]; rfl
  · rw [if_neg h3, List.take_of_length_le (by omega)]

/-! ### Equal requests -/
theorem same_refl {q : ApiRequest} (h1 : okApiValue q.Data) (h2 : okApiPolicy q.Opts) : law45xsame q q = some true := by
  unfold law45xsame
  rw [refSame_eq h1, vsame_refl, refSamePolicy_eq h2, psame_refl]
  simp [gd]
theorem few_iff {r : ApiRun} : law45xfew r = some (decide (r.History.length ≤ 100 ∧ r.Pending.Kids.length ≤ 50 ∧ r.Pending.Sends.length ≤ 50)) := by
  unfold law45xfew
  congr 1
  rw [Bool.eq_iff_iff]
  by_cases h1 : r.History.length ≤ 100 <;> by_cases h2 : r.Pending.Kids.length ≤ 50 <;> by_cases h3 : r.Pending.Sends.length ≤ 50 <;> simp [h1, h2, h3] <;> omega
end Go.Proofs.YtopijeegnhighaaDoor
