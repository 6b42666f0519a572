/- ChildrenRepeat: the plain law. -/
import Derived.Test.YtopijeegnhighaaDoorGAPKid4
import Derived.Test.YtopijeegnhighaaDoorGAPIdentR
import Derived.Test.YtopijeegnhighaaDoorGAF0
import Derived.Test.YtopijeegnhighaaDoorGAF1
import Derived.Test.YtopijeegnhighaaDoorGAF2
namespace Go.Proofs.YtopijeegnhighaaDoor
open Go Abs
set_option linter.unusedSimpArgs false
set_option linter.unusedVariables false

def KK0 : ApiKid := ApiKid.mk 0 0 [] [] 0 []
def kidS (l : List ApiKid) (n : Int) : ApiKid × Bool := match firstF (fun k : ApiKid => decide (k.Seq = n)) l 0 with | some (_, k) => (k, true) | none => (KK0, false)
theorem Kid_eq {p : ApiPending} {n : Int} (h : p.Kids.length ≤ 50) : pending_Kid p n = some (kidS p.Kids n) := by
  unfold pending_Kid pending_pick_api_Kid_pending_Kid_1 pending_find_api_Kid_pending_Kid_1 kidS
  rw [loop_first (l := p.Kids) (fun k : ApiKid => decide (k.Seq = n)) (fun i _ => (i : Int)) (fun i hi => ?_) ?_, Option.bind_some]
  · cases hf : firstF (fun k : ApiKid => decide (k.Seq = n)) p.Kids 0 with
    | none => rfl
    | some x =>
      obtain ⟨i, k⟩ := x
      obtain ⟨_, h2, _⟩ := firstF_some hf
      simp only [firstR, Fl.next, Option.bind_some]
      rw [cond_d, if_pos (by omega), idx_nat]
      rw [Nat.sub_zero] at h2
      rw [h2]; rfl
  · unfold pending_find_api_Kid_pending_Kid_1_l1
    rw [cond_d, if_neg (by omega)]
  · unfold pending_find_api_Kid_pending_Kid_1_l1 pending_Kid_1
    rw [cond_d, if_pos (by omega), idx_ok hi, Option.bind_some, Option.bind_some, w64s hi (by omega)]
    cases decide (p.Kids[i].Seq = n) <;> rfl
theorem childOf_ex {r : ApiRun} {t : ApiTask} (ok : okR r) (h : r.History.length ≤ 100) : ∃ k e b, children_childOf r t = some (k, e, b) ∧ (b = true → e ∈ r.History) := by
  unfold children_childOf
  rw [Kid_eq ok.kl, Option.bind_some]
  by_cases hc : (cond (cond (!(kidS r.Pending.Kids t.Seq).2) true (!decide (t.Kind = (3 : Int)))) true (!decide ((kidS r.Pending.Kids t.Seq).1.Run = []))) = true
  · rw [hc]
    exact ⟨_, _, _, rfl, fun hh => by cases hh⟩
  · rw [Bool.not_eq_true] at hc
    rw [hc]
    obtain ⟨e, b, h1, h2⟩ := opened_ex (r := r) (id := (kidS r.Pending.Kids t.Seq).1.Event) (kind := 19) h
    rw [cond_false, h1, Option.bind_some, closed_eq ok.hist]
    cases b
    · exact ⟨_, _, _, rfl, fun hh => by cases hh⟩
    · simp only [Bool.not_true, beq_self_eq_true, gd, if_true, Option.bind_some, cond_false]
      by_cases h3 : (cond (closedS r) (!decide ((kidS r.Pending.Kids t.Seq).1.Policy = (0 : Int))) false) = true
      · rw [h3]
        exact ⟨_, _, _, rfl, fun hh => by cases hh⟩
      · rw [Bool.not_eq_true] at h3
        rw [h3]
        exact ⟨_, _, _, rfl, fun _ => h2 rfl⟩
theorem copies_eq {l : List ApiValue} (h : okLs 80 okApiValue l) : value_copies l = some l := by
  refine lim_eq (2 * hgts l + 1) fun n hn => ?_
  obtain ⟨m, rfl⟩ : ∃ m, n = m + 1 := ⟨n - 1, by omega⟩
  rw [value_copiesF]
  have hl : loopO (value_copies_l1 (value_CopyF m) l) (([] : List ApiValue), (0 : Int)) = some (l.filterMap some) := by
    refine loop_fm some l (fun acc i hi hacc => ?_) (fun acc => ?_)
    · unfold value_copies_l1
      have h80 := h.2.1
      rw [cond_d, if_pos (by simp only; omega), idx_ok hi, Option.bind_some, CopyF_eq m _ (h.2.2 _ (List.getElem_mem hi)) (by have := hgts_ge (List.getElem_mem hi); omega), Option.bind_some, app_ok (by simp; omega), Option.bind_some, w64s hi (by omega)]
      rfl
    · unfold value_copies_l1
      rw [cond_d, if_neg (by simp only; omega)]
  rw [hl, Option.bind_some, List.filterMap_some]
def listV (l : List ApiValue) : ApiValue := ApiValue.mk 4 0 [] l []
theorem okListV {l : List ApiValue} (h : okLs 80 okApiValue l) : okApiValue (listV l) := (okApiValue_iff _).2 ⟨by simp [listV, okI], by simp [listV, okI], by simp [listV, okS], h, by simp [listV, okLs]⟩
/-- A task's request, whatever the time: its identifier, and what it carries. -/
theorem Start_ex {r : ApiRun} {t : ApiTask} (ok : okR r) (h : r.History.length ≤ 100) (ht : okI t.Seq) : ∃ d i b, okApiValue d ∧ (b = true → i = identS r t.Seq) ∧ ∀ now, ∃ q, children_Start r t now = some (q, b) ∧ q.Data = d ∧ q.ID = i := by
  obtain ⟨k, e, b, h1, h2⟩ := childOf_ex (t := t) ok h
  cases b
  · refine ⟨V0, [], false, okV0, fun hh => (by cases hh), fun now => ?_⟩
    unfold children_Start
    rw [h1, Option.bind_some]
    exact ⟨_, rfl, rfl, rfl⟩
  · have he := okData (ok.evs e (h2 rfl))
    have h0 : okLs 80 okApiValue [] := by simp [okLs]
    have hL : okLs 80 okApiValue [e.Data, listV []] := ⟨by simp, by simp, fun x hx => by
      rcases List.mem_cons.1 hx with rfl | hx
      · exact he
      · rw [List.mem_singleton.1 hx]; exact okListV h0⟩
    refine ⟨listV [e.Data, listV []], identS r t.Seq, true, okListV hL, fun _ => rfl, fun now => ?_⟩
    have hw := ok.wf; have hi := ok.id
    unfold okS at hw hi
    have hL2 : value_List [e.Data, listV []] = some (listV [e.Data, listV []]) := by unfold value_List; rw [copies_eq hL]; rfl
    have h02 : value_List [] = some (listV []) := by unfold value_List; rw [copies_eq h0]; rfl
    unfold children_Start name_Key
    rw [h1, Option.bind_some]
    simp only [Bool.not_true, cond_false]
    rw [value_Copy_eq he, Option.bind_some, h02, Option.bind_some, hL2, Option.bind_some, identifier_eq ok.id ok.wf ht, Option.bind_some, cat_ok (by simp; omega), Option.bind_some, cat_ok (by simp; omega), Option.bind_some]
    exact ⟨_, rfl, rfl, rfl⟩
/-! ### Identifiers differ -/
theorem dec_dig : ∀ (u : Nat), ∀ c ∈ Lib.decDigits u, 48 ≤ c.toNat ∧ c.toNat ≤ 57 := by
  intro u
  induction u using Nat.strongRecOn with
  | _ u ih =>
    have hd : ∀ v : Nat, v < 10 → 48 ≤ (UInt8.ofNat (48 + v)).toNat ∧ (UInt8.ofNat (48 + v)).toNat ≤ 57 := fun v hv => by
      have : (UInt8.ofNat (48 + v)).toNat = 48 + v := by simp; omega
      omega
    by_cases h : u < 10
    · rw [dec_lt h]; intro c hc; rw [List.mem_singleton.1 hc]; exact hd u h
    · rw [dec_ge h]; intro c hc
      rcases List.mem_append.1 hc with hc | hc
      · exact ih (u / 10) (by omega) c hc
      · rw [List.mem_singleton.1 hc]; exact hd (u % 10) (by omega)
theorem last_dig {a b : Nat} (ha : a < 10) (hb : b < 10) (h : UInt8.ofNat (48 + a) = UInt8.ofNat (48 + b)) : a = b := by
  have h1 : (UInt8.ofNat (48 + a)).toNat = 48 + a := by simp; omega
  have h2 : (UInt8.ofNat (48 + b)).toNat = 48 + b := by simp; omega
  rw [h, h2] at h1
  omega
theorem dec_pos (u : Nat) : Lib.decDigits u ≠ [] := by
  by_cases h : u < 10
  · rw [dec_lt h]; simp
  · rw [dec_ge h]; simp
theorem dec_inj : ∀ (u v : Nat), Lib.decDigits u = Lib.decDigits v → u = v := by
  intro u
  induction u using Nat.strongRecOn with
  | _ u ih =>
    intro v h
    by_cases hu : u < 10 <;> by_cases hv : v < 10
    · rw [dec_lt hu, dec_lt hv] at h
      exact last_dig hu hv (List.cons.inj h).1
    · rw [dec_lt hu, dec_ge hv] at h
      have := congrArg List.length h
      have h0 := List.length_pos_iff.2 (dec_pos (v / 10))
      rw [List.length_append] at this; simp only [List.length_singleton] at this; omega
    · rw [dec_ge hu, dec_lt hv] at h
      have := congrArg List.length h
      have h0 := List.length_pos_iff.2 (dec_pos (u / 10))
      rw [List.length_append] at this; simp only [List.length_singleton] at this; omega
    · rw [dec_ge hu, dec_ge hv] at h
      obtain ⟨h1, h2⟩ := List.append_inj' h rfl
      have h3 := ih (u / 10) (by omega) _ h1
      have h4 := last_dig (Nat.mod_lt u (by omega)) (Nat.mod_lt v (by omega)) (List.cons.inj h2).1
      omega
/-- Two lists without a dot, each with a dot behind it: the same beginning means the same lists. -/
theorem dot_split : ∀ {a b x y : List UInt8} {n : Nat}, (∀ c ∈ a, c ≠ 46) → (∀ c ∈ b, c ≠ 46) → a.length < n → b.length < n → (a ++ 46 :: x).take n = (b ++ 46 :: y).take n → a = b
  | [], [], _, _, _, _, _, _, _, _ => rfl
  | [], d :: b, _, _, n, _, hb, _, h2, h => by
    obtain ⟨m, rfl⟩ : ∃ m, n = m + 1 := ⟨n - 1, by omega⟩
    simp only [List.nil_append, List.cons_append, List.take_succ_cons] at h
    exact absurd (List.cons.inj h).1.symm (hb d (by simp))
  | c :: a, [], _, _, n, ha, _, h1, _, h => by
    obtain ⟨m, rfl⟩ : ∃ m, n = m + 1 := ⟨n - 1, by omega⟩
    simp only [List.nil_append, List.cons_append, List.take_succ_cons] at h
    exact absurd (List.cons.inj h).1 (ha c (by simp))
  | c :: a, d :: b, x, y, n, ha, hb, h1, h2, h => by
    obtain ⟨m, rfl⟩ : ∃ m, n = m + 1 := ⟨n - 1, by omega⟩
    simp only [List.cons_append, List.take_succ_cons] at h
    obtain ⟨e1, e2⟩ := List.cons.inj h
    simp only [List.length_cons] at h1 h2
    rw [e1, dot_split (fun c hc => ha c (by simp [hc])) (fun c hc => hb c (by simp [hc])) (by omega) (by omega) e2]
theorem ident_ne {r : ApiRun} {m n : Int} (hr : r.ID.length < 20) (hm : 0 ≤ m) (hm2 : m ≤ 9223372036854775807) (hn : 0 ≤ n) (hn2 : n ≤ 9223372036854775807) (h : identS r m = identS r n) : m = n := by
  obtain ⟨u, rfl⟩ : ∃ u : Nat, m = (u : Int) := ⟨m.toNat, by omega⟩
  obtain ⟨v, rfl⟩ : ∃ v : Nat, n = (v : Int) := ⟨n.toNat, by omega⟩
  unfold identS at h
  rw [Lib.itoa_nonneg, Lib.itoa_nonneg] at h
  have hu := dec_len 18 u (by omega)
  have hv := dec_len 18 v (by omega)
  have e : ∀ d : List UInt8, (((r.ID ++ [46]) ++ d) ++ [46]) ++ r.Workflow = (r.ID ++ [46]) ++ (d ++ 46 :: r.Workflow) := fun d => by simp
  have et : ∀ z : List UInt8, ((r.ID ++ [46]) ++ z).take 64 = (r.ID ++ [46]) ++ z.take (64 - (r.ID.length + 1)) := fun z => by
    rw [List.take_append, List.take_of_length_le (by simp; omega), List.length_append, List.length_singleton]
  rw [e, e, et, et] at h
  have h2 := List.append_cancel_left h
  have hne : ∀ u : Nat, ∀ c ∈ Lib.decDigits u, c ≠ 46 := fun u c hc e => by
    have := dec_dig u c hc
    rw [e] at this
    simp at this
  have := dot_split (hne u) (hne v) (by omega) (by omega) h2
  have := dec_inj u v this
  omega
theorem ident_right {r : ApiRun} {m : Int} (h1 : iright r.Workflow = true) (h2 : iright r.ID = true) (hm : 1 ≤ m) (hm2 : m ≤ 2000) : iright (identS r m) = true := by
  obtain ⟨u, rfl⟩ : ∃ u : Nat, m = (u : Int) := ⟨m.toNat, by omega⟩
  unfold identS
  rw [Lib.itoa_nonneg]
  unfold iright at h1 h2 ⊢
  simp only [Bool.and_eq_true, decide_eq_true_eq, List.all_eq_true] at h1 h2 ⊢
  have hl : 1 ≤ ((((r.ID ++ [46]) ++ Lib.decDigits u) ++ [46]) ++ r.Workflow).length := by simp; omega
  refine ⟨⟨by rw [List.length_take]; omega, by rw [List.length_take]; omega⟩, fun c hc => ?_⟩
  have hc := List.mem_of_mem_take hc
  have hd : (!badC 46) = true := by decide
  simp only [List.mem_append, List.mem_singleton] at hc
  rcases hc with (((hc | rfl) | hc) | rfl) | hc
  · exact h2.2 c hc
  · exact hd
  · have := dec_dig u c hc
    unfold badC
    simp only [Bool.not_eq_true', Bool.or_eq_false_iff, decide_eq_false_iff_not]
    omega
  · exact hd
  · exact h1.2 c hc
