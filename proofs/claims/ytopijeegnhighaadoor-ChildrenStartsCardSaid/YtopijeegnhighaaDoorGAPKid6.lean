/- ChildrenStarts: the plain law. -/
import Derived.Test.YtopijeegnhighaaDoorGAPKid5
import Derived.Test.YtopijeegnhighaaDoorGAF1
import Derived.Test.YtopijeegnhighaaDoorGAF2
import Derived.Test.YtopijeegnhighaaDoorGAF3
namespace Go.Proofs.YtopijeegnhighaaDoor
open Go Abs
set_option linter.unusedSimpArgs false
set_option linter.unusedVariables false
theorem refKid_eq {p : ApiPending} {n : Int} (h : p.Kids.length ≤ 50) : ref25xKid p n = some (kidS p.Kids n) := by
  unfold ref25xKid kidS
  rw [loop_first (l := p.Kids) (fun k : ApiKid => decide (k.Seq = n)) (fun _ k => (k, true)) (fun i hi => ?_) ?_, Option.bind_some]
  · cases hf : firstF (fun k : ApiKid => decide (k.Seq = n)) p.Kids 0 with
    | none => rfl
    | some x => rfl
  · unfold ref25xKid_l1
    rw [cond_d, if_neg (by omega)]
  · unfold ref25xKid_l1
    rw [cond_d, if_pos (by omega), idx_ok hi, Option.bind_some, Option.bind_some, w64s hi (by omega)]
    cases decide (p.Kids[i].Seq = n) <;> rfl
theorem child_both {r : ApiRun} {t : ApiTask} (ok : okR r) (h : r.History.length ≤ 100) : ∃ k e k' e' b, children_childOf r t = some (k, e, b) ∧ ref45xchild r t = some (k', e', b) ∧ (b = true → k' = k ∧ e' = e ∧ e ∈ r.History) := by
  unfold children_childOf ref45xchild
  rw [Kid_eq ok.kl, refKid_eq ok.kl, Option.bind_some, Option.bind_some, refclosed_eq, closed_eq ok.hist, opening_eq]
  by_cases hc : (cond (cond (!(kidS r.Pending.Kids t.Seq).2) true (!decide (t.Kind = (3 : Int)))) true (!decide ((kidS r.Pending.Kids t.Seq).1.Run = []))) = true
  · rw [hc]
    simp only [cond_true]
    exact ⟨_, _, _, _, _, rfl, rfl, fun hh => by cases hh⟩
  · rw [Bool.not_eq_true] at hc
    rw [hc]
    obtain ⟨e, b, h1, h2⟩ := opened_ex (r := r) (id := (kidS r.Pending.Kids t.Seq).1.Event) (kind := 19) h
    rw [cond_false, h1, Option.bind_some]
    simp only [beq_self_eq_true, gd, if_true, Option.bind_some, cond_false]
    by_cases h3 : (cond (closedS r) (!decide ((kidS r.Pending.Kids t.Seq).1.Policy = (0 : Int))) false) = true
    · rw [h3]
      simp only [cond_true]
      cases b
      · exact ⟨_, _, _, _, _, rfl, rfl, fun hh => by cases hh⟩
      · simp only [Bool.not_true, beq_self_eq_true, if_true, Option.bind_some, cond_false, h3, cond_true]
        exact ⟨_, _, _, _, _, rfl, rfl, fun hh => by cases hh⟩
    · rw [Bool.not_eq_true] at h3
      rw [h3]
      cases b
      · exact ⟨_, _, _, _, _, rfl, rfl, fun hh => by cases hh⟩
      · simp only [Bool.not_true, beq_self_eq_true, if_true, Option.bind_some, cond_false, h3, cond_true]
        exact ⟨_, _, _, _, _, rfl, rfl, fun _ => ⟨rfl, rfl, h2 rfl⟩⟩
theorem Key_eq' : ref06xKey = name_Key := by funext a b; rfl
theorem refList_eq {l : List ApiValue} (h : okLs 80 okApiValue l) : ref02xList l = some (listV l) := by
  have := h.2.1
  unfold ref02xList
  rw [app_ok (by simp only [List.length_nil]; omega)]
  rfl
theorem Start_both {r : ApiRun} {t : ApiTask} {now : Int} (ok : okR r) (h : r.History.length ≤ 100) (ht : okI t.Seq) : ∃ q b, children_Start r t now = some (q, b) ∧ ref45xStart r t now = some (q, b) ∧ okApiValue q.Data ∧ okApiPolicy q.Opts := by
  obtain ⟨k, e, k', e', b, h1, h2, h3⟩ := child_both (t := t) ok h
  unfold children_Start ref45xStart
  rw [h1, h2, Option.bind_some, Option.bind_some]
  cases b
  · exact ⟨_, _, rfl, rfl, okV0, okP0⟩
  · obtain ⟨rfl, rfl, hm⟩ := h3 rfl
    have he := okData (ok.evs e' hm)
    have h0 : okLs 80 okApiValue [] := by simp [okLs]
    have hL : okLs 80 okApiValue [e'.Data, listV []] := ⟨by simp, by simp, fun x hx => by
      rcases List.mem_cons.1 hx with rfl | hx
      · exact he
      · rw [List.mem_singleton.1 hx]; exact okListV h0⟩
    have hL2 : value_List [e'.Data, listV []] = some (listV [e'.Data, listV []]) := by unfold value_List; rw [copies_eq hL]; rfl
    have h02 : value_List [] = some (listV []) := by unfold value_List; rw [copies_eq h0]; rfl
    have hw := ok.wf; have hi := ok.id
    unfold okS at hw hi
    have hkey : name_Key r.Workflow r.ID = some ((r.Workflow ++ [47]) ++ r.ID) := by
      unfold name_Key
      rw [cat_ok (by simp; omega), Option.bind_some, cat_ok (by simp; omega), Option.bind_some]
    simp only [Bool.not_true, cond_false]
    rw [value_Copy_eq he, Option.bind_some, h02, Option.bind_some, hL2, Option.bind_some, identifier_eq ok.id ok.wf ht, refIdentifier_eq ok.id ok.wf ht, refList_eq h0, Option.bind_some, Option.bind_some, refList_eq hL, Option.bind_some, Option.bind_some, Key_eq', hkey, Option.bind_some]
    exact ⟨_, _, rfl, rfl, okListV hL, okP0⟩
theorem Started_both {r : ApiRun} {t : ApiTask} {a : ApiReply} {now : Int} (ok : okR r) (h : r.History.length ≤ 100) : ∃ q b, children_Started r t a now = some (q, b) ∧ ref45xStarted r t a now = some (q, b) ∧ okApiValue q.Data ∧ okApiPolicy q.Opts := by
  obtain ⟨k, e, k', e', b, h1, h2, _⟩ := child_both (t := t) ok h
  unfold children_Started ref45xStarted
  rw [h1, h2, Option.bind_some, Option.bind_some]
  cases b
  · exact ⟨_, _, rfl, rfl, okV0, okP0⟩
  · simp only [Bool.not_true, cond_false]
    by_cases e1 : a.Err = 0
    · simp only [e1, decide_true, cond_true, Option.bind_some]; exact ⟨_, _, rfl, rfl, okV0, okP0⟩
    · by_cases e2 : a.Err = 9
      · simp only [e2, show ¬ (9 : Int) = 0 by decide, decide_false, cond_false, decide_true, cond_true, Option.bind_some]; exact ⟨_, _, rfl, rfl, okV0, okP0⟩
      · simp only [e1, e2, decide_false, cond_false, Option.bind_some]; exact ⟨_, _, rfl, rfl, okV0, okP0⟩
theorem ChildrenStarts_pure (r : ApiRun) (t : ApiTask) (a : ApiReply) (h : okApiRun r) (ht : okApiTask t) : law45xChildrenStarts r t a = some true := by
  unfold law45xChildrenStarts
  rw [few_iff, Option.bind_some, works45]
  by_cases hf : r.History.length ≤ 100 ∧ r.Pending.Kids.length ≤ 50 ∧ r.Pending.Sends.length ≤ 50
  · rw [decide_eq_true hf, Bool.not_true, cond_false]
    have ok := okR_of h hf.2.1
    have hts : okI t.Seq := by unfold okApiTask at ht; simp only [ht, and_self]
    obtain ⟨q, b, h1, h2, h3, h4⟩ := Start_both (t := t) (now := t.Due) ok hf.1 hts
    obtain ⟨q', b', g1, g2, g3, g4⟩ := Started_both (r := r) (t := t) (a := a) (now := t.Due) ok hf.1
    rw [h1, h2, g1, g2]
    simp only [Option.bind_some]
    rw [same_refl h3 h4, same_refl g3 g4]
    simp [gd]
  · rw [decide_eq_false hf]; rfl
end Go.Proofs.YtopijeegnhighaaDoor
