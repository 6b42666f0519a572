/- Reports and orphans, plainly; the chapter's examples. -/
import Derived.Test.YtopijeegnhighaaDoorGAPKid1
import Derived.Test.YtopijeegnhighaaDoorGAF0
import Derived.Test.YtopijeegnhighaaDoorGAF1
namespace Go.Proofs.YtopijeegnhighaaDoor
open Go Abs
set_option linter.unusedSimpArgs false
set_option linter.unusedVariables false

def V0 : ApiValue := ApiValue.mk 0 0 [] [] []
def P0 : ApiPolicy := ApiPolicy.mk [] 0 0 0 0 0 0 0 0 []
def Q0 : ApiRequest := ApiRequest.mk 0 0 [] [] [] [] 0 0 0 0 V0 P0 [] []
theorem okV0 : okApiValue V0 := (okApiValue_iff _).2 (by simp [V0, okI, okS, okLs])
theorem okP0 : okApiPolicy P0 := by simp [P0, okApiPolicy, okI, okS, okLs]
/-- What is reported to the parent. -/
def reportS (r : ApiRun) (now : Int) : ApiRequest × Bool :=
  if (statusS r.History).1 = 0 ∨ (statusS r.History).1 = 6 ∨ (splitS r.Parent).2.2 = false then (Q0, false)
  else match r.History[(statusS r.History).2.toNat]? with
    | none => (Q0, false)
    | some e => (ApiRequest.mk 15 now (splitS r.Parent).1 (splitS r.Parent).2.1 []
        (if (statusS r.History).1 = 1 then [] else if (statusS r.History).1 = 2 then e.Name else if (statusS r.History).1 = 3 then [99, 97, 110, 99, 101, 108, 101, 100] else if (statusS r.History).1 = 4 then [116, 101, 114, 109, 105, 110, 97, 116, 101, 100] else [116, 105, 109, 101, 111, 117, 116])
        0 0 r.ParentSeq (if (statusS r.History).1 = 1 then 21 else 22) (if (statusS r.History).1 ≤ 3 then e.Data else V0) P0 [] [], true)
structure okR (r : ApiRun) : Prop where
  hist : r.History.length ≤ 9223372036854775807
  evs : ∀ e ∈ r.History, okApiEvent e
  par : okS r.Parent
  id : okS r.ID
  wf : okS r.Workflow
  kids : ∀ k ∈ r.Pending.Kids, okApiKid k
  kl : r.Pending.Kids.length ≤ 50
theorem okData {e : ApiEvent} (h : okApiEvent e) : okApiValue e.Data := h.2.2.2.2.2.2.2.2.2.1
theorem Report_cond (s : Int) (b : Bool) : (cond (cond (decide (s = 0)) true (decide (s = 6))) true (!b)) = decide (s = 0 ∨ s = 6 ∨ b = false) := by
  cases b <;> by_cases h1 : s = 0 <;> by_cases h2 : s = 6 <;> simp [h1, h2]
theorem Report_eq {r : ApiRun} {now : Int} (h : okR r) : children_Report r now = some (reportS r now) := by
  have hp : r.Parent.length ≤ 140737488355328 := by have := h.par; unfold okS at this; omega
  unfold children_Report reportS
  rw [history_Status_eq h.hist, Option.bind_some, name_Split_eq hp, Option.bind_some, Report_cond]
  by_cases hc : (statusS r.History).1 = 0 ∨ (statusS r.History).1 = 6 ∨ (splitS r.Parent).2.2 = false
  · rw [if_pos hc, decide_eq_true hc]
    rfl
  · rw [if_neg hc, decide_eq_false hc, cond_false]
    rcases statusS_cases r.History with h0 | ⟨i, e, s, h1, h2, h3, h4⟩
    · exact absurd (.inl (by rw [h0])) hc
    · have he : okApiEvent e := h.evs e (List.mem_of_getElem? h1)
      have hs6 : ¬ s = 6 := fun hh => hc (.inr (.inl (by rw [h2]; exact hh)))
      rw [h2]
      simp only [Int.toNat_natCast, h1]
      rw [idx_nat, h1, Option.bind_some, value_Copy_eq (okData he)]
      have hs : s = 1 ∨ s = 2 ∨ s = 3 ∨ s = 4 ∨ s = 5 := by omega
      have hd : ∀ v : ApiValue, ApiValue.mk v.Kind v.Int v.Text v.Items v.Keys = v := fun v => by cases v; rfl
      rcases hs with rfl | rfl | rfl | rfl | rfl <;> simp [hd, V0, P0]
/-! ### Orphans -/
def orphQ (r : ApiRun) (now : Int) (k : ApiKid) : Option ApiRequest :=
  if k.Run = [] then none else if k.Policy = 1 then some (ApiRequest.mk 4 now k.Key k.Run [] [112, 97, 114, 101, 110, 116, 32, 99, 108, 111, 115, 101, 100] 0 0 0 0 V0 P0 [] [])
  else if k.Policy = 2 then some (ApiRequest.mk 3 now k.Key k.Run (identS r k.Seq) [] 0 0 0 0 V0 P0 [] []) else none
def orphansS (r : ApiRun) (now : Int) : List ApiRequest := if closedS r = true then r.Pending.Kids.filterMap (orphQ r now) else []
theorem kidSeq {k : ApiKid} (h : okApiKid k) : okI k.Seq := h.1
theorem Orphans_eq {r : ApiRun} {now : Int} (h : okR r) : children_Orphans r now = some (orphansS r now) := by
  unfold children_Orphans orphansS
  rw [closed_eq h.hist, Option.bind_some]
  cases closedS r
  · rfl
  · have hl : loopO (children_Orphans_l1 r now) (([] : List ApiRequest), (0 : Int)) = some (r.Pending.Kids.filterMap (orphQ r now)) := by
      refine loop_fm (orphQ r now) r.Pending.Kids (fun acc i hi hacc => ?_) (fun acc => ?_)
      · unfold children_Orphans_l1
        have hk := h.kids _ (List.getElem_mem hi)
        have hkl := h.kl
        rw [cond_d, if_pos (by simp only; omega), idx_ok hi, Option.bind_some, identifier_eq h.id h.wf (kidSeq hk), w64s hi (by omega)]
        unfold orphQ
        by_cases h1 : r.Pending.Kids[i].Run = []
        · simp [h1, Fl.next]
        · by_cases h2 : r.Pending.Kids[i].Policy = 1
          · simp only [h1, h2, show ¬ (1 : Int) = 2 by decide, decide_true, decide_false, cond_true, cond_false, if_true, if_false, Option.bind_some, Fl.next]
            rw [app_ok (by simp; omega), Option.bind_some]; rfl
          · by_cases h3 : r.Pending.Kids[i].Policy = 2
            · simp only [h1, h2, h3, show ¬ (2 : Int) = 1 by decide, decide_true, decide_false, cond_true, cond_false, if_true, if_false, Option.bind_some, Fl.next]
              rw [app_ok (by simp; omega), Option.bind_some]; rfl
            · simp [h1, h2, h3, Fl.next]
      · unfold children_Orphans_l1
        rw [cond_d, if_neg (by simp only; omega)]
    rw [hl]; rfl
/-! ### The example -/
def exE1 : ApiEvent := ApiEvent.mk 1 1 0 0 0 0 0 [116] [107] V0 P0
def exE2 : ApiEvent := ApiEvent.mk 2 30 0 0 0 0 0 [] [] (ApiValue.mk 2 7 [] [] []) P0
theorem works45 : law45xworks = some true := by
  unfold law45xworks
  generalize hR : ApiRun.mk ([107, 105, 100] : List UInt8) ([114, 49] : List UInt8) ([97, 47, 114, 49] : List UInt8) (3 : Int) _ _ _ _ _ _ _ = R
  have hp : R.Parent = [97, 47, 114, 49] := by rw [← hR]
  have hh : R.History = [exE1, exE2] := by rw [← hR]; rfl
  have hk : R.Pending.Kids = [] := by rw [← hR]
  have hq : R.ParentSeq = 3 := by rw [← hR]
  have ok : okR R := {
    hist := by rw [hh]; simp
    evs := by
      rw [hh]; intro e he
      rcases List.mem_cons.1 he with rfl | he
      · exact ⟨by simp [exE1, okI], by simp [exE1, okI], by simp [exE1, okI], by simp [exE1, okI], by simp [exE1, okI], by simp [exE1, okI], by simp [exE1, okI], by simp [exE1, okS], by simp [exE1, okS], okV0, okP0⟩
      · rw [List.mem_singleton.1 he]
        exact ⟨by simp [exE2, okI], by simp [exE2, okI], by simp [exE2, okI], by simp [exE2, okI], by simp [exE2, okI], by simp [exE2, okI], by simp [exE2, okI], by simp [exE2, okS], by simp [exE2, okS], (okApiValue_iff _).2 (by simp [exE2, okI, okS, okLs]), okP0⟩
    par := by rw [hp]; simp [okS]
    id := by rw [← hR]; simp [okS]
    wf := by rw [← hR]; simp [okS]
    kids := by rw [hk]; simp
    kl := by rw [hk]; simp }
  have hs : splitS R.Parent = ([97], [114, 49], true) := by rw [hp]; exact split_one (j := 1) rfl (uniq (by decide))
  have ht : statusS R.History = (1, 1) := by rw [hh]; rfl
  have hrep : reportS R 5 = (ApiRequest.mk 15 5 [97] [114, 49] [] [] 0 0 3 21 (ApiValue.mk 2 7 [] [] []) P0 [] [], true) := by
    unfold reportS
    rw [hs, ht, hh, hq]; rfl
  have horp : orphansS R 5 = [] := by unfold orphansS; rw [hk]; split <;> rfl
  rw [Report_eq ok, hrep, Option.bind_some, Orphans_eq ok, horp]
  simp only
  rw [show (ApiRequest.mk (15 : Int) (5 : Int) ([97] : List UInt8) ([114, 49] : List UInt8) ([] : List UInt8) ([] : List UInt8) (0 : Int) (0 : Int) (3 : Int) (21 : Int) (ApiValue.mk (2 : Int) (7 : Int) ([] : List UInt8) ([] : (List ApiValue)) ([] : (List (List UInt8)))) (ApiPolicy.mk ([] : List UInt8) (0 : Int) (0 : Int) (0 : Int) (0 : Int) (0 : Int) (0 : Int) (0 : Int) (0 : Int) ([] : (List (List UInt8)))) ([] : (List ApiCommand)) ([] : List UInt8)) = ApiRequest.mk 15 5 [97] [114, 49] [] [] 0 0 3 21 (ApiValue.mk 2 7 [] [] []) P0 [] [] from rfl,
    same_refl (q := ApiRequest.mk 15 5 [97] [114, 49] [] [] 0 0 3 21 (ApiValue.mk 2 7 [] [] []) P0 [] []) ((okApiValue_iff _).2 (by simp [okI, okS, okLs])) okP0]
  simp [gd]
end Go.Proofs.YtopijeegnhighaaDoor
