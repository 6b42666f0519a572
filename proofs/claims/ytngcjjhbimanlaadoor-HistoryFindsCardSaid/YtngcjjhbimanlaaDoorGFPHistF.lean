/- HistoryFinds: the plain law. -/
import Derived.Test.YtngcjjhbimanlaaDoorGFPStat
import Derived.Test.YtngcjjhbimanlaaDoorGFEvW24
import Derived.Test.YtngcjjhbimanlaaDoorGFSh
import Derived.Test.YtngcjjhbimanlaaDoorGFF5
namespace Go.Proofs.YtngcjjhbimanlaaDoor
open Go Abs
set_option linter.unusedSimpArgs false
set_option linter.unusedVariables false
def isAt (k q : Int) (e : ApiEvent) : Bool := decide (e.Kind = k) && decide (e.Seq = q)
def findS (l : List ApiEvent) (k q : Int) : Int × Bool := match firstF (isAt k q) l 0 with | some (i, e) => ((i : Int), true) | none => (0, false)
theorem Find_eq {l : List ApiEvent} (hn : l.length ≤ 9223372036854775807) (k q : Int) : history_Find l k q = some (findS l k q) := by
  unfold history_Find slices_IndexFunc_api_Event_api_Event_history_Find_1
  rw [loop_first (l := l) (isAt k q) (fun i _ => (i : Int)) (fun i hi => ?_) ?_]
  · unfold findS
    cases firstF (isAt k q) l 0 with
    | none => rfl
    | some x =>
      obtain ⟨i, e⟩ := x
      simp only [firstR, Fl.next, Option.bind_some]
      rw [if_neg (by omega), decide_eq_true (by omega : (0 : Int) ≤ (i : Int))]
  · unfold slices_IndexFunc_api_Event_api_Event_history_Find_1_l1
    rw [cond_d, if_neg (by omega)]
  · unfold slices_IndexFunc_api_Event_api_Event_history_Find_1_l1 history_Find_1 isAt
    rw [cond_d, if_pos (by omega), idx_ok hi, Option.bind_some, Option.bind_some, w64s hi hn, Bool.cond_false_right]
    cases decide (l[i].Kind = k) && decide (l[i].Seq = q) <;> rfl
theorem refFind_eq {l : List ApiEvent} (hn : l.length ≤ 9223372036854775807) (k q : Int) : ref24xFind l k q = some (findS l k q) := by
  unfold ref24xFind
  rw [loop_first (l := l) (isAt k q) (fun i _ => ((i : Int), true)) (fun i hi => ?_) ?_]
  · unfold findS
    cases firstF (isAt k q) l 0 with
    | none => rfl
    | some x => rfl
  · unfold ref24xFind_l1
    rw [cond_d, if_neg (by omega)]
  · unfold ref24xFind_l1 isAt
    rw [cond_d, if_pos (by omega), idx_ok hi, Option.bind_some, w64s hi hn]
    cases decide (l[i].Kind = k)
    · rfl
    · simp only [beq_self_eq_true, gd, if_true, Option.bind_some, cond_true, Bool.true_and]
      cases decide (l[i].Seq = q) <;> rfl
def sigK (e : ApiEvent) : Option (List UInt8) := if e.Kind = 17 then some e.Key else none
theorem Signals_eq {l : List ApiEvent} (hn : l.length * 16 ≤ 140737488355328) : history_Signals l = some (l.filterMap sigK) := by
  unfold history_Signals
  rw [loop_fm sigK l (fun acc i hi ha => ?_) (fun acc => ?_)]
  · rfl
  · unfold history_Signals_l1 sigK
    rw [cond_d, if_pos (by simp only; omega), idx_ok hi, Option.bind_some, w64s hi (by omega), cond_d]
    by_cases h : l[i].Kind = 17
    · rw [if_pos h, if_pos h, app_ok (by simp only [List.length_singleton]; omega)]; rfl
    · rw [if_neg h, if_neg h]; simp
  · unfold history_Signals_l1
    rw [cond_d, if_neg (by simp only; omega)]
theorem refSignals_eq {l : List ApiEvent} (hn : l.length * 16 ≤ 140737488355328) : ref24xSignals l = some (l.filterMap sigK) := by
  unfold ref24xSignals
  rw [loop_fm sigK l (fun acc i hi ha => ?_) (fun acc => ?_)]
  · rfl
  · unfold ref24xSignals_l1 sigK
    rw [cond_d, if_pos (by simp only; omega), idx_ok hi, Option.bind_some, w64s hi (by omega), cond_d]
    by_cases h : l[i].Kind = 17
    · rw [if_pos h, if_pos h, Option.bind_some, app_ok (by simp only [List.length_singleton]; omega)]; rfl
    · rw [if_neg h, if_neg h]; simp
  · unfold ref24xSignals_l1
    rw [cond_d, if_neg (by simp only; omega)]
theorem HistoryFinds_pure (l : List ApiEvent) (k q : Int) (hl : okLs 272 okApiEvent l) : law24xHistoryFinds l k q = some true := by
  unfold law24xHistoryFinds
  rw [works24]
  by_cases h : (200 : Int) < (l.length : Int)
  · simp [h]
  · have hn : l.length ≤ 200 := by omega
    rw [Find_eq (by omega), refFind_eq (by omega), ref24Status_eq, history_Status_eq (by omega), Signals_eq (by omega), refSignals_eq (by omega)]
    simp only [h, decide_false, cond_false, Option.bind_some, decide_true, Bool.not_true, beq_self_eq_true]
    have hs : (l.filterMap sigK).length ≤ 200 := Nat.le_trans (List.length_filterMap_le ..) hn
    rw [loop_look (l.filterMap sigK).length (.go () : Fl Bool Unit) (fun i hi => ?_) ?_]
    · rfl
    · unfold law24xHistoryFinds_l1
      rw [cond_d, if_neg (by omega)]
    · unfold law24xHistoryFinds_l1
      rw [cond_d, if_pos (by omega), idx_ok hi, Option.bind_some, Option.bind_some, w64s hi (by omega)]
      simp
end Go.Proofs.YtngcjjhbimanlaaDoor
