/- HistoryTurns: the plain law. -/
import Derived.Test.YtngcjjhbimanlaaGreatDoorGKPHistC
import Derived.Test.YtngcjjhbimanlaaGreatDoorGKPHistT
import Derived.Test.YtngcjjhbimanlaaGreatDoorGKF9
namespace Go.Proofs.YtngcjjhbimanlaaGreatDoor
open Go Abs
set_option linter.unusedSimpArgs false
set_option linter.unusedVariables false
def mkR (t : Int × Int × Int × Bool) : Ref24Turn := ⟨t.1, t.2.1, t.2.2.1, t.2.2.2⟩
theorem refTurns_l2 {l : List ApiEvent} (hn : l.length ≤ 9223372036854775806) {s : Nat} (hs : s ≤ l.length) : loopO (ref24xTurns_l2 l) (s : Int) = some (nx l s : Int) := by
  refine nx_loop hn (fun s hs => ?_) ?_ s hs
  · unfold ref24xTurns_l2
    have : decide ((s : Int) < (l.length : Int)) = true := decide_eq_true (by omega)
    rw [this, getElem!_pos l s hs]
    simp only [cond_true, beq_self_eq_true, gd, if_true]
    rw [idx_ok hs, Option.bind_some, refIsCommand_eq, Option.bind_some, w64s hs (by omega)]
    unfold isCmd
    cases (!decide (cmdOf l[s].Kind = 0)) <;> rfl
  · unfold ref24xTurns_l2
    have : decide ((l.length : Int) < (l.length : Int)) = false := decide_eq_false (by omega)
    rw [this]
    rfl
theorem refTurns_eq {l : List ApiEvent} (hl : okLs 272 okApiEvent l) (hn : l.length ≤ 2000) : ref24xTurns l = some (if chk 0 l zeroK = 0 then (turnsP l).map mkR else []) := by
  unfold ref24xTurns
  rw [refCheck_eq hl, Check_eq hl, if_neg (by omega), Option.bind_some, Bool.cond_not, cond_d]
  by_cases h0 : chk 0 l zeroK = 0
  · rw [if_pos h0, if_pos h0]
    have hfm : (turnsP l).map mkR = (List.range l.length).filterMap fun i => (turnP l i).map mkR := by unfold turnsP; rw [List.map_filterMap]
    rw [hfm, loop_fm (fun i => (turnP l i).map mkR) (List.range l.length) (fun acc i hi ha => ?_) (fun acc => ?_)]
    · rfl
    · rw [List.length_range] at hi
      rw [List.getElem_range]
      unfold ref24xTurns_l1 turnP
      have e1 : IntKind.i64.wrap ((i : Int) + 1) = ((i + 1 : Nat) : Int) := w64s hi (by omega)
      have e2 : IntKind.i64.wrap ((i : Int) + 2) = ((i + 2 : Nat) : Int) := by rw [w64 (by omega) (by omega)]; omega
      have e3 : IntKind.i64.wrap ((l.length : Int) - 1) = (l.length : Int) - 1 := w64 (by omega) (by omega)
      simp only
      rw [cond_d, if_pos (by omega), idx_ok hi, Option.bind_some, List.getElem?_eq_getElem hi, Option.map_some, e1, e2, e3]
      by_cases h3 : l[i].Kind = 3
      · rw [decide_eq_true h3, if_pos (by rw [h3]), Bool.not_true, cond_false, cond_d]
        by_cases hlast : i + 1 = l.length
        · rw [if_pos (by omega), Option.bind_some, app_ok (by simp only [List.length_singleton]; omega), List.getElem?_eq_none (by omega)]
          rfl
        · have hi1 : i + 1 < l.length := by omega
          rw [if_neg (by omega), idx_ok hi1, Option.bind_some, List.getElem?_eq_getElem hi1, cond_d]
          by_cases h4 : l[i + 1].Kind = 4
          · rw [if_pos h4, refTurns_l2 (by omega) (by omega), Option.bind_some, Option.bind_some, app_ok (by simp only [List.length_singleton]; omega)]
            dsimp only [Option.map, mkR]
            rw [if_pos h4, decide_eq_true h4]; rfl
          · rw [if_neg h4, Option.bind_some, app_ok (by simp only [List.length_singleton]; omega)]
            dsimp only [Option.map, mkR]
            rw [if_neg h4, decide_eq_false h4]; rfl
      · rw [decide_eq_false h3, if_neg (fun hx => h3 (Option.some.inj hx)), Bool.not_false, cond_true]
        simp
    · rw [List.length_range]
      unfold ref24xTurns_l1
      simp only
      rw [cond_d, if_neg (by omega)]
  · rw [if_neg h0, if_neg h0]
theorem turns_len (l : List ApiEvent) : (turnsP l).length ≤ l.length := by
  unfold turnsP
  exact Nat.le_trans (List.length_filterMap_le ..) (by rw [List.length_range]; omega)
theorem HistoryTurns_pure (l : List ApiEvent) (hl : okLs 272 okApiEvent l) : law24xHistoryTurns l = some true := by
  unfold law24xHistoryTurns
  rw [works24]
  by_cases h : (200 : Int) < (l.length : Int)
  · simp [h]
  · have hn : l.length ≤ 200 := by omega
    rw [Turns_eq hl (by omega), refTurns_eq hl (by omega)]
    have key : ∀ T : List (Int × Int × Int × Bool), T.length ≤ 200 → loopO (law24xHistoryTurns_l1 (T.map mkH) (T.map mkR)) (0 : Int) = some (.go () : Fl Bool Unit) := by
      intro T hT
      refine loop_look T.length (.go () : Fl Bool Unit) (fun i hi => ?_) ?_
      · unfold law24xHistoryTurns_l1
        rw [List.length_map, cond_d, if_pos (by omega), idx_ok (by simpa using hi), Option.bind_some, idx_ok (by simpa using hi), Option.bind_some, w64s hi (by omega), List.getElem_map, List.getElem_map]
        simp [mkH, mkR, gd]
      · unfold law24xHistoryTurns_l1
        rw [List.length_map, cond_d, if_neg (by omega)]
    have hT := turns_len l
    by_cases h0 : chk 0 l zeroK = 0
    · simp only [h, decide_false, cond_false, Option.bind_some, h0, if_true, List.length_map, decide_true, Bool.not_true]
      rw [key _ (by omega)]; rfl
    · simp only [h, decide_false, cond_false, Option.bind_some, h0, if_false, decide_true, Bool.not_true]
      have := key [] (by simp)
      rw [List.map_nil, List.map_nil] at this
      rw [this]; rfl
end Go.Proofs.YtngcjjhbimanlaaGreatDoor
