/- EventCommands: the plain law. -/
import Derived.Test.YtngcjjhbimanlaaGreatDoorGCPEv2
import Derived.Test.YtngcjjhbimanlaaGreatDoorGCPCopy
import Derived.Test.YtngcjjhbimanlaaGreatDoorGCEvLives
import Derived.Test.YtngcjjhbimanlaaGreatDoorGCF2
import Derived.Test.YtngcjjhbimanlaaGreatDoorGCF6
import Derived.Test.YtngcjjhbimanlaaGreatDoorGCF7
namespace Go.Proofs.YtngcjjhbimanlaaGreatDoor
open Go Abs
set_option linter.unusedSimpArgs false
set_option linter.unusedVariables false
theorem Matches_eq (c : ApiCommand) (e : ApiEvent) : event_Matches c e = some (decide (cmdOf e.Kind ≠ 0) && decide (cmdOf e.Kind = c.Kind) && decide (c.Seq = e.Seq) && decide (c.Name = e.Name) && decide (c.Key = e.Key) && decide (c.N = e.N)) := by
  unfold event_Matches
  rw [commandOf_eq, Option.bind_some]
  simp only [Bool.cond_false_right, decide_not]
theorem refMatches_eq (c : ApiCommand) (e : ApiEvent) : ref22xMatches c e = event_Matches c e := by
  rw [Matches_eq]
  unfold ref22xMatches
  rw [refIsCommand_eq, refcommand_eq, Option.bind_some]
  simp only [Bool.cond_false_right, decide_not]
  cases (!decide (cmdOf e.Kind = 0)) <;> simp [gd]
theorem zero_ok : okApiEvent (ApiEvent.mk 0 0 0 0 0 0 0 [] [] (ApiValue.mk 0 0 [] [] []) (ApiPolicy.mk [] 0 0 0 0 0 0 0 0 [])) := by
  refine ⟨?_, ?_, ?_, ?_, ?_, ?_, ?_, ?_, ?_, ok_zeroV, ?_⟩
  all_goals first | (simp [okI]; done) | (simp [okS]; done) | skip
  refine ⟨?_, ?_, ?_, ?_, ?_, ?_, ?_, ?_, ?_, ?_⟩ <;> simp [okI, okS, okLs]
theorem cright_kind {c : ApiCommand} (h : cright c = true) : inB c.Kind 1 14 = true := by
  unfold cright at h
  simp only [Bool.and_eq_true] at h
  exact h.1.1.1.1.1.1.1
theorem ref_kind {k e : Int} (h1 : 1 ≤ k) (h2 : k ≤ 14) (h : event_eventOf k = some e) : ref22xcommands = some cmds14 ∧ idx cmds14 (IntKind.wrap .i64 (k - 1)) = some e := by
  refine ⟨rfl, ?_⟩
  rw [w64 (by omega) (by omega)]
  have hk : k = 1 ∨ k = 2 ∨ k = 3 ∨ k = 4 ∨ k = 5 ∨ k = 6 ∨ k = 7 ∨ k = 8 ∨ k = 9 ∨ k = 10 ∨ k = 11 ∨ k = 12 ∨ k = 13 ∨ k = 14 := by omega
  rcases hk with rfl | rfl | rfl | rfl | rfl | rfl | rfl | rfl | rfl | rfl | rfl | rfl | rfl | rfl <;> (rw [eventOf_eq] at h; rw [← h]; rfl)
theorem EventCommands_pure (c : ApiCommand) (e : ApiEvent) (id time : Int) (hc : okApiCommand c) (he : okApiEvent e) (hid : okI id) (ht : okI time) : law22xEventCommands c e id time = some true := by
  unfold law22xEventCommands
  obtain ⟨x, hx⟩ := Small22_ex he
  have h0 : okApiEvent (ApiEvent.mk 0 0 0 0 0 0 0 c.Name c.Key c.Data c.Opts) := ⟨by simp [okI], by simp [okI], by simp [okI], by simp [okI], by simp [okI], by simp [okI], by simp [okI], hc.2.2.1, hc.2.2.2.1, hc.2.2.2.2.2.1, hc.2.2.2.2.2.2⟩
  obtain ⟨y, hy⟩ := Small22_ex h0
  rw [hx, hy, lives22]
  have hm : ∀ a : ApiEvent, event_Matches c a = ref22xMatches c a := fun a => (refMatches_eq c a).symm
  cases x
  · simp [gd]
  cases y
  · simp [gd]
  simp only [Option.bind_some, Bool.not_true, cond_false, beq_self_eq_true, gd, if_true]
  unfold event_OfCommand ref22xOfCommand
  rw [command_Right_eq hc, ref20Right_eq hc]
  cases hr : cright c
  · simp only [Option.bind_some, Bool.not_false, cond_true]
    rw [refSame22_eq zero_ok, esame_refl, ← hm e]
    rw [Matches_eq c e]
    simp
  · have hk := cright_kind hr
    obtain ⟨k1, k2⟩ : 1 ≤ c.Kind ∧ c.Kind ≤ 14 := by unfold inB at hk; simpa using hk
    obtain ⟨ev, g1, g2, g3, g4, g5⟩ := eventOf_14 k1 k2
    obtain ⟨r1, r2⟩ := ref_kind k1 k2 g1
    have ho : okApiPolicy c.Opts := hc.2.2.2.2.2.2
    have hf := ho.2.2.2.2.2.2.2.2.2.2.1
    have hei : okI ev := ⟨by omega, by omega⟩
    simp only [Option.bind_some, Bool.not_true, cond_false]
    rw [app_ok (by simp only [List.length_nil]; omega), Option.bind_some, g1, Option.bind_some, value_Copy_eq hc.2.2.2.2.2.1, Option.bind_some, List.nil_append, r1]
    simp only [Option.bind_some]
    rw [r2]
    simp only [Option.bind_some]
    have hev : okApiEvent (ApiEvent.mk id ev time c.Seq 0 c.N 0 c.Name c.Key c.Data ⟨c.Opts.Queue, c.Opts.ToStart, c.Opts.ToClose, c.Opts.Total, c.Opts.Beat, c.Opts.First, c.Opts.Coef, c.Opts.Most, c.Opts.Attempts, c.Opts.Fatal⟩) :=
      ⟨hid, hei, ht, hc.2.1, by simp [okI], hc.2.2.2.2.1, by simp [okI], hc.2.2.1, hc.2.2.2.1, hc.2.2.2.2.2.1, ho⟩
    rw [refSame22_eq hev]
    rw [show esame (ApiEvent.mk id ev time c.Seq 0 c.N 0 c.Name c.Key c.Data ⟨c.Opts.Queue, c.Opts.ToStart, c.Opts.ToClose, c.Opts.Total, c.Opts.Beat, c.Opts.First, c.Opts.Coef, c.Opts.Most, c.Opts.Attempts, c.Opts.Fatal⟩) (ApiEvent.mk id ev time c.Seq 0 c.N 0 c.Name c.Key c.Data c.Opts) = true from esame_refl _]
    rw [← hm e, Matches_eq c e]
    have hme : event_Matches c (ApiEvent.mk id ev time c.Seq 0 c.N 0 c.Name c.Key c.Data ⟨c.Opts.Queue, c.Opts.ToStart, c.Opts.ToClose, c.Opts.Total, c.Opts.Beat, c.Opts.First, c.Opts.Coef, c.Opts.Most, c.Opts.Attempts, c.Opts.Fatal⟩) = some true := by
      rw [Matches_eq]
      have h4 : c.Kind ≠ 0 := by omega
      simp [g4, h4]
    rw [hme, IsCommand_eq]
    have h4 : c.Kind ≠ 0 := by omega
    simp [g4, h4]
end Go.Proofs.YtngcjjhbimanlaaGreatDoor
