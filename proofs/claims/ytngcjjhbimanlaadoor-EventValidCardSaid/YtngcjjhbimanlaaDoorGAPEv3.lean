/- EventSame, EventKinds, EventValid: the plain laws. -/
import Derived.Test.YtngcjjhbimanlaaDoorGAPEv2
import Derived.Test.YtngcjjhbimanlaaDoorGAPCopy
import Derived.Test.YtngcjjhbimanlaaDoorGAEvLives
import Derived.Test.YtngcjjhbimanlaaDoorGAF4
import Derived.Test.YtngcjjhbimanlaaDoorGAF5
namespace Go.Proofs.YtngcjjhbimanlaaDoor
open Go Abs
set_option linter.unusedSimpArgs false
set_option linter.unusedVariables false
theorem EventSame_pure (a b : ApiEvent) (ha : okApiEvent a) (hb : okApiEvent b) : law22xEventSame a b = some true := by
  unfold law22xEventSame
  obtain ⟨x, hx⟩ := Small22_ex ha
  obtain ⟨y, hy⟩ := Small22_ex hb
  rw [hx, hy, event_Same_eq ha, refSame22_eq ha, event_Same_eq ha, lives22, esame_refl]
  cases x <;> cases y <;> simp [gd]
theorem EventKinds_pure (k : Int) (s : List UInt8) : law22xEventKinds k s = some true := by
  unfold law22xEventKinds
  rw [lives22, ByName_eq, refByName_eq, Name_eq, refName_eq, IsCommand_eq, refIsCommand_eq, refIsInput_eq, IsInput_eq, event_Status_eq, show ref22xStatus k = event_Status k from rfl, event_Status_eq]
  have hc : event_Closes k = some (stK k).2 := by unfold event_Closes; rw [event_Status_eq, Option.bind_some]
  rw [hc]
  by_cases h0 : (1000 : Int) < (s.length : Int)
  · simp [h0]
  · simp only [h0, decide_false, cond_false, Option.bind_some, decide_true, Bool.not_true, beq_self_eq_true, gd, if_true, cond_true]
    rw [ByName_eq, byN_name]
    have hic := inp_cmd k
    by_cases hi : isInp k = true
    · obtain ⟨h1, h2⟩ := hic hi
      rw [hi, h1, h2]
      by_cases hk : 1 ≤ k ∧ k ≤ 35
      · simp [hk]
      · rw [if_neg hk]
        have e : (cond (decide (1 ≤ k)) (decide (k ≤ 35)) false) = false := by
          by_cases h3 : 1 ≤ k
          · have : ¬ k ≤ 35 := fun h => hk ⟨h3, h⟩
            simp [h3, this]
          · simp [h3]
        rw [e]; simp
    · have hi : isInp k = false := by simpa using hi
      rw [hi]
      generalize (!decide (cmdOf k = 0)) = b
      by_cases hk : 1 ≤ k ∧ k ≤ 35
      · cases b <;> simp [hk]
      · rw [if_neg hk]
        have e : (cond (decide (1 ≤ k)) (decide (k ≤ 35)) false) = false := by
          by_cases h3 : 1 ≤ k
          · have : ¬ k ≤ 35 := fun h => hk ⟨h3, h⟩
            simp [h3, this]
          · simp [h3]
        rw [e]
        cases b <;> simp
theorem cright_kind {c : ApiCommand} (h : cright c = true) : inB c.Kind 1 14 = true ∧ vright c.Data = true := by
  unfold cright at h
  simp only [Bool.and_eq_true] at h
  exact ⟨h.1.1.1.1.1.1.1, h.1.1.1.1.1.2⟩
theorem inB_iff {n l h : Int} : inB n l h = true ↔ l ≤ n ∧ n ≤ h := by unfold inB; simp
theorem EventValid_pure (c : ApiCommand) (id time n : Int) (hc : okApiCommand c) (hid : okI id) (ht : okI time) (hn : okI n) : law22xEventValid c id time n = some true := by
  unfold law22xEventValid event_OfCommand
  rw [command_Right_eq hc, lives22]
  have hz : okApiEvent (ApiEvent.mk 0 0 0 0 0 0 0 [] [] (ApiValue.mk 0 0 [] [] []) (ApiPolicy.mk [] 0 0 0 0 0 0 0 0 [])) := by
    refine ⟨?_, ?_, ?_, ?_, ?_, ?_, ?_, ?_, ?_, ok_zeroV, ?_⟩
    all_goals first | (simp [okI]; done) | (simp [okS]; done) | skip
    refine ⟨?_, ?_, ?_, ?_, ?_, ?_, ?_, ?_, ?_, ?_⟩ <;> simp [okI, okS, okLs]
  cases hr : cright c
  · simp only [Option.bind_some, Bool.not_false, cond_true]
    obtain ⟨b, hb⟩ := Small22_ex hz
    rw [hb]
    cases b <;> rfl
  · obtain ⟨hk, hv⟩ := cright_kind hr
    obtain ⟨k1, k2⟩ := inB_iff.1 hk
    obtain ⟨e, g1, g2, g3, g4, g5⟩ := eventOf_14 k1 k2
    have ho : okApiPolicy c.Opts := hc.2.2.2.2.2.2
    have hf := ho.2.2.2.2.2.2.2.2.2.2.1
    have hei : okI e := ⟨by omega, by omega⟩
    simp only [Option.bind_some, Bool.not_true, cond_false]
    rw [app_ok (by simp only [List.length_nil]; omega), Option.bind_some, g1, Option.bind_some, value_Copy_eq hc.2.2.2.2.2.1, Option.bind_some, List.nil_append]
    simp only [Option.bind_some]
    have hev : ∀ r m : Int, okI r → okI m → okApiEvent (ApiEvent.mk id e time c.Seq r c.N m c.Name c.Key c.Data ⟨c.Opts.Queue, c.Opts.ToStart, c.Opts.ToClose, c.Opts.Total, c.Opts.Beat, c.Opts.First, c.Opts.Coef, c.Opts.Most, c.Opts.Attempts, c.Opts.Fatal⟩) := fun r m h1 h2 =>
      ⟨hid, hei, ht, hc.2.1, h1, hc.2.2.2.2.1, h2, hc.2.2.1, hc.2.2.2.1, hc.2.2.2.2.2.1, ho⟩
    obtain ⟨b, hb⟩ := Small22_ex (hev 0 0 ⟨by omega, by omega⟩ ⟨by omega, by omega⟩)
    rw [hb, Option.bind_some]
    by_cases hrange : b = true ∧ 0 ≤ id ∧ id ≤ 2000 ∧ 0 ≤ time ∧ time ≤ 1099511627776
    · obtain ⟨rfl, i1, i2, i3, i4⟩ := hrange
      have n1 : ¬ id < 0 := by omega
      have n2 : ¬ (2000 : Int) < id := by omega
      have n3 : ¬ time < 0 := by omega
      have n4 : ¬ (1099511627776 : Int) < time := by omega
      simp only [Bool.not_true, n1, n2, n3, n4, decide_false, cond_false]
      have key : ∀ r m : Int, okI r → okI m → event_Right (ApiEvent.mk id e time c.Seq r c.N m c.Name c.Key c.Data ⟨c.Opts.Queue, c.Opts.ToStart, c.Opts.ToClose, c.Opts.Total, c.Opts.Beat, c.Opts.First, c.Opts.Coef, c.Opts.Most, c.Opts.Attempts, c.Opts.Fatal⟩) = some (decide (m = 0) && (if c.Kind = 2 ∨ c.Kind = 4 then inB r 1 2000 else decide (r = 0))) := fun r m h1 h2 => by
        rw [event_Right_eq (hev r m h1 h2)]
        unfold eright
        have e1 : inB e 1 35 = true := inB_iff.2 ⟨g2, g3⟩
        have e2 : inB id 0 2000 = true := inB_iff.2 ⟨i1, i2⟩
        have e3 : inB time 0 1099511627776 = true := inB_iff.2 ⟨i3, i4⟩
        have e4 : ¬ cmdOf e = 0 := by omega
        simp only [e1, e2, e3, hv, e4, if_false, Bool.true_and]
        unfold cmdB
        simp only [g4]
        rw [show cright ⟨c.Kind, c.Seq, c.Name, c.Key, c.N, c.Data, ⟨c.Opts.Queue, c.Opts.ToStart, c.Opts.ToClose, c.Opts.Total, c.Opts.Beat, c.Opts.First, c.Opts.Coef, c.Opts.Most, c.Opts.Attempts, c.Opts.Fatal⟩⟩ = cright c from rfl, hr, Bool.and_true]
      have hcan : (cond (decide (e = 12)) true (decide (e = 16))) = decide (c.Kind = 2 ∨ c.Kind = 4) := by
        rw [Bool.eq_iff_iff]
        simp only [Bool.cond_true_left, Bool.or_eq_true, decide_eq_true_eq]
        exact g5
      rw [key 0 0 ⟨by omega, by omega⟩ ⟨by omega, by omega⟩, hcan]
      simp only [Option.bind_some]
      have htm : 0 ≤ id.tmod 2000 ∧ id.tmod 2000 ≤ 1999 := by rw [Int.tmod_eq_emod_of_nonneg i1]; omega
      have hw : IntKind.i64.wrap (1 + id.tmod 2000) = 1 + id.tmod 2000 := w64 (by omega) (by omega)
      by_cases hcc : c.Kind = 2 ∨ c.Kind = 4
      · have z : inB 0 1 2000 = false := by decide
        have z1 : inB (1 + id.tmod 2000) 1 2000 = true := inB_iff.2 ⟨by omega, by omega⟩
        simp only [hcc, if_true, z, decide_true, Bool.and_false, cond_true, hw]
        rw [show (false == true) = false from rfl, cond_false, Option.bind_some, key _ 0 ⟨by omega, by omega⟩ ⟨by omega, by omega⟩, key _ n ⟨by omega, by omega⟩ hn]
        simp [hcc, z1, gd]
      · simp only [hcc, if_false, decide_false, decide_true, Bool.and_true, cond_false]
        rw [show (true == false) = false from rfl, cond_false, Option.bind_some, key _ 0 ⟨by omega, by omega⟩ ⟨by omega, by omega⟩, key _ n ⟨by omega, by omega⟩ hn]
        simp [hcc, gd]
    · have : (cond (cond (cond (cond (cond (!b) true (!true)) true (decide (id < 0))) true (decide ((2000 : Int) < id))) true (decide (time < 0))) true (decide ((1099511627776 : Int) < time))) = true := by
        cases b
        · simp
        · simp only [Bool.not_true, cond_false, Bool.cond_true_left, Bool.or_eq_true, decide_eq_true_eq]
          simp only [true_and] at hrange
          omega
      rw [this]
      rfl
end Go.Proofs.YtngcjjhbimanlaaDoor
