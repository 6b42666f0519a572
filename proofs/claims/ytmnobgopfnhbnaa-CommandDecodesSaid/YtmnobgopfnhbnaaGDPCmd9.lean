/- Layer 20: decoding. -/
import Derived.Test.YtmnobgopfnhbnaaGDPDec3
import Derived.Test.YtmnobgopfnhbnaaGDEvWorks20
import Derived.Test.YtmnobgopfnhbnaaGDF6
import Derived.Test.YtmnobgopfnhbnaaGDF9
import Derived.Test.YtmnobgopfnhbnaaGDF10
namespace Go.Proofs.Ytmnobgopfnhbnaa
open Go Abs
set_option linter.unusedSimpArgs false
set_option linter.unusedVariables false
theorem Decode_nil : command_Decode_nil = some zC := by
  unfold command_Decode_nil command_DecodePolicy_nil
  have hl : loopO (command_DecodePolicy_nil_l1 0) ((0 : Int), ([] : List (List UInt8))) = some [] := loop_out (by rfl)
  have e1 : command_number64_nil = some 0 := rfl
  have e2 : wire_Reader_Text_nil 4096 = some [] := rfl
  have e3 : wire_Reader_Err_nil = some 1 := rfl
  have e4 : value_Decode_nil = some zV := rfl
  simp only [e1, e2, e3, e4, Option.bind_some, command_numbers]
  have e5 : gd ((decide ((1 : Int) = 0)) == true) (command_in 0 0 64) = some false := rfl
  rw [e5]
  simp only [Option.bind_some]
  have e6 : (cond (cond (decide ((1 : Int) = 0)) (!false) false) ((wire_Reader_Fail_nil 3).bind fun x => some ()) (some ())) = some () := rfl
  rw [e6]
  simp only [Option.bind_some]
  rw [hl]
  rfl
theorem le_left {e : Int} {r : WireReader} {w : Ref01Reader} (h : LikeE e r w) : ∃ x, wire_Reader_Left r = some x ∧ ref01xReader_Left w = some x := like_left h.like
theorem csame_refl (c : ApiCommand) : (decide (c.Kind = c.Kind) && decide (c.Seq = c.Seq) && decide (c.Name = c.Name) && decide (c.Key = c.Key) && decide (c.N = c.N) && vsame c.Data c.Data && psame c.Opts c.Opts) = true := by simp [vsame_refl, psame_refl]
theorem CommandDecodes_pure {b : List UInt8} : law20xCommandDecodes b = some true := by
  unfold law20xCommandDecodes
  rw [works20_eq]
  by_cases hb : (20000 : Int) < b.length
  · simp [hb]
  · obtain ⟨r, w, h1, h2, h3⟩ := le_open (b := b) (by omega)
    obtain ⟨c, e, r', w', h4, h5, h6, h7, h8⟩ := le_command h3
    obtain ⟨o, e2, r2, w2, g4, g5, g6, g7, g8⟩ := le_policy h3
    obtain ⟨x, x1, x2⟩ := le_left h6
    obtain ⟨y, y1, y2⟩ := le_left g6
    rw [h1, h2]
    simp only [hb, decide_false, cond_false, Option.bind_some]
    rw [h4, h5]
    simp only [Option.bind_some]
    rw [refSame20_eq h7.2.2.2.2.2.1 h7.2.2.2.2.2.2, csame_refl, (le_err h6).1, (le_err h6).2, x1, x2]
    simp only [Option.bind_some, Bool.not_true, cond_false, decide_true, Fl.next]
    rw [g4, g5]
    simp only [Option.bind_some]
    rw [refSamePolicy_eq g7, psame_refl, (le_err g6).1, (le_err g6).2, y1, y2, Decode_nil]
    simp only [Option.bind_some, cond_true, decide_true]
    have hz : ref20xSame zC zC = some true := by rw [refSame20_eq ok_zC.2.2.2.2.2.1 ok_zC.2.2.2.2.2.2, csame_refl]
    show (ref20xSame zC zC).bind _ = _
    rw [hz]
    rfl
end Go.Proofs.Ytmnobgopfnhbnaa
