/- Layer 20: there and back. -/
import Derived.Test.YtmnobgopfnhbnaaGTPRt2
import Derived.Test.YtmnobgopfnhbnaaGTEvWorks20
import Derived.Test.YtmnobgopfnhbnaaGTF8
namespace Go.Proofs.Ytmnobgopfnhbnaa
open Go Abs
set_option linter.unusedSimpArgs false
set_option linter.unusedVariables false

theorem CommandRoundTrip_pure {c : ApiCommand} {more : List UInt8} (h : okApiCommand c) : law20xCommandRoundTrip c more = some true := by
  unfold law20xCommandRoundTrip
  rw [works20_eq, Small_eq h, ref20Right_eq h]
  by_cases hm : (100 : Int) < more.length
  · simp [hm, gd]
  · cases hs : small c
    · simp [hm, gd]
    · cases hr : cright c
      · simp [hm, gd]
      · have hl := (cenc_len h hs hr).1
        have he : command_Encode [] c = some (cenc c) := by rw [command_Encode_eq h hs (by simp), hr]; simp
        obtain ⟨r, o1, o2⟩ := at_open (b := cenc c ++ more) (by simp; omega)
        obtain ⟨r', g1, g2⟩ := command_back o2 h hs hr
        simp only [hm, decide_false, cond_false, beq_self_eq_true, gd, if_true, Option.bind_some, Bool.not_true, cond_true]
        rw [he, Option.bind_some, app_ok (by simp; omega), Option.bind_some, o1, Option.bind_some, g1, Option.bind_some]
        simp only
        rw [refSame20_eq h.2.2.2.2.2.1 h.2.2.2.2.2.2, at_err g2, at_left g2]
        simp [vsame_refl, psame_refl]
end Go.Proofs.Ytmnobgopfnhbnaa
