/- Layer 20: encoding. -/
import Derived.Test.YtmnobgopfnhbnaaGEPEnc3
import Derived.Test.YtmnobgopfnhbnaaGEEvWorks20
import Derived.Test.YtmnobgopfnhbnaaGEF9
namespace Go.Proofs.Ytmnobgopfnhbnaa
open Go Abs
set_option linter.unusedSimpArgs false
set_option linter.unusedVariables false

theorem CommandEncodes_pure {b : List UInt8} {c : ApiCommand} (h : okApiCommand c) : law20xCommandEncodes b c = some true := by
  unfold law20xCommandEncodes
  rw [Small_eq h, works20_eq]
  by_cases hb : (100 : Int) < b.length
  · simp [hb, gd]
  · cases hs : small c
    · simp [hb, gd]
    · rw [command_Encode_eq h hs (by omega), refEncode20_eq h hs (by omega), EncodePolicy_eq h.2.2.2.2.2.2 (by omega), refEncodePolicy_eq h.2.2.2.2.2.2 (by omega)]
      simp [hb, gd]
end Go.Proofs.Ytmnobgopfnhbnaa
