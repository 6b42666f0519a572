/- Layer 20: same. -/
import Derived.Test.YtmnobgopfnhbnaaGSPCmd3
import Derived.Test.YtmnobgopfnhbnaaGSEvWorks20
import Derived.Test.YtmnobgopfnhbnaaGSF6
namespace Go.Proofs.Ytmnobgopfnhbnaa
open Go Abs
set_option linter.unusedSimpArgs false
set_option linter.unusedVariables false

def csame (a b : ApiCommand) : Bool := decide (a.Kind = b.Kind) && decide (a.Seq = b.Seq) && decide (a.Name = b.Name) && decide (a.Key = b.Key) && decide (a.N = b.N) && vsame a.Data b.Data && psame a.Opts b.Opts
theorem Same_eq {a b : ApiCommand} (h : okApiCommand a) : command_Same a b = some (csame a b) := by
  unfold command_Same csame
  rw [value_Same_eq h.2.2.2.2.2.1, SamePolicy_eq h.2.2.2.2.2.2]
  cases decide (a.Kind = b.Kind) <;> cases decide (a.Seq = b.Seq) <;> cases decide (a.Name = b.Name) <;> cases decide (a.Key = b.Key) <;> cases decide (a.N = b.N) <;> first | rfl | (cases vsame a.Data b.Data <;> rfl)
theorem CommandSame_pure {a b : ApiCommand} (ha : okApiCommand a) (hb : okApiCommand b) : law20xCommandSame a b = some true := by
  unfold law20xCommandSame
  rw [Small_eq ha, Small_eq hb, works20_eq, Same_eq ha, refSame20_eq ha.2.2.2.2.2.1 ha.2.2.2.2.2.2, SamePolicy_eq ha.2.2.2.2.2.2, refSamePolicy_eq ha.2.2.2.2.2.2]
  unfold csame
  cases small a <;> cases small b <;> simp [gd]
end Go.Proofs.Ytmnobgopfnhbnaa
