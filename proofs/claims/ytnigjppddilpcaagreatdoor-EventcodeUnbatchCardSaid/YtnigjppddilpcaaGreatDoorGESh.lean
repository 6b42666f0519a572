import Derived.Test.YtnigjppddilpcaaGreatDoorGETy
import Derived.Test.YtnigjppddilpcaaGreatDoorAbs29
namespace Go.Proofs.YtnigjppddilpcaaGreatDoor
open Go Abs
set_option maxRecDepth 100000
set_option linter.unusedVariables false
set_option linter.unusedSimpArgs false
mutual
def dS:aF→Prop
 | ⟨x0,x1,x2,x3,x4⟩=>tN x0∧tN x1∧okS x2∧(x3.length≤9223372036854775807∧x3.length*80≤140737488351232∧aBg x3)∧zU 16 okS x4
def aBg:List aF→Prop
 | []=>True
 | x :: l=>dS x∧aBg l
end
theorem aDT:∀ l,aBg l↔∀ x∈l,dS x
 | []=>by simp [aBg]
 | x :: l=>by simp [aBg,aDT l]
theorem fS (x:aF):dS x↔tN x.Kind∧tN x.Int∧okS x.Text∧zU 80 dS x.Items∧zU 16 okS x.Keys:=by
 cases x;simp only [dS,zU,aDT]
def iR (x:bV):Prop:=okS x.Queue∧tN x.ToStart∧tN x.ToClose∧tN x.Total∧tN x.Beat∧tN x.First∧tN x.Coef∧tN x.Most∧tN x.Attempts∧zU 16 okS x.Fatal
def gN (x:bW):Prop:=tN x.ID∧tN x.Kind∧tN x.Time∧tN x.Seq∧tN x.Ref∧tN x.N∧tN x.Code∧okS x.Name∧okS x.Key∧dS x.Data∧iR x.Opts
def aAl (x:fG):Prop:=tN x.Kind∧tN x.Seq∧okS x.Name∧okS x.Key∧tN x.N∧dS x.Data∧iR x.Opts
