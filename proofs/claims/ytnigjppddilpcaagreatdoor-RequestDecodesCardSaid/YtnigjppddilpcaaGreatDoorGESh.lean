import Derived.Test.YtnigjppddilpcaaGreatDoorGETy
import Derived.Test.YtnigjppddilpcaaGreatDoorAbs29
namespace Go.Proofs.YtnigjppddilpcaaGreatDoor
open Go Abs
set_option maxRecDepth 100000
set_option linter.unusedVariables false
set_option linter.unusedSimpArgs false
mutual
def eA:aQ→Prop
 | ⟨x0,x1,x2,x3,x4⟩=>sQ x0∧sQ x1∧okS x2∧(x3.length≤9223372036854775807∧x3.length*80≤140737488351232∧aBC x3)∧aAc 16 okS x4
def aBC:List aQ→Prop
 | []=>True
 | x :: l=>eA x∧aBC l
end
theorem aEf:∀ l,aBC l↔∀ x∈l,eA x
 | []=>by simp [aBC]
 | x :: l=>by simp [aBC,aEf l]
theorem hU (x:aQ):eA x↔sQ x.Kind∧sQ x.Int∧okS x.Text∧aAc 80 eA x.Items∧aAc 16 okS x.Keys:=by
 cases x;simp only [eA,aAc,aEf]
def jP (x:dS):Prop:=okS x.Queue∧sQ x.ToStart∧sQ x.ToClose∧sQ x.Total∧sQ x.Beat∧sQ x.First∧sQ x.Coef∧sQ x.Most∧sQ x.Attempts∧aAc 16 okS x.Fatal
def mD (x:dH):Prop:=sQ x.ID∧sQ x.Kind∧sQ x.Time∧sQ x.Seq∧sQ x.Ref∧sQ x.N∧sQ x.Code∧okS x.Name∧okS x.Key∧eA x.Data∧jP x.Opts
def lC (x:bY):Prop:=sQ x.Kind∧sQ x.Seq∧okS x.Name∧okS x.Key∧sQ x.N∧eA x.Data∧jP x.Opts
def pD (x:dE):Prop:=sQ x.Kind∧sQ x.Time∧okS x.Workflow∧okS x.Run∧okS x.ID∧okS x.Name∧sQ x.Token∧sQ x.Event∧sQ x.Seq∧sQ x.N∧eA x.Data∧jP x.Opts∧aAc 240 lC x.Commands∧okS x.Parent
def aA9 (x:jW):Prop:=sQ x.Err∧okS x.Run∧sQ x.Token∧sQ x.N∧eA x.Data∧aAc 272 mD x.Events
