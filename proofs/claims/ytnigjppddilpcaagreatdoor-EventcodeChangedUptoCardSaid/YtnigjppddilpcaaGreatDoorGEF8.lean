import Derived.Test.YtnigjppddilpcaaGreatDoorGETy
import Derived.Test.YtnigjppddilpcaaGreatDoorGEF0
import Derived.Test.YtnigjppddilpcaaGreatDoorGEF1
import Derived.Test.YtnigjppddilpcaaGreatDoorGEF6
import Derived.Test.YtnigjppddilpcaaGreatDoorGEF7
namespace Go.Proofs.YtnigjppddilpcaaGreatDoor
open Go Abs
set_option maxRecDepth 100000
set_option linter.unusedVariables false
set_option linter.unusedSimpArgs false
noncomputable def nS (p1e:aV) (s6:((List UInt8) × Int)):Option (cD ((List UInt8) × Int) (List UInt8)) :=
 cond (decide (s6.2<((([p1e.ID,p1e.Kind,p1e.Time,p1e.Seq,p1e.Ref,p1e.N,p1e.Code]:List Int)).length:Int))) ((gR ([p1e.ID,p1e.Kind,p1e.Time,p1e.Seq,p1e.Ref,p1e.N,p1e.Code]:List Int) s6.2).bind fun x8=>(iP s6.1 x8).bind fun x10=>some (cD.next (x10,(IntKind.wrap .i64 (s6.2+(1:Int)))))) (some (cD.out s6.1))
noncomputable def aAd (p0b:(List UInt8)) (p1e:aV):Option (List UInt8) :=
 (app 1 ([]:List UInt8) p0b).bind fun x1=>((dO (nS p1e) ((x1,(0:Int)))):Option (List UInt8)).bind fun x3=>((gZ x3 p1e.Name).bind fun x14=>(gZ x14 p1e.Key).bind fun x16=>(uM x16 p1e.Data).bind fun x18=>(nU x18 p1e.Opts).bind fun x20=>some x20)
end Go.Proofs.YtnigjppddilpcaaGreatDoor
