import Derived.Test.YtnigjppddilpcaaGreatDoorGETy
import Derived.Test.YtnigjppddilpcaaGreatDoorGEF0
import Derived.Test.YtnigjppddilpcaaGreatDoorGEF4
import Derived.Test.YtnigjppddilpcaaGreatDoorGEF6
import Derived.Test.YtnigjppddilpcaaGreatDoorGEF7
import Derived.Test.YtnigjppddilpcaaGreatDoorGEF10
import Derived.Test.YtnigjppddilpcaaGreatDoorGEF11
namespace Go.Proofs.YtnigjppddilpcaaGreatDoor
open Go Abs
set_option maxRecDepth 100000
set_option linter.unusedVariables false
set_option linter.unusedSimpArgs false
noncomputable def lN (x19:(Int × aM)) (s33:(Int × aM × (List (List UInt8)))):Option (bS (Int × aM × (List (List UInt8))) (aM × (List (List UInt8)))) :=
 ((cond (decide (s33.1<x19.1)) ((iS s33.2.1).bind fun x38=>cond (decide (x38=(0:Int))) (some (Fl.go ())) (some (Fl.done (bS.out (s33.2.1,s33.2.2))))) (some (Fl.done (bS.out (s33.2.1,s33.2.2))))):Option (Fl (bS (Int × aM × (List (List UInt8))) (aM × (List (List UInt8)))) Unit)).bind fun x34=>Fl.next x34 (fun j36=>((eH (4096:Int) s33.2.1).bind fun x46=>(app 16 s33.2.2 ([x46.1]:List (List UInt8))).bind fun x48=>some (bS.next ((IntKind.wrap .i64 (s33.1+(1:Int))),x46.2,x48))))
noncomputable def qR (bV:aM):Option (bL × aM) :=
 (eH (4096:Int) bV).bind fun x1=>(jB x1.2).bind fun x3=>(jB x3.2).bind fun x5=>(jB x5.2).bind fun x7=>(jB x7.2).bind fun x9=>(jB x9.2).bind fun x11=>(jB x11.2).bind fun x13=>(jB x13.2).bind fun x15=>(jB x15.2).bind fun x17=>(jB x17.2).bind fun x19=>(((nS x19.1 (0:Int) (64:Int)).bind fun x24=>cond (!x24) ((gR (3:Int) x19.2).bind fun x27=>some x27) (some x19.2)):Option aM).bind fun x21=>(((dL (lN x19) (((0:Int),x21,([]:(List (List UInt8)))))):Option (aM × (List (List UInt8)))).bind fun x30=>((((lZ (bL.mk x1.1 x3.1 x5.1 x7.1 x9.1 x11.1 x13.1 x15.1 x17.1 x30.2)).bind fun x54=>cond (!x54) ((gR (3:Int) x30.1).bind fun x57=>some x57) (some x30.1)):Option aM).bind fun x51=>((iS x51).bind fun x60=>cond (!decide (x60=(0:Int))) (some ((bL.mk ([]:List UInt8) (0:Int) (0:Int) (0:Int) (0:Int) (0:Int) (0:Int) (0:Int) (0:Int) ([]:(List (List UInt8)))),x51)) (some ((bL.mk x1.1 x3.1 x5.1 x7.1 x9.1 x11.1 x13.1 x15.1 x17.1 x30.2),x51)))))
noncomputable def sZ (bV:aM):Option Int :=
 (iS bV).bind fun x1=>cond (!decide (x1=(0:Int))) (some x1) (cond (decide ((0:Int)<((bV.Rest).length:Int))) (some (3:Int)) (some (0:Int)))
end Go.Proofs.YtnigjppddilpcaaGreatDoor
