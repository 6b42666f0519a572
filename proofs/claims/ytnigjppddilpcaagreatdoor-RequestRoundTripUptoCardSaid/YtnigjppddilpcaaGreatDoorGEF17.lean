import Derived.Test.YtnigjppddilpcaaGreatDoorGETy
import Derived.Test.YtnigjppddilpcaaGreatDoorGEF1
import Derived.Test.YtnigjppddilpcaaGreatDoorGEF4
import Derived.Test.YtnigjppddilpcaaGreatDoorGEF5
import Derived.Test.YtnigjppddilpcaaGreatDoorGEF6
import Derived.Test.YtnigjppddilpcaaGreatDoorGEF8
import Derived.Test.YtnigjppddilpcaaGreatDoorGEF9
import Derived.Test.YtnigjppddilpcaaGreatDoorGEF10
import Derived.Test.YtnigjppddilpcaaGreatDoorGEF11
import Derived.Test.YtnigjppddilpcaaGreatDoorGEF12
import Derived.Test.YtnigjppddilpcaaGreatDoorGEF13
import Derived.Test.YtnigjppddilpcaaGreatDoorGEF14
import Derived.Test.YtnigjppddilpcaaGreatDoorGEF15
import Derived.Test.YtnigjppddilpcaaGreatDoorGEF16
namespace Go.Proofs.YtnigjppddilpcaaGreatDoor
open Go Abs
set_option maxRecDepth 100000
set_option linter.unusedVariables false
set_option linter.unusedSimpArgs false
noncomputable def nL (bV:aM):Option (Int × aM) :=
 (fS (-9223372036854775808:Int) (9223372036854775807:Int) bV).bind fun x1=>some (x1.1,x1.2)
noncomputable def aA3 (sW:Int) (bV:aM):Option (Int × aM) :=
 (nL bV).bind fun x1=>(mW x1.1 (0:Int) sW).bind fun x3=>cond (!x3) ((gR (3:Int) x1.2).bind fun x6=>some ((0:Int),x6)) (some (x1.1,x1.2))
noncomputable def zU (bV:aM):Option (aP × aM) :=
 (jB bV).bind fun x1=>(jB x1.2).bind fun x3=>(eH (4096:Int) x3.2).bind fun x5=>(eH (4096:Int) x5.2).bind fun x7=>(jB x7.2).bind fun x9=>(vF x9.2).bind fun x11=>(qR x11.2).bind fun x13=>(((uB (aP.mk x1.1 x3.1 x5.1 x7.1 x9.1 x11.1 x13.1)).bind fun x18=>cond (!x18) ((gR (3:Int) x13.2).bind fun x21=>some x21) (some x13.2)):Option aM).bind fun x15=>((iS x15).bind fun x24=>cond (!decide (x24=(0:Int))) (some ((aP.mk (0:Int) (0:Int) ([]:List UInt8) ([]:List UInt8) (0:Int) (aC.mk (0:Int) (0:Int) ([]:List UInt8) ([]:(List aC)) ([]:(List (List UInt8)))) (bL.mk ([]:List UInt8) (0:Int) (0:Int) (0:Int) (0:Int) (0:Int) (0:Int) (0:Int) (0:Int) ([]:(List (List UInt8))))),x15)) (some ((aP.mk x1.1 x3.1 x5.1 x7.1 x9.1 x11.1 x13.1),x15)))
noncomputable def iP (x25:(Int × aM)) (s30:(Int × aM × (List aP))):Option (bS (Int × aM × (List aP)) (aM × (List aP))) :=
 ((cond (decide (s30.1<x25.1)) ((iS s30.2.1).bind fun x35=>cond (decide (x35=(0:Int))) (some (Fl.go ())) (some (Fl.done (bS.out (s30.2.1,s30.2.2))))) (some (Fl.done (bS.out (s30.2.1,s30.2.2))))):Option (Fl (bS (Int × aM × (List aP)) (aM × (List aP))) Unit)).bind fun x31=>Fl.next x31 (fun j33=>((zU s30.2.1).bind fun x43=>(app 240 s30.2.2 ([x43.1]:List aP)).bind fun x45=>some (bS.next ((IntKind.wrap .i64 (s30.1+(1:Int))),x43.2,x45))))
noncomputable def aCO (p0b:(List UInt8)):Option (aY × Int) :=
 (aCc p0b).bind fun x1=>(nL x1).bind fun x3=>(nL x3.2).bind fun x5=>(eH (4096:Int) x5.2).bind fun x7=>(eH (4096:Int) x7.2).bind fun x9=>(eH (4096:Int) x9.2).bind fun x11=>(eH (4096:Int) x11.2).bind fun x13=>(nL x13.2).bind fun x15=>(nL x15.2).bind fun x17=>(nL x17.2).bind fun x19=>(nL x19.2).bind fun x21=>(vF x21.2).bind fun x23=>(aA3 (200:Int) x23.2).bind fun x25=>((dL (iP x25) (((0:Int),x25.2,([]:(List aP))))):Option (aM × (List aP))).bind fun x27=>((eH (4096:Int) x27.1).bind fun x48=>(sZ x48.2).bind fun x50=>cond (!decide (x50=(0:Int))) (some ((aY.mk (0:Int) (0:Int) ([]:List UInt8) ([]:List UInt8) ([]:List UInt8) ([]:List UInt8) (0:Int) (0:Int) (0:Int) (0:Int) (aC.mk (0:Int) (0:Int) ([]:List UInt8) ([]:(List aC)) ([]:(List (List UInt8)))) (bL.mk ([]:List UInt8) (0:Int) (0:Int) (0:Int) (0:Int) (0:Int) (0:Int) (0:Int) (0:Int) ([]:(List (List UInt8)))) ([]:(List aP)) ([]:List UInt8)),x50)) ((xO (aY.mk x3.1 x5.1 x7.1 x9.1 x11.1 x13.1 x15.1 x17.1 x19.1 x21.1 x23.1 (bL.mk ([]:List UInt8) (0:Int) (0:Int) (0:Int) (0:Int) (0:Int) (0:Int) (0:Int) (0:Int) ([]:(List (List UInt8)))) x27.2 x48.1)).bind fun x54=>cond (!x54) (some ((aY.mk (0:Int) (0:Int) ([]:List UInt8) ([]:List UInt8) ([]:List UInt8) ([]:List UInt8) (0:Int) (0:Int) (0:Int) (0:Int) (aC.mk (0:Int) (0:Int) ([]:List UInt8) ([]:(List aC)) ([]:(List (List UInt8)))) (bL.mk ([]:List UInt8) (0:Int) (0:Int) (0:Int) (0:Int) (0:Int) (0:Int) (0:Int) (0:Int) ([]:(List (List UInt8)))) ([]:(List aP)) ([]:List UInt8)),(3:Int))) (some ((aY.mk x3.1 x5.1 x7.1 x9.1 x11.1 x13.1 x15.1 x17.1 x19.1 x21.1 x23.1 (bL.mk ([]:List UInt8) (0:Int) (0:Int) (0:Int) (0:Int) (0:Int) (0:Int) (0:Int) (0:Int) ([]:(List (List UInt8)))) x27.2 x48.1),(0:Int)))))
end Go.Proofs.YtnigjppddilpcaaGreatDoor
