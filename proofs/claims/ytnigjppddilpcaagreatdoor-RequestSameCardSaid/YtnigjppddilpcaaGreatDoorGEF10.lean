import Derived.Test.YtnigjppddilpcaaGreatDoorGETy
import Derived.Test.YtnigjppddilpcaaGreatDoorGEF0
import Derived.Test.YtnigjppddilpcaaGreatDoorGEF4
import Derived.Test.YtnigjppddilpcaaGreatDoorGEF6
import Derived.Test.YtnigjppddilpcaaGreatDoorGEF7
import Derived.Test.YtnigjppddilpcaaGreatDoorGEF8
import Derived.Test.YtnigjppddilpcaaGreatDoorGEF9
namespace Go.Proofs.YtnigjppddilpcaaGreatDoor
open Go Abs
set_option maxRecDepth 100000
set_option linter.unusedVariables false
set_option linter.unusedSimpArgs false
noncomputable def lQ:Nat→Int→Option (List UInt8)
 | 0,_=>none
 | n+1,p0n =>
  (yK (IntKind.wrap .u8 (IntKind.wrap .i64 (48+(IntKind.wrap .i64 (0 - (Int.tmod p0n 10))))))).bind fun x1=>cond (decide ((-10)<p0n)) (some ([x1]:List UInt8)) (((lQ n) (IntKind.wrap .i64 (Int.tdiv p0n 10))).bind fun x5=>(cat x5 ([x1]:List UInt8)).bind fun x7=>some (x5++([x1]:List UInt8)))
noncomputable def wO (p0n:Int):Option (List UInt8):=lim fun n=>lQ n p0n
noncomputable def aDo (p0n:Int):Option (List UInt8) :=
 cond (decide (p0n<0)) ((wO p0n).bind fun x2=>(cat ([45]:List UInt8) x2).bind fun x4=>some (([45]:List UInt8)++x2)) ((wO (IntKind.wrap .i64 (0 - p0n))).bind fun x7=>some x7)
noncomputable def aE9 (p0n:Int):Option (List UInt8) :=
 cond (decide (p0n<1)) (some ([]:List UInt8)) ((aDo p0n).bind fun x3=>(cat ([114]:List UInt8) x3).bind fun x5=>some (([114]:List UInt8)++x3))
noncomputable def yT (aB0:(List UInt8)) (s4:(Int × Int)):Option (dG (Int × Int) Int) :=
 cond (cond (decide (s4.2<((aB0).length:Int))) (decide (((aB0).length:Int)≤20)) false) ((nF aB0 s4.2).bind fun x6=>some (dG.next ((IntKind.wrap .i64 ((IntKind.wrap .i64 ((IntKind.wrap .i64 (10*s4.1))+(IntKind.wrap .i64 ((x6).toNat:Int)))) - 48)),(IntKind.wrap .i64 (s4.2+1))))) (some (dG.out s4.1))
noncomputable def aBF (aB0:(List UInt8)):Option (Int × Bool) :=
 (fX (yT aB0) ((0,1))).bind fun x1=>((gd ((decide (x1<1))==false) (aE9 x1)).bind fun x10=>cond (cond (decide (x1<1)) true (!decide (x10=aB0))) (some (0,false)) (some (x1,true)))
