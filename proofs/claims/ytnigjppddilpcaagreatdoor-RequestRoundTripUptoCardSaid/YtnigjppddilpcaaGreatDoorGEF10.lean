import Derived.Test.YtnigjppddilpcaaGreatDoorGETy
import Derived.Test.YtnigjppddilpcaaGreatDoorGEF0
import Derived.Test.YtnigjppddilpcaaGreatDoorGEF4
import Derived.Test.YtnigjppddilpcaaGreatDoorGEF6
import Derived.Test.YtnigjppddilpcaaGreatDoorGEF7
import Derived.Test.YtnigjppddilpcaaGreatDoorGEF8
import Derived.Test.YtnigjppddilpcaaGreatDoorGEF9
namespace Go.Proofs.YtnigjppddilpcaaGreatDoor
open Go Abs
set_option maxRecDepth 100000
set_option linter.unusedVariables false
set_option linter.unusedSimpArgs false
noncomputable def iN:Nat→Int→Option (List UInt8)
 | 0,_=>none
 | n+1,p0n =>
  (uF (IntKind.wrap .u8 (IntKind.wrap .i64 ((48:Int)+(IntKind.wrap .i64 (0 - (Int.tmod p0n (10:Int)))))))).bind fun x1=>cond (decide ((-10:Int)<p0n)) (some ([x1]:List UInt8)) (((iN n) (IntKind.wrap .i64 (Int.tdiv p0n (10:Int)))).bind fun x5=>(cat x5 ([x1]:List UInt8)).bind fun x7=>some (x5++([x1]:List UInt8)))
noncomputable def rU (p0n:Int):Option (List UInt8):=lim fun n=>iN n p0n
noncomputable def aBQ (p0n:Int):Option (List UInt8) :=
 cond (decide (p0n<(0:Int))) ((rU p0n).bind fun x2=>(cat ([45]:List UInt8) x2).bind fun x4=>some (([45]:List UInt8)++x2)) ((rU (IntKind.wrap .i64 (0 - p0n))).bind fun x7=>some x7)
noncomputable def aDD (p0n:Int):Option (List UInt8) :=
 cond (decide (p0n<(1:Int))) (some ([]:List UInt8)) ((aBQ p0n).bind fun x3=>(cat ([114]:List UInt8) x3).bind fun x5=>some (([114]:List UInt8)++x3))
noncomputable def uR (aAs:(List UInt8)) (s4:(Int × Int)):Option (bS (Int × Int) Int) :=
 cond (cond (decide (s4.2<((aAs).length:Int))) (decide (((aAs).length:Int)≤(20:Int))) false) ((jV aAs s4.2).bind fun x6=>some (bS.next ((IntKind.wrap .i64 ((IntKind.wrap .i64 ((IntKind.wrap .i64 ((10:Int)*s4.1))+(IntKind.wrap .i64 ((x6).toNat:Int)))) - (48:Int))),(IntKind.wrap .i64 (s4.2+(1:Int)))))) (some (bS.out s4.1))
noncomputable def zR (aAs:(List UInt8)):Option (Int × Bool) :=
 ((dL (uR aAs) (((0:Int),(1:Int)))):Option Int).bind fun x1=>((gd ((decide (x1<(1:Int)))==false) (aDD x1)).bind fun x10=>cond (cond (decide (x1<(1:Int))) true (!decide (x10=aAs))) (some ((0:Int),false)) (some (x1,true)))
noncomputable def aCc (p0b:(List UInt8)):Option aM :=
 (app 1 ([]:List UInt8) p0b).bind fun x1=>some (aM.mk true x1 (0:Int))
noncomputable def iS (bV:aM):Option Int :=
 cond (!bV.Made) (some (1:Int)) (some bV.Bad)
end Go.Proofs.YtnigjppddilpcaaGreatDoor
