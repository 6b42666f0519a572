import Derived.Test.YtnigjppddilpcaaGreatDoorGETy
import Derived.Test.YtnigjppddilpcaaGreatDoorGEF0
import Derived.Test.YtnigjppddilpcaaGreatDoorGEF1
import Derived.Test.YtnigjppddilpcaaGreatDoorGEF6
import Derived.Test.YtnigjppddilpcaaGreatDoorGEF7
namespace Go.Proofs.YtnigjppddilpcaaGreatDoor
open Go Abs
set_option maxRecDepth 100000
set_option linter.unusedVariables false
set_option linter.unusedSimpArgs false
noncomputable def wK (p0v:aC) (s6:Int):Option (bS Int (Fl Bool Unit)) :=
 cond (decide (s6<((p0v.Keys).length:Int))) ((jV p0v.Keys s6).bind fun x8=>cond (decide ((4096:Int)<((x8).length:Int))) (some (bS.out (Fl.done false))) (some (bS.next (IntKind.wrap .i64 (s6+(1:Int)))))) (some (bS.out (Fl.go ())))
noncomputable def wL (aEx:aC→Option Bool) (p0v:aC) (s19:Int):Option (bS Int (Fl Bool Unit)) :=
 cond (decide (s19<((p0v.Items).length:Int))) ((jV p0v.Items s19).bind fun x21=>(aEx x21).bind fun x23=>cond (!x23) (some (bS.out (Fl.done false))) (some (bS.next (IntKind.wrap .i64 (s19+(1:Int)))))) (some (bS.out (Fl.go ())))
noncomputable def vI:Nat→aC→Option Bool
 | 0,_=>none
 | n+1,p0v =>
  cond (decide ((4096:Int)<((p0v.Text).length:Int))) (some false) (((dL (wK p0v) ((0:Int))):Option (Fl Bool Unit)).bind fun x3=>Fl.next x3 (fun j5=>(((dL (wL (vI n) p0v) ((0:Int))):Option (Fl Bool Unit)).bind fun x16=>Fl.next x16 (fun j18=>(some true)))))
noncomputable def aEf (p0v:aC):Option Bool:=lim fun n=>vI n p0v
noncomputable def wJ (aEw:aC→Option Int) (p0v:aC) (s4:(Int × Int)):Option (bS (Int × Int) Int) :=
 cond (decide (s4.2<((p0v.Items).length:Int))) ((jV p0v.Items s4.2).bind fun x6=>(aEw x6).bind fun x8=>cond (decide (s4.1<x8)) (some (bS.next (x8,(IntKind.wrap .i64 (s4.2+(1:Int)))))) (some (bS.next (s4.1,(IntKind.wrap .i64 (s4.2+(1:Int))))))) (some (bS.out s4.1))
noncomputable def vG:Nat→aC→Option Int
 | 0,_=>none
 | n+1,p0v =>
  ((dL (wJ (vG n) p0v) (((0:Int),(0:Int)))):Option Int).bind fun x1=>(some (IntKind.wrap .i64 (x1+(1:Int))))
noncomputable def aEe (p0v:aC):Option Int:=lim fun n=>vG n p0v
noncomputable def xY (aFO:aC→Option Int) (p0v:aC) (s4:(Int × Int)):Option (bS (Int × Int) Int) :=
 cond (decide (s4.2<((p0v.Items).length:Int))) ((jV p0v.Items s4.2).bind fun x6=>(aFO x6).bind fun x8=>some (bS.next ((IntKind.wrap .i64 (s4.1+x8)),(IntKind.wrap .i64 (s4.2+(1:Int)))))) (some (bS.out s4.1))
noncomputable def xN:Nat→aC→Option Int
 | 0,_=>none
 | n+1,p0v =>
  ((dL (xY (xN n) p0v) (((1:Int),(0:Int)))):Option Int).bind fun x1=>(some x1)
noncomputable def aFR (p0v:aC):Option Int:=lim fun n=>xN n p0v
noncomputable def zN (p0v:aC):Option Bool :=
 (aEf p0v).bind fun x1=>(gd (x1==true) (aEe p0v)).bind fun x3=>(gd ((cond x1 (decide (x3≤(16:Int))) false)==true) (aFR p0v)).bind fun x5=>some (cond (cond x1 (decide (x3≤(16:Int))) false) (decide (x5≤(1000:Int))) false)
noncomputable def uP (aDB:aC→Option Bool) (p0v:aC) (s4:Int):Option (bS Int (Fl Bool Unit)) :=
 cond (decide (s4<((p0v.Items).length:Int))) ((jV p0v.Items s4).bind fun x6=>(aDB x6).bind fun x8=>cond x8 (some (bS.out (Fl.done true))) (some (bS.next (IntKind.wrap .i64 (s4+(1:Int)))))) (some (bS.out (Fl.go ())))
noncomputable def tI:Nat→aC→Option Bool
 | 0,_=>none
 | n+1,p0v =>
  ((dL (uP (tI n) p0v) ((0:Int))):Option (Fl Bool Unit)).bind fun x1=>Fl.next x1 (fun j3=>(some (decide (p0v.Kind=(6:Int)))))
noncomputable def aCN (p0v:aC):Option Bool:=lim fun n=>tI n p0v
noncomputable def xM (p0v:aC):Option Bool :=
 (tA p0v).bind fun x1=>(gd (x1==true) (zN p0v)).bind fun x3=>(gd ((cond x1 x3 false)==true) (aCN p0v)).bind fun x5=>some (cond (cond x1 x3 false) (!x5) false)
end Go.Proofs.YtnigjppddilpcaaGreatDoor
