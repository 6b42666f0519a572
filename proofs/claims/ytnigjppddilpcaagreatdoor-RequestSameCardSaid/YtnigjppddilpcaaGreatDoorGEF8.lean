import Derived.Test.YtnigjppddilpcaaGreatDoorGETy
import Derived.Test.YtnigjppddilpcaaGreatDoorGEF0
import Derived.Test.YtnigjppddilpcaaGreatDoorGEF1
import Derived.Test.YtnigjppddilpcaaGreatDoorGEF6
import Derived.Test.YtnigjppddilpcaaGreatDoorGEF7
namespace Go.Proofs.YtnigjppddilpcaaGreatDoor
open Go Abs
set_option maxRecDepth 100000
set_option linter.unusedVariables false
set_option linter.unusedSimpArgs false
noncomputable def aAq (p0v:aE) (s6:Int):Option (dG Int (Fl Bool Unit)) :=
 cond (decide (s6<((p0v.Keys).length:Int))) ((nF p0v.Keys s6).bind fun x8=>cond (decide (4096<((x8).length:Int))) (some (dG.out (Fl.done false))) (some (dG.next (IntKind.wrap .i64 (s6+1))))) (some (dG.out (Fl.go ())))
noncomputable def aAr (aFV:aE→Option Bool) (p0v:aE) (s19:Int):Option (dG Int (Fl Bool Unit)) :=
 cond (decide (s19<((p0v.Items).length:Int))) ((nF p0v.Items s19).bind fun x21=>(aFV x21).bind fun x23=>cond (!x23) (some (dG.out (Fl.done false))) (some (dG.next (IntKind.wrap .i64 (s19+1))))) (some (dG.out (Fl.go ())))
noncomputable def zO:Nat→aE→Option Bool
 | 0,_=>none
 | n+1,p0v =>
  cond (decide (4096<((p0v.Text).length:Int))) (some false) ((fX (aAq p0v) (0)).bind fun x3=>Fl.next x3 (fun j5=>((fX (aAr (zO n) p0v) (0)).bind fun x16=>Fl.next x16 (fun j18=>(some true)))))
noncomputable def aFD (p0v:aE):Option Bool:=lim fun n=>zO n p0v
noncomputable def aAp (aFU:aE→Option Int) (p0v:aE) (s4:(Int × Int)):Option (dG (Int × Int) Int) :=
 cond (decide (s4.2<((p0v.Items).length:Int))) ((nF p0v.Items s4.2).bind fun x6=>(aFU x6).bind fun x8=>cond (decide (s4.1<x8)) (some (dG.next (x8,(IntKind.wrap .i64 (s4.2+1))))) (some (dG.next (s4.1,(IntKind.wrap .i64 (s4.2+1)))))) (some (dG.out s4.1))
noncomputable def zM:Nat→aE→Option Int
 | 0,_=>none
 | n+1,p0v =>
  (fX (aAp (zM n) p0v) ((0,0))).bind fun x1=>(some (IntKind.wrap .i64 (x1+1)))
noncomputable def aFC (p0v:aE):Option Int:=lim fun n=>zM n p0v
noncomputable def aA5 (aHc:aE→Option Int) (p0v:aE) (s4:(Int × Int)):Option (dG (Int × Int) Int) :=
 cond (decide (s4.2<((p0v.Items).length:Int))) ((nF p0v.Items s4.2).bind fun x6=>(aHc x6).bind fun x8=>some (dG.next ((IntKind.wrap .i64 (s4.1+x8)),(IntKind.wrap .i64 (s4.2+1))))) (some (dG.out s4.1))
noncomputable def aAP:Nat→aE→Option Int
 | 0,_=>none
 | n+1,p0v =>
  (fX (aA5 (aAP n) p0v) ((1,0))).bind fun x1=>(some x1)
noncomputable def aHf (p0v:aE):Option Int:=lim fun n=>aAP n p0v
noncomputable def aBD (p0v:aE):Option Bool :=
 (aFD p0v).bind fun x1=>(gd (x1==true) (aFC p0v)).bind fun x3=>(gd ((cond x1 (decide (x3≤16)) false)==true) (aHf p0v)).bind fun x5=>some (cond (cond x1 (decide (x3≤16)) false) (decide (x5≤1000)) false)
noncomputable def yR (aE7:aE→Option Bool) (p0v:aE) (s4:Int):Option (dG Int (Fl Bool Unit)) :=
 cond (decide (s4<((p0v.Items).length:Int))) ((nF p0v.Items s4).bind fun x6=>(aE7 x6).bind fun x8=>cond x8 (some (dG.out (Fl.done true))) (some (dG.next (IntKind.wrap .i64 (s4+1))))) (some (dG.out (Fl.go ())))
noncomputable def xV:Nat→aE→Option Bool
 | 0,_=>none
 | n+1,p0v =>
  (fX (yR (xV n) p0v) (0)).bind fun x1=>Fl.next x1 (fun j3=>(some (decide (p0v.Kind=6))))
noncomputable def aEp (p0v:aE):Option Bool:=lim fun n=>xV n p0v
noncomputable def aAO (p0v:aE):Option Bool :=
 (xN p0v).bind fun x1=>(gd (x1==true) (aBD p0v)).bind fun x3=>(gd ((cond x1 x3 false)==true) (aEp p0v)).bind fun x5=>some (cond (cond x1 x3 false) (!x5) false)
