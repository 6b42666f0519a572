import Derived.Test.YtnigjppddilpcaaGreatDoorGETy
import Derived.Test.YtnigjppddilpcaaGreatDoorGEF10
namespace Go.Proofs.YtnigjppddilpcaaGreatDoor
open Go Abs
set_option maxRecDepth 100000
set_option linter.unusedVariables false
set_option linter.unusedSimpArgs false
noncomputable def sM (dT:iF) (s4:Int):Option (dG Int (Fl (Int × Int) Unit)) :=
 cond (decide (s4≤10)) (cond (decide (((dT.Rest).length:Int)<s4)) (some (dG.out (Fl.done (0,4)))) ((nF dT.Rest (IntKind.wrap .i64 (s4 - 1))).bind fun x10=>cond (decide (((x10).toNat:Int)<128)) (cond (cond (cond (decide (1<s4)) (decide (((x10).toNat:Int)=0)) false) true (cond (decide (s4=10)) (decide (1<((x10).toNat:Int))) false)) (some (dG.out (Fl.done (0,3)))) (some (dG.out (Fl.done (s4,0))))) (some (dG.next (IntKind.wrap .i64 (s4+1)))))) (some (dG.out (Fl.go ())))
noncomputable def vL (dT:iF):Option (Int × Int) :=
 (fX (sM dT) (1)).bind fun x1=>Fl.next x1 (fun j3=>(some (0,3)))
noncomputable def uD (p1e:Int) (dT:iF):Option iF :=
 some (iF.mk dT.Made ([]:(List UInt8)) p1e)
noncomputable def qM (dT:iF):Option Bool :=
 some (cond (!dT.Made) true (!decide (dT.Bad=0)))
noncomputable def uO (dT:iF) (s14:(Int × Int)):Option (dG (Int × Int) Int) :=
 cond (decide (0≤s14.2)) ((nF dT.Rest s14.2).bind fun x16=>some (dG.next ((IntKind.wrap .u64 ((IntKind.wrap .u64 (s14.1*128))+(IntKind.wrap .u64 (Int.tmod ((x16).toNat:Int) 128)))),(IntKind.wrap .i64 (s14.2 - 1))))) (some (dG.out s14.1))
noncomputable def nG (tK:Int) (pM:Int) (dT:iF):Option (Int × iF) :=
 (qM dT).bind fun x1=>cond x1 (some (0,dT)) ((vL dT).bind fun x5=>cond (!decide (x5.2=0)) ((uD x5.2 dT).bind fun x8=>some (0,x8)) ((fX (uO dT) ((0,(IntKind.wrap .i64 (x5.1 - 1))))).bind fun x11=>(((cond (decide ((Int.tmod x11 2)=1)) (some (IntKind.wrap .i64 ((IntKind.wrap .i64 (0 - (IntKind.wrap .i64 (IntKind.wrap .u64 (Int.tdiv x11 2))))) - 1))) (some (IntKind.wrap .i64 (IntKind.wrap .u64 (Int.tdiv x11 2))))):Option Int).bind fun x20=>(cond (cond (decide (x20<tK)) true (decide (pM<x20))) ((uD 14 dT).bind fun x26=>some (0,x26)) ((aMs dT.Rest x5.1).bind fun x29=>some (x20,(iF.mk dT.Made (List.drop (Int.toNat x5.1) dT.Rest) dT.Bad)))))))
