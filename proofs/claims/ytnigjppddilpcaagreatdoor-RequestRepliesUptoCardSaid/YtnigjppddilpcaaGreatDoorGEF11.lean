import Derived.Test.YtnigjppddilpcaaGreatDoorGETy
import Derived.Test.YtnigjppddilpcaaGreatDoorGEF10
namespace Go.Proofs.YtnigjppddilpcaaGreatDoor
open Go Abs
set_option maxRecDepth 100000
set_option linter.unusedVariables false
set_option linter.unusedSimpArgs false
noncomputable def wR (eK:jQ) (s4:Int):Option (dU Int (Fl (Int × Int) Unit)) :=
 cond (decide (s4≤10)) (cond (decide (((eK.Rest).length:Int)<s4)) (some (dU.out (Fl.done (0,4)))) ((mP eK.Rest (IntKind.wrap .i64 (s4 - 1))).bind fun x10=>cond (decide (((x10).toNat:Int)<128)) (cond (cond (cond (decide (1<s4)) (decide (((x10).toNat:Int)=0)) false) true (cond (decide (s4=10)) (decide (1<((x10).toNat:Int))) false)) (some (dU.out (Fl.done (0,3)))) (some (dU.out (Fl.done (s4,0))))) (some (dU.next (IntKind.wrap .i64 (s4+1)))))) (some (dU.out (Fl.go ())))
noncomputable def aAa (eK:jQ):Option (Int × Int) :=
 (gL (wR eK) (1)).bind fun x1=>Fl.next x1 (fun j3=>(some (0,3)))
noncomputable def yM (p1e:Int) (eK:jQ):Option jQ :=
 some (jQ.mk eK.Made ([]:(List UInt8)) p1e)
noncomputable def tK (eK:jQ):Option Bool :=
 some (cond (!eK.Made) true (!decide (eK.Bad=0)))
noncomputable def yX (eK:jQ) (s14:(Int × Int)):Option (dU (Int × Int) Int) :=
 cond (decide (0≤s14.2)) ((mP eK.Rest s14.2).bind fun x16=>some (dU.next ((IntKind.wrap .u64 ((IntKind.wrap .u64 (s14.1*128))+(IntKind.wrap .u64 (Int.tmod ((x16).toNat:Int) 128)))),(IntKind.wrap .i64 (s14.2 - 1))))) (some (dU.out s14.1))
noncomputable def pJ (oK:Int) (lO:Int) (eK:jQ):Option (Int × jQ) :=
 (tK eK).bind fun x1=>cond x1 (some (0,eK)) ((aAa eK).bind fun x5=>cond (!decide (x5.2=0)) ((yM x5.2 eK).bind fun x8=>some (0,x8)) ((gL (yX eK) ((0,(IntKind.wrap .i64 (x5.1 - 1))))).bind fun x11=>(((cond (decide ((Int.tmod x11 2)=1)) (some (IntKind.wrap .i64 ((IntKind.wrap .i64 (0 - (IntKind.wrap .i64 (IntKind.wrap .u64 (Int.tdiv x11 2))))) - 1))) (some (IntKind.wrap .i64 (IntKind.wrap .u64 (Int.tdiv x11 2))))):Option Int).bind fun x20=>(cond (cond (decide (x20<oK)) true (decide (lO<x20))) ((yM 14 eK).bind fun x26=>some (0,x26)) ((aPk eK.Rest x5.1).bind fun x29=>some (x20,(jQ.mk eK.Made (List.drop (Int.toNat x5.1) eK.Rest) eK.Bad)))))))
