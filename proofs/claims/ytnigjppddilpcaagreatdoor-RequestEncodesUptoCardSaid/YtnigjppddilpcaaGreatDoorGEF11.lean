import Derived.Test.YtnigjppddilpcaaGreatDoorGETy
import Derived.Test.YtnigjppddilpcaaGreatDoorGEF10
namespace Go.Proofs.YtnigjppddilpcaaGreatDoor
open Go Abs
set_option maxRecDepth 100000
set_option linter.unusedVariables false
set_option linter.unusedSimpArgs false
noncomputable def oT (cQ:fQ) (s4:Int):Option (cM Int (Fl (Int × Int) Unit)) :=
 cond (decide (s4≤(10:Int))) (cond (decide (((cQ.Rest).length:Int)<s4)) (some (cM.out (Fl.done ((0:Int),(4:Int))))) ((jT cQ.Rest (IntKind.wrap .i64 (s4 - (1:Int)))).bind fun x10=>cond (decide (((x10).toNat:Int)<(128:Int))) (cond (cond (cond (decide ((1:Int)<s4)) (decide (((x10).toNat:Int)=(0:Int))) false) true (cond (decide (s4=(10:Int))) (decide ((1:Int)<((x10).toNat:Int))) false)) (some (cM.out (Fl.done ((0:Int),(3:Int))))) (some (cM.out (Fl.done (s4,(0:Int)))))) (some (cM.next (IntKind.wrap .i64 (s4+(1:Int))))))) (some (cM.out (Fl.go ())))
noncomputable def rS (cQ:fQ):Option (Int × Int) :=
 ((eQ (oT cQ) ((1:Int))):Option (Fl (Int × Int) Unit)).bind fun x1=>Fl.next x1 (fun j3=>(some ((0:Int),(3:Int))))
noncomputable def qD (p1e:Int) (cQ:fQ):Option fQ :=
 some (fQ.mk cQ.Made ([]:(List UInt8)) p1e)
noncomputable def mK (cQ:fQ):Option Bool :=
 some (cond (!cQ.Made) true (!decide (cQ.Bad=(0:Int))))
noncomputable def qV (cQ:fQ) (s14:(Int × Int)):Option (cM (Int × Int) Int) :=
 cond (decide ((0:Int)≤s14.2)) ((jT cQ.Rest s14.2).bind fun x16=>some (cM.next ((IntKind.wrap .u64 ((IntKind.wrap .u64 (s14.1*(128:Int)))+(IntKind.wrap .u64 (Int.tmod ((x16).toNat:Int) (128:Int))))),(IntKind.wrap .i64 (s14.2 - (1:Int)))))) (some (cM.out s14.1))
noncomputable def jE (mF:Int) (iO:Int) (cQ:fQ):Option (Int × fQ) :=
 (mK cQ).bind fun x1=>cond x1 (some ((0:Int),cQ)) ((rS cQ).bind fun x5=>cond (!decide (x5.2=(0:Int))) ((qD x5.2 cQ).bind fun x8=>some ((0:Int),x8)) (((eQ (qV cQ) (((0:Int),(IntKind.wrap .i64 (x5.1 - (1:Int)))))):Option Int).bind fun x11=>(((cond (decide ((Int.tmod x11 (2:Int))=(1:Int))) (some (IntKind.wrap .i64 ((IntKind.wrap .i64 (0 - (IntKind.wrap .i64 (IntKind.wrap .u64 (Int.tdiv x11 (2:Int)))))) - (1:Int)))) (some (IntKind.wrap .i64 (IntKind.wrap .u64 (Int.tdiv x11 (2:Int)))))):Option Int).bind fun x20=>(cond (cond (decide (x20<mF)) true (decide (iO<x20))) ((qD (14:Int) cQ).bind fun x26=>some ((0:Int),x26)) ((aKn cQ.Rest x5.1).bind fun x29=>some (x20,(fQ.mk cQ.Made (List.drop (Int.toNat x5.1) cQ.Rest) cQ.Bad)))))))
end Go.Proofs.YtnigjppddilpcaaGreatDoor
