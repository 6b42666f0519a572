import Derived.Test.YtnigjppddilpcaaGreatDoorGETy
import Derived.Test.YtnigjppddilpcaaGreatDoorGEF10
namespace Go.Proofs.YtnigjppddilpcaaGreatDoor
open Go Abs
set_option maxRecDepth 100000
set_option linter.unusedVariables false
set_option linter.unusedSimpArgs false
noncomputable def nZ (bV:aM) (s4:Int):Option (bS Int (Fl (Int × Int) Unit)) :=
 cond (decide (s4≤(10:Int))) (cond (decide (((bV.Rest).length:Int)<s4)) (some (bS.out (Fl.done ((0:Int),(4:Int))))) ((jV bV.Rest (IntKind.wrap .i64 (s4 - (1:Int)))).bind fun x10=>cond (decide (((x10).toNat:Int)<(128:Int))) (cond (cond (cond (decide ((1:Int)<s4)) (decide (((x10).toNat:Int)=(0:Int))) false) true (cond (decide (s4=(10:Int))) (decide ((1:Int)<((x10).toNat:Int))) false)) (some (bS.out (Fl.done ((0:Int),(3:Int))))) (some (bS.out (Fl.done (s4,(0:Int)))))) (some (bS.next (IntKind.wrap .i64 (s4+(1:Int))))))) (some (bS.out (Fl.go ())))
noncomputable def qQ (bV:aM):Option (Int × Int) :=
 ((dL (nZ bV) ((1:Int))):Option (Fl (Int × Int) Unit)).bind fun x1=>Fl.next x1 (fun j3=>(some ((0:Int),(3:Int))))
noncomputable def iT (p1e:Int) (bV:aM):Option aM :=
 some (aM.mk bV.Made ([]:(List UInt8)) p1e)
noncomputable def eZ (bV:aM):Option Bool :=
 some (cond (!bV.Made) true (!decide (bV.Bad=(0:Int))))
noncomputable def pT (bV:aM) (s14:(Int × Int)):Option (bS (Int × Int) Int) :=
 cond (decide ((0:Int)≤s14.2)) ((jV bV.Rest s14.2).bind fun x16=>some (bS.next ((IntKind.wrap .u64 ((IntKind.wrap .u64 (s14.1*(128:Int)))+(IntKind.wrap .u64 (Int.tmod ((x16).toNat:Int) (128:Int))))),(IntKind.wrap .i64 (s14.2 - (1:Int)))))) (some (bS.out s14.1))
noncomputable def fS (oT:Int) (lG:Int) (bV:aM):Option (Int × aM) :=
 (eZ bV).bind fun x1=>cond x1 (some ((0:Int),bV)) ((qQ bV).bind fun x5=>cond (!decide (x5.2=(0:Int))) ((iT x5.2 bV).bind fun x8=>some ((0:Int),x8)) (((dL (pT bV) (((0:Int),(IntKind.wrap .i64 (x5.1 - (1:Int)))))):Option Int).bind fun x11=>(((cond (decide ((Int.tmod x11 (2:Int))=(1:Int))) (some (IntKind.wrap .i64 ((IntKind.wrap .i64 (0 - (IntKind.wrap .i64 (IntKind.wrap .u64 (Int.tdiv x11 (2:Int)))))) - (1:Int)))) (some (IntKind.wrap .i64 (IntKind.wrap .u64 (Int.tdiv x11 (2:Int)))))):Option Int).bind fun x20=>(cond (cond (decide (x20<oT)) true (decide (lG<x20))) ((iT (14:Int) bV).bind fun x26=>some ((0:Int),x26)) ((aJu bV.Rest x5.1).bind fun x29=>some (x20,(aM.mk bV.Made (List.drop (Int.toNat x5.1) bV.Rest) bV.Bad)))))))
noncomputable def eH (sW:Int) (bV:aM):Option ((List UInt8) × aM) :=
 (fS (0:Int) sW bV).bind fun x1=>(eZ x1.2).bind fun x3=>cond x3 (some (([]:List UInt8),x1.2)) (cond (decide (((x1.2.Rest).length:Int)<x1.1)) ((iT (4:Int) x1.2).bind fun x8=>some (([]:List UInt8),x8)) ((aKF x1.2.Rest x1.1).bind fun x11=>(aJu x1.2.Rest x1.1).bind fun x13=>some ((List.take (Int.toNat x1.1) x1.2.Rest),(aM.mk x1.2.Made (List.drop (Int.toNat x1.1) x1.2.Rest) x1.2.Bad))))
noncomputable def jO (cN:Int) (gY:aM):Option Bool :=
 (iS gY).bind fun x1=>some (decide (x1=(0:Int)))
noncomputable def gR (p1e:Int) (bV:aM):Option aM :=
 (eZ bV).bind fun x1=>cond (cond (!x1) (!decide (p1e=(0:Int))) false) ((iT p1e bV).bind fun x4=>some x4) (some bV)
noncomputable def eG (aQ3:Bool) (cN:Int) (gY:aM):Option aM :=
 cond (!aQ3) ((gR (3:Int) gY).bind fun x2=>some x2) (some gY)
noncomputable def iU (cN:Int) (gY:aM):Option (Int × aM) :=
 (fS (-9223372036854775808:Int) (9223372036854775807:Int) gY).bind fun x1=>some (x1.1,x1.2)
noncomputable def nJ (cN:Int) (gY:aM):Option ((List UInt8) × aM) :=
 (eH (9223372036854775807:Int) gY).bind fun x1=>(eG (decide (((x1.1).length:Int)≤(4096:Int))) cN x1.2).bind fun x3=>some (x1.1,x3)
noncomputable def dX (kM:Int→Int→aM→Option (aC × Int × aM)) (x1:(Int × aM)) (oU:Int) (kL:Int) (s8:(Int × Int × aM × (List aC) × (List (List UInt8)))):Option (bS (Int × Int × aM × (List aC) × (List (List UInt8))) (Int × aM × (List aC) × (List (List UInt8)))) :=
 ((cond (decide (s8.1<x1.1)) ((jO s8.2.1 s8.2.2.1).bind fun x13=>cond x13 (some (Fl.go ())) (some (Fl.done (bS.out (s8.2.1,s8.2.2.1,s8.2.2.2.1,s8.2.2.2.2))))) (some (Fl.done (bS.out (s8.2.1,s8.2.2.1,s8.2.2.2.1,s8.2.2.2.2))))):Option (Fl (bS (Int × Int × aM × (List aC) × (List (List UInt8))) (Int × aM × (List aC) × (List (List UInt8)))) Unit)).bind fun x9=>Fl.next x9 (fun j11=>(((cond (decide (oU=(5:Int))) ((nJ s8.2.1 s8.2.2.1).bind fun x25=>(app 16 s8.2.2.2.2 ([x25.1]:List (List UInt8))).bind fun x27=>(gd ((decide (s8.1=(0:Int)))==false) (jV x27 (IntKind.wrap .i64 (s8.1 - (1:Int))))).bind fun x29=>(gd ((decide (s8.1=(0:Int)))==false) (jV x27 s8.1)).bind fun x31=>(eG (cond (decide (s8.1=(0:Int))) true (Op.bytesLess x29 x31)) s8.2.1 x25.2).bind fun x33=>some (x33,x27)) (some (s8.2.2.1,s8.2.2.2.2))):Option (aM × (List (List UInt8)))).bind fun x21=>((jO s8.2.1 x21.1).bind fun x36=>cond x36 ((kM (IntKind.wrap .i64 (kL+(1:Int))) s8.2.1 x21.1).bind fun x39=>(app 80 s8.2.2.2.1 ([x39.1]:List aC)).bind fun x41=>some (bS.next ((IntKind.wrap .i64 (s8.1+(1:Int))),x39.2.1,x39.2.2,x41,x21.2))) (some (bS.next ((IntKind.wrap .i64 (s8.1+(1:Int))),s8.2.1,x21.1,s8.2.2.2.1,x21.2))))))
mutual
noncomputable def gH:Nat→Int→Int→(List UInt8)→Int→Int→aM→Option (aC × Int × aM)
 | 0,_,_,_,_,_,_=>none
 | n+1,oU,aAU,aAV,kL,cN,gY =>
  (iU cN gY).bind fun x1=>(eG (cond (decide ((0:Int)≤x1.1)) (decide (x1.1≤(1000:Int))) false) cN x1.2).bind fun x3=>((dL (dX (dA n) x1 oU kL) (((0:Int),cN,x3,([]:(List aC)),([]:(List (List UInt8)))))):Option (Int × aM × (List aC) × (List (List UInt8)))).bind fun x5=>(some ((aC.mk oU aAU aAV x5.2.2.1 x5.2.2.2),x5.1,x5.2.1))
noncomputable def dA:Nat→Int→Int→aM→Option (aC × Int × aM)
 | 0,_,_,_=>none
 | n+1,iI,cN,gY =>
  (eG (cond (decide (cN<(1000:Int))) (decide (iI≤(16:Int))) false) cN gY).bind fun x1=>(iU (IntKind.wrap .i64 (cN+(1:Int))) x1).bind fun x3=>(eG (cond (decide ((0:Int)≤x3.1)) (decide (x3.1≤(5:Int))) false) (IntKind.wrap .i64 (cN+(1:Int))) x3.2).bind fun x5=>(jO (IntKind.wrap .i64 (cN+(1:Int))) x5).bind fun x7=>cond (!x7) (some ((aC.mk (0:Int) (0:Int) ([]:List UInt8) ([]:(List aC)) ([]:(List (List UInt8)))),(IntKind.wrap .i64 (cN+(1:Int))),x5)) (((cond (decide (x3.1=(1:Int))) ((iU (IntKind.wrap .i64 (cN+(1:Int))) x5).bind fun x15=>(eG (cond (decide (x15.1=(0:Int))) true (decide (x15.1=(1:Int)))) (IntKind.wrap .i64 (cN+(1:Int))) x15.2).bind fun x17=>some ((IntKind.wrap .i64 (cN+(1:Int))),x17,(aC.mk x3.1 x15.1 ([]:List UInt8) ([]:(List aC)) ([]:(List (List UInt8)))))) (cond (decide (x3.1=(2:Int))) ((iU (IntKind.wrap .i64 (cN+(1:Int))) x5).bind fun x20=>some ((IntKind.wrap .i64 (cN+(1:Int))),x20.2,(aC.mk x3.1 x20.1 ([]:List UInt8) ([]:(List aC)) ([]:(List (List UInt8)))))) (cond (decide (x3.1=(3:Int))) ((nJ (IntKind.wrap .i64 (cN+(1:Int))) x5).bind fun x23=>some ((IntKind.wrap .i64 (cN+(1:Int))),x23.2,(aC.mk x3.1 (0:Int) x23.1 ([]:(List aC)) ([]:(List (List UInt8)))))) (((cond (decide (x3.1=(4:Int))) (some (decide (x3.1=(4:Int)))) (some (decide (x3.1=(5:Int))))):Option Bool).bind fun x25=>(cond x25 (((gH n) x3.1 (0:Int) ([]:List UInt8) iI (IntKind.wrap .i64 (cN+(1:Int))) x5).bind fun x31=>some (x31.2.1,x31.2.2,x31.1)) (some ((IntKind.wrap .i64 (cN+(1:Int))),x5,(aC.mk x3.1 (0:Int) ([]:List UInt8) ([]:(List aC)) ([]:(List (List UInt8))))))))))):Option (Int × aM × aC)).bind fun x11=>(some (x11.2.2,x11.1,x11.2.1)))
end
noncomputable def pV (iI:Int) (cN:Int) (gY:aM):Option (aC × Int × aM):=lim fun n=>dA n iI cN gY
noncomputable def vF (bV:aM):Option (aC × aM) :=
 (pV (1:Int) (0:Int) bV).bind fun x1=>(jO x1.2.1 x1.2.2).bind fun x3=>cond (!x3) (some ((aC.mk (0:Int) (0:Int) ([]:List UInt8) ([]:(List aC)) ([]:(List (List UInt8)))),x1.2.2)) (some (x1.1,x1.2.2))
noncomputable def jB (bV:aM):Option (Int × aM) :=
 (fS (-9223372036854775808:Int) (9223372036854775807:Int) bV).bind fun x1=>some (x1.1,x1.2)
end Go.Proofs.YtnigjppddilpcaaGreatDoor
