import Derived.Test.YtnigjppddilpcaaGreatDoorGETy
namespace Go.Proofs.YtnigjppddilpcaaGreatDoor
open Go Abs
set_option maxRecDepth 100000
set_option linter.unusedVariables false
set_option linter.unusedSimpArgs false
noncomputable def uL (p0n:Int):Option Int :=
 cond (decide ((0:Int)≤p0n)) (some (IntKind.wrap .u64 ((2:Int)*(IntKind.wrap .u64 p0n)))) (some (IntKind.wrap .u64 ((IntKind.wrap .u64 ((2:Int)*(IntKind.wrap .u64 (IntKind.wrap .i64 (0 - (IntKind.wrap .i64 (p0n+(1:Int))))))))+(1:Int))))
noncomputable def qP  (s8:((List UInt8) × Int)):Option (cD ((List UInt8) × Int) ((List UInt8) × Int)) :=
 cond (decide ((127:Int)<s8.2)) ((jP (IntKind.wrap .u8 (IntKind.wrap .u64 ((Int.tmod s8.2 (128:Int))+(128:Int))))).bind fun x10=>(app 1 s8.1 ([x10]:List UInt8)).bind fun x12=>some (cD.next (x12,(IntKind.wrap .u64 (Int.tdiv s8.2 (128:Int)))))) (some (cD.out (s8.1,s8.2)))
noncomputable def iP (p0b:(List UInt8)) (p1n:Int):Option (List UInt8) :=
 (app 1 ([]:List UInt8) p0b).bind fun x1=>(uL p1n).bind fun x3=>((dO (qP) ((x1,x3))):Option ((List UInt8) × Int)).bind fun x5=>((jP (IntKind.wrap .u8 x5.2)).bind fun x16=>(app 1 x5.1 ([x16]:List UInt8)).bind fun x18=>some x18)
noncomputable def pM (p1s:(List UInt8)) (s6:((List UInt8) × Int)):Option (cD ((List UInt8) × Int) (List UInt8)) :=
 cond (decide (s6.2<((p1s).length:Int))) ((gR p1s s6.2).bind fun x8=>(jP ((x8).toNat:Int)).bind fun x10=>(app 1 s6.1 ([x10]:List UInt8)).bind fun x12=>some (cD.next (x12,(IntKind.wrap .i64 (s6.2+(1:Int)))))) (some (cD.out s6.1))
noncomputable def gZ (p0b:(List UInt8)) (p1s:(List UInt8)):Option (List UInt8) :=
 (iP p0b ((p1s).length:Int)).bind fun x1=>((dO (pM p1s) ((x1,(0:Int)))):Option (List UInt8)).bind fun x3=>(some x3)
noncomputable def qQ (aCp:(List (List UInt8))) (s4:Int):Option (cD Int (Fl Bool Unit)) :=
 cond (decide (s4<((aCp).length:Int))) ((gR aCp (IntKind.wrap .i64 (s4 - (1:Int)))).bind fun x6=>(gR aCp s4).bind fun x8=>cond (!Op.bytesLess x6 x8) (some (cD.out (Fl.done false))) (some (cD.next (IntKind.wrap .i64 (s4+(1:Int)))))) (some (cD.out (Fl.go ())))
noncomputable def uN (aCp:(List (List UInt8))):Option Bool :=
 ((dO (qQ aCp) ((1:Int))):Option (Fl Bool Unit)).bind fun x1=>Fl.next x1 (fun j3=>(some true))
noncomputable def nF (wH:aD→Option Bool) (p0C:aD) (s4:Int):Option (cD Int (Fl Bool Unit)) :=
 cond (decide (s4<((p0C.Items).length:Int))) ((gR p0C.Items s4).bind fun x6=>(wH x6).bind fun x8=>cond (!x8) (some (cD.out (Fl.done false))) (some (cD.next (IntKind.wrap .i64 (s4+(1:Int)))))) (some (cD.out (Fl.go ())))
noncomputable def lZ:Nat→aD→Option Bool
 | 0,_=>none
 | n+1,p0C =>
  ((dO (nF (lZ n) p0C) ((0:Int))):Option (Fl Bool Unit)).bind fun x1=>Fl.next x1 (fun j3=>(cond (decide (p0C.Kind=(0:Int))) (some (cond (cond (cond (decide (p0C.Int=(0:Int))) (decide (p0C.Text=([]:List UInt8))) false) (decide (((p0C.Items).length:Int)=(0:Int))) false) (decide (((p0C.Keys).length:Int)=(0:Int))) false)) (cond (decide (p0C.Kind=(1:Int))) (some (cond (cond (cond (cond (decide (p0C.Int=(0:Int))) true (decide (p0C.Int=(1:Int)))) (decide (p0C.Text=([]:List UInt8))) false) (decide (((p0C.Items).length:Int)=(0:Int))) false) (decide (((p0C.Keys).length:Int)=(0:Int))) false)) (cond (decide (p0C.Kind=(2:Int))) (some (cond (cond (decide (p0C.Text=([]:List UInt8))) (decide (((p0C.Items).length:Int)=(0:Int))) false) (decide (((p0C.Keys).length:Int)=(0:Int))) false)) (cond (decide (p0C.Kind=(3:Int))) (some (cond (cond (decide (p0C.Int=(0:Int))) (decide (((p0C.Items).length:Int)=(0:Int))) false) (decide (((p0C.Keys).length:Int)=(0:Int))) false)) (cond (decide (p0C.Kind=(4:Int))) (some (cond (cond (decide (p0C.Int=(0:Int))) (decide (p0C.Text=([]:List UInt8))) false) (decide (((p0C.Keys).length:Int)=(0:Int))) false)) (cond (decide (p0C.Kind=(5:Int))) ((gd ((cond (cond (decide (p0C.Int=(0:Int))) (decide (p0C.Text=([]:List UInt8))) false) (decide (((p0C.Keys).length:Int)=((p0C.Items).length:Int))) false)==true) (uN p0C.Keys)).bind fun x27=>some (cond (cond (cond (decide (p0C.Int=(0:Int))) (decide (p0C.Text=([]:List UInt8))) false) (decide (((p0C.Keys).length:Int)=((p0C.Items).length:Int))) false) x27 false)) (cond (decide (p0C.Kind=(6:Int))) (some (cond (cond (cond (decide ((0:Int)≤p0C.Int)) (decide (p0C.Text=([]:List UInt8))) false) (decide (((p0C.Items).length:Int)=(0:Int))) false) (decide (((p0C.Keys).length:Int)=(0:Int))) false)) (some false)))))))))
noncomputable def tP (p0C:aD):Option Bool:=lim fun n=>lZ n p0C
noncomputable def oT (aDh:(List UInt8)→aD→Option (List UInt8)) (p1v:aD) (s29:((List UInt8) × Int)):Option (cD ((List UInt8) × Int) (List UInt8)) :=
 cond (decide (s29.2<((p1v.Items).length:Int))) (((cond (decide (p1v.Kind=(5:Int))) ((gR p1v.Keys s29.2).bind fun x35=>(gZ s29.1 x35).bind fun x37=>some x37) (some s29.1)):Option (List UInt8)).bind fun x31=>((gR p1v.Items s29.2).bind fun x40=>(aDh x31 x40).bind fun x42=>some (cD.next (x42,(IntKind.wrap .i64 (s29.2+(1:Int))))))) (some (cD.out s29.1))
noncomputable def uO:Nat→(List UInt8)→aD→Option (List UInt8)
 | 0,_,_=>none
 | n+1,p0b,p1v =>
  (iP p0b p1v.Kind).bind fun x1=>((((cond (decide (p1v.Kind=(1:Int))) (some (decide (p1v.Kind=(1:Int)))) (cond (decide (p1v.Kind=(2:Int))) (some (decide (p1v.Kind=(2:Int)))) (some (decide (p1v.Kind=(6:Int)))))):Option Bool).bind fun x6=>(cond x6 ((iP x1 p1v.Int).bind fun x13=>some x13) (cond (decide (p1v.Kind=(3:Int))) ((gZ x1 p1v.Text).bind fun x16=>some x16) (((cond (decide (p1v.Kind=(4:Int))) (some (decide (p1v.Kind=(4:Int)))) (some (decide (p1v.Kind=(5:Int))))):Option Bool).bind fun x18=>(cond x18 ((iP x1 ((p1v.Items).length:Int)).bind fun x24=>((dO (oT (uO n) p1v) ((x24,(0:Int)))):Option (List UInt8)).bind fun x26=>(some x26)) (some x1)))))):Option (List UInt8)).bind fun x3=>(some x3)
noncomputable def aDV (p0b:(List UInt8)) (p1v:aD):Option (List UInt8):=lim fun n=>uO n p0b p1v
noncomputable def uM (p0b:(List UInt8)) (p1v:aD):Option (List UInt8) :=
 (app 1 ([]:List UInt8) p0b).bind fun x1=>(tP p1v).bind fun x3=>cond (!x3) (some x1) ((aDV x1 p1v).bind fun x7=>some x7)
noncomputable def wJ (p0n:Int) (oR:Int) (kX:Int):Option Bool :=
 some (cond (decide (oR≤p0n)) (decide (p0n≤kX)) false)
noncomputable def uP (p0c:Int):Option Bool :=
 some (cond (cond (cond (cond (decide ((97:Int)≤p0c)) (decide (p0c≤(122:Int))) false) true (cond (decide ((65:Int)≤p0c)) (decide (p0c≤(90:Int))) false)) true (cond (decide ((48:Int)≤p0c)) (decide (p0c≤(57:Int))) false)) true (decide (p0c=(95:Int))))
noncomputable def rU (p0s:(List UInt8)) (s10:Int):Option (cD Int (Fl Bool Unit)) :=
 cond (decide (s10<((p0s).length:Int))) ((gR p0s s10).bind fun x12=>(uP ((x12).toNat:Int)).bind fun x14=>cond (!x14) (some (cD.out (Fl.done false))) (some (cD.next (IntKind.wrap .i64 (s10+(1:Int)))))) (some (cD.out (Fl.go ())))
noncomputable def wI (p0s:(List UInt8)):Option Bool :=
 (gd ((cond (decide (((p0s).length:Int)<(1:Int))) true (decide ((64:Int)<((p0s).length:Int))))==false) (gR p0s (0:Int))).bind fun x1=>(gd (((cond (decide (((p0s).length:Int)<(1:Int))) true (decide ((64:Int)<((p0s).length:Int))))==false)&&((decide ((48:Int)≤((x1).toNat:Int)))==true)) (gR p0s (0:Int))).bind fun x3=>cond (cond (cond (decide (((p0s).length:Int)<(1:Int))) true (decide ((64:Int)<((p0s).length:Int)))) true (cond (decide ((48:Int)≤((x1).toNat:Int))) (decide (((x3).toNat:Int)≤(57:Int))) false)) (some false) (((dO (rU p0s) ((0:Int))):Option (Fl Bool Unit)).bind fun x7=>Fl.next x7 (fun j9=>(some true)))
noncomputable def mP (p0o:bP) (s4:Int):Option (cD Int (Fl Bool Unit)) :=
 cond (decide (s4<((([p0o.ToStart,p0o.ToClose,p0o.Total,p0o.Beat,p0o.First,p0o.Most]:List Int)).length:Int))) ((gR ([p0o.ToStart,p0o.ToClose,p0o.Total,p0o.Beat,p0o.First,p0o.Most]:List Int) s4).bind fun x6=>(wJ x6 (0:Int) (1099511627776:Int)).bind fun x8=>cond (!x8) (some (cD.out (Fl.done false))) (some (cD.next (IntKind.wrap .i64 (s4+(1:Int)))))) (some (cD.out (Fl.go ())))
noncomputable def mQ (p0o:bP) (s19:Int):Option (cD Int (Fl Bool Unit)) :=
 cond (decide (s19<((p0o.Fatal).length:Int))) ((gR p0o.Fatal s19).bind fun x21=>cond (decide ((4096:Int)<((x21).length:Int))) (some (cD.out (Fl.done false))) (some (cD.next (IntKind.wrap .i64 (s19+(1:Int)))))) (some (cD.out (Fl.go ())))
noncomputable def oU (p0o:bP):Option Bool :=
 ((dO (mP p0o) ((0:Int))):Option (Fl Bool Unit)).bind fun x1=>Fl.next x1 (fun j3=>(((dO (mQ p0o) ((0:Int))):Option (Fl Bool Unit)).bind fun x16=>Fl.next x16 (fun j18=>((gd ((decide (p0o.Queue=([]:List UInt8)))==false) (wI p0o.Queue)).bind fun x29=>(gd ((cond (decide (p0o.Queue=([]:List UInt8))) true x29)==true) (wJ p0o.Coef (0:Int) (10000:Int))).bind fun x31=>(gd ((cond (cond (decide (p0o.Queue=([]:List UInt8))) true x29) x31 false)==true) (wJ p0o.Attempts (0:Int) (1000:Int))).bind fun x33=>some (cond (cond (cond (cond (decide (p0o.Queue=([]:List UInt8))) true x29) x31 false) x33 false) (decide (((p0o.Fatal).length:Int)≤(64:Int))) false)))))
noncomputable def lS (p1o:bP) (s12:((List UInt8) × Int)):Option (cD ((List UInt8) × Int) (List UInt8)) :=
 cond (decide (s12.2<((([p1o.ToStart,p1o.ToClose,p1o.Total,p1o.Beat,p1o.First,p1o.Coef,p1o.Most,p1o.Attempts,((p1o.Fatal).length:Int)]:List Int)).length:Int))) ((gR ([p1o.ToStart,p1o.ToClose,p1o.Total,p1o.Beat,p1o.First,p1o.Coef,p1o.Most,p1o.Attempts,((p1o.Fatal).length:Int)]:List Int) s12.2).bind fun x14=>(iP s12.1 x14).bind fun x16=>some (cD.next (x16,(IntKind.wrap .i64 (s12.2+(1:Int)))))) (some (cD.out s12.1))
noncomputable def lT (p1o:bP) (s23:((List UInt8) × Int)):Option (cD ((List UInt8) × Int) (List UInt8)) :=
 cond (decide (s23.2<((p1o.Fatal).length:Int))) ((gR p1o.Fatal s23.2).bind fun x25=>(gZ s23.1 x25).bind fun x27=>some (cD.next (x27,(IntKind.wrap .i64 (s23.2+(1:Int)))))) (some (cD.out s23.1))
noncomputable def nU (p0b:(List UInt8)) (p1o:bP):Option (List UInt8) :=
 (app 1 ([]:List UInt8) p0b).bind fun x1=>(oU p1o).bind fun x3=>cond (!x3) (some x1) ((gZ x1 p1o.Queue).bind fun x7=>((dO (lS p1o) ((x7,(0:Int)))):Option (List UInt8)).bind fun x9=>(((dO (lT p1o) ((x9,(0:Int)))):Option (List UInt8)).bind fun x20=>(some x20)))
end Go.Proofs.YtnigjppddilpcaaGreatDoor
