import Derived.Test.YtnigjppddilpcaaGreatDoorGETy
namespace Go.Proofs.YtnigjppddilpcaaGreatDoor
open Go Abs
set_option maxRecDepth 100000
set_option linter.unusedVariables false
set_option linter.unusedSimpArgs false
noncomputable def zK (p0n:Int):Option Int :=
 cond (decide ((0:Int)≤p0n)) (some (IntKind.wrap .u64 ((2:Int)*(IntKind.wrap .u64 p0n)))) (some (IntKind.wrap .u64 ((IntKind.wrap .u64 ((2:Int)*(IntKind.wrap .u64 (IntKind.wrap .i64 (0 - (IntKind.wrap .i64 (p0n+(1:Int))))))))+(1:Int))))
noncomputable def uO  (s8:((List UInt8) × Int)):Option (bS ((List UInt8) × Int) ((List UInt8) × Int)) :=
 cond (decide ((127:Int)<s8.2)) ((uF (IntKind.wrap .u8 (IntKind.wrap .u64 ((Int.tmod s8.2 (128:Int))+(128:Int))))).bind fun x10=>(app 1 s8.1 ([x10]:List UInt8)).bind fun x12=>some (bS.next (x12,(IntKind.wrap .u64 (Int.tdiv s8.2 (128:Int)))))) (some (bS.out (s8.1,s8.2)))
noncomputable def gI (p0b:(List UInt8)) (p1n:Int):Option (List UInt8) :=
 (app 1 ([]:List UInt8) p0b).bind fun x1=>(zK p1n).bind fun x3=>((dL (uO) ((x1,x3))):Option ((List UInt8) × Int)).bind fun x5=>((uF (IntKind.wrap .u8 x5.2)).bind fun x16=>(app 1 x5.1 ([x16]:List UInt8)).bind fun x18=>some x18)
noncomputable def sY (p1s:(List UInt8)) (s6:((List UInt8) × Int)):Option (bS ((List UInt8) × Int) (List UInt8)) :=
 cond (decide (s6.2<((p1s).length:Int))) ((jV p1s s6.2).bind fun x8=>(uF ((x8).toNat:Int)).bind fun x10=>(app 1 s6.1 ([x10]:List UInt8)).bind fun x12=>some (bS.next (x12,(IntKind.wrap .i64 (s6.2+(1:Int)))))) (some (bS.out s6.1))
noncomputable def iM (p0b:(List UInt8)) (p1s:(List UInt8)):Option (List UInt8) :=
 (gI p0b ((p1s).length:Int)).bind fun x1=>((dL (sY p1s) ((x1,(0:Int)))):Option (List UInt8)).bind fun x3=>(some x3)
noncomputable def uQ (aFD:(List (List UInt8))) (s4:Int):Option (bS Int (Fl Bool Unit)) :=
 cond (decide (s4<((aFD).length:Int))) ((jV aFD (IntKind.wrap .i64 (s4 - (1:Int)))).bind fun x6=>(jV aFD s4).bind fun x8=>cond (!Op.bytesLess x6 x8) (some (bS.out (Fl.done false))) (some (bS.next (IntKind.wrap .i64 (s4+(1:Int)))))) (some (bS.out (Fl.go ())))
noncomputable def zL (aFD:(List (List UInt8))):Option Bool :=
 ((dL (uQ aFD) ((1:Int))):Option (Fl Bool Unit)).bind fun x1=>Fl.next x1 (fun j3=>(some true))
noncomputable def pU (aAZ:aC→Option Bool) (p0C:aC) (s4:Int):Option (bS Int (Fl Bool Unit)) :=
 cond (decide (s4<((p0C.Items).length:Int))) ((jV p0C.Items s4).bind fun x6=>(aAZ x6).bind fun x8=>cond (!x8) (some (bS.out (Fl.done false))) (some (bS.next (IntKind.wrap .i64 (s4+(1:Int)))))) (some (bS.out (Fl.go ())))
noncomputable def oH:Nat→aC→Option Bool
 | 0,_=>none
 | n+1,p0C =>
  ((dL (pU (oH n) p0C) ((0:Int))):Option (Fl Bool Unit)).bind fun x1=>Fl.next x1 (fun j3=>(cond (decide (p0C.Kind=(0:Int))) (some (cond (cond (cond (decide (p0C.Int=(0:Int))) (decide (p0C.Text=([]:List UInt8))) false) (decide (((p0C.Items).length:Int)=(0:Int))) false) (decide (((p0C.Keys).length:Int)=(0:Int))) false)) (cond (decide (p0C.Kind=(1:Int))) (some (cond (cond (cond (cond (decide (p0C.Int=(0:Int))) true (decide (p0C.Int=(1:Int)))) (decide (p0C.Text=([]:List UInt8))) false) (decide (((p0C.Items).length:Int)=(0:Int))) false) (decide (((p0C.Keys).length:Int)=(0:Int))) false)) (cond (decide (p0C.Kind=(2:Int))) (some (cond (cond (decide (p0C.Text=([]:List UInt8))) (decide (((p0C.Items).length:Int)=(0:Int))) false) (decide (((p0C.Keys).length:Int)=(0:Int))) false)) (cond (decide (p0C.Kind=(3:Int))) (some (cond (cond (decide (p0C.Int=(0:Int))) (decide (((p0C.Items).length:Int)=(0:Int))) false) (decide (((p0C.Keys).length:Int)=(0:Int))) false)) (cond (decide (p0C.Kind=(4:Int))) (some (cond (cond (decide (p0C.Int=(0:Int))) (decide (p0C.Text=([]:List UInt8))) false) (decide (((p0C.Keys).length:Int)=(0:Int))) false)) (cond (decide (p0C.Kind=(5:Int))) ((gd ((cond (cond (decide (p0C.Int=(0:Int))) (decide (p0C.Text=([]:List UInt8))) false) (decide (((p0C.Keys).length:Int)=((p0C.Items).length:Int))) false)==true) (zL p0C.Keys)).bind fun x27=>some (cond (cond (cond (decide (p0C.Int=(0:Int))) (decide (p0C.Text=([]:List UInt8))) false) (decide (((p0C.Keys).length:Int)=((p0C.Items).length:Int))) false) x27 false)) (cond (decide (p0C.Kind=(6:Int))) (some (cond (cond (cond (decide ((0:Int)≤p0C.Int)) (decide (p0C.Text=([]:List UInt8))) false) (decide (((p0C.Items).length:Int)=(0:Int))) false) (decide (((p0C.Keys).length:Int)=(0:Int))) false)) (some false)))))))))
noncomputable def tA (p0C:aC):Option Bool:=lim fun n=>oH n p0C
noncomputable def rT (aGB:(List UInt8)→aC→Option (List UInt8)) (p1v:aC) (s29:((List UInt8) × Int)):Option (bS ((List UInt8) × Int) (List UInt8)) :=
 cond (decide (s29.2<((p1v.Items).length:Int))) (((cond (decide (p1v.Kind=(5:Int))) ((jV p1v.Keys s29.2).bind fun x35=>(iM s29.1 x35).bind fun x37=>some x37) (some s29.1)):Option (List UInt8)).bind fun x31=>((jV p1v.Items s29.2).bind fun x40=>(aGB x31 x40).bind fun x42=>some (bS.next (x42,(IntKind.wrap .i64 (s29.2+(1:Int))))))) (some (bS.out s29.1))
noncomputable def zO:Nat→(List UInt8)→aC→Option (List UInt8)
 | 0,_,_=>none
 | n+1,p0b,p1v =>
  (gI p0b p1v.Kind).bind fun x1=>((((cond (decide (p1v.Kind=(1:Int))) (some (decide (p1v.Kind=(1:Int)))) (cond (decide (p1v.Kind=(2:Int))) (some (decide (p1v.Kind=(2:Int)))) (some (decide (p1v.Kind=(6:Int)))))):Option Bool).bind fun x6=>(cond x6 ((gI x1 p1v.Int).bind fun x13=>some x13) (cond (decide (p1v.Kind=(3:Int))) ((iM x1 p1v.Text).bind fun x16=>some x16) (((cond (decide (p1v.Kind=(4:Int))) (some (decide (p1v.Kind=(4:Int)))) (some (decide (p1v.Kind=(5:Int))))):Option Bool).bind fun x18=>(cond x18 ((gI x1 ((p1v.Items).length:Int)).bind fun x24=>((dL (rT (zO n) p1v) ((x24,(0:Int)))):Option (List UInt8)).bind fun x26=>(some x26)) (some x1)))))):Option (List UInt8)).bind fun x3=>(some x3)
noncomputable def aHi (p0b:(List UInt8)) (p1v:aC):Option (List UInt8):=lim fun n=>zO n p0b p1v
noncomputable def vH (p0b:(List UInt8)) (p1v:aC):Option (List UInt8) :=
 (app 1 ([]:List UInt8) p0b).bind fun x1=>(tA p1v).bind fun x3=>cond (!x3) (some x1) ((aHi x1 p1v).bind fun x7=>some x7)
noncomputable def nS (p0n:Int) (oT:Int) (lG:Int):Option Bool :=
 some (cond (decide (oT≤p0n)) (decide (p0n≤lG)) false)
noncomputable def zS (p0c:Int):Option Bool :=
 some (cond (cond (cond (cond (decide ((97:Int)≤p0c)) (decide (p0c≤(122:Int))) false) true (cond (decide ((65:Int)≤p0c)) (decide (p0c≤(90:Int))) false)) true (cond (decide ((48:Int)≤p0c)) (decide (p0c≤(57:Int))) false)) true (decide (p0c=(95:Int))))
noncomputable def wM (p0s:(List UInt8)) (s10:Int):Option (bS Int (Fl Bool Unit)) :=
 cond (decide (s10<((p0s).length:Int))) ((jV p0s s10).bind fun x12=>(zS ((x12).toNat:Int)).bind fun x14=>cond (!x14) (some (bS.out (Fl.done false))) (some (bS.next (IntKind.wrap .i64 (s10+(1:Int)))))) (some (bS.out (Fl.go ())))
noncomputable def qY (p0s:(List UInt8)):Option Bool :=
 (gd ((cond (decide (((p0s).length:Int)<(1:Int))) true (decide ((64:Int)<((p0s).length:Int))))==false) (jV p0s (0:Int))).bind fun x1=>(gd (((cond (decide (((p0s).length:Int)<(1:Int))) true (decide ((64:Int)<((p0s).length:Int))))==false)&&((decide ((48:Int)≤((x1).toNat:Int)))==true)) (jV p0s (0:Int))).bind fun x3=>cond (cond (cond (decide (((p0s).length:Int)<(1:Int))) true (decide ((64:Int)<((p0s).length:Int)))) true (cond (decide ((48:Int)≤((x1).toNat:Int))) (decide (((x3).toNat:Int)≤(57:Int))) false)) (some false) (((dL (wM p0s) ((0:Int))):Option (Fl Bool Unit)).bind fun x7=>Fl.next x7 (fun j9=>(some true)))
noncomputable def oX (p0o:bL) (s4:Int):Option (bS Int (Fl Bool Unit)) :=
 cond (decide (s4<((([p0o.ToStart,p0o.ToClose,p0o.Total,p0o.Beat,p0o.First,p0o.Most]:List Int)).length:Int))) ((jV ([p0o.ToStart,p0o.ToClose,p0o.Total,p0o.Beat,p0o.First,p0o.Most]:List Int) s4).bind fun x6=>(nS x6 (0:Int) (1099511627776:Int)).bind fun x8=>cond (!x8) (some (bS.out (Fl.done false))) (some (bS.next (IntKind.wrap .i64 (s4+(1:Int)))))) (some (bS.out (Fl.go ())))
noncomputable def oY (p0o:bL) (s19:Int):Option (bS Int (Fl Bool Unit)) :=
 cond (decide (s19<((p0o.Fatal).length:Int))) ((jV p0o.Fatal s19).bind fun x21=>cond (decide ((4096:Int)<((x21).length:Int))) (some (bS.out (Fl.done false))) (some (bS.next (IntKind.wrap .i64 (s19+(1:Int)))))) (some (bS.out (Fl.go ())))
noncomputable def lZ (p0o:bL):Option Bool :=
 ((dL (oX p0o) ((0:Int))):Option (Fl Bool Unit)).bind fun x1=>Fl.next x1 (fun j3=>(((dL (oY p0o) ((0:Int))):Option (Fl Bool Unit)).bind fun x16=>Fl.next x16 (fun j18=>((gd ((decide (p0o.Queue=([]:List UInt8)))==false) (qY p0o.Queue)).bind fun x29=>(gd ((cond (decide (p0o.Queue=([]:List UInt8))) true x29)==true) (nS p0o.Coef (0:Int) (10000:Int))).bind fun x31=>(gd ((cond (cond (decide (p0o.Queue=([]:List UInt8))) true x29) x31 false)==true) (nS p0o.Attempts (0:Int) (1000:Int))).bind fun x33=>some (cond (cond (cond (cond (decide (p0o.Queue=([]:List UInt8))) true x29) x31 false) x33 false) (decide (((p0o.Fatal).length:Int)≤(64:Int))) false)))))
noncomputable def oA (p1o:bL) (s12:((List UInt8) × Int)):Option (bS ((List UInt8) × Int) (List UInt8)) :=
 cond (decide (s12.2<((([p1o.ToStart,p1o.ToClose,p1o.Total,p1o.Beat,p1o.First,p1o.Coef,p1o.Most,p1o.Attempts,((p1o.Fatal).length:Int)]:List Int)).length:Int))) ((jV ([p1o.ToStart,p1o.ToClose,p1o.Total,p1o.Beat,p1o.First,p1o.Coef,p1o.Most,p1o.Attempts,((p1o.Fatal).length:Int)]:List Int) s12.2).bind fun x14=>(gI s12.1 x14).bind fun x16=>some (bS.next (x16,(IntKind.wrap .i64 (s12.2+(1:Int)))))) (some (bS.out s12.1))
noncomputable def oB (p1o:bL) (s23:((List UInt8) × Int)):Option (bS ((List UInt8) × Int) (List UInt8)) :=
 cond (decide (s23.2<((p1o.Fatal).length:Int))) ((jV p1o.Fatal s23.2).bind fun x25=>(iM s23.1 x25).bind fun x27=>some (bS.next (x27,(IntKind.wrap .i64 (s23.2+(1:Int)))))) (some (bS.out s23.1))
noncomputable def qS (p0b:(List UInt8)) (p1o:bL):Option (List UInt8) :=
 (app 1 ([]:List UInt8) p0b).bind fun x1=>(lZ p1o).bind fun x3=>cond (!x3) (some x1) ((iM x1 p1o.Queue).bind fun x7=>((dL (oA p1o) ((x7,(0:Int)))):Option (List UInt8)).bind fun x9=>(((dL (oB p1o) ((x9,(0:Int)))):Option (List UInt8)).bind fun x20=>(some x20)))
end Go.Proofs.YtnigjppddilpcaaGreatDoor
