import Derived.Test.YtnigjppddilpcaaGreatDoorGETy
namespace Go.Proofs.YtnigjppddilpcaaGreatDoor
open Go Abs
set_option maxRecDepth 100000
set_option linter.unusedVariables false
set_option linter.unusedSimpArgs false
noncomputable def aBB (p0n:Int):Option Int :=
 cond (decide (0≤p0n)) (some (IntKind.wrap .u64 (2*(IntKind.wrap .u64 p0n)))) (some (IntKind.wrap .u64 ((IntKind.wrap .u64 (2*(IntKind.wrap .u64 (IntKind.wrap .i64 (0 - (IntKind.wrap .i64 (p0n+1)))))))+1)))
noncomputable def yQ  (s8:((List UInt8) × Int)):Option (dG ((List UInt8) × Int) ((List UInt8) × Int)) :=
 cond (decide (127<s8.2)) ((yK (IntKind.wrap .u8 (IntKind.wrap .u64 ((Int.tmod s8.2 128)+128)))).bind fun x10=>(app 1 s8.1 ([x10]:List UInt8)).bind fun x12=>some (dG.next (x12,(IntKind.wrap .u64 (Int.tdiv s8.2 128))))) (some (dG.out (s8.1,s8.2)))
noncomputable def kA (p0b:(List UInt8)) (p1n:Int):Option (List UInt8) :=
 (app 1 ([]:List UInt8) p0b).bind fun x1=>(aBB p1n).bind fun x3=>(fX (yQ) ((x1,x3))).bind fun x5=>((yK (IntKind.wrap .u8 x5.2)).bind fun x16=>(app 1 x5.1 ([x16]:List UInt8)).bind fun x18=>some x18)
noncomputable def xL (p1s:(List UInt8)) (s6:((List UInt8) × Int)):Option (dG ((List UInt8) × Int) (List UInt8)) :=
 cond (decide (s6.2<((p1s).length:Int))) ((nF p1s s6.2).bind fun x8=>(yK ((x8).toNat:Int)).bind fun x10=>(app 1 s6.1 ([x10]:List UInt8)).bind fun x12=>some (dG.next (x12,(IntKind.wrap .i64 (s6.2+1))))) (some (dG.out s6.1))
noncomputable def lP (p0b:(List UInt8)) (p1s:(List UInt8)):Option (List UInt8) :=
 (kA p0b ((p1s).length:Int)).bind fun x1=>(fX (xL p1s) ((x1,0))).bind fun x3=>(some x3)
noncomputable def yS (aG3:(List (List UInt8))) (s4:Int):Option (dG Int (Fl Bool Unit)) :=
 cond (decide (s4<((aG3).length:Int))) ((nF aG3 (IntKind.wrap .i64 (s4 - 1))).bind fun x6=>(nF aG3 s4).bind fun x8=>cond (!Op.bytesLess x6 x8) (some (dG.out (Fl.done false))) (some (dG.next (IntKind.wrap .i64 (s4+1))))) (some (dG.out (Fl.go ())))
noncomputable def aBC (aG3:(List (List UInt8))):Option Bool :=
 (fX (yS aG3) (1)).bind fun x1=>Fl.next x1 (fun j3=>(some true))
noncomputable def uP (aCv:aE→Option Bool) (p0C:aE) (s4:Int):Option (dG Int (Fl Bool Unit)) :=
 cond (decide (s4<((p0C.Items).length:Int))) ((nF p0C.Items s4).bind fun x6=>(aCv x6).bind fun x8=>cond (!x8) (some (dG.out (Fl.done false))) (some (dG.next (IntKind.wrap .i64 (s4+1))))) (some (dG.out (Fl.go ())))
noncomputable def sU:Nat→aE→Option Bool
 | 0,_=>none
 | n+1,p0C =>
  (fX (uP (sU n) p0C) (0)).bind fun x1=>Fl.next x1 (fun j3=>(cond (decide (p0C.Kind=0)) (some (cond (cond (cond (decide (p0C.Int=0)) (decide (p0C.Text=([]:List UInt8))) false) (decide (((p0C.Items).length:Int)=0)) false) (decide (((p0C.Keys).length:Int)=0)) false)) (cond (decide (p0C.Kind=1)) (some (cond (cond (cond (cond (decide (p0C.Int=0)) true (decide (p0C.Int=1))) (decide (p0C.Text=([]:List UInt8))) false) (decide (((p0C.Items).length:Int)=0)) false) (decide (((p0C.Keys).length:Int)=0)) false)) (cond (decide (p0C.Kind=2)) (some (cond (cond (decide (p0C.Text=([]:List UInt8))) (decide (((p0C.Items).length:Int)=0)) false) (decide (((p0C.Keys).length:Int)=0)) false)) (cond (decide (p0C.Kind=3)) (some (cond (cond (decide (p0C.Int=0)) (decide (((p0C.Items).length:Int)=0)) false) (decide (((p0C.Keys).length:Int)=0)) false)) (cond (decide (p0C.Kind=4)) (some (cond (cond (decide (p0C.Int=0)) (decide (p0C.Text=([]:List UInt8))) false) (decide (((p0C.Keys).length:Int)=0)) false)) (cond (decide (p0C.Kind=5)) ((gd ((cond (cond (decide (p0C.Int=0)) (decide (p0C.Text=([]:List UInt8))) false) (decide (((p0C.Keys).length:Int)=((p0C.Items).length:Int))) false)==true) (aBC p0C.Keys)).bind fun x27=>some (cond (cond (cond (decide (p0C.Int=0)) (decide (p0C.Text=([]:List UInt8))) false) (decide (((p0C.Keys).length:Int)=((p0C.Items).length:Int))) false) x27 false)) (cond (decide (p0C.Kind=6)) (some (cond (cond (cond (decide (0≤p0C.Int)) (decide (p0C.Text=([]:List UInt8))) false) (decide (((p0C.Items).length:Int)=0)) false) (decide (((p0C.Keys).length:Int)=0)) false)) (some false)))))))))
noncomputable def xN (p0C:aE):Option Bool:=lim fun n=>sU n p0C
noncomputable def wN (aH1:(List UInt8)→aE→Option (List UInt8)) (p1v:aE) (s29:((List UInt8) × Int)):Option (dG ((List UInt8) × Int) (List UInt8)) :=
 cond (decide (s29.2<((p1v.Items).length:Int))) (((cond (decide (p1v.Kind=5)) ((nF p1v.Keys s29.2).bind fun x35=>(lP s29.1 x35).bind fun x37=>some x37) (some s29.1)):Option (List UInt8)).bind fun x31=>((nF p1v.Items s29.2).bind fun x40=>(aH1 x31 x40).bind fun x42=>some (dG.next (x42,(IntKind.wrap .i64 (s29.2+1)))))) (some (dG.out s29.1))
noncomputable def aBE:Nat→(List UInt8)→aE→Option (List UInt8)
 | 0,_,_=>none
 | n+1,p0b,p1v =>
  (kA p0b p1v.Kind).bind fun x1=>((((cond (decide (p1v.Kind=1)) (some (decide (p1v.Kind=1))) (cond (decide (p1v.Kind=2)) (some (decide (p1v.Kind=2))) (some (decide (p1v.Kind=6))))):Option Bool).bind fun x6=>(cond x6 ((kA x1 p1v.Int).bind fun x13=>some x13) (cond (decide (p1v.Kind=3)) ((lP x1 p1v.Text).bind fun x16=>some x16) (((cond (decide (p1v.Kind=4)) (some (decide (p1v.Kind=4))) (some (decide (p1v.Kind=5)))):Option Bool).bind fun x18=>(cond x18 ((kA x1 ((p1v.Items).length:Int)).bind fun x24=>(fX (wN (aBE n) p1v) ((x24,0))).bind fun x26=>(some x26)) (some x1)))))):Option (List UInt8)).bind fun x3=>(some x3)
noncomputable def aIF (p0b:(List UInt8)) (p1v:aE):Option (List UInt8):=lim fun n=>aBE n p0b p1v
noncomputable def zN (p0b:(List UInt8)) (p1v:aE):Option (List UInt8) :=
 (app 1 ([]:List UInt8) p0b).bind fun x1=>(xN p1v).bind fun x3=>cond (!x3) (some x1) ((aIF x1 p1v).bind fun x7=>some x7)
noncomputable def tP (p0n:Int) (tK:Int) (pM:Int):Option Bool :=
 some (cond (decide (tK≤p0n)) (decide (p0n≤pM)) false)
noncomputable def aBG (p0c:Int):Option Bool :=
 some (cond (cond (cond (cond (decide (97≤p0c)) (decide (p0c≤122)) false) true (cond (decide (65≤p0c)) (decide (p0c≤90)) false)) true (cond (decide (48≤p0c)) (decide (p0c≤57)) false)) true (decide (p0c=95)))
noncomputable def aAs (p0s:(List UInt8)) (s10:Int):Option (dG Int (Fl Bool Unit)) :=
 cond (decide (s10<((p0s).length:Int))) ((nF p0s s10).bind fun x12=>(aBG ((x12).toNat:Int)).bind fun x14=>cond (!x14) (some (dG.out (Fl.done false))) (some (dG.next (IntKind.wrap .i64 (s10+1))))) (some (dG.out (Fl.go ())))
noncomputable def vW (p0s:(List UInt8)):Option Bool :=
 (gd ((cond (decide (((p0s).length:Int)<1)) true (decide (64<((p0s).length:Int))))==false) (nF p0s 0)).bind fun x1=>(gd (((cond (decide (((p0s).length:Int)<1)) true (decide (64<((p0s).length:Int))))==false)&&((decide (48≤((x1).toNat:Int)))==true)) (nF p0s 0)).bind fun x3=>cond (cond (cond (decide (((p0s).length:Int)<1)) true (decide (64<((p0s).length:Int)))) true (cond (decide (48≤((x1).toNat:Int))) (decide (((x3).toNat:Int)≤57)) false)) (some false) ((fX (aAs p0s) (0)).bind fun x7=>Fl.next x7 (fun j9=>(some true)))
noncomputable def tN (p0o:dB) (s4:Int):Option (dG Int (Fl Bool Unit)) :=
 cond (decide (s4<((([p0o.ToStart,p0o.ToClose,p0o.Total,p0o.Beat,p0o.First,p0o.Most]:List Int)).length:Int))) ((nF ([p0o.ToStart,p0o.ToClose,p0o.Total,p0o.Beat,p0o.First,p0o.Most]:List Int) s4).bind fun x6=>(tP x6 0 1099511627776).bind fun x8=>cond (!x8) (some (dG.out (Fl.done false))) (some (dG.next (IntKind.wrap .i64 (s4+1))))) (some (dG.out (Fl.go ())))
noncomputable def tO (p0o:dB) (s19:Int):Option (dG Int (Fl Bool Unit)) :=
 cond (decide (s19<((p0o.Fatal).length:Int))) ((nF p0o.Fatal s19).bind fun x21=>cond (decide (4096<((x21).length:Int))) (some (dG.out (Fl.done false))) (some (dG.next (IntKind.wrap .i64 (s19+1))))) (some (dG.out (Fl.go ())))
noncomputable def sW (p0o:dB):Option Bool :=
 (fX (tN p0o) (0)).bind fun x1=>Fl.next x1 (fun j3=>((fX (tO p0o) (0)).bind fun x16=>Fl.next x16 (fun j18=>((gd ((decide (p0o.Queue=([]:List UInt8)))==false) (vW p0o.Queue)).bind fun x29=>(gd ((cond (decide (p0o.Queue=([]:List UInt8))) true x29)==true) (tP p0o.Coef 0 10000)).bind fun x31=>(gd ((cond (cond (decide (p0o.Queue=([]:List UInt8))) true x29) x31 false)==true) (tP p0o.Attempts 0 1000)).bind fun x33=>some (cond (cond (cond (cond (decide (p0o.Queue=([]:List UInt8))) true x29) x31 false) x33 false) (decide (((p0o.Fatal).length:Int)≤64)) false)))))
noncomputable def sN (p1o:dB) (s12:((List UInt8) × Int)):Option (dG ((List UInt8) × Int) (List UInt8)) :=
 cond (decide (s12.2<((([p1o.ToStart,p1o.ToClose,p1o.Total,p1o.Beat,p1o.First,p1o.Coef,p1o.Most,p1o.Attempts,((p1o.Fatal).length:Int)]:List Int)).length:Int))) ((nF ([p1o.ToStart,p1o.ToClose,p1o.Total,p1o.Beat,p1o.First,p1o.Coef,p1o.Most,p1o.Attempts,((p1o.Fatal).length:Int)]:List Int) s12.2).bind fun x14=>(kA s12.1 x14).bind fun x16=>some (dG.next (x16,(IntKind.wrap .i64 (s12.2+1))))) (some (dG.out s12.1))
noncomputable def sO (p1o:dB) (s23:((List UInt8) × Int)):Option (dG ((List UInt8) × Int) (List UInt8)) :=
 cond (decide (s23.2<((p1o.Fatal).length:Int))) ((nF p1o.Fatal s23.2).bind fun x25=>(lP s23.1 x25).bind fun x27=>some (dG.next (x27,(IntKind.wrap .i64 (s23.2+1))))) (some (dG.out s23.1))
noncomputable def vM (p0b:(List UInt8)) (p1o:dB):Option (List UInt8) :=
 (app 1 ([]:List UInt8) p0b).bind fun x1=>(sW p1o).bind fun x3=>cond (!x3) (some x1) ((lP x1 p1o.Queue).bind fun x7=>(fX (sN p1o) ((x7,0))).bind fun x9=>((fX (sO p1o) ((x9,0))).bind fun x20=>(some x20)))
