import Derived.Test.YtnigjppddilpcaaGreatDoorGETy
import Derived.Test.YtnigjppddilpcaaGreatDoorGEF10
namespace Go.Proofs.YtnigjppddilpcaaGreatDoor
open Go Abs
set_option maxRecDepth 100000
set_option linter.unusedVariables false
set_option linter.unusedSimpArgs false
noncomputable def sZ (dA:aV) (s4:Int):Option (dN Int (Fl (Int × Int) Unit)) :=
 cond (decide (s4≤10)) (cond (decide (((dA.Rest).length:Int)<s4)) (some (dN.out (Fl.done (0,4)))) ((lO dA.Rest (IntKind.wrap .i64 (s4 - 1))).bind fun x10=>cond (decide (((x10).toNat:Int)<128)) (cond (cond (cond (decide (1<s4)) (decide (((x10).toNat:Int)=0)) false) true (cond (decide (s4=10)) (decide (1<((x10).toNat:Int))) false)) (some (dN.out (Fl.done (0,3)))) (some (dN.out (Fl.done (s4,0))))) (some (dN.next (IntKind.wrap .i64 (s4+1)))))) (some (dN.out (Fl.go ())))
noncomputable def sO (dA:aV):Option (Int × Int) :=
 (fI (sZ dA) (1)).bind fun x1=>Fl.next x1 (fun j3=>(some (0,3)))
theorem aEB {dA:aV}{res:(Int × Int)} (h:sO dA=some res):cX Tryz.prog 143 [.box 0 0] [AV.cs (eB dA)] (.tup [ci res.1,ci res.2]) [AV.cs (eB dA)]:=by
 unfold sO at h
 refine dR (fn:=Tryz.f143) [0,2,3,4,5,7,16,26,40] (by kernel_rfl) Tryz.func143 r (by kernel_rfl) (by kernel_rfl)<|aJ<|sI r<|sI r<|aH (fr':=[(0,aD)]) r r<|aX<|aJ<|sI r<|aH (fr':=[(0,aD),(4,aI)]) r r<|bx h fun x1 hx1 h2=>hF lP (fun j3=>x1=Fl.go j3) (fun (j3:Unit)=>([]:Fr)) (fun (j3:Unit)=>([[.c (.bool dA.Made),.c (PV.ls 1 gW dA.Rest),ci dA.Bad]]:St)) ?_ ?_
 ·
  refine cP<|gY _ (fun (s4:Int)=>([(0,aD),(4,ci s4)]:Fr)) (fun (s4:Int)=>([[.c (.bool dA.Made),.c (PV.ls 1 gW dA.Rest),ci dA.Bad]]:St)) hx1 (bJ [] 1 r r r r kR (cO r aC)) ?_
  intro s4 st4 hs4 ho4
  unfold sZ at hs4
  refine aX<|aJ<|mI r<|aU r (rU r r)<|aH (fr':=[(0,aD),(4,aI),(7,aB)]) r r<|cU hs4 r (fun hb5 h5=>?_) (fun hb5 h5=>?_)
  ·
   refine bI<|dB<|aX<|cP<|aX<|aJ<|mI r<|mV (v:=aD) r<|aU r (iV r)<|aU r (bU aBv r)<|aU r (aR (v:=aL) aEu r r r)<|aU r (gT aAM (eA r))<|aU r (qW r r)<|aH (fr':=[(0,aD),(4,aI),(16,aB)]) r r<|cU h5 r (fun hb6 h6=>?_) (fun hb6 h6=>?_)
   ·
    refine aJ<|sI r<|sI r<|aH (fr':=[(2,aI),(3,aI)]) r r<|bO<|aN<|bT<|aN<|aN<|bT<|aN<|aN ?_
    have h7:=eS h6 ho4
    have h8:=gI h7 h2
    obtain rfl:=sy h8
    exact bN (rs':=[.tmp 2,.tmp 3]) r<|cE (v:=aI) r<|cE (v:=aI) r<|bM<|aP [] r r r (tL r kR) (cO r aC)
   ·
    refine bI<|dB<|aJ<|mV (v:=aD) r<|aU r (iV r)<|aU r (bU aBv r)<|aU r (aR (v:=aL) aEu r r r)<|mI r<|aU r (aCQ r r)<|bx h6 fun x10 hx10 h11=>aU r (lC (cs:=[PV.int _ _]) yW (eA r) r hx10 r)<|aU r (fO (p:=PV.int _ _) tv5 r r)<|sI r<|aH (fr':=[(0,aD),(4,aI),(5,aI)]) r r<|aJ<|mI r<|aU r (fY r r)<|aH (fr':=[(0,aD),(4,aI),(5,aI),(26,aB)]) r r<|cU h11 r (fun hb12 h12=>?_) (fun hb12 h12=>?_)
    ·
     refine aX<|aJ<|mI r<|aU r (qW r r)<|mB r<|og r r r (fun hc=>(bK (v:=aI) r))<|og r r r (fun hc=>(cQ (gx r hc) r))<|aU r (cS r r r (fun e=>hH e))<|mB r<|og r r r (fun hc=>(bK (v:=aI) r))<|og r r r (fun hc=>(cQ (gx r hc) r))<|og r r r (fun hc=>(bK (v:=aB) (gx r hc)))<|hZ r r (fun hc=>iI r (bK (v:=aI) r))<|hZ r r (fun hc=>iI r (qW (gx r hc) r))<|og r r r (fun hc=>(cS (gx r hc) r r (fun e=>vF hc (hH e))))<|aU r (dK r r r (fun e=>hH e))<|aH (fr':=[(4,aI),(40,aB)]) r r<|cU h12 r (fun hb13 h13=>?_) (fun hb13 h13=>?_)
     ·
      refine aJ<|sI r<|sI r<|aH (fr':=[(2,aI),(3,aI)]) r r<|bO<|aN<|bT<|aN<|aN<|bT<|aN<|aN ?_
      have h14:=eS h13 ho4
      have h15:=gI h14 h2
      obtain rfl:=sy h15
      exact bN (rs':=[.tmp 2,.tmp 3]) r<|cE (v:=aI) r<|cE (v:=aI) r<|bM<|aP [] r r r (tL r kR) (cO r aC)
     ·
      refine bI<|dB<|aJ<|mI r<|sI r<|sI r<|aH (fr':=[(2,aI),(3,aI)]) r r<|bO<|bT<|aN<|aN<|bT<|aN<|aN ?_
      have h17:=eS h13 ho4
      have h18:=gI h17 h2
      obtain rfl:=sy h18
      exact bN (rs':=[.tmp 2,.tmp 3]) r<|cE (v:=aI) r<|cE (v:=aI) r<|bM<|aP [] r r r (tL r kR) (cO r aC)
    ·
     exact bI<|dI<|dB<|bA<|mI r<|aU r (fX r r)<|sI r<|dQ (fr':=[(0,aD),(4,aI),(5,aI),(26,aB)]) r<|zY _ (sy h12) (bJ [] 1 r r r r kR (cO r aC))
  ·
   refine iE<|cZ<|cZ<|fT ?_
   have h20:=eS h5 ho4
   exact lB _ (sy h20) (bJ [] 1 r r r r trivial (cO r aC))
 ·
  intro j3 hj21
  have h21:=nY hj21 h2
  refine dB<|aJ<|sI r<|sI r<|aH (fr':=[(2,aI),(3,aI)]) r r<|bO ?_
  obtain rfl:=sy h21
  exact bN (rs':=[.tmp 2,.tmp 3]) r<|cE (v:=aI) r<|cE (v:=aI) r<|bM<|aP [] r r r (tL r kR) (cO r aC)
noncomputable def mO (p1e:Int) (dA:aV):Option aV :=
 some (aV.mk dA.Made ([]:(List UInt8)) p1e)
theorem vR {p1e:Int}{dA:aV}{res:aV} (h:mO p1e dA=some res):cX Tryz.prog 144 [.box 0 0,ci p1e] [AV.cs (eB dA)] (.any) [AV.cs (eB res)]:=by
 unfold mO at h
 refine dR (fn:=Tryz.f144) [0,1] (by kernel_rfl) Tryz.func144 r (by kernel_rfl) (by kernel_rfl)<|aJ<|mV (v:=aD) r<|mI r<|aU r (iV r)<|aU r (bU aOD r)<|cN (v:=aI) (us:=[aI]) (cs:=iG) (σ':=[iG]) r aJm r r r r r r r r<|aH (fr':=[(0,aD)]) r r<|bA<|mV (v:=aD) r<|aU r (iV r)<|aU r (bU aBv r)<|cN (v:=AV.nil) (us:=[AV.nil]) (cs:=iG) (σ':=[aWl]) r aEu r r r r r r r r<|dQ (fr':=[(0,aD)]) r ?_
 obtain rfl:=sy h
 exact aIu (rs':=[]) r<|bM<|aP [] r r r (AV.le_any _) (fE ⟨r,⟨_,r⟩,r,trivial⟩ aC)
noncomputable def gU (dA:aV):Option Bool :=
 some (cond (!dA.Made) true (!decide (dA.Bad=0)))
theorem rQ {dA:aV}{res:Bool} (h:gU dA=some res):cX Tryz.prog 80 [.box 0 0] [AV.cs (eB dA)] (.c (.bool res)) [AV.cs (eB dA)]:=by
 unfold gU at h
 refine dR (fn:=Tryz.f80) [0,2] (by kernel_rfl) Tryz.func80 r (by kernel_rfl) (by kernel_rfl)<|aJ<|sB r<|aH (fr':=[(0,aD)]) r r<|aJ<|mV (v:=aD) r<|aU r (aGW aV6 r r)<|mB r<|nK r r r<|mV (v:=aD) r<|nK r r r<|aU r (iV r)<|nK r r r<|aU r (bU aRU r)<|nK r r r<|aU r (aR (v:=aB) tv4 r r r)<|nK r r r<|aU r (gX r)<|aU r (sN r r r)<|mB r<|og r r r (fun hc=>(bK (v:=aD) r))<|og r r r (fun hc=>(iV (gx r hc)))<|og r r r (fun hc=>(bU aOD (gx r hc)))<|og r r r (fun hc=>(aR (v:=aI) aJm (gx r hc) r r))<|og r r r (fun hc=>(iZ (gx r hc) r))<|aU r (dK r r r (fun e=>hH e))<|sB r<|aH (fr':=[(2,aB)]) r r<|bO ?_
 obtain rfl:=sy h
 exact bN (rs':=[.tmp 2]) r<|cE (v:=aB) r<|bM<|aP [] r r r lr (cO r aC)
noncomputable def uJ (dA:aV) (s14:(Int × Int)):Option (dN (Int × Int) Int) :=
 cond (decide (0≤s14.2)) ((lO dA.Rest s14.2).bind fun x16=>some (dN.next ((IntKind.wrap .u64 ((IntKind.wrap .u64 (s14.1*128))+(IntKind.wrap .u64 (Int.tmod ((x16).toNat:Int) 128)))),(IntKind.wrap .i64 (s14.2 - 1))))) (some (dN.out s14.1))
noncomputable def iL (qO:Int) (nC:Int) (dA:aV):Option (Int × aV) :=
 (gU dA).bind fun x1=>cond x1 (some (0,dA)) ((sO dA).bind fun x5=>cond (!decide (x5.2=0)) ((mO x5.2 dA).bind fun x8=>some (0,x8)) ((fI (uJ dA) ((0,(IntKind.wrap .i64 (x5.1 - 1))))).bind fun x11=>(((cond (decide ((Int.tmod x11 2)=1)) (some (IntKind.wrap .i64 ((IntKind.wrap .i64 (0 - (IntKind.wrap .i64 (IntKind.wrap .u64 (Int.tdiv x11 2))))) - 1))) (some (IntKind.wrap .i64 (IntKind.wrap .u64 (Int.tdiv x11 2))))):Option Int).bind fun x20=>(cond (cond (decide (x20<qO)) true (decide (nC<x20))) ((mO 14 dA).bind fun x26=>some (0,x26)) ((aNf dA.Rest x5.1).bind fun x29=>some (x20,(aV.mk dA.Made (List.drop (Int.toNat x5.1) dA.Rest) dA.Bad)))))))
theorem sR {qO:Int}{nC:Int}{dA:aV}{res:(Int × aV)} (h:iL qO nC dA=some res):cX Tryz.prog 68 [.box 0 0,ci qO,ci nC] [AV.cs (eB dA)] (ci res.1) [AV.cs (eB res.2)]:=by
 unfold iL at h
 refine dR (fn:=Tryz.f68) [0,1,2,6,7,8,9,10,11,13,20,27,47,58] (by kernel_rfl) Tryz.func68 r (by kernel_rfl) (by kernel_rfl)<|aJ<|sI r<|aH (fr':=[(0,aD),(1,aI),(2,aI)]) r r<|aX<|aJ<|mV (v:=aD) r<|bx h fun x1 hx1 h2=>dP (v:=aB) (σ':=[iG]) [0] r (rQ hx1) r r ⟨lr,trivial⟩ (fE tJ aC) r r r<|aH (fr':=[(0,aD),(1,aI),(2,aI),(13,aB)]) r r<|cU h2 r (fun hb3 h3=>?_) (fun hb3 h3=>?_)
 ·
  refine aJ<|sI r<|aH (fr':=[(6,aI)]) r r<|bO<|aN ?_
  obtain rfl:=sy h3
  exact bN (rs':=[.tmp 6]) r<|cE (v:=aI) r<|bM<|aP [] r r r lr (fE tJ aC)
 ·
  refine bI<|dB<|aJ<|mV (v:=aD) r<|bx h3 fun x5 hx5 h6=>dP (v:=.tup [aI,aI]) (σ':=[iG]) [0] r (aEB hx5) r r ⟨lr,trivial⟩ (fE tJ aC) r r r<|mV (v:=.tup [aI,aI]) r<|aU r (aCe (v:=aI) r r)<|aU r (aCe (v:=aI) r r)<|sI r<|sI r<|aH (fr':=[(0,aD),(1,aI),(2,aI),(7,aI),(8,aI)]) r r<|aX<|aJ<|mI r<|aU r (iZ r r)<|aH (fr':=[(0,aD),(1,aI),(2,aI),(7,aI),(8,aI),(20,aB)]) r r<|cU h6 r (fun hb7 h7=>?_) (fun hb7 h7=>?_)
  ·
   refine aJ<|mV (v:=aD) r<|mI r<|bx h7 fun x8 hx8 h9=>dP (v:=_) (σ':=[iG]) [0] r (vR hx8) r r kR (fE tJ aC) r r r<|aH (fr':=[]) r r<|aJ<|sI r<|aH (fr':=[(6,aI)]) r r<|bO<|aN ?_
   obtain rfl:=sy h9
   exact bN (rs':=[.tmp 6]) r<|cE (v:=aI) r<|bM<|aP [] r r r lr (fE tJ aC)
  ·
   refine bI<|dB<|aJ<|sI r<|aH (fr':=[(0,aD),(1,aI),(2,aI),(7,aI),(9,aI)]) r r<|aX<|aJ<|mI r<|aU r (aCQ r r)<|sI r<|aH (fr':=[(0,aD),(1,aI),(2,aI),(7,aI),(9,aI),(10,aI)]) r r<|bx h7 fun x11 hx11 h12=>hF lP (fun j13=>x11=j13) (fun (j13:Int)=>([(0,aD),(1,ci qO),(2,ci nC),(7,ci x5.1),(9,.c (.int .u64 j13))]:Fr)) (fun (j13:Int)=>([[.c (.bool dA.Made),.c (PV.ls 1 gW dA.Rest),ci dA.Bad]]:St)) ?_ ?_
   ·
    refine cP<|gY _ (fun (s14:(Int × Int))=>([(0,aD),(1,ci qO),(2,ci nC),(7,ci x5.1),(9,.c (.int .u64 s14.1)),(10,ci s14.2)]:Fr)) (fun (s14:(Int × Int))=>([[.c (.bool dA.Made),.c (PV.ls 1 gW dA.Rest),ci dA.Bad]]:St)) hx11 (bJ [] 1 r r r r kL6 (cO r aC)) ?_
    intro s14 st14 hs14 ho14
    unfold uJ at hs14
    refine aX<|aJ<|mI r<|aU r (uE r r)<|aH (fr':=[(0,aD),(1,aI),(2,aI),(7,aI),(9,aI),(10,aI),(27,aB)]) r r<|cU hs14 r (fun hb15 h15=>?_) (fun hb15 h15=>?_)
    ·
     exact bI<|dB<|aX<|cP<|bA<|mI r<|aU r (aMP r r)<|mV (v:=aD) r<|aU r (iV r)<|aU r (bU aBv r)<|aU r (aR (v:=aL) aEu r r r)<|mI r<|bx h15 fun x16 hx16 h17=>aU r (lC (cs:=[PV.int _ _]) yW (eA r) r hx16 r)<|aU r (fO (p:=PV.int _ _) tv5 r r)<|aU r (aPh r r (by decide))<|aU r (uV tk5 aGr r)<|aU r (fX r r)<|sI r<|dQ (fr':=[(0,aD),(1,aI),(2,aI),(7,aI),(9,aI),(10,aI),(27,aB)]) r<|dI<|dB<|bA<|mI r<|aU r (aCQ r r)<|sI r<|dQ (fr':=[(0,aD),(1,aI),(2,aI),(7,aI),(9,aI),(10,aI),(27,aB)]) r<|zY _ (sy h17) (bJ [] 1 r r r r kL6 (cO r aC))
    ·
     refine iE<|cZ<|cZ<|fT ?_
     have h18:=eS h15 ho14
     exact lB _ (sy h18) (bJ [] 1 r r r r kL5 (cO r aC))
   ·
    intro j13 hj19
    subst hj19
    refine dB<|aJ<|mI r<|aU r (aRz r r (by decide))<|aU r (uV aGr tk3 r)<|sI r<|aH (fr':=[(0,aD),(1,aI),(2,aI),(7,aI),(9,aI),(11,aI)]) r r<|bx h12 fun x20 hx20 h21=>kF (fun j22=>x20=j22) (fun (j22:Int)=>([(0,aD),(1,ci qO),(2,ci nC),(7,ci x5.1),(11,ci j22)]:Fr)) (fun (j22:Int)=>([[.c (.bool dA.Made),.c (PV.ls 1 gW dA.Rest),ci dA.Bad]]:St)) ?_ ?_
    ·
     refine aJ<|mI r<|aU r (aPh r r (by decide))<|aU r (cQ r r)<|aH (fr':=[(0,aD),(1,aI),(2,aI),(7,aI),(11,aI),(47,aB)]) r r<|cU hx20 r (fun hb23 h23=>?_) (fun hb23 h23=>?_)
     ·
      exact bA<|mI r<|aU r (aPg r)<|aU r (aCQ r r)<|sI r<|dQ (fr':=[(0,aD),(1,aI),(2,aI),(7,aI),(11,aI),(47,aB)]) r<|lB _ (sy h23) (bJ [] 1 r r r r kL5 (cO r aC))
     ·
      exact bI<|lB _ (sy h23) (bJ [] 1 r r r r kL5 (cO r aC))
    ·
     intro j22 hj24
     subst hj24
     refine aX<|aJ<|mI r<|mI r<|aU r (fY r r)<|mB r<|og r r r (fun hc=>(bK (v:=aI) r))<|og r r r (fun hc=>(bK (v:=aI) r))<|og r r r (fun hc=>(qW (gx r hc) (gx r hc)))<|aU r (dK r r r (fun e=>hH e))<|aH (fr':=[(0,aD),(7,aI),(11,aI),(58,aB)]) r r<|cU h21 r (fun hb25 h25=>?_) (fun hb25 h25=>?_)
     ·
      refine aJ<|mV (v:=aD) r<|bx h25 fun x26 hx26 h27=>dP (v:=_) (σ':=[iG]) [0] r (vR hx26) r r kR (fE tJ aC) r r r<|aH (fr':=[]) r r<|aJ<|sI r<|aH (fr':=[(6,aI)]) r r<|bO<|aN ?_
      obtain rfl:=sy h27
      exact bN (rs':=[.tmp 6]) r<|cE (v:=aI) r<|bM<|aP [] r r r lr (fE tJ aC)
     ·
      refine bI<|dB<|aJ<|mV (v:=aD) r<|mV (v:=aD) r<|aU r (iV r)<|aU r (bU aBv r)<|aU r (aR (v:=aL) aEu r r r)<|mI r<|bx h25 fun x29 hx29 h30=>aU r (aIX aJl yW (eA r) r (aCZ hx29).1)<|aU r (iV r)<|aU r (bU aBv r)<|cN (v:=aL) (us:=[aL]) (cs:=iG) (σ':=[iG]) r aEu r r r r r r r r<|aH (fr':=[(11,aI)]) r r<|aJ<|mI r<|sI r<|aH (fr':=[(6,aI)]) r r<|bO ?_
      obtain rfl:=sy h30
      exact bN (rs':=[.tmp 6]) r<|cE (v:=aI) r<|bM<|aP [] r r r lr (fE tJ aC)
noncomputable def jW (aDq:Int) (dA:aV):Option ((List UInt8) × aV) :=
 (iL 0 aDq dA).bind fun x1=>(gU x1.2).bind fun x3=>cond x3 (some (([]:List UInt8),x1.2)) (cond (decide (((x1.2.Rest).length:Int)<x1.1)) ((mO 4 x1.2).bind fun x8=>some (([]:List UInt8),x8)) ((aNe x1.2.Rest x1.1).bind fun x11=>(aNf x1.2.Rest x1.1).bind fun x13=>some ((List.take (Int.toNat x1.1) x1.2.Rest),(aV.mk x1.2.Made (List.drop (Int.toNat x1.1) x1.2.Rest) x1.2.Bad))))
theorem rK {aDq:Int}{dA:aV}{res:((List UInt8) × aV)} (h:jW aDq dA=some res):cX Tryz.prog 75 [.box 0 0,ci aDq] [AV.cs (eB dA)] (.c (.str res.1)) [AV.cs (eB res.2)]:=by
 unfold jW at h
 refine dR (fn:=Tryz.f75) [0,1,4,5,6,11,18] (by kernel_rfl) Tryz.func75 r (by kernel_rfl) (by kernel_rfl)<|aJ<|sS r<|aH (fr':=[(0,aD),(1,aI)]) r r<|aJ<|mV (v:=aD) r<|mI r<|bx h fun x1 hx1 h2=>dP (v:=aI) (σ':=[iG]) [0] r (sR hx1) r r nW (fE tJ aC) r r r<|sI r<|aH (fr':=[(0,aD),(5,aI)]) r r<|aX<|aJ<|mV (v:=aD) r<|bx h2 fun x3 hx3 h4=>dP (v:=aB) (σ':=[iG]) [0] r (rQ hx3) r r ⟨lr,trivial⟩ (fE tJ aC) r r r<|aH (fr':=[(0,aD),(5,aI),(11,aB)]) r r<|cU h4 r (fun hb5 h5=>?_) (fun hb5 h5=>?_)
 ·
  refine aJ<|sS r<|aH (fr':=[(4,aS)]) r r<|bO<|aN ?_
  obtain rfl:=sy h5
  exact bN (rs':=[.tmp 4]) r<|cE (v:=aS) r<|bM<|aP [] r r r lr (fE tJ aC)
 ·
  refine bI<|dB<|aX<|aJ<|mI r<|mV (v:=aD) r<|aU r (iV r)<|aU r (bU aBv r)<|aU r (aR (v:=aL) aEu r r r)<|aU r (gT aAM (eA r))<|aU r (qW r r)<|aH (fr':=[(0,aD),(5,aI),(18,aB)]) r r<|cU h5 r (fun hb7 h7=>?_) (fun hb7 h7=>?_)
  ·
   refine aJ<|mV (v:=aD) r<|bx h7 fun x8 hx8 h9=>dP (v:=_) (σ':=[iG]) [0] r (vR hx8) r r kR (fE tJ aC) r r r<|aH (fr':=[]) r r<|aJ<|sS r<|aH (fr':=[(4,aS)]) r r<|bO<|aN ?_
   obtain rfl:=sy h9
   exact bN (rs':=[.tmp 4]) r<|cE (v:=aS) r<|bM<|aP [] r r r lr (fE tJ aC)
  ·
   refine bI<|dB<|aJ<|mV (v:=aD) r<|aU r (iV r)<|aU r (bU aBv r)<|aU r (aR (v:=aL) aEu r r r)<|mI r<|bx h7 fun x11 hx11 h12=>aU r (aIW aJl yW (eA r) r (aCY hx11).1)<|aU r (aIU aRS zZ (eA r))<|sS r<|aH (fr':=[(0,aD),(5,aI),(6,aS)]) r r<|aJ<|mV (v:=aD) r<|mV (v:=aD) r<|aU r (iV r)<|aU r (bU aBv r)<|aU r (aR (v:=aL) aEu r r r)<|mI r<|bx h12 fun x13 hx13 h14=>aU r (aIX aJl yW (eA r) r (aCZ hx13).1)<|aU r (iV r)<|aU r (bU aBv r)<|cN (v:=aL) (us:=[aL]) (cs:=iG) (σ':=[iG]) r aEu r r r r r r r r<|aH (fr':=[(6,aS)]) r r<|aJ<|mS r<|sS r<|aH (fr':=[(4,aS)]) r r<|bO ?_
   obtain rfl:=sy h14
   exact bN (rs':=[.tmp 4]) r<|cE (v:=aS) r<|bM<|aP [] r r r lr (fE tJ aC)
noncomputable def nD (dU:Int) (jE:aV):Option Bool :=
 (kS jE).bind fun x1=>some (decide (x1=0))
theorem tU {dU:Int}{jE:aV}{res:Bool} (h:nD dU jE=some res):cX Tryz.prog 150 [.box 0 0] [[.box 1 0,ci dU],AV.cs (eB jE)] (.c (.bool res)) [[.box 1 0,ci dU],AV.cs (eB jE)]:=by
 unfold nD at h
 refine dR (fn:=Tryz.f150) [0,2] (by kernel_rfl) Tryz.func150 r (by kernel_rfl) (by kernel_rfl)<|aJ<|sB r<|aH (fr':=[(0,aD)]) r r<|aJ<|mV (v:=aD) r<|aU r (iV r)<|aU r (bU aIe r)<|aU r (aR (v:=bD) aTw r r r)<|bx h fun x1 hx1 h2=>dP (v:=aI) (σ':=[[bD,aI],iG]) [1] r (nG hx1) r r ⟨lr,trivial⟩ (fE tJ aC) r r r<|aU r (cQ r r)<|sB r<|aH (fr':=[(2,aB)]) r r<|bO ?_
 obtain rfl:=sy h2
 exact bN (rs':=[.tmp 2]) r<|cE (v:=aB) r<|bM<|aP [] r r r lr (cO r (cO r aC))
noncomputable def lR (p1e:Int) (dA:aV):Option aV :=
 (gU dA).bind fun x1=>cond (cond (!x1) (!decide (p1e=0)) false) ((mO p1e dA).bind fun x4=>some x4) (some dA)
theorem uO {p1e:Int}{dA:aV}{res:aV} (h:lR p1e dA=some res):cX Tryz.prog 78 [.box 0 0,ci p1e] [AV.cs (eB dA)] (.any) [AV.cs (eB res)]:=by
 unfold lR at h
 refine dR (fn:=Tryz.f78) [0,1,10] (by kernel_rfl) Tryz.func78 r (by kernel_rfl) (by kernel_rfl)<|aJ<|mV (v:=aD) r<|bx h fun x1 hx1 h2=>dP (v:=aB) (σ':=[iG]) [0] r (rQ hx1) r r ⟨lr,trivial⟩ (fE tJ aC) r r r<|aU r (gX r)<|mB r<|og r r r (fun hc=>(bK (v:=aI) r))<|og r r r (fun hc=>(iZ (gx r hc) r))<|aU r (cS r r r (fun e=>hH e))<|aH (fr':=[(0,aD),(1,aI),(10,aB)]) r r<|cU h2 r (fun hb3 h3=>?_) (fun hb3 h3=>?_)
 ·
  refine bA<|mV (v:=aD) r<|mI r<|bx h3 fun x4 hx4 h5=>dP (v:=_) (σ':=[iG]) [0] r (vR hx4) r r kR (fE tJ aC) r r r<|dQ (fr':=[(0,aD),(1,aI),(10,aB)]) r ?_
  obtain rfl:=sy h5
  exact aIu (rs':=[]) r<|bM<|aP [] r r r (AV.le_any _) (fE tJ aC)
 ·
  refine bI ?_
  obtain rfl:=sy h3
  exact aIu (rs':=[]) r<|bM<|aP [] r r r (AV.le_any _) (fE tJ aC)
noncomputable def gL (aS3:Bool) (dU:Int) (jE:aV):Option aV :=
 cond (!aS3) ((lR 3 jE).bind fun x2=>some x2) (some jE)
theorem oA {aS3:Bool}{dU:Int}{jE:aV}{res:aV} (h:gL aS3 dU jE=some res):cX Tryz.prog 185 [.box 0 0,.c (.bool aS3)] [[.box 1 0,ci dU],AV.cs (eB jE)] (.any) [[.box 1 0,ci dU],AV.cs (eB res)]:=by
 unfold gL at h
 refine dR (fn:=Tryz.f185) [0,1,5] (by kernel_rfl) Tryz.func185 r (by kernel_rfl) (by kernel_rfl)<|aJ<|mB r<|aU r (gX r)<|aH (fr':=[(0,aD),(5,aB)]) r r<|cU h r (fun hb1 h1=>?_) (fun hb1 h1=>?_)
 ·
  refine bA<|mV (v:=aD) r<|aU r (iV r)<|aU r (bU aIe r)<|aU r (aR (v:=bD) aTw r r r)<|bx h1 fun x2 hx2 h3=>dP (v:=_) (σ':=[[bD,aI],iG]) [1] r (uO hx2) r r kR (fE tJ aC) r r r<|dQ (fr':=[(0,aD),(5,aB)]) r ?_
  obtain rfl:=sy h3
  exact aIu (rs':=[]) r<|bM<|aP [] r r r (AV.le_any _) (cO r (fE tJ aC))
 ·
  refine bI ?_
  obtain rfl:=sy h1
  exact aIu (rs':=[]) r<|bM<|aP [] r r r (AV.le_any _) (cO r (fE tJ aC))
noncomputable def lW (dU:Int) (jE:aV):Option (Int × aV) :=
 (iL (-9223372036854775808) 9223372036854775807 jE).bind fun x1=>some (x1.1,x1.2)
theorem rR {dU:Int}{jE:aV}{res:(Int × aV)} (h:lW dU jE=some res):cX Tryz.prog 186 [.box 0 0] [[.box 1 0,ci dU],AV.cs (eB jE)] (ci res.1) [[.box 1 0,ci dU],AV.cs (eB res.2)]:=by
 unfold lW at h
 refine dR (fn:=Tryz.f186) [0,2] (by kernel_rfl) Tryz.func186 r (by kernel_rfl) (by kernel_rfl)<|aJ<|sI r<|aH (fr':=[(0,aD)]) r r<|aJ<|mV (v:=aD) r<|aU r (iV r)<|aU r (bU aIe r)<|aU r (aR (v:=bD) aTw r r r)<|bx h fun x1 hx1 h2=>dP (v:=aI) (σ':=[[bD,aI],iG]) [1] r (sR hx1) r r nW (fE tJ aC) r r r<|sI r<|aH (fr':=[(2,aI)]) r r<|bO ?_
 obtain rfl:=sy h2
 exact bN (rs':=[.tmp 2]) r<|cE (v:=aI) r<|bM<|aP [] r r r lr (cO r (fE tJ aC))
noncomputable def pT (dU:Int) (jE:aV):Option ((List UInt8) × aV) :=
 (jW 9223372036854775807 jE).bind fun x1=>(gL (decide (((x1.1).length:Int)≤4096)) dU x1.2).bind fun x3=>some (x1.1,x3)
theorem aBo {dU:Int}{jE:aV}{res:((List UInt8) × aV)} (h:pT dU jE=some res):cX Tryz.prog 187 [.box 0 0] [[.box 1 0,ci dU],AV.cs (eB jE)] (.c (.str res.1)) [[.box 1 0,ci dU],AV.cs (eB res.2)]:=by
 unfold pT at h
 refine dR (fn:=Tryz.f187) [0,2,3] (by kernel_rfl) Tryz.func187 r (by kernel_rfl) (by kernel_rfl)<|aJ<|sS r<|aH (fr':=[(0,aD)]) r r<|aJ<|mV (v:=aD) r<|aU r (iV r)<|aU r (bU aIe r)<|aU r (aR (v:=bD) aTw r r r)<|bx h fun x1 hx1 h2=>dP (v:=aS) (σ':=[[bD,aI],iG]) [1] r (rK hx1) r r kR (fE tJ aC) r r r<|sS r<|aH (fr':=[(0,aD),(3,aS)]) r r<|aJ<|mV (v:=aD) r<|mS r<|aU r (nR zZ r)<|aU r (rU r r)<|bx h2 fun x3 hx3 h4=>dP (v:=_) (σ':=[[bD,aI],iG]) [0,1] r (oA hx3) r r kR (qU kR (fE tJ aC)) r r r<|aH (fr':=[(3,aS)]) r r<|aJ<|mS r<|sS r<|aH (fr':=[(2,aS)]) r r<|bO ?_
 obtain rfl:=sy h4
 exact bN (rs':=[.tmp 2]) r<|cE (v:=aS) r<|bM<|aP [] r r r lr (cO r (fE tJ aC))
noncomputable def gC (qX:Int→Int→aV→Option (aF × Int × aV)) (x1:(Int × aV)) (rT:Int) (mY:Int) (s8:(Int × Int × aV × (List aF) × (List (List UInt8)))):Option (dN (Int × Int × aV × (List aF) × (List (List UInt8))) (Int × aV × (List aF) × (List (List UInt8)))) :=
 ((cond (decide (s8.1<x1.1)) ((nD s8.2.1 s8.2.2.1).bind fun x13=>cond x13 (some (Fl.go ())) (some (Fl.done (dN.out (s8.2.1,s8.2.2.1,s8.2.2.2.1,s8.2.2.2.2))))) (some (Fl.done (dN.out (s8.2.1,s8.2.2.1,s8.2.2.2.1,s8.2.2.2.2))))):Option (Fl (dN (Int × Int × aV × (List aF) × (List (List UInt8))) (Int × aV × (List aF) × (List (List UInt8)))) Unit)).bind fun x9=>Fl.next x9 (fun j11=>(((cond (decide (rT=5)) ((pT s8.2.1 s8.2.2.1).bind fun x25=>(app 16 s8.2.2.2.2 ([x25.1]:List (List UInt8))).bind fun x27=>(gd ((decide (s8.1=0))==false) (lO x27 (IntKind.wrap .i64 (s8.1 - 1)))).bind fun x29=>(gd ((decide (s8.1=0))==false) (lO x27 s8.1)).bind fun x31=>(gL (cond (decide (s8.1=0)) true (Op.bytesLess x29 x31)) s8.2.1 x25.2).bind fun x33=>some (x33,x27)) (some (s8.2.2.1,s8.2.2.2.2))):Option (aV × (List (List UInt8)))).bind fun x21=>((nD s8.2.1 x21.1).bind fun x36=>cond x36 ((qX (IntKind.wrap .i64 (mY+1)) s8.2.1 x21.1).bind fun x39=>(app 80 s8.2.2.2.1 ([x39.1]:List aF)).bind fun x41=>some (dN.next ((IntKind.wrap .i64 (s8.1+1)),x39.2.1,x39.2.2,x41,x21.2))) (some (dN.next ((IntKind.wrap .i64 (s8.1+1)),s8.2.1,x21.1,s8.2.2.2.1,x21.2))))))
mutual
noncomputable def jO:Nat→Int→Int→(List UInt8)→Int→Int→aV→Option (aF × Int × aV)
 | 0,_,_,_,_,_,_=>none
 | n+1,rT,zN,zO,mY,dU,jE =>
  (lW dU jE).bind fun x1=>(gL (cond (decide (0≤x1.1)) (decide (x1.1≤1000)) false) dU x1.2).bind fun x3=>(fI (gC (eW n) x1 rT mY) ((0,dU,x3,([]:(List aF)),([]:(List (List UInt8)))))).bind fun x5=>(some ((aF.mk rT zN zO x5.2.2.1 x5.2.2.2),x5.1,x5.2.1))
noncomputable def eW:Nat→Int→Int→aV→Option (aF × Int × aV)
 | 0,_,_,_=>none
 | n+1,kZ,dU,jE =>
  (gL (cond (decide (dU<1000)) (decide (kZ≤16)) false) dU jE).bind fun x1=>(lW (IntKind.wrap .i64 (dU+1)) x1).bind fun x3=>(gL (cond (decide (0≤x3.1)) (decide (x3.1≤5)) false) (IntKind.wrap .i64 (dU+1)) x3.2).bind fun x5=>(nD (IntKind.wrap .i64 (dU+1)) x5).bind fun x7=>cond (!x7) (some ((aF.mk 0 0 ([]:List UInt8) ([]:(List aF)) ([]:(List (List UInt8)))),(IntKind.wrap .i64 (dU+1)),x5)) (((cond (decide (x3.1=1)) ((lW (IntKind.wrap .i64 (dU+1)) x5).bind fun x15=>(gL (cond (decide (x15.1=0)) true (decide (x15.1=1))) (IntKind.wrap .i64 (dU+1)) x15.2).bind fun x17=>some ((IntKind.wrap .i64 (dU+1)),x17,(aF.mk x3.1 x15.1 ([]:List UInt8) ([]:(List aF)) ([]:(List (List UInt8)))))) (cond (decide (x3.1=2)) ((lW (IntKind.wrap .i64 (dU+1)) x5).bind fun x20=>some ((IntKind.wrap .i64 (dU+1)),x20.2,(aF.mk x3.1 x20.1 ([]:List UInt8) ([]:(List aF)) ([]:(List (List UInt8)))))) (cond (decide (x3.1=3)) ((pT (IntKind.wrap .i64 (dU+1)) x5).bind fun x23=>some ((IntKind.wrap .i64 (dU+1)),x23.2,(aF.mk x3.1 0 x23.1 ([]:(List aF)) ([]:(List (List UInt8)))))) (((cond (decide (x3.1=4)) (some (decide (x3.1=4))) (some (decide (x3.1=5)))):Option Bool).bind fun x25=>(cond x25 (((jO n) x3.1 0 ([]:List UInt8) kZ (IntKind.wrap .i64 (dU+1)) x5).bind fun x31=>some (x31.2.1,x31.2.2,x31.1)) (some ((IntKind.wrap .i64 (dU+1)),x5,(aF.mk x3.1 0 ([]:List UInt8) ([]:(List aF)) ([]:(List (List UInt8))))))))))):Option (Int × aV × aF)).bind fun x11=>(some (x11.2.2,x11.1,x11.2.1)))
end
theorem aDH:∀ n:Nat,(∀ {rT:Int}{zN:Int}{zO:(List UInt8)}{mY:Int}{dU:Int}{jE:aV}{res:(aF × Int × aV)},jO n rT zN zO mY dU jE=some res→cX Tryz.prog 188 [.box 0 0,.agg [ci rT,ci zN,.c (.str zO),AV.nil,AV.nil],ci mY] [[.box 1 0,ci dU],AV.cs (eB jE)] (.agg (AV.cs (eR res.1))) [[.box 1 0,ci res.2.1],AV.cs (eB res.2.2)])∧(∀ {kZ:Int}{dU:Int}{jE:aV}{res:(aF × Int × aV)},eW n kZ dU jE=some res→cX Tryz.prog 149 [.box 0 0,ci kZ] [[.box 1 0,ci dU],AV.cs (eB jE)] (.agg (AV.cs (eR res.1))) [[.box 1 0,ci res.2.1],AV.cs (eB res.2.2)]):=by
 intro n
 induction n with
 | zero=>exact ⟨fun {rT zN zO mY dU jE res} h=>absurd h (by simp [jO]),fun {kZ dU jE res} h=>absurd h (by simp [eW])⟩
 | succ n ih =>
  obtain ⟨ih_ref02xdecoder_items,ih_ref02xdecoder_value⟩:=ih
  refine ⟨?_,?_⟩
  ·
   intro rT zN zO mY dU jE res h
   rw [jO] at h
   refine dR (fn:=Tryz.f188) [0,1,2,4,6,7,8,25,30,57] (by kernel_rfl) Tryz.func188 r (by kernel_rfl) (by kernel_rfl)<|aJ<|kP (v:=.agg bY) (n:=2) (cs:=bY) (σ':=[[bD,aI],iG,bY]) r r r r r<|jV (n:=3) (cs:=bY) (σ':=[[bD,aI],iG,bY,bY]) aDE r r r<|aH (fr':=[(0,aD),(2,aI),(4,dE),(6,jD)]) r r<|aJ<|mV (v:=aD) r<|bx h fun x1 hx1 h2=>dP (v:=aI) (σ':=[[bD,aI],iG,bY,bY]) [0,1] r (rR hx1) r r ⟨lr,trivial⟩ (qU kR (fE tJ aC)) r r r<|sI r<|aH (fr':=[(0,aD),(2,aI),(4,dE),(6,jD),(7,aI)]) r r<|aJ<|mV (v:=aD) r<|mI r<|aU r (uE r r)<|mB r<|og r r r (fun hc=>(bK (v:=aI) r))<|og r r r (fun hc=>(rU (gx r hc) r))<|aU r (cS r r r (fun e=>hH e))<|bx h2 fun x3 hx3 h4=>dP (v:=_) (σ':=[[bD,aI],iG,bY,bY]) [0,1] r (oA hx3) r r kR (qU kR (fE tJ aC)) (iO (by repeat (first | exact fU | refine bG r ?_ | refine bG (vD r) ?_ | refine bG vC ?_))) r r ?_
   refine aH (fr':=[(0,aD),(2,aI),(4,dE),(6,jD),(7,aI)]) r r<|aX<|aJ<|sI r<|aH (fr':=[(0,aD),(2,aI),(4,dE),(6,jD),(7,aI),(8,aI)]) r r<|bx h4 fun x5 hx5 h6=>hF lP (fun j7=>x5=j7) (fun (j7:(Int × aV × (List aF) × (List (List UInt8))))=>([(4,dE),(6,jD)]:Fr)) (fun (j7:(Int × aV × (List aF) × (List (List UInt8))))=>([[bD,ci j7.1],[.c (.bool j7.2.1.Made),.c (PV.ls 1 gW j7.2.1.Rest),ci j7.2.1.Bad],[ci rT,ci zN,.c (.str zO),AV.os 0 5 cF j7.2.2.1,AV.os 1 1 iF j7.2.2.2],[ci 0,ci 0,.c (.str ([]:List UInt8)),AV.nil,AV.nil]]:St)) ?_ ?_
   ·
    refine cP<|gY _ (fun (s8:(Int × Int × aV × (List aF) × (List (List UInt8))))=>([(0,aD),(2,ci mY),(4,dE),(6,jD),(7,ci x1.1),(8,ci s8.1)]:Fr)) (fun (s8:(Int × Int × aV × (List aF) × (List (List UInt8))))=>([[bD,ci s8.2.1],[.c (.bool s8.2.2.1.Made),.c (PV.ls 1 gW s8.2.2.1.Rest),ci s8.2.2.1.Bad],[ci rT,ci zN,.c (.str zO),AV.os 0 5 cF s8.2.2.2.1,AV.os 1 1 iF s8.2.2.2.2],[ci 0,ci 0,.c (.str ([]:List UInt8)),AV.nil,AV.nil]]:St)) hx5 (bJ [1000000,1000001] 4 r r r r kL6 (cO r (cO r (qU ⟨lr,lr,lr,(wK r),(wK r),trivial⟩ (cO r aC))))) ?_
    intro s8 st8 hs8 ho8
    unfold gC at hs8
    obtain ⟨x9,hx9,h10⟩:=eF hs8
    refine kF (fun j11=>x9=Fl.go j11) (fun (j11:Unit)=>([(0,aD),(2,ci mY),(4,dE),(6,jD),(7,ci x1.1),(8,ci s8.1)]:Fr)) (fun (j11:Unit)=>([[bD,ci s8.2.1],[.c (.bool s8.2.2.1.Made),.c (PV.ls 1 gW s8.2.2.1.Rest),ci s8.2.2.1.Bad],[ci rT,ci zN,.c (.str zO),AV.os 0 5 cF s8.2.2.2.1,AV.os 1 1 iF s8.2.2.2.2],[ci 0,ci 0,.c (.str ([]:List UInt8)),AV.nil,AV.nil]]:St)) ?_ ?_
    ·
     refine aJ<|mI r<|mI r<|aU r (fY r r)<|mB r<|aOo hx9 (fun hb12 h12=>?_) (fun hb12 h12=>?_)
     ·
      refine nK r r hb12<|mV (v:=aD) r<|nK r r hb12<|bx h12 fun x13 hx13 h14=>dP (v:=aB) (σ':=[[bD,aI],iG,[aI,aI,aS,aO,aO],bY]) [0,1] r (tU hx13) r r ⟨lr,trivial⟩ (qU kR (fE tJ aC)) r r r<|aU r (aB1 r hb12 r)<|aH (fr':=[(0,aD),(2,aI),(4,dE),(6,jD),(7,aI),(8,aI),(25,aB)]) r r<|cU h14 r (fun hb15 h15=>?_) (fun hb15 h15=>?_)
      ·
       exact bI<|lB _ (sy h15) (bJ [0,1] 4 r r r r kL6 (cO r (cO r (cO r (cO r aC)))))
      ·
       refine iE<|cZ<|cZ<|fT ?_
       have h16:=gI h15 h10
       have h17:=eS h16 ho8
       exact lB _ (sy h17) (bJ [0,1] 4 r r r r kR (cO r (cO r (cO r (cO r aC)))))
     ·
      refine aAk r r hb12<|aAk r r hb12<|aU r (sN r hb12 r)<|aH (fr':=[(0,aD),(2,aI),(4,dE),(6,jD),(7,aI),(8,aI),(25,aB)]) r r<|aAI r<|iE<|cZ<|cZ<|fT ?_
      have h18:=gI h12 h10
      have h19:=eS h18 ho8
      exact lB _ (sy h19) (bJ [0,1] 4 r r r r kR (cO r (cO r (cO r (cO r aC)))))
    ·
     intro j11 hj20
     have h20:=nY hj20 h10
     refine aX<|cP<|bx h20 fun x21 hx21 h22=>kF (fun j23=>x21=j23) (fun (j23:(aV × (List (List UInt8))))=>([(0,aD),(2,ci mY),(4,dE),(6,jD),(7,ci x1.1),(8,ci s8.1)]:Fr)) (fun (j23:(aV × (List (List UInt8))))=>([[bD,ci s8.2.1],[.c (.bool j23.1.Made),.c (PV.ls 1 gW j23.1.Rest),ci j23.1.Bad],[ci rT,ci zN,.c (.str zO),AV.os 0 5 cF s8.2.2.2.1,AV.os 1 1 iF j23.2],[ci 0,ci 0,.c (.str ([]:List UInt8)),AV.nil,AV.nil]]:St)) ?_ ?_
     ·
      refine aJ<|aU r (bU mE r)<|aU r (aR (v:=aI) hU r r r)<|aU r (cQ r r)<|aH (fr':=[(0,aD),(2,aI),(4,dE),(6,jD),(7,aI),(8,aI),(30,aB)]) r r<|cU hx21 r (fun hb24 h24=>?_) (fun hb24 h24=>?_)
      ·
       refine aX<|lJ [.q 0,.q 1,.q 2,.n 3 [0,1],.n 4 [0,1],.n 5 [],.q 6,.n 7 []] [(some 31,[4]),(some 32,[31]),(some 33,[0]),(some 34,[33]),(some 35,[34]),(some 36,[32,35]),(some 37,[4]),(none,[37,36])] [0,1,0,4,12,31,63,127] (by kernel_rfl)<|dq r r (bU oI r)<|dq r r (aR (v:=aO) qP r r r)<|dq r r (bK (v:=aD) r)<|d_n r ?_ r
       obtain ⟨x25,hx25,h26⟩:=eF h24
       refine dP (v:=aS) (σ':=[[bD,aI],iG,[aI,aI,aS,aO,aO],bY]) [0,1] r (aBo hx25) r r ⟨lr,trivial⟩ (qU kR (fE tJ aC)) r r r<|aAL<|⟨(wB (v:=aDP) r r (mG r (bU oI r)) (wB (v:=aO) r r (mG r (aR (v:=aO) qP r r r)) pI)),?_⟩
       refine d_n r ?_ r
       refine uU (row:=iF) (xs:=([x25.1]:List (List UInt8))) (rows:=[[_]]) (σ':=[[bD,aI],iG,[aI,aI,aS,aO,aO],bY]) [0] aAW r r r (fR r oL) r r<|aAL<|⟨(wB (v:=aDP) r r (mG r (bU oI r)) (wB (v:=aO) r r (mG r (aR (v:=aO) qP r r r)) pI)),?_⟩
       refine d_n r ?_ r
       obtain ⟨x27,hx27,h28⟩:=eF h26
       refine aCn (row:=iF) aAW r yV r (nB r) (fun _=>r) hx27<|aAL<|⟨pI,?_⟩
       refine dq r r (bU oI r)<|d_n r ?_ r
       refine cN (v:=aO) (us:=[aO]) (cs:=[aI,aI,aS,aO,aL]) (σ':=[[bD,aI],iG,[aI,aI,aS,aO,aO],bY]) r qP r r r r r r r r<|aAL<|⟨pI,?_⟩
       refine aAe (fr':=[(0,aD),(2,aI),(4,dE),(6,jD),(7,aI),(8,aI)]) r r<|lJ [.q 0,.q 1,.q 2,.q 3,.q 4,.q 5,.q 6,.q 7,.q 8,.q 9,.q 10,.q 11,.q 12,.q 13,.q 14,.q 15,.q 16,.n 17 []] [(some 38,[0]),(some 39,[8]),(some 40,[39]),(some 41,[40]),(some 42,[4,41]),(some 43,[42,41]),(some 44,[8,41]),(some 45,[44,41]),(some 46,[43,45,41]),(some 47,[46,41]),(some 48,[4,41]),(some 49,[48,41]),(some 50,[8,41]),(some 51,[49,50,41]),(some 52,[51,41]),(some 53,[47,52,41]),(some 54,[41,53]),(some 55,[38,54])] [0,0,2,6,14,30,14,78,254,510,14,1038,14,7182,15374,32766,65534,131071] (by kernel_rfl)<|dq r r (bK (v:=aD) r)<|dq r r (bK (v:=aI) r)<|dq r r (cQ r r)<|dq r r (bK (v:=aB) r)<|d_g r r r (fun hc=>mG r (bU oI r))<|d_g r r r (fun hc=>mG r (aR (v:=aO) qP (gx r hc) r r))<|d_g r r r (fun hc=>mG r (bK (v:=aI) r))<|d_g r r r (fun hc=>mG r (aCQ (gx r hc) r))<|bx h28 fun x29 hx29 h30=>d_g r r r (fun hc=>mG r (lC (cs:=[PV.str _]) aAW (nB (gx r hc)) (gx r hc) (dM hx29 hc) r))<|d_g r r r (fun hc=>mG r (fO (p:=PV.str _) rZ (gx r hc) r))<|d_g r r r (fun hc=>mG r (bU oI r))<|d_g r r r (fun hc=>mG r (aR (v:=aO) qP (gx r hc) r r))<|d_g r r r (fun hc=>mG r (bK (v:=aI) r))<|bx h30 fun x31 hx31 h32=>d_g r r r (fun hc=>mG r (lC (cs:=[PV.str _]) aAW (nB (gx r hc)) (gx r hc) (dM hx31 hc) r))<|d_g r r r (fun hc=>mG r (fO (p:=PV.str _) rZ (gx r hc) r))<|d_g r r r (fun hc=>mG r (aUA (gx r hc) (gx r hc)))<|dq r r (dK r r r (fun e=>hH e))<|d_n r ?_ r
       obtain ⟨x33,hx33,h34⟩:=eF h32
       refine dP (v:=_) (σ':=[[bD,aI],iG,[aI,aI,aS,aO,aO],bY]) [0,1] r (oA hx33) r r kR (qU kR (fE tJ aC)) (iO (by repeat (first | exact fU | refine bG r ?_ | refine bG (vD r) ?_ | refine bG vC ?_))) r r ?_
       refine aAL<|⟨pI,?_⟩
       exact aOZ (fr':=[(0,aD),(2,aI),(4,dE),(6,jD),(7,aI),(8,aI)]) r<|lB _ (sy h34) (bJ [0,576] 4 r r r r kL6 (cO r (cO r (cO r (cO r aC)))))
      ·
       exact bI<|lB _ (sy h24) (bJ [0,1] 4 r r r r kL6 (cO r (cO r (cO r (cO r aC)))))
     ·
      intro j23 hj35
      subst hj35
      refine aJ<|mV (v:=aD) r<|bx h22 fun x36 hx36 h37=>dP (v:=aB) (σ':=[[bD,aI],iG,[aI,aI,aS,aO,aO],bY]) [0,1] r (tU hx36) r r ⟨lr,trivial⟩ (qU kR (fE tJ aC)) r r r<|aH (fr':=[(0,aD),(2,aI),(4,dE),(6,jD),(7,aI),(8,aI),(57,aB)]) r r<|cU h37 r (fun hb38 h38=>?_) (fun hb38 h38=>?_)
      ·
       refine lJ [.q 0,.q 1,.q 2,.q 3,.q 4,.n 5 [0,1],.n 6 [0,1],.n 7 [],.q 8,.n 9 []] [(some 58,[4]),(some 59,[58]),(some 60,[0]),(some 61,[2]),(some 62,[61]),(some 63,[60,62]),(some 64,[63]),(some 65,[59,64]),(some 66,[4]),(none,[66,65])] [0,1,0,0,8,28,60,127,255,511] (by kernel_rfl)<|dq r r (bU iB r)<|dq r r (aR (v:=aO) nS r r r)<|dq r r (bK (v:=aD) r)<|dq r r (bK (v:=aI) r)<|dq r r (fX r r)<|d_n r ?_ r
       obtain ⟨x39,hx39,h40⟩:=eF h38
       refine dP (v:=.agg cJ) (σ':=[[bD,aI],iG,[aI,aI,aS,aO,aO],bY]) [0,1] r (ih_ref02xdecoder_value hx39) r r kR (qU kR (fE tJ aC)) r r r<|aAL<|⟨(wB (v:=aDO) r r (mG r (bU iB r)) (wB (v:=aO) r r (mG r (aR (v:=aO) nS r r r)) pI)),?_⟩
       refine d_n r ?_ r
       refine uU (row:=cF) (xs:=([x39.1]:List aF)) (rows:=[[_,_,_,_,_]]) (σ':=[[bD,aI],iG,[aI,aI,aS,aO,aO],bY]) [0,0,0,5,1] uF r r r (fR (dZ _) oL) r r<|aAL<|⟨(wB (v:=aDO) r r (mG r (bU iB r)) (wB (v:=aO) r r (mG r (aR (v:=aO) nS r r r)) pI)),?_⟩
       refine d_n r ?_ r
       obtain ⟨x41,hx41,h42⟩:=eF h40
       refine aCn (row:=cF) uF r vL r (nB r) aDU hx41<|aAL<|⟨pI,?_⟩
       refine dq r r (bU iB r)<|d_n r ?_ r
       refine cN (v:=aO) (us:=[aO]) (cs:=[aI,aI,aS,aL,aO]) (σ':=[[bD,aI],iG,[aI,aI,aS,aO,aO],bY]) r nS r r r r r r r r<|aAL<|⟨pI,?_⟩
       exact aOZ (fr':=[(0,aD),(2,aI),(4,dE),(6,jD),(7,aI),(8,aI),(57,aB)]) r<|dI<|dB<|bA<|mI r<|aU r (fX r r)<|sI r<|dQ (fr':=[(0,aD),(2,aI),(4,dE),(6,jD),(7,aI),(8,aI),(57,aB)]) r<|zY _ (sy h42) (bJ [1040,1] 4 r r r r kL6 (cO r (cO r (cO r (cO r aC)))))
      ·
       exact bI<|dI<|dB<|bA<|mI r<|aU r (fX r r)<|sI r<|dQ (fr':=[(0,aD),(2,aI),(4,dE),(6,jD),(7,aI),(8,aI),(57,aB)]) r<|zY _ (sy h38) (bJ [0,1] 4 r r r r kL6 (cO r (cO r (cO r (cO r aC)))))
   ·
    intro j7 hj43
    subst hj43
    refine dB<|aJ<|aU r (eL (us:=[aI,aI,aS,aO,aO]) jC r r r r)<|cN (v:=.agg [aI,aI,aS,aO,aO]) (us:=[aI,aI,aS,aO,aO]) (cs:=bY) (σ':=[[bD,aI],iG,[aI,aI,aS,aO,aO],[aI,aI,aS,aO,aO]]) r jC r r r r r r r r<|aH (fr':=[(6,jD)]) r r<|bO ?_
    obtain rfl:=sy h6
    exact bN (rs':=[.cell 6 26]) r<|eX (us:=[aI,aI,aS,aO,aO]) (cs:=[aI,aI,aS,aO,aO]) jC r r r r<|bM<|aP [] r r r (cM r kR5) (qU kR (fE tJ aC))
  ·
   intro kZ dU jE res h
   rw [eW] at h
   refine dR (fn:=Tryz.f149) [0,1,4,5,39,42,43,58,63,68] (by kernel_rfl) Tryz.func149 r (by kernel_rfl) (by kernel_rfl)<|aJ<|jV (n:=2) (cs:=bY) (σ':=[[bD,aI],iG,bY]) aDE r r r<|aH (fr':=[(0,aD),(1,aI),(4,dE)]) r r<|aJ<|mV (v:=aD) r<|mV (v:=aD) r<|aU r (iV r)<|aU r (bU aLB r)<|aU r (aR (v:=aI) hU r r r)<|aU r (fY r r)<|mB r<|og r r r (fun hc=>(bK (v:=aI) r))<|og r r r (fun hc=>(rU (gx r hc) r))<|aU r (cS r r r (fun e=>hH e))<|bx h fun x1 hx1 h2=>dP (v:=_) (σ':=[[bD,aI],iG,bY]) [0,1] r (oA hx1) r r kR (qU kR (fE tJ aC)) (iO (by repeat (first | exact fU | refine bG r ?_ | refine bG (vD r) ?_ | refine bG vC ?_))) r r ?_
   refine aH (fr':=[(0,aD),(1,aI),(4,dE)]) r r<|aJ<|mV (v:=aD) r<|aU r (iV r)<|aU r (bU aLB r)<|aU r (aR (v:=aI) hU r r r)<|aU r (fX r r)<|aU r (iV r)<|aU r (bU aLB r)<|cN (v:=aI) (us:=[aI]) (cs:=[bD,aI]) (σ':=[[bD,aI],iG,bY]) r hU r r r r r r r r<|aH (fr':=[(0,aD),(1,aI),(4,dE)]) r r<|aX<|bA<|mV (v:=aD) r<|bx h2 fun x3 hx3 h4=>dP (v:=aI) (σ':=[[bD,aI],iG,bY]) [0,1] r (rR hx3) r r ⟨lr,trivial⟩ (qU kR (fE tJ aC)) r r r<|aU r (fM (cs:=bY) aGq r)<|jV (n:=3) (cs:=bY) (σ':=[[bD,aI],iG,bY,bY]) aDE r r r<|cN (v:=.agg bY) (us:=bY) (cs:=bY) (σ':=[[bD,aI],iG,bY,bY]) r jC r r r r r r r r<|aH (fr':=[(0,aD),(1,aI),(4,dE),(5,jD)]) r r<|aJ<|mV (v:=aD) r<|aU r (bU mE r)<|aU r (aR (v:=aI) hU r r r)<|aU r (uE r r)<|mB r<|og r r r (fun hc=>(bU mE r))<|og r r r (fun hc=>(aR (v:=aI) hU (gx r hc) r r))<|og r r r (fun hc=>(rU (gx r hc) r))<|aU r (cS r r r (fun e=>hH e))<|bx h4 fun x5 hx5 h6=>dP (v:=_) (σ':=[[bD,aI],iG,bY,bY]) [0,1] r (oA hx5) r r kR (qU kR (fE tJ aC)) (iO (by repeat (first | exact fU | refine bG r ?_ | refine bG (vD r) ?_ | refine bG vC ?_))) r r ?_
   refine aH (fr':=[(0,aD),(1,aI),(4,dE),(5,jD)]) r r<|aX<|aJ<|mV (v:=aD) r<|bx h6 fun x7 hx7 h8=>dP (v:=aB) (σ':=[[bD,aI],iG,bY,bY]) [0,1] r (tU hx7) r r ⟨lr,trivial⟩ (qU kR (fE tJ aC)) r r r<|aU r (gX r)<|aH (fr':=[(0,aD),(1,aI),(4,dE),(5,jD),(39,aB)]) r r<|cU h8 r (fun hb9 h9=>?_) (fun hb9 h9=>?_)
   ·
    refine aJ<|aU r (fM (cs:=bY) aGq r)<|cN (v:=.agg bY) (us:=bY) (cs:=bY) (σ':=[[bD,aI],iG,bY,bY]) r jC r r r r r r r r<|aH (fr':=[(4,dE)]) r r<|bO<|aN ?_
    obtain rfl:=sy h9
    exact bN (rs':=[.cell 4 26]) r<|eX (us:=bY) (cs:=bY) jC r r r r<|bM<|aP [] r r r (cM r ⟨r,r,r,⟨_,r⟩,⟨_,r⟩,trivial⟩) (qU kR (fE tJ aC))
   ·
    refine bI<|dB<|bx h9 fun x11 hx11 h12=>kF (fun j13=>x11=j13) (fun (j13:(Int × aV × aF))=>([(4,dE),(5,jD)]:Fr)) (fun (j13:(Int × aV × aF))=>([[bD,ci j13.1],[.c (.bool j13.2.1.Made),.c (PV.ls 1 gW j13.2.1.Rest),ci j13.2.1.Bad],[ci 0,ci 0,.c (.str ([]:List UInt8)),AV.nil,AV.nil],[ci j13.2.2.Kind,ci j13.2.2.Int,.c (.str j13.2.2.Text),.c (PV.ls 5 cF j13.2.2.Items),.c (PV.ls 1 iF j13.2.2.Keys)]]:St)) ?_ ?_
    ·
     refine aJ<|aU r (bU mE r)<|aU r (aR (v:=aI) hU r r r)<|aH (fr':=[(0,aD),(1,aI),(4,dE),(5,jD),(42,aI)]) r r<|cP<|aJ<|aU r (cQ r r)<|sB r<|aH (fr':=[(0,aD),(1,aI),(4,dE),(5,jD),(42,aI),(43,aB)]) r r<|cU hx11 r (fun hb14 h14=>?_) (fun hb14 h14=>?_)
     ·
      refine aJ<|mV (v:=aD) r<|bx h14 fun x15 hx15 h16=>dP (v:=aI) (σ':=[[bD,aI],iG,bY,bY]) [0,1] r (rR hx15) r r ⟨lr,trivial⟩ (qU kR (fE tJ aC)) r r r<|aU r (bU rO r)<|cN (v:=aI) (us:=[aI]) (cs:=bY) (σ':=[[bD,aI],iG,bY,bY]) r hU r r r r r r r r<|aH (fr':=[(0,aD),(4,dE),(5,jD)]) r r<|bA<|mV (v:=aD) r<|aU r (bU rO r)<|aU r (aR (v:=aI) hU r r r)<|aU r (cQ r r)<|mB r<|og r r r (fun hc=>(bU rO r))<|og r r r (fun hc=>(aR (v:=aI) hU (gx r hc) r r))<|og r r r (fun hc=>(cQ (gx r hc) r))<|aU r (dK r r r (fun e=>hH e))<|bx h16 fun x17 hx17 h18=>dP (v:=_) (σ':=[[bD,aI],iG,bY,bY]) [0,1] r (oA hx17) r r kR (qU kR (fE tJ aC)) (iO (by repeat (first | exact fU | refine bG r ?_ | refine bG (vD r) ?_ | refine bG vC ?_))) r r ?_
      exact dQ (fr':=[(0,aD),(4,dE),(5,jD)]) r<|dI<|lB _ (sy h18) (bJ [] 4 r r r r kR (cO r (cO r (cO r (qU ⟨lr,lr,lr,aAh,aAh,trivial⟩ aC)))))
     ·
      refine aJ<|aU r (cQ r r)<|sB r<|aH (fr':=[(0,aD),(1,aI),(4,dE),(5,jD),(42,aI),(58,aB)]) r r<|cU h14 r (fun hb19 h19=>?_) (fun hb19 h19=>?_)
      ·
       exact bA<|mV (v:=aD) r<|bx h19 fun x20 hx20 h21=>dP (v:=aI) (σ':=[[bD,aI],iG,bY,bY]) [0,1] r (rR hx20) r r ⟨lr,trivial⟩ (qU kR (fE tJ aC)) r r r<|aU r (bU rO r)<|cN (v:=aI) (us:=[aI]) (cs:=bY) (σ':=[[bD,aI],iG,bY,bY]) r hU r r r r r r r r<|dQ (fr':=[(0,aD),(1,aI),(4,dE),(5,jD),(42,aI),(58,aB)]) r<|dI<|lB _ (sy h21) (bJ [] 4 r r r r kR (cO r (cO r (cO r (qU ⟨lr,lr,lr,aAh,aAh,trivial⟩ aC)))))
      ·
       refine aJ<|aU r (cQ r r)<|sB r<|aH (fr':=[(0,aD),(1,aI),(4,dE),(5,jD),(42,aI),(63,aB)]) r r<|cU h19 r (fun hb22 h22=>?_) (fun hb22 h22=>?_)
       ·
        exact bA<|mV (v:=aD) r<|bx h22 fun x23 hx23 h24=>dP (v:=aS) (σ':=[[bD,aI],iG,bY,bY]) [0,1] r (aBo hx23) r r ⟨lr,trivial⟩ (qU kR (fE tJ aC)) r r r<|aU r (bU uA r)<|cN (v:=aS) (us:=[aS]) (cs:=bY) (σ':=[[bD,aI],iG,bY,bY]) r rZ r r r r r r r r<|dQ (fr':=[(0,aD),(1,aI),(4,dE),(5,jD),(42,aI),(63,aB)]) r<|dI<|lB _ (sy h24) (bJ [] 4 r r r r kR (cO r (cO r (cO r (qU ⟨lr,lr,lr,aAh,aAh,trivial⟩ aC)))))
       ·
        obtain ⟨x25,hx25,h26⟩:=eF h22
        refine kF (fun j27=>x25=j27) (fun (j27:Bool)=>([(0,aD),(1,ci kZ),(4,dE),(5,jD),(68,.c (.bool j27))]:Fr)) (fun (j27:Bool)=>([[bD,ci (IntKind.wrap .i64 (dU+(1:Int)))],[.c (.bool x5.Made),.c (PV.ls 1 gW x5.Rest),ci x5.Bad],[ci 0,ci 0,.c (.str ([]:List UInt8)),AV.nil,AV.nil],[ci x3.1,ci 0,.c (.str ([]:List UInt8)),AV.nil,AV.nil]]:St)) ?_ ?_
        ·
         refine aJ<|aU r (cQ r r)<|sB r<|aH (fr':=[(0,aD),(1,aI),(4,dE),(5,jD),(42,aI),(68,aB)]) r r<|cU hx25 r (fun hb28 h28=>?_) (fun hb28 h28=>?_)
         ·
          exact bI<|lB _ (sy h28) (bJ [] 4 r r r r kL5 (cO r (cO r (cO r (cO r aC)))))
         ·
          exact bA<|aU r (cQ r r)<|sB r<|dQ (fr':=[(0,aD),(1,aI),(4,dE),(5,jD),(42,aI),(68,aB)]) r<|lB _ (sy h28) (bJ [] 4 r r r r kL5 (cO r (cO r (cO r (cO r aC)))))
        ·
         intro j27 hj29
         subst hj29
         refine cU h26 r (fun hb30 h30=>?_) (fun hb30 h30=>?_)
         ·
          exact bA<|mV (v:=aD) r<|aU r (eL (us:=bY) jC r r r r)<|mI r<|bx h30 fun x31 hx31 h32=>dP (v:=.agg cJ) (σ':=[[bD,aI],iG,bY,bY]) [0,1] r (ih_ref02xdecoder_items hx31) r r ⟨lr,(aO7 r kL5),lr,trivial⟩ (qU kR (fE tJ aC)) r r r<|cN (v:=.agg cJ) (us:=cJ) (cs:=bY) (σ':=[[bD,aI],iG,bY,cJ]) r jC r r r r r r r r<|dQ (fr':=[(0,aD),(1,aI),(4,dE),(5,jD),(68,aB)]) r<|dI<|lB _ (sy h32) (bJ [] 4 r r r r kR (cO r (cO r (cO r (cO r aC)))))
         ·
          exact bI<|dI<|lB _ (sy h30) (bJ [] 4 r r r r kR (cO r (cO r (cO r (qU ⟨lr,lr,lr,aAh,aAh,trivial⟩ aC)))))
    ·
     intro j13 hj33
     subst hj33
     refine aJ<|aU r (eL (us:=cJ) jC r r r r)<|cN (v:=.agg cJ) (us:=cJ) (cs:=bY) (σ':=[[bD,aI],iG,cJ,cJ]) r jC r r r r r r r r<|aH (fr':=[(4,dE)]) r r<|bO ?_
     obtain rfl:=sy h12
     exact bN (rs':=[.cell 4 26]) r<|eX (us:=cJ) (cs:=cJ) jC r r r r<|bM<|aP [] r r r (cM r kR5) (qU kR (fE tJ aC))
noncomputable def uL (kZ:Int) (dU:Int) (jE:aV):Option (aF × Int × aV):=lim fun n=>eW n kZ dU jE
theorem aD4 {kZ:Int}{dU:Int}{jE:aV}{res:(aF × Int × aV)} (h:uL kZ dU jE=some res):cX Tryz.prog 149 [.box 0 0,ci kZ] [[.box 1 0,ci dU],AV.cs (eB jE)] (.agg (AV.cs (eR res.1))) [[.box 1 0,ci res.2.1],AV.cs (eB res.2.2)]:=by
 obtain ⟨n,hn⟩:=qN h
 exact (aDH n).2 hn
noncomputable def aAn (dA:aV):Option (aF × aV) :=
 (uL 1 0 dA).bind fun x1=>(nD x1.2.1 x1.2.2).bind fun x3=>cond (!x3) (some ((aF.mk 0 0 ([]:List UInt8) ([]:(List aF)) ([]:(List (List UInt8)))),x1.2.2)) (some (x1.1,x1.2.2))
theorem aJw {dA:aV}{res:(aF × aV)} (h:aAn dA=some res):cX Tryz.prog 76 [.box 0 0] [AV.cs (eB dA)] (.agg (AV.cs (eR res.1))) [AV.cs (eB res.2)]:=by
 unfold aAn at h
 refine dR (fn:=Tryz.f76) [0,2,3,4,12] (by kernel_rfl) Tryz.func76 r (by kernel_rfl) (by kernel_rfl)<|aJ<|jV (n:=1) (cs:=bY) (σ':=[iG,bY]) aDE r r r<|aH (fr':=[(0,aD),(2,bD)]) r r<|aJ<|mV (v:=aD) r<|aU r (fM (cs:=[aD,aI]) aVZ r)<|kP (v:=.agg [aD,aI]) (n:=2) (cs:=[aD,aI]) (σ':=[iG,bY,[aD,aI]]) r r r r r<|sV (v:=dE) r<|aH (fr':=[(2,bD),(3,dE)]) r r<|aX<|bA<|mV (v:=dE) r<|bx h fun x1 hx1 h2=>dP (v:=.agg cJ) (σ':=[iG,bY,[aD,aI]]) [2,0] r (aD4 hx1) r r kR (qU kR (fE tJ aC)) r r r<|jV (n:=3) (cs:=bY) (σ':=[iG,bY,[aD,aI],bY]) aDE r r r<|cN (v:=.agg cJ) (us:=cJ) (cs:=bY) (σ':=[iG,bY,[aD,aI],cJ]) r jC r r r r r r r r<|aH (fr':=[(2,bD),(3,dE),(4,jD)]) r r<|aX<|aJ<|mV (v:=dE) r<|bx h2 fun x3 hx3 h4=>dP (v:=aB) (σ':=[iG,bY,[aD,aI],cJ]) [2,0] r (tU hx3) r r ⟨lr,trivial⟩ (qU kR (fE tJ aC)) r r r<|aU r (gX r)<|aH (fr':=[(2,bD),(4,jD),(12,aB)]) r r<|cU h4 r (fun hb5 h5=>?_) (fun hb5 h5=>?_)
 ·
  refine aJ<|aU r (fM (cs:=bY) aGq r)<|cN (v:=.agg bY) (us:=bY) (cs:=bY) (σ':=[iG,bY,[aD,aI],cJ]) r jC r r r r r r r r<|aH (fr':=[(2,bD)]) r r<|bO<|aN ?_
  obtain rfl:=sy h5
  exact bN (rs':=[.cell 2 26]) r<|eX (us:=bY) (cs:=bY) jC r r r r<|bM<|aP [] r r r (cM r ⟨r,r,r,⟨_,r⟩,⟨_,r⟩,trivial⟩) (fE tJ aC)
 ·
  refine bI<|dB<|aJ<|aU r (eL (us:=cJ) jC r r r r)<|cN (v:=.agg cJ) (us:=cJ) (cs:=bY) (σ':=[iG,cJ,[aD,aI],cJ]) r jC r r r r r r r r<|aH (fr':=[(2,bD)]) r r<|bO ?_
  obtain rfl:=sy h5
  exact bN (rs':=[.cell 2 26]) r<|eX (us:=cJ) (cs:=cJ) jC r r r r<|bM<|aP [] r r r (cM r kR5) (fE tJ aC)
noncomputable def pV (dA:aV):Option (Int × aV) :=
 (iL (-9223372036854775808) 9223372036854775807 dA).bind fun x1=>some (x1.1,x1.2)
theorem rS {dA:aV}{res:(Int × aV)} (h:pV dA=some res):cX Tryz.prog 151 [.box 0 0] [AV.cs (eB dA)] (ci res.1) [AV.cs (eB res.2)]:=by
 unfold pV at h
 refine dR (fn:=Tryz.f151) [0,2] (by kernel_rfl) Tryz.func151 r (by kernel_rfl) (by kernel_rfl)<|aJ<|sI r<|aH (fr':=[(0,aD)]) r r<|aJ<|mV (v:=aD) r<|bx h fun x1 hx1 h2=>dP (v:=aI) (σ':=[iG]) [0] r (sR hx1) r r nW (fE tJ aC) r r r<|sI r<|aH (fr':=[(2,aI)]) r r<|bO ?_
 obtain rfl:=sy h2
 exact bN (rs':=[.tmp 2]) r<|cE (v:=aI) r<|bM<|aP [] r r r lr (fE tJ aC)
