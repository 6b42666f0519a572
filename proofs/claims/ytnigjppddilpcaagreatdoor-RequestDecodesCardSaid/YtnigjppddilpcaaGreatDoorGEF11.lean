import Derived.Test.YtnigjppddilpcaaGreatDoorGETy
import Derived.Test.YtnigjppddilpcaaGreatDoorGEF10
namespace Go.Proofs.YtnigjppddilpcaaGreatDoor
open Go Abs
set_option maxRecDepth 100000
set_option linter.unusedVariables false
set_option linter.unusedSimpArgs false
noncomputable def tI (cV:aV) (s4:Int):Option (dU Int (Fl (Int × Int) Unit)) :=
 cond (decide (s4≤10)) (cond (decide (((cV.Rest).length:Int)<s4)) (some (dU.out (Fl.done (0,4)))) ((nG cV.Rest (IntKind.wrap .i64 (s4 - 1))).bind fun x10=>cond (decide (((x10).toNat:Int)<128)) (cond (cond (cond (decide (1<s4)) (decide (((x10).toNat:Int)=0)) false) true (cond (decide (s4=10)) (decide (1<((x10).toNat:Int))) false)) (some (dU.out (Fl.done (0,3)))) (some (dU.out (Fl.done (s4,0))))) (some (dU.next (IntKind.wrap .i64 (s4+1)))))) (some (dU.out (Fl.go ())))
noncomputable def sY (cV:aV):Option (Int × Int) :=
 (fK (tI cV) (1)).bind fun x1=>Fl.next x1 (fun j3=>(some (0,3)))
theorem aE0 {cV:aV}{z:(Int × Int)} (h:sY cV=some z):cQ Tryz.prog 143 [.box 0 0] [AV.cs (dX cV)] (.tup [ci z.1,ci z.2]) [AV.cs (dX cV)]:=by
 unfold sY at h
 refine dF (fn:=Tryz.f143) [0,2,3,4,5,7,16,26,40] (by kernel_rfl) Tryz.func143 r (by kernel_rfl) (by kernel_rfl)<|aH<|sI r<|sI r<|aG (fr':=[(0,aE)]) r r<|aZ<|aH<|sI r<|aG (fr':=[(0,aE),(4,aI)]) r r<|bx h fun x1 y1 h2=>gZ lB (fun j3=>x1=Fl.go j3) (fun (j3:Unit)=>([]:Fr)) (fun (j3:Unit)=>([[.c (.bool cV.Made),.c (PV.ls 1 iT cV.Rest),ci cV.Bad]]:St)) ?_ ?_
 ·
  refine cH<|gV _ (fun (s4:Int)=>([(0,aE),(4,ci s4)]:Fr)) (fun (s4:Int)=>([[.c (.bool cV.Made),.c (PV.ls 1 iT cV.Rest),ci cV.Bad]]:St)) y1 (bC [] 1 r r r r jN (bR r aD)) ?_
  intro s4 st4 hs4 ho4
  unfold tI at hs4
  refine aZ<|aH<|mI r<|aR r (nM r r)<|aG (fr':=[(0,aE),(4,aI),(7,aB)]) r r<|cG hs4 r (fun b5 h5=>?_) (fun b5 h5=>?_)
  ·
   refine bF<|cZ<|aZ<|cH<|aZ<|aH<|mI r<|mV (v:=aE) r<|aR r (jM r)<|aR r (bD aCJ r)<|aR r (aK (v:=aL) aFZ r r r)<|aR r (hZ aGM (eK r))<|aR r (qW r r)<|aG (fr':=[(0,aE),(4,aI),(16,aB)]) r r<|cG h5 r (fun b6 h6=>?_) (fun b6 h6=>?_)
   ·
    refine aH<|sI r<|sI r<|aG (fr':=[(2,aI),(3,aI)]) r r<|bK<|aP<|bO<|aP<|aP<|bO<|aP<|aP ?_
    have h7:=eR h6 ho4
    have h8:=fL h7 h2
    obtain rfl:=sy h8
    exact bJ (rs':=[.tmp 2,.tmp 3]) r<|bS (v:=aI) r<|bS (v:=aI) r<|bI<|aN [] r r r (mR r jN) (bR r aD)
   ·
    refine bF<|cZ<|aH<|mV (v:=aE) r<|aR r (jM r)<|aR r (bD aCJ r)<|aR r (aK (v:=aL) aFZ r r r)<|mI r<|aR r (aFA r r)<|bx h6 fun x10 y10 h11=>aR r (lF (cs:=[PV.int _ _]) aEq (eK r) r y10 r)<|aR r (gP (p:=PV.int _ _) tv5 r r)<|sI r<|aG (fr':=[(0,aE),(4,aI),(5,aI)]) r r<|aH<|mI r<|aR r (gI r r)<|aG (fr':=[(0,aE),(4,aI),(5,aI),(26,aB)]) r r<|cG h11 r (fun b12 h12=>?_) (fun b12 h12=>?_)
    ·
     refine aZ<|aH<|mI r<|aR r (qW r r)<|mB r<|og r r r (fun u=>(bN (v:=aI) r))<|og r r r (fun u=>(bU (gx r u) r))<|aR r (bV r r r (fun e=>fJ e))<|mB r<|og r r r (fun u=>(bN (v:=aI) r))<|og r r r (fun u=>(bU (gx r u) r))<|og r r r (fun u=>(bN (v:=aB) (gx r u)))<|fD r r (fun u=>fS r (bN (v:=aI) r))<|fD r r (fun u=>fS r (qW (gx r u) r))<|og r r r (fun u=>(bV (gx r u) r r (fun e=>pX u (fJ e))))<|aR r (cN r r r (fun e=>fJ e))<|aG (fr':=[(4,aI),(40,aB)]) r r<|cG h12 r (fun b13 h13=>?_) (fun b13 h13=>?_)
     ·
      refine aH<|sI r<|sI r<|aG (fr':=[(2,aI),(3,aI)]) r r<|bK<|aP<|bO<|aP<|aP<|bO<|aP<|aP ?_
      have h14:=eR h13 ho4
      have h15:=fL h14 h2
      obtain rfl:=sy h15
      exact bJ (rs':=[.tmp 2,.tmp 3]) r<|bS (v:=aI) r<|bS (v:=aI) r<|bI<|aN [] r r r (mR r jN) (bR r aD)
     ·
      refine bF<|cZ<|aH<|mI r<|sI r<|sI r<|aG (fr':=[(2,aI),(3,aI)]) r r<|bK<|bO<|aP<|aP<|bO<|aP<|aP ?_
      have h17:=eR h13 ho4
      have h18:=fL h17 h2
      obtain rfl:=sy h18
      exact bJ (rs':=[.tmp 2,.tmp 3]) r<|bS (v:=aI) r<|bS (v:=aI) r<|bI<|aN [] r r r (mR r jN) (bR r aD)
    ·
     exact bF<|cW<|cZ<|bB<|mI r<|aR r (gC r r)<|sI r<|dM (fr':=[(0,aE),(4,aI),(5,aI),(26,aB)]) r<|zO _ (sy h12) (bC [] 1 r r r r jN (bR r aD))
  ·
   refine hG<|cY<|cY<|fP ?_
   have h20:=eR h5 ho4
   exact iQ _ (sy h20) (bC [] 1 r r r r trivial (bR r aD))
 ·
  intro j3 hj21
  have h21:=lV hj21 h2
  refine cZ<|aH<|sI r<|sI r<|aG (fr':=[(2,aI),(3,aI)]) r r<|bK ?_
  obtain rfl:=sy h21
  exact bJ (rs':=[.tmp 2,.tmp 3]) r<|bS (v:=aI) r<|bS (v:=aI) r<|bI<|aN [] r r r (mR r jN) (bR r aD)
noncomputable def mN (p1e:Int) (cV:aV):Option aV :=
 some (aV.mk cV.Made ([]:(List UInt8)) p1e)
theorem wD {p1e:Int}{cV:aV}{z:aV} (h:mN p1e cV=some z):cQ Tryz.prog 144 [.box 0 0,ci p1e] [AV.cs (dX cV)] (.any) [AV.cs (dX z)]:=by
 unfold mN at h
 refine dF (fn:=Tryz.f144) [0,1] (by kernel_rfl) Tryz.func144 r (by kernel_rfl) (by kernel_rfl)<|aH<|mV (v:=aE) r<|mI r<|aR r (jM r)<|aR r (bD aOn r)<|bM (v:=aI) (us:=[aI]) (cs:=fG) (σ':=[fG]) r aF1 r r r r r r r r<|aG (fr':=[(0,aE)]) r r<|bB<|mV (v:=aE) r<|aR r (jM r)<|aR r (bD aCJ r)<|bM (v:=AV.nil) (us:=[AV.nil]) (cs:=fG) (σ':=[aUI]) r aFZ r r r r r r r r<|dM (fr':=[(0,aE)]) r ?_
 obtain rfl:=sy h
 exact aIQ (rs':=[]) r<|bI<|aN [] r r r (AV.le_any _) (eG ⟨r,⟨_,r⟩,r,trivial⟩ aD)
noncomputable def iY (cV:aV):Option Bool :=
 some (cond (!cV.Made) true (!decide (cV.Bad=0)))
theorem wE {cV:aV}{z:Bool} (h:iY cV=some z):cQ Tryz.prog 80 [.box 0 0] [AV.cs (dX cV)] (.c (.bool z)) [AV.cs (dX cV)]:=by
 unfold iY at h
 refine dF (fn:=Tryz.f80) [0,2] (by kernel_rfl) Tryz.func80 r (by kernel_rfl) (by kernel_rfl)<|aH<|sB r<|aG (fr':=[(0,aE)]) r r<|aH<|mV (v:=aE) r<|aR r (aJb aUy r r)<|mB r<|oE r r r<|mV (v:=aE) r<|oE r r r<|aR r (jM r)<|oE r r r<|aR r (bD aRu r)<|oE r r r<|aR r (aK (v:=aB) tv4 r r r)<|oE r r r<|aR r (fE r)<|aR r (wL r r r)<|mB r<|og r r r (fun u=>(bN (v:=aE) r))<|og r r r (fun u=>(jM (gx r u)))<|og r r r (fun u=>(bD aOn (gx r u)))<|og r r r (fun u=>(aK (v:=aI) aF1 (gx r u) r r))<|og r r r (fun u=>(iS (gx r u) r))<|aR r (cN r r r (fun e=>fJ e))<|sB r<|aG (fr':=[(2,aB)]) r r<|bK ?_
 obtain rfl:=sy h
 exact bJ (rs':=[.tmp 2]) r<|bS (v:=aB) r<|bI<|aN [] r r r lr (bR r aD)
noncomputable def uX (cV:aV) (s14:(Int × Int)):Option (dU (Int × Int) Int) :=
 cond (decide (0≤s14.2)) ((nG cV.Rest s14.2).bind fun x16=>some (dU.next ((IntKind.wrap .u64 ((IntKind.wrap .u64 (s14.1*128))+(IntKind.wrap .u64 (Int.tmod ((x16).toNat:Int) 128)))),(IntKind.wrap .i64 (s14.2 - 1))))) (some (dU.out s14.1))
noncomputable def jG (nL:Int) (kW:Int) (cV:aV):Option (Int × aV) :=
 (iY cV).bind fun x1=>cond x1 (some (0,cV)) ((sY cV).bind fun x5=>cond (!decide (x5.2=0)) ((mN x5.2 cV).bind fun x8=>some (0,x8)) ((fK (uX cV) ((0,(IntKind.wrap .i64 (x5.1 - 1))))).bind fun x11=>(((cond (decide ((Int.tmod x11 2)=1)) (some (IntKind.wrap .i64 ((IntKind.wrap .i64 (0 - (IntKind.wrap .i64 (IntKind.wrap .u64 (Int.tdiv x11 2))))) - 1))) (some (IntKind.wrap .i64 (IntKind.wrap .u64 (Int.tdiv x11 2))))):Option Int).bind fun x20=>(cond (cond (decide (x20<nL)) true (decide (kW<x20))) ((mN 14 cV).bind fun x26=>some (0,x26)) ((aM3 cV.Rest x5.1).bind fun x29=>some (x20,(aV.mk cV.Made (List.drop (Int.toNat x5.1) cV.Rest) cV.Bad)))))))
theorem tD {nL:Int}{kW:Int}{cV:aV}{z:(Int × aV)} (h:jG nL kW cV=some z):cQ Tryz.prog 68 [.box 0 0,ci nL,ci kW] [AV.cs (dX cV)] (ci z.1) [AV.cs (dX z.2)]:=by
 unfold jG at h
 refine dF (fn:=Tryz.f68) [0,1,2,6,7,8,9,10,11,13,20,27,47,58] (by kernel_rfl) Tryz.func68 r (by kernel_rfl) (by kernel_rfl)<|aH<|sI r<|aG (fr':=[(0,aE),(1,aI),(2,aI)]) r r<|aZ<|aH<|mV (v:=aE) r<|bx h fun x1 y1 h2=>cP (v:=aB) (σ':=[fG]) [0] r (wE y1) r r ⟨lr,trivial⟩ (eG oX aD) r r r<|aG (fr':=[(0,aE),(1,aI),(2,aI),(13,aB)]) r r<|cG h2 r (fun b3 h3=>?_) (fun b3 h3=>?_)
 ·
  refine aH<|sI r<|aG (fr':=[(6,aI)]) r r<|bK<|aP ?_
  obtain rfl:=sy h3
  exact bJ (rs':=[.tmp 6]) r<|bS (v:=aI) r<|bI<|aN [] r r r lr (eG oX aD)
 ·
  refine bF<|cZ<|aH<|mV (v:=aE) r<|bx h3 fun x5 y5 h6=>cP (v:=.tup [aI,aI]) (σ':=[fG]) [0] r (aE0 y5) r r ⟨lr,trivial⟩ (eG oX aD) r r r<|mV (v:=.tup [aI,aI]) r<|aR r (xJ (v:=aI) r r)<|aR r (xJ (v:=aI) r r)<|sI r<|sI r<|aG (fr':=[(0,aE),(1,aI),(2,aI),(7,aI),(8,aI)]) r r<|aZ<|aH<|mI r<|aR r (iS r r)<|aG (fr':=[(0,aE),(1,aI),(2,aI),(7,aI),(8,aI),(20,aB)]) r r<|cG h6 r (fun b7 h7=>?_) (fun b7 h7=>?_)
  ·
   refine aH<|mV (v:=aE) r<|mI r<|bx h7 fun x8 y8 h9=>cP (v:=_) (σ':=[fG]) [0] r (wD y8) r r jN (eG oX aD) r r r<|aG (fr':=[]) r r<|aH<|sI r<|aG (fr':=[(6,aI)]) r r<|bK<|aP ?_
   obtain rfl:=sy h9
   exact bJ (rs':=[.tmp 6]) r<|bS (v:=aI) r<|bI<|aN [] r r r lr (eG oX aD)
  ·
   refine bF<|cZ<|aH<|sI r<|aG (fr':=[(0,aE),(1,aI),(2,aI),(7,aI),(9,aI)]) r r<|aZ<|aH<|mI r<|aR r (aFA r r)<|sI r<|aG (fr':=[(0,aE),(1,aI),(2,aI),(7,aI),(9,aI),(10,aI)]) r r<|bx h7 fun x11 y11 h12=>gZ lB (fun j13=>x11=j13) (fun (j13:Int)=>([(0,aE),(1,ci nL),(2,ci kW),(7,ci x5.1),(9,.c (.int .u64 j13))]:Fr)) (fun (j13:Int)=>([[.c (.bool cV.Made),.c (PV.ls 1 iT cV.Rest),ci cV.Bad]]:St)) ?_ ?_
   ·
    refine cH<|gV _ (fun (s14:(Int × Int))=>([(0,aE),(1,ci nL),(2,ci kW),(7,ci x5.1),(9,.c (.int .u64 s14.1)),(10,ci s14.2)]:Fr)) (fun (s14:(Int × Int))=>([[.c (.bool cV.Made),.c (PV.ls 1 iT cV.Rest),ci cV.Bad]]:St)) y11 (bC [] 1 r r r r kL6 (bR r aD)) ?_
    intro s14 st14 hs14 ho14
    unfold uX at hs14
    refine aZ<|aH<|mI r<|aR r (oI r r)<|aG (fr':=[(0,aE),(1,aI),(2,aI),(7,aI),(9,aI),(10,aI),(27,aB)]) r r<|cG hs14 r (fun b15 h15=>?_) (fun b15 h15=>?_)
    ·
     exact bF<|cZ<|aZ<|cH<|bB<|mI r<|aR r (aQ5 r r)<|mV (v:=aE) r<|aR r (jM r)<|aR r (bD aCJ r)<|aR r (aK (v:=aL) aFZ r r r)<|mI r<|bx h15 fun x16 y16 h17=>aR r (lF (cs:=[PV.int _ _]) aEq (eK r) r y16 r)<|aR r (gP (p:=PV.int _ _) tv5 r r)<|aR r (aQ7 r r (by decide))<|aR r (aCv tk5 aGN r)<|aR r (gC r r)<|sI r<|dM (fr':=[(0,aE),(1,aI),(2,aI),(7,aI),(9,aI),(10,aI),(27,aB)]) r<|cW<|cZ<|bB<|mI r<|aR r (aFA r r)<|sI r<|dM (fr':=[(0,aE),(1,aI),(2,aI),(7,aI),(9,aI),(10,aI),(27,aB)]) r<|zO _ (sy h17) (bC [] 1 r r r r kL6 (bR r aD))
    ·
     refine hG<|cY<|cY<|fP ?_
     have h18:=eR h15 ho14
     exact iQ _ (sy h18) (bC [] 1 r r r r kL5 (bR r aD))
   ·
    intro j13 hj19
    subst hj19
    refine cZ<|aH<|mI r<|aR r (aSX r r (by decide))<|aR r (aCv aGN tk3 r)<|sI r<|aG (fr':=[(0,aE),(1,aI),(2,aI),(7,aI),(9,aI),(11,aI)]) r r<|bx h12 fun x20 y20 h21=>hH (fun j22=>x20=j22) (fun (j22:Int)=>([(0,aE),(1,ci nL),(2,ci kW),(7,ci x5.1),(11,ci j22)]:Fr)) (fun (j22:Int)=>([[.c (.bool cV.Made),.c (PV.ls 1 iT cV.Rest),ci cV.Bad]]:St)) ?_ ?_
    ·
     refine aH<|mI r<|aR r (aQ7 r r (by decide))<|aR r (bU r r)<|aG (fr':=[(0,aE),(1,aI),(2,aI),(7,aI),(11,aI),(47,aB)]) r r<|cG y20 r (fun b23 h23=>?_) (fun b23 h23=>?_)
     ·
      exact bB<|mI r<|aR r (aON r)<|aR r (aFA r r)<|sI r<|dM (fr':=[(0,aE),(1,aI),(2,aI),(7,aI),(11,aI),(47,aB)]) r<|iQ _ (sy h23) (bC [] 1 r r r r kL5 (bR r aD))
     ·
      exact bF<|iQ _ (sy h23) (bC [] 1 r r r r kL5 (bR r aD))
    ·
     intro j22 hj24
     subst hj24
     refine aZ<|aH<|mI r<|mI r<|aR r (gI r r)<|mB r<|og r r r (fun u=>(bN (v:=aI) r))<|og r r r (fun u=>(bN (v:=aI) r))<|og r r r (fun u=>(qW (gx r u) (gx r u)))<|aR r (cN r r r (fun e=>fJ e))<|aG (fr':=[(0,aE),(7,aI),(11,aI),(58,aB)]) r r<|cG h21 r (fun b25 h25=>?_) (fun b25 h25=>?_)
     ·
      refine aH<|mV (v:=aE) r<|bx h25 fun x26 y26 h27=>cP (v:=_) (σ':=[fG]) [0] r (wD y26) r r jN (eG oX aD) r r r<|aG (fr':=[]) r r<|aH<|sI r<|aG (fr':=[(6,aI)]) r r<|bK<|aP ?_
      obtain rfl:=sy h27
      exact bJ (rs':=[.tmp 6]) r<|bS (v:=aI) r<|bI<|aN [] r r r lr (eG oX aD)
     ·
      refine bF<|cZ<|aH<|mV (v:=aE) r<|mV (v:=aE) r<|aR r (jM r)<|aR r (bD aCJ r)<|aR r (aK (v:=aL) aFZ r r r)<|mI r<|bx h25 fun x29 y29 h30=>aR r (aN4 aRw aEq (eK r) r (aBg y29).1)<|aR r (jM r)<|aR r (bD aCJ r)<|bM (v:=aL) (us:=[aL]) (cs:=fG) (σ':=[fG]) r aFZ r r r r r r r r<|aG (fr':=[(11,aI)]) r r<|aH<|mI r<|sI r<|aG (fr':=[(6,aI)]) r r<|bK ?_
      obtain rfl:=sy h30
      exact bJ (rs':=[.tmp 6]) r<|bS (v:=aI) r<|bI<|aN [] r r r lr (eG oX aD)
noncomputable def gA (sD:Int) (cV:aV):Option ((List UInt8) × aV) :=
 (jG 0 sD cV).bind fun x1=>(iY x1.2).bind fun x3=>cond x3 (some (([]:List UInt8),x1.2)) (cond (decide (((x1.2.Rest).length:Int)<x1.1)) ((mN 4 x1.2).bind fun x8=>some (([]:List UInt8),x8)) ((aPX x1.2.Rest x1.1).bind fun x11=>(aM3 x1.2.Rest x1.1).bind fun x13=>some ((List.take (Int.toNat x1.1) x1.2.Rest),(aV.mk x1.2.Made (List.drop (Int.toNat x1.1) x1.2.Rest) x1.2.Bad))))
theorem jH {sD:Int}{cV:aV}{z:((List UInt8) × aV)} (h:gA sD cV=some z):cQ Tryz.prog 75 [.box 0 0,ci sD] [AV.cs (dX cV)] (.c (.str z.1)) [AV.cs (dX z.2)]:=by
 unfold gA at h
 refine dF (fn:=Tryz.f75) [0,1,4,5,6,11,18] (by kernel_rfl) Tryz.func75 r (by kernel_rfl) (by kernel_rfl)<|aH<|sS r<|aG (fr':=[(0,aE),(1,aI)]) r r<|aH<|mV (v:=aE) r<|mI r<|bx h fun x1 y1 h2=>cP (v:=aI) (σ':=[fG]) [0] r (tD y1) r r kA (eG oX aD) r r r<|sI r<|aG (fr':=[(0,aE),(5,aI)]) r r<|aZ<|aH<|mV (v:=aE) r<|bx h2 fun x3 y3 h4=>cP (v:=aB) (σ':=[fG]) [0] r (wE y3) r r ⟨lr,trivial⟩ (eG oX aD) r r r<|aG (fr':=[(0,aE),(5,aI),(11,aB)]) r r<|cG h4 r (fun b5 h5=>?_) (fun b5 h5=>?_)
 ·
  refine aH<|sS r<|aG (fr':=[(4,aS)]) r r<|bK<|aP ?_
  obtain rfl:=sy h5
  exact bJ (rs':=[.tmp 4]) r<|bS (v:=aS) r<|bI<|aN [] r r r lr (eG oX aD)
 ·
  refine bF<|cZ<|aZ<|aH<|mI r<|mV (v:=aE) r<|aR r (jM r)<|aR r (bD aCJ r)<|aR r (aK (v:=aL) aFZ r r r)<|aR r (hZ aGM (eK r))<|aR r (qW r r)<|aG (fr':=[(0,aE),(5,aI),(18,aB)]) r r<|cG h5 r (fun b7 h7=>?_) (fun b7 h7=>?_)
  ·
   refine aH<|mV (v:=aE) r<|bx h7 fun x8 y8 h9=>cP (v:=_) (σ':=[fG]) [0] r (wD y8) r r jN (eG oX aD) r r r<|aG (fr':=[]) r r<|aH<|sS r<|aG (fr':=[(4,aS)]) r r<|bK<|aP ?_
   obtain rfl:=sy h9
   exact bJ (rs':=[.tmp 4]) r<|bS (v:=aS) r<|bI<|aN [] r r r lr (eG oX aD)
  ·
   refine bF<|cZ<|aH<|mV (v:=aE) r<|aR r (jM r)<|aR r (bD aCJ r)<|aR r (aK (v:=aL) aFZ r r r)<|mI r<|bx h7 fun x11 y11 h12=>aR r (aTy aRw aEq (eK r) r (aHt y11).1)<|aR r (aGx aOQ uU (eK r))<|sS r<|aG (fr':=[(0,aE),(5,aI),(6,aS)]) r r<|aH<|mV (v:=aE) r<|mV (v:=aE) r<|aR r (jM r)<|aR r (bD aCJ r)<|aR r (aK (v:=aL) aFZ r r r)<|mI r<|bx h12 fun x13 y13 h14=>aR r (aN4 aRw aEq (eK r) r (aBg y13).1)<|aR r (jM r)<|aR r (bD aCJ r)<|bM (v:=aL) (us:=[aL]) (cs:=fG) (σ':=[fG]) r aFZ r r r r r r r r<|aG (fr':=[(6,aS)]) r r<|aH<|mS r<|sS r<|aG (fr':=[(4,aS)]) r r<|bK ?_
   obtain rfl:=sy h14
   exact bJ (rs':=[.tmp 4]) r<|bS (v:=aS) r<|bI<|aN [] r r r lr (eG oX aD)
noncomputable def nB (eD:Int) (jQ:aV):Option Bool :=
 (kN jQ).bind fun x1=>some (decide (x1=0))
theorem uG {eD:Int}{jQ:aV}{z:Bool} (h:nB eD jQ=some z):cQ Tryz.prog 150 [.box 0 0] [[.box 1 0,ci eD],AV.cs (dX jQ)] (.c (.bool z)) [[.box 1 0,ci eD],AV.cs (dX jQ)]:=by
 unfold nB at h
 refine dF (fn:=Tryz.f150) [0,2] (by kernel_rfl) Tryz.func150 r (by kernel_rfl) (by kernel_rfl)<|aH<|sB r<|aG (fr':=[(0,aE)]) r r<|aH<|mV (v:=aE) r<|aR r (jM r)<|aR r (bD aIF r)<|aR r (aK (v:=aU) aSH r r r)<|bx h fun x1 y1 h2=>cP (v:=aI) (σ':=[[aU,aI],fG]) [1] r (mF y1) r r ⟨lr,trivial⟩ (eG oX aD) r r r<|aR r (bU r r)<|sB r<|aG (fr':=[(2,aB)]) r r<|bK ?_
 obtain rfl:=sy h2
 exact bJ (rs':=[.tmp 2]) r<|bS (v:=aB) r<|bI<|aN [] r r r lr (bR r (bR r aD))
noncomputable def kO (p1e:Int) (cV:aV):Option aV :=
 (iY cV).bind fun x1=>cond (cond (!x1) (!decide (p1e=0)) false) ((mN p1e cV).bind fun x4=>some x4) (some cV)
theorem pQ {p1e:Int}{cV:aV}{z:aV} (h:kO p1e cV=some z):cQ Tryz.prog 78 [.box 0 0,ci p1e] [AV.cs (dX cV)] (.any) [AV.cs (dX z)]:=by
 unfold kO at h
 refine dF (fn:=Tryz.f78) [0,1,10] (by kernel_rfl) Tryz.func78 r (by kernel_rfl) (by kernel_rfl)<|aH<|mV (v:=aE) r<|bx h fun x1 y1 h2=>cP (v:=aB) (σ':=[fG]) [0] r (wE y1) r r ⟨lr,trivial⟩ (eG oX aD) r r r<|aR r (fE r)<|mB r<|og r r r (fun u=>(bN (v:=aI) r))<|og r r r (fun u=>(iS (gx r u) r))<|aR r (bV r r r (fun e=>fJ e))<|aG (fr':=[(0,aE),(1,aI),(10,aB)]) r r<|cG h2 r (fun b3 h3=>?_) (fun b3 h3=>?_)
 ·
  refine bB<|mV (v:=aE) r<|mI r<|bx h3 fun x4 y4 h5=>cP (v:=_) (σ':=[fG]) [0] r (wD y4) r r jN (eG oX aD) r r r<|dM (fr':=[(0,aE),(1,aI),(10,aB)]) r ?_
  obtain rfl:=sy h5
  exact aIQ (rs':=[]) r<|bI<|aN [] r r r (AV.le_any _) (eG oX aD)
 ·
  refine bF ?_
  obtain rfl:=sy h3
  exact aIQ (rs':=[]) r<|bI<|aN [] r r r (AV.le_any _) (eG oX aD)
noncomputable def gS (aSb:Bool) (eD:Int) (jQ:aV):Option aV :=
 cond (!aSb) ((kO 3 jQ).bind fun x2=>some x2) (some jQ)
theorem oA {aSb:Bool}{eD:Int}{jQ:aV}{z:aV} (h:gS aSb eD jQ=some z):cQ Tryz.prog 185 [.box 0 0,.c (.bool aSb)] [[.box 1 0,ci eD],AV.cs (dX jQ)] (.any) [[.box 1 0,ci eD],AV.cs (dX z)]:=by
 unfold gS at h
 refine dF (fn:=Tryz.f185) [0,1,5] (by kernel_rfl) Tryz.func185 r (by kernel_rfl) (by kernel_rfl)<|aH<|mB r<|aR r (fE r)<|aG (fr':=[(0,aE),(5,aB)]) r r<|cG h r (fun b1 h1=>?_) (fun b1 h1=>?_)
 ·
  refine bB<|mV (v:=aE) r<|aR r (jM r)<|aR r (bD aIF r)<|aR r (aK (v:=aU) aSH r r r)<|bx h1 fun x2 y2 h3=>cP (v:=_) (σ':=[[aU,aI],fG]) [1] r (pQ y2) r r jN (eG oX aD) r r r<|dM (fr':=[(0,aE),(5,aB)]) r ?_
  obtain rfl:=sy h3
  exact aIQ (rs':=[]) r<|bI<|aN [] r r r (AV.le_any _) (bR r (eG oX aD))
 ·
  refine bF ?_
  obtain rfl:=sy h1
  exact aIQ (rs':=[]) r<|bI<|aN [] r r r (AV.le_any _) (bR r (eG oX aD))
noncomputable def lU (eD:Int) (jQ:aV):Option (Int × aV) :=
 (jG (-9223372036854775808) 9223372036854775807 jQ).bind fun x1=>some (x1.1,x1.2)
theorem sG {eD:Int}{jQ:aV}{z:(Int × aV)} (h:lU eD jQ=some z):cQ Tryz.prog 186 [.box 0 0] [[.box 1 0,ci eD],AV.cs (dX jQ)] (ci z.1) [[.box 1 0,ci eD],AV.cs (dX z.2)]:=by
 unfold lU at h
 refine dF (fn:=Tryz.f186) [0,2] (by kernel_rfl) Tryz.func186 r (by kernel_rfl) (by kernel_rfl)<|aH<|sI r<|aG (fr':=[(0,aE)]) r r<|aH<|mV (v:=aE) r<|aR r (jM r)<|aR r (bD aIF r)<|aR r (aK (v:=aU) aSH r r r)<|bx h fun x1 y1 h2=>cP (v:=aI) (σ':=[[aU,aI],fG]) [1] r (tD y1) r r kA (eG oX aD) r r r<|sI r<|aG (fr':=[(2,aI)]) r r<|bK ?_
 obtain rfl:=sy h2
 exact bJ (rs':=[.tmp 2]) r<|bS (v:=aI) r<|bI<|aN [] r r r lr (bR r (eG oX aD))
noncomputable def qG (eD:Int) (jQ:aV):Option ((List UInt8) × aV) :=
 (gA 9223372036854775807 jQ).bind fun x1=>(gS (decide (((x1.1).length:Int)≤4096)) eD x1.2).bind fun x3=>some (x1.1,x3)
theorem aBK {eD:Int}{jQ:aV}{z:((List UInt8) × aV)} (h:qG eD jQ=some z):cQ Tryz.prog 187 [.box 0 0] [[.box 1 0,ci eD],AV.cs (dX jQ)] (.c (.str z.1)) [[.box 1 0,ci eD],AV.cs (dX z.2)]:=by
 unfold qG at h
 refine dF (fn:=Tryz.f187) [0,2,3] (by kernel_rfl) Tryz.func187 r (by kernel_rfl) (by kernel_rfl)<|aH<|sS r<|aG (fr':=[(0,aE)]) r r<|aH<|mV (v:=aE) r<|aR r (jM r)<|aR r (bD aIF r)<|aR r (aK (v:=aU) aSH r r r)<|bx h fun x1 y1 h2=>cP (v:=aS) (σ':=[[aU,aI],fG]) [1] r (jH y1) r r jN (eG oX aD) r r r<|sS r<|aG (fr':=[(0,aE),(3,aS)]) r r<|aH<|mV (v:=aE) r<|mS r<|aR r (kT uU r)<|aR r (nM r r)<|bx h2 fun x3 y3 h4=>cP (v:=_) (σ':=[[aU,aI],fG]) [0,1] r (oA y3) r r jN (qI jN (eG oX aD)) r r r<|aG (fr':=[(3,aS)]) r r<|aH<|mS r<|sS r<|aG (fr':=[(2,aS)]) r r<|bK ?_
 obtain rfl:=sy h4
 exact bJ (rs':=[.tmp 2]) r<|bS (v:=aS) r<|bI<|aN [] r r r lr (bR r (eG oX aD))
noncomputable def gJ (rK:Int→Int→aV→Option (aQ × Int × aV)) (x1:(Int × aV)) (sJ:Int) (mY:Int) (s8:(Int × Int × aV × (List aQ) × (List (List UInt8)))):Option (dU (Int × Int × aV × (List aQ) × (List (List UInt8))) (Int × aV × (List aQ) × (List (List UInt8)))) :=
 ((cond (decide (s8.1<x1.1)) ((nB s8.2.1 s8.2.2.1).bind fun x13=>cond x13 (some (Fl.go ())) (some (Fl.done (dU.out (s8.2.1,s8.2.2.1,s8.2.2.2.1,s8.2.2.2.2))))) (some (Fl.done (dU.out (s8.2.1,s8.2.2.1,s8.2.2.2.1,s8.2.2.2.2))))):Option (Fl (dU (Int × Int × aV × (List aQ) × (List (List UInt8))) (Int × aV × (List aQ) × (List (List UInt8)))) Unit)).bind fun x9=>Fl.next x9 (fun j11=>(((cond (decide (sJ=5)) ((qG s8.2.1 s8.2.2.1).bind fun x25=>(app 16 s8.2.2.2.2 ([x25.1]:List (List UInt8))).bind fun x27=>(gd ((decide (s8.1=0))==false) (nG x27 (IntKind.wrap .i64 (s8.1 - 1)))).bind fun x29=>(gd ((decide (s8.1=0))==false) (nG x27 s8.1)).bind fun x31=>(gS (cond (decide (s8.1=0)) true (Op.bytesLess x29 x31)) s8.2.1 x25.2).bind fun x33=>some (x33,x27)) (some (s8.2.2.1,s8.2.2.2.2))):Option (aV × (List (List UInt8)))).bind fun x21=>((nB s8.2.1 x21.1).bind fun x36=>cond x36 ((rK (IntKind.wrap .i64 (mY+1)) s8.2.1 x21.1).bind fun x39=>(app 80 s8.2.2.2.1 ([x39.1]:List aQ)).bind fun x41=>some (dU.next ((IntKind.wrap .i64 (s8.1+1)),x39.2.1,x39.2.2,x41,x21.2))) (some (dU.next ((IntKind.wrap .i64 (s8.1+1)),s8.2.1,x21.1,s8.2.2.2.1,x21.2))))))
mutual
noncomputable def jX:Nat→Int→Int→(List UInt8)→Int→Int→aV→Option (aQ × Int × aV)
 | 0,_,_,_,_,_,_=>none
 | n+1,sJ,aAl,aAm,mY,eD,jQ =>
  (lU eD jQ).bind fun x1=>(gS (cond (decide (0≤x1.1)) (decide (x1.1≤1000)) false) eD x1.2).bind fun x3=>(fK (gJ (fC n) x1 sJ mY) ((0,eD,x3,([]:(List aQ)),([]:(List (List UInt8)))))).bind fun x5=>(some ((aQ.mk sJ aAl aAm x5.2.2.1 x5.2.2.2),x5.1,x5.2.1))
noncomputable def fC:Nat→Int→Int→aV→Option (aQ × Int × aV)
 | 0,_,_,_=>none
 | n+1,lD,eD,jQ =>
  (gS (cond (decide (eD<1000)) (decide (lD≤16)) false) eD jQ).bind fun x1=>(lU (IntKind.wrap .i64 (eD+1)) x1).bind fun x3=>(gS (cond (decide (0≤x3.1)) (decide (x3.1≤5)) false) (IntKind.wrap .i64 (eD+1)) x3.2).bind fun x5=>(nB (IntKind.wrap .i64 (eD+1)) x5).bind fun x7=>cond (!x7) (some ((aQ.mk 0 0 ([]:List UInt8) ([]:(List aQ)) ([]:(List (List UInt8)))),(IntKind.wrap .i64 (eD+1)),x5)) (((cond (decide (x3.1=1)) ((lU (IntKind.wrap .i64 (eD+1)) x5).bind fun x15=>(gS (cond (decide (x15.1=0)) true (decide (x15.1=1))) (IntKind.wrap .i64 (eD+1)) x15.2).bind fun x17=>some ((IntKind.wrap .i64 (eD+1)),x17,(aQ.mk x3.1 x15.1 ([]:List UInt8) ([]:(List aQ)) ([]:(List (List UInt8)))))) (cond (decide (x3.1=2)) ((lU (IntKind.wrap .i64 (eD+1)) x5).bind fun x20=>some ((IntKind.wrap .i64 (eD+1)),x20.2,(aQ.mk x3.1 x20.1 ([]:List UInt8) ([]:(List aQ)) ([]:(List (List UInt8)))))) (cond (decide (x3.1=3)) ((qG (IntKind.wrap .i64 (eD+1)) x5).bind fun x23=>some ((IntKind.wrap .i64 (eD+1)),x23.2,(aQ.mk x3.1 0 x23.1 ([]:(List aQ)) ([]:(List (List UInt8)))))) (((cond (decide (x3.1=4)) (some (decide (x3.1=4))) (some (decide (x3.1=5)))):Option Bool).bind fun x25=>(cond x25 (((jX n) x3.1 0 ([]:List UInt8) lD (IntKind.wrap .i64 (eD+1)) x5).bind fun x31=>some (x31.2.1,x31.2.2,x31.1)) (some ((IntKind.wrap .i64 (eD+1)),x5,(aQ.mk x3.1 0 ([]:List UInt8) ([]:(List aQ)) ([]:(List (List UInt8))))))))))):Option (Int × aV × aQ)).bind fun x11=>(some (x11.2.2,x11.1,x11.2.1)))
end
theorem aD4:∀ n:Nat,(∀ {sJ:Int}{aAl:Int}{aAm:(List UInt8)}{mY:Int}{eD:Int}{jQ:aV}{z:(aQ × Int × aV)},jX n sJ aAl aAm mY eD jQ=some z→cQ Tryz.prog 188 [.box 0 0,.agg [ci sJ,ci aAl,.c (.str aAm),AV.nil,AV.nil],ci mY] [[.box 1 0,ci eD],AV.cs (dX jQ)] (.agg (AV.cs (fA z.1))) [[.box 1 0,ci z.2.1],AV.cs (dX z.2.2)])∧(∀ {lD:Int}{eD:Int}{jQ:aV}{z:(aQ × Int × aV)},fC n lD eD jQ=some z→cQ Tryz.prog 149 [.box 0 0,ci lD] [[.box 1 0,ci eD],AV.cs (dX jQ)] (.agg (AV.cs (fA z.1))) [[.box 1 0,ci z.2.1],AV.cs (dX z.2.2)]):=by
 intro n
 induction n with
 | zero=>exact ⟨fun {sJ aAl aAm mY eD jQ z} h=>absurd h (by simp [jX]),fun {lD eD jQ z} h=>absurd h (by simp [fC])⟩
 | succ n ih =>
  obtain ⟨ih_ref02xdecoder_items,ih_ref02xdecoder_value⟩:=ih
  refine ⟨?_,?_⟩
  ·
   intro sJ aAl aAm mY eD jQ z h
   rw [jX] at h
   refine dF (fn:=Tryz.f188) [0,1,2,4,6,7,8,25,30,57] (by kernel_rfl) Tryz.func188 r (by kernel_rfl) (by kernel_rfl)<|aH<|jK (v:=.agg cB) (n:=2) (cs:=cB) (σ':=[[aU,aI],fG,cB]) r r r r r<|hO (n:=3) (cs:=cB) (σ':=[[aU,aI],fG,cB,cB]) aD2 r r r<|aG (fr':=[(0,aE),(2,aI),(4,cK),(6,jO)]) r r<|aH<|mV (v:=aE) r<|bx h fun x1 y1 h2=>cP (v:=aI) (σ':=[[aU,aI],fG,cB,cB]) [0,1] r (sG y1) r r ⟨lr,trivial⟩ (qI jN (eG oX aD)) r r r<|sI r<|aG (fr':=[(0,aE),(2,aI),(4,cK),(6,jO),(7,aI)]) r r<|aH<|mV (v:=aE) r<|mI r<|aR r (oI r r)<|mB r<|og r r r (fun u=>(bN (v:=aI) r))<|og r r r (fun u=>(nM (gx r u) r))<|aR r (bV r r r (fun e=>fJ e))<|bx h2 fun x3 y3 h4=>cP (v:=_) (σ':=[[aU,aI],fG,cB,cB]) [0,1] r (oA y3) r r jN (qI jN (eG oX aD)) (fT (by repeat (first | exact eN | refine aY r ?_ | refine aY (pP r) ?_ | refine aY pO ?_))) r r ?_
   refine aG (fr':=[(0,aE),(2,aI),(4,cK),(6,jO),(7,aI)]) r r<|aZ<|aH<|sI r<|aG (fr':=[(0,aE),(2,aI),(4,cK),(6,jO),(7,aI),(8,aI)]) r r<|bx h4 fun x5 y5 h6=>gZ lB (fun j7=>x5=j7) (fun (j7:(Int × aV × (List aQ) × (List (List UInt8))))=>([(4,cK),(6,jO)]:Fr)) (fun (j7:(Int × aV × (List aQ) × (List (List UInt8))))=>([[aU,ci j7.1],[.c (.bool j7.2.1.Made),.c (PV.ls 1 iT j7.2.1.Rest),ci j7.2.1.Bad],[ci sJ,ci aAl,.c (.str aAm),AV.os 0 5 bT j7.2.2.1,AV.os 1 1 fI j7.2.2.2],[ci 0,ci 0,.c (.str ([]:List UInt8)),AV.nil,AV.nil]]:St)) ?_ ?_
   ·
    refine cH<|gV _ (fun (s8:(Int × Int × aV × (List aQ) × (List (List UInt8))))=>([(0,aE),(2,ci mY),(4,cK),(6,jO),(7,ci x1.1),(8,ci s8.1)]:Fr)) (fun (s8:(Int × Int × aV × (List aQ) × (List (List UInt8))))=>([[aU,ci s8.2.1],[.c (.bool s8.2.2.1.Made),.c (PV.ls 1 iT s8.2.2.1.Rest),ci s8.2.2.1.Bad],[ci sJ,ci aAl,.c (.str aAm),AV.os 0 5 bT s8.2.2.2.1,AV.os 1 1 fI s8.2.2.2.2],[ci 0,ci 0,.c (.str ([]:List UInt8)),AV.nil,AV.nil]]:St)) y5 (bC [1000000,1000001] 4 r r r r kL6 (bR r (bR r (qI ⟨lr,lr,lr,(aAt r),(aAt r),trivial⟩ (bR r aD))))) ?_
    intro s8 st8 hs8 ho8
    unfold gJ at hs8
    obtain ⟨x9,y9,h10⟩:=iW hs8
    refine hH (fun j11=>x9=Fl.go j11) (fun (j11:Unit)=>([(0,aE),(2,ci mY),(4,cK),(6,jO),(7,ci x1.1),(8,ci s8.1)]:Fr)) (fun (j11:Unit)=>([[aU,ci s8.2.1],[.c (.bool s8.2.2.1.Made),.c (PV.ls 1 iT s8.2.2.1.Rest),ci s8.2.2.1.Bad],[ci sJ,ci aAl,.c (.str aAm),AV.os 0 5 bT s8.2.2.2.1,AV.os 1 1 fI s8.2.2.2.2],[ci 0,ci 0,.c (.str ([]:List UInt8)),AV.nil,AV.nil]]:St)) ?_ ?_
    ·
     refine aH<|mI r<|mI r<|aR r (gI r r)<|mB r<|aN7 y9 (fun b12 h12=>?_) (fun b12 h12=>?_)
     ·
      refine oE r r b12<|mV (v:=aE) r<|oE r r b12<|bx h12 fun x13 y13 h14=>cP (v:=aB) (σ':=[[aU,aI],fG,[aI,aI,aS,aO,aO],cB]) [0,1] r (uG y13) r r ⟨lr,trivial⟩ (qI jN (eG oX aD)) r r r<|aR r (aCw r b12 r)<|aG (fr':=[(0,aE),(2,aI),(4,cK),(6,jO),(7,aI),(8,aI),(25,aB)]) r r<|cG h14 r (fun b15 h15=>?_) (fun b15 h15=>?_)
      ·
       exact bF<|iQ _ (sy h15) (bC [0,1] 4 r r r r kL6 (bR r (bR r (bR r (bR r aD)))))
      ·
       refine hG<|cY<|cY<|fP ?_
       have h16:=fL h15 h10
       have h17:=eR h16 ho8
       exact iQ _ (sy h17) (bC [0,1] 4 r r r r jN (bR r (bR r (bR r (bR r aD)))))
     ·
      refine aDn r r b12<|aDn r r b12<|aR r (wL r b12 r)<|aG (fr':=[(0,aE),(2,aI),(4,cK),(6,jO),(7,aI),(8,aI),(25,aB)]) r r<|yI r<|hG<|cY<|cY<|fP ?_
      have h18:=fL h12 h10
      have h19:=eR h18 ho8
      exact iQ _ (sy h19) (bC [0,1] 4 r r r r jN (bR r (bR r (bR r (bR r aD)))))
    ·
     intro j11 hj20
     have h20:=lV hj20 h10
     refine aZ<|cH<|bx h20 fun x21 y21 h22=>hH (fun j23=>x21=j23) (fun (j23:(aV × (List (List UInt8))))=>([(0,aE),(2,ci mY),(4,cK),(6,jO),(7,ci x1.1),(8,ci s8.1)]:Fr)) (fun (j23:(aV × (List (List UInt8))))=>([[aU,ci s8.2.1],[.c (.bool j23.1.Made),.c (PV.ls 1 iT j23.1.Rest),ci j23.1.Bad],[ci sJ,ci aAl,.c (.str aAm),AV.os 0 5 bT s8.2.2.2.1,AV.os 1 1 fI j23.2],[ci 0,ci 0,.c (.str ([]:List UInt8)),AV.nil,AV.nil]]:St)) ?_ ?_
     ·
      refine aH<|aR r (bD mE r)<|aR r (aK (v:=aI) fM r r r)<|aR r (bU r r)<|aG (fr':=[(0,aE),(2,aI),(4,cK),(6,jO),(7,aI),(8,aI),(30,aB)]) r r<|cG y21 r (fun b24 h24=>?_) (fun b24 h24=>?_)
      ·
       refine aZ<|kV [.q 0,.q 1,.q 2,.n 3 [0,1],.n 4 [0,1],.n 5 [],.q 6,.n 7 []] [(some 31,[4]),(some 32,[31]),(some 33,[0]),(some 34,[33]),(some 35,[34]),(some 36,[32,35]),(some 37,[4]),(none,[37,36])] [0,1,0,4,12,31,63,127] (by kernel_rfl)<|dq r r (bD oN r)<|dq r r (aK (v:=aO) rC r r r)<|dq r r (bN (v:=aE) r)<|d_n r ?_ r
       obtain ⟨x25,y25,h26⟩:=iW h24
       refine cP (v:=aS) (σ':=[[aU,aI],fG,[aI,aI,aS,aO,aO],cB]) [0,1] r (aBK y25) r r ⟨lr,trivial⟩ (qI jN (eG oX aD)) r r r<|uK<|⟨(pR (v:=aEe) r r (kU r (bD oN r)) (pR (v:=aO) r r (kU r (aK (v:=aO) rC r r r)) lJ)),?_⟩
       refine d_n r ?_ r
       refine uL (row:=fI) (xs:=([x25.1]:List (List UInt8))) (rows:=[[_]]) (σ':=[[aU,aI],fG,[aI,aI,aS,aO,aO],cB]) [0] aAR r r r (gB r oB) r r<|uK<|⟨(pR (v:=aEe) r r (kU r (bD oN r)) (pR (v:=aO) r r (kU r (aK (v:=aO) rC r r r)) lJ)),?_⟩
       refine d_n r ?_ r
       obtain ⟨x27,y27,h28⟩:=iW h26
       refine aCt (row:=fI) aAR r zD r (oC r) (fun _=>r) y27<|uK<|⟨lJ,?_⟩
       refine dq r r (bD oN r)<|d_n r ?_ r
       refine bM (v:=aO) (us:=[aO]) (cs:=[aI,aI,aS,aO,aL]) (σ':=[[aU,aI],fG,[aI,aI,aS,aO,aO],cB]) r rC r r r r r r r r<|uK<|⟨lJ,?_⟩
       refine aAq (fr':=[(0,aE),(2,aI),(4,cK),(6,jO),(7,aI),(8,aI)]) r r<|kV [.q 0,.q 1,.q 2,.q 3,.q 4,.q 5,.q 6,.q 7,.q 8,.q 9,.q 10,.q 11,.q 12,.q 13,.q 14,.q 15,.q 16,.n 17 []] [(some 38,[0]),(some 39,[8]),(some 40,[39]),(some 41,[40]),(some 42,[4,41]),(some 43,[42,41]),(some 44,[8,41]),(some 45,[44,41]),(some 46,[43,45,41]),(some 47,[46,41]),(some 48,[4,41]),(some 49,[48,41]),(some 50,[8,41]),(some 51,[49,50,41]),(some 52,[51,41]),(some 53,[47,52,41]),(some 54,[41,53]),(some 55,[38,54])] [0,0,2,6,14,30,14,78,254,510,14,1038,14,7182,15374,32766,65534,131071] (by kernel_rfl)<|dq r r (bN (v:=aE) r)<|dq r r (bN (v:=aI) r)<|dq r r (bU r r)<|dq r r (bN (v:=aB) r)<|d_g r r r (fun u=>kU r (bD oN r))<|d_g r r r (fun u=>kU r (aK (v:=aO) rC (gx r u) r r))<|d_g r r r (fun u=>kU r (bN (v:=aI) r))<|d_g r r r (fun u=>kU r (aFA (gx r u) r))<|bx h28 fun x29 y29 h30=>d_g r r r (fun u=>kU r (lF (cs:=[PV.str _]) aAR (oC (gx r u)) (gx r u) (cU y29 u) r))<|d_g r r r (fun u=>kU r (gP (p:=PV.str _) lP (gx r u) r))<|d_g r r r (fun u=>kU r (bD oN r))<|d_g r r r (fun u=>kU r (aK (v:=aO) rC (gx r u) r r))<|d_g r r r (fun u=>kU r (bN (v:=aI) r))<|bx h30 fun x31 y31 h32=>d_g r r r (fun u=>kU r (lF (cs:=[PV.str _]) aAR (oC (gx r u)) (gx r u) (cU y31 u) r))<|d_g r r r (fun u=>kU r (gP (p:=PV.str _) lP (gx r u) r))<|d_g r r r (fun u=>kU r (aTz (gx r u) (gx r u)))<|dq r r (cN r r r (fun e=>fJ e))<|d_n r ?_ r
       obtain ⟨x33,y33,h34⟩:=iW h32
       refine cP (v:=_) (σ':=[[aU,aI],fG,[aI,aI,aS,aO,aO],cB]) [0,1] r (oA y33) r r jN (qI jN (eG oX aD)) (fT (by repeat (first | exact eN | refine aY r ?_ | refine aY (pP r) ?_ | refine aY pO ?_))) r r ?_
       refine uK<|⟨lJ,?_⟩
       exact aKy (fr':=[(0,aE),(2,aI),(4,cK),(6,jO),(7,aI),(8,aI)]) r<|iQ _ (sy h34) (bC [0,576] 4 r r r r kL6 (bR r (bR r (bR r (bR r aD)))))
      ·
       exact bF<|iQ _ (sy h24) (bC [0,1] 4 r r r r kL6 (bR r (bR r (bR r (bR r aD)))))
     ·
      intro j23 hj35
      subst hj35
      refine aH<|mV (v:=aE) r<|bx h22 fun x36 y36 h37=>cP (v:=aB) (σ':=[[aU,aI],fG,[aI,aI,aS,aO,aO],cB]) [0,1] r (uG y36) r r ⟨lr,trivial⟩ (qI jN (eG oX aD)) r r r<|aG (fr':=[(0,aE),(2,aI),(4,cK),(6,jO),(7,aI),(8,aI),(57,aB)]) r r<|cG h37 r (fun b38 h38=>?_) (fun b38 h38=>?_)
      ·
       refine kV [.q 0,.q 1,.q 2,.q 3,.q 4,.n 5 [0,1],.n 6 [0,1],.n 7 [],.q 8,.n 9 []] [(some 58,[4]),(some 59,[58]),(some 60,[0]),(some 61,[2]),(some 62,[61]),(some 63,[60,62]),(some 64,[63]),(some 65,[59,64]),(some 66,[4]),(none,[66,65])] [0,1,0,0,8,28,60,127,255,511] (by kernel_rfl)<|dq r r (bD iJ r)<|dq r r (aK (v:=aO) nS r r r)<|dq r r (bN (v:=aE) r)<|dq r r (bN (v:=aI) r)<|dq r r (gC r r)<|d_n r ?_ r
       obtain ⟨x39,y39,h40⟩:=iW h38
       refine cP (v:=.agg cE) (σ':=[[aU,aI],fG,[aI,aI,aS,aO,aO],cB]) [0,1] r (ih_ref02xdecoder_value y39) r r jN (qI jN (eG oX aD)) r r r<|uK<|⟨(pR (v:=aEd) r r (kU r (bD iJ r)) (pR (v:=aO) r r (kU r (aK (v:=aO) nS r r r)) lJ)),?_⟩
       refine d_n r ?_ r
       refine uL (row:=bT) (xs:=([x39.1]:List aQ)) (rows:=[[_,_,_,_,_]]) (σ':=[[aU,aI],fG,[aI,aI,aS,aO,aO],cB]) [0,0,0,5,1] uV r r r (gB (eJ _) oB) r r<|uK<|⟨(pR (v:=aEd) r r (kU r (bD iJ r)) (pR (v:=aO) r r (kU r (aK (v:=aO) nS r r r)) lJ)),?_⟩
       refine d_n r ?_ r
       obtain ⟨x41,y41,h42⟩:=iW h40
       refine aCt (row:=bT) uV r vX r (oC r) aEg y41<|uK<|⟨lJ,?_⟩
       refine dq r r (bD iJ r)<|d_n r ?_ r
       refine bM (v:=aO) (us:=[aO]) (cs:=[aI,aI,aS,aL,aO]) (σ':=[[aU,aI],fG,[aI,aI,aS,aO,aO],cB]) r nS r r r r r r r r<|uK<|⟨lJ,?_⟩
       exact aKy (fr':=[(0,aE),(2,aI),(4,cK),(6,jO),(7,aI),(8,aI),(57,aB)]) r<|cW<|cZ<|bB<|mI r<|aR r (gC r r)<|sI r<|dM (fr':=[(0,aE),(2,aI),(4,cK),(6,jO),(7,aI),(8,aI),(57,aB)]) r<|zO _ (sy h42) (bC [1040,1] 4 r r r r kL6 (bR r (bR r (bR r (bR r aD)))))
      ·
       exact bF<|cW<|cZ<|bB<|mI r<|aR r (gC r r)<|sI r<|dM (fr':=[(0,aE),(2,aI),(4,cK),(6,jO),(7,aI),(8,aI),(57,aB)]) r<|zO _ (sy h38) (bC [0,1] 4 r r r r kL6 (bR r (bR r (bR r (bR r aD)))))
   ·
    intro j7 hj43
    subst hj43
    refine cZ<|aH<|aR r (dL (us:=[aI,aI,aS,aO,aO]) iO r r r r)<|bM (v:=.agg [aI,aI,aS,aO,aO]) (us:=[aI,aI,aS,aO,aO]) (cs:=cB) (σ':=[[aU,aI],fG,[aI,aI,aS,aO,aO],[aI,aI,aS,aO,aO]]) r iO r r r r r r r r<|aG (fr':=[(6,jO)]) r r<|bK ?_
    obtain rfl:=sy h6
    exact bJ (rs':=[.cell 6 26]) r<|dY (us:=[aI,aI,aS,aO,aO]) (cs:=[aI,aI,aS,aO,aO]) iO r r r r<|bI<|aN [] r r r (bQ r kR5) (qI jN (eG oX aD))
  ·
   intro lD eD jQ z h
   rw [fC] at h
   refine dF (fn:=Tryz.f149) [0,1,4,5,39,42,43,58,63,68] (by kernel_rfl) Tryz.func149 r (by kernel_rfl) (by kernel_rfl)<|aH<|hO (n:=2) (cs:=cB) (σ':=[[aU,aI],fG,cB]) aD2 r r r<|aG (fr':=[(0,aE),(1,aI),(4,cK)]) r r<|aH<|mV (v:=aE) r<|mV (v:=aE) r<|aR r (jM r)<|aR r (bD aLz r)<|aR r (aK (v:=aI) fM r r r)<|aR r (gI r r)<|mB r<|og r r r (fun u=>(bN (v:=aI) r))<|og r r r (fun u=>(nM (gx r u) r))<|aR r (bV r r r (fun e=>fJ e))<|bx h fun x1 y1 h2=>cP (v:=_) (σ':=[[aU,aI],fG,cB]) [0,1] r (oA y1) r r jN (qI jN (eG oX aD)) (fT (by repeat (first | exact eN | refine aY r ?_ | refine aY (pP r) ?_ | refine aY pO ?_))) r r ?_
   refine aG (fr':=[(0,aE),(1,aI),(4,cK)]) r r<|aH<|mV (v:=aE) r<|aR r (jM r)<|aR r (bD aLz r)<|aR r (aK (v:=aI) fM r r r)<|aR r (gC r r)<|aR r (jM r)<|aR r (bD aLz r)<|bM (v:=aI) (us:=[aI]) (cs:=[aU,aI]) (σ':=[[aU,aI],fG,cB]) r fM r r r r r r r r<|aG (fr':=[(0,aE),(1,aI),(4,cK)]) r r<|aZ<|bB<|mV (v:=aE) r<|bx h2 fun x3 y3 h4=>cP (v:=aI) (σ':=[[aU,aI],fG,cB]) [0,1] r (sG y3) r r ⟨lr,trivial⟩ (qI jN (eG oX aD)) r r r<|aR r (fV (cs:=cB) aFl r)<|hO (n:=3) (cs:=cB) (σ':=[[aU,aI],fG,cB,cB]) aD2 r r r<|bM (v:=.agg cB) (us:=cB) (cs:=cB) (σ':=[[aU,aI],fG,cB,cB]) r iO r r r r r r r r<|aG (fr':=[(0,aE),(1,aI),(4,cK),(5,jO)]) r r<|aH<|mV (v:=aE) r<|aR r (bD mE r)<|aR r (aK (v:=aI) fM r r r)<|aR r (oI r r)<|mB r<|og r r r (fun u=>(bD mE r))<|og r r r (fun u=>(aK (v:=aI) fM (gx r u) r r))<|og r r r (fun u=>(nM (gx r u) r))<|aR r (bV r r r (fun e=>fJ e))<|bx h4 fun x5 y5 h6=>cP (v:=_) (σ':=[[aU,aI],fG,cB,cB]) [0,1] r (oA y5) r r jN (qI jN (eG oX aD)) (fT (by repeat (first | exact eN | refine aY r ?_ | refine aY (pP r) ?_ | refine aY pO ?_))) r r ?_
   refine aG (fr':=[(0,aE),(1,aI),(4,cK),(5,jO)]) r r<|aZ<|aH<|mV (v:=aE) r<|bx h6 fun x7 y7 h8=>cP (v:=aB) (σ':=[[aU,aI],fG,cB,cB]) [0,1] r (uG y7) r r ⟨lr,trivial⟩ (qI jN (eG oX aD)) r r r<|aR r (fE r)<|aG (fr':=[(0,aE),(1,aI),(4,cK),(5,jO),(39,aB)]) r r<|cG h8 r (fun b9 h9=>?_) (fun b9 h9=>?_)
   ·
    refine aH<|aR r (fV (cs:=cB) aFl r)<|bM (v:=.agg cB) (us:=cB) (cs:=cB) (σ':=[[aU,aI],fG,cB,cB]) r iO r r r r r r r r<|aG (fr':=[(4,cK)]) r r<|bK<|aP ?_
    obtain rfl:=sy h9
    exact bJ (rs':=[.cell 4 26]) r<|dY (us:=cB) (cs:=cB) iO r r r r<|bI<|aN [] r r r (bQ r ⟨r,r,r,⟨_,r⟩,⟨_,r⟩,trivial⟩) (qI jN (eG oX aD))
   ·
    refine bF<|cZ<|bx h9 fun x11 y11 h12=>hH (fun j13=>x11=j13) (fun (j13:(Int × aV × aQ))=>([(4,cK),(5,jO)]:Fr)) (fun (j13:(Int × aV × aQ))=>([[aU,ci j13.1],[.c (.bool j13.2.1.Made),.c (PV.ls 1 iT j13.2.1.Rest),ci j13.2.1.Bad],[ci 0,ci 0,.c (.str ([]:List UInt8)),AV.nil,AV.nil],[ci j13.2.2.Kind,ci j13.2.2.Int,.c (.str j13.2.2.Text),.c (PV.ls 5 bT j13.2.2.Items),.c (PV.ls 1 fI j13.2.2.Keys)]]:St)) ?_ ?_
    ·
     refine aH<|aR r (bD mE r)<|aR r (aK (v:=aI) fM r r r)<|aG (fr':=[(0,aE),(1,aI),(4,cK),(5,jO),(42,aI)]) r r<|cH<|aH<|aR r (bU r r)<|sB r<|aG (fr':=[(0,aE),(1,aI),(4,cK),(5,jO),(42,aI),(43,aB)]) r r<|cG y11 r (fun b14 h14=>?_) (fun b14 h14=>?_)
     ·
      refine aH<|mV (v:=aE) r<|bx h14 fun x15 y15 h16=>cP (v:=aI) (σ':=[[aU,aI],fG,cB,cB]) [0,1] r (sG y15) r r ⟨lr,trivial⟩ (qI jN (eG oX aD)) r r r<|aR r (bD sF r)<|bM (v:=aI) (us:=[aI]) (cs:=cB) (σ':=[[aU,aI],fG,cB,cB]) r fM r r r r r r r r<|aG (fr':=[(0,aE),(4,cK),(5,jO)]) r r<|bB<|mV (v:=aE) r<|aR r (bD sF r)<|aR r (aK (v:=aI) fM r r r)<|aR r (bU r r)<|mB r<|og r r r (fun u=>(bD sF r))<|og r r r (fun u=>(aK (v:=aI) fM (gx r u) r r))<|og r r r (fun u=>(bU (gx r u) r))<|aR r (cN r r r (fun e=>fJ e))<|bx h16 fun x17 y17 h18=>cP (v:=_) (σ':=[[aU,aI],fG,cB,cB]) [0,1] r (oA y17) r r jN (qI jN (eG oX aD)) (fT (by repeat (first | exact eN | refine aY r ?_ | refine aY (pP r) ?_ | refine aY pO ?_))) r r ?_
      exact dM (fr':=[(0,aE),(4,cK),(5,jO)]) r<|cW<|iQ _ (sy h18) (bC [] 4 r r r r jN (bR r (bR r (bR r (qI ⟨lr,lr,lr,aA7,aA7,trivial⟩ aD)))))
     ·
      refine aH<|aR r (bU r r)<|sB r<|aG (fr':=[(0,aE),(1,aI),(4,cK),(5,jO),(42,aI),(58,aB)]) r r<|cG h14 r (fun b19 h19=>?_) (fun b19 h19=>?_)
      ·
       exact bB<|mV (v:=aE) r<|bx h19 fun x20 y20 h21=>cP (v:=aI) (σ':=[[aU,aI],fG,cB,cB]) [0,1] r (sG y20) r r ⟨lr,trivial⟩ (qI jN (eG oX aD)) r r r<|aR r (bD sF r)<|bM (v:=aI) (us:=[aI]) (cs:=cB) (σ':=[[aU,aI],fG,cB,cB]) r fM r r r r r r r r<|dM (fr':=[(0,aE),(1,aI),(4,cK),(5,jO),(42,aI),(58,aB)]) r<|cW<|iQ _ (sy h21) (bC [] 4 r r r r jN (bR r (bR r (bR r (qI ⟨lr,lr,lr,aA7,aA7,trivial⟩ aD)))))
      ·
       refine aH<|aR r (bU r r)<|sB r<|aG (fr':=[(0,aE),(1,aI),(4,cK),(5,jO),(42,aI),(63,aB)]) r r<|cG h19 r (fun b22 h22=>?_) (fun b22 h22=>?_)
       ·
        exact bB<|mV (v:=aE) r<|bx h22 fun x23 y23 h24=>cP (v:=aS) (σ':=[[aU,aI],fG,cB,cB]) [0,1] r (aBK y23) r r ⟨lr,trivial⟩ (qI jN (eG oX aD)) r r r<|aR r (bD uP r)<|bM (v:=aS) (us:=[aS]) (cs:=cB) (σ':=[[aU,aI],fG,cB,cB]) r lP r r r r r r r r<|dM (fr':=[(0,aE),(1,aI),(4,cK),(5,jO),(42,aI),(63,aB)]) r<|cW<|iQ _ (sy h24) (bC [] 4 r r r r jN (bR r (bR r (bR r (qI ⟨lr,lr,lr,aA7,aA7,trivial⟩ aD)))))
       ·
        obtain ⟨x25,y25,h26⟩:=iW h22
        refine hH (fun j27=>x25=j27) (fun (j27:Bool)=>([(0,aE),(1,ci lD),(4,cK),(5,jO),(68,.c (.bool j27))]:Fr)) (fun (j27:Bool)=>([[aU,ci (IntKind.wrap .i64 (eD+(1:Int)))],[.c (.bool x5.Made),.c (PV.ls 1 iT x5.Rest),ci x5.Bad],[ci 0,ci 0,.c (.str ([]:List UInt8)),AV.nil,AV.nil],[ci x3.1,ci 0,.c (.str ([]:List UInt8)),AV.nil,AV.nil]]:St)) ?_ ?_
        ·
         refine aH<|aR r (bU r r)<|sB r<|aG (fr':=[(0,aE),(1,aI),(4,cK),(5,jO),(42,aI),(68,aB)]) r r<|cG y25 r (fun b28 h28=>?_) (fun b28 h28=>?_)
         ·
          exact bF<|iQ _ (sy h28) (bC [] 4 r r r r kL5 (bR r (bR r (bR r (bR r aD)))))
         ·
          exact bB<|aR r (bU r r)<|sB r<|dM (fr':=[(0,aE),(1,aI),(4,cK),(5,jO),(42,aI),(68,aB)]) r<|iQ _ (sy h28) (bC [] 4 r r r r kL5 (bR r (bR r (bR r (bR r aD)))))
        ·
         intro j27 hj29
         subst hj29
         refine cG h26 r (fun b30 h30=>?_) (fun b30 h30=>?_)
         ·
          exact bB<|mV (v:=aE) r<|aR r (dL (us:=cB) iO r r r r)<|mI r<|bx h30 fun x31 y31 h32=>cP (v:=.agg cE) (σ':=[[aU,aI],fG,cB,cB]) [0,1] r (ih_ref02xdecoder_items y31) r r ⟨lr,(aOI r kL5),lr,trivial⟩ (qI jN (eG oX aD)) r r r<|bM (v:=.agg cE) (us:=cE) (cs:=cB) (σ':=[[aU,aI],fG,cB,cE]) r iO r r r r r r r r<|dM (fr':=[(0,aE),(1,aI),(4,cK),(5,jO),(68,aB)]) r<|cW<|iQ _ (sy h32) (bC [] 4 r r r r jN (bR r (bR r (bR r (bR r aD)))))
         ·
          exact bF<|cW<|iQ _ (sy h30) (bC [] 4 r r r r jN (bR r (bR r (bR r (qI ⟨lr,lr,lr,aA7,aA7,trivial⟩ aD)))))
    ·
     intro j13 hj33
     subst hj33
     refine aH<|aR r (dL (us:=cE) iO r r r r)<|bM (v:=.agg cE) (us:=cE) (cs:=cB) (σ':=[[aU,aI],fG,cE,cE]) r iO r r r r r r r r<|aG (fr':=[(4,cK)]) r r<|bK ?_
     obtain rfl:=sy h12
     exact bJ (rs':=[.cell 4 26]) r<|dY (us:=cE) (cs:=cE) iO r r r r<|bI<|aN [] r r r (bQ r kR5) (qI jN (eG oX aD))
noncomputable def uZ (lD:Int) (eD:Int) (jQ:aV):Option (aQ × Int × aV):=lim fun n=>fC n lD eD jQ
theorem aEs {lD:Int}{eD:Int}{jQ:aV}{z:(aQ × Int × aV)} (h:uZ lD eD jQ=some z):cQ Tryz.prog 149 [.box 0 0,ci lD] [[.box 1 0,ci eD],AV.cs (dX jQ)] (.agg (AV.cs (fA z.1))) [[.box 1 0,ci z.2.1],AV.cs (dX z.2.2)]:=by
 obtain ⟨n,hn⟩:=rV h
 exact (aD4 n).2 hn
noncomputable def tW (cV:aV):Option (aQ × aV) :=
 (uZ 1 0 cV).bind fun x1=>(nB x1.2.1 x1.2.2).bind fun x3=>cond (!x3) (some ((aQ.mk 0 0 ([]:List UInt8) ([]:(List aQ)) ([]:(List (List UInt8)))),x1.2.2)) (some (x1.1,x1.2.2))
theorem aA0 {cV:aV}{z:(aQ × aV)} (h:tW cV=some z):cQ Tryz.prog 76 [.box 0 0] [AV.cs (dX cV)] (.agg (AV.cs (fA z.1))) [AV.cs (dX z.2)]:=by
 unfold tW at h
 refine dF (fn:=Tryz.f76) [0,2,3,4,12] (by kernel_rfl) Tryz.func76 r (by kernel_rfl) (by kernel_rfl)<|aH<|hO (n:=1) (cs:=cB) (σ':=[fG,cB]) aD2 r r r<|aG (fr':=[(0,aE),(2,aU)]) r r<|aH<|mV (v:=aE) r<|aR r (fV (cs:=[aE,aI]) aUq r)<|jK (v:=.agg [aE,aI]) (n:=2) (cs:=[aE,aI]) (σ':=[fG,cB,[aE,aI]]) r r r r r<|sV (v:=cK) r<|aG (fr':=[(2,aU),(3,cK)]) r r<|aZ<|bB<|mV (v:=cK) r<|bx h fun x1 y1 h2=>cP (v:=.agg cE) (σ':=[fG,cB,[aE,aI]]) [2,0] r (aEs y1) r r jN (qI jN (eG oX aD)) r r r<|hO (n:=3) (cs:=cB) (σ':=[fG,cB,[aE,aI],cB]) aD2 r r r<|bM (v:=.agg cE) (us:=cE) (cs:=cB) (σ':=[fG,cB,[aE,aI],cE]) r iO r r r r r r r r<|aG (fr':=[(2,aU),(3,cK),(4,jO)]) r r<|aZ<|aH<|mV (v:=cK) r<|bx h2 fun x3 y3 h4=>cP (v:=aB) (σ':=[fG,cB,[aE,aI],cE]) [2,0] r (uG y3) r r ⟨lr,trivial⟩ (qI jN (eG oX aD)) r r r<|aR r (fE r)<|aG (fr':=[(2,aU),(4,jO),(12,aB)]) r r<|cG h4 r (fun b5 h5=>?_) (fun b5 h5=>?_)
 ·
  refine aH<|aR r (fV (cs:=cB) aFl r)<|bM (v:=.agg cB) (us:=cB) (cs:=cB) (σ':=[fG,cB,[aE,aI],cE]) r iO r r r r r r r r<|aG (fr':=[(2,aU)]) r r<|bK<|aP ?_
  obtain rfl:=sy h5
  exact bJ (rs':=[.cell 2 26]) r<|dY (us:=cB) (cs:=cB) iO r r r r<|bI<|aN [] r r r (bQ r ⟨r,r,r,⟨_,r⟩,⟨_,r⟩,trivial⟩) (eG oX aD)
 ·
  refine bF<|cZ<|aH<|aR r (dL (us:=cE) iO r r r r)<|bM (v:=.agg cE) (us:=cE) (cs:=cB) (σ':=[fG,cE,[aE,aI],cE]) r iO r r r r r r r r<|aG (fr':=[(2,aU)]) r r<|bK ?_
  obtain rfl:=sy h5
  exact bJ (rs':=[.cell 2 26]) r<|dY (us:=cE) (cs:=cE) iO r r r r<|bI<|aN [] r r r (bQ r kR5) (eG oX aD)
noncomputable def nR (cV:aV):Option (Int × aV) :=
 (jG (-9223372036854775808) 9223372036854775807 cV).bind fun x1=>some (x1.1,x1.2)
theorem oH {cV:aV}{z:(Int × aV)} (h:nR cV=some z):cQ Tryz.prog 151 [.box 0 0] [AV.cs (dX cV)] (ci z.1) [AV.cs (dX z.2)]:=by
 unfold nR at h
 refine dF (fn:=Tryz.f151) [0,2] (by kernel_rfl) Tryz.func151 r (by kernel_rfl) (by kernel_rfl)<|aH<|sI r<|aG (fr':=[(0,aE)]) r r<|aH<|mV (v:=aE) r<|bx h fun x1 y1 h2=>cP (v:=aI) (σ':=[fG]) [0] r (tD y1) r r kA (eG oX aD) r r r<|sI r<|aG (fr':=[(2,aI)]) r r<|bK ?_
 obtain rfl:=sy h2
 exact bJ (rs':=[.tmp 2]) r<|bS (v:=aI) r<|bI<|aN [] r r r lr (eG oX aD)
