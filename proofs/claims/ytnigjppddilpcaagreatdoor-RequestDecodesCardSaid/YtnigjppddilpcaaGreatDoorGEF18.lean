import Derived.Test.YtnigjppddilpcaaGreatDoorGETy
import Derived.Test.YtnigjppddilpcaaGreatDoorGEF0
import Derived.Test.YtnigjppddilpcaaGreatDoorGEF1
import Derived.Test.YtnigjppddilpcaaGreatDoorGEF7
import Derived.Test.YtnigjppddilpcaaGreatDoorGEF8
import Derived.Test.YtnigjppddilpcaaGreatDoorGEF10
import Derived.Test.YtnigjppddilpcaaGreatDoorGEF11
import Derived.Test.YtnigjppddilpcaaGreatDoorGEF12
import Derived.Test.YtnigjppddilpcaaGreatDoorGEF14
import Derived.Test.YtnigjppddilpcaaGreatDoorGEF15
import Derived.Test.YtnigjppddilpcaaGreatDoorGEF17
namespace Go.Proofs.YtnigjppddilpcaaGreatDoor
open Go Abs
set_option maxRecDepth 100000
set_option linter.unusedVariables false
set_option linter.unusedSimpArgs false
noncomputable def kL (x13:(Int × aV)) (s18:(Int × aV × (List dH))):Option (dU (Int × aV × (List dH)) (aV × (List dH))) :=
 ((cond (decide (s18.1<x13.1)) ((kN s18.2.1).bind fun x23=>cond (decide (x23=0)) (some (Fl.go ())) (some (Fl.done (dU.out (s18.2.1,s18.2.2))))) (some (Fl.done (dU.out (s18.2.1,s18.2.2))))):Option (Fl (dU (Int × aV × (List dH)) (aV × (List dH))) Unit)).bind fun x19=>Fl.next x19 (fun j21=>((aAJ s18.2.1).bind fun x31=>(app 272 s18.2.2 ([x31.1]:List dH)).bind fun x33=>some (dU.next ((IntKind.wrap .i64 (s18.1+1)),x31.2,x33))))
noncomputable def uB (p0b:(List UInt8)):Option (jW × Int) :=
 (aBb p0b).bind fun x1=>(pG x1).bind fun x3=>(gA 4096 x3.2).bind fun x5=>(pG x5.2).bind fun x7=>(pG x7.2).bind fun x9=>(tW x9.2).bind fun x11=>(vP 2000 x11.2).bind fun x13=>(fK (kL x13) ((0,x13.2,([]:(List dH))))).bind fun x15=>((sR x15.1).bind fun x36=>cond (!decide (x36=0)) (some ((jW.mk 0 ([]:List UInt8) 0 0 (aQ.mk 0 0 ([]:List UInt8) ([]:(List aQ)) ([]:(List (List UInt8)))) ([]:(List dH))),x36)) ((vG (jW.mk x3.1 x5.1 x7.1 x9.1 x11.1 x15.2)).bind fun x40=>cond (!x40) (some ((jW.mk 0 ([]:List UInt8) 0 0 (aQ.mk 0 0 ([]:List UInt8) ([]:(List aQ)) ([]:(List (List UInt8)))) ([]:(List dH))),3)) (some ((jW.mk x3.1 x5.1 x7.1 x9.1 x11.1 x15.2),0))))
theorem aFn {p0b:(List UInt8)}{z:(jW × Int)} (h:uB p0b=some z):cQ Tryz.prog 48 [.c (PV.ls 1 iT p0b)] [] (.tup [.agg (AV.cs (aAo z.1)),ci z.2]) []:=by
 unfold uB at h
 refine dF (fn:=Tryz.f48) [0,2,3,4,5,6,7,8,35,48,53] (by kernel_rfl) Tryz.func48 r (by kernel_rfl) (by kernel_rfl)<|aH<|hO (n:=0) (cs:=bW) (σ':=[bW]) aOo r r r<|sI r<|aG (fr':=[(0,aL),(2,aE)]) r r<|aH<|mL r<|bx h fun x1 y1 h2=>cP (v:=aU) (σ':=[bW,fG]) [] r (aGU y1) r r ⟨lr,trivial⟩ aD r r r<|sV (v:=aU) r<|aG (fr':=[(2,aE),(4,aU)]) r r<|aH<|mV (v:=aU) r<|bx h2 fun x3 y3 h4=>cP (v:=aI) (σ':=[bW,fG]) [1] r (qQ y3) r r ⟨lr,trivial⟩ (eG oX aD) r r r<|aR r (iD (c0:=bW) (cs:=bW) aP1 r (eC (v:=aI) (us:=[_]) (cs':=u10) r r r r r r iC))<|hO (n:=2) (cs:=bW) (σ':=[bW,fG,bW]) aOo r r r<|bM (v:=.agg bW) (us:=bW) (cs:=bW) (σ':=[bW,fG,bW]) r aCQ r r r r r r r r<|aG (fr':=[(2,aE),(4,aU),(5,cK)]) r r<|aH<|mV (v:=aU) r<|bx h4 fun x5 y5 h6=>cP (v:=aS) (σ':=[bW,fG,bW]) [1] r (jH y5) r r jN (eG oX aD) r r r<|aR r (bD aHv r)<|bM (v:=aS) (us:=[aS]) (cs:=bW) (σ':=[bW,fG,bW]) r lP r r r r r r r r<|aG (fr':=[(2,aE),(4,aU),(5,cK)]) r r<|aH<|mV (v:=aU) r<|bx h6 fun x7 y7 h8=>cP (v:=aI) (σ':=[bW,fG,bW]) [1] r (qQ y7) r r ⟨lr,trivial⟩ (eG oX aD) r r r<|aR r (bD aHw r)<|bM (v:=aI) (us:=[aI]) (cs:=bW) (σ':=[bW,fG,bW]) r fM r r r r r r r r<|aG (fr':=[(2,aE),(4,aU),(5,cK)]) r r<|aH<|mV (v:=aU) r<|bx h8 fun x9 y9 h10=>cP (v:=aI) (σ':=[bW,fG,bW]) [1] r (qQ y9) r r ⟨lr,trivial⟩ (eG oX aD) r r r<|aR r (bD aLC r)<|bM (v:=aI) (us:=[aI]) (cs:=bW) (σ':=[bW,fG,bW]) r fM r r r r r r r r<|aG (fr':=[(2,aE),(4,aU),(5,cK)]) r r<|aH<|mV (v:=aU) r<|bx h10 fun x11 y11 h12=>cP (v:=.agg cE) (σ':=[bW,fG,bW]) [1] r (aA0 y11) r r ⟨lr,trivial⟩ (eG oX aD) r r r<|aR r (bD aHx r)<|bM (v:=.agg cE) (us:=cE) (cs:=bW) (σ':=[bW,fG,aBw]) r iO r r r r r r r r<|aG (fr':=[(2,aE),(4,aU),(5,cK)]) r r<|aH<|mV (v:=aU) r<|bx h12 fun x13 y13 h14=>cP (v:=aI) (σ':=[bW,fG,aBw]) [1] r (aFI y13) r r jN (eG oX aD) r r r<|sI r<|aG (fr':=[(2,aE),(4,aU),(5,cK),(6,aI)]) r r<|aZ<|aH<|sI r<|aG (fr':=[(2,aE),(4,aU),(5,cK),(6,aI),(7,aI)]) r r<|bx h14 fun x15 y15 h16=>gZ lB (fun j17=>x15=j17) (fun (j17:(aV × (List dH)))=>([(2,aE),(4,aU),(5,cK)]:Fr)) (fun (j17:(aV × (List dH)))=>([[ci 0,.c (.str ([]:List UInt8)),ci 0,ci 0,ci 0,ci 0,.c (.str ([]:List UInt8)),AV.nil,AV.nil,AV.nil],[.c (.bool j17.1.Made),.c (PV.ls 1 iT j17.1.Rest),ci j17.1.Bad],[ci x3.1,.c (.str x5.1),ci x7.1,ci x9.1,ci x11.1.Kind,ci x11.1.Int,.c (.str x11.1.Text),.c (PV.ls 5 bT x11.1.Items),.c (PV.ls 1 fI x11.1.Keys),AV.os 0 24 gT j17.2]]:St)) ?_ ?_
 ·
  refine cH<|gV _ (fun (s18:(Int × aV × (List dH)))=>([(2,aE),(4,aU),(5,cK),(6,ci x13.1),(7,ci s18.1)]:Fr)) (fun (s18:(Int × aV × (List dH)))=>([[ci 0,.c (.str ([]:List UInt8)),ci 0,ci 0,ci 0,ci 0,.c (.str ([]:List UInt8)),AV.nil,AV.nil,AV.nil],[.c (.bool s18.2.1.Made),.c (PV.ls 1 iT s18.2.1.Rest),ci s18.2.1.Bad],[ci x3.1,.c (.str x5.1),ci x7.1,ci x9.1,ci x11.1.Kind,ci x11.1.Int,.c (.str x11.1.Text),.c (PV.ls 5 bT x11.1.Items),.c (PV.ls 1 fI x11.1.Keys),AV.os 0 24 gT s18.2.2]]:St)) y15 (bC [1000000] 3 r r r r kL5 (bR r (bR r (qI ⟨lr,lr,lr,lr,lr,lr,lr,lr,lr,(aAt r),trivial⟩ aD)))) ?_
  intro s18 st18 hs18 ho18
  unfold kL at hs18
  obtain ⟨x19,y19,h20⟩:=iW hs18
  refine hH (fun j21=>x19=Fl.go j21) (fun (j21:Unit)=>([(2,aE),(4,aU),(5,cK),(6,ci x13.1),(7,ci s18.1)]:Fr)) (fun (j21:Unit)=>([[ci 0,.c (.str ([]:List UInt8)),ci 0,ci 0,ci 0,ci 0,.c (.str ([]:List UInt8)),AV.nil,AV.nil,AV.nil],[.c (.bool s18.2.1.Made),.c (PV.ls 1 iT s18.2.1.Rest),ci s18.2.1.Bad],[ci x3.1,.c (.str x5.1),ci x7.1,ci x9.1,ci x11.1.Kind,ci x11.1.Int,.c (.str x11.1.Text),.c (PV.ls 5 bT x11.1.Items),.c (PV.ls 1 fI x11.1.Keys),AV.os 0 24 gT s18.2.2]]:St)) ?_ ?_
  ·
   refine aH<|mI r<|mI r<|aR r (gI r r)<|mB r<|aN7 y19 (fun b22 h22=>?_) (fun b22 h22=>?_)
   ·
    refine oE r r b22<|mV (v:=aU) r<|oE r r b22<|bx h22 fun x23 y23 h24=>cP (v:=aI) (σ':=[bW,fG,[aI,aS,aI,aI,aI,aI,aS,aL,aL,aO]]) [1] r (mF y23) r r ⟨lr,trivial⟩ (eG oX aD) r r r<|oE r r b22<|aR r (bU r r)<|aR r (aCw r b22 r)<|aG (fr':=[(2,aE),(4,aU),(5,cK),(6,aI),(7,aI),(35,aB)]) r r<|cG h24 r (fun b25 h25=>?_) (fun b25 h25=>?_)
    ·
     exact bF<|iQ _ (sy h25) (bC [0] 3 r r r r kL5 (bR r (bR r (bR r aD))))
    ·
     refine hG<|cY<|cY<|fP ?_
     have h26:=fL h25 h20
     have h27:=eR h26 ho18
     exact iQ _ (sy h27) (bC [0] 3 r r r r kA (bR r (bR r (bR r aD))))
   ·
    refine aDn r r b22<|aDn r r b22<|aDn r r b22<|aR r (wL r b22 r)<|aG (fr':=[(2,aE),(4,aU),(5,cK),(6,aI),(7,aI),(35,aB)]) r r<|yI r<|hG<|cY<|cY<|fP ?_
    have h28:=fL h22 h20
    have h29:=eR h28 ho18
    exact iQ _ (sy h29) (bC [0] 3 r r r r kA (bR r (bR r (bR r aD))))
  ·
   intro j21 hj30
   have h30:=lV hj30 h20
   refine aZ<|cH<|kV [.q 0,.q 1,.q 2,.n 3 [0,1],.n 4 [0,1],.n 5 [],.q 6,.n 7 []] [(some 38,[5]),(some 39,[38]),(some 40,[4]),(some 41,[40]),(some 42,[41]),(some 43,[39,42]),(some 44,[5]),(none,[44,43])] [0,1,0,4,12,31,63,127] (by kernel_rfl)<|dq r r (bD aAe r)<|dq r r (aK (v:=aO) aF0 r r r)<|dq r r (bN (v:=aU) r)<|d_n r ?_ r
   obtain ⟨x31,y31,h32⟩:=iW h30
   refine cP (v:=.agg bA) (σ':=[bW,fG,[aI,aS,aI,aI,aI,aI,aS,aL,aL,aO]]) [1] r (aJM y31) r r ⟨lr,trivial⟩ (eG oX aD) r r r<|uK<|⟨(pR (v:=aKw) r r (kU r (bD aAe r)) (pR (v:=aO) r r (kU r (aK (v:=aO) aF0 r r r)) lJ)),?_⟩
   refine d_n r ?_ r
   refine uL (row:=gT) (xs:=([x31.1]:List dH)) (rows:=[[_,_,_,_,_,_,_,_,_,_,_,_,_,_,_,_,_,_,_,_,_,_,_,_]]) (σ':=[bW,fG,[aI,aS,aI,aI,aI,aI,aS,aL,aL,aO]]) [0,0,0,0,0,0,0,0,0,0,0,0,5,1,0,0,0,0,0,0,0,0,0,1] aM9 r r r (gB r oB) r r<|uK<|⟨(pR (v:=aKw) r r (kU r (bD aAe r)) (pR (v:=aO) r r (kU r (aK (v:=aO) aF0 r r r)) lJ)),?_⟩
   refine d_n r ?_ r
   obtain ⟨x33,y33,h34⟩:=iW h32
   refine aCt (row:=gT) aM9 r aLE r (oC r) (fun _=>r) y33<|uK<|⟨lJ,?_⟩
   refine dq r r (bD aAe r)<|d_n r ?_ r
   refine bM (v:=aO) (us:=[aO]) (cs:=iG) (σ':=[bW,fG,[aI,aS,aI,aI,aI,aI,aS,aL,aL,aO]]) r aF0 r r r r r r r r<|uK<|⟨lJ,?_⟩
   exact aKy (fr':=[(2,aE),(4,aU),(5,cK),(6,aI),(7,aI)]) r<|cW<|cZ<|bB<|mI r<|aR r (gC r r)<|sI r<|dM (fr':=[(2,aE),(4,aU),(5,cK),(6,aI),(7,aI)]) r<|zO _ (sy h34) (bC [688] 3 r r r r kL5 (bR r (bR r (bR r aD))))
 ·
  intro j17 hj35
  subst hj35
  refine cZ<|aH<|mV (v:=aU) r<|bx h16 fun x36 y36 h37=>cP (v:=aI) (σ':=[bW,fG,[aI,aS,aI,aI,aI,aI,aS,aL,aL,aO]]) [1] r (aCP y36) r r ⟨lr,trivial⟩ (eG oX aD) r r r<|sI r<|aG (fr':=[(2,aE),(5,cK),(8,aI)]) r r<|aZ<|aH<|mI r<|aR r (iS r r)<|aG (fr':=[(2,aE),(5,cK),(8,aI),(48,aB)]) r r<|cG h37 r (fun b38 h38=>?_) (fun b38 h38=>?_)
  ·
   refine aH<|aR r (iD (c0:=bW) (cs:=bW) aP1 r iC)<|mI r<|bM (v:=.agg bW) (us:=bW) (cs:=bW) (σ':=[bW,fG,[aI,aS,aI,aI,aI,aI,aS,aL,aL,aO]]) r aCQ r r r r r r r r<|sI r<|aG (fr':=[(2,aE),(3,aI)]) r r<|bK<|aP ?_
   obtain rfl:=sy h38
   exact bJ (rs':=[.cell 2 66,.tmp 3]) r<|dY (us:=bW) (cs:=bW) aCQ r r r r<|bS (v:=aI) r<|bI<|aN [] r r r (mR r ⟨(bQ r ⟨r,r,r,r,r,r,r,⟨_,r⟩,⟨_,r⟩,⟨_,r⟩,trivial⟩),lr,trivial⟩) aD
  ·
   refine bF<|cZ<|aZ<|aH<|aR r (dL (us:=[aI,aS,aI,aI,aI,aI,aS,aL,aL,aO]) aCQ r r r r)<|bx h38 fun x40 y40 h41=>lS (bL (v:=aB) r (aF7 y40) ⟨(bQ r aBA),trivial⟩ r r r)<|aR r (fE r)<|aG (fr':=[(2,aE),(5,cK),(53,aB)]) r r<|cG h41 r (fun b42 h42=>?_) (fun b42 h42=>?_)
   ·
    refine aH<|aR r (iD (c0:=bW) (cs:=bW) aP1 r iC)<|bM (v:=.agg bW) (us:=bW) (cs:=bW) (σ':=[bW,fG,[aI,aS,aI,aI,aI,aI,aS,aL,aL,aO]]) r aCQ r r r r r r r r<|sI r<|aG (fr':=[(2,aE),(3,aI)]) r r<|bK<|aP ?_
    obtain rfl:=sy h42
    exact bJ (rs':=[.cell 2 66,.tmp 3]) r<|dY (us:=bW) (cs:=bW) aCQ r r r r<|bS (v:=aI) r<|bI<|aN [] r r r (mR r ⟨(bQ r ⟨r,r,r,r,r,r,r,⟨_,r⟩,⟨_,r⟩,⟨_,r⟩,trivial⟩),lr,trivial⟩) aD
   ·
    refine bF<|cZ<|aH<|aR r (dL (us:=[aI,aS,aI,aI,aI,aI,aS,aL,aL,aO]) aCQ r r r r)<|bM (v:=.agg [aI,aS,aI,aI,aI,aI,aS,aL,aL,aO]) (us:=[aI,aS,aI,aI,aI,aI,aS,aL,aL,aO]) (cs:=bW) (σ':=[[aI,aS,aI,aI,aI,aI,aS,aL,aL,aO],fG,[aI,aS,aI,aI,aI,aI,aS,aL,aL,aO]]) r aCQ r r r r r r r r<|sI r<|aG (fr':=[(2,aE),(3,aI)]) r r<|bK ?_
    obtain rfl:=sy h42
    exact bJ (rs':=[.cell 2 66,.tmp 3]) r<|dY (us:=[aI,aS,aI,aI,aI,aI,aS,aL,aL,aO]) (cs:=[aI,aS,aI,aI,aI,aI,aS,aL,aL,aO]) aCQ r r r r<|bS (v:=aI) r<|bI<|aN [] r r r (mR r ⟨(bQ r aBA),lr,trivial⟩) aD
noncomputable def qV (p0b:(List UInt8)):Option Bool :=
 cond (decide (70000<((p0b).length:Int))) ((aAi).bind fun x2=>some x2) ((qZ p0b).bind fun x5=>(aAK p0b).bind fun x7=>(sA p0b).bind fun x9=>(uB p0b).bind fun x11=>(gd ((decide (x5.2=x7.2))==true) (uN x5.1 x7.1)).bind fun x13=>(gd ((cond (cond (decide (x5.2=x7.2)) x13 false) (decide (x9.2=x11.2)) false)==true) (wN x9.1 x11.1)).bind fun x15=>(gd ((cond (cond (cond (decide (x5.2=x7.2)) x13 false) (decide (x9.2=x11.2)) false) x15 false)==true) (aAi)).bind fun x17=>some (cond (cond (cond (cond (decide (x5.2=x7.2)) x13 false) (decide (x9.2=x11.2)) false) x15 false) x17 false))
theorem aD6 {p0b:(List UInt8)}{z:Bool} (h:qV p0b=some z):cQ Tryz.prog 13 [.c (PV.ls 1 iT p0b)] [] (.c (.bool z)) []:=by
 unfold qV at h
 refine dF (fn:=Tryz.f13) [0,2,3,4,5,6,7,8,9,10,13] (by kernel_rfl) Tryz.func13 r (by kernel_rfl) (by kernel_rfl)<|aH<|sB r<|aG (fr':=[(0,aL)]) r r<|aZ<|aH<|mL r<|aR r (hZ aGM (eK r))<|aR r (qW r r)<|aG (fr':=[(0,aL),(13,aB)]) r r<|cG h r (fun b1 h1=>?_) (fun b1 h1=>?_)
 ·
  refine aZ<|bB ?_
  obtain ⟨x2,y2,h3⟩:=iW h1
  refine lS (bL (v:=aB) r (aFF y2) trivial r r r)<|sB r<|aG (fr':=[(2,aB)]) r r<|bK<|aP ?_
  obtain rfl:=sy h3
  exact bJ (rs':=[.tmp 2]) r<|bS (v:=aB) r<|bI<|aN [] r r r lr aD
 ·
  refine bF<|cZ<|aH<|mL r<|bx h1 fun x5 y5 h6=>lS (bL (v:=.tup [.agg aF,aI]) r (aDx y5) ⟨lr,trivial⟩ r r r)<|mV (v:=.tup [.agg aF,aI]) r<|aR r (xJ (v:=.agg aF) r r)<|aR r (xJ (v:=aI) r r)<|hO (n:=0) (cs:=aC) (σ':=[aC]) aJ9 r r r<|bM (v:=.agg aF) (us:=aF) (cs:=aC) (σ':=[aF]) r vM r r r r r r r r<|sI r<|aG (fr':=[(0,aL),(3,aE),(4,aI)]) r r<|aH<|mL r<|bx h6 fun x7 y7 h8=>lS (bL (v:=.tup [.agg aF,aI]) r (aJN y7) ⟨lr,trivial⟩ r r r)<|mV (v:=.tup [.agg aF,aI]) r<|aR r (xJ (v:=.agg aF) r r)<|aR r (xJ (v:=aI) r r)<|hO (n:=1) (cs:=aC) (σ':=[aF,aC]) aJ9 r r r<|bM (v:=.agg aF) (us:=aF) (cs:=aC) (σ':=[aF,aF]) r vM r r r r r r r r<|sI r<|aG (fr':=[(0,aL),(3,aE),(4,aI),(5,aU),(6,aI)]) r r<|aH<|mL r<|bx h8 fun x9 y9 h10=>lS (bL (v:=.tup [.agg iG,aI]) r (aEu y9) ⟨lr,trivial⟩ r r r)<|mV (v:=.tup [.agg iG,aI]) r<|aR r (xJ (v:=.agg iG) r r)<|aR r (xJ (v:=aI) r r)<|hO (n:=2) (cs:=bW) (σ':=[aF,aF,bW]) aOo r r r<|bM (v:=.agg iG) (us:=iG) (cs:=bW) (σ':=[aF,aF,iG]) r aCQ r r r r r r r r<|sI r<|aG (fr':=[(0,aL),(3,aE),(4,aI),(5,aU),(6,aI),(7,cK),(8,aI)]) r r<|aH<|mL r<|bx h10 fun x11 y11 h12=>lS (bL (v:=.tup [.agg iG,aI]) r (aFn y11) ⟨lr,trivial⟩ r r r)<|mV (v:=.tup [.agg iG,aI]) r<|aR r (xJ (v:=.agg iG) r r)<|aR r (xJ (v:=aI) r r)<|hO (n:=3) (cs:=bW) (σ':=[aF,aF,iG,bW]) aOo r r r<|bM (v:=.agg iG) (us:=iG) (cs:=bW) (σ':=[aF,aF,iG,iG]) r aCQ r r r r r r r r<|sI r<|aG (fr':=[(3,aE),(4,aI),(5,aU),(6,aI),(7,cK),(8,aI),(9,jO),(10,aI)]) r r<|aH<|mI r<|mI r<|aR r (bU r r)<|mB r<|og r r r (fun u=>(dL (us:=aF) vM r r r r))<|og r r r (fun u=>(dL (us:=aF) vM r r r r))<|bx h12 fun x13 y13 h14=>sX r r (fun u=>bL (v:=aB) r (aD7 (cU y13 u)) ⟨(eW (gx r u) (bQ r aI2)),(eW (gx r u) (bQ r aI2)),trivial⟩ (fT (by repeat (first | exact eN | refine aY r ?_ | refine aY (pP r) ?_ | refine aY pO ?_))) r r) ?_
  refine aR r (bV r r r (fun e=>fJ e))<|mB r<|og r r r (fun u=>(bN (v:=aI) r))<|og r r r (fun u=>(bN (v:=aI) r))<|og r r r (fun u=>(bU (gx r u) (gx r u)))<|aR r (bV r r r (fun e=>fJ e))<|mB r<|og r r r (fun u=>(dL (us:=iG) aCQ r r r r))<|og r r r (fun u=>(dL (us:=iG) aCQ r r r r))<|bx h14 fun x15 y15 h16=>sX r r (fun u=>bL (v:=aB) r (aGY (cU y15 u)) ⟨(eW (gx r u) (bQ r aBA)),(eW (gx r u) (bQ r aBA)),trivial⟩ (fT (by repeat (first | exact eN | refine aY r ?_ | refine aY (pP r) ?_ | refine aY pO ?_))) r r) ?_
  refine aR r (bV r r r (fun e=>fJ e))<|mB r ?_
  obtain ⟨x17,y17,h18⟩:=iW h16
  refine sX r r (fun u=>bL (v:=aB) r (aFF (cU y17 u)) trivial (fT (by repeat (first | exact eN | refine aY r ?_ | refine aY (pP r) ?_ | refine aY pO ?_))) r r) ?_
  refine aR r (bV r r r (fun e=>fJ e))<|sB r<|aG (fr':=[(2,aB)]) r r<|bK ?_
  obtain rfl:=sy h18
  exact bJ (rs':=[.tmp 2]) r<|bS (v:=aB) r<|bI<|aN [] r r r lr aD
