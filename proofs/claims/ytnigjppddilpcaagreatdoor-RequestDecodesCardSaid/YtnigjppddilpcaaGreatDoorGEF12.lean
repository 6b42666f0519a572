import Derived.Test.YtnigjppddilpcaaGreatDoorGETy
import Derived.Test.YtnigjppddilpcaaGreatDoorGEF0
import Derived.Test.YtnigjppddilpcaaGreatDoorGEF4
import Derived.Test.YtnigjppddilpcaaGreatDoorGEF6
import Derived.Test.YtnigjppddilpcaaGreatDoorGEF7
import Derived.Test.YtnigjppddilpcaaGreatDoorGEF10
import Derived.Test.YtnigjppddilpcaaGreatDoorGEF11
namespace Go.Proofs.YtnigjppddilpcaaGreatDoor
open Go Abs
set_option maxRecDepth 100000
set_option linter.unusedVariables false
set_option linter.unusedSimpArgs false
noncomputable def qB (x19:(Int × aV)) (s33:(Int × aV × (List (List UInt8)))):Option (dU (Int × aV × (List (List UInt8))) (aV × (List (List UInt8)))) :=
 ((cond (decide (s33.1<x19.1)) ((kN s33.2.1).bind fun x38=>cond (decide (x38=0)) (some (Fl.go ())) (some (Fl.done (dU.out (s33.2.1,s33.2.2))))) (some (Fl.done (dU.out (s33.2.1,s33.2.2))))):Option (Fl (dU (Int × aV × (List (List UInt8))) (aV × (List (List UInt8)))) Unit)).bind fun x34=>Fl.next x34 (fun j36=>((gA 4096 s33.2.1).bind fun x46=>(app 16 s33.2.2 ([x46.1]:List (List UInt8))).bind fun x48=>some (dU.next ((IntKind.wrap .i64 (s33.1+1)),x46.2,x48))))
noncomputable def qH (cV:aV):Option (dS × aV) :=
 (gA 4096 cV).bind fun x1=>(nR x1.2).bind fun x3=>(nR x3.2).bind fun x5=>(nR x5.2).bind fun x7=>(nR x7.2).bind fun x9=>(nR x9.2).bind fun x11=>(nR x11.2).bind fun x13=>(nR x13.2).bind fun x15=>(nR x15.2).bind fun x17=>(nR x17.2).bind fun x19=>(((uA x19.1 0 64).bind fun x24=>cond (!x24) ((kO 3 x19.2).bind fun x27=>some x27) (some x19.2)):Option aV).bind fun x21=>((fK (qB x19) ((0,x21,([]:(List (List UInt8)))))).bind fun x30=>((((rM (dS.mk x1.1 x3.1 x5.1 x7.1 x9.1 x11.1 x13.1 x15.1 x17.1 x30.2)).bind fun x54=>cond (!x54) ((kO 3 x30.1).bind fun x57=>some x57) (some x30.1)):Option aV).bind fun x51=>((kN x51).bind fun x60=>cond (!decide (x60=0)) (some ((dS.mk ([]:List UInt8) 0 0 0 0 0 0 0 0 ([]:(List (List UInt8)))),x51)) (some ((dS.mk x1.1 x3.1 x5.1 x7.1 x9.1 x11.1 x13.1 x15.1 x17.1 x30.2),x51)))))
theorem aBL {cV:aV}{z:(dS × aV)} (h:qH cV=some z):cQ Tryz.prog 77 [.box 0 0] [AV.cs (dX cV)] (.agg (AV.cs (pH z.1))) [AV.cs (dX z.2)]:=by
 unfold qH at h
 refine dF (fn:=Tryz.f77) [0,2,3,4,5,37,47,59,64] (by kernel_rfl) Tryz.func77 r (by kernel_rfl) (by kernel_rfl)<|aH<|hO (n:=1) (cs:=bG) (σ':=[fG,bG]) aRC r r r<|aG (fr':=[(0,aE),(2,aU)]) r r<|aH<|mV (v:=aE) r<|bx h fun x1 y1 h2=>cP (v:=aS) (σ':=[fG,bG]) [0] r (jH y1) r r jN (eG oX aD) r r r<|aR r (iD (c0:=bG) (cs:=bG) aM6 r (eC (v:=aS) (us:=[_]) (cs':=u10) r r r r r r iC))<|hO (n:=2) (cs:=bG) (σ':=[fG,bG,bG]) aRC r r r<|bM (v:=.agg bG) (us:=bG) (cs:=bG) (σ':=[fG,bG,bG]) r yT r r r r r r r r<|aG (fr':=[(0,aE),(2,aU),(3,cK)]) r r<|aH<|mV (v:=aE) r<|bx h2 fun x3 y3 h4=>cP (v:=aI) (σ':=[fG,bG,bG]) [0] r (oH y3) r r ⟨lr,trivial⟩ (eG oX aD) r r r<|aR r (bD aFR r)<|bM (v:=aI) (us:=[aI]) (cs:=bG) (σ':=[fG,bG,bG]) r fM r r r r r r r r<|aG (fr':=[(0,aE),(2,aU),(3,cK)]) r r<|aH<|mV (v:=aE) r<|bx h4 fun x5 y5 h6=>cP (v:=aI) (σ':=[fG,bG,bG]) [0] r (oH y5) r r ⟨lr,trivial⟩ (eG oX aD) r r r<|aR r (bD aFS r)<|bM (v:=aI) (us:=[aI]) (cs:=bG) (σ':=[fG,bG,bG]) r fM r r r r r r r r<|aG (fr':=[(0,aE),(2,aU),(3,cK)]) r r<|aH<|mV (v:=aE) r<|bx h6 fun x7 y7 h8=>cP (v:=aI) (σ':=[fG,bG,bG]) [0] r (oH y7) r r ⟨lr,trivial⟩ (eG oX aD) r r r<|aR r (bD aFT r)<|bM (v:=aI) (us:=[aI]) (cs:=bG) (σ':=[fG,bG,bG]) r fM r r r r r r r r<|aG (fr':=[(0,aE),(2,aU),(3,cK)]) r r<|aH<|mV (v:=aE) r<|bx h8 fun x9 y9 h10=>cP (v:=aI) (σ':=[fG,bG,bG]) [0] r (oH y9) r r ⟨lr,trivial⟩ (eG oX aD) r r r<|aR r (bD aFU r)<|bM (v:=aI) (us:=[aI]) (cs:=bG) (σ':=[fG,bG,bG]) r fM r r r r r r r r<|aG (fr':=[(0,aE),(2,aU),(3,cK)]) r r<|aH<|mV (v:=aE) r<|bx h10 fun x11 y11 h12=>cP (v:=aI) (σ':=[fG,bG,bG]) [0] r (oH y11) r r ⟨lr,trivial⟩ (eG oX aD) r r r<|aR r (bD aFV r)<|bM (v:=aI) (us:=[aI]) (cs:=bG) (σ':=[fG,bG,bG]) r fM r r r r r r r r<|aG (fr':=[(0,aE),(2,aU),(3,cK)]) r r<|aH<|mV (v:=aE) r<|bx h12 fun x13 y13 h14=>cP (v:=aI) (σ':=[fG,bG,bG]) [0] r (oH y13) r r ⟨lr,trivial⟩ (eG oX aD) r r r<|aR r (bD aFW r)<|bM (v:=aI) (us:=[aI]) (cs:=bG) (σ':=[fG,bG,bG]) r fM r r r r r r r r<|aG (fr':=[(0,aE),(2,aU),(3,cK)]) r r<|aH<|mV (v:=aE) r<|bx h14 fun x15 y15 h16=>cP (v:=aI) (σ':=[fG,bG,bG]) [0] r (oH y15) r r ⟨lr,trivial⟩ (eG oX aD) r r r<|aR r (bD aFX r)<|bM (v:=aI) (us:=[aI]) (cs:=bG) (σ':=[fG,bG,bG]) r fM r r r r r r r r<|aG (fr':=[(0,aE),(2,aU),(3,cK)]) r r<|aH<|mV (v:=aE) r<|bx h16 fun x17 y17 h18=>cP (v:=aI) (σ':=[fG,bG,bG]) [0] r (oH y17) r r ⟨lr,trivial⟩ (eG oX aD) r r r<|aR r (bD aFY r)<|bM (v:=aI) (us:=[aI]) (cs:=bG) (σ':=[fG,bG,bG]) r fM r r r r r r r r<|aG (fr':=[(0,aE),(2,aU),(3,cK)]) r r<|aH<|mV (v:=aE) r<|bx h18 fun x19 y19 h20=>cP (v:=aI) (σ':=[fG,bG,bG]) [0] r (oH y19) r r ⟨lr,trivial⟩ (eG oX aD) r r r<|sI r<|aG (fr':=[(0,aE),(2,aU),(3,cK),(4,aI)]) r r<|bx h20 fun x21 y21 h22=>hH (fun j23=>x21=j23) (fun (j23:aV)=>([(0,aE),(2,aU),(3,cK),(4,ci x19.1)]:Fr)) (fun (j23:aV)=>([[.c (.bool j23.Made),.c (PV.ls 1 iT j23.Rest),ci j23.Bad],[.c (.str ([]:List UInt8)),ci 0,ci 0,ci 0,ci 0,ci 0,ci 0,ci 0,ci 0,AV.nil],[.c (.str x1.1),ci x3.1,ci x5.1,ci x7.1,ci x9.1,ci x11.1,ci x13.1,ci x15.1,ci x17.1,AV.nil]]:St)) ?_ ?_
 ·
  refine aH<|mI r<|bx y21 fun x24 y24 h25=>lS (bL (v:=aB) r (uS y24) kA r r r)<|aR r (fE r)<|aG (fr':=[(0,aE),(2,aU),(3,cK),(4,aI),(37,aB)]) r r<|cG h25 r (fun b26 h26=>?_) (fun b26 h26=>?_)
  ·
   exact bB<|mV (v:=aE) r<|bx h26 fun x27 y27 h28=>cP (v:=_) (σ':=[fG,bG,bG]) [0] r (pQ y27) r r jN (eG oX aD) r r r<|dM (fr':=[(0,aE),(2,aU),(3,cK),(4,aI),(37,aB)]) r<|iQ _ (sy h28) (bC [] 3 r r r r kL4 (bR r (bR r (bR r aD))))
  ·
   exact bF<|iQ _ (sy h26) (bC [] 3 r r r r kL4 (bR r (bR r (bR r aD))))
 ·
  intro j23 hj29
  subst hj29
  refine aZ<|aH<|sI r<|aG (fr':=[(0,aE),(2,aU),(3,cK),(4,aI),(5,aI)]) r r<|bx h22 fun x30 y30 h31=>gZ lB (fun j32=>x30=j32) (fun (j32:(aV × (List (List UInt8))))=>([(0,aE),(2,aU),(3,cK)]:Fr)) (fun (j32:(aV × (List (List UInt8))))=>([[.c (.bool j32.1.Made),.c (PV.ls 1 iT j32.1.Rest),ci j32.1.Bad],[.c (.str ([]:List UInt8)),ci 0,ci 0,ci 0,ci 0,ci 0,ci 0,ci 0,ci 0,AV.nil],[.c (.str x1.1),ci x3.1,ci x5.1,ci x7.1,ci x9.1,ci x11.1,ci x13.1,ci x15.1,ci x17.1,AV.os 0 1 fI j32.2]]:St)) ?_ ?_
  ·
   refine cH<|gV _ (fun (s33:(Int × aV × (List (List UInt8))))=>([(0,aE),(2,aU),(3,cK),(4,ci x19.1),(5,ci s33.1)]:Fr)) (fun (s33:(Int × aV × (List (List UInt8))))=>([[.c (.bool s33.2.1.Made),.c (PV.ls 1 iT s33.2.1.Rest),ci s33.2.1.Bad],[.c (.str ([]:List UInt8)),ci 0,ci 0,ci 0,ci 0,ci 0,ci 0,ci 0,ci 0,AV.nil],[.c (.str x1.1),ci x3.1,ci x5.1,ci x7.1,ci x9.1,ci x11.1,ci x13.1,ci x15.1,ci x17.1,AV.os 0 1 fI s33.2.2]]:St)) y30 (bC [1000000] 3 r r r r kL5 (bR r (bR r (qI ⟨lr,lr,lr,lr,lr,lr,lr,lr,lr,(aAt r),trivial⟩ aD)))) ?_
   intro s33 st33 hs33 ho33
   unfold qB at hs33
   obtain ⟨x34,y34,h35⟩:=iW hs33
   refine hH (fun j36=>x34=Fl.go j36) (fun (j36:Unit)=>([(0,aE),(2,aU),(3,cK),(4,ci x19.1),(5,ci s33.1)]:Fr)) (fun (j36:Unit)=>([[.c (.bool s33.2.1.Made),.c (PV.ls 1 iT s33.2.1.Rest),ci s33.2.1.Bad],[.c (.str ([]:List UInt8)),ci 0,ci 0,ci 0,ci 0,ci 0,ci 0,ci 0,ci 0,AV.nil],[.c (.str x1.1),ci x3.1,ci x5.1,ci x7.1,ci x9.1,ci x11.1,ci x13.1,ci x15.1,ci x17.1,AV.os 0 1 fI s33.2.2]]:St)) ?_ ?_
   ·
    refine aH<|mI r<|mI r<|aR r (gI r r)<|mB r<|aN7 y34 (fun b37 h37=>?_) (fun b37 h37=>?_)
    ·
     refine oE r r b37<|mV (v:=aE) r<|oE r r b37<|bx h37 fun x38 y38 h39=>cP (v:=aI) (σ':=[fG,bG,[aS,aI,aI,aI,aI,aI,aI,aI,aI,aO]]) [0] r (mF y38) r r ⟨lr,trivial⟩ (eG oX aD) r r r<|oE r r b37<|aR r (bU r r)<|aR r (aCw r b37 r)<|aG (fr':=[(0,aE),(2,aU),(3,cK),(4,aI),(5,aI),(47,aB)]) r r<|cG h39 r (fun b40 h40=>?_) (fun b40 h40=>?_)
     ·
      exact bF<|iQ _ (sy h40) (bC [0] 3 r r r r kL5 (bR r (bR r (bR r aD))))
     ·
      refine hG<|cY<|cY<|fP ?_
      have h41:=fL h40 h35
      have h42:=eR h41 ho33
      exact iQ _ (sy h42) (bC [0] 3 r r r r kA (bR r (bR r (bR r aD))))
    ·
     refine aDn r r b37<|aDn r r b37<|aDn r r b37<|aR r (wL r b37 r)<|aG (fr':=[(0,aE),(2,aU),(3,cK),(4,aI),(5,aI),(47,aB)]) r r<|yI r<|hG<|cY<|cY<|fP ?_
     have h43:=fL h37 h35
     have h44:=eR h43 ho33
     exact iQ _ (sy h44) (bC [0] 3 r r r r kA (bR r (bR r (bR r aD))))
   ·
    intro j36 hj45
    have h45:=lV hj45 h35
    refine aZ<|cH<|kV [.q 0,.q 1,.q 2,.n 3 [0,1],.n 4 [0,1],.n 5 [],.q 6,.n 7 []] [(some 50,[3]),(some 51,[50]),(some 52,[0]),(some 53,[52]),(some 54,[53]),(some 55,[51,54]),(some 56,[3]),(none,[56,55])] [0,1,0,4,12,31,63,127] (by kernel_rfl)<|dq r r (bD tN r)<|dq r r (aK (v:=aO) rC r r r)<|dq r r (bN (v:=aE) r)<|d_n r ?_ r
    obtain ⟨x46,y46,h47⟩:=iW h45
    refine cP (v:=aS) (σ':=[fG,bG,[aS,aI,aI,aI,aI,aI,aI,aI,aI,aO]]) [0] r (jH y46) r r jN (eG oX aD) r r r<|uK<|⟨(pR (v:=aKw) r r (kU r (bD tN r)) (pR (v:=aO) r r (kU r (aK (v:=aO) rC r r r)) lJ)),?_⟩
    refine d_n r ?_ r
    refine uL (row:=fI) (xs:=([x46.1]:List (List UInt8))) (rows:=[[_]]) (σ':=[fG,bG,[aS,aI,aI,aI,aI,aI,aI,aI,aI,aO]]) [0] aAR r r r (gB r oB) r r<|uK<|⟨(pR (v:=aKw) r r (kU r (bD tN r)) (pR (v:=aO) r r (kU r (aK (v:=aO) rC r r r)) lJ)),?_⟩
    refine d_n r ?_ r
    obtain ⟨x48,y48,h49⟩:=iW h47
    refine aCt (row:=fI) aAR r zD r (oC r) (fun _=>r) y48<|uK<|⟨lJ,?_⟩
    refine dq r r (bD tN r)<|d_n r ?_ r
    refine bM (v:=aO) (us:=[aO]) (cs:=dO) (σ':=[fG,bG,[aS,aI,aI,aI,aI,aI,aI,aI,aI,aO]]) r rC r r r r r r r r<|uK<|⟨lJ,?_⟩
    exact aKy (fr':=[(0,aE),(2,aU),(3,cK),(4,aI),(5,aI)]) r<|cW<|cZ<|bB<|mI r<|aR r (gC r r)<|sI r<|dM (fr':=[(0,aE),(2,aU),(3,cK),(4,aI),(5,aI)]) r<|zO _ (sy h49) (bC [880] 3 r r r r kL5 (bR r (bR r (bR r aD))))
  ·
   intro j32 hj50
   subst hj50
   refine cZ<|bx h31 fun x51 y51 h52=>hH (fun j53=>x51=j53) (fun (j53:aV)=>([(0,aE),(2,aU),(3,cK)]:Fr)) (fun (j53:aV)=>([[.c (.bool j53.Made),.c (PV.ls 1 iT j53.Rest),ci j53.Bad],[.c (.str ([]:List UInt8)),ci 0,ci 0,ci 0,ci 0,ci 0,ci 0,ci 0,ci 0,AV.nil],[.c (.str x1.1),ci x3.1,ci x5.1,ci x7.1,ci x9.1,ci x11.1,ci x13.1,ci x15.1,ci x17.1,AV.os 0 1 fI x30.2]]:St)) ?_ ?_
   ·
    refine aH<|aR r (dL (us:=[aS,aI,aI,aI,aI,aI,aI,aI,aI,aO]) yT r r r r)<|bx y51 fun x54 y54 h55=>lS (bL (v:=aB) r (aB0 y54) ⟨(bQ r aBA),trivial⟩ r r r)<|aR r (fE r)<|aG (fr':=[(0,aE),(2,aU),(3,cK),(59,aB)]) r r<|cG h55 r (fun b56 h56=>?_) (fun b56 h56=>?_)
    ·
     exact bB<|mV (v:=aE) r<|bx h56 fun x57 y57 h58=>cP (v:=_) (σ':=[fG,bG,[aS,aI,aI,aI,aI,aI,aI,aI,aI,aO]]) [0] r (pQ y57) r r jN (eG oX aD) r r r<|dM (fr':=[(0,aE),(2,aU),(3,cK),(59,aB)]) r<|iQ _ (sy h58) (bC [0] 3 r r r r kA (bR r (bR r (bR r aD))))
    ·
     exact bF<|iQ _ (sy h56) (bC [0] 3 r r r r kA (bR r (bR r (bR r aD))))
   ·
    intro j53 hj59
    subst hj59
    refine aZ<|aH<|mV (v:=aE) r<|bx h52 fun x60 y60 h61=>cP (v:=aI) (σ':=[fG,bG,[aS,aI,aI,aI,aI,aI,aI,aI,aI,aO]]) [0] r (mF y60) r r ⟨lr,trivial⟩ (eG oX aD) r r r<|aR r (iS r r)<|aG (fr':=[(2,aU),(3,cK),(64,aB)]) r r<|cG h61 r (fun b62 h62=>?_) (fun b62 h62=>?_)
    ·
     refine aH<|aR r (iD (c0:=bG) (cs:=bG) aM6 r iC)<|bM (v:=.agg bG) (us:=bG) (cs:=bG) (σ':=[fG,bG,[aS,aI,aI,aI,aI,aI,aI,aI,aI,aO]]) r yT r r r r r r r r<|aG (fr':=[(2,aU)]) r r<|bK<|aP ?_
     obtain rfl:=sy h62
     exact bJ (rs':=[.cell 2 28]) r<|dY (us:=bG) (cs:=bG) yT r r r r<|bI<|aN [] r r r (bQ r ⟨r,r,r,r,r,r,r,r,r,⟨_,r⟩,trivial⟩) (eG oX aD)
    ·
     refine bF<|cZ<|aH<|aR r (dL (us:=[aS,aI,aI,aI,aI,aI,aI,aI,aI,aO]) yT r r r r)<|bM (v:=.agg [aS,aI,aI,aI,aI,aI,aI,aI,aI,aO]) (us:=[aS,aI,aI,aI,aI,aI,aI,aI,aI,aO]) (cs:=bG) (σ':=[fG,[aS,aI,aI,aI,aI,aI,aI,aI,aI,aO],[aS,aI,aI,aI,aI,aI,aI,aI,aI,aO]]) r yT r r r r r r r r<|aG (fr':=[(2,aU)]) r r<|bK ?_
     obtain rfl:=sy h62
     exact bJ (rs':=[.cell 2 28]) r<|dY (us:=[aS,aI,aI,aI,aI,aI,aI,aI,aI,aO]) (cs:=[aS,aI,aI,aI,aI,aI,aI,aI,aI,aO]) yT r r r r<|bI<|aN [] r r r (bQ r aBA) (eG oX aD)
noncomputable def rQ  (s4:((List Int) × Int × aV)):Option (dU ((List Int) × Int × aV) ((List Int) × aV)) :=
 cond (decide (s4.2.1<7)) ((jG (-9223372036854775808) 9223372036854775807 s4.2.2).bind fun x6=>(app 8 s4.1 ([x6.1]:List Int)).bind fun x8=>some (dU.next (x8,(IntKind.wrap .i64 (s4.2.1+1)),x6.2))) (some (dU.out (s4.1,s4.2.2)))
noncomputable def aAJ (cV:aV):Option (dH × aV) :=
 (fK (rQ) ((([]:(List Int)),0,cV))).bind fun x1=>((nG x1.1 0).bind fun x12=>(nG x1.1 1).bind fun x14=>(nG x1.1 2).bind fun x16=>(nG x1.1 3).bind fun x18=>(nG x1.1 4).bind fun x20=>(nG x1.1 5).bind fun x22=>(nG x1.1 6).bind fun x24=>(gA 4096 x1.2).bind fun x26=>(gA 4096 x26.2).bind fun x28=>(tW x28.2).bind fun x30=>(qH x30.2).bind fun x32=>(((kN x32.2).bind fun x37=>(gd ((decide (x37=0))==true) (xX (dH.mk x12 x14 x16 x18 x20 x22 x24 x26.1 x28.1 x30.1 x32.1))).bind fun x39=>cond (cond (decide (x37=0)) (!x39) false) ((kO 11 x32.2).bind fun x42=>some x42) (some x32.2)):Option aV).bind fun x34=>((kN x34).bind fun x45=>cond (!decide (x45=0)) (some ((dH.mk 0 0 0 0 0 0 0 ([]:List UInt8) ([]:List UInt8) (aQ.mk 0 0 ([]:List UInt8) ([]:(List aQ)) ([]:(List (List UInt8)))) (dS.mk ([]:List UInt8) 0 0 0 0 0 0 0 0 ([]:(List (List UInt8))))),x34)) (some ((dH.mk x12 x14 x16 x18 x20 x22 x24 x26.1 x28.1 x30.1 x32.1),x34))))
theorem aJM {cV:aV}{z:(dH × aV)} (h:aAJ cV=some z):cQ Tryz.prog 28 [.box 0 0] [AV.cs (dX cV)] (.agg (AV.cs (gT z.1))) [AV.cs (dX z.2)]:=by
 unfold aAJ at h
 refine dF (fn:=Tryz.f28) [0,2,3,4,5,7,56,61] (by kernel_rfl) Tryz.func28 r (by kernel_rfl) (by kernel_rfl)<|aH<|hO (n:=1) (cs:=aJ) (σ':=[fG,aJ]) aRD r r r<|aG (fr':=[(0,aE),(2,aU)]) r r<|aH<|sV (v:=AV.nil) r<|aG (fr':=[(0,aE),(2,aU),(3,AV.nil)]) r r<|aZ<|aH<|sI r<|aG (fr':=[(0,aE),(2,aU),(3,AV.nil),(4,aI)]) r r<|bx h fun x1 y1 h2=>gZ lB (fun j3=>x1=j3) (fun (j3:((List Int) × aV))=>([(0,aE),(2,aU),(3,AV.os 0 1 (aHr .i64) j3.1)]:Fr)) (fun (j3:((List Int) × aV))=>([[.c (.bool j3.2.Made),.c (PV.ls 1 iT j3.2.Rest),ci j3.2.Bad],[ci 0,ci 0,ci 0,ci 0,ci 0,ci 0,ci 0,.c (.str ([]:List UInt8)),.c (.str ([]:List UInt8)),ci 0,ci 0,.c (.str ([]:List UInt8)),AV.nil,AV.nil,.c (.str ([]:List UInt8)),ci 0,ci 0,ci 0,ci 0,ci 0,ci 0,ci 0,ci 0,AV.nil]]:St)) ?_ ?_
 ·
  refine cH<|gV _ (fun (s4:((List Int) × Int × aV))=>([(0,aE),(2,aU),(3,AV.os 0 1 (aHr .i64) s4.1),(4,ci s4.2.1)]:Fr)) (fun (s4:((List Int) × Int × aV))=>([[.c (.bool s4.2.2.Made),.c (PV.ls 1 iT s4.2.2.Rest),ci s4.2.2.Bad],[ci 0,ci 0,ci 0,ci 0,ci 0,ci 0,ci 0,.c (.str ([]:List UInt8)),.c (.str ([]:List UInt8)),ci 0,ci 0,.c (.str ([]:List UInt8)),AV.nil,AV.nil,.c (.str ([]:List UInt8)),ci 0,ci 0,ci 0,ci 0,ci 0,ci 0,ci 0,ci 0,AV.nil]]:St)) y1 (bC [1000000] 2 r r r r ⟨lr,lr,(aAt r),lr,trivial⟩ (bR r (bR r aD))) ?_
  intro s4 st4 hs4 ho4
  unfold rQ at hs4
  refine aZ<|aH<|mI r<|aR r (gI r r)<|aG (fr':=[(0,aE),(2,aU),(3,aO),(4,aI),(7,aB)]) r r<|cG hs4 r (fun b5 h5=>?_) (fun b5 h5=>?_)
  ·
   exact bF<|cZ<|aZ<|cH<|bB<|mV (v:=aO) r<|mV (v:=aE) r<|bx h5 fun x6 y6 h7=>cP (v:=aI) (σ':=[fG,aJ]) [0] r (tD y6) r r kA (eG oX aD) r r r<|uL (row:=(aHr .i64)) (xs:=([x6.1]:List Int)) (rows:=[[_]]) (σ':=[fG,aJ]) [0] aB8 r r r (gB r oB) r r<|bx h7 fun x8 y8 h9=>aCt (row:=(aHr .i64)) aB8 r aRv r (oC r) (fun _=>r) y8<|sV (v:=aO) r<|dM (fr':=[(0,aE),(2,aU),(3,aO),(4,aI),(7,aB)]) r<|cW<|cZ<|bB<|mI r<|aR r (gC r r)<|sI r<|dM (fr':=[(0,aE),(2,aU),(3,aO),(4,aI),(7,aB)]) r<|zO _ (sy h9) (bC [224] 2 r r r r kL4 (bR r (bR r aD)))
  ·
   refine hG<|cY<|cY<|fP ?_
   have h10:=eR h5 ho4
   exact iQ _ (sy h10) (bC [0] 2 r r r r kA (bR r (bR r aD)))
 ·
  intro j3 hj11
  subst hj11
  refine cZ<|aZ<|kV [.q 0,.q 1,.q 2,.q 3,.q 4,.q 5,.q 6,.q 7,.q 8,.q 9,.q 10,.q 11,.q 12,.q 13,.q 14,.q 15,.q 16,.q 17,.q 18,.q 19,.q 20,.q 21,.n 22 [0,1,2,3,4,5,6,7,8,9,10,11,12,13,14,15,16,17,18,19,20,21],.n 23 []] [(some 15,[3]),(some 16,[15]),(some 17,[16]),(some 18,[3]),(some 19,[18]),(some 20,[19]),(some 21,[3]),(some 22,[21]),(some 23,[22]),(some 24,[3]),(some 25,[24]),(some 26,[25]),(some 27,[3]),(some 28,[27]),(some 29,[28]),(some 30,[3]),(some 31,[30]),(some 32,[31]),(some 33,[3]),(some 34,[33]),(some 35,[34]),(some 36,[17,20,23,26,29,32,35]),(some 5,[]),(none,[5,36])] [0,1,3,0,8,24,0,64,192,0,512,1536,0,4096,12288,0,32768,98304,0,262144,786432,2097151,0,8388607] (by kernel_rfl)<|dq r r (bN (v:=aO) r)<|bx h2 fun x12 y12 h13=>dq r r (lF (cs:=[PV.int _ _]) aB8 (oC r) r y12 r)<|dq r r (gP (p:=PV.int _ _) fM r r)<|dq r r (bN (v:=aO) r)<|bx h13 fun x14 y14 h15=>dq r r (lF (cs:=[PV.int _ _]) aB8 (oC r) r y14 r)<|dq r r (gP (p:=PV.int _ _) fM r r)<|dq r r (bN (v:=aO) r)<|bx h15 fun x16 y16 h17=>dq r r (lF (cs:=[PV.int _ _]) aB8 (oC r) r y16 r)<|dq r r (gP (p:=PV.int _ _) fM r r)<|dq r r (bN (v:=aO) r)<|bx h17 fun x18 y18 h19=>dq r r (lF (cs:=[PV.int _ _]) aB8 (oC r) r y18 r)<|dq r r (gP (p:=PV.int _ _) fM r r)<|dq r r (bN (v:=aO) r)<|bx h19 fun x20 y20 h21=>dq r r (lF (cs:=[PV.int _ _]) aB8 (oC r) r y20 r)<|dq r r (gP (p:=PV.int _ _) fM r r)<|dq r r (bN (v:=aO) r)<|bx h21 fun x22 y22 h23=>dq r r (lF (cs:=[PV.int _ _]) aB8 (oC r) r y22 r)<|dq r r (gP (p:=PV.int _ _) fM r r)<|dq r r (bN (v:=aO) r)<|bx h23 fun x24 y24 h25=>dq r r (lF (cs:=[PV.int _ _]) aB8 (oC r) r y24 r)<|dq r r (gP (p:=PV.int _ _) fM r r)<|dq r r (iD (c0:=aJ) (cs:=aJ) aSm r (eC (v:=aI) (us:=[_]) (cs':=u24) r r r r r r (eC (v:=aI) (us:=[_]) (cs':=u24) r r r r r r (eC (v:=aI) (us:=[_]) (cs':=u24) r r r r r r (eC (v:=aI) (us:=[_]) (cs':=u24) r r r r r r (eC (v:=aI) (us:=[_]) (cs':=u24) r r r r r r (eC (v:=aI) (us:=[_]) (cs':=u24) r r r r r r (eC (v:=aI) (us:=[_]) (cs':=u24) r r r r r r iC))))))))<|d_n r ?_ r
  refine hO (n:=2) (cs:=aJ) (σ':=[fG,aJ,aJ]) aRD r r r<|uK<|⟨(pR (v:=aO) r r (kU r (bN (v:=aO) r)) (pR (v:=.eptr [_] _) r r (kU r (lF (cs:=[PV.int _ _]) aB8 (oC r) r y12 r)) (pR (v:=aI) r r (kU r (gP (p:=PV.int _ _) fM r r)) (pR (v:=aO) r r (kU r (bN (v:=aO) r)) (pR (v:=.eptr [_] _) r r (kU r (lF (cs:=[PV.int _ _]) aB8 (oC r) r y14 r)) (pR (v:=aI) r r (kU r (gP (p:=PV.int _ _) fM r r)) (pR (v:=aO) r r (kU r (bN (v:=aO) r)) (pR (v:=.eptr [_] _) r r (kU r (lF (cs:=[PV.int _ _]) aB8 (oC r) r y16 r)) (pR (v:=aI) r r (kU r (gP (p:=PV.int _ _) fM r r)) (pR (v:=aO) r r (kU r (bN (v:=aO) r)) (pR (v:=.eptr [_] _) r r (kU r (lF (cs:=[PV.int _ _]) aB8 (oC r) r y18 r)) (pR (v:=aI) r r (kU r (gP (p:=PV.int _ _) fM r r)) (pR (v:=aO) r r (kU r (bN (v:=aO) r)) (pR (v:=.eptr [_] _) r r (kU r (lF (cs:=[PV.int _ _]) aB8 (oC r) r y20 r)) (pR (v:=aI) r r (kU r (gP (p:=PV.int _ _) fM r r)) (pR (v:=aO) r r (kU r (bN (v:=aO) r)) (pR (v:=.eptr [_] _) r r (kU r (lF (cs:=[PV.int _ _]) aB8 (oC r) r y22 r)) (pR (v:=aI) r r (kU r (gP (p:=PV.int _ _) fM r r)) (pR (v:=aO) r r (kU r (bN (v:=aO) r)) (pR (v:=.eptr [_] _) r r (kU r (lF (cs:=[PV.int _ _]) aB8 (oC r) r y24 r)) (pR (v:=aI) r r (kU r (gP (p:=PV.int _ _) fM r r)) (pR (v:=.agg aJ) r r (kU r (iD (c0:=aJ) (cs:=aJ) aSm r (eC (v:=aI) (us:=[_]) (cs':=u24) r r r r r r (eC (v:=aI) (us:=[_]) (cs':=u24) r r r r r r (eC (v:=aI) (us:=[_]) (cs':=u24) r r r r r r (eC (v:=aI) (us:=[_]) (cs':=u24) r r r r r r (eC (v:=aI) (us:=[_]) (cs':=u24) r r r r r r (eC (v:=aI) (us:=[_]) (cs':=u24) r r r r r r (eC (v:=aI) (us:=[_]) (cs':=u24) r r r r r r iC))))))))) lJ)))))))))))))))))))))),?_⟩
  refine d_n r ?_ r
  refine bM (v:=.agg aJ) (us:=aJ) (cs:=aJ) (σ':=[fG,aJ,aJ]) r aCK r r r r r r r r<|uK<|⟨lJ,?_⟩
  refine aAq (fr':=[(0,aE),(2,aU),(5,cK)]) r r<|aH<|mV (v:=aE) r<|bx h25 fun x26 y26 h27=>cP (v:=aS) (σ':=[fG,aJ,aJ]) [0] r (jH y26) r r jN (eG oX aD) r r r<|aR r (bD yZ r)<|bM (v:=aS) (us:=[aS]) (cs:=aJ) (σ':=[fG,aJ,aJ]) r lP r r r r r r r r<|aG (fr':=[(0,aE),(2,aU),(5,cK)]) r r<|aH<|mV (v:=aE) r<|bx h27 fun x28 y28 h29=>cP (v:=aS) (σ':=[fG,aJ,aJ]) [0] r (jH y28) r r jN (eG oX aD) r r r<|aR r (bD zB r)<|bM (v:=aS) (us:=[aS]) (cs:=aJ) (σ':=[fG,aJ,aJ]) r lP r r r r r r r r<|aG (fr':=[(0,aE),(2,aU),(5,cK)]) r r<|aH<|mV (v:=aE) r<|bx h29 fun x30 y30 h31=>cP (v:=.agg cE) (σ':=[fG,aJ,aJ]) [0] r (aA0 y30) r r ⟨lr,trivial⟩ (eG oX aD) r r r<|aR r (bD aBV r)<|bM (v:=.agg cE) (us:=cE) (cs:=aJ) (σ':=[fG,aJ,lW]) r iO r r r r r r r r<|aG (fr':=[(0,aE),(2,aU),(5,cK)]) r r<|aH<|mV (v:=aE) r<|bx h31 fun x32 y32 h33=>cP (v:=.agg dO) (σ':=[fG,aJ,lW]) [0] r (aBL y32) r r ⟨lr,trivial⟩ (eG oX aD) r r r<|aR r (bD aC1 r)<|bM (v:=.agg dO) (us:=dO) (cs:=lW) (σ':=[fG,aJ,bA]) r yT r r r r r r r r<|aG (fr':=[(0,aE),(2,aU),(5,cK)]) r r<|bx h33 fun x34 y34 h35=>hH (fun j36=>x34=j36) (fun (j36:aV)=>([(0,aE),(2,aU),(5,cK)]:Fr)) (fun (j36:aV)=>([[.c (.bool j36.Made),.c (PV.ls 1 iT j36.Rest),ci j36.Bad],[ci 0,ci 0,ci 0,ci 0,ci 0,ci 0,ci 0,.c (.str ([]:List UInt8)),.c (.str ([]:List UInt8)),ci 0,ci 0,.c (.str ([]:List UInt8)),AV.nil,AV.nil,.c (.str ([]:List UInt8)),ci 0,ci 0,ci 0,ci 0,ci 0,ci 0,ci 0,ci 0,AV.nil],[ci x12,ci x14,ci x16,ci x18,ci x20,ci x22,ci x24,.c (.str x26.1),.c (.str x28.1),ci x30.1.Kind,ci x30.1.Int,.c (.str x30.1.Text),.c (PV.ls 5 bT x30.1.Items),.c (PV.ls 1 fI x30.1.Keys),.c (.str x32.1.Queue),ci x32.1.ToStart,ci x32.1.ToClose,ci x32.1.Total,ci x32.1.Beat,ci x32.1.First,ci x32.1.Coef,ci x32.1.Most,ci x32.1.Attempts,.c (PV.ls 1 fI x32.1.Fatal)]]:St)) ?_ ?_
  ·
   refine aH<|mV (v:=aE) r<|bx y34 fun x37 y37 h38=>cP (v:=aI) (σ':=[fG,aJ,bA]) [0] r (mF y37) r r ⟨lr,trivial⟩ (eG oX aD) r r r<|aR r (bU r r)<|mB r<|og r r r (fun u=>(dL (us:=bA) aCK r r r r))<|bx h38 fun x39 y39 h40=>sX r r (fun u=>bL (v:=aB) r (aFH (cU y39 u)) ⟨(eW (gx r u) (bQ r aGn)),trivial⟩ (fT (by repeat (first | exact eN | refine aY r ?_ | refine aY (pP r) ?_ | refine aY pO ?_))) r r) ?_
   refine og r r r (fun u=>(fE (gx r u)))<|aR r (bV r r r (fun e=>fJ e))<|aG (fr':=[(0,aE),(2,aU),(5,cK),(56,aB)]) r r<|cG h40 r (fun b41 h41=>?_) (fun b41 h41=>?_)
   ·
    exact bB<|mV (v:=aE) r<|bx h41 fun x42 y42 h43=>cP (v:=_) (σ':=[fG,aJ,bA]) [0] r (pQ y42) r r jN (eG oX aD) r r r<|dM (fr':=[(0,aE),(2,aU),(5,cK),(56,aB)]) r<|iQ _ (sy h43) (bC [] 3 r r r r kA (bR r (bR r (bR r aD))))
   ·
    exact bF<|iQ _ (sy h41) (bC [] 3 r r r r kA (bR r (bR r (bR r aD))))
  ·
   intro j36 hj44
   subst hj44
   refine aZ<|aH<|mV (v:=aE) r<|bx h35 fun x45 y45 h46=>cP (v:=aI) (σ':=[fG,aJ,bA]) [0] r (mF y45) r r ⟨lr,trivial⟩ (eG oX aD) r r r<|aR r (iS r r)<|aG (fr':=[(2,aU),(5,cK),(61,aB)]) r r<|cG h46 r (fun b47 h47=>?_) (fun b47 h47=>?_)
   ·
    refine aH<|aR r (iD (c0:=aJ) (cs:=aJ) aSm r iC)<|bM (v:=.agg aJ) (us:=aJ) (cs:=aJ) (σ':=[fG,aJ,bA]) r aCK r r r r r r r r<|aG (fr':=[(2,aU)]) r r<|bK<|aP ?_
    obtain rfl:=sy h47
    exact bJ (rs':=[.cell 2 30]) r<|dY (us:=aJ) (cs:=aJ) aCK r r r r<|bI<|aN [] r r r (bQ r ⟨r,r,r,r,r,r,r,r,r,r,r,r,⟨_,r⟩,⟨_,r⟩,r,r,r,r,r,r,r,r,r,⟨_,r⟩,trivial⟩) (eG oX aD)
   ·
    refine bF<|cZ<|aH<|aR r (dL (us:=bA) aCK r r r r)<|bM (v:=.agg bA) (us:=bA) (cs:=aJ) (σ':=[fG,bA,bA]) r aCK r r r r r r r r<|aG (fr':=[(2,aU)]) r r<|bK ?_
    obtain rfl:=sy h47
    exact bJ (rs':=[.cell 2 30]) r<|dY (us:=bA) (cs:=bA) aCK r r r r<|bI<|aN [] r r r (bQ r aGn) (eG oX aD)
noncomputable def sR (cV:aV):Option Int :=
 (kN cV).bind fun x1=>cond (!decide (x1=0)) (some x1) (cond (decide (0<((cV.Rest).length:Int))) (some 3) (some 0))
theorem aCP {cV:aV}{z:Int} (h:sR cV=some z):cQ Tryz.prog 69 [.box 0 0] [AV.cs (dX cV)] (ci z) [AV.cs (dX cV)]:=by
 unfold sR at h
 refine dF (fn:=Tryz.f69) [0,2,3,7,14] (by kernel_rfl) Tryz.func69 r (by kernel_rfl) (by kernel_rfl)<|aH<|sI r<|aG (fr':=[(0,aE)]) r r<|aZ<|aH<|mV (v:=aE) r<|bx h fun x1 y1 h2=>cP (v:=aI) (σ':=[fG]) [0] r (mF y1) r r ⟨lr,trivial⟩ (eG oX aD) r r r<|sI r<|aG (fr':=[(0,aE),(3,aI)]) r r<|aH<|mI r<|aR r (iS r r)<|aG (fr':=[(0,aE),(3,aI),(7,aB)]) r r<|cG h2 r (fun b3 h3=>?_) (fun b3 h3=>?_)
 ·
  refine aH<|mI r<|sI r<|aG (fr':=[(2,aI)]) r r<|bK<|aP ?_
  obtain rfl:=sy h3
  exact bJ (rs':=[.tmp 2]) r<|bS (v:=aI) r<|bI<|aN [] r r r lr (bR r aD)
 ·
  refine bF<|cZ<|aZ<|aH<|mV (v:=aE) r<|aR r (jM r)<|aR r (bD aCJ r)<|aR r (aK (v:=aL) aFZ r r r)<|aR r (hZ aGM (eK r))<|aR r (qW r r)<|aG (fr':=[(14,aB)]) r r<|cG h3 r (fun b5 h5=>?_) (fun b5 h5=>?_)
  ·
   refine aH<|sI r<|aG (fr':=[(2,aI)]) r r<|bK<|aP ?_
   obtain rfl:=sy h5
   exact bJ (rs':=[.tmp 2]) r<|bS (v:=aI) r<|bI<|aN [] r r r lr (bR r aD)
  ·
   refine bF<|cZ<|aH<|sI r<|aG (fr':=[(2,aI)]) r r<|bK ?_
   obtain rfl:=sy h5
   exact bJ (rs':=[.tmp 2]) r<|bS (v:=aI) r<|bI<|aN [] r r r lr (bR r aD)
