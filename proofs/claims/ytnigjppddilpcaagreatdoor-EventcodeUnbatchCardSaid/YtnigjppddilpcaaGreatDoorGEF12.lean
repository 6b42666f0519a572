import Derived.Test.YtnigjppddilpcaaGreatDoorGETy
import Derived.Test.YtnigjppddilpcaaGreatDoorGEF0
import Derived.Test.YtnigjppddilpcaaGreatDoorGEF4
import Derived.Test.YtnigjppddilpcaaGreatDoorGEF6
import Derived.Test.YtnigjppddilpcaaGreatDoorGEF7
import Derived.Test.YtnigjppddilpcaaGreatDoorGEF10
import Derived.Test.YtnigjppddilpcaaGreatDoorGEF11
namespace Go.Proofs.YtnigjppddilpcaaGreatDoor
open Go Abs
set_option maxRecDepth 100000
set_option linter.unusedVariables false
set_option linter.unusedSimpArgs false
noncomputable def pN (x19:(Int × aV)) (s33:(Int × aV × (List (List UInt8)))):Option (dN (Int × aV × (List (List UInt8))) (aV × (List (List UInt8)))) :=
 ((cond (decide (s33.1<x19.1)) ((kS s33.2.1).bind fun x38=>cond (decide (x38=0)) (some (Fl.go ())) (some (Fl.done (dN.out (s33.2.1,s33.2.2))))) (some (Fl.done (dN.out (s33.2.1,s33.2.2))))):Option (Fl (dN (Int × aV × (List (List UInt8))) (aV × (List (List UInt8)))) Unit)).bind fun x34=>Fl.next x34 (fun j36=>((jW 4096 s33.2.1).bind fun x46=>(app 16 s33.2.2 ([x46.1]:List (List UInt8))).bind fun x48=>some (dN.next ((IntKind.wrap .i64 (s33.1+1)),x46.2,x48))))
noncomputable def sP (dA:aV):Option (bV × aV) :=
 (jW 4096 dA).bind fun x1=>(pV x1.2).bind fun x3=>(pV x3.2).bind fun x5=>(pV x5.2).bind fun x7=>(pV x7.2).bind fun x9=>(pV x9.2).bind fun x11=>(pV x11.2).bind fun x13=>(pV x13.2).bind fun x15=>(pV x15.2).bind fun x17=>(pV x17.2).bind fun x19=>(((tS x19.1 0 64).bind fun x24=>cond (!x24) ((lR 3 x19.2).bind fun x27=>some x27) (some x19.2)):Option aV).bind fun x21=>((fI (pN x19) ((0,x21,([]:(List (List UInt8)))))).bind fun x30=>((((oZ (bV.mk x1.1 x3.1 x5.1 x7.1 x9.1 x11.1 x13.1 x15.1 x17.1 x30.2)).bind fun x54=>cond (!x54) ((lR 3 x30.1).bind fun x57=>some x57) (some x30.1)):Option aV).bind fun x51=>((kS x51).bind fun x60=>cond (!decide (x60=0)) (some ((bV.mk ([]:List UInt8) 0 0 0 0 0 0 0 0 ([]:(List (List UInt8)))),x51)) (some ((bV.mk x1.1 x3.1 x5.1 x7.1 x9.1 x11.1 x13.1 x15.1 x17.1 x30.2),x51)))))
theorem aED {dA:aV}{res:(bV × aV)} (h:sP dA=some res):cX Tryz.prog 77 [.box 0 0] [AV.cs (eB dA)] (.agg (AV.cs (mU res.1))) [AV.cs (eB res.2)]:=by
 unfold sP at h
 refine dR (fn:=Tryz.f77) [0,2,3,4,5,37,47,59,64] (by kernel_rfl) Tryz.func77 r (by kernel_rfl) (by kernel_rfl)<|aJ<|jV (n:=1) (cs:=bB) (σ':=[iG,bB]) aR0 r r r<|aH (fr':=[(0,aD),(2,bD)]) r r<|aJ<|mV (v:=aD) r<|bx h fun x1 hx1 h2=>dP (v:=aS) (σ':=[iG,bB]) [0] r (rK hx1) r r kR (fE tJ aC) r r r<|aU r (rI (c0:=bB) (cs:=bB) aOC r (iQ (v:=aS) (us:=[_]) (cs':=u10) r r r r r r rH))<|jV (n:=2) (cs:=bB) (σ':=[iG,bB,bB]) aR0 r r r<|cN (v:=.agg bB) (us:=bB) (cs:=bB) (σ':=[iG,bB,bB]) r zW r r r r r r r r<|aH (fr':=[(0,aD),(2,bD),(3,dE)]) r r<|aJ<|mV (v:=aD) r<|bx h2 fun x3 hx3 h4=>dP (v:=aI) (σ':=[iG,bB,bB]) [0] r (rS hx3) r r ⟨lr,trivial⟩ (fE tJ aC) r r r<|aU r (bU aFA r)<|cN (v:=aI) (us:=[aI]) (cs:=bB) (σ':=[iG,bB,bB]) r hU r r r r r r r r<|aH (fr':=[(0,aD),(2,bD),(3,dE)]) r r<|aJ<|mV (v:=aD) r<|bx h4 fun x5 hx5 h6=>dP (v:=aI) (σ':=[iG,bB,bB]) [0] r (rS hx5) r r ⟨lr,trivial⟩ (fE tJ aC) r r r<|aU r (bU aFB r)<|cN (v:=aI) (us:=[aI]) (cs:=bB) (σ':=[iG,bB,bB]) r hU r r r r r r r r<|aH (fr':=[(0,aD),(2,bD),(3,dE)]) r r<|aJ<|mV (v:=aD) r<|bx h6 fun x7 hx7 h8=>dP (v:=aI) (σ':=[iG,bB,bB]) [0] r (rS hx7) r r ⟨lr,trivial⟩ (fE tJ aC) r r r<|aU r (bU aFC r)<|cN (v:=aI) (us:=[aI]) (cs:=bB) (σ':=[iG,bB,bB]) r hU r r r r r r r r<|aH (fr':=[(0,aD),(2,bD),(3,dE)]) r r<|aJ<|mV (v:=aD) r<|bx h8 fun x9 hx9 h10=>dP (v:=aI) (σ':=[iG,bB,bB]) [0] r (rS hx9) r r ⟨lr,trivial⟩ (fE tJ aC) r r r<|aU r (bU aFD r)<|cN (v:=aI) (us:=[aI]) (cs:=bB) (σ':=[iG,bB,bB]) r hU r r r r r r r r<|aH (fr':=[(0,aD),(2,bD),(3,dE)]) r r<|aJ<|mV (v:=aD) r<|bx h10 fun x11 hx11 h12=>dP (v:=aI) (σ':=[iG,bB,bB]) [0] r (rS hx11) r r ⟨lr,trivial⟩ (fE tJ aC) r r r<|aU r (bU aFE r)<|cN (v:=aI) (us:=[aI]) (cs:=bB) (σ':=[iG,bB,bB]) r hU r r r r r r r r<|aH (fr':=[(0,aD),(2,bD),(3,dE)]) r r<|aJ<|mV (v:=aD) r<|bx h12 fun x13 hx13 h14=>dP (v:=aI) (σ':=[iG,bB,bB]) [0] r (rS hx13) r r ⟨lr,trivial⟩ (fE tJ aC) r r r<|aU r (bU aFF r)<|cN (v:=aI) (us:=[aI]) (cs:=bB) (σ':=[iG,bB,bB]) r hU r r r r r r r r<|aH (fr':=[(0,aD),(2,bD),(3,dE)]) r r<|aJ<|mV (v:=aD) r<|bx h14 fun x15 hx15 h16=>dP (v:=aI) (σ':=[iG,bB,bB]) [0] r (rS hx15) r r ⟨lr,trivial⟩ (fE tJ aC) r r r<|aU r (bU aFG r)<|cN (v:=aI) (us:=[aI]) (cs:=bB) (σ':=[iG,bB,bB]) r hU r r r r r r r r<|aH (fr':=[(0,aD),(2,bD),(3,dE)]) r r<|aJ<|mV (v:=aD) r<|bx h16 fun x17 hx17 h18=>dP (v:=aI) (σ':=[iG,bB,bB]) [0] r (rS hx17) r r ⟨lr,trivial⟩ (fE tJ aC) r r r<|aU r (bU aFH r)<|cN (v:=aI) (us:=[aI]) (cs:=bB) (σ':=[iG,bB,bB]) r hU r r r r r r r r<|aH (fr':=[(0,aD),(2,bD),(3,dE)]) r r<|aJ<|mV (v:=aD) r<|bx h18 fun x19 hx19 h20=>dP (v:=aI) (σ':=[iG,bB,bB]) [0] r (rS hx19) r r ⟨lr,trivial⟩ (fE tJ aC) r r r<|sI r<|aH (fr':=[(0,aD),(2,bD),(3,dE),(4,aI)]) r r<|bx h20 fun x21 hx21 h22=>kF (fun j23=>x21=j23) (fun (j23:aV)=>([(0,aD),(2,bD),(3,dE),(4,ci x19.1)]:Fr)) (fun (j23:aV)=>([[.c (.bool j23.Made),.c (PV.ls 1 gW j23.Rest),ci j23.Bad],[.c (.str ([]:List UInt8)),ci 0,ci 0,ci 0,ci 0,ci 0,ci 0,ci 0,ci 0,AV.nil],[.c (.str x1.1),ci x3.1,ci x5.1,ci x7.1,ci x9.1,ci x11.1,ci x13.1,ci x15.1,ci x17.1,AV.nil]]:St)) ?_ ?_
 ·
  refine aJ<|mI r<|bx hx21 fun x24 hx24 h25=>oN (cA (v:=aB) r (uC hx24) nW r r r)<|aU r (gX r)<|aH (fr':=[(0,aD),(2,bD),(3,dE),(4,aI),(37,aB)]) r r<|cU h25 r (fun hb26 h26=>?_) (fun hb26 h26=>?_)
  ·
   exact bA<|mV (v:=aD) r<|bx h26 fun x27 hx27 h28=>dP (v:=_) (σ':=[iG,bB,bB]) [0] r (uO hx27) r r kR (fE tJ aC) r r r<|dQ (fr':=[(0,aD),(2,bD),(3,dE),(4,aI),(37,aB)]) r<|lB _ (sy h28) (bJ [] 3 r r r r kL4 (cO r (cO r (cO r aC))))
  ·
   exact bI<|lB _ (sy h26) (bJ [] 3 r r r r kL4 (cO r (cO r (cO r aC))))
 ·
  intro j23 hj29
  subst hj29
  refine aX<|aJ<|sI r<|aH (fr':=[(0,aD),(2,bD),(3,dE),(4,aI),(5,aI)]) r r<|bx h22 fun x30 hx30 h31=>hF lP (fun j32=>x30=j32) (fun (j32:(aV × (List (List UInt8))))=>([(0,aD),(2,bD),(3,dE)]:Fr)) (fun (j32:(aV × (List (List UInt8))))=>([[.c (.bool j32.1.Made),.c (PV.ls 1 gW j32.1.Rest),ci j32.1.Bad],[.c (.str ([]:List UInt8)),ci 0,ci 0,ci 0,ci 0,ci 0,ci 0,ci 0,ci 0,AV.nil],[.c (.str x1.1),ci x3.1,ci x5.1,ci x7.1,ci x9.1,ci x11.1,ci x13.1,ci x15.1,ci x17.1,AV.os 0 1 iF j32.2]]:St)) ?_ ?_
  ·
   refine cP<|gY _ (fun (s33:(Int × aV × (List (List UInt8))))=>([(0,aD),(2,bD),(3,dE),(4,ci x19.1),(5,ci s33.1)]:Fr)) (fun (s33:(Int × aV × (List (List UInt8))))=>([[.c (.bool s33.2.1.Made),.c (PV.ls 1 gW s33.2.1.Rest),ci s33.2.1.Bad],[.c (.str ([]:List UInt8)),ci 0,ci 0,ci 0,ci 0,ci 0,ci 0,ci 0,ci 0,AV.nil],[.c (.str x1.1),ci x3.1,ci x5.1,ci x7.1,ci x9.1,ci x11.1,ci x13.1,ci x15.1,ci x17.1,AV.os 0 1 iF s33.2.2]]:St)) hx30 (bJ [1000000] 3 r r r r kL5 (cO r (cO r (qU ⟨lr,lr,lr,lr,lr,lr,lr,lr,lr,(wK r),trivial⟩ aC)))) ?_
   intro s33 st33 hs33 ho33
   unfold pN at hs33
   obtain ⟨x34,hx34,h35⟩:=eF hs33
   refine kF (fun j36=>x34=Fl.go j36) (fun (j36:Unit)=>([(0,aD),(2,bD),(3,dE),(4,ci x19.1),(5,ci s33.1)]:Fr)) (fun (j36:Unit)=>([[.c (.bool s33.2.1.Made),.c (PV.ls 1 gW s33.2.1.Rest),ci s33.2.1.Bad],[.c (.str ([]:List UInt8)),ci 0,ci 0,ci 0,ci 0,ci 0,ci 0,ci 0,ci 0,AV.nil],[.c (.str x1.1),ci x3.1,ci x5.1,ci x7.1,ci x9.1,ci x11.1,ci x13.1,ci x15.1,ci x17.1,AV.os 0 1 iF s33.2.2]]:St)) ?_ ?_
   ·
    refine aJ<|mI r<|mI r<|aU r (fY r r)<|mB r<|aOo hx34 (fun hb37 h37=>?_) (fun hb37 h37=>?_)
    ·
     refine nK r r hb37<|mV (v:=aD) r<|nK r r hb37<|bx h37 fun x38 hx38 h39=>dP (v:=aI) (σ':=[iG,bB,[aS,aI,aI,aI,aI,aI,aI,aI,aI,aO]]) [0] r (nG hx38) r r ⟨lr,trivial⟩ (fE tJ aC) r r r<|nK r r hb37<|aU r (cQ r r)<|aU r (aB1 r hb37 r)<|aH (fr':=[(0,aD),(2,bD),(3,dE),(4,aI),(5,aI),(47,aB)]) r r<|cU h39 r (fun hb40 h40=>?_) (fun hb40 h40=>?_)
     ·
      exact bI<|lB _ (sy h40) (bJ [0] 3 r r r r kL5 (cO r (cO r (cO r aC))))
     ·
      refine iE<|cZ<|cZ<|fT ?_
      have h41:=gI h40 h35
      have h42:=eS h41 ho33
      exact lB _ (sy h42) (bJ [0] 3 r r r r nW (cO r (cO r (cO r aC))))
    ·
     refine aAk r r hb37<|aAk r r hb37<|aAk r r hb37<|aU r (sN r hb37 r)<|aH (fr':=[(0,aD),(2,bD),(3,dE),(4,aI),(5,aI),(47,aB)]) r r<|aAI r<|iE<|cZ<|cZ<|fT ?_
     have h43:=gI h37 h35
     have h44:=eS h43 ho33
     exact lB _ (sy h44) (bJ [0] 3 r r r r nW (cO r (cO r (cO r aC))))
   ·
    intro j36 hj45
    have h45:=nY hj45 h35
    refine aX<|cP<|lJ [.q 0,.q 1,.q 2,.n 3 [0,1],.n 4 [0,1],.n 5 [],.q 6,.n 7 []] [(some 50,[3]),(some 51,[50]),(some 52,[0]),(some 53,[52]),(some 54,[53]),(some 55,[51,54]),(some 56,[3]),(none,[56,55])] [0,1,0,4,12,31,63,127] (by kernel_rfl)<|dq r r (bU tC r)<|dq r r (aR (v:=aO) qP r r r)<|dq r r (bK (v:=aD) r)<|d_n r ?_ r
    obtain ⟨x46,hx46,h47⟩:=eF h45
    refine dP (v:=aS) (σ':=[iG,bB,[aS,aI,aI,aI,aI,aI,aI,aI,aI,aO]]) [0] r (rK hx46) r r kR (fE tJ aC) r r r<|aAL<|⟨(wB (v:=aOX) r r (mG r (bU tC r)) (wB (v:=aO) r r (mG r (aR (v:=aO) qP r r r)) pI)),?_⟩
    refine d_n r ?_ r
    refine uU (row:=iF) (xs:=([x46.1]:List (List UInt8))) (rows:=[[_]]) (σ':=[iG,bB,[aS,aI,aI,aI,aI,aI,aI,aI,aI,aO]]) [0] aAW r r r (fR r oL) r r<|aAL<|⟨(wB (v:=aOX) r r (mG r (bU tC r)) (wB (v:=aO) r r (mG r (aR (v:=aO) qP r r r)) pI)),?_⟩
    refine d_n r ?_ r
    obtain ⟨x48,hx48,h49⟩:=eF h47
    refine aCn (row:=iF) aAW r yV r (nB r) (fun _=>r) hx48<|aAL<|⟨pI,?_⟩
    refine dq r r (bU tC r)<|d_n r ?_ r
    refine cN (v:=aO) (us:=[aO]) (cs:=dO) (σ':=[iG,bB,[aS,aI,aI,aI,aI,aI,aI,aI,aI,aO]]) r qP r r r r r r r r<|aAL<|⟨pI,?_⟩
    exact aOZ (fr':=[(0,aD),(2,bD),(3,dE),(4,aI),(5,aI)]) r<|dI<|dB<|bA<|mI r<|aU r (fX r r)<|sI r<|dQ (fr':=[(0,aD),(2,bD),(3,dE),(4,aI),(5,aI)]) r<|zY _ (sy h49) (bJ [880] 3 r r r r kL5 (cO r (cO r (cO r aC))))
  ·
   intro j32 hj50
   subst hj50
   refine dB<|bx h31 fun x51 hx51 h52=>kF (fun j53=>x51=j53) (fun (j53:aV)=>([(0,aD),(2,bD),(3,dE)]:Fr)) (fun (j53:aV)=>([[.c (.bool j53.Made),.c (PV.ls 1 gW j53.Rest),ci j53.Bad],[.c (.str ([]:List UInt8)),ci 0,ci 0,ci 0,ci 0,ci 0,ci 0,ci 0,ci 0,AV.nil],[.c (.str x1.1),ci x3.1,ci x5.1,ci x7.1,ci x9.1,ci x11.1,ci x13.1,ci x15.1,ci x17.1,AV.os 0 1 iF x30.2]]:St)) ?_ ?_
   ·
    refine aJ<|aU r (eL (us:=[aS,aI,aI,aI,aI,aI,aI,aI,aI,aO]) zW r r r r)<|bx hx51 fun x54 hx54 h55=>oN (cA (v:=aB) r (aBz hx54) ⟨(cM r aDf),trivial⟩ r r r)<|aU r (gX r)<|aH (fr':=[(0,aD),(2,bD),(3,dE),(59,aB)]) r r<|cU h55 r (fun hb56 h56=>?_) (fun hb56 h56=>?_)
    ·
     exact bA<|mV (v:=aD) r<|bx h56 fun x57 hx57 h58=>dP (v:=_) (σ':=[iG,bB,[aS,aI,aI,aI,aI,aI,aI,aI,aI,aO]]) [0] r (uO hx57) r r kR (fE tJ aC) r r r<|dQ (fr':=[(0,aD),(2,bD),(3,dE),(59,aB)]) r<|lB _ (sy h58) (bJ [0] 3 r r r r nW (cO r (cO r (cO r aC))))
    ·
     exact bI<|lB _ (sy h56) (bJ [0] 3 r r r r nW (cO r (cO r (cO r aC))))
   ·
    intro j53 hj59
    subst hj59
    refine aX<|aJ<|mV (v:=aD) r<|bx h52 fun x60 hx60 h61=>dP (v:=aI) (σ':=[iG,bB,[aS,aI,aI,aI,aI,aI,aI,aI,aI,aO]]) [0] r (nG hx60) r r ⟨lr,trivial⟩ (fE tJ aC) r r r<|aU r (iZ r r)<|aH (fr':=[(2,bD),(3,dE),(64,aB)]) r r<|cU h61 r (fun hb62 h62=>?_) (fun hb62 h62=>?_)
    ·
     refine aJ<|aU r (rI (c0:=bB) (cs:=bB) aOC r rH)<|cN (v:=.agg bB) (us:=bB) (cs:=bB) (σ':=[iG,bB,[aS,aI,aI,aI,aI,aI,aI,aI,aI,aO]]) r zW r r r r r r r r<|aH (fr':=[(2,bD)]) r r<|bO<|aN ?_
     obtain rfl:=sy h62
     exact bN (rs':=[.cell 2 28]) r<|eX (us:=bB) (cs:=bB) zW r r r r<|bM<|aP [] r r r (cM r ⟨r,r,r,r,r,r,r,r,r,⟨_,r⟩,trivial⟩) (fE tJ aC)
    ·
     refine bI<|dB<|aJ<|aU r (eL (us:=[aS,aI,aI,aI,aI,aI,aI,aI,aI,aO]) zW r r r r)<|cN (v:=.agg [aS,aI,aI,aI,aI,aI,aI,aI,aI,aO]) (us:=[aS,aI,aI,aI,aI,aI,aI,aI,aI,aO]) (cs:=bB) (σ':=[iG,[aS,aI,aI,aI,aI,aI,aI,aI,aI,aO],[aS,aI,aI,aI,aI,aI,aI,aI,aI,aO]]) r zW r r r r r r r r<|aH (fr':=[(2,bD)]) r r<|bO ?_
     obtain rfl:=sy h62
     exact bN (rs':=[.cell 2 28]) r<|eX (us:=[aS,aI,aI,aI,aI,aI,aI,aI,aI,aO]) (cs:=[aS,aI,aI,aI,aI,aI,aI,aI,aI,aO]) zW r r r r<|bM<|aP [] r r r (cM r aDf) (fE tJ aC)
noncomputable def rC  (s4:((List Int) × Int × aV)):Option (dN ((List Int) × Int × aV) ((List Int) × aV)) :=
 cond (decide (s4.2.1<7)) ((iL (-9223372036854775808) 9223372036854775807 s4.2.2).bind fun x6=>(app 8 s4.1 ([x6.1]:List Int)).bind fun x8=>some (dN.next (x8,(IntKind.wrap .i64 (s4.2.1+1)),x6.2))) (some (dN.out (s4.1,s4.2.2)))
noncomputable def yA (dA:aV):Option (bW × aV) :=
 (fI (rC) ((([]:(List Int)),0,dA))).bind fun x1=>((lO x1.1 0).bind fun x12=>(lO x1.1 1).bind fun x14=>(lO x1.1 2).bind fun x16=>(lO x1.1 3).bind fun x18=>(lO x1.1 4).bind fun x20=>(lO x1.1 5).bind fun x22=>(lO x1.1 6).bind fun x24=>(jW 4096 x1.2).bind fun x26=>(jW 4096 x26.2).bind fun x28=>(aAn x28.2).bind fun x30=>(sP x30.2).bind fun x32=>(((kS x32.2).bind fun x37=>(gd ((decide (x37=0))==true) (zQ (bW.mk x12 x14 x16 x18 x20 x22 x24 x26.1 x28.1 x30.1 x32.1))).bind fun x39=>cond (cond (decide (x37=0)) (!x39) false) ((lR 11 x32.2).bind fun x42=>some x42) (some x32.2)):Option aV).bind fun x34=>((kS x34).bind fun x45=>cond (!decide (x45=0)) (some ((bW.mk 0 0 0 0 0 0 0 ([]:List UInt8) ([]:List UInt8) (aF.mk 0 0 ([]:List UInt8) ([]:(List aF)) ([]:(List (List UInt8)))) (bV.mk ([]:List UInt8) 0 0 0 0 0 0 0 0 ([]:(List (List UInt8))))),x34)) (some ((bW.mk x12 x14 x16 x18 x20 x22 x24 x26.1 x28.1 x30.1 x32.1),x34))))
theorem aEE {dA:aV}{res:(bW × aV)} (h:yA dA=some res):cX Tryz.prog 28 [.box 0 0] [AV.cs (eB dA)] (.agg (AV.cs (eM res.1))) [AV.cs (eB res.2)]:=by
 unfold yA at h
 refine dR (fn:=Tryz.f28) [0,2,3,4,5,7,56,61] (by kernel_rfl) Tryz.func28 r (by kernel_rfl) (by kernel_rfl)<|aJ<|jV (n:=1) (cs:=aE) (σ':=[iG,aE]) aLE r r r<|aH (fr':=[(0,aD),(2,bD)]) r r<|aJ<|sV (v:=AV.nil) r<|aH (fr':=[(0,aD),(2,bD),(3,AV.nil)]) r r<|aX<|aJ<|sI r<|aH (fr':=[(0,aD),(2,bD),(3,AV.nil),(4,aI)]) r r<|bx h fun x1 hx1 h2=>hF lP (fun j3=>x1=j3) (fun (j3:((List Int) × aV))=>([(0,aD),(2,bD),(3,AV.os 0 1 (aG4 .i64) j3.1)]:Fr)) (fun (j3:((List Int) × aV))=>([[.c (.bool j3.2.Made),.c (PV.ls 1 gW j3.2.Rest),ci j3.2.Bad],[ci 0,ci 0,ci 0,ci 0,ci 0,ci 0,ci 0,.c (.str ([]:List UInt8)),.c (.str ([]:List UInt8)),ci 0,ci 0,.c (.str ([]:List UInt8)),AV.nil,AV.nil,.c (.str ([]:List UInt8)),ci 0,ci 0,ci 0,ci 0,ci 0,ci 0,ci 0,ci 0,AV.nil]]:St)) ?_ ?_
 ·
  refine cP<|gY _ (fun (s4:((List Int) × Int × aV))=>([(0,aD),(2,bD),(3,AV.os 0 1 (aG4 .i64) s4.1),(4,ci s4.2.1)]:Fr)) (fun (s4:((List Int) × Int × aV))=>([[.c (.bool s4.2.2.Made),.c (PV.ls 1 gW s4.2.2.Rest),ci s4.2.2.Bad],[ci 0,ci 0,ci 0,ci 0,ci 0,ci 0,ci 0,.c (.str ([]:List UInt8)),.c (.str ([]:List UInt8)),ci 0,ci 0,.c (.str ([]:List UInt8)),AV.nil,AV.nil,.c (.str ([]:List UInt8)),ci 0,ci 0,ci 0,ci 0,ci 0,ci 0,ci 0,ci 0,AV.nil]]:St)) hx1 (bJ [1000000] 2 r r r r ⟨lr,lr,(wK r),lr,trivial⟩ (cO r (cO r aC))) ?_
  intro s4 st4 hs4 ho4
  unfold rC at hs4
  refine aX<|aJ<|mI r<|aU r (fY r r)<|aH (fr':=[(0,aD),(2,bD),(3,aO),(4,aI),(7,aB)]) r r<|cU hs4 r (fun hb5 h5=>?_) (fun hb5 h5=>?_)
  ·
   exact bI<|dB<|aX<|cP<|bA<|mV (v:=aO) r<|mV (v:=aD) r<|bx h5 fun x6 hx6 h7=>dP (v:=aI) (σ':=[iG,aE]) [0] r (sR hx6) r r nW (fE tJ aC) r r r<|uU (row:=(aG4 .i64)) (xs:=([x6.1]:List Int)) (rows:=[[_]]) (σ':=[iG,aE]) [0] aBH r r r (fR r oL) r r<|bx h7 fun x8 hx8 h9=>aCn (row:=(aG4 .i64)) aBH r aRV r (nB r) (fun _=>r) hx8<|sV (v:=aO) r<|dQ (fr':=[(0,aD),(2,bD),(3,aO),(4,aI),(7,aB)]) r<|dI<|dB<|bA<|mI r<|aU r (fX r r)<|sI r<|dQ (fr':=[(0,aD),(2,bD),(3,aO),(4,aI),(7,aB)]) r<|zY _ (sy h9) (bJ [224] 2 r r r r kL4 (cO r (cO r aC)))
  ·
   refine iE<|cZ<|cZ<|fT ?_
   have h10:=eS h5 ho4
   exact lB _ (sy h10) (bJ [0] 2 r r r r nW (cO r (cO r aC)))
 ·
  intro j3 hj11
  subst hj11
  refine dB<|aX<|lJ [.q 0,.q 1,.q 2,.q 3,.q 4,.q 5,.q 6,.q 7,.q 8,.q 9,.q 10,.q 11,.q 12,.q 13,.q 14,.q 15,.q 16,.q 17,.q 18,.q 19,.q 20,.q 21,.n 22 [0,1,2,3,4,5,6,7,8,9,10,11,12,13,14,15,16,17,18,19,20,21],.n 23 []] [(some 15,[3]),(some 16,[15]),(some 17,[16]),(some 18,[3]),(some 19,[18]),(some 20,[19]),(some 21,[3]),(some 22,[21]),(some 23,[22]),(some 24,[3]),(some 25,[24]),(some 26,[25]),(some 27,[3]),(some 28,[27]),(some 29,[28]),(some 30,[3]),(some 31,[30]),(some 32,[31]),(some 33,[3]),(some 34,[33]),(some 35,[34]),(some 36,[17,20,23,26,29,32,35]),(some 5,[]),(none,[5,36])] [0,1,3,0,8,24,0,64,192,0,512,1536,0,4096,12288,0,32768,98304,0,262144,786432,2097151,0,8388607] (by kernel_rfl)<|dq r r (bK (v:=aO) r)<|bx h2 fun x12 hx12 h13=>dq r r (lC (cs:=[PV.int _ _]) aBH (nB r) r hx12 r)<|dq r r (fO (p:=PV.int _ _) hU r r)<|dq r r (bK (v:=aO) r)<|bx h13 fun x14 hx14 h15=>dq r r (lC (cs:=[PV.int _ _]) aBH (nB r) r hx14 r)<|dq r r (fO (p:=PV.int _ _) hU r r)<|dq r r (bK (v:=aO) r)<|bx h15 fun x16 hx16 h17=>dq r r (lC (cs:=[PV.int _ _]) aBH (nB r) r hx16 r)<|dq r r (fO (p:=PV.int _ _) hU r r)<|dq r r (bK (v:=aO) r)<|bx h17 fun x18 hx18 h19=>dq r r (lC (cs:=[PV.int _ _]) aBH (nB r) r hx18 r)<|dq r r (fO (p:=PV.int _ _) hU r r)<|dq r r (bK (v:=aO) r)<|bx h19 fun x20 hx20 h21=>dq r r (lC (cs:=[PV.int _ _]) aBH (nB r) r hx20 r)<|dq r r (fO (p:=PV.int _ _) hU r r)<|dq r r (bK (v:=aO) r)<|bx h21 fun x22 hx22 h23=>dq r r (lC (cs:=[PV.int _ _]) aBH (nB r) r hx22 r)<|dq r r (fO (p:=PV.int _ _) hU r r)<|dq r r (bK (v:=aO) r)<|bx h23 fun x24 hx24 h25=>dq r r (lC (cs:=[PV.int _ _]) aBH (nB r) r hx24 r)<|dq r r (fO (p:=PV.int _ _) hU r r)<|dq r r (rI (c0:=aE) (cs:=aE) aQx r (iQ (v:=aI) (us:=[_]) (cs':=u24) r r r r r r (iQ (v:=aI) (us:=[_]) (cs':=u24) r r r r r r (iQ (v:=aI) (us:=[_]) (cs':=u24) r r r r r r (iQ (v:=aI) (us:=[_]) (cs':=u24) r r r r r r (iQ (v:=aI) (us:=[_]) (cs':=u24) r r r r r r (iQ (v:=aI) (us:=[_]) (cs':=u24) r r r r r r (iQ (v:=aI) (us:=[_]) (cs':=u24) r r r r r r rH))))))))<|d_n r ?_ r
  refine jV (n:=2) (cs:=aE) (σ':=[iG,aE,aE]) aLE r r r<|aAL<|⟨(wB (v:=aO) r r (mG r (bK (v:=aO) r)) (wB (v:=.eptr [_] _) r r (mG r (lC (cs:=[PV.int _ _]) aBH (nB r) r hx12 r)) (wB (v:=aI) r r (mG r (fO (p:=PV.int _ _) hU r r)) (wB (v:=aO) r r (mG r (bK (v:=aO) r)) (wB (v:=.eptr [_] _) r r (mG r (lC (cs:=[PV.int _ _]) aBH (nB r) r hx14 r)) (wB (v:=aI) r r (mG r (fO (p:=PV.int _ _) hU r r)) (wB (v:=aO) r r (mG r (bK (v:=aO) r)) (wB (v:=.eptr [_] _) r r (mG r (lC (cs:=[PV.int _ _]) aBH (nB r) r hx16 r)) (wB (v:=aI) r r (mG r (fO (p:=PV.int _ _) hU r r)) (wB (v:=aO) r r (mG r (bK (v:=aO) r)) (wB (v:=.eptr [_] _) r r (mG r (lC (cs:=[PV.int _ _]) aBH (nB r) r hx18 r)) (wB (v:=aI) r r (mG r (fO (p:=PV.int _ _) hU r r)) (wB (v:=aO) r r (mG r (bK (v:=aO) r)) (wB (v:=.eptr [_] _) r r (mG r (lC (cs:=[PV.int _ _]) aBH (nB r) r hx20 r)) (wB (v:=aI) r r (mG r (fO (p:=PV.int _ _) hU r r)) (wB (v:=aO) r r (mG r (bK (v:=aO) r)) (wB (v:=.eptr [_] _) r r (mG r (lC (cs:=[PV.int _ _]) aBH (nB r) r hx22 r)) (wB (v:=aI) r r (mG r (fO (p:=PV.int _ _) hU r r)) (wB (v:=aO) r r (mG r (bK (v:=aO) r)) (wB (v:=.eptr [_] _) r r (mG r (lC (cs:=[PV.int _ _]) aBH (nB r) r hx24 r)) (wB (v:=aI) r r (mG r (fO (p:=PV.int _ _) hU r r)) (wB (v:=.agg aE) r r (mG r (rI (c0:=aE) (cs:=aE) aQx r (iQ (v:=aI) (us:=[_]) (cs':=u24) r r r r r r (iQ (v:=aI) (us:=[_]) (cs':=u24) r r r r r r (iQ (v:=aI) (us:=[_]) (cs':=u24) r r r r r r (iQ (v:=aI) (us:=[_]) (cs':=u24) r r r r r r (iQ (v:=aI) (us:=[_]) (cs':=u24) r r r r r r (iQ (v:=aI) (us:=[_]) (cs':=u24) r r r r r r (iQ (v:=aI) (us:=[_]) (cs':=u24) r r r r r r rH))))))))) pI)))))))))))))))))))))),?_⟩
  refine d_n r ?_ r
  refine cN (v:=.agg aE) (us:=aE) (cs:=aE) (σ':=[iG,aE,aE]) r zJ r r r r r r r r<|aAL<|⟨pI,?_⟩
  refine aAe (fr':=[(0,aD),(2,bD),(5,dE)]) r r<|aJ<|mV (v:=aD) r<|bx h25 fun x26 hx26 h27=>dP (v:=aS) (σ':=[iG,aE,aE]) [0] r (rK hx26) r r kR (fE tJ aC) r r r<|aU r (bU xP r)<|cN (v:=aS) (us:=[aS]) (cs:=aE) (σ':=[iG,aE,aE]) r rZ r r r r r r r r<|aH (fr':=[(0,aD),(2,bD),(5,dE)]) r r<|aJ<|mV (v:=aD) r<|bx h27 fun x28 hx28 h29=>dP (v:=aS) (σ':=[iG,aE,aE]) [0] r (rK hx28) r r kR (fE tJ aC) r r r<|aU r (bU xQ r)<|cN (v:=aS) (us:=[aS]) (cs:=aE) (σ':=[iG,aE,aE]) r rZ r r r r r r r r<|aH (fr':=[(0,aD),(2,bD),(5,dE)]) r r<|aJ<|mV (v:=aD) r<|bx h29 fun x30 hx30 h31=>dP (v:=.agg cJ) (σ':=[iG,aE,aE]) [0] r (aJw hx30) r r ⟨lr,trivial⟩ (fE tJ aC) r r r<|aU r (bU aAV r)<|cN (v:=.agg cJ) (us:=cJ) (cs:=aE) (σ':=[iG,aE,lZ]) r jC r r r r r r r r<|aH (fr':=[(0,aD),(2,bD),(5,dE)]) r r<|aJ<|mV (v:=aD) r<|bx h31 fun x32 hx32 h33=>dP (v:=.agg dO) (σ':=[iG,aE,lZ]) [0] r (aED hx32) r r ⟨lr,trivial⟩ (fE tJ aC) r r r<|aU r (bU aBG r)<|cN (v:=.agg dO) (us:=dO) (cs:=lZ) (σ':=[iG,aE,aG]) r zW r r r r r r r r<|aH (fr':=[(0,aD),(2,bD),(5,dE)]) r r<|bx h33 fun x34 hx34 h35=>kF (fun j36=>x34=j36) (fun (j36:aV)=>([(0,aD),(2,bD),(5,dE)]:Fr)) (fun (j36:aV)=>([[.c (.bool j36.Made),.c (PV.ls 1 gW j36.Rest),ci j36.Bad],[ci 0,ci 0,ci 0,ci 0,ci 0,ci 0,ci 0,.c (.str ([]:List UInt8)),.c (.str ([]:List UInt8)),ci 0,ci 0,.c (.str ([]:List UInt8)),AV.nil,AV.nil,.c (.str ([]:List UInt8)),ci 0,ci 0,ci 0,ci 0,ci 0,ci 0,ci 0,ci 0,AV.nil],[ci x12,ci x14,ci x16,ci x18,ci x20,ci x22,ci x24,.c (.str x26.1),.c (.str x28.1),ci x30.1.Kind,ci x30.1.Int,.c (.str x30.1.Text),.c (PV.ls 5 cF x30.1.Items),.c (PV.ls 1 iF x30.1.Keys),.c (.str x32.1.Queue),ci x32.1.ToStart,ci x32.1.ToClose,ci x32.1.Total,ci x32.1.Beat,ci x32.1.First,ci x32.1.Coef,ci x32.1.Most,ci x32.1.Attempts,.c (PV.ls 1 iF x32.1.Fatal)]]:St)) ?_ ?_
  ·
   refine aJ<|mV (v:=aD) r<|bx hx34 fun x37 hx37 h38=>dP (v:=aI) (σ':=[iG,aE,aG]) [0] r (nG hx37) r r ⟨lr,trivial⟩ (fE tJ aC) r r r<|aU r (cQ r r)<|mB r<|og r r r (fun hc=>(eL (us:=aG) zJ r r r r))<|bx h38 fun x39 hx39 h40=>zG r r (fun hc=>cA (v:=aB) r (aKh (dM hx39 hc)) ⟨(iA (gx r hc) (cM r aEg)),trivial⟩ (iO (by repeat (first | exact fU | refine bG r ?_ | refine bG (vD r) ?_ | refine bG vC ?_))) r r) ?_
   refine og r r r (fun hc=>(gX (gx r hc)))<|aU r (cS r r r (fun e=>hH e))<|aH (fr':=[(0,aD),(2,bD),(5,dE),(56,aB)]) r r<|cU h40 r (fun hb41 h41=>?_) (fun hb41 h41=>?_)
   ·
    exact bA<|mV (v:=aD) r<|bx h41 fun x42 hx42 h43=>dP (v:=_) (σ':=[iG,aE,aG]) [0] r (uO hx42) r r kR (fE tJ aC) r r r<|dQ (fr':=[(0,aD),(2,bD),(5,dE),(56,aB)]) r<|lB _ (sy h43) (bJ [] 3 r r r r nW (cO r (cO r (cO r aC))))
   ·
    exact bI<|lB _ (sy h41) (bJ [] 3 r r r r nW (cO r (cO r (cO r aC))))
  ·
   intro j36 hj44
   subst hj44
   refine aX<|aJ<|mV (v:=aD) r<|bx h35 fun x45 hx45 h46=>dP (v:=aI) (σ':=[iG,aE,aG]) [0] r (nG hx45) r r ⟨lr,trivial⟩ (fE tJ aC) r r r<|aU r (iZ r r)<|aH (fr':=[(2,bD),(5,dE),(61,aB)]) r r<|cU h46 r (fun hb47 h47=>?_) (fun hb47 h47=>?_)
   ·
    refine aJ<|aU r (rI (c0:=aE) (cs:=aE) aQx r rH)<|cN (v:=.agg aE) (us:=aE) (cs:=aE) (σ':=[iG,aE,aG]) r zJ r r r r r r r r<|aH (fr':=[(2,bD)]) r r<|bO<|aN ?_
    obtain rfl:=sy h47
    exact bN (rs':=[.cell 2 30]) r<|eX (us:=aE) (cs:=aE) zJ r r r r<|bM<|aP [] r r r (cM r ⟨r,r,r,r,r,r,r,r,r,r,r,r,⟨_,r⟩,⟨_,r⟩,r,r,r,r,r,r,r,r,r,⟨_,r⟩,trivial⟩) (fE tJ aC)
   ·
    refine bI<|dB<|aJ<|aU r (eL (us:=aG) zJ r r r r)<|cN (v:=.agg aG) (us:=aG) (cs:=aE) (σ':=[iG,aG,aG]) r zJ r r r r r r r r<|aH (fr':=[(2,bD)]) r r<|bO ?_
    obtain rfl:=sy h47
    exact bN (rs':=[.cell 2 30]) r<|eX (us:=aG) (cs:=aG) zJ r r r r<|bM<|aP [] r r r (cM r aEg) (fE tJ aC)
noncomputable def sE (dA:aV):Option Int :=
 (kS dA).bind fun x1=>cond (!decide (x1=0)) (some x1) (cond (decide (0<((dA.Rest).length:Int))) (some 3) (some 0))
theorem aFN {dA:aV}{res:Int} (h:sE dA=some res):cX Tryz.prog 69 [.box 0 0] [AV.cs (eB dA)] (ci res) [AV.cs (eB dA)]:=by
 unfold sE at h
 refine dR (fn:=Tryz.f69) [0,2,3,7,14] (by kernel_rfl) Tryz.func69 r (by kernel_rfl) (by kernel_rfl)<|aJ<|sI r<|aH (fr':=[(0,aD)]) r r<|aX<|aJ<|mV (v:=aD) r<|bx h fun x1 hx1 h2=>dP (v:=aI) (σ':=[iG]) [0] r (nG hx1) r r ⟨lr,trivial⟩ (fE tJ aC) r r r<|sI r<|aH (fr':=[(0,aD),(3,aI)]) r r<|aJ<|mI r<|aU r (iZ r r)<|aH (fr':=[(0,aD),(3,aI),(7,aB)]) r r<|cU h2 r (fun hb3 h3=>?_) (fun hb3 h3=>?_)
 ·
  refine aJ<|mI r<|sI r<|aH (fr':=[(2,aI)]) r r<|bO<|aN ?_
  obtain rfl:=sy h3
  exact bN (rs':=[.tmp 2]) r<|cE (v:=aI) r<|bM<|aP [] r r r lr (cO r aC)
 ·
  refine bI<|dB<|aX<|aJ<|mV (v:=aD) r<|aU r (iV r)<|aU r (bU aBv r)<|aU r (aR (v:=aL) aEu r r r)<|aU r (gT aAM (eA r))<|aU r (qW r r)<|aH (fr':=[(14,aB)]) r r<|cU h3 r (fun hb5 h5=>?_) (fun hb5 h5=>?_)
  ·
   refine aJ<|sI r<|aH (fr':=[(2,aI)]) r r<|bO<|aN ?_
   obtain rfl:=sy h5
   exact bN (rs':=[.tmp 2]) r<|cE (v:=aI) r<|bM<|aP [] r r r lr (cO r aC)
  ·
   refine bI<|dB<|aJ<|sI r<|aH (fr':=[(2,aI)]) r r<|bO ?_
   obtain rfl:=sy h5
   exact bN (rs':=[.tmp 2]) r<|cE (v:=aI) r<|bM<|aP [] r r r lr (cO r aC)
noncomputable def uX (p0b:(List UInt8)) (s8:(Int × Int)):Option (dN (Int × Int) Int) :=
 cond (decide (s8.2<(((List.drop (Int.toNat (IntKind.wrap .i64 (((p0b).length:Int) - 4))) p0b)).length:Int))) ((lO (List.drop (Int.toNat (IntKind.wrap .i64 (((p0b).length:Int) - 4))) p0b) s8.2).bind fun x10=>some (dN.next ((IntKind.wrap .i64 ((IntKind.wrap .i64 (256*s8.1))+(IntKind.wrap .i64 ((x10).toNat:Int)))),(IntKind.wrap .i64 (s8.2+1))))) (some (dN.out s8.1))
noncomputable def nI (x24:(Int × aV)) (s29:((List bW) × Int × aV)):Option (dN ((List bW) × Int × aV) ((List bW) × aV)) :=
 ((cond (decide (s29.2.1<x24.1)) ((kS s29.2.2).bind fun x34=>cond (decide (x34=0)) (some (Fl.go ())) (some (Fl.done (dN.out (s29.1,s29.2.2))))) (some (Fl.done (dN.out (s29.1,s29.2.2))))):Option (Fl (dN ((List bW) × Int × aV) ((List bW) × aV)) Unit)).bind fun x30=>Fl.next x30 (fun j32=>((yA s29.2.2).bind fun x42=>(app 272 s29.1 ([x42.1]:List bW)).bind fun x44=>some (dN.next (x44,(IntKind.wrap .i64 (s29.2.1+1)),x42.2))))
noncomputable def yT (p0b:(List UInt8)):Option ((List bW) × Int) :=
 cond (decide ((IntKind.wrap .i64 (((p0b).length:Int) - 4))<0)) (some (([]:(List bW)),4)) ((aNf p0b (IntKind.wrap .i64 (((p0b).length:Int) - 4))).bind fun x3=>(fI (uX p0b) ((0,0))).bind fun x5=>((aNe p0b (IntKind.wrap .i64 (((p0b).length:Int) - 4))).bind fun x14=>(aCU (List.take (Int.toNat (IntKind.wrap .i64 (((p0b).length:Int) - 4))) p0b)).bind fun x16=>cond (!decide (x5=x16)) (some (([]:(List bW)),5)) ((aNe p0b (IntKind.wrap .i64 (((p0b).length:Int) - 4))).bind fun x20=>(zH (List.take (Int.toNat (IntKind.wrap .i64 (((p0b).length:Int) - 4))) p0b)).bind fun x22=>(iL 0 2000 x22).bind fun x24=>(fI (nI x24) ((([]:(List bW)),0,x24.2))).bind fun x26=>((sE x26.2).bind fun x47=>cond (!decide (x47=0)) (some (([]:(List bW)),x47)) (some (x26.1,0))))))
theorem aHR {p0b:(List UInt8)}{res:((List bW) × Int)} (h:yT p0b=some res):cX Tryz.prog 24 [.c (PV.ls 1 gW p0b)] [] (.tup [AV.os 0 24 eM res.1,ci res.2]) []:=by
 unfold yT at h
 refine dR (fn:=Tryz.f24) [0,2,3,4,5,7,8,9,10,11,12,17,20,21,22,23,37,51,62] (by kernel_rfl) Tryz.func24 r (by kernel_rfl) (by kernel_rfl)<|aJ<|sV (v:=AV.nil) r<|sI r<|aH (fr':=[(0,aL)]) r r<|aJ<|mL r<|aU r (gT aAM (eA r))<|aU r (aCQ r r)<|sI r<|aH (fr':=[(0,aL),(4,aI)]) r r<|aX<|aJ<|mI r<|aU r (fY r r)<|aH (fr':=[(0,aL),(4,aI),(17,aB)]) r r<|cU h r (fun hb1 h1=>?_) (fun hb1 h1=>?_)
 ·
  refine aJ<|sV (v:=AV.nil) r<|sI r<|aH (fr':=[(2,AV.nil),(3,aI)]) r r<|bO<|aN ?_
  obtain rfl:=sy h1
  exact bN (rs':=[.tmp 2,.tmp 3]) r<|cE (v:=AV.nil) r<|cE (v:=aI) r<|bM<|aP [1000000] r r r (tL r ⟨(wK r),lr,trivial⟩) aC
 ·
  refine bI<|dB<|aJ<|sI r<|aH (fr':=[(0,aL),(4,aI),(5,aI)]) r r<|aX<|aJ<|mL r<|mI r<|bx h1 fun x3 hx3 h4=>aU r (aIX aJl yW (eA r) r (aCZ hx3).1)<|aU r (gT aAM (eA r))<|mI r<|aH (fr':=[(0,aL),(4,aI),(5,aI),(20,aL),(21,aI),(22,aI)]) r r<|bx h4 fun x5 hx5 h6=>hF lP (fun j7=>x5=j7) (fun (j7:Int)=>([(0,.c (PV.ls 1 gW p0b)),(4,ci (IntKind.wrap .i64 (((p0b).length:Int) - (4:Int)))),(5,ci j7)]:Fr)) (fun (j7:Int)=>([]:St)) ?_ ?_
  ·
   refine cP<|gY _ (fun (s8:(Int × Int))=>([(0,.c (PV.ls 1 gW p0b)),(4,ci (IntKind.wrap .i64 (((p0b).length:Int) - (4:Int)))),(5,ci s8.1),(20,.c (PV.ls 1 gW (List.drop (Int.toNat (IntKind.wrap .i64 (((p0b).length:Int) - (4:Int)))) p0b))),(21,ci (((List.drop (Int.toNat (IntKind.wrap .i64 (((p0b).length:Int) - (4:Int)))) p0b)).length:Int)),(22,ci s8.2)]:Fr)) (fun (s8:(Int × Int))=>([]:St)) hx5 (bJ [] 0 r r r r kL6 aC) ?_
   intro s8 st8 hs8 ho8
   unfold uX at hs8
   refine aJ<|aU r (fY r r)<|aH (fr':=[(0,aL),(4,aI),(5,aI),(20,aL),(21,aI),(22,aI),(23,aB)]) r r<|aX<|cU hs8 r (fun hb9 h9=>?_) (fun hb9 h9=>?_)
   ·
    exact bI<|dB<|aX<|cP<|aX<|bA<|bx h9 fun x10 hx10 h11=>aU r (lC (cs:=[PV.int _ _]) yW (eA r) r hx10 r)<|aU r (fO (p:=PV.int _ _) tv5 r r)<|sI r<|aH (fr':=[(0,aL),(4,aI),(5,aI),(7,aI),(20,aL),(21,aI),(22,aI)]) r r<|bA<|mI r<|aU r (aMP r r)<|mI r<|aU r (uV tk5 tk3 r)<|aU r (fX r r)<|sI r<|dQ (fr':=[(0,aL),(4,aI),(5,aI),(7,aI),(20,aL),(21,aI),(22,aI)]) r<|dI<|dB<|bA<|aU r (fX r r)<|mI r<|dQ (fr':=[(0,aL),(4,aI),(5,aI),(7,aI),(20,aL),(21,aI),(22,aI)]) r<|zY _ (sy h11) (bJ [] 0 r r r r kL6 aC)
   ·
    refine iE<|cZ<|cZ<|fT ?_
    have h12:=eS h9 ho8
    exact lB _ (sy h12) (bJ [] 0 r r r r nW aC)
  ·
   intro j7 hj13
   subst hj13
   refine dB<|aX<|aJ<|mI r<|mL r<|mI r<|bx h6 fun x14 hx14 h15=>aU r (aIW aJl yW (eA r) r (aCY hx14).1)<|bx h15 fun x16 hx16 h17=>oN (cA (v:=aI) r (aNo hx16) ⟨lr,trivial⟩ r r r)<|aU r (iZ r r)<|aH (fr':=[(0,aL),(4,aI),(37,aB)]) r r<|cU h17 r (fun hb18 h18=>?_) (fun hb18 h18=>?_)
   ·
    refine aJ<|sV (v:=AV.nil) r<|sI r<|aH (fr':=[(2,AV.nil),(3,aI)]) r r<|bO<|aN ?_
    obtain rfl:=sy h18
    exact bN (rs':=[.tmp 2,.tmp 3]) r<|cE (v:=AV.nil) r<|cE (v:=aI) r<|bM<|aP [1000000] r r r (tL r ⟨(wK r),lr,trivial⟩) aC
   ·
    refine bI<|dB<|aJ<|mL r<|mI r<|bx h18 fun x20 hx20 h21=>aU r (aIW aJl yW (eA r) r (aCY hx20).1)<|bx h21 fun x22 hx22 h23=>dP (v:=aD) (σ':=[iG]) [] r (aGx hx22) r r ⟨lr,trivial⟩ aC r r r<|sV (v:=aD) r<|aH (fr':=[(8,aD)]) r r<|aJ<|mV (v:=aD) r<|bx h23 fun x24 hx24 h25=>dP (v:=aI) (σ':=[iG]) [0] r (sR hx24) r r nW (fE tJ aC) r r r<|sI r<|aH (fr':=[(8,aD),(9,aI)]) r r<|aJ<|sV (v:=AV.nil) r<|aH (fr':=[(8,aD),(9,aI),(10,AV.nil)]) r r<|aX<|aJ<|sI r<|aH (fr':=[(8,aD),(9,aI),(10,AV.nil),(11,aI)]) r r<|bx h25 fun x26 hx26 h27=>hF lP (fun j28=>x26=j28) (fun (j28:((List bW) × aV))=>([(8,aD),(10,AV.os 0 24 eM j28.1)]:Fr)) (fun (j28:((List bW) × aV))=>([[.c (.bool j28.2.Made),.c (PV.ls 1 gW j28.2.Rest),ci j28.2.Bad]]:St)) ?_ ?_
    ·
     refine cP<|gY _ (fun (s29:((List bW) × Int × aV))=>([(8,aD),(9,ci x24.1),(10,AV.os 0 24 eM s29.1),(11,ci s29.2.1)]:Fr)) (fun (s29:((List bW) × Int × aV))=>([[.c (.bool s29.2.2.Made),.c (PV.ls 1 gW s29.2.2.Rest),ci s29.2.2.Bad]]:St)) hx26 (bJ [1000000] 1 r r r r ⟨lr,lr,(wK r),lr,trivial⟩ (cO r aC)) ?_
     intro s29 st29 hs29 ho29
     unfold nI at hs29
     obtain ⟨x30,hx30,h31⟩:=eF hs29
     refine kF (fun j32=>x30=Fl.go j32) (fun (j32:Unit)=>([(8,aD),(9,ci x24.1),(10,AV.os 0 24 eM s29.1),(11,ci s29.2.1)]:Fr)) (fun (j32:Unit)=>([[.c (.bool s29.2.2.Made),.c (PV.ls 1 gW s29.2.2.Rest),ci s29.2.2.Bad]]:St)) ?_ ?_
     ·
      refine aJ<|mI r<|mI r<|aU r (fY r r)<|mB r<|aOo hx30 (fun hb33 h33=>?_) (fun hb33 h33=>?_)
      ·
       refine nK r r hb33<|mV (v:=aD) r<|nK r r hb33<|bx h33 fun x34 hx34 h35=>dP (v:=aI) (σ':=[iG]) [0] r (nG hx34) r r ⟨lr,trivial⟩ (fE tJ aC) r r r<|nK r r hb33<|aU r (cQ r r)<|aU r (aB1 r hb33 r)<|aH (fr':=[(8,aD),(9,aI),(10,aO),(11,aI),(51,aB)]) r r<|cU h35 r (fun hb36 h36=>?_) (fun hb36 h36=>?_)
       ·
        exact bI<|lB _ (sy h36) (bJ [0] 1 r r r r kL4 (cO r aC))
       ·
        refine iE<|cZ<|cZ<|fT ?_
        have h37:=gI h36 h31
        have h38:=eS h37 ho29
        exact lB _ (sy h38) (bJ [0] 1 r r r r kR (cO r aC))
      ·
       refine aAk r r hb33<|aAk r r hb33<|aAk r r hb33<|aU r (sN r hb33 r)<|aH (fr':=[(8,aD),(9,aI),(10,aO),(11,aI),(51,aB)]) r r<|aAI r<|iE<|cZ<|cZ<|fT ?_
       have h39:=gI h33 h31
       have h40:=eS h39 ho29
       exact lB _ (sy h40) (bJ [0] 1 r r r r kR (cO r aC))
     ·
      intro j32 hj41
      have h41:=nY hj41 h31
      exact aX<|cP<|bA<|mV (v:=aO) r<|mV (v:=aD) r<|bx h41 fun x42 hx42 h43=>dP (v:=.agg aG) (σ':=[iG]) [0] r (aEE hx42) r r ⟨lr,trivial⟩ (fE tJ aC) r r r<|uU (row:=eM) (xs:=([x42.1]:List bW)) (rows:=[[_,_,_,_,_,_,_,_,_,_,_,_,_,_,_,_,_,_,_,_,_,_,_,_]]) (σ':=[iG]) [0,0,0,0,0,0,0,0,0,0,0,0,5,1,0,0,0,0,0,0,0,0,0,1] aJ1 r r r (fR r oL) r r<|bx h43 fun x44 hx44 h45=>aCn (row:=eM) aJ1 r aLC r (nB r) (fun _=>r) hx44<|sV (v:=aO) r<|dQ (fr':=[(8,aD),(9,aI),(10,aO),(11,aI)]) r<|dI<|dB<|bA<|mI r<|aU r (fX r r)<|sI r<|dQ (fr':=[(8,aD),(9,aI),(10,aO),(11,aI)]) r<|zY _ (sy h45) (bJ [928] 1 r r r r kL4 (cO r aC))
    ·
     intro j28 hj46
     subst hj46
     refine dB<|aX<|aJ<|mV (v:=aD) r<|bx h27 fun x47 hx47 h48=>dP (v:=aI) (σ':=[iG]) [0] r (aFN hx47) r r ⟨lr,trivial⟩ (fE tJ aC) r r r<|sI r<|aH (fr':=[(10,aO),(12,aI)]) r r<|aJ<|mI r<|aU r (iZ r r)<|aH (fr':=[(10,aO),(12,aI),(62,aB)]) r r<|cU h48 r (fun hb49 h49=>?_) (fun hb49 h49=>?_)
     ·
      refine aJ<|mI r<|sV (v:=AV.nil) r<|sI r<|aH (fr':=[(2,AV.nil),(3,aI)]) r r<|bO<|aN ?_
      obtain rfl:=sy h49
      exact bN (rs':=[.tmp 2,.tmp 3]) r<|cE (v:=AV.nil) r<|cE (v:=aI) r<|bM<|aP [1000000] r r r (tL r ⟨(wK r),lr,trivial⟩) aC
     ·
      refine bI<|dB<|aJ<|mV (v:=aO) r<|sV (v:=aO) r<|sI r<|aH (fr':=[(2,aO),(3,aI)]) r r<|bO ?_
      obtain rfl:=sy h49
      exact bN (rs':=[.tmp 2,.tmp 3]) r<|cE (v:=aO) r<|cE (v:=aI) r<|bM<|aP [0] r r r (tL r kR) aC
noncomputable def nJ (x5:((List bW) × Int)) (x7:((List bW) × Int)) (s14:Int):Option (dN Int (Fl Bool Unit)) :=
 cond (decide (s14<((x5.1).length:Int))) ((lO x5.1 s14).bind fun x16=>(lO x7.1 s14).bind fun x18=>(xO x16 x18).bind fun x20=>cond (!x20) (some (dN.out (Fl.done false))) (some (dN.next (IntKind.wrap .i64 (s14+1))))) (some (dN.out (Fl.go ())))
noncomputable def oW (p0b:(List UInt8)):Option Bool :=
 cond (decide (3000<((p0b).length:Int))) ((tK).bind fun x2=>some x2) ((kX p0b).bind fun x5=>(yT p0b).bind fun x7=>cond (cond (!decide (x5.2=x7.2)) true (!decide (((x5.1).length:Int)=((x7.1).length:Int)))) (some false) ((fI (nJ x5 x7) (0)).bind fun x11=>Fl.next x11 (fun j13=>(cond (!decide (x5.2=0)) ((tK).bind fun x29=>some x29) ((oF x5.1).bind fun x32=>(gd ((decide (x32.2=0))==true) (aBd p0b x32.1)).bind fun x34=>(gd ((cond (decide (x32.2=0)) x34 false)==true) (tK)).bind fun x36=>some (cond (cond (decide (x32.2=0)) x34 false) x36 false))))))
theorem aCD {p0b:(List UInt8)}{res:Bool} (h:oW p0b=some res):cX Tryz.prog 5 [.c (PV.ls 1 gW p0b)] [] (.c (.bool res)) []:=by
 unfold oW at h
 refine dR (fn:=Tryz.f5) [0,2,3,4,5,6,7,8,11,32,34,35,36,47,50] (by kernel_rfl) Tryz.func5 r (by kernel_rfl) (by kernel_rfl)<|aJ<|sB r<|aH (fr':=[(0,aL)]) r r<|aX<|aJ<|mL r<|aU r (gT aAM (eA r))<|aU r (qW r r)<|aH (fr':=[(0,aL),(11,aB)]) r r<|cU h r (fun hb1 h1=>?_) (fun hb1 h1=>?_)
 ·
  refine aX<|bA ?_
  obtain ⟨x2,hx2,h3⟩:=eF h1
  refine oN (cA (v:=aB) r (yX hx2) trivial r r r)<|sB r<|aH (fr':=[(2,aB)]) r r<|bO<|aN ?_
  obtain rfl:=sy h3
  exact bN (rs':=[.tmp 2]) r<|cE (v:=aB) r<|bM<|aP [] r r r lr aC
 ·
  refine bI<|dB<|aJ<|mL r<|bx h1 fun x5 hx5 h6=>oN (cA (v:=.tup [aO,aI]) r (yJ hx5) ⟨lr,trivial⟩ r r r)<|mV (v:=.tup [aO,aI]) r<|aU r (aCe (v:=aO) r r)<|aU r (aCe (v:=aI) r r)<|sV (v:=aO) r<|sI r<|aH (fr':=[(0,aL),(3,aO),(4,aI)]) r r<|aJ<|mL r<|bx h6 fun x7 hx7 h8=>oN (cA (v:=.tup [aO,aI]) r (aHR hx7) ⟨lr,trivial⟩ r r r)<|mV (v:=.tup [aO,aI]) r<|aU r (aCe (v:=aO) r r)<|aU r (aCe (v:=aI) r r)<|sV (v:=aO) r<|sI r<|aH (fr':=[(0,aL),(3,aO),(4,aI),(5,aO),(6,aI)]) r r<|aX<|aJ<|mI r<|mI r<|aU r (iZ r r)<|mB r<|og r r r (fun hc=>(bK (v:=aO) r))<|og r r r (fun hc=>(gT aLC (nB (gx r hc))))<|og r r r (fun hc=>(bK (v:=aO) r))<|og r r r (fun hc=>(gT aLC (nB (gx r hc))))<|og r r r (fun hc=>(iZ (gx r hc) (gx r hc)))<|aU r (dK r r r (fun e=>hH e))<|aH (fr':=[(0,aL),(3,aO),(4,aI),(5,aO),(32,aB)]) r r<|cU h8 r (fun hb9 h9=>?_) (fun hb9 h9=>?_)
  ·
   refine aJ<|sB r<|aH (fr':=[(2,aB)]) r r<|bO<|aN ?_
   obtain rfl:=sy h9
   exact bN (rs':=[.tmp 2]) r<|cE (v:=aB) r<|bM<|aP [] r r r lr aC
  ·
   refine bI<|dB<|aX<|aJ<|mV (v:=aO) r<|aU r (gT aLC (nB r))<|mI r<|aH (fr':=[(0,aL),(3,aO),(4,aI),(5,aO),(34,aI),(35,aI)]) r r<|bx h9 fun x11 hx11 h12=>hF lP (fun j13=>x11=Fl.go j13) (fun (j13:Unit)=>([(0,.c (PV.ls 1 gW p0b)),(3,AV.os 0 24 eM x5.1),(4,ci x5.2)]:Fr)) (fun (j13:Unit)=>([]:St)) ?_ ?_
   ·
    refine cP<|gY _ (fun (s14:Int)=>([(0,.c (PV.ls 1 gW p0b)),(3,AV.os 0 24 eM x5.1),(4,ci x5.2),(5,AV.os 1 24 eM x7.1),(34,ci ((x5.1).length:Int)),(35,ci s14)]:Fr)) (fun (s14:Int)=>([]:St)) hx11 (bJ [240,320] 0 r r r r kL6 aC) ?_
    intro s14 st14 hs14 ho14
    unfold nJ at hs14
    refine aJ<|aU r (fY r r)<|aH (fr':=[(0,aL),(3,aO),(4,aI),(5,aO),(34,aI),(35,aI),(36,aB)]) r r<|aX<|cU hs14 r (fun hb15 h15=>?_) (fun hb15 h15=>?_)
    ·
     refine bI<|dB<|aX<|cP<|aJ<|mI r<|sI r<|aH (fr':=[(0,aL),(3,aO),(4,aI),(5,aO),(7,aI),(34,aI),(35,aI)]) r r<|aX<|lJ [.q 0,.q 1,.q 2,.q 3,.q 4,.q 5,.q 6,.q 7,.q 8,.q 9] [(some 38,[3]),(some 39,[7]),(some 40,[38,39]),(some 41,[40]),(some 42,[5]),(some 43,[7]),(some 44,[42,43]),(some 45,[44]),(some 46,[41,45]),(some 47,[46])] [0,0,3,7,0,0,48,112,255,511] (by kernel_rfl)<|dq r r (bK (v:=aO) r)<|dq r r (bK (v:=aI) r)<|bx h15 fun x16 hx16 h17=>dq r r (lC (cs:=[PV.int _ _,PV.int _ _,PV.int _ _,PV.int _ _,PV.int _ _,PV.int _ _,PV.int _ _,PV.str _,PV.str _,PV.int _ _,PV.int _ _,PV.str _,PV.ls _ _ _,PV.ls _ _ _,PV.str _,PV.int _ _,PV.int _ _,PV.int _ _,PV.int _ _,PV.int _ _,PV.int _ _,PV.int _ _,PV.int _ _,PV.ls _ _ _]) aJ1 (nB r) r hx16 r)<|dq r r (nL (us:=[PV.int _ _,PV.int _ _,PV.int _ _,PV.int _ _,PV.int _ _,PV.int _ _,PV.int _ _,PV.str _,PV.str _,PV.int _ _,PV.int _ _,PV.str _,PV.ls _ _ _,PV.ls _ _ _,PV.str _,PV.int _ _,PV.int _ _,PV.int _ _,PV.int _ _,PV.int _ _,PV.int _ _,PV.int _ _,PV.int _ _,PV.ls _ _ _]) zJ r r r)<|dq r r (bK (v:=aO) r)<|dq r r (bK (v:=aI) r)<|bx h17 fun x18 hx18 h19=>dq r r (lC (cs:=[PV.int _ _,PV.int _ _,PV.int _ _,PV.int _ _,PV.int _ _,PV.int _ _,PV.int _ _,PV.str _,PV.str _,PV.int _ _,PV.int _ _,PV.str _,PV.ls _ _ _,PV.ls _ _ _,PV.str _,PV.int _ _,PV.int _ _,PV.int _ _,PV.int _ _,PV.int _ _,PV.int _ _,PV.int _ _,PV.int _ _,PV.ls _ _ _]) aJ1 (nB r) r hx18 r)<|dq r r (nL (us:=[PV.int _ _,PV.int _ _,PV.int _ _,PV.int _ _,PV.int _ _,PV.int _ _,PV.int _ _,PV.str _,PV.str _,PV.int _ _,PV.int _ _,PV.str _,PV.ls _ _ _,PV.ls _ _ _,PV.str _,PV.int _ _,PV.int _ _,PV.int _ _,PV.int _ _,PV.int _ _,PV.int _ _,PV.int _ _,PV.int _ _,PV.ls _ _ _]) zJ r r r)<|bx h19 fun x20 hx20 h21=>d_q r (aAZ (v:=aB) r (aDL hx20) ⟨(cM r aEg),(cM r aEg),trivial⟩ r)<|dq r r (gX r)<|aAe (fr':=[(0,aL),(3,aO),(4,aI),(5,aO),(34,aI),(35,aI),(47,aB)]) r r<|cU h21 r (fun hb22 h22=>?_) (fun hb22 h22=>?_)
     ·
      refine aJ<|sB r<|aH (fr':=[(2,aB)]) r r<|bO<|bT<|aN<|aN<|bT<|aN<|aN ?_
      have h23:=eS h22 ho14
      have h24:=gI h23 h12
      obtain rfl:=sy h24
      exact bN (rs':=[.tmp 2]) r<|cE (v:=aB) r<|bM<|aP [] r r r lr aC
     ·
      exact bI<|dI<|dB<|bA<|aU r (fX r r)<|mI r<|dQ (fr':=[(0,aL),(3,aO),(4,aI),(5,aO),(34,aI),(35,aI),(47,aB)]) r<|zY _ (sy h22) (bJ [0,1] 0 r r r r kL6 aC)
    ·
     refine iE<|cZ<|cZ<|fT ?_
     have h26:=eS h15 ho14
     exact lB _ (sy h26) (bJ [0] 0 r r r r nW aC)
   ·
    intro j13 hj27
    have h27:=nY hj27 h12
    refine dB<|aX<|aJ<|mI r<|aU r (iZ r r)<|aH (fr':=[(0,aL),(3,aO),(50,aB)]) r r<|cU h27 r (fun hb28 h28=>?_) (fun hb28 h28=>?_)
    ·
     refine aX<|bA ?_
     obtain ⟨x29,hx29,h30⟩:=eF h28
     refine oN (cA (v:=aB) r (yX hx29) trivial r r r)<|sB r<|aH (fr':=[(2,aB)]) r r<|bO<|aN ?_
     obtain rfl:=sy h30
     exact bN (rs':=[.tmp 2]) r<|cE (v:=aB) r<|bM<|aP [] r r r lr aC
    ·
     refine bI<|dB<|aJ<|mV (v:=aO) r<|bx h28 fun x32 hx32 h33=>oN (cA (v:=.tup [aO,aI]) r (wX hx32) ⟨lr,trivial⟩ r r r)<|mV (v:=.tup [aO,aI]) r<|aU r (aCe (v:=aO) r r)<|aU r (aCe (v:=aI) r r)<|sV (v:=aO) r<|sI r<|aH (fr':=[(0,aL),(4,aI),(8,aO)]) r r<|aJ<|mI r<|aU r (cQ r r)<|mB r<|og r r r (fun hc=>(bK (v:=aL) r))<|og r r r (fun hc=>(bK (v:=aO) r))<|bx h33 fun x34 hx34 h35=>zG r r (fun hc=>cA (v:=aB) r (aJ8 (dM hx34 hc)) ⟨(iA (gx r hc) lr),(iA (gx r hc) lr),trivial⟩ (iO (by repeat (first | exact fU | refine bG r ?_ | refine bG (vD r) ?_ | refine bG vC ?_))) r r) ?_
     refine aU r (cS r r r (fun e=>hH e))<|mB r ?_
     obtain ⟨x36,hx36,h37⟩:=eF h35
     refine zG r r (fun hc=>cA (v:=aB) r (yX (dM hx36 hc)) trivial (iO (by repeat (first | exact fU | refine bG r ?_ | refine bG (vD r) ?_ | refine bG vC ?_))) r r) ?_
     refine aU r (cS r r r (fun e=>hH e))<|sB r<|aH (fr':=[(2,aB)]) r r<|bO ?_
     obtain rfl:=sy h37
     exact bN (rs':=[.tmp 2]) r<|cE (v:=aB) r<|bM<|aP [] r r r lr aC
noncomputable def sF (dA:aM):Option Int :=
 (oO dA).bind fun x1=>cond x1 (some 0) (some (IntKind.wrap .i64 (((dA.b_).length:Int) - dA.at_)))
theorem aFP {dA:aM}{res:Int} (h:sF dA=some res):cX Tryz.prog 31 [.box 0 0] [AV.cs (fL dA)] (ci res) [AV.cs (fL dA)]:=by
 unfold sF at h
 refine dR (fn:=Tryz.f31) [0,2,4] (by kernel_rfl) Tryz.func31 r (by kernel_rfl) (by kernel_rfl)<|aJ<|sI r<|aH (fr':=[(0,aD)]) r r<|aX<|aJ<|mV (v:=aD) r<|bx h fun x1 hx1 h2=>dP (v:=aB) (σ':=[eG]) [0] r (vU hx1) r r ⟨lr,trivial⟩ (fE sG aC) r r r<|aH (fr':=[(0,aD),(4,aB)]) r r<|cU h2 r (fun hb3 h3=>?_) (fun hb3 h3=>?_)
 ·
  refine aJ<|sI r<|aH (fr':=[(2,aI)]) r r<|bO<|aN ?_
  obtain rfl:=sy h3
  exact bN (rs':=[.tmp 2]) r<|cE (v:=aI) r<|bM<|aP [] r r r lr (cO r aC)
 ·
  refine bI<|dB<|aX<|lJ [.q 0,.q 1,.q 2,.q 3,.q 4,.q 5,.q 6,.q 7,.q 8,.q 9,.n 10 []] [(some 5,[0]),(some 6,[5]),(some 7,[6]),(some 8,[7]),(some 9,[8]),(some 10,[0]),(some 11,[10]),(some 12,[11]),(some 13,[12]),(some 14,[9,13]),(some 2,[14])] [0,1,3,7,15,0,32,96,224,511,1023] (by kernel_rfl)<|dq r r (bK (v:=aD) r)<|dq r r (iV r)<|dq r r (bU aJi r)<|dq r r (aR (v:=aL) aEu r r r)<|dq r r (gT aAM (eA r))<|dq r r (bK (v:=aD) r)<|dq r r (iV r)<|dq r r (bU aCC r)<|dq r r (aR (v:=aI) hU r r r)<|dq r r (aCQ r r)<|d_n r ?_ r
  refine sI r<|aAL<|⟨pI,?_⟩
  refine aAe (fr':=[(2,aI)]) r r<|bO ?_
  obtain rfl:=sy h3
  exact bN (rs':=[.tmp 2]) r<|cE (v:=aI) r<|bM<|aP [] r r r lr (cO r aC)
noncomputable def tO (dA:aV):Option Int :=
 (gU dA).bind fun x1=>cond x1 (some 0) (some ((dA.Rest).length:Int))
theorem aEZ {dA:aV}{res:Int} (h:tO dA=some res):cX Tryz.prog 32 [.box 0 0] [AV.cs (eB dA)] (ci res) [AV.cs (eB dA)]:=by
 unfold tO at h
 refine dR (fn:=Tryz.f32) [0,2,4] (by kernel_rfl) Tryz.func32 r (by kernel_rfl) (by kernel_rfl)<|aJ<|sI r<|aH (fr':=[(0,aD)]) r r<|aX<|aJ<|mV (v:=aD) r<|bx h fun x1 hx1 h2=>dP (v:=aB) (σ':=[iG]) [0] r (rQ hx1) r r ⟨lr,trivial⟩ (fE tJ aC) r r r<|aH (fr':=[(0,aD),(4,aB)]) r r<|cU h2 r (fun hb3 h3=>?_) (fun hb3 h3=>?_)
 ·
  refine aJ<|sI r<|aH (fr':=[(2,aI)]) r r<|bO<|aN ?_
  obtain rfl:=sy h3
  exact bN (rs':=[.tmp 2]) r<|cE (v:=aI) r<|bM<|aP [] r r r lr (cO r aC)
 ·
  refine bI<|dB<|aJ<|mV (v:=aD) r<|aU r (iV r)<|aU r (bU aBv r)<|aU r (aR (v:=aL) aEu r r r)<|aU r (gT aAM (eA r))<|sI r<|aH (fr':=[(2,aI)]) r r<|bO ?_
  obtain rfl:=sy h3
  exact bN (rs':=[.tmp 2]) r<|cE (v:=aI) r<|bM<|aP [] r r r lr (cO r aC)
noncomputable def pL (p0b:(List UInt8)):Option Bool :=
 cond (decide (2000<((p0b).length:Int))) ((tK).bind fun x2=>some x2) ((yC p0b).bind fun x5=>(zH p0b).bind fun x7=>(mN x5).bind fun x9=>(yA x7).bind fun x11=>(xO x9.1 x11.1).bind fun x13=>cond x13 ((gP x9.2).bind fun x16=>(kS x11.2).bind fun x18=>cond (decide (x16=x18)) ((sF x9.2).bind fun x21=>(tO x11.2).bind fun x23=>cond (decide (x21=x23)) ((tK).bind fun x26=>some x26) (some false)) (some false)) (some false))
theorem aC3 {p0b:(List UInt8)}{res:Bool} (h:pL p0b=some res):cX Tryz.prog 7 [.c (PV.ls 1 gW p0b)] [] (.c (.bool res)) []:=by
 unfold pL at h
 refine dR (fn:=Tryz.f7) [0,2,3,4,5,6,9,16] (by kernel_rfl) Tryz.func7 r (by kernel_rfl) (by kernel_rfl)<|aJ<|sB r<|aH (fr':=[(0,aL)]) r r<|aX<|aJ<|mL r<|aU r (gT aAM (eA r))<|aU r (qW r r)<|aH (fr':=[(0,aL),(9,aB)]) r r<|cU h r (fun hb1 h1=>?_) (fun hb1 h1=>?_)
 ·
  refine aX<|bA ?_
  obtain ⟨x2,hx2,h3⟩:=eF h1
  refine oN (cA (v:=aB) r (yX hx2) trivial r r r)<|sB r<|aH (fr':=[(2,aB)]) r r<|bO<|aN ?_
  obtain rfl:=sy h3
  exact bN (rs':=[.tmp 2]) r<|cE (v:=aB) r<|bM<|aP [] r r r lr aC
 ·
  refine bI<|dB<|aJ<|mL r<|bx h1 fun x5 hx5 h6=>dP (v:=aD) (σ':=[eG]) [] r (aHt hx5) r r ⟨lr,trivial⟩ aC r r r<|mL r<|bx h6 fun x7 hx7 h8=>dP (v:=bD) (σ':=[eG,iG]) [] r (aGx hx7) r r ⟨lr,trivial⟩ aC r r r<|sV (v:=aD) r<|sV (v:=bD) r<|aH (fr':=[(3,aD),(4,bD)]) r r<|aX<|aJ<|mV (v:=aD) r<|aU r (aGW aTt r r)<|aH (fr':=[(3,aD),(4,bD),(16,aB)]) r r<|aAI r<|bI<|dB<|aJ<|mV (v:=aD) r<|bx h8 fun x9 hx9 h10=>dP (v:=.agg aG) (σ':=[eG,iG]) [0] r (aCd hx9) r r ⟨lr,trivial⟩ (fE sG aC) r r r<|mV (v:=bD) r<|bx h10 fun x11 hx11 h12=>dP (v:=.agg aG) (σ':=[eG,iG]) [1] r (aEE hx11) r r ⟨lr,trivial⟩ (fE tJ aC) r r r<|jV (n:=2) (cs:=aE) (σ':=[eG,iG,aE]) aLE r r r<|jV (n:=3) (cs:=aE) (σ':=[eG,iG,aE,aE]) aLE r r r<|cN (v:=.agg aG) (us:=aG) (cs:=aE) (σ':=[eG,iG,aG,aE]) r zJ r r r r r r r r<|cN (v:=.agg aG) (us:=aG) (cs:=aE) (σ':=[eG,iG,aG,aG]) r zJ r r r r r r r r<|aH (fr':=[(3,aD),(4,bD),(5,dE),(6,jD)]) r r<|aJ<|aU r (eL (us:=aG) zJ r r r r)<|aU r (eL (us:=aG) zJ r r r r)<|bx h12 fun x13 hx13 h14=>oN (cA (v:=aB) r (aDL hx13) ⟨(cM r aEg),(cM r aEg),trivial⟩ r r r)<|mB r<|aOo h14 (fun hb15 h15=>?_) (fun hb15 h15=>?_)
  ·
   refine nK r r hb15<|mV (v:=aD) r<|nK r r hb15<|bx h15 fun x16 hx16 h17=>dP (v:=aI) (σ':=[eG,iG,aG,aG]) [0] r (jF hx16) r r ⟨lr,trivial⟩ (fE sG aC) r r r<|nK r r hb15<|mV (v:=bD) r<|nK r r hb15<|bx h17 fun x18 hx18 h19=>dP (v:=aI) (σ':=[eG,iG,aG,aG]) [1] r (nG hx18) r r ⟨lr,trivial⟩ (fE tJ aC) r r r<|nK r r hb15<|aU r (cQ r r)<|aU r (aB1 r hb15 r)<|mB r<|aOo h19 (fun hb20 h20=>?_) (fun hb20 h20=>?_)
   ·
    refine nK r r hb20<|mV (v:=aD) r<|nK r r hb20<|bx h20 fun x21 hx21 h22=>dP (v:=aI) (σ':=[eG,iG,aG,aG]) [0] r (aFP hx21) r r ⟨lr,trivial⟩ (fE sG aC) r r r<|nK r r hb20<|mV (v:=bD) r<|nK r r hb20<|bx h22 fun x23 hx23 h24=>dP (v:=aI) (σ':=[eG,iG,aG,aG]) [1] r (aEZ hx23) r r ⟨lr,trivial⟩ (fE tJ aC) r r r<|nK r r hb20<|aU r (cQ r r)<|aU r (aB1 r hb20 r)<|mB r<|aOo h24 (fun hb25 h25=>?_) (fun hb25 h25=>?_)
    ·
     refine nK r r hb25 ?_
     obtain ⟨x26,hx26,h27⟩:=eF h25
     refine oN (cA (v:=aB) r (yX hx26) trivial r r r)<|aU r (aB1 r hb25 r)<|sB r<|aH (fr':=[(2,aB)]) r r<|bO ?_
     obtain rfl:=sy h27
     exact bN (rs':=[.tmp 2]) r<|cE (v:=aB) r<|bM<|aP [] r r r lr aC
    ·
     refine aAk r r hb25<|aU r (sN r hb25 r)<|sB r<|aH (fr':=[(2,aB)]) r r<|bO ?_
     obtain rfl:=sy h25
     exact bN (rs':=[.tmp 2]) r<|cE (v:=aB) r<|bM<|aP [] r r r lr aC
   ·
    refine aAk r r hb20<|aAk r r hb20<|aAk r r hb20<|aAk r r hb20<|aAk r r hb20<|aU r (sN r hb20 r)<|mB r<|aAk r r r<|aU r (sN r r r)<|sB r<|aH (fr':=[(2,aB)]) r r<|bO ?_
    obtain rfl:=sy h20
    exact bN (rs':=[.tmp 2]) r<|cE (v:=aB) r<|bM<|aP [] r r r lr aC
  ·
   refine aAk r r hb15<|aAk r r hb15<|aAk r r hb15<|aAk r r hb15<|aAk r r hb15<|aU r (sN r hb15 r)<|mB r<|aAk r r r<|aAk r r r<|aAk r r r<|aAk r r r<|aAk r r r<|aU r (sN r r r)<|mB r<|aAk r r r<|aU r (sN r r r)<|sB r<|aH (fr':=[(2,aB)]) r r<|bO ?_
   obtain rfl:=sy h15
   exact bN (rs':=[.tmp 2]) r<|cE (v:=aB) r<|bM<|aP [] r r r lr aC
