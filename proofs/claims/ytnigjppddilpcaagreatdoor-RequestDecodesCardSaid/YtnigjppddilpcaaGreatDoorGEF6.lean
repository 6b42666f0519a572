import Derived.Test.YtnigjppddilpcaaGreatDoorGETy
import Derived.Test.YtnigjppddilpcaaGreatDoorGEF4
import Derived.Test.YtnigjppddilpcaaGreatDoorGEF5
namespace Go.Proofs.YtnigjppddilpcaaGreatDoor
open Go Abs
set_option maxRecDepth 100000
set_option linter.unusedVariables false
set_option linter.unusedSimpArgs false
noncomputable def vE (cV:aX):Option (dH × aX) :=
 (fF (-9223372036854775808) 9223372036854775807 cV).bind fun x1=>(fF (-9223372036854775808) 9223372036854775807 x1.2).bind fun x3=>(fF (-9223372036854775808) 9223372036854775807 x3.2).bind fun x5=>(fF (-9223372036854775808) 9223372036854775807 x5.2).bind fun x7=>(fF (-9223372036854775808) 9223372036854775807 x7.2).bind fun x9=>(fF (-9223372036854775808) 9223372036854775807 x9.2).bind fun x11=>(fF (-9223372036854775808) 9223372036854775807 x11.2).bind fun x13=>(iF 4096 x13.2).bind fun x15=>(iF 4096 x15.2).bind fun x17=>(qO x17.2).bind fun x19=>(oR x19.2).bind fun x21=>(((gH x21.2).bind fun x26=>(gd ((decide (x26=0))==true) (aAh (dH.mk x1.1 x3.1 x5.1 x7.1 x9.1 x11.1 x13.1 x15.1 x17.1 x19.1 x21.1))).bind fun x28=>cond (cond (decide (x26=0)) (!x28) false) ((jS 11 x21.2).bind fun x31=>some x31) (some x21.2)):Option aX).bind fun x23=>((gH x23).bind fun x34=>cond (!decide (x34=0)) (some ((dH.mk 0 0 0 0 0 0 0 ([]:List UInt8) ([]:List UInt8) (aQ.mk 0 0 ([]:List UInt8) ([]:(List aQ)) ([]:(List (List UInt8)))) (dS.mk ([]:List UInt8) 0 0 0 0 0 0 0 0 ([]:(List (List UInt8))))),x23)) (some ((dH.mk x1.1 x3.1 x5.1 x7.1 x9.1 x11.1 x13.1 x15.1 x17.1 x19.1 x21.1),x23)))
theorem aF5 {cV:aX}{z:(dH × aX)} (h:vE cV=some z):cQ Tryz.prog 27 [.box 0 0] [AV.cs (eV cV)] (.agg (AV.cs (gT z.1))) [AV.cs (eV z.2)]:=by
 unfold vE at h
 refine dF (fn:=Tryz.f27) [0,2,3,5,13,14,15,16,43,48] (by kernel_rfl) Tryz.func27 r (by kernel_rfl) (by kernel_rfl)<|aH<|hO (n:=1) (cs:=aJ) (σ':=[dG,aJ]) aRD r r r<|aG (fr':=[(0,aE),(2,aU)]) r r<|aH<|hO (n:=2) (cs:=aJ) (σ':=[dG,aJ,aJ]) aRD r r r<|aG (fr':=[(0,aE),(2,aU),(3,cK)]) r r<|aZ<|aH<|aR r (bD aJu r)<|aR r (bD aBU r)<|aR r (bD aJv r)<|aR r (bD aDV r)<|aR r (bD aDW r)<|aR r (bD aBh r)<|aR r (bD aDc r)<|aN1 (l:=[(2,0),(2,1),(2,2),(2,3),(2,4),(2,5),(2,6)]) uW r r r r<|aR r (aLi aSF r)<|mI r<|aG (fr':=[(0,aE),(2,aU),(3,cK),(13,.ptrs [(2,0),(2,1),(2,2),(2,3),(2,4),(2,5),(2,6)]),(14,aI),(15,aI)]) r r<|cH<|aO5 64<|xQ<|aH<|aR r (zF (gI r r) (show _=.bool true from r))<|aG (fr':=[(0,aE),(2,aU),(3,cK),(13,.ptrs [(2,0),(2,1),(2,2),(2,3),(2,4),(2,5),(2,6)]),(14,aI),(15,aI),(16,aB)]) r r<|aZ<|kP r<|bF<|cZ<|aZ<|cH<|aH<|aR r (pE (p:=(2,0)) uW r r r)<|aR r (kI vY r)<|sV (v:=cK) r<|aG (fr':=[(0,aE),(2,aU),(3,cK),(5,cK),(13,.ptrs [(2,0),(2,1),(2,2),(2,3),(2,4),(2,5),(2,6)]),(14,aI),(15,aI)]) r r<|bB<|mV (v:=cK) r<|mV (v:=aE) r<|bx h fun x1 y1 h2=>cP (v:=aI) (σ':=[dG,aJ,aJ]) [0] r (jR y1) r r kA (eG nO aD) r r r<|aR r (jM r)<|bM (v:=aI) (us:=[aI]) (cs:=aJ) (σ':=[dG,aJ,aJ]) r fM r r r r r r r r<|dM (fr':=[(0,aE),(2,aU),(3,cK),(5,cK),(13,.ptrs [(2,0),(2,1),(2,2),(2,3),(2,4),(2,5),(2,6)]),(14,aI),(15,aI)]) r<|cW<|cZ<|bB<|aR r (zF (gC r r) (show _=.int .i64 (1:Int) from r))<|mI r<|dM (fr':=[(0,aE),(2,aU),(3,cK),(5,cK),(13,.ptrs [(2,0),(2,1),(2,2),(2,3),(2,4),(2,5),(2,6)]),(14,aI),(15,aI)]) r<|mA<|xQ<|aZ<|bB<|aR r (zF (gI r r) (show _=.bool true from r))<|aG (fr':=[(0,aE),(2,aU),(3,cK),(13,.ptrs [(2,0),(2,1),(2,2),(2,3),(2,4),(2,5),(2,6)]),(14,aI),(15,aI),(16,aB)]) r r<|aZ<|kP r<|bF<|cZ<|aZ<|cH<|aH<|aR r (pE (p:=(2,1)) uW r r r)<|aR r (kI vY r)<|sV (v:=aFq) r<|aG (fr':=[(0,aE),(2,aU),(3,cK),(5,aFq),(13,.ptrs [(2,0),(2,1),(2,2),(2,3),(2,4),(2,5),(2,6)]),(14,aI),(15,aI)]) r r<|bB<|mV (v:=aFq) r<|mV (v:=aE) r<|bx h2 fun x3 y3 h4=>cP (v:=aI) (σ':=[dG,aJ,aJ]) [0] r (jR y3) r r kA (eG nO aD) r r r<|aR r (jM r)<|bM (v:=aI) (us:=[aI]) (cs:=aJ) (σ':=[dG,aJ,aJ]) r fM r r r r r r r r<|dM (fr':=[(0,aE),(2,aU),(3,cK),(5,aFq),(13,.ptrs [(2,0),(2,1),(2,2),(2,3),(2,4),(2,5),(2,6)]),(14,aI),(15,aI)]) r<|cW<|cZ<|bB<|aR r (zF (gC r r) (show _=.int .i64 (2:Int) from r))<|mI r<|dM (fr':=[(0,aE),(2,aU),(3,cK),(5,aFq),(13,.ptrs [(2,0),(2,1),(2,2),(2,3),(2,4),(2,5),(2,6)]),(14,aI),(15,aI)]) r<|mA<|xQ<|aZ<|bB<|aR r (zF (gI r r) (show _=.bool true from r))<|aG (fr':=[(0,aE),(2,aU),(3,cK),(13,.ptrs [(2,0),(2,1),(2,2),(2,3),(2,4),(2,5),(2,6)]),(14,aI),(15,aI),(16,aB)]) r r<|aZ<|kP r<|bF<|cZ<|aZ<|cH<|aH<|aR r (pE (p:=(2,2)) uW r r r)<|aR r (kI vY r)<|sV (v:=aFr) r<|aG (fr':=[(0,aE),(2,aU),(3,cK),(5,aFr),(13,.ptrs [(2,0),(2,1),(2,2),(2,3),(2,4),(2,5),(2,6)]),(14,aI),(15,aI)]) r r<|bB<|mV (v:=aFr) r<|mV (v:=aE) r<|bx h4 fun x5 y5 h6=>cP (v:=aI) (σ':=[dG,aJ,aJ]) [0] r (jR y5) r r kA (eG nO aD) r r r<|aR r (jM r)<|bM (v:=aI) (us:=[aI]) (cs:=aJ) (σ':=[dG,aJ,aJ]) r fM r r r r r r r r<|dM (fr':=[(0,aE),(2,aU),(3,cK),(5,aFr),(13,.ptrs [(2,0),(2,1),(2,2),(2,3),(2,4),(2,5),(2,6)]),(14,aI),(15,aI)]) r<|cW<|cZ<|bB<|aR r (zF (gC r r) (show _=.int .i64 (3:Int) from r))<|mI r<|dM (fr':=[(0,aE),(2,aU),(3,cK),(5,aFr),(13,.ptrs [(2,0),(2,1),(2,2),(2,3),(2,4),(2,5),(2,6)]),(14,aI),(15,aI)]) r<|mA<|xQ<|aZ<|bB<|aR r (zF (gI r r) (show _=.bool true from r))<|aG (fr':=[(0,aE),(2,aU),(3,cK),(13,.ptrs [(2,0),(2,1),(2,2),(2,3),(2,4),(2,5),(2,6)]),(14,aI),(15,aI),(16,aB)]) r r<|aZ<|kP r<|bF<|cZ<|aZ<|cH<|aH<|aR r (pE (p:=(2,3)) uW r r r)<|aR r (kI vY r)<|sV (v:=aEd) r<|aG (fr':=[(0,aE),(2,aU),(3,cK),(5,aEd),(13,.ptrs [(2,0),(2,1),(2,2),(2,3),(2,4),(2,5),(2,6)]),(14,aI),(15,aI)]) r r<|bB<|mV (v:=aEd) r<|mV (v:=aE) r<|bx h6 fun x7 y7 h8=>cP (v:=aI) (σ':=[dG,aJ,aJ]) [0] r (jR y7) r r kA (eG nO aD) r r r<|aR r (jM r)<|bM (v:=aI) (us:=[aI]) (cs:=aJ) (σ':=[dG,aJ,aJ]) r fM r r r r r r r r<|dM (fr':=[(0,aE),(2,aU),(3,cK),(5,aEd),(13,.ptrs [(2,0),(2,1),(2,2),(2,3),(2,4),(2,5),(2,6)]),(14,aI),(15,aI)]) r<|cW<|cZ<|bB<|aR r (zF (gC r r) (show _=.int .i64 (4:Int) from r))<|mI r<|dM (fr':=[(0,aE),(2,aU),(3,cK),(5,aEd),(13,.ptrs [(2,0),(2,1),(2,2),(2,3),(2,4),(2,5),(2,6)]),(14,aI),(15,aI)]) r<|mA<|xQ<|aZ<|bB<|aR r (zF (gI r r) (show _=.bool true from r))<|aG (fr':=[(0,aE),(2,aU),(3,cK),(13,.ptrs [(2,0),(2,1),(2,2),(2,3),(2,4),(2,5),(2,6)]),(14,aI),(15,aI),(16,aB)]) r r<|aZ<|kP r<|bF<|cZ<|aZ<|cH<|aH<|aR r (pE (p:=(2,4)) uW r r r)<|aR r (kI vY r)<|sV (v:=aEe) r<|aG (fr':=[(0,aE),(2,aU),(3,cK),(5,aEe),(13,.ptrs [(2,0),(2,1),(2,2),(2,3),(2,4),(2,5),(2,6)]),(14,aI),(15,aI)]) r r<|bB<|mV (v:=aEe) r<|mV (v:=aE) r<|bx h8 fun x9 y9 h10=>cP (v:=aI) (σ':=[dG,aJ,aJ]) [0] r (jR y9) r r kA (eG nO aD) r r r<|aR r (jM r)<|bM (v:=aI) (us:=[aI]) (cs:=aJ) (σ':=[dG,aJ,aJ]) r fM r r r r r r r r<|dM (fr':=[(0,aE),(2,aU),(3,cK),(5,aEe),(13,.ptrs [(2,0),(2,1),(2,2),(2,3),(2,4),(2,5),(2,6)]),(14,aI),(15,aI)]) r<|cW<|cZ<|bB<|aR r (zF (gC r r) (show _=.int .i64 (5:Int) from r))<|mI r<|dM (fr':=[(0,aE),(2,aU),(3,cK),(5,aEe),(13,.ptrs [(2,0),(2,1),(2,2),(2,3),(2,4),(2,5),(2,6)]),(14,aI),(15,aI)]) r<|mA<|xQ<|aZ<|bB<|aR r (zF (gI r r) (show _=.bool true from r))<|aG (fr':=[(0,aE),(2,aU),(3,cK),(13,.ptrs [(2,0),(2,1),(2,2),(2,3),(2,4),(2,5),(2,6)]),(14,aI),(15,aI),(16,aB)]) r r<|aZ<|kP r<|bF<|cZ<|aZ<|cH<|aH<|aR r (pE (p:=(2,5)) uW r r r)<|aR r (kI vY r)<|sV (v:=aFs) r<|aG (fr':=[(0,aE),(2,aU),(3,cK),(5,aFs),(13,.ptrs [(2,0),(2,1),(2,2),(2,3),(2,4),(2,5),(2,6)]),(14,aI),(15,aI)]) r r<|bB<|mV (v:=aFs) r<|mV (v:=aE) r<|bx h10 fun x11 y11 h12=>cP (v:=aI) (σ':=[dG,aJ,aJ]) [0] r (jR y11) r r kA (eG nO aD) r r r<|aR r (jM r)<|bM (v:=aI) (us:=[aI]) (cs:=aJ) (σ':=[dG,aJ,aJ]) r fM r r r r r r r r<|dM (fr':=[(0,aE),(2,aU),(3,cK),(5,aFs),(13,.ptrs [(2,0),(2,1),(2,2),(2,3),(2,4),(2,5),(2,6)]),(14,aI),(15,aI)]) r<|cW<|cZ<|bB<|aR r (zF (gC r r) (show _=.int .i64 (6:Int) from r))<|mI r<|dM (fr':=[(0,aE),(2,aU),(3,cK),(5,aFs),(13,.ptrs [(2,0),(2,1),(2,2),(2,3),(2,4),(2,5),(2,6)]),(14,aI),(15,aI)]) r<|mA<|xQ<|aZ<|bB<|aR r (zF (gI r r) (show _=.bool true from r))<|aG (fr':=[(0,aE),(2,aU),(3,cK),(13,.ptrs [(2,0),(2,1),(2,2),(2,3),(2,4),(2,5),(2,6)]),(14,aI),(15,aI),(16,aB)]) r r<|aZ<|kP r<|bF<|cZ<|aZ<|cH<|aH<|aR r (pE (p:=(2,6)) uW r r r)<|aR r (kI vY r)<|sV (v:=aFt) r<|aG (fr':=[(0,aE),(2,aU),(3,cK),(5,aFt),(13,.ptrs [(2,0),(2,1),(2,2),(2,3),(2,4),(2,5),(2,6)]),(14,aI),(15,aI)]) r r<|bB<|mV (v:=aFt) r<|mV (v:=aE) r<|bx h12 fun x13 y13 h14=>cP (v:=aI) (σ':=[dG,aJ,aJ]) [0] r (jR y13) r r kA (eG nO aD) r r r<|aR r (jM r)<|bM (v:=aI) (us:=[aI]) (cs:=aJ) (σ':=[dG,aJ,aJ]) r fM r r r r r r r r<|dM (fr':=[(0,aE),(2,aU),(3,cK),(5,aFt),(13,.ptrs [(2,0),(2,1),(2,2),(2,3),(2,4),(2,5),(2,6)]),(14,aI),(15,aI)]) r<|cW<|cZ<|bB<|aR r (zF (gC r r) (show _=.int .i64 (7:Int) from r))<|mI r<|dM (fr':=[(0,aE),(2,aU),(3,cK),(5,aFt),(13,.ptrs [(2,0),(2,1),(2,2),(2,3),(2,4),(2,5),(2,6)]),(14,aI),(15,aI)]) r<|mA<|xQ<|aZ<|bB<|aR r (zF (gI r r) (show _=.bool false from r))<|aG (fr':=[(0,aE),(2,aU),(3,cK),(13,.ptrs [(2,0),(2,1),(2,2),(2,3),(2,4),(2,5),(2,6)]),(14,aI),(15,aI),(16,aB)]) r r<|aZ<|yI r<|hG<|cY<|cY<|fP<|cZ<|aH<|mV (v:=aE) r<|bx h14 fun x15 y15 h16=>cP (v:=aS) (σ':=[dG,aJ,aJ]) [0] r (mG y15) r r jN (eG nO aD) r r r<|aR r (bD yZ r)<|bM (v:=aS) (us:=[aS]) (cs:=aJ) (σ':=[dG,aJ,aJ]) r lP r r r r r r r r<|aG (fr':=[(0,aE),(2,aU),(3,cK)]) r r<|aH<|mV (v:=aE) r ?_
 obtain ⟨x17,y17,h18⟩:=iW h16
 refine cP (v:=aS) (σ':=[dG,aJ,aJ]) [0] r (mG y17) r r jN (eG nO aD) r r r<|aR r (bD zB r)<|bM (v:=aS) (us:=[aS]) (cs:=aJ) (σ':=[dG,aJ,aJ]) r lP r r r r r r r r<|aG (fr':=[(0,aE),(2,aU),(3,cK)]) r r<|aH<|mV (v:=aE) r<|bx h18 fun x19 y19 h20=>cP (v:=.agg cE) (σ':=[dG,aJ,aJ]) [0] r (aA1 y19) r r ⟨lr,trivial⟩ (eG nO aD) r r r<|aR r (bD aBV r)<|bM (v:=.agg cE) (us:=cE) (cs:=aJ) (σ':=[dG,aJ,lW]) r iO r r r r r r r r<|aG (fr':=[(0,aE),(2,aU),(3,cK)]) r r<|aH<|mV (v:=aE) r<|bx h20 fun x21 y21 h22=>cP (v:=.agg dO) (σ':=[dG,aJ,lW]) [0] r (aAY y21) r r ⟨lr,trivial⟩ (eG nO aD) r r r<|aR r (bD aC1 r)<|bM (v:=.agg dO) (us:=dO) (cs:=lW) (σ':=[dG,aJ,bA]) r yT r r r r r r r r<|aG (fr':=[(0,aE),(2,aU),(3,cK)]) r r<|bx h22 fun x23 y23 h24=>hH (fun j25=>x23=j25) (fun (j25:aX)=>([(0,aE),(2,aU),(3,cK)]:Fr)) (fun (j25:aX)=>([[.c (PV.ls 1 iT j25.b_),ci j25.at_,ci j25.err_,.c (.bool j25.made_)],[ci 0,ci 0,ci 0,ci 0,ci 0,ci 0,ci 0,.c (.str ([]:List UInt8)),.c (.str ([]:List UInt8)),ci 0,ci 0,.c (.str ([]:List UInt8)),AV.nil,AV.nil,.c (.str ([]:List UInt8)),ci 0,ci 0,ci 0,ci 0,ci 0,ci 0,ci 0,ci 0,AV.nil],[ci x1.1,ci x3.1,ci x5.1,ci x7.1,ci x9.1,ci x11.1,ci x13.1,.c (.str x15.1),.c (.str x17.1),ci x19.1.Kind,ci x19.1.Int,.c (.str x19.1.Text),.c (PV.ls 5 bT x19.1.Items),.c (PV.ls 1 fI x19.1.Keys),.c (.str x21.1.Queue),ci x21.1.ToStart,ci x21.1.ToClose,ci x21.1.Total,ci x21.1.Beat,ci x21.1.First,ci x21.1.Coef,ci x21.1.Most,ci x21.1.Attempts,.c (PV.ls 1 fI x21.1.Fatal)]]:St)) ?_ ?_
 ·
  refine aH<|mV (v:=aE) r<|bx y23 fun x26 y26 h27=>cP (v:=aI) (σ':=[dG,aJ,bA]) [0] r (iB y26) r r ⟨lr,trivial⟩ (eG nO aD) r r r<|aR r (bU r r)<|mB r<|og r r r (fun u=>(dL (us:=bA) aCK r r r r))<|bx h27 fun x28 y28 h29=>sX r r (fun u=>bL (v:=aB) r (aFE (cU y28 u)) ⟨(eW (gx r u) (bQ r aGn)),trivial⟩ (fT (by repeat (first | exact eN | refine aY r ?_ | refine aY (pP r) ?_ | refine aY pO ?_))) r r) ?_
  refine og r r r (fun u=>(fE (gx r u)))<|aR r (bV r r r (fun e=>fJ e))<|aG (fr':=[(0,aE),(2,aU),(3,cK),(43,aB)]) r r<|cG h29 r (fun b30 h30=>?_) (fun b30 h30=>?_)
  ·
   exact bB<|mV (v:=aE) r<|bx h30 fun x31 y31 h32=>cP (v:=_) (σ':=[dG,aJ,bA]) [0] r (oO y31) r r jN (eG nO aD) r r r<|dM (fr':=[(0,aE),(2,aU),(3,cK),(43,aB)]) r<|iQ _ (sy h32) (bC [] 3 r r r r kA (bR r (bR r (bR r aD))))
  ·
   exact bF<|iQ _ (sy h30) (bC [] 3 r r r r kA (bR r (bR r (bR r aD))))
 ·
  intro j25 hj33
  subst hj33
  refine aZ<|aH<|mV (v:=aE) r<|bx h24 fun x34 y34 h35=>cP (v:=aI) (σ':=[dG,aJ,bA]) [0] r (iB y34) r r ⟨lr,trivial⟩ (eG nO aD) r r r<|aR r (iS r r)<|aG (fr':=[(2,aU),(3,cK),(48,aB)]) r r<|cG h35 r (fun b36 h36=>?_) (fun b36 h36=>?_)
  ·
   refine aH<|aR r (iD (c0:=aJ) (cs:=aJ) aSm r iC)<|bM (v:=.agg aJ) (us:=aJ) (cs:=aJ) (σ':=[dG,aJ,bA]) r aCK r r r r r r r r<|aG (fr':=[(2,aU)]) r r<|bK<|aP ?_
   obtain rfl:=sy h36
   exact bJ (rs':=[.cell 2 30]) r<|dY (us:=aJ) (cs:=aJ) aCK r r r r<|bI<|aN [] r r r (bQ r ⟨r,r,r,r,r,r,r,r,r,r,r,r,⟨_,r⟩,⟨_,r⟩,r,r,r,r,r,r,r,r,r,⟨_,r⟩,trivial⟩) (eG nO aD)
  ·
   refine bF<|cZ<|aH<|aR r (dL (us:=bA) aCK r r r r)<|bM (v:=.agg bA) (us:=bA) (cs:=aJ) (σ':=[dG,bA,bA]) r aCK r r r r r r r r<|aG (fr':=[(2,aU)]) r r<|bK ?_
   obtain rfl:=sy h36
   exact bJ (rs':=[.cell 2 30]) r<|dY (us:=bA) (cs:=bA) aCK r r r r<|bI<|aN [] r r r (bQ r aGn) (eG nO aD)
noncomputable def pU (cV:aX):Option Int :=
 (gH cV).bind fun x1=>cond (!decide (x1=0)) (some x1) (cond (decide (cV.at_<((cV.b_).length:Int))) (some 3) (some 0))
theorem aC3 {cV:aX}{z:Int} (h:pU cV=some z):cQ Tryz.prog 65 [.box 0 0] [AV.cs (eV cV)] (ci z) [AV.cs (eV cV)]:=by
 unfold pU at h
 refine dF (fn:=Tryz.f65) [0,2,3,7,18] (by kernel_rfl) Tryz.func65 r (by kernel_rfl) (by kernel_rfl)<|aH<|sI r<|aG (fr':=[(0,aE)]) r r<|aZ<|aH<|mV (v:=aE) r<|bx h fun x1 y1 h2=>cP (v:=aI) (σ':=[dG]) [0] r (iB y1) r r ⟨lr,trivial⟩ (eG nO aD) r r r<|sI r<|aG (fr':=[(0,aE),(3,aI)]) r r<|aH<|mI r<|aR r (iS r r)<|aG (fr':=[(0,aE),(3,aI),(7,aB)]) r r<|cG h2 r (fun b3 h3=>?_) (fun b3 h3=>?_)
 ·
  refine aH<|mI r<|sI r<|aG (fr':=[(2,aI)]) r r<|bK<|aP ?_
  obtain rfl:=sy h3
  exact bJ (rs':=[.tmp 2]) r<|bS (v:=aI) r<|bI<|aN [] r r r lr (bR r aD)
 ·
  refine bF<|cZ<|aZ<|aZ<|kV [.q 0,.q 1,.q 2,.q 3,.q 4,.q 5,.q 6,.q 7,.q 8,.q 9] [(some 9,[0]),(some 10,[9]),(some 11,[10]),(some 12,[11]),(some 13,[0]),(some 14,[13]),(some 15,[14]),(some 16,[15]),(some 17,[16]),(some 18,[12,17])] [0,1,3,7,0,16,48,112,240,511] (by kernel_rfl)<|dq r r (bN (v:=aE) r)<|dq r r (jM r)<|dq r r (bD aD0 r)<|dq r r (aK (v:=aI) fM r r r)<|dq r r (bN (v:=aE) r)<|dq r r (jM r)<|dq r r (bD aLD r)<|dq r r (aK (v:=aL) aFZ r r r)<|dq r r (hZ aGM (eK r))<|dq r r (gI r r)<|aAq (fr':=[(18,aB)]) r r<|cG h3 r (fun b5 h5=>?_) (fun b5 h5=>?_)
  ·
   refine aH<|sI r<|aG (fr':=[(2,aI)]) r r<|bK<|aP ?_
   obtain rfl:=sy h5
   exact bJ (rs':=[.tmp 2]) r<|bS (v:=aI) r<|bI<|aN [] r r r lr (bR r aD)
  ·
   refine bF<|cZ<|aH<|sI r<|aG (fr':=[(2,aI)]) r r<|bK ?_
   obtain rfl:=sy h5
   exact bJ (rs':=[.tmp 2]) r<|bS (v:=aI) r<|bI<|aN [] r r r lr (bR r aD)
noncomputable def aBl (p0a:aQ) (p1b:aQ) (s6:Int):Option (dU Int (Fl Bool Unit)) :=
 cond (decide (s6<((p0a.Keys).length:Int))) ((nG p0a.Keys s6).bind fun x8=>(nG p1b.Keys s6).bind fun x10=>cond (!decide (x8=x10)) (some (dU.out (Fl.done false))) (some (dU.next (IntKind.wrap .i64 (s6+1))))) (some (dU.out (Fl.go ())))
noncomputable def aBm (aJf:aQ→aQ→Option Bool) (p0a:aQ) (p1b:aQ) (s21:Int):Option (dU Int (Fl Bool Unit)) :=
 cond (decide (s21<((p0a.Items).length:Int))) ((nG p0a.Items s21).bind fun x23=>(nG p1b.Items s21).bind fun x25=>(aJf x23 x25).bind fun x27=>cond (!x27) (some (dU.out (Fl.done false))) (some (dU.next (IntKind.wrap .i64 (s21+1))))) (some (dU.out (Fl.go ())))
noncomputable def xR:Nat→aQ→aQ→Option Bool
 | 0,_,_=>none
 | n+1,p0a,p1b =>
  cond (cond (cond (cond (cond (!decide (p0a.Kind=p1b.Kind)) true (!decide (p0a.Int=p1b.Int))) true (!decide (p0a.Text=p1b.Text))) true (!decide (((p0a.Items).length:Int)=((p1b.Items).length:Int)))) true (!decide (((p0a.Keys).length:Int)=((p1b.Keys).length:Int)))) (some false) ((fK (aBl p0a p1b) (0)).bind fun x3=>Fl.next x3 (fun j5=>((fK (aBm (xR n) p0a p1b) (0)).bind fun x18=>Fl.next x18 (fun j20=>(some true)))))
theorem aKb:∀ n:Nat,(∀ {p0a:aQ}{p1b:aQ}{z:Bool},xR n p0a p1b=some z→cQ Tryz.prog 66 [.agg (AV.cs (fA p0a)),.agg (AV.cs (fA p1b))] [] (.c (.bool z)) []):=by
 intro n
 induction n with
 | zero=>exact fun {p0a p1b z} h=>absurd h (by simp [xR])
 | succ n ih =>
  have ih_ref02xSame:=@ih
  intro p0a p1b z h
  rw [xR] at h
  refine dF (fn:=Tryz.f66) [0,1,2,3,4,5,6,43,48,61,66,80] (by kernel_rfl) Tryz.func66 r (by kernel_rfl) (by kernel_rfl)<|aH<|jK (v:=.agg cE) (n:=0) (cs:=cE) (σ':=[cE]) r r r r r<|jK (v:=.agg cE) (n:=1) (cs:=cE) (σ':=[cE,cE]) r r r r r<|sB r<|aG (fr':=[(2,aE),(3,aU)]) r r<|aZ<|aH<|aR r (bD mE r)<|aR r (aK (v:=aI) fM r r r)<|aR r (bD mE r)<|aR r (aK (v:=aI) fM r r r)<|aR r (iS r r)<|mB r<|og r r r (fun u=>(bD sF r))<|og r r r (fun u=>(aK (v:=aI) fM (gx r u) r r))<|og r r r (fun u=>(bD sF r))<|og r r r (fun u=>(aK (v:=aI) fM (gx r u) r r))<|og r r r (fun u=>(iS (gx r u) (gx r u)))<|aR r (cN r r r (fun e=>fJ e))<|mB r<|og r r r (fun u=>(bD uP r))<|og r r r (fun u=>(aK (v:=aS) lP (gx r u) r r))<|og r r r (fun u=>(bD uP r))<|og r r r (fun u=>(aK (v:=aS) lP (gx r u) r r))<|og r r r (fun u=>(wZ (gx r u) (gx r u)))<|aR r (cN r r r (fun e=>fJ e))<|mB r<|og r r r (fun u=>(bD iJ r))<|og r r r (fun u=>(aK (v:=aL) nS (gx r u) r r))<|og r r r (fun u=>(hZ vX (eK (gx r u))))<|og r r r (fun u=>(bD iJ r))<|og r r r (fun u=>(aK (v:=aL) nS (gx r u) r r))<|og r r r (fun u=>(hZ vX (eK (gx r u))))<|og r r r (fun u=>(iS (gx r u) (gx r u)))<|aR r (cN r r r (fun e=>fJ e))<|mB r<|og r r r (fun u=>(bD oN r))<|og r r r (fun u=>(aK (v:=aL) rC (gx r u) r r))<|og r r r (fun u=>(hZ zD (eK (gx r u))))<|og r r r (fun u=>(bD oN r))<|og r r r (fun u=>(aK (v:=aL) rC (gx r u) r r))<|og r r r (fun u=>(hZ zD (eK (gx r u))))<|og r r r (fun u=>(iS (gx r u) (gx r u)))<|aR r (cN r r r (fun e=>fJ e))<|aG (fr':=[(2,aE),(3,aU),(43,aB)]) r r<|cG h r (fun b1 h1=>?_) (fun b1 h1=>?_)
  ·
   refine aH<|sB r<|aG (fr':=[(4,aB)]) r r<|bK<|aP ?_
   obtain rfl:=sy h1
   exact bJ (rs':=[.tmp 4]) r<|bS (v:=aB) r<|bI<|aN [] r r r lr aD
  ·
   refine bF<|cZ<|aZ<|aH<|sI r<|aG (fr':=[(2,aE),(3,aU),(5,aI)]) r r<|bx h1 fun x3 y3 h4=>gZ lB (fun j5=>x3=Fl.go j5) (fun (j5:Unit)=>([(2,aE),(3,aU)]:Fr)) (fun (j5:Unit)=>([[ci p0a.Kind,ci p0a.Int,.c (.str p0a.Text),.c (PV.ls 5 bT p0a.Items),.c (PV.ls 1 fI p0a.Keys)],[ci p1b.Kind,ci p1b.Int,.c (.str p1b.Text),.c (PV.ls 5 bT p1b.Items),.c (PV.ls 1 fI p1b.Keys)]]:St)) ?_ ?_
   ·
    refine cH<|gV _ (fun (s6:Int)=>([(2,aE),(3,aU),(5,ci s6)]:Fr)) (fun (s6:Int)=>([[ci p0a.Kind,ci p0a.Int,.c (.str p0a.Text),.c (PV.ls 5 bT p0a.Items),.c (PV.ls 1 fI p0a.Keys)],[ci p1b.Kind,ci p1b.Int,.c (.str p1b.Text),.c (PV.ls 5 bT p1b.Items),.c (PV.ls 1 fI p1b.Keys)]]:St)) y3 (bC [] 2 r r r r kA (bR r (bR r aD))) ?_
    intro s6 st6 hs6 ho6
    unfold aBl at hs6
    refine aZ<|aH<|mI r<|aR r (bD oN r)<|aR r (aK (v:=aL) rC r r r)<|aR r (hZ zD (eK r))<|aR r (gI r r)<|aG (fr':=[(2,aE),(3,aU),(5,aI),(48,aB)]) r r<|cG hs6 r (fun b7 h7=>?_) (fun b7 h7=>?_)
    ·
     refine bF<|cZ<|aZ<|cH<|aZ<|kV [.q 0,.q 1,.q 2,.q 3,.q 4,.q 5,.q 6,.q 7,.q 8,.q 9,.q 10] [(some 51,[2]),(some 52,[51]),(some 53,[5]),(some 54,[52,53]),(some 55,[54]),(some 56,[3]),(some 57,[56]),(some 58,[5]),(some 59,[57,58]),(some 60,[59]),(some 61,[55,60])] [0,1,0,7,15,0,32,0,224,480,1023] (by kernel_rfl)<|dq r r (bD oN r)<|dq r r (aK (v:=aL) rC r r r)<|dq r r (bN (v:=aI) r)<|bx h7 fun x8 y8 h9=>dq r r (lF (cs:=[PV.str _]) aAR (eK r) r y8 r)<|dq r r (gP (p:=PV.str _) lP r r)<|dq r r (bD oN r)<|dq r r (aK (v:=aL) rC r r r)<|dq r r (bN (v:=aI) r)<|bx h9 fun x10 y10 h11=>dq r r (lF (cs:=[PV.str _]) aAR (eK r) r y10 r)<|dq r r (gP (p:=PV.str _) lP r r)<|dq r r (wZ r r)<|aAq (fr':=[(2,aE),(3,aU),(5,aI),(61,aB)]) r r<|cG h11 r (fun b12 h12=>?_) (fun b12 h12=>?_)
     ·
      refine aH<|sB r<|aG (fr':=[(4,aB)]) r r<|bK<|bO<|aP<|aP<|bO<|aP<|aP ?_
      have h13:=eR h12 ho6
      have h14:=fL h13 h4
      obtain rfl:=sy h14
      exact bJ (rs':=[.tmp 4]) r<|bS (v:=aB) r<|bI<|aN [] r r r lr aD
     ·
      exact bF<|cW<|cZ<|bB<|mI r<|aR r (gC r r)<|sI r<|dM (fr':=[(2,aE),(3,aU),(5,aI),(61,aB)]) r<|zO _ (sy h12) (bC [] 2 r r r r kA (bR r (bR r aD)))
    ·
     refine hG<|cY<|cY<|fP ?_
     have h16:=eR h7 ho6
     exact iQ _ (sy h16) (bC [] 2 r r r r jN (bR r (bR r aD)))
   ·
    intro j5 hj17
    have h17:=lV hj17 h4
    refine cZ<|aZ<|aH<|sI r<|aG (fr':=[(2,aE),(3,aU),(6,aI)]) r r<|bx h17 fun x18 y18 h19=>gZ lB (fun j20=>x18=Fl.go j20) (fun (j20:Unit)=>([]:Fr)) (fun (j20:Unit)=>([[ci p0a.Kind,ci p0a.Int,.c (.str p0a.Text),.c (PV.ls 5 bT p0a.Items),.c (PV.ls 1 fI p0a.Keys)],[ci p1b.Kind,ci p1b.Int,.c (.str p1b.Text),.c (PV.ls 5 bT p1b.Items),.c (PV.ls 1 fI p1b.Keys)]]:St)) ?_ ?_
    ·
     refine cH<|gV _ (fun (s21:Int)=>([(2,aE),(3,aU),(6,ci s21)]:Fr)) (fun (s21:Int)=>([[ci p0a.Kind,ci p0a.Int,.c (.str p0a.Text),.c (PV.ls 5 bT p0a.Items),.c (PV.ls 1 fI p0a.Keys)],[ci p1b.Kind,ci p1b.Int,.c (.str p1b.Text),.c (PV.ls 5 bT p1b.Items),.c (PV.ls 1 fI p1b.Keys)]]:St)) y18 (bC [] 2 r r r r kA (bR r (bR r aD))) ?_
     intro s21 st21 hs21 ho21
     unfold aBm at hs21
     refine aZ<|aH<|mI r<|aR r (bD iJ r)<|aR r (aK (v:=aL) nS r r r)<|aR r (hZ vX (eK r))<|aR r (gI r r)<|aG (fr':=[(2,aE),(3,aU),(6,aI),(66,aB)]) r r<|cG hs21 r (fun b22 h22=>?_) (fun b22 h22=>?_)
     ·
      refine bF<|cZ<|aZ<|cH<|aZ<|kV [.q 0,.q 1,.q 2,.q 3,.q 4,.q 5,.q 6,.q 7,.q 8,.q 9,.q 10,.q 11] [(some 69,[2]),(some 70,[69]),(some 71,[6]),(some 72,[70,71]),(some 73,[72]),(some 74,[3]),(some 75,[74]),(some 76,[6]),(some 77,[75,76]),(some 78,[77]),(some 79,[73,78]),(some 80,[79])] [0,1,0,7,15,0,32,0,224,480,1023,2047] (by kernel_rfl)<|dq r r (bD iJ r)<|dq r r (aK (v:=aL) nS r r r)<|dq r r (bN (v:=aI) r)<|bx h22 fun x23 y23 h24=>dq r r (lF (cs:=[PV.int _ _,PV.int _ _,PV.str _,PV.ls _ _ _,PV.ls _ _ _]) uV (eK r) r y23 (eJ _))<|dq r r (lT (us:=[PV.int _ _,PV.int _ _,PV.str _,PV.ls _ _ _,PV.ls _ _ _]) iO r r r)<|dq r r (bD iJ r)<|dq r r (aK (v:=aL) nS r r r)<|dq r r (bN (v:=aI) r)<|bx h24 fun x25 y25 h26=>dq r r (lF (cs:=[PV.int _ _,PV.int _ _,PV.str _,PV.ls _ _ _,PV.ls _ _ _]) uV (eK r) r y25 (eJ _))<|dq r r (lT (us:=[PV.int _ _,PV.int _ _,PV.str _,PV.ls _ _ _,PV.ls _ _ _]) iO r r r)<|bx h26 fun x27 y27 h28=>d_q r (xF (v:=aB) r (ih_ref02xSame y27) ⟨(bQ r kR5),(bQ r kR5),trivial⟩ r)<|dq r r (fE r)<|aAq (fr':=[(2,aE),(3,aU),(6,aI),(80,aB)]) r r<|cG h28 r (fun b29 h29=>?_) (fun b29 h29=>?_)
      ·
       refine aH<|sB r<|aG (fr':=[(4,aB)]) r r<|bK<|bO<|aP<|aP<|bO<|aP<|aP ?_
       have h30:=eR h29 ho21
       have h31:=fL h30 h19
       obtain rfl:=sy h31
       exact bJ (rs':=[.tmp 4]) r<|bS (v:=aB) r<|bI<|aN [] r r r lr aD
      ·
       exact bF<|cW<|cZ<|bB<|mI r<|aR r (gC r r)<|sI r<|dM (fr':=[(2,aE),(3,aU),(6,aI),(80,aB)]) r<|zO _ (sy h29) (bC [] 2 r r r r kA (bR r (bR r aD)))
     ·
      refine hG<|cY<|cY<|fP ?_
      have h33:=eR h22 ho21
      exact iQ _ (sy h33) (bC [] 2 r r r r trivial (bR r (bR r aD)))
    ·
     intro j20 hj34
     have h34:=lV hj34 h19
     refine cZ<|aH<|sB r<|aG (fr':=[(4,aB)]) r r<|bK ?_
     obtain rfl:=sy h34
     exact bJ (rs':=[.tmp 4]) r<|bS (v:=aB) r<|bI<|aN [] r r r lr aD
noncomputable def aBc (p0a:aQ) (p1b:aQ):Option Bool:=lim fun n=>xR n p0a p1b
theorem aCb {p0a:aQ}{p1b:aQ}{z:Bool} (h:aBc p0a p1b=some z):cQ Tryz.prog 66 [.agg (AV.cs (fA p0a)),.agg (AV.cs (fA p1b))] [] (.c (.bool z)) []:=by
 obtain ⟨n,hn⟩:=rV h
 exact (aKb n) hn
noncomputable def rW (p0a:dS) (p1b:dS) (s8:Int):Option (dU Int (Fl Bool Unit)) :=
 cond (decide (s8<((p0a.Fatal).length:Int))) ((nG p0a.Fatal s8).bind fun x10=>(nG p1b.Fatal s8).bind fun x12=>cond (!decide (x10=x12)) (some (dU.out (Fl.done false))) (some (dU.next (IntKind.wrap .i64 (s8+1))))) (some (dU.out (Fl.go ())))
noncomputable def oU (p0a:dS) (p1b:dS):Option Bool :=
 cond (cond (cond (cond (cond (!decide (p0a.Queue=p1b.Queue)) true (!decide (p0a.ToStart=p1b.ToStart))) true (!decide (p0a.ToClose=p1b.ToClose))) true (!decide (p0a.Total=p1b.Total))) true (!decide (p0a.Beat=p1b.Beat))) (some false) (cond (cond (cond (cond (cond (!decide (p0a.First=p1b.First)) true (!decide (p0a.Coef=p1b.Coef))) true (!decide (p0a.Most=p1b.Most))) true (!decide (p0a.Attempts=p1b.Attempts))) true (!decide (((p0a.Fatal).length:Int)=((p1b.Fatal).length:Int)))) (some false) ((fK (rW p0a p1b) (0)).bind fun x5=>Fl.next x5 (fun j7=>(some true))))
theorem wF {p0a:dS}{p1b:dS}{z:Bool} (h:oU p0a p1b=some z):cQ Tryz.prog 67 [.agg (AV.cs (pH p0a)),.agg (AV.cs (pH p1b))] [] (.c (.bool z)) []:=by
 unfold oU at h
 refine dF (fn:=Tryz.f67) [0,1,2,3,4,5,38,73,78,91] (by kernel_rfl) Tryz.func67 r (by kernel_rfl) (by kernel_rfl)<|aH<|jK (v:=.agg dO) (n:=0) (cs:=dO) (σ':=[dO]) r r r r r<|jK (v:=.agg dO) (n:=1) (cs:=dO) (σ':=[dO,dO]) r r r r r<|sB r<|aG (fr':=[(2,aE),(3,aU)]) r r<|aZ<|aH<|aR r (bD aDb r)<|aR r (aK (v:=aS) lP r r r)<|aR r (bD aDb r)<|aR r (aK (v:=aS) lP r r r)<|aR r (wZ r r)<|mB r<|og r r r (fun u=>(bD aFR r))<|og r r r (fun u=>(aK (v:=aI) fM (gx r u) r r))<|og r r r (fun u=>(bD aFR r))<|og r r r (fun u=>(aK (v:=aI) fM (gx r u) r r))<|og r r r (fun u=>(iS (gx r u) (gx r u)))<|aR r (cN r r r (fun e=>fJ e))<|mB r<|og r r r (fun u=>(bD aFS r))<|og r r r (fun u=>(aK (v:=aI) fM (gx r u) r r))<|og r r r (fun u=>(bD aFS r))<|og r r r (fun u=>(aK (v:=aI) fM (gx r u) r r))<|og r r r (fun u=>(iS (gx r u) (gx r u)))<|aR r (cN r r r (fun e=>fJ e))<|mB r<|og r r r (fun u=>(bD aFT r))<|og r r r (fun u=>(aK (v:=aI) fM (gx r u) r r))<|og r r r (fun u=>(bD aFT r))<|og r r r (fun u=>(aK (v:=aI) fM (gx r u) r r))<|og r r r (fun u=>(iS (gx r u) (gx r u)))<|aR r (cN r r r (fun e=>fJ e))<|mB r<|og r r r (fun u=>(bD aFU r))<|og r r r (fun u=>(aK (v:=aI) fM (gx r u) r r))<|og r r r (fun u=>(bD aFU r))<|og r r r (fun u=>(aK (v:=aI) fM (gx r u) r r))<|og r r r (fun u=>(iS (gx r u) (gx r u)))<|aR r (cN r r r (fun e=>fJ e))<|aG (fr':=[(2,aE),(3,aU),(38,aB)]) r r<|cG h r (fun b1 h1=>?_) (fun b1 h1=>?_)
 ·
  refine aH<|sB r<|aG (fr':=[(4,aB)]) r r<|bK<|aP ?_
  obtain rfl:=sy h1
  exact bJ (rs':=[.tmp 4]) r<|bS (v:=aB) r<|bI<|aN [] r r r lr aD
 ·
  refine bF<|cZ<|aZ<|aH<|aR r (bD aFV r)<|aR r (aK (v:=aI) fM r r r)<|aR r (bD aFV r)<|aR r (aK (v:=aI) fM r r r)<|aR r (iS r r)<|mB r<|og r r r (fun u=>(bD aFW r))<|og r r r (fun u=>(aK (v:=aI) fM (gx r u) r r))<|og r r r (fun u=>(bD aFW r))<|og r r r (fun u=>(aK (v:=aI) fM (gx r u) r r))<|og r r r (fun u=>(iS (gx r u) (gx r u)))<|aR r (cN r r r (fun e=>fJ e))<|mB r<|og r r r (fun u=>(bD aFX r))<|og r r r (fun u=>(aK (v:=aI) fM (gx r u) r r))<|og r r r (fun u=>(bD aFX r))<|og r r r (fun u=>(aK (v:=aI) fM (gx r u) r r))<|og r r r (fun u=>(iS (gx r u) (gx r u)))<|aR r (cN r r r (fun e=>fJ e))<|mB r<|og r r r (fun u=>(bD aFY r))<|og r r r (fun u=>(aK (v:=aI) fM (gx r u) r r))<|og r r r (fun u=>(bD aFY r))<|og r r r (fun u=>(aK (v:=aI) fM (gx r u) r r))<|og r r r (fun u=>(iS (gx r u) (gx r u)))<|aR r (cN r r r (fun e=>fJ e))<|mB r<|og r r r (fun u=>(bD tN r))<|og r r r (fun u=>(aK (v:=aL) rC (gx r u) r r))<|og r r r (fun u=>(hZ zD (eK (gx r u))))<|og r r r (fun u=>(bD tN r))<|og r r r (fun u=>(aK (v:=aL) rC (gx r u) r r))<|og r r r (fun u=>(hZ zD (eK (gx r u))))<|og r r r (fun u=>(iS (gx r u) (gx r u)))<|aR r (cN r r r (fun e=>fJ e))<|aG (fr':=[(2,aE),(3,aU),(73,aB)]) r r<|cG h1 r (fun b3 h3=>?_) (fun b3 h3=>?_)
  ·
   refine aH<|sB r<|aG (fr':=[(4,aB)]) r r<|bK<|aP ?_
   obtain rfl:=sy h3
   exact bJ (rs':=[.tmp 4]) r<|bS (v:=aB) r<|bI<|aN [] r r r lr aD
  ·
   refine bF<|cZ<|aZ<|aH<|sI r<|aG (fr':=[(2,aE),(3,aU),(5,aI)]) r r<|bx h3 fun x5 y5 h6=>gZ lB (fun j7=>x5=Fl.go j7) (fun (j7:Unit)=>([]:Fr)) (fun (j7:Unit)=>([[.c (.str p0a.Queue),ci p0a.ToStart,ci p0a.ToClose,ci p0a.Total,ci p0a.Beat,ci p0a.First,ci p0a.Coef,ci p0a.Most,ci p0a.Attempts,.c (PV.ls 1 fI p0a.Fatal)],[.c (.str p1b.Queue),ci p1b.ToStart,ci p1b.ToClose,ci p1b.Total,ci p1b.Beat,ci p1b.First,ci p1b.Coef,ci p1b.Most,ci p1b.Attempts,.c (PV.ls 1 fI p1b.Fatal)]]:St)) ?_ ?_
   ·
    refine cH<|gV _ (fun (s8:Int)=>([(2,aE),(3,aU),(5,ci s8)]:Fr)) (fun (s8:Int)=>([[.c (.str p0a.Queue),ci p0a.ToStart,ci p0a.ToClose,ci p0a.Total,ci p0a.Beat,ci p0a.First,ci p0a.Coef,ci p0a.Most,ci p0a.Attempts,.c (PV.ls 1 fI p0a.Fatal)],[.c (.str p1b.Queue),ci p1b.ToStart,ci p1b.ToClose,ci p1b.Total,ci p1b.Beat,ci p1b.First,ci p1b.Coef,ci p1b.Most,ci p1b.Attempts,.c (PV.ls 1 fI p1b.Fatal)]]:St)) y5 (bC [] 2 r r r r kA (bR r (bR r aD))) ?_
    intro s8 st8 hs8 ho8
    unfold rW at hs8
    refine aZ<|aH<|mI r<|aR r (bD tN r)<|aR r (aK (v:=aL) rC r r r)<|aR r (hZ zD (eK r))<|aR r (gI r r)<|aG (fr':=[(2,aE),(3,aU),(5,aI),(78,aB)]) r r<|cG hs8 r (fun b9 h9=>?_) (fun b9 h9=>?_)
    ·
     refine bF<|cZ<|aZ<|cH<|aZ<|kV [.q 0,.q 1,.q 2,.q 3,.q 4,.q 5,.q 6,.q 7,.q 8,.q 9,.q 10] [(some 81,[2]),(some 82,[81]),(some 83,[5]),(some 84,[82,83]),(some 85,[84]),(some 86,[3]),(some 87,[86]),(some 88,[5]),(some 89,[87,88]),(some 90,[89]),(some 91,[85,90])] [0,1,0,7,15,0,32,0,224,480,1023] (by kernel_rfl)<|dq r r (bD tN r)<|dq r r (aK (v:=aL) rC r r r)<|dq r r (bN (v:=aI) r)<|bx h9 fun x10 y10 h11=>dq r r (lF (cs:=[PV.str _]) aAR (eK r) r y10 r)<|dq r r (gP (p:=PV.str _) lP r r)<|dq r r (bD tN r)<|dq r r (aK (v:=aL) rC r r r)<|dq r r (bN (v:=aI) r)<|bx h11 fun x12 y12 h13=>dq r r (lF (cs:=[PV.str _]) aAR (eK r) r y12 r)<|dq r r (gP (p:=PV.str _) lP r r)<|dq r r (wZ r r)<|aAq (fr':=[(2,aE),(3,aU),(5,aI),(91,aB)]) r r<|cG h13 r (fun b14 h14=>?_) (fun b14 h14=>?_)
     ·
      refine aH<|sB r<|aG (fr':=[(4,aB)]) r r<|bK<|bO<|aP<|aP<|bO<|aP<|aP ?_
      have h15:=eR h14 ho8
      have h16:=fL h15 h6
      obtain rfl:=sy h16
      exact bJ (rs':=[.tmp 4]) r<|bS (v:=aB) r<|bI<|aN [] r r r lr aD
     ·
      exact bF<|cW<|cZ<|bB<|mI r<|aR r (gC r r)<|sI r<|dM (fr':=[(2,aE),(3,aU),(5,aI),(91,aB)]) r<|zO _ (sy h14) (bC [] 2 r r r r kA (bR r (bR r aD)))
    ·
     refine hG<|cY<|cY<|fP ?_
     have h18:=eR h9 ho8
     exact iQ _ (sy h18) (bC [] 2 r r r r trivial (bR r (bR r aD)))
   ·
    intro j7 hj19
    have h19:=lV hj19 h6
    refine cZ<|aH<|sB r<|aG (fr':=[(4,aB)]) r r<|bK ?_
    obtain rfl:=sy h19
    exact bJ (rs':=[.tmp 4]) r<|bS (v:=aB) r<|bI<|aN [] r r r lr aD
noncomputable def aCz (p0a:dH) (p1b:dH):Option Bool :=
 (gd ((cond (cond (cond (cond (cond (cond (cond (cond (decide (p0a.ID=p1b.ID)) (decide (p0a.Kind=p1b.Kind)) false) (decide (p0a.Time=p1b.Time)) false) (decide (p0a.Seq=p1b.Seq)) false) (decide (p0a.Ref=p1b.Ref)) false) (decide (p0a.N=p1b.N)) false) (decide (p0a.Code=p1b.Code)) false) (decide (p0a.Name=p1b.Name)) false) (decide (p0a.Key=p1b.Key)) false)==true) (aBc p0a.Data p1b.Data)).bind fun x1=>(gd ((cond (cond (cond (cond (cond (cond (cond (cond (cond (decide (p0a.ID=p1b.ID)) (decide (p0a.Kind=p1b.Kind)) false) (decide (p0a.Time=p1b.Time)) false) (decide (p0a.Seq=p1b.Seq)) false) (decide (p0a.Ref=p1b.Ref)) false) (decide (p0a.N=p1b.N)) false) (decide (p0a.Code=p1b.Code)) false) (decide (p0a.Name=p1b.Name)) false) (decide (p0a.Key=p1b.Key)) false) x1 false)==true) (oU p0a.Opts p1b.Opts)).bind fun x3=>some (cond (cond (cond (cond (cond (cond (cond (cond (cond (cond (decide (p0a.ID=p1b.ID)) (decide (p0a.Kind=p1b.Kind)) false) (decide (p0a.Time=p1b.Time)) false) (decide (p0a.Seq=p1b.Seq)) false) (decide (p0a.Ref=p1b.Ref)) false) (decide (p0a.N=p1b.N)) false) (decide (p0a.Code=p1b.Code)) false) (decide (p0a.Name=p1b.Name)) false) (decide (p0a.Key=p1b.Key)) false) x1 false) x3 false)
theorem aLN {p0a:dH}{p1b:dH}{z:Bool} (h:aCz p0a p1b=some z):cQ Tryz.prog 23 [.agg (AV.cs (gT p0a)),.agg (AV.cs (gT p1b))] [] (.c (.bool z)) []:=by
 unfold aCz at h
 refine dF (fn:=Tryz.f23) [0,1,2,3,4] (by kernel_rfl) Tryz.func23 r (by kernel_rfl) (by kernel_rfl)<|aH<|jK (v:=.agg bA) (n:=0) (cs:=bA) (σ':=[bA]) r r r r r<|jK (v:=.agg bA) (n:=1) (cs:=bA) (σ':=[bA,bA]) r r r r r<|sB r<|aG (fr':=[(2,aE),(3,aU)]) r r<|aH<|aR r (bD aJu r)<|aR r (aK (v:=aI) fM r r r)<|aR r (bD aJu r)<|aR r (aK (v:=aI) fM r r r)<|aR r (bU r r)<|mB r<|og r r r (fun u=>(bD aBU r))<|og r r r (fun u=>(aK (v:=aI) fM (gx r u) r r))<|og r r r (fun u=>(bD aBU r))<|og r r r (fun u=>(aK (v:=aI) fM (gx r u) r r))<|og r r r (fun u=>(bU (gx r u) (gx r u)))<|aR r (bV r r r (fun e=>fJ e))<|mB r<|og r r r (fun u=>(bD aJv r))<|og r r r (fun u=>(aK (v:=aI) fM (gx r u) r r))<|og r r r (fun u=>(bD aJv r))<|og r r r (fun u=>(aK (v:=aI) fM (gx r u) r r))<|og r r r (fun u=>(bU (gx r u) (gx r u)))<|aR r (bV r r r (fun e=>fJ e))<|mB r<|og r r r (fun u=>(bD aDV r))<|og r r r (fun u=>(aK (v:=aI) fM (gx r u) r r))<|og r r r (fun u=>(bD aDV r))<|og r r r (fun u=>(aK (v:=aI) fM (gx r u) r r))<|og r r r (fun u=>(bU (gx r u) (gx r u)))<|aR r (bV r r r (fun e=>fJ e))<|mB r<|og r r r (fun u=>(bD aDW r))<|og r r r (fun u=>(aK (v:=aI) fM (gx r u) r r))<|og r r r (fun u=>(bD aDW r))<|og r r r (fun u=>(aK (v:=aI) fM (gx r u) r r))<|og r r r (fun u=>(bU (gx r u) (gx r u)))<|aR r (bV r r r (fun e=>fJ e))<|mB r<|og r r r (fun u=>(bD aBh r))<|og r r r (fun u=>(aK (v:=aI) fM (gx r u) r r))<|og r r r (fun u=>(bD aBh r))<|og r r r (fun u=>(aK (v:=aI) fM (gx r u) r r))<|og r r r (fun u=>(bU (gx r u) (gx r u)))<|aR r (bV r r r (fun e=>fJ e))<|mB r<|og r r r (fun u=>(bD aDc r))<|og r r r (fun u=>(aK (v:=aI) fM (gx r u) r r))<|og r r r (fun u=>(bD aDc r))<|og r r r (fun u=>(aK (v:=aI) fM (gx r u) r r))<|og r r r (fun u=>(bU (gx r u) (gx r u)))<|aR r (bV r r r (fun e=>fJ e))<|mB r<|og r r r (fun u=>(bD yZ r))<|og r r r (fun u=>(aK (v:=aS) lP (gx r u) r r))<|og r r r (fun u=>(bD yZ r))<|og r r r (fun u=>(aK (v:=aS) lP (gx r u) r r))<|og r r r (fun u=>(qX (gx r u) (gx r u)))<|aR r (bV r r r (fun e=>fJ e))<|mB r<|og r r r (fun u=>(bD zB r))<|og r r r (fun u=>(aK (v:=aS) lP (gx r u) r r))<|og r r r (fun u=>(bD zB r))<|og r r r (fun u=>(aK (v:=aS) lP (gx r u) r r))<|og r r r (fun u=>(qX (gx r u) (gx r u)))<|aR r (bV r r r (fun e=>fJ e))<|mB r<|og r r r (fun u=>(bD aBV r))<|og r r r (fun u=>(dL (us:=cE) iO (gx r u) r r r))<|og r r r (fun u=>(bD aBV r))<|og r r r (fun u=>(dL (us:=cE) iO (gx r u) r r r))<|bx h fun x1 y1 h2=>sX r r (fun u=>bL (v:=aB) r (aCb (cU y1 u)) ⟨(eW (gx r u) (bQ r kR5)),(eW (gx r u) (bQ r kR5)),trivial⟩ (fT (by repeat (first | exact eN | refine aY r ?_ | refine aY (pP r) ?_ | refine aY pO ?_))) r r) ?_
 refine aR r (bV r r r (fun e=>fJ e))<|mB r<|og r r r (fun u=>(bD aC1 r))<|og r r r (fun u=>(dL (us:=dO) yT (gx r u) r r r))<|og r r r (fun u=>(bD aC1 r))<|og r r r (fun u=>(dL (us:=dO) yT (gx r u) r r r))<|bx h2 fun x3 y3 h4=>sX r r (fun u=>bL (v:=aB) r (wF (cU y3 u)) ⟨(eW (gx r u) (bQ r aBA)),(eW (gx r u) (bQ r aBA)),trivial⟩ (fT (by repeat (first | exact eN | refine aY r ?_ | refine aY (pP r) ?_ | refine aY pO ?_))) r r) ?_
 refine aR r (bV r r r (fun e=>fJ e))<|sB r<|aG (fr':=[(4,aB)]) r r<|bK ?_
 obtain rfl:=sy h4
 exact bJ (rs':=[.tmp 4]) r<|bS (v:=aB) r<|bI<|aN [] r r r lr aD
