import Derived.Test.YtnigjppddilpcaaGreatDoorGETy
import Derived.Test.YtnigjppddilpcaaGreatDoorGEF4
import Derived.Test.YtnigjppddilpcaaGreatDoorGEF5
namespace Go.Proofs.YtnigjppddilpcaaGreatDoor
open Go Abs
set_option maxRecDepth 100000
set_option linter.unusedVariables false
set_option linter.unusedSimpArgs false
noncomputable def mN (dA:aM):Option (bW × aM) :=
 (eC (-9223372036854775808) 9223372036854775807 dA).bind fun x1=>(eC (-9223372036854775808) 9223372036854775807 x1.2).bind fun x3=>(eC (-9223372036854775808) 9223372036854775807 x3.2).bind fun x5=>(eC (-9223372036854775808) 9223372036854775807 x5.2).bind fun x7=>(eC (-9223372036854775808) 9223372036854775807 x7.2).bind fun x9=>(eC (-9223372036854775808) 9223372036854775807 x9.2).bind fun x11=>(eC (-9223372036854775808) 9223372036854775807 x11.2).bind fun x13=>(hG 4096 x13.2).bind fun x15=>(hG 4096 x15.2).bind fun x17=>(rP x17.2).bind fun x19=>(kW x19.2).bind fun x21=>(((gP x21.2).bind fun x26=>(gd ((decide (x26=0))==true) (xD (bW.mk x1.1 x3.1 x5.1 x7.1 x9.1 x11.1 x13.1 x15.1 x17.1 x19.1 x21.1))).bind fun x28=>cond (cond (decide (x26=0)) (!x28) false) ((lN 11 x21.2).bind fun x31=>some x31) (some x21.2)):Option aM).bind fun x23=>((gP x23).bind fun x34=>cond (!decide (x34=0)) (some ((bW.mk 0 0 0 0 0 0 0 ([]:List UInt8) ([]:List UInt8) (aF.mk 0 0 ([]:List UInt8) ([]:(List aF)) ([]:(List (List UInt8)))) (bV.mk ([]:List UInt8) 0 0 0 0 0 0 0 0 ([]:(List (List UInt8))))),x23)) (some ((bW.mk x1.1 x3.1 x5.1 x7.1 x9.1 x11.1 x13.1 x15.1 x17.1 x19.1 x21.1),x23)))
theorem aCd {dA:aM}{res:(bW × aM)} (h:mN dA=some res):cX Tryz.prog 27 [.box 0 0] [AV.cs (fL dA)] (.agg (AV.cs (eM res.1))) [AV.cs (fL res.2)]:=by
 unfold mN at h
 refine dR (fn:=Tryz.f27) [0,2,3,5,13,14,15,16,43,48] (by kernel_rfl) Tryz.func27 r (by kernel_rfl) (by kernel_rfl)<|aJ<|jV (n:=1) (cs:=aE) (σ':=[eG,aE]) aLE r r r<|aH (fr':=[(0,aD),(2,bD)]) r r<|aJ<|jV (n:=2) (cs:=aE) (σ':=[eG,aE,aE]) aLE r r r<|aH (fr':=[(0,aD),(2,bD),(3,dE)]) r r<|aX<|aJ<|aU r (bU aG5 r)<|aU r (bU aAU r)<|aU r (bU aG6 r)<|aU r (bU aCA r)<|aU r (bU aCB r)<|aU r (bU aAC r)<|aU r (bU aB7 r)<|aOi (l:=[(2,0),(2,1),(2,2),(2,3),(2,4),(2,5),(2,6)]) uG r r r r<|aU r (aLo aTu r)<|mI r<|aH (fr':=[(0,aD),(2,bD),(3,dE),(13,.ptrs [(2,0),(2,1),(2,2),(2,3),(2,4),(2,5),(2,6)]),(14,aI),(15,aI)]) r r<|cP<|aPy 64<|xH<|aJ<|aU r (yK (fY r r) (show _=.bool true from r))<|aH (fr':=[(0,aD),(2,bD),(3,dE),(13,.ptrs [(2,0),(2,1),(2,2),(2,3),(2,4),(2,5),(2,6)]),(14,aI),(15,aI),(16,aB)]) r r<|aX<|kI r<|bI<|dB<|aX<|cP<|aJ<|aU r (oX (p:=(2,0)) uG r r r)<|aU r (kC vM r)<|sV (v:=dE) r<|aH (fr':=[(0,aD),(2,bD),(3,dE),(5,dE),(13,.ptrs [(2,0),(2,1),(2,2),(2,3),(2,4),(2,5),(2,6)]),(14,aI),(15,aI)]) r r<|bA<|mV (v:=dE) r<|mV (v:=aD) r<|bx h fun x1 hx1 h2=>dP (v:=aI) (σ':=[eG,aE,aE]) [0] r (jG hx1) r r nW (fE sG aC) r r r<|aU r (iV r)<|cN (v:=aI) (us:=[aI]) (cs:=aE) (σ':=[eG,aE,aE]) r hU r r r r r r r r<|dQ (fr':=[(0,aD),(2,bD),(3,dE),(5,dE),(13,.ptrs [(2,0),(2,1),(2,2),(2,3),(2,4),(2,5),(2,6)]),(14,aI),(15,aI)]) r<|dI<|dB<|bA<|aU r (yK (fX r r) (show _=.int .i64 (1:Int) from r))<|mI r<|dQ (fr':=[(0,aD),(2,bD),(3,dE),(5,dE),(13,.ptrs [(2,0),(2,1),(2,2),(2,3),(2,4),(2,5),(2,6)]),(14,aI),(15,aI)]) r<|mC<|xH<|aX<|bA<|aU r (yK (fY r r) (show _=.bool true from r))<|aH (fr':=[(0,aD),(2,bD),(3,dE),(13,.ptrs [(2,0),(2,1),(2,2),(2,3),(2,4),(2,5),(2,6)]),(14,aI),(15,aI),(16,aB)]) r r<|aX<|kI r<|bI<|dB<|aX<|cP<|aJ<|aU r (oX (p:=(2,1)) uG r r r)<|aU r (kC vM r)<|sV (v:=aE2) r<|aH (fr':=[(0,aD),(2,bD),(3,dE),(5,aE2),(13,.ptrs [(2,0),(2,1),(2,2),(2,3),(2,4),(2,5),(2,6)]),(14,aI),(15,aI)]) r r<|bA<|mV (v:=aE2) r<|mV (v:=aD) r<|bx h2 fun x3 hx3 h4=>dP (v:=aI) (σ':=[eG,aE,aE]) [0] r (jG hx3) r r nW (fE sG aC) r r r<|aU r (iV r)<|cN (v:=aI) (us:=[aI]) (cs:=aE) (σ':=[eG,aE,aE]) r hU r r r r r r r r<|dQ (fr':=[(0,aD),(2,bD),(3,dE),(5,aE2),(13,.ptrs [(2,0),(2,1),(2,2),(2,3),(2,4),(2,5),(2,6)]),(14,aI),(15,aI)]) r<|dI<|dB<|bA<|aU r (yK (fX r r) (show _=.int .i64 (2:Int) from r))<|mI r<|dQ (fr':=[(0,aD),(2,bD),(3,dE),(5,aE2),(13,.ptrs [(2,0),(2,1),(2,2),(2,3),(2,4),(2,5),(2,6)]),(14,aI),(15,aI)]) r<|mC<|xH<|aX<|bA<|aU r (yK (fY r r) (show _=.bool true from r))<|aH (fr':=[(0,aD),(2,bD),(3,dE),(13,.ptrs [(2,0),(2,1),(2,2),(2,3),(2,4),(2,5),(2,6)]),(14,aI),(15,aI),(16,aB)]) r r<|aX<|kI r<|bI<|dB<|aX<|cP<|aJ<|aU r (oX (p:=(2,2)) uG r r r)<|aU r (kC vM r)<|sV (v:=aE3) r<|aH (fr':=[(0,aD),(2,bD),(3,dE),(5,aE3),(13,.ptrs [(2,0),(2,1),(2,2),(2,3),(2,4),(2,5),(2,6)]),(14,aI),(15,aI)]) r r<|bA<|mV (v:=aE3) r<|mV (v:=aD) r<|bx h4 fun x5 hx5 h6=>dP (v:=aI) (σ':=[eG,aE,aE]) [0] r (jG hx5) r r nW (fE sG aC) r r r<|aU r (iV r)<|cN (v:=aI) (us:=[aI]) (cs:=aE) (σ':=[eG,aE,aE]) r hU r r r r r r r r<|dQ (fr':=[(0,aD),(2,bD),(3,dE),(5,aE3),(13,.ptrs [(2,0),(2,1),(2,2),(2,3),(2,4),(2,5),(2,6)]),(14,aI),(15,aI)]) r<|dI<|dB<|bA<|aU r (yK (fX r r) (show _=.int .i64 (3:Int) from r))<|mI r<|dQ (fr':=[(0,aD),(2,bD),(3,dE),(5,aE3),(13,.ptrs [(2,0),(2,1),(2,2),(2,3),(2,4),(2,5),(2,6)]),(14,aI),(15,aI)]) r<|mC<|xH<|aX<|bA<|aU r (yK (fY r r) (show _=.bool true from r))<|aH (fr':=[(0,aD),(2,bD),(3,dE),(13,.ptrs [(2,0),(2,1),(2,2),(2,3),(2,4),(2,5),(2,6)]),(14,aI),(15,aI),(16,aB)]) r r<|aX<|kI r<|bI<|dB<|aX<|cP<|aJ<|aU r (oX (p:=(2,3)) uG r r r)<|aU r (kC vM r)<|sV (v:=aDO) r<|aH (fr':=[(0,aD),(2,bD),(3,dE),(5,aDO),(13,.ptrs [(2,0),(2,1),(2,2),(2,3),(2,4),(2,5),(2,6)]),(14,aI),(15,aI)]) r r<|bA<|mV (v:=aDO) r<|mV (v:=aD) r<|bx h6 fun x7 hx7 h8=>dP (v:=aI) (σ':=[eG,aE,aE]) [0] r (jG hx7) r r nW (fE sG aC) r r r<|aU r (iV r)<|cN (v:=aI) (us:=[aI]) (cs:=aE) (σ':=[eG,aE,aE]) r hU r r r r r r r r<|dQ (fr':=[(0,aD),(2,bD),(3,dE),(5,aDO),(13,.ptrs [(2,0),(2,1),(2,2),(2,3),(2,4),(2,5),(2,6)]),(14,aI),(15,aI)]) r<|dI<|dB<|bA<|aU r (yK (fX r r) (show _=.int .i64 (4:Int) from r))<|mI r<|dQ (fr':=[(0,aD),(2,bD),(3,dE),(5,aDO),(13,.ptrs [(2,0),(2,1),(2,2),(2,3),(2,4),(2,5),(2,6)]),(14,aI),(15,aI)]) r<|mC<|xH<|aX<|bA<|aU r (yK (fY r r) (show _=.bool true from r))<|aH (fr':=[(0,aD),(2,bD),(3,dE),(13,.ptrs [(2,0),(2,1),(2,2),(2,3),(2,4),(2,5),(2,6)]),(14,aI),(15,aI),(16,aB)]) r r<|aX<|kI r<|bI<|dB<|aX<|cP<|aJ<|aU r (oX (p:=(2,4)) uG r r r)<|aU r (kC vM r)<|sV (v:=aDP) r<|aH (fr':=[(0,aD),(2,bD),(3,dE),(5,aDP),(13,.ptrs [(2,0),(2,1),(2,2),(2,3),(2,4),(2,5),(2,6)]),(14,aI),(15,aI)]) r r<|bA<|mV (v:=aDP) r<|mV (v:=aD) r<|bx h8 fun x9 hx9 h10=>dP (v:=aI) (σ':=[eG,aE,aE]) [0] r (jG hx9) r r nW (fE sG aC) r r r<|aU r (iV r)<|cN (v:=aI) (us:=[aI]) (cs:=aE) (σ':=[eG,aE,aE]) r hU r r r r r r r r<|dQ (fr':=[(0,aD),(2,bD),(3,dE),(5,aDP),(13,.ptrs [(2,0),(2,1),(2,2),(2,3),(2,4),(2,5),(2,6)]),(14,aI),(15,aI)]) r<|dI<|dB<|bA<|aU r (yK (fX r r) (show _=.int .i64 (5:Int) from r))<|mI r<|dQ (fr':=[(0,aD),(2,bD),(3,dE),(5,aDP),(13,.ptrs [(2,0),(2,1),(2,2),(2,3),(2,4),(2,5),(2,6)]),(14,aI),(15,aI)]) r<|mC<|xH<|aX<|bA<|aU r (yK (fY r r) (show _=.bool true from r))<|aH (fr':=[(0,aD),(2,bD),(3,dE),(13,.ptrs [(2,0),(2,1),(2,2),(2,3),(2,4),(2,5),(2,6)]),(14,aI),(15,aI),(16,aB)]) r r<|aX<|kI r<|bI<|dB<|aX<|cP<|aJ<|aU r (oX (p:=(2,5)) uG r r r)<|aU r (kC vM r)<|sV (v:=aE4) r<|aH (fr':=[(0,aD),(2,bD),(3,dE),(5,aE4),(13,.ptrs [(2,0),(2,1),(2,2),(2,3),(2,4),(2,5),(2,6)]),(14,aI),(15,aI)]) r r<|bA<|mV (v:=aE4) r<|mV (v:=aD) r<|bx h10 fun x11 hx11 h12=>dP (v:=aI) (σ':=[eG,aE,aE]) [0] r (jG hx11) r r nW (fE sG aC) r r r<|aU r (iV r)<|cN (v:=aI) (us:=[aI]) (cs:=aE) (σ':=[eG,aE,aE]) r hU r r r r r r r r<|dQ (fr':=[(0,aD),(2,bD),(3,dE),(5,aE4),(13,.ptrs [(2,0),(2,1),(2,2),(2,3),(2,4),(2,5),(2,6)]),(14,aI),(15,aI)]) r<|dI<|dB<|bA<|aU r (yK (fX r r) (show _=.int .i64 (6:Int) from r))<|mI r<|dQ (fr':=[(0,aD),(2,bD),(3,dE),(5,aE4),(13,.ptrs [(2,0),(2,1),(2,2),(2,3),(2,4),(2,5),(2,6)]),(14,aI),(15,aI)]) r<|mC<|xH<|aX<|bA<|aU r (yK (fY r r) (show _=.bool true from r))<|aH (fr':=[(0,aD),(2,bD),(3,dE),(13,.ptrs [(2,0),(2,1),(2,2),(2,3),(2,4),(2,5),(2,6)]),(14,aI),(15,aI),(16,aB)]) r r<|aX<|kI r<|bI<|dB<|aX<|cP<|aJ<|aU r (oX (p:=(2,6)) uG r r r)<|aU r (kC vM r)<|sV (v:=aE5) r<|aH (fr':=[(0,aD),(2,bD),(3,dE),(5,aE5),(13,.ptrs [(2,0),(2,1),(2,2),(2,3),(2,4),(2,5),(2,6)]),(14,aI),(15,aI)]) r r<|bA<|mV (v:=aE5) r<|mV (v:=aD) r<|bx h12 fun x13 hx13 h14=>dP (v:=aI) (σ':=[eG,aE,aE]) [0] r (jG hx13) r r nW (fE sG aC) r r r<|aU r (iV r)<|cN (v:=aI) (us:=[aI]) (cs:=aE) (σ':=[eG,aE,aE]) r hU r r r r r r r r<|dQ (fr':=[(0,aD),(2,bD),(3,dE),(5,aE5),(13,.ptrs [(2,0),(2,1),(2,2),(2,3),(2,4),(2,5),(2,6)]),(14,aI),(15,aI)]) r<|dI<|dB<|bA<|aU r (yK (fX r r) (show _=.int .i64 (7:Int) from r))<|mI r<|dQ (fr':=[(0,aD),(2,bD),(3,dE),(5,aE5),(13,.ptrs [(2,0),(2,1),(2,2),(2,3),(2,4),(2,5),(2,6)]),(14,aI),(15,aI)]) r<|mC<|xH<|aX<|bA<|aU r (yK (fY r r) (show _=.bool false from r))<|aH (fr':=[(0,aD),(2,bD),(3,dE),(13,.ptrs [(2,0),(2,1),(2,2),(2,3),(2,4),(2,5),(2,6)]),(14,aI),(15,aI),(16,aB)]) r r<|aX<|aAI r<|iE<|cZ<|cZ<|fT<|dB<|aJ<|mV (v:=aD) r<|bx h14 fun x15 hx15 h16=>dP (v:=aS) (σ':=[eG,aE,aE]) [0] r (pY hx15) r r kR (fE sG aC) r r r<|aU r (bU xP r)<|cN (v:=aS) (us:=[aS]) (cs:=aE) (σ':=[eG,aE,aE]) r rZ r r r r r r r r<|aH (fr':=[(0,aD),(2,bD),(3,dE)]) r r<|aJ<|mV (v:=aD) r ?_
 obtain ⟨x17,hx17,h18⟩:=eF h16
 refine dP (v:=aS) (σ':=[eG,aE,aE]) [0] r (pY hx17) r r kR (fE sG aC) r r r<|aU r (bU xQ r)<|cN (v:=aS) (us:=[aS]) (cs:=aE) (σ':=[eG,aE,aE]) r rZ r r r r r r r r<|aH (fr':=[(0,aD),(2,bD),(3,dE)]) r r<|aJ<|mV (v:=aD) r<|bx h18 fun x19 hx19 h20=>dP (v:=.agg cJ) (σ':=[eG,aE,aE]) [0] r (aJC hx19) r r ⟨lr,trivial⟩ (fE sG aC) r r r<|aU r (bU aAV r)<|cN (v:=.agg cJ) (us:=cJ) (cs:=aE) (σ':=[eG,aE,lZ]) r jC r r r r r r r r<|aH (fr':=[(0,aD),(2,bD),(3,dE)]) r r<|aJ<|mV (v:=aD) r<|bx h20 fun x21 hx21 h22=>dP (v:=.agg dO) (σ':=[eG,aE,lZ]) [0] r (aDJ hx21) r r ⟨lr,trivial⟩ (fE sG aC) r r r<|aU r (bU aBG r)<|cN (v:=.agg dO) (us:=dO) (cs:=lZ) (σ':=[eG,aE,aG]) r zW r r r r r r r r<|aH (fr':=[(0,aD),(2,bD),(3,dE)]) r r<|bx h22 fun x23 hx23 h24=>kF (fun j25=>x23=j25) (fun (j25:aM)=>([(0,aD),(2,bD),(3,dE)]:Fr)) (fun (j25:aM)=>([[.c (PV.ls 1 gW j25.b_),ci j25.at_,ci j25.err_,.c (.bool j25.made_)],[ci 0,ci 0,ci 0,ci 0,ci 0,ci 0,ci 0,.c (.str ([]:List UInt8)),.c (.str ([]:List UInt8)),ci 0,ci 0,.c (.str ([]:List UInt8)),AV.nil,AV.nil,.c (.str ([]:List UInt8)),ci 0,ci 0,ci 0,ci 0,ci 0,ci 0,ci 0,ci 0,AV.nil],[ci x1.1,ci x3.1,ci x5.1,ci x7.1,ci x9.1,ci x11.1,ci x13.1,.c (.str x15.1),.c (.str x17.1),ci x19.1.Kind,ci x19.1.Int,.c (.str x19.1.Text),.c (PV.ls 5 cF x19.1.Items),.c (PV.ls 1 iF x19.1.Keys),.c (.str x21.1.Queue),ci x21.1.ToStart,ci x21.1.ToClose,ci x21.1.Total,ci x21.1.Beat,ci x21.1.First,ci x21.1.Coef,ci x21.1.Most,ci x21.1.Attempts,.c (PV.ls 1 iF x21.1.Fatal)]]:St)) ?_ ?_
 ·
  refine aJ<|mV (v:=aD) r<|bx hx23 fun x26 hx26 h27=>dP (v:=aI) (σ':=[eG,aE,aG]) [0] r (jF hx26) r r ⟨lr,trivial⟩ (fE sG aC) r r r<|aU r (cQ r r)<|mB r<|og r r r (fun hc=>(eL (us:=aG) zJ r r r r))<|bx h27 fun x28 hx28 h29=>zG r r (fun hc=>cA (v:=aB) r (aFg (dM hx28 hc)) ⟨(iA (gx r hc) (cM r aEg)),trivial⟩ (iO (by repeat (first | exact fU | refine bG r ?_ | refine bG (vD r) ?_ | refine bG vC ?_))) r r) ?_
  refine og r r r (fun hc=>(gX (gx r hc)))<|aU r (cS r r r (fun e=>hH e))<|aH (fr':=[(0,aD),(2,bD),(3,dE),(43,aB)]) r r<|cU h29 r (fun hb30 h30=>?_) (fun hb30 h30=>?_)
  ·
   exact bA<|mV (v:=aD) r<|bx h30 fun x31 hx31 h32=>dP (v:=_) (σ':=[eG,aE,aG]) [0] r (vT hx31) r r kR (fE sG aC) r r r<|dQ (fr':=[(0,aD),(2,bD),(3,dE),(43,aB)]) r<|lB _ (sy h32) (bJ [] 3 r r r r nW (cO r (cO r (cO r aC))))
  ·
   exact bI<|lB _ (sy h30) (bJ [] 3 r r r r nW (cO r (cO r (cO r aC))))
 ·
  intro j25 hj33
  subst hj33
  refine aX<|aJ<|mV (v:=aD) r<|bx h24 fun x34 hx34 h35=>dP (v:=aI) (σ':=[eG,aE,aG]) [0] r (jF hx34) r r ⟨lr,trivial⟩ (fE sG aC) r r r<|aU r (iZ r r)<|aH (fr':=[(2,bD),(3,dE),(48,aB)]) r r<|cU h35 r (fun hb36 h36=>?_) (fun hb36 h36=>?_)
  ·
   refine aJ<|aU r (rI (c0:=aE) (cs:=aE) aQx r rH)<|cN (v:=.agg aE) (us:=aE) (cs:=aE) (σ':=[eG,aE,aG]) r zJ r r r r r r r r<|aH (fr':=[(2,bD)]) r r<|bO<|aN ?_
   obtain rfl:=sy h36
   exact bN (rs':=[.cell 2 30]) r<|eX (us:=aE) (cs:=aE) zJ r r r r<|bM<|aP [] r r r (cM r ⟨r,r,r,r,r,r,r,r,r,r,r,r,⟨_,r⟩,⟨_,r⟩,r,r,r,r,r,r,r,r,r,⟨_,r⟩,trivial⟩) (fE sG aC)
  ·
   refine bI<|dB<|aJ<|aU r (eL (us:=aG) zJ r r r r)<|cN (v:=.agg aG) (us:=aG) (cs:=aE) (σ':=[eG,aG,aG]) r zJ r r r r r r r r<|aH (fr':=[(2,bD)]) r r<|bO ?_
   obtain rfl:=sy h36
   exact bN (rs':=[.cell 2 30]) r<|eX (us:=aG) (cs:=aG) zJ r r r r<|bM<|aP [] r r r (cM r aEg) (fE sG aC)
noncomputable def pH (dA:aM):Option Int :=
 (gP dA).bind fun x1=>cond (!decide (x1=0)) (some x1) (cond (decide (dA.at_<((dA.b_).length:Int))) (some 3) (some 0))
theorem aGD {dA:aM}{res:Int} (h:pH dA=some res):cX Tryz.prog 65 [.box 0 0] [AV.cs (fL dA)] (ci res) [AV.cs (fL dA)]:=by
 unfold pH at h
 refine dR (fn:=Tryz.f65) [0,2,3,7,18] (by kernel_rfl) Tryz.func65 r (by kernel_rfl) (by kernel_rfl)<|aJ<|sI r<|aH (fr':=[(0,aD)]) r r<|aX<|aJ<|mV (v:=aD) r<|bx h fun x1 hx1 h2=>dP (v:=aI) (σ':=[eG]) [0] r (jF hx1) r r ⟨lr,trivial⟩ (fE sG aC) r r r<|sI r<|aH (fr':=[(0,aD),(3,aI)]) r r<|aJ<|mI r<|aU r (iZ r r)<|aH (fr':=[(0,aD),(3,aI),(7,aB)]) r r<|cU h2 r (fun hb3 h3=>?_) (fun hb3 h3=>?_)
 ·
  refine aJ<|mI r<|sI r<|aH (fr':=[(2,aI)]) r r<|bO<|aN ?_
  obtain rfl:=sy h3
  exact bN (rs':=[.tmp 2]) r<|cE (v:=aI) r<|bM<|aP [] r r r lr (cO r aC)
 ·
  refine bI<|dB<|aX<|aX<|lJ [.q 0,.q 1,.q 2,.q 3,.q 4,.q 5,.q 6,.q 7,.q 8,.q 9] [(some 9,[0]),(some 10,[9]),(some 11,[10]),(some 12,[11]),(some 13,[0]),(some 14,[13]),(some 15,[14]),(some 16,[15]),(some 17,[16]),(some 18,[12,17])] [0,1,3,7,0,16,48,112,240,511] (by kernel_rfl)<|dq r r (bK (v:=aD) r)<|dq r r (iV r)<|dq r r (bU aCC r)<|dq r r (aR (v:=aI) hU r r r)<|dq r r (bK (v:=aD) r)<|dq r r (iV r)<|dq r r (bU aJi r)<|dq r r (aR (v:=aL) aEu r r r)<|dq r r (gT aAM (eA r))<|dq r r (fY r r)<|aAe (fr':=[(18,aB)]) r r<|cU h3 r (fun hb5 h5=>?_) (fun hb5 h5=>?_)
  ·
   refine aJ<|sI r<|aH (fr':=[(2,aI)]) r r<|bO<|aN ?_
   obtain rfl:=sy h5
   exact bN (rs':=[.tmp 2]) r<|cE (v:=aI) r<|bM<|aP [] r r r lr (cO r aC)
  ·
   refine bI<|dB<|aJ<|sI r<|aH (fr':=[(2,aI)]) r r<|bO ?_
   obtain rfl:=sy h5
   exact bN (rs':=[.tmp 2]) r<|cE (v:=aI) r<|bM<|aP [] r r r lr (cO r aC)
noncomputable def kY (x28:(Int × aM)) (s33:((List bW) × Int × aM)):Option (dN ((List bW) × Int × aM) ((List bW) × aM)) :=
 cond (decide (s33.2.1<x28.1)) ((mN s33.2.2).bind fun x35=>(app 272 s33.1 ([x35.1]:List bW)).bind fun x37=>(gP x35.2).bind fun x39=>cond (!decide (x39=0)) (some (dN.out (x37,x35.2))) (some (dN.next (x37,(IntKind.wrap .i64 (s33.2.1+1)),x35.2)))) (some (dN.out (s33.1,s33.2.2)))
noncomputable def kX (p0b:(List UInt8)):Option ((List bW) × Int) :=
 cond (decide (((p0b).length:Int)<4)) (some (([]:(List bW)),4)) ((aNe p0b (IntKind.wrap .i64 (((p0b).length:Int) - 4))).bind fun x3=>(pQ (List.take (Int.toNat (IntKind.wrap .i64 (((p0b).length:Int) - 4))) p0b)).bind fun x5=>(aNf p0b (IntKind.wrap .i64 (((p0b).length:Int) - 4))).bind fun x7=>(aKO 4 (List.drop (Int.toNat (IntKind.wrap .i64 (((p0b).length:Int) - 4))) p0b)).bind fun x9=>(lO (List.drop (Int.toNat (IntKind.wrap .i64 (((p0b).length:Int) - 4))) p0b) 0).bind fun x11=>(lO (List.drop (Int.toNat (IntKind.wrap .i64 (((p0b).length:Int) - 4))) p0b) 1).bind fun x12=>(lO (List.drop (Int.toNat (IntKind.wrap .i64 (((p0b).length:Int) - 4))) p0b) 2).bind fun x13=>(lO (List.drop (Int.toNat (IntKind.wrap .i64 (((p0b).length:Int) - 4))) p0b) 3).bind fun x14=>cond (!(decide (x5.E0=((x11).toNat:Int))&&(decide (x5.E1=((x12).toNat:Int))&&(decide (x5.E2=((x13).toNat:Int))&&(decide (x5.E3=((x14).toNat:Int))&&true))))) (some (([]:(List bW)),5)) ((aNe p0b (IntKind.wrap .i64 (((p0b).length:Int) - 4))).bind fun x21=>(yC (List.take (Int.toNat (IntKind.wrap .i64 (((p0b).length:Int) - 4))) p0b)).bind fun x23=>(((eC 0 2000 x23).bind fun x28=>(fI (kY x28) ((([]:(List bW)),0,x28.2))).bind fun x30=>(some (x30.1,x30.2))):Option ((List bW) × aM)).bind fun x25=>((pH x25.2).bind fun x46=>cond (!decide (x46=0)) (some (([]:(List bW)),x46)) (some (x25.1,0)))))
theorem yJ {p0b:(List UInt8)}{res:((List bW) × Int)} (h:kX p0b=some res):cX Tryz.prog 22 [.c (PV.ls 1 gW p0b)] [] (.tup [AV.os 0 24 eM res.1,ci res.2]) []:=by
 unfold kX at h
 refine dR (fn:=Tryz.f22) [0,2,3,4,5,6,7,10,23,29,30,31,39,44] (by kernel_rfl) Tryz.func22 r (by kernel_rfl) (by kernel_rfl)<|aJ<|sV (v:=AV.nil) r<|sI r<|aH (fr':=[(0,aL)]) r r<|aX<|aJ<|mL r<|aU r (gT aAM (eA r))<|aU r (fY r r)<|aH (fr':=[(0,aL),(10,aB)]) r r<|cU h r (fun hb1 h1=>?_) (fun hb1 h1=>?_)
 ·
  refine aJ<|sV (v:=AV.nil) r<|sI r<|aH (fr':=[(2,AV.nil),(3,aI)]) r r<|bO<|aN ?_
  obtain rfl:=sy h1
  exact bN (rs':=[.tmp 2,.tmp 3]) r<|cE (v:=AV.nil) r<|cE (v:=aI) r<|bM<|aP [1000000] r r r (tL r ⟨(wK r),lr,trivial⟩) aC
 ·
  refine bI<|dB<|aJ<|mL r<|aU r (gT aAM (eA r))<|aU r (aCQ r r)<|sI r<|aH (fr':=[(0,aL),(4,aI)]) r r<|aX<|aX<|lJ [.q 0,.q 1,.q 2,.q 3,.q 4,.q 5,.q 6,.q 7,.q 8,.q 9] [(some 14,[0]),(some 15,[4]),(some 16,[14,15]),(some 17,[16]),(some 18,[0]),(some 19,[4]),(some 20,[18,19]),(some 21,[20]),(some 22,[21]),(some 23,[17,22])] [0,0,3,7,0,0,48,112,240,511] (by kernel_rfl)<|dq r r (bK (v:=aL) r)<|dq r r (bK (v:=aI) r)<|bx h1 fun x3 hx3 h4=>dq r r (aIW aJl yW (eA r) r (aCY hx3).1)<|bx h4 fun x5 hx5 h6=>d_q r (aAZ (v:=.agg aAb) r (aBn hx5) ⟨lr,trivial⟩ r)<|dq r r (bK (v:=aL) r)<|dq r r (bK (v:=aI) r)<|bx h6 fun x7 hx7 h8=>dq r r (aIX aJl yW (eA r) r (aCZ hx7).1)<|bx h8 fun x9 hx9 h10=>dq r r (aVH aUN (eA r) hx9) ?_
  obtain ⟨x11,hx11,h15⟩:=eF h10
  obtain ⟨x12,hx12,h16⟩:=eF h15
  obtain ⟨x13,hx13,h17⟩:=eF h16
  obtain ⟨x14,hx14,h18⟩:=eF h17
  refine dq r r (aS4 aRW r hx11 hx12 hx13 hx14)<|dq r r (aUu aU8 aRW aWq r r r r)<|aAe (fr':=[(0,aL),(4,aI),(23,aB)]) r r<|cU h18 r (fun hb19 h19=>?_) (fun hb19 h19=>?_)
  ·
   refine aJ<|sV (v:=AV.nil) r<|sI r<|aH (fr':=[(2,AV.nil),(3,aI)]) r r<|bO<|aN ?_
   obtain rfl:=sy h19
   exact bN (rs':=[.tmp 2,.tmp 3]) r<|cE (v:=AV.nil) r<|cE (v:=aI) r<|bM<|aP [1000000] r r r (tL r ⟨(wK r),lr,trivial⟩) aC
  ·
   refine bI<|dB<|aJ<|mL r<|mI r<|bx h19 fun x21 hx21 h22=>aU r (aIW aJl yW (eA r) r (aCY hx21).1)<|bx h22 fun x23 hx23 h24=>dP (v:=aD) (σ':=[eG]) [] r (aHt hx23) r r ⟨lr,trivial⟩ aC r r r<|sV (v:=aD) r<|aH (fr':=[(5,aD)]) r r<|aJ<|sV (v:=AV.nil) r<|aH (fr':=[(5,aD),(6,AV.nil)]) r r<|bx h24 fun x25 hx25 h26=>kF (fun j27=>x25=j27) (fun (j27:((List bW) × aM))=>([(5,aD),(6,AV.os 0 24 eM j27.1)]:Fr)) (fun (j27:((List bW) × aM))=>([[.c (PV.ls 1 gW j27.2.b_),ci j27.2.at_,ci j27.2.err_,.c (.bool j27.2.made_)]]:St)) ?_ ?_
   ·
    refine aJ<|mV (v:=aD) r<|bx hx25 fun x28 hx28 h29=>dP (v:=aI) (σ':=[eG]) [0] r (jG hx28) r r nW (fE sG aC) r r r<|mI r<|aH (fr':=[(5,aD),(6,AV.nil),(29,aI),(30,aI)]) r r<|bx h29 fun x30 hx30 h31=>hF aWp (fun j32=>x30=j32) (fun (j32:((List bW) × aM))=>([(5,aD),(6,AV.os 0 24 eM j32.1)]:Fr)) (fun (j32:((List bW) × aM))=>([[.c (PV.ls 1 gW j32.2.b_),ci j32.2.at_,ci j32.2.err_,.c (.bool j32.2.made_)]]:St)) ?_ ?_
    ·
     refine cP<|gY _ (fun (s33:((List bW) × Int × aM))=>([(5,aD),(6,AV.os 0 24 eM s33.1),(29,ci x28.1),(30,ci s33.2.1)]:Fr)) (fun (s33:((List bW) × Int × aM))=>([[.c (PV.ls 1 gW s33.2.2.b_),ci s33.2.2.at_,ci s33.2.2.err_,.c (.bool s33.2.2.made_)]]:St)) hx30 (bJ [1000000] 1 r r r r ⟨lr,(wK r),lr,lr,trivial⟩ (cO r aC)) ?_
     intro s33 st33 hs33 ho33
     unfold kY at hs33
     refine aJ<|aU r (fY r r)<|aH (fr':=[(5,aD),(6,aO),(29,aI),(30,aI),(31,aB)]) r r<|aX<|cU hs33 r (fun hb34 h34=>?_) (fun hb34 h34=>?_)
     ·
      refine bI<|dB<|aX<|cP<|aJ<|mV (v:=aO) r<|mV (v:=aD) r<|bx h34 fun x35 hx35 h36=>dP (v:=.agg aG) (σ':=[eG]) [0] r (aCd hx35) r r ⟨lr,trivial⟩ (fE sG aC) r r r<|uU (row:=eM) (xs:=([x35.1]:List bW)) (rows:=[[_,_,_,_,_,_,_,_,_,_,_,_,_,_,_,_,_,_,_,_,_,_,_,_]]) (σ':=[eG]) [0,0,0,0,0,0,0,0,0,0,0,0,5,1,0,0,0,0,0,0,0,0,0,1] aJ1 r r r (fR r oL) r r<|bx h36 fun x37 hx37 h38=>aCn (row:=eM) aJ1 r aLC r (nB r) (fun _=>r) hx37<|sV (v:=aO) r<|aH (fr':=[(5,aD),(6,aO),(29,aI),(30,aI)]) r r<|aJ<|mV (v:=aD) r<|bx h38 fun x39 hx39 h40=>dP (v:=aI) (σ':=[eG]) [0] r (jF hx39) r r ⟨lr,trivial⟩ (fE sG aC) r r r<|aU r (iZ r r)<|aH (fr':=[(5,aD),(6,aO),(29,aI),(30,aI),(39,aB)]) r r<|cU h40 r (fun hb41 h41=>?_) (fun hb41 h41=>?_)
      ·
       refine iE<|aSN r<|cZ<|cZ<|fT ?_
       have h42:=eS h41 ho33
       exact lB _ (sy h42) (bJ [576] 1 r r r r kR (cO r aC))
      ·
       exact bI<|dI<|dB<|bA<|aU r (fX r r)<|mI r<|dQ (fr':=[(5,aD),(6,aO),(29,aI),(30,aI),(39,aB)]) r<|zY _ (sy h41) (bJ [576] 1 r r r r kL4 (cO r aC))
     ·
      refine iE<|cZ<|cZ<|fT ?_
      have h43:=eS h34 ho33
      exact lB _ (sy h43) (bJ [0] 1 r r r r kR (cO r aC))
    ·
     intro j32 hj44
     subst hj44
     exact lB _ (sy h31) (bJ [0] 1 r r r r kR (cO r aC))
   ·
    intro j27 hj45
    subst hj45
    refine aX<|aJ<|mV (v:=aD) r<|bx h26 fun x46 hx46 h47=>dP (v:=aI) (σ':=[eG]) [0] r (aGD hx46) r r ⟨lr,trivial⟩ (fE sG aC) r r r<|sI r<|aH (fr':=[(6,aO),(7,aI)]) r r<|aJ<|mI r<|aU r (iZ r r)<|aH (fr':=[(6,aO),(7,aI),(44,aB)]) r r<|cU h47 r (fun hb48 h48=>?_) (fun hb48 h48=>?_)
    ·
     refine aJ<|mI r<|sV (v:=AV.nil) r<|sI r<|aH (fr':=[(2,AV.nil),(3,aI)]) r r<|bO<|aN ?_
     obtain rfl:=sy h48
     exact bN (rs':=[.tmp 2,.tmp 3]) r<|cE (v:=AV.nil) r<|cE (v:=aI) r<|bM<|aP [1000000] r r r (tL r ⟨(wK r),lr,trivial⟩) aC
    ·
     refine bI<|dB<|aJ<|mV (v:=aO) r<|sV (v:=aO) r<|sI r<|aH (fr':=[(2,aO),(3,aI)]) r r<|bO ?_
     obtain rfl:=sy h48
     exact bN (rs':=[.tmp 2,.tmp 3]) r<|cE (v:=aO) r<|cE (v:=aI) r<|bM<|aP [0] r r r (tL r kR) aC
noncomputable def aA0 (p0a:aF) (p1b:aF) (s6:Int):Option (dN Int (Fl Bool Unit)) :=
 cond (decide (s6<((p0a.Keys).length:Int))) ((lO p0a.Keys s6).bind fun x8=>(lO p1b.Keys s6).bind fun x10=>cond (!decide (x8=x10)) (some (dN.out (Fl.done false))) (some (dN.next (IntKind.wrap .i64 (s6+1))))) (some (dN.out (Fl.go ())))
noncomputable def aA1 (aI5:aF→aF→Option Bool) (p0a:aF) (p1b:aF) (s21:Int):Option (dN Int (Fl Bool Unit)) :=
 cond (decide (s21<((p0a.Items).length:Int))) ((lO p0a.Items s21).bind fun x23=>(lO p1b.Items s21).bind fun x25=>(aI5 x23 x25).bind fun x27=>cond (!x27) (some (dN.out (Fl.done false))) (some (dN.next (IntKind.wrap .i64 (s21+1))))) (some (dN.out (Fl.go ())))
noncomputable def xJ:Nat→aF→aF→Option Bool
 | 0,_,_=>none
 | n+1,p0a,p1b =>
  cond (cond (cond (cond (cond (!decide (p0a.Kind=p1b.Kind)) true (!decide (p0a.Int=p1b.Int))) true (!decide (p0a.Text=p1b.Text))) true (!decide (((p0a.Items).length:Int)=((p1b.Items).length:Int)))) true (!decide (((p0a.Keys).length:Int)=((p1b.Keys).length:Int)))) (some false) ((fI (aA0 p0a p1b) (0)).bind fun x3=>Fl.next x3 (fun j5=>((fI (aA1 (xJ n) p0a p1b) (0)).bind fun x18=>Fl.next x18 (fun j20=>(some true)))))
theorem aJ4:∀ n:Nat,(∀ {p0a:aF}{p1b:aF}{res:Bool},xJ n p0a p1b=some res→cX Tryz.prog 66 [.agg (AV.cs (eR p0a)),.agg (AV.cs (eR p1b))] [] (.c (.bool res)) []):=by
 intro n
 induction n with
 | zero=>exact fun {p0a p1b res} h=>absurd h (by simp [xJ])
 | succ n ih =>
  have ih_ref02xSame:=@ih
  intro p0a p1b res h
  rw [xJ] at h
  refine dR (fn:=Tryz.f66) [0,1,2,3,4,5,6,43,48,61,66,80] (by kernel_rfl) Tryz.func66 r (by kernel_rfl) (by kernel_rfl)<|aJ<|kP (v:=.agg cJ) (n:=0) (cs:=cJ) (σ':=[cJ]) r r r r r<|kP (v:=.agg cJ) (n:=1) (cs:=cJ) (σ':=[cJ,cJ]) r r r r r<|sB r<|aH (fr':=[(2,aD),(3,bD)]) r r<|aX<|aJ<|aU r (bU mE r)<|aU r (aR (v:=aI) hU r r r)<|aU r (bU mE r)<|aU r (aR (v:=aI) hU r r r)<|aU r (iZ r r)<|mB r<|og r r r (fun hc=>(bU rO r))<|og r r r (fun hc=>(aR (v:=aI) hU (gx r hc) r r))<|og r r r (fun hc=>(bU rO r))<|og r r r (fun hc=>(aR (v:=aI) hU (gx r hc) r r))<|og r r r (fun hc=>(iZ (gx r hc) (gx r hc)))<|aU r (dK r r r (fun e=>hH e))<|mB r<|og r r r (fun hc=>(bU uA r))<|og r r r (fun hc=>(aR (v:=aS) rZ (gx r hc) r r))<|og r r r (fun hc=>(bU uA r))<|og r r r (fun hc=>(aR (v:=aS) rZ (gx r hc) r r))<|og r r r (fun hc=>(aCx (gx r hc) (gx r hc)))<|aU r (dK r r r (fun e=>hH e))<|mB r<|og r r r (fun hc=>(bU iB r))<|og r r r (fun hc=>(aR (v:=aL) nS (gx r hc) r r))<|og r r r (fun hc=>(gT vL (eA (gx r hc))))<|og r r r (fun hc=>(bU iB r))<|og r r r (fun hc=>(aR (v:=aL) nS (gx r hc) r r))<|og r r r (fun hc=>(gT vL (eA (gx r hc))))<|og r r r (fun hc=>(iZ (gx r hc) (gx r hc)))<|aU r (dK r r r (fun e=>hH e))<|mB r<|og r r r (fun hc=>(bU oI r))<|og r r r (fun hc=>(aR (v:=aL) qP (gx r hc) r r))<|og r r r (fun hc=>(gT yV (eA (gx r hc))))<|og r r r (fun hc=>(bU oI r))<|og r r r (fun hc=>(aR (v:=aL) qP (gx r hc) r r))<|og r r r (fun hc=>(gT yV (eA (gx r hc))))<|og r r r (fun hc=>(iZ (gx r hc) (gx r hc)))<|aU r (dK r r r (fun e=>hH e))<|aH (fr':=[(2,aD),(3,bD),(43,aB)]) r r<|cU h r (fun hb1 h1=>?_) (fun hb1 h1=>?_)
  ·
   refine aJ<|sB r<|aH (fr':=[(4,aB)]) r r<|bO<|aN ?_
   obtain rfl:=sy h1
   exact bN (rs':=[.tmp 4]) r<|cE (v:=aB) r<|bM<|aP [] r r r lr aC
  ·
   refine bI<|dB<|aX<|aJ<|sI r<|aH (fr':=[(2,aD),(3,bD),(5,aI)]) r r<|bx h1 fun x3 hx3 h4=>hF lP (fun j5=>x3=Fl.go j5) (fun (j5:Unit)=>([(2,aD),(3,bD)]:Fr)) (fun (j5:Unit)=>([[ci p0a.Kind,ci p0a.Int,.c (.str p0a.Text),.c (PV.ls 5 cF p0a.Items),.c (PV.ls 1 iF p0a.Keys)],[ci p1b.Kind,ci p1b.Int,.c (.str p1b.Text),.c (PV.ls 5 cF p1b.Items),.c (PV.ls 1 iF p1b.Keys)]]:St)) ?_ ?_
   ·
    refine cP<|gY _ (fun (s6:Int)=>([(2,aD),(3,bD),(5,ci s6)]:Fr)) (fun (s6:Int)=>([[ci p0a.Kind,ci p0a.Int,.c (.str p0a.Text),.c (PV.ls 5 cF p0a.Items),.c (PV.ls 1 iF p0a.Keys)],[ci p1b.Kind,ci p1b.Int,.c (.str p1b.Text),.c (PV.ls 5 cF p1b.Items),.c (PV.ls 1 iF p1b.Keys)]]:St)) hx3 (bJ [] 2 r r r r nW (cO r (cO r aC))) ?_
    intro s6 st6 hs6 ho6
    unfold aA0 at hs6
    refine aX<|aJ<|mI r<|aU r (bU oI r)<|aU r (aR (v:=aL) qP r r r)<|aU r (gT yV (eA r))<|aU r (fY r r)<|aH (fr':=[(2,aD),(3,bD),(5,aI),(48,aB)]) r r<|cU hs6 r (fun hb7 h7=>?_) (fun hb7 h7=>?_)
    ·
     refine bI<|dB<|aX<|cP<|aX<|lJ [.q 0,.q 1,.q 2,.q 3,.q 4,.q 5,.q 6,.q 7,.q 8,.q 9,.q 10] [(some 51,[2]),(some 52,[51]),(some 53,[5]),(some 54,[52,53]),(some 55,[54]),(some 56,[3]),(some 57,[56]),(some 58,[5]),(some 59,[57,58]),(some 60,[59]),(some 61,[55,60])] [0,1,0,7,15,0,32,0,224,480,1023] (by kernel_rfl)<|dq r r (bU oI r)<|dq r r (aR (v:=aL) qP r r r)<|dq r r (bK (v:=aI) r)<|bx h7 fun x8 hx8 h9=>dq r r (lC (cs:=[PV.str _]) aAW (eA r) r hx8 r)<|dq r r (fO (p:=PV.str _) rZ r r)<|dq r r (bU oI r)<|dq r r (aR (v:=aL) qP r r r)<|dq r r (bK (v:=aI) r)<|bx h9 fun x10 hx10 h11=>dq r r (lC (cs:=[PV.str _]) aAW (eA r) r hx10 r)<|dq r r (fO (p:=PV.str _) rZ r r)<|dq r r (aCx r r)<|aAe (fr':=[(2,aD),(3,bD),(5,aI),(61,aB)]) r r<|cU h11 r (fun hb12 h12=>?_) (fun hb12 h12=>?_)
     ·
      refine aJ<|sB r<|aH (fr':=[(4,aB)]) r r<|bO<|bT<|aN<|aN<|bT<|aN<|aN ?_
      have h13:=eS h12 ho6
      have h14:=gI h13 h4
      obtain rfl:=sy h14
      exact bN (rs':=[.tmp 4]) r<|cE (v:=aB) r<|bM<|aP [] r r r lr aC
     ·
      exact bI<|dI<|dB<|bA<|mI r<|aU r (fX r r)<|sI r<|dQ (fr':=[(2,aD),(3,bD),(5,aI),(61,aB)]) r<|zY _ (sy h12) (bJ [] 2 r r r r nW (cO r (cO r aC)))
    ·
     refine iE<|cZ<|cZ<|fT ?_
     have h16:=eS h7 ho6
     exact lB _ (sy h16) (bJ [] 2 r r r r kR (cO r (cO r aC)))
   ·
    intro j5 hj17
    have h17:=nY hj17 h4
    refine dB<|aX<|aJ<|sI r<|aH (fr':=[(2,aD),(3,bD),(6,aI)]) r r<|bx h17 fun x18 hx18 h19=>hF lP (fun j20=>x18=Fl.go j20) (fun (j20:Unit)=>([]:Fr)) (fun (j20:Unit)=>([[ci p0a.Kind,ci p0a.Int,.c (.str p0a.Text),.c (PV.ls 5 cF p0a.Items),.c (PV.ls 1 iF p0a.Keys)],[ci p1b.Kind,ci p1b.Int,.c (.str p1b.Text),.c (PV.ls 5 cF p1b.Items),.c (PV.ls 1 iF p1b.Keys)]]:St)) ?_ ?_
    ·
     refine cP<|gY _ (fun (s21:Int)=>([(2,aD),(3,bD),(6,ci s21)]:Fr)) (fun (s21:Int)=>([[ci p0a.Kind,ci p0a.Int,.c (.str p0a.Text),.c (PV.ls 5 cF p0a.Items),.c (PV.ls 1 iF p0a.Keys)],[ci p1b.Kind,ci p1b.Int,.c (.str p1b.Text),.c (PV.ls 5 cF p1b.Items),.c (PV.ls 1 iF p1b.Keys)]]:St)) hx18 (bJ [] 2 r r r r nW (cO r (cO r aC))) ?_
     intro s21 st21 hs21 ho21
     unfold aA1 at hs21
     refine aX<|aJ<|mI r<|aU r (bU iB r)<|aU r (aR (v:=aL) nS r r r)<|aU r (gT vL (eA r))<|aU r (fY r r)<|aH (fr':=[(2,aD),(3,bD),(6,aI),(66,aB)]) r r<|cU hs21 r (fun hb22 h22=>?_) (fun hb22 h22=>?_)
     ·
      refine bI<|dB<|aX<|cP<|aX<|lJ [.q 0,.q 1,.q 2,.q 3,.q 4,.q 5,.q 6,.q 7,.q 8,.q 9,.q 10,.q 11] [(some 69,[2]),(some 70,[69]),(some 71,[6]),(some 72,[70,71]),(some 73,[72]),(some 74,[3]),(some 75,[74]),(some 76,[6]),(some 77,[75,76]),(some 78,[77]),(some 79,[73,78]),(some 80,[79])] [0,1,0,7,15,0,32,0,224,480,1023,2047] (by kernel_rfl)<|dq r r (bU iB r)<|dq r r (aR (v:=aL) nS r r r)<|dq r r (bK (v:=aI) r)<|bx h22 fun x23 hx23 h24=>dq r r (lC (cs:=[PV.int _ _,PV.int _ _,PV.str _,PV.ls _ _ _,PV.ls _ _ _]) uF (eA r) r hx23 (dZ _))<|dq r r (nL (us:=[PV.int _ _,PV.int _ _,PV.str _,PV.ls _ _ _,PV.ls _ _ _]) jC r r r)<|dq r r (bU iB r)<|dq r r (aR (v:=aL) nS r r r)<|dq r r (bK (v:=aI) r)<|bx h24 fun x25 hx25 h26=>dq r r (lC (cs:=[PV.int _ _,PV.int _ _,PV.str _,PV.ls _ _ _,PV.ls _ _ _]) uF (eA r) r hx25 (dZ _))<|dq r r (nL (us:=[PV.int _ _,PV.int _ _,PV.str _,PV.ls _ _ _,PV.ls _ _ _]) jC r r r)<|bx h26 fun x27 hx27 h28=>d_q r (aAZ (v:=aB) r (ih_ref02xSame hx27) ⟨(cM r kR5),(cM r kR5),trivial⟩ r)<|dq r r (gX r)<|aAe (fr':=[(2,aD),(3,bD),(6,aI),(80,aB)]) r r<|cU h28 r (fun hb29 h29=>?_) (fun hb29 h29=>?_)
      ·
       refine aJ<|sB r<|aH (fr':=[(4,aB)]) r r<|bO<|bT<|aN<|aN<|bT<|aN<|aN ?_
       have h30:=eS h29 ho21
       have h31:=gI h30 h19
       obtain rfl:=sy h31
       exact bN (rs':=[.tmp 4]) r<|cE (v:=aB) r<|bM<|aP [] r r r lr aC
      ·
       exact bI<|dI<|dB<|bA<|mI r<|aU r (fX r r)<|sI r<|dQ (fr':=[(2,aD),(3,bD),(6,aI),(80,aB)]) r<|zY _ (sy h29) (bJ [] 2 r r r r nW (cO r (cO r aC)))
     ·
      refine iE<|cZ<|cZ<|fT ?_
      have h33:=eS h22 ho21
      exact lB _ (sy h33) (bJ [] 2 r r r r trivial (cO r (cO r aC)))
    ·
     intro j20 hj34
     have h34:=nY hj34 h19
     refine dB<|aJ<|sB r<|aH (fr':=[(4,aB)]) r r<|bO ?_
     obtain rfl:=sy h34
     exact bN (rs':=[.tmp 4]) r<|cE (v:=aB) r<|bM<|aP [] r r r lr aC
noncomputable def aDv (p0a:aF) (p1b:aF):Option Bool:=lim fun n=>xJ n p0a p1b
theorem aGy {p0a:aF}{p1b:aF}{res:Bool} (h:aDv p0a p1b=some res):cX Tryz.prog 66 [.agg (AV.cs (eR p0a)),.agg (AV.cs (eR p1b))] [] (.c (.bool res)) []:=by
 obtain ⟨n,hn⟩:=qN h
 exact (aJ4 n) hn
noncomputable def rJ (p0a:bV) (p1b:bV) (s8:Int):Option (dN Int (Fl Bool Unit)) :=
 cond (decide (s8<((p0a.Fatal).length:Int))) ((lO p0a.Fatal s8).bind fun x10=>(lO p1b.Fatal s8).bind fun x12=>cond (!decide (x10=x12)) (some (dN.out (Fl.done false))) (some (dN.next (IntKind.wrap .i64 (s8+1))))) (some (dN.out (Fl.go ())))
noncomputable def pU (p0a:bV) (p1b:bV):Option Bool :=
 cond (cond (cond (cond (cond (!decide (p0a.Queue=p1b.Queue)) true (!decide (p0a.ToStart=p1b.ToStart))) true (!decide (p0a.ToClose=p1b.ToClose))) true (!decide (p0a.Total=p1b.Total))) true (!decide (p0a.Beat=p1b.Beat))) (some false) (cond (cond (cond (cond (cond (!decide (p0a.First=p1b.First)) true (!decide (p0a.Coef=p1b.Coef))) true (!decide (p0a.Most=p1b.Most))) true (!decide (p0a.Attempts=p1b.Attempts))) true (!decide (((p0a.Fatal).length:Int)=((p1b.Fatal).length:Int)))) (some false) ((fI (rJ p0a p1b) (0)).bind fun x5=>Fl.next x5 (fun j7=>(some true))))
theorem zL {p0a:bV}{p1b:bV}{res:Bool} (h:pU p0a p1b=some res):cX Tryz.prog 67 [.agg (AV.cs (mU p0a)),.agg (AV.cs (mU p1b))] [] (.c (.bool res)) []:=by
 unfold pU at h
 refine dR (fn:=Tryz.f67) [0,1,2,3,4,5,38,73,78,91] (by kernel_rfl) Tryz.func67 r (by kernel_rfl) (by kernel_rfl)<|aJ<|kP (v:=.agg dO) (n:=0) (cs:=dO) (σ':=[dO]) r r r r r<|kP (v:=.agg dO) (n:=1) (cs:=dO) (σ':=[dO,dO]) r r r r r<|sB r<|aH (fr':=[(2,aD),(3,bD)]) r r<|aX<|aJ<|aU r (bU aCz r)<|aU r (aR (v:=aS) rZ r r r)<|aU r (bU aCz r)<|aU r (aR (v:=aS) rZ r r r)<|aU r (aCx r r)<|mB r<|og r r r (fun hc=>(bU aFA r))<|og r r r (fun hc=>(aR (v:=aI) hU (gx r hc) r r))<|og r r r (fun hc=>(bU aFA r))<|og r r r (fun hc=>(aR (v:=aI) hU (gx r hc) r r))<|og r r r (fun hc=>(iZ (gx r hc) (gx r hc)))<|aU r (dK r r r (fun e=>hH e))<|mB r<|og r r r (fun hc=>(bU aFB r))<|og r r r (fun hc=>(aR (v:=aI) hU (gx r hc) r r))<|og r r r (fun hc=>(bU aFB r))<|og r r r (fun hc=>(aR (v:=aI) hU (gx r hc) r r))<|og r r r (fun hc=>(iZ (gx r hc) (gx r hc)))<|aU r (dK r r r (fun e=>hH e))<|mB r<|og r r r (fun hc=>(bU aFC r))<|og r r r (fun hc=>(aR (v:=aI) hU (gx r hc) r r))<|og r r r (fun hc=>(bU aFC r))<|og r r r (fun hc=>(aR (v:=aI) hU (gx r hc) r r))<|og r r r (fun hc=>(iZ (gx r hc) (gx r hc)))<|aU r (dK r r r (fun e=>hH e))<|mB r<|og r r r (fun hc=>(bU aFD r))<|og r r r (fun hc=>(aR (v:=aI) hU (gx r hc) r r))<|og r r r (fun hc=>(bU aFD r))<|og r r r (fun hc=>(aR (v:=aI) hU (gx r hc) r r))<|og r r r (fun hc=>(iZ (gx r hc) (gx r hc)))<|aU r (dK r r r (fun e=>hH e))<|aH (fr':=[(2,aD),(3,bD),(38,aB)]) r r<|cU h r (fun hb1 h1=>?_) (fun hb1 h1=>?_)
 ·
  refine aJ<|sB r<|aH (fr':=[(4,aB)]) r r<|bO<|aN ?_
  obtain rfl:=sy h1
  exact bN (rs':=[.tmp 4]) r<|cE (v:=aB) r<|bM<|aP [] r r r lr aC
 ·
  refine bI<|dB<|aX<|aJ<|aU r (bU aFE r)<|aU r (aR (v:=aI) hU r r r)<|aU r (bU aFE r)<|aU r (aR (v:=aI) hU r r r)<|aU r (iZ r r)<|mB r<|og r r r (fun hc=>(bU aFF r))<|og r r r (fun hc=>(aR (v:=aI) hU (gx r hc) r r))<|og r r r (fun hc=>(bU aFF r))<|og r r r (fun hc=>(aR (v:=aI) hU (gx r hc) r r))<|og r r r (fun hc=>(iZ (gx r hc) (gx r hc)))<|aU r (dK r r r (fun e=>hH e))<|mB r<|og r r r (fun hc=>(bU aFG r))<|og r r r (fun hc=>(aR (v:=aI) hU (gx r hc) r r))<|og r r r (fun hc=>(bU aFG r))<|og r r r (fun hc=>(aR (v:=aI) hU (gx r hc) r r))<|og r r r (fun hc=>(iZ (gx r hc) (gx r hc)))<|aU r (dK r r r (fun e=>hH e))<|mB r<|og r r r (fun hc=>(bU aFH r))<|og r r r (fun hc=>(aR (v:=aI) hU (gx r hc) r r))<|og r r r (fun hc=>(bU aFH r))<|og r r r (fun hc=>(aR (v:=aI) hU (gx r hc) r r))<|og r r r (fun hc=>(iZ (gx r hc) (gx r hc)))<|aU r (dK r r r (fun e=>hH e))<|mB r<|og r r r (fun hc=>(bU tC r))<|og r r r (fun hc=>(aR (v:=aL) qP (gx r hc) r r))<|og r r r (fun hc=>(gT yV (eA (gx r hc))))<|og r r r (fun hc=>(bU tC r))<|og r r r (fun hc=>(aR (v:=aL) qP (gx r hc) r r))<|og r r r (fun hc=>(gT yV (eA (gx r hc))))<|og r r r (fun hc=>(iZ (gx r hc) (gx r hc)))<|aU r (dK r r r (fun e=>hH e))<|aH (fr':=[(2,aD),(3,bD),(73,aB)]) r r<|cU h1 r (fun hb3 h3=>?_) (fun hb3 h3=>?_)
  ·
   refine aJ<|sB r<|aH (fr':=[(4,aB)]) r r<|bO<|aN ?_
   obtain rfl:=sy h3
   exact bN (rs':=[.tmp 4]) r<|cE (v:=aB) r<|bM<|aP [] r r r lr aC
  ·
   refine bI<|dB<|aX<|aJ<|sI r<|aH (fr':=[(2,aD),(3,bD),(5,aI)]) r r<|bx h3 fun x5 hx5 h6=>hF lP (fun j7=>x5=Fl.go j7) (fun (j7:Unit)=>([]:Fr)) (fun (j7:Unit)=>([[.c (.str p0a.Queue),ci p0a.ToStart,ci p0a.ToClose,ci p0a.Total,ci p0a.Beat,ci p0a.First,ci p0a.Coef,ci p0a.Most,ci p0a.Attempts,.c (PV.ls 1 iF p0a.Fatal)],[.c (.str p1b.Queue),ci p1b.ToStart,ci p1b.ToClose,ci p1b.Total,ci p1b.Beat,ci p1b.First,ci p1b.Coef,ci p1b.Most,ci p1b.Attempts,.c (PV.ls 1 iF p1b.Fatal)]]:St)) ?_ ?_
   ·
    refine cP<|gY _ (fun (s8:Int)=>([(2,aD),(3,bD),(5,ci s8)]:Fr)) (fun (s8:Int)=>([[.c (.str p0a.Queue),ci p0a.ToStart,ci p0a.ToClose,ci p0a.Total,ci p0a.Beat,ci p0a.First,ci p0a.Coef,ci p0a.Most,ci p0a.Attempts,.c (PV.ls 1 iF p0a.Fatal)],[.c (.str p1b.Queue),ci p1b.ToStart,ci p1b.ToClose,ci p1b.Total,ci p1b.Beat,ci p1b.First,ci p1b.Coef,ci p1b.Most,ci p1b.Attempts,.c (PV.ls 1 iF p1b.Fatal)]]:St)) hx5 (bJ [] 2 r r r r nW (cO r (cO r aC))) ?_
    intro s8 st8 hs8 ho8
    unfold rJ at hs8
    refine aX<|aJ<|mI r<|aU r (bU tC r)<|aU r (aR (v:=aL) qP r r r)<|aU r (gT yV (eA r))<|aU r (fY r r)<|aH (fr':=[(2,aD),(3,bD),(5,aI),(78,aB)]) r r<|cU hs8 r (fun hb9 h9=>?_) (fun hb9 h9=>?_)
    ·
     refine bI<|dB<|aX<|cP<|aX<|lJ [.q 0,.q 1,.q 2,.q 3,.q 4,.q 5,.q 6,.q 7,.q 8,.q 9,.q 10] [(some 81,[2]),(some 82,[81]),(some 83,[5]),(some 84,[82,83]),(some 85,[84]),(some 86,[3]),(some 87,[86]),(some 88,[5]),(some 89,[87,88]),(some 90,[89]),(some 91,[85,90])] [0,1,0,7,15,0,32,0,224,480,1023] (by kernel_rfl)<|dq r r (bU tC r)<|dq r r (aR (v:=aL) qP r r r)<|dq r r (bK (v:=aI) r)<|bx h9 fun x10 hx10 h11=>dq r r (lC (cs:=[PV.str _]) aAW (eA r) r hx10 r)<|dq r r (fO (p:=PV.str _) rZ r r)<|dq r r (bU tC r)<|dq r r (aR (v:=aL) qP r r r)<|dq r r (bK (v:=aI) r)<|bx h11 fun x12 hx12 h13=>dq r r (lC (cs:=[PV.str _]) aAW (eA r) r hx12 r)<|dq r r (fO (p:=PV.str _) rZ r r)<|dq r r (aCx r r)<|aAe (fr':=[(2,aD),(3,bD),(5,aI),(91,aB)]) r r<|cU h13 r (fun hb14 h14=>?_) (fun hb14 h14=>?_)
     ·
      refine aJ<|sB r<|aH (fr':=[(4,aB)]) r r<|bO<|bT<|aN<|aN<|bT<|aN<|aN ?_
      have h15:=eS h14 ho8
      have h16:=gI h15 h6
      obtain rfl:=sy h16
      exact bN (rs':=[.tmp 4]) r<|cE (v:=aB) r<|bM<|aP [] r r r lr aC
     ·
      exact bI<|dI<|dB<|bA<|mI r<|aU r (fX r r)<|sI r<|dQ (fr':=[(2,aD),(3,bD),(5,aI),(91,aB)]) r<|zY _ (sy h14) (bJ [] 2 r r r r nW (cO r (cO r aC)))
    ·
     refine iE<|cZ<|cZ<|fT ?_
     have h18:=eS h9 ho8
     exact lB _ (sy h18) (bJ [] 2 r r r r trivial (cO r (cO r aC)))
   ·
    intro j7 hj19
    have h19:=nY hj19 h6
    refine dB<|aJ<|sB r<|aH (fr':=[(4,aB)]) r r<|bO ?_
    obtain rfl:=sy h19
    exact bN (rs':=[.tmp 4]) r<|cE (v:=aB) r<|bM<|aP [] r r r lr aC
noncomputable def xO (p0a:bW) (p1b:bW):Option Bool :=
 (gd ((cond (cond (cond (cond (cond (cond (cond (cond (decide (p0a.ID=p1b.ID)) (decide (p0a.Kind=p1b.Kind)) false) (decide (p0a.Time=p1b.Time)) false) (decide (p0a.Seq=p1b.Seq)) false) (decide (p0a.Ref=p1b.Ref)) false) (decide (p0a.N=p1b.N)) false) (decide (p0a.Code=p1b.Code)) false) (decide (p0a.Name=p1b.Name)) false) (decide (p0a.Key=p1b.Key)) false)==true) (aDv p0a.Data p1b.Data)).bind fun x1=>(gd ((cond (cond (cond (cond (cond (cond (cond (cond (cond (decide (p0a.ID=p1b.ID)) (decide (p0a.Kind=p1b.Kind)) false) (decide (p0a.Time=p1b.Time)) false) (decide (p0a.Seq=p1b.Seq)) false) (decide (p0a.Ref=p1b.Ref)) false) (decide (p0a.N=p1b.N)) false) (decide (p0a.Code=p1b.Code)) false) (decide (p0a.Name=p1b.Name)) false) (decide (p0a.Key=p1b.Key)) false) x1 false)==true) (pU p0a.Opts p1b.Opts)).bind fun x3=>some (cond (cond (cond (cond (cond (cond (cond (cond (cond (cond (decide (p0a.ID=p1b.ID)) (decide (p0a.Kind=p1b.Kind)) false) (decide (p0a.Time=p1b.Time)) false) (decide (p0a.Seq=p1b.Seq)) false) (decide (p0a.Ref=p1b.Ref)) false) (decide (p0a.N=p1b.N)) false) (decide (p0a.Code=p1b.Code)) false) (decide (p0a.Name=p1b.Name)) false) (decide (p0a.Key=p1b.Key)) false) x1 false) x3 false)
theorem aDL {p0a:bW}{p1b:bW}{res:Bool} (h:xO p0a p1b=some res):cX Tryz.prog 23 [.agg (AV.cs (eM p0a)),.agg (AV.cs (eM p1b))] [] (.c (.bool res)) []:=by
 unfold xO at h
 refine dR (fn:=Tryz.f23) [0,1,2,3,4] (by kernel_rfl) Tryz.func23 r (by kernel_rfl) (by kernel_rfl)<|aJ<|kP (v:=.agg aG) (n:=0) (cs:=aG) (σ':=[aG]) r r r r r<|kP (v:=.agg aG) (n:=1) (cs:=aG) (σ':=[aG,aG]) r r r r r<|sB r<|aH (fr':=[(2,aD),(3,bD)]) r r<|aJ<|aU r (bU aG5 r)<|aU r (aR (v:=aI) hU r r r)<|aU r (bU aG5 r)<|aU r (aR (v:=aI) hU r r r)<|aU r (cQ r r)<|mB r<|og r r r (fun hc=>(bU aAU r))<|og r r r (fun hc=>(aR (v:=aI) hU (gx r hc) r r))<|og r r r (fun hc=>(bU aAU r))<|og r r r (fun hc=>(aR (v:=aI) hU (gx r hc) r r))<|og r r r (fun hc=>(cQ (gx r hc) (gx r hc)))<|aU r (cS r r r (fun e=>hH e))<|mB r<|og r r r (fun hc=>(bU aG6 r))<|og r r r (fun hc=>(aR (v:=aI) hU (gx r hc) r r))<|og r r r (fun hc=>(bU aG6 r))<|og r r r (fun hc=>(aR (v:=aI) hU (gx r hc) r r))<|og r r r (fun hc=>(cQ (gx r hc) (gx r hc)))<|aU r (cS r r r (fun e=>hH e))<|mB r<|og r r r (fun hc=>(bU aCA r))<|og r r r (fun hc=>(aR (v:=aI) hU (gx r hc) r r))<|og r r r (fun hc=>(bU aCA r))<|og r r r (fun hc=>(aR (v:=aI) hU (gx r hc) r r))<|og r r r (fun hc=>(cQ (gx r hc) (gx r hc)))<|aU r (cS r r r (fun e=>hH e))<|mB r<|og r r r (fun hc=>(bU aCB r))<|og r r r (fun hc=>(aR (v:=aI) hU (gx r hc) r r))<|og r r r (fun hc=>(bU aCB r))<|og r r r (fun hc=>(aR (v:=aI) hU (gx r hc) r r))<|og r r r (fun hc=>(cQ (gx r hc) (gx r hc)))<|aU r (cS r r r (fun e=>hH e))<|mB r<|og r r r (fun hc=>(bU aAC r))<|og r r r (fun hc=>(aR (v:=aI) hU (gx r hc) r r))<|og r r r (fun hc=>(bU aAC r))<|og r r r (fun hc=>(aR (v:=aI) hU (gx r hc) r r))<|og r r r (fun hc=>(cQ (gx r hc) (gx r hc)))<|aU r (cS r r r (fun e=>hH e))<|mB r<|og r r r (fun hc=>(bU aB7 r))<|og r r r (fun hc=>(aR (v:=aI) hU (gx r hc) r r))<|og r r r (fun hc=>(bU aB7 r))<|og r r r (fun hc=>(aR (v:=aI) hU (gx r hc) r r))<|og r r r (fun hc=>(cQ (gx r hc) (gx r hc)))<|aU r (cS r r r (fun e=>hH e))<|mB r<|og r r r (fun hc=>(bU xP r))<|og r r r (fun hc=>(aR (v:=aS) rZ (gx r hc) r r))<|og r r r (fun hc=>(bU xP r))<|og r r r (fun hc=>(aR (v:=aS) rZ (gx r hc) r r))<|og r r r (fun hc=>(wL (gx r hc) (gx r hc)))<|aU r (cS r r r (fun e=>hH e))<|mB r<|og r r r (fun hc=>(bU xQ r))<|og r r r (fun hc=>(aR (v:=aS) rZ (gx r hc) r r))<|og r r r (fun hc=>(bU xQ r))<|og r r r (fun hc=>(aR (v:=aS) rZ (gx r hc) r r))<|og r r r (fun hc=>(wL (gx r hc) (gx r hc)))<|aU r (cS r r r (fun e=>hH e))<|mB r<|og r r r (fun hc=>(bU aAV r))<|og r r r (fun hc=>(eL (us:=cJ) jC (gx r hc) r r r))<|og r r r (fun hc=>(bU aAV r))<|og r r r (fun hc=>(eL (us:=cJ) jC (gx r hc) r r r))<|bx h fun x1 hx1 h2=>zG r r (fun hc=>cA (v:=aB) r (aGy (dM hx1 hc)) ⟨(iA (gx r hc) (cM r kR5)),(iA (gx r hc) (cM r kR5)),trivial⟩ (iO (by repeat (first | exact fU | refine bG r ?_ | refine bG (vD r) ?_ | refine bG vC ?_))) r r) ?_
 refine aU r (cS r r r (fun e=>hH e))<|mB r<|og r r r (fun hc=>(bU aBG r))<|og r r r (fun hc=>(eL (us:=dO) zW (gx r hc) r r r))<|og r r r (fun hc=>(bU aBG r))<|og r r r (fun hc=>(eL (us:=dO) zW (gx r hc) r r r))<|bx h2 fun x3 hx3 h4=>zG r r (fun hc=>cA (v:=aB) r (zL (dM hx3 hc)) ⟨(iA (gx r hc) (cM r aDf)),(iA (gx r hc) (cM r aDf)),trivial⟩ (iO (by repeat (first | exact fU | refine bG r ?_ | refine bG (vD r) ?_ | refine bG vC ?_))) r r) ?_
 refine aU r (cS r r r (fun e=>hH e))<|sB r<|aH (fr':=[(4,aB)]) r r<|bO ?_
 obtain rfl:=sy h4
 exact bN (rs':=[.tmp 4]) r<|cE (v:=aB) r<|bM<|aP [] r r r lr aC
noncomputable def wA  : Option bW :=
 some (bW.mk 2 2 5 0 0 1 0 ([]:List UInt8) ([]:List UInt8) (aF.mk 0 0 ([]:List UInt8) ([]:(List aF)) ([]:(List (List UInt8)))) (bV.mk ([]:List UInt8) 0 0 0 0 0 0 0 0 ([]:(List (List UInt8)))))
theorem aCt  {res:bW} (h:wA=some res):cX Tryz.prog 52 [] [] (.agg (AV.cs (eM res))) []:=by
 unfold wA at h
 refine dR (fn:=Tryz.f52) [0] (by kernel_rfl) Tryz.func52 r (by kernel_rfl) (by kernel_rfl)<|aJ<|jV (n:=0) (cs:=aE) (σ':=[aE]) aLE r r r<|aH (fr':=[(0,aD)]) r r<|aJ<|aU r (rI (c0:=aE) (cs:=aE) aQx r (iQ (v:=aI) (us:=[_]) (cs':=u24) r r r r r r (iQ (v:=aI) (us:=[_]) (cs':=u24) r r r r r r (iQ (v:=aI) (us:=[_]) (cs':=u24) r r r r r r (iQ (v:=aI) (us:=[_]) (cs':=u24) r r r r r r rH)))))<|cN (v:=.agg aE) (us:=aE) (cs:=aE) (σ':=[aE]) r zJ r r r r r r r r<|aH (fr':=[(0,aD)]) r r<|bO ?_
 obtain rfl:=sy h
 exact bN (rs':=[.cell 0 30]) r<|eX (us:=aE) (cs:=aE) zJ r r r r<|bM<|aP [] r r r (cM r ⟨r,r,r,r,r,r,r,r,r,r,r,r,⟨_,r⟩,⟨_,r⟩,r,r,r,r,r,r,r,r,r,⟨_,r⟩,trivial⟩) aC
noncomputable def tK  : Option Bool :=
 (wA).bind fun x1=>(oF ([x1]:List bW)).bind fun x3=>(kX x3.1).bind fun x5=>(kX ([]:List UInt8)).bind fun x7=>(oF ([(bW.mk 0 0 0 0 0 0 0 ([]:List UInt8) ([]:List UInt8) (aF.mk 0 0 ([]:List UInt8) ([]:(List aF)) ([]:(List (List UInt8)))) (bV.mk ([]:List UInt8) 0 0 0 0 0 0 0 0 ([]:(List (List UInt8)))))]:List bW)).bind fun x9=>(oF ([]:List bW)).bind fun x11=>(gd ((cond (cond (decide (x3.2=0)) (decide (x5.2=0)) false) (decide (((x5.1).length:Int)=1)) false)==true) (lO x5.1 0)).bind fun x13=>(gd ((cond (cond (decide (x3.2=0)) (decide (x5.2=0)) false) (decide (((x5.1).length:Int)=1)) false)==true) (wA)).bind fun x15=>(gd ((cond (cond (decide (x3.2=0)) (decide (x5.2=0)) false) (decide (((x5.1).length:Int)=1)) false)==true) (xO x13 x15)).bind fun x17=>(gd ((cond (cond (cond (cond (cond (cond (decide (x3.2=0)) (decide (x5.2=0)) false) (decide (((x5.1).length:Int)=1)) false) x17 false) (decide (x7.2=4)) false) (decide (x9.2=11)) false) (decide (((x11.1).length:Int)=5)) false)==true) (lO x11.1 0)).bind fun x19=>some (cond (cond (cond (cond (cond (cond (cond (decide (x3.2=0)) (decide (x5.2=0)) false) (decide (((x5.1).length:Int)=1)) false) x17 false) (decide (x7.2=4)) false) (decide (x9.2=11)) false) (decide (((x11.1).length:Int)=5)) false) (decide (((x19).toNat:Int)=0)) false)
theorem yX  {res:Bool} (h:tK=some res):cX Tryz.prog 16 [] [] (.c (.bool res)) []:=by
 unfold tK at h
 refine dR (fn:=Tryz.f16) [0,1,2,3,4,6,8,9] (by kernel_rfl) Tryz.func16 r (by kernel_rfl) (by kernel_rfl)<|aJ<|sB r<|aH (fr':=[]) r r<|aX<|bA ?_
 obtain ⟨x1,hx1,h2⟩:=eF h
 refine oN (cA (v:=.agg aG) r (aCt hx1) trivial r r r)<|uU (row:=eM) (xs:=([x1]:List bW)) (rows:=[[_,_,_,_,_,_,_,_,_,_,_,_,_,_,_,_,_,_,_,_,_,_,_,_]]) (σ':=[]) [0,0,0,0,0,0,0,0,0,0,0,0,5,1,0,0,0,0,0,0,0,0,0,1] aJ1 r r r (fR r oL) r r<|bx h2 fun x3 hx3 h4=>oN (cA (v:=.tup [aO,aI]) r (wX hx3) ⟨lr,trivial⟩ r r r)<|mV (v:=.tup [aO,aI]) r<|aU r (aCe (v:=aO) r r)<|aU r (aCe (v:=aI) r r)<|sV (v:=aO) r<|sI r<|aH (fr':=[(1,aO),(2,aI)]) r r<|aJ<|mV (v:=aO) r<|bx h4 fun x5 hx5 h6=>oN (cA (v:=.tup [aO,aI]) r (yJ hx5) ⟨lr,trivial⟩ r r r)<|mV (v:=.tup [aO,aI]) r<|aU r (aCe (v:=aO) r r)<|aU r (aCe (v:=aI) r r)<|sV (v:=aO) r<|sI r<|aH (fr':=[(2,aI),(3,aO),(4,aI)]) r r<|aX<|bA<|bx h6 fun x7 hx7 h8=>oN (cA (v:=.tup [aO,aI]) r (yJ hx7) ⟨aAh,trivial⟩ r r r)<|mV (v:=.tup [aO,aI]) r<|aU r (aCe (v:=aO) r r)<|aU r (aCe (v:=aI) r r)<|sV (v:=aO) r<|sI r<|aH (fr':=[(2,aI),(3,aO),(4,aI),(6,aI)]) r r<|aJ<|aU r (rI (c0:=aE) (cs:=aE) aQx r rH)<|uU (row:=eM) (xs:=([(bW.mk (0:Int) (0:Int) (0:Int) (0:Int) (0:Int) (0:Int) (0:Int) ([]:List UInt8) ([]:List UInt8) (aF.mk (0:Int) (0:Int) ([]:List UInt8) ([]:(List aF)) ([]:(List (List UInt8)))) (bV.mk ([]:List UInt8) (0:Int) (0:Int) (0:Int) (0:Int) (0:Int) (0:Int) (0:Int) (0:Int) ([]:(List (List UInt8)))))]:List bW)) (rows:=[[_,_,_,_,_,_,_,_,_,_,_,_,_,_,_,_,_,_,_,_,_,_,_,_]]) (σ':=[]) [0,0,0,0,0,0,0,0,0,0,0,0,5,1,0,0,0,0,0,0,0,0,0,1] aJ1 r r r (fR r oL) r r<|bx h8 fun x9 hx9 h10=>oN (cA (v:=.tup [aO,aI]) r (wX hx9) ⟨lr,trivial⟩ r r r)<|mV (v:=.tup [aO,aI]) r<|aU r (aCe (v:=aO) r r)<|aU r (aCe (v:=aI) r r)<|sV (v:=aO) r<|sI r<|aH (fr':=[(2,aI),(3,aO),(4,aI),(6,aI),(8,aI)]) r r<|aX<|bA<|bx h10 fun x11 hx11 h12=>oN (cA (v:=.tup [aO,aI]) r (wX hx11) ⟨aAh,trivial⟩ r r r)<|mV (v:=.tup [aO,aI]) r<|aU r (aCe (v:=aO) r r)<|aU r (aCe (v:=aI) r r)<|sV (v:=aO) r<|sI r<|aH (fr':=[(2,aI),(3,aO),(4,aI),(6,aI),(8,aI),(9,aO)]) r r<|aX<|lJ [.q 0,.q 1,.q 2,.q 3,.q 4,.q 5,.q 6,.q 7,.q 8,.q 9,.q 10,.q 11,.q 12,.q 13,.q 14,.q 15,.q 16,.q 17,.q 18,.q 19,.q 20,.q 21,.q 22,.q 23,.q 24,.q 25,.q 26,.q 27,.q 28,.q 29,.q 30,.q 31,.q 32,.q 33,.q 34,.q 35,.q 36,.n 37 []] [(some 36,[2]),(some 37,[36]),(some 38,[37]),(some 39,[4,38]),(some 40,[39,38]),(some 41,[38,40]),(some 42,[41]),(some 43,[3,42]),(some 44,[43,42]),(some 45,[44,42]),(some 46,[42,45]),(some 47,[46]),(some 48,[3,47]),(some 49,[48,47]),(some 50,[49,47]),(some 51,[47]),(some 52,[50,51,47]),(some 53,[47,52]),(some 54,[53]),(some 55,[6,54]),(some 56,[55,54]),(some 57,[54,56]),(some 58,[57]),(some 59,[8,58]),(some 60,[59,58]),(some 61,[58,60]),(some 62,[61]),(some 63,[9,62]),(some 64,[63,62]),(some 65,[64,62]),(some 66,[62,65]),(some 67,[66]),(some 68,[9,67]),(some 69,[68,67]),(some 70,[69,67]),(some 71,[70,67]),(some 72,[67,71]),(some 0,[72])] [0,1,3,7,15,31,63,127,255,511,1023,2047,4095,8191,16383,4095,65535,131071,262143,524287,1048575,2097151,4194303,8388607,16777215,33554431,67108863,134217727,268435455,536870911,1073741823,2147483647,4294967295,8589934591,17179869183,34359738367,68719476735,137438953471] (by kernel_rfl)<|dq r r (bK (v:=aI) r)<|dq r r (cQ r r)<|dq r r (bK (v:=aB) r)<|d_g r r r (fun hc=>mG r (bK (v:=aI) r))<|d_g r r r (fun hc=>mG r (cQ (gx r hc) r))<|dq r r (cS r r r (fun e=>hH e))<|dq r r (bK (v:=aB) r)<|d_g r r r (fun hc=>mG r (bK (v:=aO) r))<|d_g r r r (fun hc=>mG r (gT aLC (nB (gx r hc))))<|d_g r r r (fun hc=>mG r (cQ (gx r hc) r))<|dq r r (cS r r r (fun e=>hH e))<|dq r r (bK (v:=aB) r)<|d_g r r r (fun hc=>mG r (bK (v:=aO) r))<|bx h12 fun x13 hx13 h14=>d_g r r r (fun hc=>mG r (lC (cs:=[PV.int _ _,PV.int _ _,PV.int _ _,PV.int _ _,PV.int _ _,PV.int _ _,PV.int _ _,PV.str _,PV.str _,PV.int _ _,PV.int _ _,PV.str _,PV.ls _ _ _,PV.ls _ _ _,PV.str _,PV.int _ _,PV.int _ _,PV.int _ _,PV.int _ _,PV.int _ _,PV.int _ _,PV.int _ _,PV.int _ _,PV.ls _ _ _]) aJ1 (nB (gx r hc)) r (dM hx13 hc) r))<|d_g r r r (fun hc=>mG r (nL (us:=[PV.int _ _,PV.int _ _,PV.int _ _,PV.int _ _,PV.int _ _,PV.int _ _,PV.int _ _,PV.str _,PV.str _,PV.int _ _,PV.int _ _,PV.str _,PV.ls _ _ _,PV.ls _ _ _,PV.str _,PV.int _ _,PV.int _ _,PV.int _ _,PV.int _ _,PV.int _ _,PV.int _ _,PV.int _ _,PV.int _ _,PV.ls _ _ _]) zJ (gx r hc) r r)) ?_
 obtain ⟨x15,hx15,h16⟩:=eF h14
 refine d_g r r r (fun hc=>aAZ (v:=.agg aG) r (aCt (dM hx15 hc)) trivial r)<|bx h16 fun x17 hx17 h18=>d_g r r r (fun hc=>aAZ (v:=aB) r (aDL (dM hx17 hc)) ⟨(iA (gx r hc) (cM r aEg)),(iA (gx r hc) (cM r aEg)),trivial⟩ r)<|dq r r (cS r r r (fun e=>hH e))<|dq r r (bK (v:=aB) r)<|d_g r r r (fun hc=>mG r (bK (v:=aI) r))<|d_g r r r (fun hc=>mG r (cQ (gx r hc) r))<|dq r r (cS r r r (fun e=>hH e))<|dq r r (bK (v:=aB) r)<|d_g r r r (fun hc=>mG r (bK (v:=aI) r))<|d_g r r r (fun hc=>mG r (cQ (gx r hc) r))<|dq r r (cS r r r (fun e=>hH e))<|dq r r (bK (v:=aB) r)<|d_g r r r (fun hc=>mG r (bK (v:=aO) r))<|d_g r r r (fun hc=>mG r (gT aAM (nB (gx r hc))))<|d_g r r r (fun hc=>mG r (cQ (gx r hc) r))<|dq r r (cS r r r (fun e=>hH e))<|dq r r (bK (v:=aB) r)<|d_g r r r (fun hc=>mG r (bK (v:=aO) r))<|bx h18 fun x19 hx19 h20=>d_g r r r (fun hc=>mG r (lC (cs:=[PV.int _ _]) yW (nB (gx r hc)) r (dM hx19 hc) r))<|d_g r r r (fun hc=>mG r (fO (p:=PV.int _ _) tv5 (gx r hc) r))<|d_g r r r (fun hc=>mG r (cQ (gx r hc) r))<|dq r r (cS r r r (fun e=>hH e))<|d_n r ?_ r
 refine sB r<|aAL<|⟨pI,?_⟩
 refine aAe (fr':=[(0,aB)]) r r<|bO ?_
 obtain rfl:=sy h20
 exact bN (rs':=[.tmp 0]) r<|cE (v:=aB) r<|bM<|aP [] r r r lr aC
noncomputable def aAg (p0a:(List UInt8)) (p1b:(List UInt8)) (s6:Int):Option (dN Int (Fl Bool Unit)) :=
 cond (decide (s6<((p0a).length:Int))) ((lO p0a s6).bind fun x8=>(lO p1b s6).bind fun x10=>cond (!decide (((x8).toNat:Int)=((x10).toNat:Int))) (some (dN.out (Fl.done false))) (some (dN.next (IntKind.wrap .i64 (s6+1))))) (some (dN.out (Fl.go ())))
noncomputable def aBd (p0a:(List UInt8)) (p1b:(List UInt8)):Option Bool :=
 cond (!decide (((p0a).length:Int)=((p1b).length:Int))) (some false) ((fI (aAg p0a p1b) (0)).bind fun x3=>Fl.next x3 (fun j5=>(some true)))
theorem aJ8 {p0a:(List UInt8)}{p1b:(List UInt8)}{res:Bool} (h:aBd p0a p1b=some res):cX Tryz.prog 17 [.c (PV.ls 1 gW p0a),.c (PV.ls 1 gW p1b)] [] (.c (.bool res)) []:=by
 unfold aBd at h
 refine dR (fn:=Tryz.f17) [0,1,4,5,10,12,13,14,24] (by kernel_rfl) Tryz.func17 r (by kernel_rfl) (by kernel_rfl)<|aJ<|sB r<|aH (fr':=[(0,aL),(1,aL)]) r r<|aX<|aJ<|mL r<|aU r (gT aAM (eA r))<|mL r<|aU r (gT aAM (eA r))<|aU r (iZ r r)<|aH (fr':=[(0,aL),(1,aL),(10,aB)]) r r<|cU h r (fun hb1 h1=>?_) (fun hb1 h1=>?_)
 ·
  refine aJ<|sB r<|aH (fr':=[(4,aB)]) r r<|bO<|aN ?_
  obtain rfl:=sy h1
  exact bN (rs':=[.tmp 4]) r<|cE (v:=aB) r<|bM<|aP [] r r r lr aC
 ·
  refine bI<|dB<|aX<|aJ<|mL r<|aU r (gT aAM (eA r))<|mI r<|aH (fr':=[(0,aL),(1,aL),(12,aI),(13,aI)]) r r<|bx h1 fun x3 hx3 h4=>hF lP (fun j5=>x3=Fl.go j5) (fun (j5:Unit)=>([]:Fr)) (fun (j5:Unit)=>([]:St)) ?_ ?_
  ·
   refine cP<|gY _ (fun (s6:Int)=>([(0,.c (PV.ls 1 gW p0a)),(1,.c (PV.ls 1 gW p1b)),(12,ci ((p0a).length:Int)),(13,ci s6)]:Fr)) (fun (s6:Int)=>([]:St)) hx3 (bJ [] 0 r r r r kL4 aC) ?_
   intro s6 st6 hs6 ho6
   unfold aAg at hs6
   refine aJ<|aU r (fY r r)<|aH (fr':=[(0,aL),(1,aL),(12,aI),(13,aI),(14,aB)]) r r<|aX<|cU hs6 r (fun hb7 h7=>?_) (fun hb7 h7=>?_)
   ·
    refine bI<|dB<|aX<|cP<|aJ<|mI r<|sI r<|aH (fr':=[(0,aL),(1,aL),(5,aI),(12,aI),(13,aI)]) r r<|aX<|lJ [.q 0,.q 1,.q 2,.q 3,.q 4,.q 5,.q 6,.q 7,.q 8] [(some 16,[0]),(some 17,[5]),(some 18,[16,17]),(some 19,[18]),(some 20,[1]),(some 21,[5]),(some 22,[20,21]),(some 23,[22]),(some 24,[19,23])] [0,0,3,7,0,0,48,112,255] (by kernel_rfl)<|dq r r (bK (v:=aL) r)<|dq r r (bK (v:=aI) r)<|bx h7 fun x8 hx8 h9=>dq r r (lC (cs:=[PV.int _ _]) yW (eA r) r hx8 r)<|dq r r (fO (p:=PV.int _ _) tv5 r r)<|dq r r (bK (v:=aL) r)<|dq r r (bK (v:=aI) r)<|bx h9 fun x10 hx10 h11=>dq r r (lC (cs:=[PV.int _ _]) yW (eA r) r hx10 r)<|dq r r (fO (p:=PV.int _ _) tv5 r r)<|dq r r (iZ r r)<|aAe (fr':=[(0,aL),(1,aL),(12,aI),(13,aI),(24,aB)]) r r<|cU h11 r (fun hb12 h12=>?_) (fun hb12 h12=>?_)
    ·
     refine aJ<|sB r<|aH (fr':=[(4,aB)]) r r<|bO<|bT<|aN<|aN<|bT<|aN<|aN ?_
     have h13:=eS h12 ho6
     have h14:=gI h13 h4
     obtain rfl:=sy h14
     exact bN (rs':=[.tmp 4]) r<|cE (v:=aB) r<|bM<|aP [] r r r lr aC
    ·
     exact bI<|dI<|dB<|bA<|aU r (fX r r)<|mI r<|dQ (fr':=[(0,aL),(1,aL),(12,aI),(13,aI),(24,aB)]) r<|zY _ (sy h12) (bJ [] 0 r r r r kL4 aC)
   ·
    refine iE<|cZ<|cZ<|fT ?_
    have h16:=eS h7 ho6
    exact lB _ (sy h16) (bJ [] 0 r r r r trivial aC)
  ·
   intro j5 hj17
   have h17:=nY hj17 h4
   refine dB<|aJ<|sB r<|aH (fr':=[(4,aB)]) r r<|bO ?_
   obtain rfl:=sy h17
   exact bN (rs':=[.tmp 4]) r<|cE (v:=aB) r<|bM<|aP [] r r r lr aC
