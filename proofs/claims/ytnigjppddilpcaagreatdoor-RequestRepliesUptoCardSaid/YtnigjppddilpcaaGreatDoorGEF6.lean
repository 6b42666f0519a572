import Derived.Test.YtnigjppddilpcaaGreatDoorGETy
import Derived.Test.YtnigjppddilpcaaGreatDoorGEF4
import Derived.Test.YtnigjppddilpcaaGreatDoorGEF5
namespace Go.Proofs.YtnigjppddilpcaaGreatDoor
open Go Abs
set_option maxRecDepth 100000
set_option linter.unusedVariables false
set_option linter.unusedSimpArgs false
noncomputable def uN (eK:aX):Option (dP × aX) :=
 (fN (-9223372036854775808) 9223372036854775807 eK).bind fun x1=>(fN (-9223372036854775808) 9223372036854775807 x1.2).bind fun x3=>(fN (-9223372036854775808) 9223372036854775807 x3.2).bind fun x5=>(fN (-9223372036854775808) 9223372036854775807 x5.2).bind fun x7=>(fN (-9223372036854775808) 9223372036854775807 x7.2).bind fun x9=>(fN (-9223372036854775808) 9223372036854775807 x9.2).bind fun x11=>(fN (-9223372036854775808) 9223372036854775807 x11.2).bind fun x13=>(jM 4096 x13.2).bind fun x15=>(jM 4096 x15.2).bind fun x17=>(tR x17.2).bind fun x19=>(nX x19.2).bind fun x21=>(((gN x21.2).bind fun x26=>(gd ((decide (x26=0))==true) (xJ (dP.mk x1.1 x3.1 x5.1 x7.1 x9.1 x11.1 x13.1 x15.1 x17.1 x19.1 x21.1))).bind fun x28=>cond (cond (decide (x26=0)) (!x28) false) ((lF 11 x21.2).bind fun x31=>some x31) (some x21.2)):Option aX).bind fun x23=>((gN x23).bind fun x34=>cond (!decide (x34=0)) (some ((dP.mk 0 0 0 0 0 0 0 ([]:List UInt8) ([]:List UInt8) (aK.mk 0 0 ([]:List UInt8) ([]:(List aK)) ([]:(List (List UInt8)))) (dR.mk ([]:List UInt8) 0 0 0 0 0 0 0 0 ([]:(List (List UInt8))))),x23)) (some ((dP.mk x1.1 x3.1 x5.1 x7.1 x9.1 x11.1 x13.1 x15.1 x17.1 x19.1 x21.1),x23)))
theorem aGe {eK:aX}{z:(dP × aX)} (h:uN eK=some z):cR Tryz.prog 27 [.box 0 0] [AV.cs (eS eK)] (.agg (AV.cs (eU z.1))) [AV.cs (eS z.2)]:=by
 unfold uN at h
 refine dQ (fn:=Tryz.f27) [0,2,3,5,13,14,15,16,43,48] (by kernel_rfl) Tryz.func27 r (by kernel_rfl) (by kernel_rfl)<|aH<|jT (n:=1) (cs:=aV) (σ':=[dD,aV]) aTW r r r<|aG (fr':=[(0,aD),(2,bK)]) r r<|aH<|jT (n:=2) (cs:=aV) (σ':=[dD,aV,aV]) aTW r r r<|aG (fr':=[(0,aD),(2,bK),(3,eE)]) r r<|aU<|aH<|aN r (bE aF5 r)<|aN r (bE aAJ r)<|aN r (bE aF6 r)<|aN r (bE aCr r)<|aN r (bE aCs r)<|aN r (bE aAd r)<|aN r (bE aBH r)<|aO3 (l:=[(2,0),(2,1),(2,2),(2,3),(2,4),(2,5),(2,6)]) uE r r r r<|aN r (aL6 aTU r)<|mI r<|aG (fr':=[(0,aD),(2,bK),(3,eE),(13,.ptrs [(2,0),(2,1),(2,2),(2,3),(2,4),(2,5),(2,6)]),(14,aI),(15,aI)]) r r<|cE<|aQe 64<|xM<|aH<|aN r (zB (gC r r) (show _=.bool true from r))<|aG (fr':=[(0,aD),(2,bK),(3,eE),(13,.ptrs [(2,0),(2,1),(2,2),(2,3),(2,4),(2,5),(2,6)]),(14,aI),(15,aI),(16,aB)]) r r<|aU<|kD r<|bL<|cY<|aU<|cE<|aH<|aN r (oL (p:=(2,0)) uE r r r)<|aN r (jV vQ r)<|sV (v:=eE) r<|aG (fr':=[(0,aD),(2,bK),(3,eE),(5,eE),(13,.ptrs [(2,0),(2,1),(2,2),(2,3),(2,4),(2,5),(2,6)]),(14,aI),(15,aI)]) r r<|bA<|mV (v:=eE) r<|mV (v:=aD) r<|bx h fun x1 y1 h2=>eW (v:=aI) (σ':=[dD,aV,aV]) [0] r (jE y1) r r lG (hU mZ aC) r r r<|aN r (kJ r)<|cD (v:=aI) (us:=[aI]) (cs:=aV) (σ':=[dD,aV,aV]) r gA r r r r r r r r<|dT (fr':=[(0,aD),(2,bK),(3,eE),(5,eE),(13,.ptrs [(2,0),(2,1),(2,2),(2,3),(2,4),(2,5),(2,6)]),(14,aI),(15,aI)]) r<|dH<|cY<|bA<|aN r (zB (fY r r) (show _=.int .i64 (1:Int) from r))<|mI r<|dT (fr':=[(0,aD),(2,bK),(3,eE),(5,eE),(13,.ptrs [(2,0),(2,1),(2,2),(2,3),(2,4),(2,5),(2,6)]),(14,aI),(15,aI)]) r<|lM<|xM<|aU<|bA<|aN r (zB (gC r r) (show _=.bool true from r))<|aG (fr':=[(0,aD),(2,bK),(3,eE),(13,.ptrs [(2,0),(2,1),(2,2),(2,3),(2,4),(2,5),(2,6)]),(14,aI),(15,aI),(16,aB)]) r r<|aU<|kD r<|bL<|cY<|aU<|cE<|aH<|aN r (oL (p:=(2,1)) uE r r r)<|aN r (jV vQ r)<|sV (v:=aFp) r<|aG (fr':=[(0,aD),(2,bK),(3,eE),(5,aFp),(13,.ptrs [(2,0),(2,1),(2,2),(2,3),(2,4),(2,5),(2,6)]),(14,aI),(15,aI)]) r r<|bA<|mV (v:=aFp) r<|mV (v:=aD) r<|bx h2 fun x3 y3 h4=>eW (v:=aI) (σ':=[dD,aV,aV]) [0] r (jE y3) r r lG (hU mZ aC) r r r<|aN r (kJ r)<|cD (v:=aI) (us:=[aI]) (cs:=aV) (σ':=[dD,aV,aV]) r gA r r r r r r r r<|dT (fr':=[(0,aD),(2,bK),(3,eE),(5,aFp),(13,.ptrs [(2,0),(2,1),(2,2),(2,3),(2,4),(2,5),(2,6)]),(14,aI),(15,aI)]) r<|dH<|cY<|bA<|aN r (zB (fY r r) (show _=.int .i64 (2:Int) from r))<|mI r<|dT (fr':=[(0,aD),(2,bK),(3,eE),(5,aFp),(13,.ptrs [(2,0),(2,1),(2,2),(2,3),(2,4),(2,5),(2,6)]),(14,aI),(15,aI)]) r<|lM<|xM<|aU<|bA<|aN r (zB (gC r r) (show _=.bool true from r))<|aG (fr':=[(0,aD),(2,bK),(3,eE),(13,.ptrs [(2,0),(2,1),(2,2),(2,3),(2,4),(2,5),(2,6)]),(14,aI),(15,aI),(16,aB)]) r r<|aU<|kD r<|bL<|cY<|aU<|cE<|aH<|aN r (oL (p:=(2,2)) uE r r r)<|aN r (jV vQ r)<|sV (v:=aFq) r<|aG (fr':=[(0,aD),(2,bK),(3,eE),(5,aFq),(13,.ptrs [(2,0),(2,1),(2,2),(2,3),(2,4),(2,5),(2,6)]),(14,aI),(15,aI)]) r r<|bA<|mV (v:=aFq) r<|mV (v:=aD) r<|bx h4 fun x5 y5 h6=>eW (v:=aI) (σ':=[dD,aV,aV]) [0] r (jE y5) r r lG (hU mZ aC) r r r<|aN r (kJ r)<|cD (v:=aI) (us:=[aI]) (cs:=aV) (σ':=[dD,aV,aV]) r gA r r r r r r r r<|dT (fr':=[(0,aD),(2,bK),(3,eE),(5,aFq),(13,.ptrs [(2,0),(2,1),(2,2),(2,3),(2,4),(2,5),(2,6)]),(14,aI),(15,aI)]) r<|dH<|cY<|bA<|aN r (zB (fY r r) (show _=.int .i64 (3:Int) from r))<|mI r<|dT (fr':=[(0,aD),(2,bK),(3,eE),(5,aFq),(13,.ptrs [(2,0),(2,1),(2,2),(2,3),(2,4),(2,5),(2,6)]),(14,aI),(15,aI)]) r<|lM<|xM<|aU<|bA<|aN r (zB (gC r r) (show _=.bool true from r))<|aG (fr':=[(0,aD),(2,bK),(3,eE),(13,.ptrs [(2,0),(2,1),(2,2),(2,3),(2,4),(2,5),(2,6)]),(14,aI),(15,aI),(16,aB)]) r r<|aU<|kD r<|bL<|cY<|aU<|cE<|aH<|aN r (oL (p:=(2,3)) uE r r r)<|aN r (jV vQ r)<|sV (v:=aFr) r<|aG (fr':=[(0,aD),(2,bK),(3,eE),(5,aFr),(13,.ptrs [(2,0),(2,1),(2,2),(2,3),(2,4),(2,5),(2,6)]),(14,aI),(15,aI)]) r r<|bA<|mV (v:=aFr) r<|mV (v:=aD) r<|bx h6 fun x7 y7 h8=>eW (v:=aI) (σ':=[dD,aV,aV]) [0] r (jE y7) r r lG (hU mZ aC) r r r<|aN r (kJ r)<|cD (v:=aI) (us:=[aI]) (cs:=aV) (σ':=[dD,aV,aV]) r gA r r r r r r r r<|dT (fr':=[(0,aD),(2,bK),(3,eE),(5,aFr),(13,.ptrs [(2,0),(2,1),(2,2),(2,3),(2,4),(2,5),(2,6)]),(14,aI),(15,aI)]) r<|dH<|cY<|bA<|aN r (zB (fY r r) (show _=.int .i64 (4:Int) from r))<|mI r<|dT (fr':=[(0,aD),(2,bK),(3,eE),(5,aFr),(13,.ptrs [(2,0),(2,1),(2,2),(2,3),(2,4),(2,5),(2,6)]),(14,aI),(15,aI)]) r<|lM<|xM<|aU<|bA<|aN r (zB (gC r r) (show _=.bool true from r))<|aG (fr':=[(0,aD),(2,bK),(3,eE),(13,.ptrs [(2,0),(2,1),(2,2),(2,3),(2,4),(2,5),(2,6)]),(14,aI),(15,aI),(16,aB)]) r r<|aU<|kD r<|bL<|cY<|aU<|cE<|aH<|aN r (oL (p:=(2,4)) uE r r r)<|aN r (jV vQ r)<|sV (v:=aFs) r<|aG (fr':=[(0,aD),(2,bK),(3,eE),(5,aFs),(13,.ptrs [(2,0),(2,1),(2,2),(2,3),(2,4),(2,5),(2,6)]),(14,aI),(15,aI)]) r r<|bA<|mV (v:=aFs) r<|mV (v:=aD) r<|bx h8 fun x9 y9 h10=>eW (v:=aI) (σ':=[dD,aV,aV]) [0] r (jE y9) r r lG (hU mZ aC) r r r<|aN r (kJ r)<|cD (v:=aI) (us:=[aI]) (cs:=aV) (σ':=[dD,aV,aV]) r gA r r r r r r r r<|dT (fr':=[(0,aD),(2,bK),(3,eE),(5,aFs),(13,.ptrs [(2,0),(2,1),(2,2),(2,3),(2,4),(2,5),(2,6)]),(14,aI),(15,aI)]) r<|dH<|cY<|bA<|aN r (zB (fY r r) (show _=.int .i64 (5:Int) from r))<|mI r<|dT (fr':=[(0,aD),(2,bK),(3,eE),(5,aFs),(13,.ptrs [(2,0),(2,1),(2,2),(2,3),(2,4),(2,5),(2,6)]),(14,aI),(15,aI)]) r<|lM<|xM<|aU<|bA<|aN r (zB (gC r r) (show _=.bool true from r))<|aG (fr':=[(0,aD),(2,bK),(3,eE),(13,.ptrs [(2,0),(2,1),(2,2),(2,3),(2,4),(2,5),(2,6)]),(14,aI),(15,aI),(16,aB)]) r r<|aU<|kD r<|bL<|cY<|aU<|cE<|aH<|aN r (oL (p:=(2,5)) uE r r r)<|aN r (jV vQ r)<|sV (v:=aFt) r<|aG (fr':=[(0,aD),(2,bK),(3,eE),(5,aFt),(13,.ptrs [(2,0),(2,1),(2,2),(2,3),(2,4),(2,5),(2,6)]),(14,aI),(15,aI)]) r r<|bA<|mV (v:=aFt) r<|mV (v:=aD) r<|bx h10 fun x11 y11 h12=>eW (v:=aI) (σ':=[dD,aV,aV]) [0] r (jE y11) r r lG (hU mZ aC) r r r<|aN r (kJ r)<|cD (v:=aI) (us:=[aI]) (cs:=aV) (σ':=[dD,aV,aV]) r gA r r r r r r r r<|dT (fr':=[(0,aD),(2,bK),(3,eE),(5,aFt),(13,.ptrs [(2,0),(2,1),(2,2),(2,3),(2,4),(2,5),(2,6)]),(14,aI),(15,aI)]) r<|dH<|cY<|bA<|aN r (zB (fY r r) (show _=.int .i64 (6:Int) from r))<|mI r<|dT (fr':=[(0,aD),(2,bK),(3,eE),(5,aFt),(13,.ptrs [(2,0),(2,1),(2,2),(2,3),(2,4),(2,5),(2,6)]),(14,aI),(15,aI)]) r<|lM<|xM<|aU<|bA<|aN r (zB (gC r r) (show _=.bool true from r))<|aG (fr':=[(0,aD),(2,bK),(3,eE),(13,.ptrs [(2,0),(2,1),(2,2),(2,3),(2,4),(2,5),(2,6)]),(14,aI),(15,aI),(16,aB)]) r r<|aU<|kD r<|bL<|cY<|aU<|cE<|aH<|aN r (oL (p:=(2,6)) uE r r r)<|aN r (jV vQ r)<|sV (v:=aFu) r<|aG (fr':=[(0,aD),(2,bK),(3,eE),(5,aFu),(13,.ptrs [(2,0),(2,1),(2,2),(2,3),(2,4),(2,5),(2,6)]),(14,aI),(15,aI)]) r r<|bA<|mV (v:=aFu) r<|mV (v:=aD) r<|bx h12 fun x13 y13 h14=>eW (v:=aI) (σ':=[dD,aV,aV]) [0] r (jE y13) r r lG (hU mZ aC) r r r<|aN r (kJ r)<|cD (v:=aI) (us:=[aI]) (cs:=aV) (σ':=[dD,aV,aV]) r gA r r r r r r r r<|dT (fr':=[(0,aD),(2,bK),(3,eE),(5,aFu),(13,.ptrs [(2,0),(2,1),(2,2),(2,3),(2,4),(2,5),(2,6)]),(14,aI),(15,aI)]) r<|dH<|cY<|bA<|aN r (zB (fY r r) (show _=.int .i64 (7:Int) from r))<|mI r<|dT (fr':=[(0,aD),(2,bK),(3,eE),(5,aFu),(13,.ptrs [(2,0),(2,1),(2,2),(2,3),(2,4),(2,5),(2,6)]),(14,aI),(15,aI)]) r<|lM<|xM<|aU<|bA<|aN r (zB (gC r r) (show _=.bool false from r))<|aG (fr':=[(0,aD),(2,bK),(3,eE),(13,.ptrs [(2,0),(2,1),(2,2),(2,3),(2,4),(2,5),(2,6)]),(14,aI),(15,aI),(16,aB)]) r r<|aU<|aCD r<|iA<|cX<|cX<|fS<|cY<|aH<|mV (v:=aD) r<|bx h14 fun x15 y15 h16=>eW (v:=aS) (σ':=[dD,aV,aV]) [0] r (lQ y15) r r kU (hU mZ aC) r r r<|aN r (bE xZ r)<|cD (v:=aS) (us:=[aS]) (cs:=aV) (σ':=[dD,aV,aV]) r mG r r r r r r r r<|aG (fr':=[(0,aD),(2,bK),(3,eE)]) r r<|aH<|mV (v:=aD) r ?_
 obtain ⟨x17,y17,h18⟩:=lB h16
 refine eW (v:=aS) (σ':=[dD,aV,aV]) [0] r (lQ y17) r r kU (hU mZ aC) r r r<|aN r (bE yA r)<|cD (v:=aS) (us:=[aS]) (cs:=aV) (σ':=[dD,aV,aV]) r mG r r r r r r r r<|aG (fr':=[(0,aD),(2,bK),(3,eE)]) r r<|aH<|mV (v:=aD) r<|bx h18 fun x19 y19 h20=>eW (v:=.agg cH) (σ':=[dD,aV,aV]) [0] r (aAR y19) r r ⟨lr,trivial⟩ (hU mZ aC) r r r<|aN r (bE aA5 r)<|cD (v:=.agg cH) (us:=cH) (cs:=aV) (σ':=[dD,aV,sT]) r jC r r r r r r r r<|aG (fr':=[(0,aD),(2,bK),(3,eE)]) r r<|aH<|mV (v:=aD) r<|bx h20 fun x21 y21 h22=>eW (v:=.agg dE) (σ':=[dD,aV,sT]) [0] r (aAP y21) r r ⟨lr,trivial⟩ (hU mZ aC) r r r<|aN r (bE aBW r)<|cD (v:=.agg dE) (us:=dE) (cs:=sT) (σ':=[dD,aV,aT]) r aAm r r r r r r r r<|aG (fr':=[(0,aD),(2,bK),(3,eE)]) r r<|bx h22 fun x23 y23 h24=>jR (fun j25=>x23=j25) (fun (j25:aX)=>([(0,aD),(2,bK),(3,eE)]:Fr)) (fun (j25:aX)=>([[.c (PV.ls 1 hF j25.b_),ci j25.at_,ci j25.err_,.c (.bool j25.made_)],[ci 0,ci 0,ci 0,ci 0,ci 0,ci 0,ci 0,.c (.str ([]:List UInt8)),.c (.str ([]:List UInt8)),ci 0,ci 0,.c (.str ([]:List UInt8)),AV.nil,AV.nil,.c (.str ([]:List UInt8)),ci 0,ci 0,ci 0,ci 0,ci 0,ci 0,ci 0,ci 0,AV.nil],[ci x1.1,ci x3.1,ci x5.1,ci x7.1,ci x9.1,ci x11.1,ci x13.1,.c (.str x15.1),.c (.str x17.1),ci x19.1.Kind,ci x19.1.Int,.c (.str x19.1.Text),.c (PV.ls 5 bO x19.1.Items),.c (PV.ls 1 fZ x19.1.Keys),.c (.str x21.1.Queue),ci x21.1.ToStart,ci x21.1.ToClose,ci x21.1.Total,ci x21.1.Beat,ci x21.1.First,ci x21.1.Coef,ci x21.1.Most,ci x21.1.Attempts,.c (PV.ls 1 fZ x21.1.Fatal)]]:St)) ?_ ?_
 ·
  refine aH<|mV (v:=aD) r<|bx y23 fun x26 y26 h27=>eW (v:=aI) (σ':=[dD,aV,aT]) [0] r (hS y26) r r ⟨lr,trivial⟩ (hU mZ aC) r r r<|aN r (cC r r)<|mB r<|og r r r (fun u=>(dN (us:=aT) aDp r r r r))<|bx h27 fun x28 y28 h29=>uP r r (fun u=>bC (v:=aB) r (aFF (cZ y28 u)) ⟨(fH (gx r u) (bQ r aGD)),trivial⟩ (gO (by repeat (first | exact fC | refine aZ r ?_ | refine aZ (rG r) ?_ | refine aZ rF ?_))) r r) ?_
  refine og r r r (fun u=>(fP (gx r u)))<|aN r (cB r r r (fun e=>fU e))<|aG (fr':=[(0,aD),(2,bK),(3,eE),(43,aB)]) r r<|cN h29 r (fun b30 h30=>?_) (fun b30 h30=>?_)
  ·
   exact bA<|mV (v:=aD) r<|bx h30 fun x31 y31 h32=>eW (v:=_) (σ':=[dD,aV,aT]) [0] r (nW y31) r r kU (hU mZ aC) r r r<|dT (fr':=[(0,aD),(2,bK),(3,eE),(43,aB)]) r<|kI _ (sy h32) (bH [] 3 r r r r lG (cV r (cV r (cV r aC))))
  ·
   exact bL<|kI _ (sy h30) (bH [] 3 r r r r lG (cV r (cV r (cV r aC))))
 ·
  intro j25 hj33
  subst hj33
  refine aU<|aH<|mV (v:=aD) r<|bx h24 fun x34 y34 h35=>eW (v:=aI) (σ':=[dD,aV,aT]) [0] r (hS y34) r r ⟨lr,trivial⟩ (hU mZ aC) r r r<|aN r (iY r r)<|aG (fr':=[(2,bK),(3,eE),(48,aB)]) r r<|cN h35 r (fun b36 h36=>?_) (fun b36 h36=>?_)
  ·
   refine aH<|aN r (jY (c0:=aV) (cs:=aV) aWq r jX)<|cD (v:=.agg aV) (us:=aV) (cs:=aV) (σ':=[dD,aV,aT]) r aDp r r r r r r r r<|aG (fr':=[(2,bK)]) r r<|bJ<|aQ ?_
   obtain rfl:=sy h36
   exact bI (rs':=[.cell 2 30]) r<|eN (us:=aV) (cs:=aV) aDp r r r r<|bG<|aP [] r r r (bQ r ⟨r,r,r,r,r,r,r,r,r,r,r,r,⟨_,r⟩,⟨_,r⟩,r,r,r,r,r,r,r,r,r,⟨_,r⟩,trivial⟩) (hU mZ aC)
  ·
   refine bL<|cY<|aH<|aN r (dN (us:=aT) aDp r r r r)<|cD (v:=.agg aT) (us:=aT) (cs:=aV) (σ':=[dD,aT,aT]) r aDp r r r r r r r r<|aG (fr':=[(2,bK)]) r r<|bJ ?_
   obtain rfl:=sy h36
   exact bI (rs':=[.cell 2 30]) r<|eN (us:=aT) (cs:=aT) aDp r r r r<|bG<|aP [] r r r (bQ r aGD) (hU mZ aC)
noncomputable def oZ (eK:aX):Option Int :=
 (gN eK).bind fun x1=>cond (!decide (x1=0)) (some x1) (cond (decide (eK.at_<((eK.b_).length:Int))) (some 3) (some 0))
theorem aCV {eK:aX}{z:Int} (h:oZ eK=some z):cR Tryz.prog 65 [.box 0 0] [AV.cs (eS eK)] (ci z) [AV.cs (eS eK)]:=by
 unfold oZ at h
 refine dQ (fn:=Tryz.f65) [0,2,3,7,18] (by kernel_rfl) Tryz.func65 r (by kernel_rfl) (by kernel_rfl)<|aH<|sI r<|aG (fr':=[(0,aD)]) r r<|aU<|aH<|mV (v:=aD) r<|bx h fun x1 y1 h2=>eW (v:=aI) (σ':=[dD]) [0] r (hS y1) r r ⟨lr,trivial⟩ (hU mZ aC) r r r<|sI r<|aG (fr':=[(0,aD),(3,aI)]) r r<|aH<|mI r<|aN r (iY r r)<|aG (fr':=[(0,aD),(3,aI),(7,aB)]) r r<|cN h2 r (fun b3 h3=>?_) (fun b3 h3=>?_)
 ·
  refine aH<|mI r<|sI r<|aG (fr':=[(2,aI)]) r r<|bJ<|aQ ?_
  obtain rfl:=sy h3
  exact bI (rs':=[.tmp 2]) r<|bX (v:=aI) r<|bG<|aP [] r r r lr (cV r aC)
 ·
  refine bL<|cY<|aU<|aU<|mW [.q 0,.q 1,.q 2,.q 3,.q 4,.q 5,.q 6,.q 7,.q 8,.q 9] [(some 9,[0]),(some 10,[9]),(some 11,[10]),(some 12,[11]),(some 13,[0]),(some 14,[13]),(some 15,[14]),(some 16,[15]),(some 17,[16]),(some 18,[12,17])] [0,1,3,7,0,16,48,112,240,511] (by kernel_rfl)<|dq r r (bS (v:=aD) r)<|dq r r (kJ r)<|dq r r (bE aDQ r)<|dq r r (aJ (v:=aI) gA r r r)<|dq r r (bS (v:=aD) r)<|dq r r (kJ r)<|dq r r (bE aMq r)<|dq r r (aJ (v:=aL) aTV r r r)<|dq r r (gQ aFi (eD r))<|dq r r (gC r r)<|aBl (fr':=[(18,aB)]) r r<|cN h3 r (fun b5 h5=>?_) (fun b5 h5=>?_)
  ·
   refine aH<|sI r<|aG (fr':=[(2,aI)]) r r<|bJ<|aQ ?_
   obtain rfl:=sy h5
   exact bI (rs':=[.tmp 2]) r<|bX (v:=aI) r<|bG<|aP [] r r r lr (cV r aC)
  ·
   refine bL<|cY<|aH<|sI r<|aG (fr':=[(2,aI)]) r r<|bJ ?_
   obtain rfl:=sy h5
   exact bI (rs':=[.tmp 2]) r<|bX (v:=aI) r<|bG<|aP [] r r r lr (cV r aC)
noncomputable def aA9 (p0a:aK) (p1b:aK) (s6:Int):Option (dU Int (Fl Bool Unit)) :=
 cond (decide (s6<((p0a.Keys).length:Int))) ((mP p0a.Keys s6).bind fun x8=>(mP p1b.Keys s6).bind fun x10=>cond (!decide (x8=x10)) (some (dU.out (Fl.done false))) (some (dU.next (IntKind.wrap .i64 (s6+1))))) (some (dU.out (Fl.go ())))
noncomputable def aBa (aJV:aK→aK→Option Bool) (p0a:aK) (p1b:aK) (s21:Int):Option (dU Int (Fl Bool Unit)) :=
 cond (decide (s21<((p0a.Items).length:Int))) ((mP p0a.Items s21).bind fun x23=>(mP p1b.Items s21).bind fun x25=>(aJV x23 x25).bind fun x27=>cond (!x27) (some (dU.out (Fl.done false))) (some (dU.next (IntKind.wrap .i64 (s21+1))))) (some (dU.out (Fl.go ())))
noncomputable def xO:Nat→aK→aK→Option Bool
 | 0,_,_=>none
 | n+1,p0a,p1b =>
  cond (cond (cond (cond (cond (!decide (p0a.Kind=p1b.Kind)) true (!decide (p0a.Int=p1b.Int))) true (!decide (p0a.Text=p1b.Text))) true (!decide (((p0a.Items).length:Int)=((p1b.Items).length:Int)))) true (!decide (((p0a.Keys).length:Int)=((p1b.Keys).length:Int)))) (some false) ((gL (aA9 p0a p1b) (0)).bind fun x3=>Fl.next x3 (fun j5=>((gL (aBa (xO n) p0a p1b) (0)).bind fun x18=>Fl.next x18 (fun j20=>(some true)))))
theorem aKW:∀ n:Nat,(∀ {p0a:aK}{p1b:aK}{z:Bool},xO n p0a p1b=some z→cR Tryz.prog 66 [.agg (AV.cs (fA p0a)),.agg (AV.cs (fA p1b))] [] (.c (.bool z)) []):=by
 intro n
 induction n with
 | zero=>exact fun {p0a p1b z} h=>absurd h (by simp [xO])
 | succ n ih =>
  have ih_ref02xSame:=@ih
  intro p0a p1b z h
  rw [xO] at h
  refine dQ (fn:=Tryz.f66) [0,1,2,3,4,5,6,43,48,61,66,80] (by kernel_rfl) Tryz.func66 r (by kernel_rfl) (by kernel_rfl)<|aH<|iR (v:=.agg cH) (n:=0) (cs:=cH) (σ':=[cH]) r r r r r<|iR (v:=.agg cH) (n:=1) (cs:=cH) (σ':=[cH,cH]) r r r r r<|sB r<|aG (fr':=[(2,aD),(3,bK)]) r r<|aU<|aH<|aN r (bE lU r)<|aN r (aJ (v:=aI) gA r r r)<|aN r (bE lU r)<|aN r (aJ (v:=aI) gA r r r)<|aN r (iY r r)<|mB r<|og r r r (fun u=>(bE tY r))<|og r r r (fun u=>(aJ (v:=aI) gA (gx r u) r r))<|og r r r (fun u=>(bE tY r))<|og r r r (fun u=>(aJ (v:=aI) gA (gx r u) r r))<|og r r r (fun u=>(iY (gx r u) (gx r u)))<|aN r (cM r r r (fun e=>fU e))<|mB r<|og r r r (fun u=>(bE tZ r))<|og r r r (fun u=>(aJ (v:=aS) mG (gx r u) r r))<|og r r r (fun u=>(bE tZ r))<|og r r r (fun u=>(aJ (v:=aS) mG (gx r u) r r))<|og r r r (fun u=>(vK (gx r u) (gx r u)))<|aN r (cM r r r (fun e=>fU e))<|mB r<|og r r r (fun u=>(bE iH r))<|og r r r (fun u=>(aJ (v:=aL) nJ (gx r u) r r))<|og r r r (fun u=>(gQ vC (eD (gx r u))))<|og r r r (fun u=>(bE iH r))<|og r r r (fun u=>(aJ (v:=aL) nJ (gx r u) r r))<|og r r r (fun u=>(gQ vC (eD (gx r u))))<|og r r r (fun u=>(iY (gx r u) (gx r u)))<|aN r (cM r r r (fun e=>fU e))<|mB r<|og r r r (fun u=>(bE qJ r))<|og r r r (fun u=>(aJ (v:=aL) sE (gx r u) r r))<|og r r r (fun u=>(gQ yZ (eD (gx r u))))<|og r r r (fun u=>(bE qJ r))<|og r r r (fun u=>(aJ (v:=aL) sE (gx r u) r r))<|og r r r (fun u=>(gQ yZ (eD (gx r u))))<|og r r r (fun u=>(iY (gx r u) (gx r u)))<|aN r (cM r r r (fun e=>fU e))<|aG (fr':=[(2,aD),(3,bK),(43,aB)]) r r<|cN h r (fun b1 h1=>?_) (fun b1 h1=>?_)
  ·
   refine aH<|sB r<|aG (fr':=[(4,aB)]) r r<|bJ<|aQ ?_
   obtain rfl:=sy h1
   exact bI (rs':=[.tmp 4]) r<|bX (v:=aB) r<|bG<|aP [] r r r lr aC
  ·
   refine bL<|cY<|aU<|aH<|sI r<|aG (fr':=[(2,aD),(3,bK),(5,aI)]) r r<|bx h1 fun x3 y3 h4=>gY kS (fun j5=>x3=Fl.go j5) (fun (j5:Unit)=>([(2,aD),(3,bK)]:Fr)) (fun (j5:Unit)=>([[ci p0a.Kind,ci p0a.Int,.c (.str p0a.Text),.c (PV.ls 5 bO p0a.Items),.c (PV.ls 1 fZ p0a.Keys)],[ci p1b.Kind,ci p1b.Int,.c (.str p1b.Text),.c (PV.ls 5 bO p1b.Items),.c (PV.ls 1 fZ p1b.Keys)]]:St)) ?_ ?_
   ·
    refine cE<|gU _ (fun (s6:Int)=>([(2,aD),(3,bK),(5,ci s6)]:Fr)) (fun (s6:Int)=>([[ci p0a.Kind,ci p0a.Int,.c (.str p0a.Text),.c (PV.ls 5 bO p0a.Items),.c (PV.ls 1 fZ p0a.Keys)],[ci p1b.Kind,ci p1b.Int,.c (.str p1b.Text),.c (PV.ls 5 bO p1b.Items),.c (PV.ls 1 fZ p1b.Keys)]]:St)) y3 (bH [] 2 r r r r lG (cV r (cV r aC))) ?_
    intro s6 st6 hs6 ho6
    unfold aA9 at hs6
    refine aU<|aH<|mI r<|aN r (bE qJ r)<|aN r (aJ (v:=aL) sE r r r)<|aN r (gQ yZ (eD r))<|aN r (gC r r)<|aG (fr':=[(2,aD),(3,bK),(5,aI),(48,aB)]) r r<|cN hs6 r (fun b7 h7=>?_) (fun b7 h7=>?_)
    ·
     refine bL<|cY<|aU<|cE<|aU<|mW [.q 0,.q 1,.q 2,.q 3,.q 4,.q 5,.q 6,.q 7,.q 8,.q 9,.q 10] [(some 51,[2]),(some 52,[51]),(some 53,[5]),(some 54,[52,53]),(some 55,[54]),(some 56,[3]),(some 57,[56]),(some 58,[5]),(some 59,[57,58]),(some 60,[59]),(some 61,[55,60])] [0,1,0,7,15,0,32,0,224,480,1023] (by kernel_rfl)<|dq r r (bE qJ r)<|dq r r (aJ (v:=aL) sE r r r)<|dq r r (bS (v:=aI) r)<|bx h7 fun x8 y8 h9=>dq r r (lT (cs:=[PV.str _]) aBI (eD r) r y8 r)<|dq r r (iO (p:=PV.str _) mG r r)<|dq r r (bE qJ r)<|dq r r (aJ (v:=aL) sE r r r)<|dq r r (bS (v:=aI) r)<|bx h9 fun x10 y10 h11=>dq r r (lT (cs:=[PV.str _]) aBI (eD r) r y10 r)<|dq r r (iO (p:=PV.str _) mG r r)<|dq r r (vK r r)<|aBl (fr':=[(2,aD),(3,bK),(5,aI),(61,aB)]) r r<|cN h11 r (fun b12 h12=>?_) (fun b12 h12=>?_)
     ·
      refine aH<|sB r<|aG (fr':=[(4,aB)]) r r<|bJ<|bM<|aQ<|aQ<|bM<|aQ<|aQ ?_
      have h13:=eZ h12 ho6
      have h14:=gT h13 h4
      obtain rfl:=sy h14
      exact bI (rs':=[.tmp 4]) r<|bX (v:=aB) r<|bG<|aP [] r r r lr aC
     ·
      exact bL<|dH<|cY<|bA<|mI r<|aN r (fY r r)<|sI r<|dT (fr':=[(2,aD),(3,bK),(5,aI),(61,aB)]) r<|e_l _ (sy h12) (bH [] 2 r r r r lG (cV r (cV r aC)))
    ·
     refine iA<|cX<|cX<|fS ?_
     have h16:=eZ h7 ho6
     exact kI _ (sy h16) (bH [] 2 r r r r kU (cV r (cV r aC)))
   ·
    intro j5 hj17
    have h17:=mY hj17 h4
    refine cY<|aU<|aH<|sI r<|aG (fr':=[(2,aD),(3,bK),(6,aI)]) r r<|bx h17 fun x18 y18 h19=>gY kS (fun j20=>x18=Fl.go j20) (fun (j20:Unit)=>([]:Fr)) (fun (j20:Unit)=>([[ci p0a.Kind,ci p0a.Int,.c (.str p0a.Text),.c (PV.ls 5 bO p0a.Items),.c (PV.ls 1 fZ p0a.Keys)],[ci p1b.Kind,ci p1b.Int,.c (.str p1b.Text),.c (PV.ls 5 bO p1b.Items),.c (PV.ls 1 fZ p1b.Keys)]]:St)) ?_ ?_
    ·
     refine cE<|gU _ (fun (s21:Int)=>([(2,aD),(3,bK),(6,ci s21)]:Fr)) (fun (s21:Int)=>([[ci p0a.Kind,ci p0a.Int,.c (.str p0a.Text),.c (PV.ls 5 bO p0a.Items),.c (PV.ls 1 fZ p0a.Keys)],[ci p1b.Kind,ci p1b.Int,.c (.str p1b.Text),.c (PV.ls 5 bO p1b.Items),.c (PV.ls 1 fZ p1b.Keys)]]:St)) y18 (bH [] 2 r r r r lG (cV r (cV r aC))) ?_
     intro s21 st21 hs21 ho21
     unfold aBa at hs21
     refine aU<|aH<|mI r<|aN r (bE iH r)<|aN r (aJ (v:=aL) nJ r r r)<|aN r (gQ vC (eD r))<|aN r (gC r r)<|aG (fr':=[(2,aD),(3,bK),(6,aI),(66,aB)]) r r<|cN hs21 r (fun b22 h22=>?_) (fun b22 h22=>?_)
     ·
      refine bL<|cY<|aU<|cE<|aU<|mW [.q 0,.q 1,.q 2,.q 3,.q 4,.q 5,.q 6,.q 7,.q 8,.q 9,.q 10,.q 11] [(some 69,[2]),(some 70,[69]),(some 71,[6]),(some 72,[70,71]),(some 73,[72]),(some 74,[3]),(some 75,[74]),(some 76,[6]),(some 77,[75,76]),(some 78,[77]),(some 79,[73,78]),(some 80,[79])] [0,1,0,7,15,0,32,0,224,480,1023,2047] (by kernel_rfl)<|dq r r (bE iH r)<|dq r r (aJ (v:=aL) nJ r r r)<|dq r r (bS (v:=aI) r)<|bx h22 fun x23 y23 h24=>dq r r (lT (cs:=[PV.int _ _,PV.int _ _,PV.str _,PV.ls _ _ _,PV.ls _ _ _]) uW (eD r) r y23 (eA _))<|dq r r (kT (us:=[PV.int _ _,PV.int _ _,PV.str _,PV.ls _ _ _,PV.ls _ _ _]) jC r r r)<|dq r r (bE iH r)<|dq r r (aJ (v:=aL) nJ r r r)<|dq r r (bS (v:=aI) r)<|bx h24 fun x25 y25 h26=>dq r r (lT (cs:=[PV.int _ _,PV.int _ _,PV.str _,PV.ls _ _ _,PV.ls _ _ _]) uW (eD r) r y25 (eA _))<|dq r r (kT (us:=[PV.int _ _,PV.int _ _,PV.str _,PV.ls _ _ _,PV.ls _ _ _]) jC r r r)<|bx h26 fun x27 y27 h28=>d_q r (aCP (v:=aB) r (ih_ref02xSame y27) ⟨(bQ r zA),(bQ r zA),trivial⟩ r)<|dq r r (fP r)<|aBl (fr':=[(2,aD),(3,bK),(6,aI),(80,aB)]) r r<|cN h28 r (fun b29 h29=>?_) (fun b29 h29=>?_)
      ·
       refine aH<|sB r<|aG (fr':=[(4,aB)]) r r<|bJ<|bM<|aQ<|aQ<|bM<|aQ<|aQ ?_
       have h30:=eZ h29 ho21
       have h31:=gT h30 h19
       obtain rfl:=sy h31
       exact bI (rs':=[.tmp 4]) r<|bX (v:=aB) r<|bG<|aP [] r r r lr aC
      ·
       exact bL<|dH<|cY<|bA<|mI r<|aN r (fY r r)<|sI r<|dT (fr':=[(2,aD),(3,bK),(6,aI),(80,aB)]) r<|e_l _ (sy h29) (bH [] 2 r r r r lG (cV r (cV r aC)))
     ·
      refine iA<|cX<|cX<|fS ?_
      have h33:=eZ h22 ho21
      exact kI _ (sy h33) (bH [] 2 r r r r trivial (cV r (cV r aC)))
    ·
     intro j20 hj34
     have h34:=mY hj34 h19
     refine cY<|aH<|sB r<|aG (fr':=[(4,aB)]) r r<|bJ ?_
     obtain rfl:=sy h34
     exact bI (rs':=[.tmp 4]) r<|bX (v:=aB) r<|bG<|aP [] r r r lr aC
noncomputable def aA1 (p0a:aK) (p1b:aK):Option Bool:=lim fun n=>xO n p0a p1b
theorem aBZ {p0a:aK}{p1b:aK}{z:Bool} (h:aA1 p0a p1b=some z):cR Tryz.prog 66 [.agg (AV.cs (fA p0a)),.agg (AV.cs (fA p1b))] [] (.c (.bool z)) []:=by
 obtain ⟨n,hn⟩:=rI h
 exact (aKW n) hn
noncomputable def rJ (p0a:dR) (p1b:dR) (s8:Int):Option (dU Int (Fl Bool Unit)) :=
 cond (decide (s8<((p0a.Fatal).length:Int))) ((mP p0a.Fatal s8).bind fun x10=>(mP p1b.Fatal s8).bind fun x12=>cond (!decide (x10=x12)) (some (dU.out (Fl.done false))) (some (dU.next (IntKind.wrap .i64 (s8+1))))) (some (dU.out (Fl.go ())))
noncomputable def oA (p0a:dR) (p1b:dR):Option Bool :=
 cond (cond (cond (cond (cond (!decide (p0a.Queue=p1b.Queue)) true (!decide (p0a.ToStart=p1b.ToStart))) true (!decide (p0a.ToClose=p1b.ToClose))) true (!decide (p0a.Total=p1b.Total))) true (!decide (p0a.Beat=p1b.Beat))) (some false) (cond (cond (cond (cond (cond (!decide (p0a.First=p1b.First)) true (!decide (p0a.Coef=p1b.Coef))) true (!decide (p0a.Most=p1b.Most))) true (!decide (p0a.Attempts=p1b.Attempts))) true (!decide (((p0a.Fatal).length:Int)=((p1b.Fatal).length:Int)))) (some false) ((gL (rJ p0a p1b) (0)).bind fun x5=>Fl.next x5 (fun j7=>(some true))))
theorem vW {p0a:dR}{p1b:dR}{z:Bool} (h:oA p0a p1b=some z):cR Tryz.prog 67 [.agg (AV.cs (lP p0a)),.agg (AV.cs (lP p1b))] [] (.c (.bool z)) []:=by
 unfold oA at h
 refine dQ (fn:=Tryz.f67) [0,1,2,3,4,5,38,73,78,91] (by kernel_rfl) Tryz.func67 r (by kernel_rfl) (by kernel_rfl)<|aH<|iR (v:=.agg dE) (n:=0) (cs:=dE) (σ':=[dE]) r r r r r<|iR (v:=.agg dE) (n:=1) (cs:=dE) (σ':=[dE,dE]) r r r r r<|sB r<|aG (fr':=[(2,aD),(3,bK)]) r r<|aU<|aH<|aN r (bE aCq r)<|aN r (aJ (v:=aS) mG r r r)<|aN r (bE aCq r)<|aN r (aJ (v:=aS) mG r r r)<|aN r (vK r r)<|mB r<|og r r r (fun u=>(bE aFX r))<|og r r r (fun u=>(aJ (v:=aI) gA (gx r u) r r))<|og r r r (fun u=>(bE aFX r))<|og r r r (fun u=>(aJ (v:=aI) gA (gx r u) r r))<|og r r r (fun u=>(iY (gx r u) (gx r u)))<|aN r (cM r r r (fun e=>fU e))<|mB r<|og r r r (fun u=>(bE aFY r))<|og r r r (fun u=>(aJ (v:=aI) gA (gx r u) r r))<|og r r r (fun u=>(bE aFY r))<|og r r r (fun u=>(aJ (v:=aI) gA (gx r u) r r))<|og r r r (fun u=>(iY (gx r u) (gx r u)))<|aN r (cM r r r (fun e=>fU e))<|mB r<|og r r r (fun u=>(bE aFZ r))<|og r r r (fun u=>(aJ (v:=aI) gA (gx r u) r r))<|og r r r (fun u=>(bE aFZ r))<|og r r r (fun u=>(aJ (v:=aI) gA (gx r u) r r))<|og r r r (fun u=>(iY (gx r u) (gx r u)))<|aN r (cM r r r (fun e=>fU e))<|mB r<|og r r r (fun u=>(bE aF0 r))<|og r r r (fun u=>(aJ (v:=aI) gA (gx r u) r r))<|og r r r (fun u=>(bE aF0 r))<|og r r r (fun u=>(aJ (v:=aI) gA (gx r u) r r))<|og r r r (fun u=>(iY (gx r u) (gx r u)))<|aN r (cM r r r (fun e=>fU e))<|aG (fr':=[(2,aD),(3,bK),(38,aB)]) r r<|cN h r (fun b1 h1=>?_) (fun b1 h1=>?_)
 ·
  refine aH<|sB r<|aG (fr':=[(4,aB)]) r r<|bJ<|aQ ?_
  obtain rfl:=sy h1
  exact bI (rs':=[.tmp 4]) r<|bX (v:=aB) r<|bG<|aP [] r r r lr aC
 ·
  refine bL<|cY<|aU<|aH<|aN r (bE aF1 r)<|aN r (aJ (v:=aI) gA r r r)<|aN r (bE aF1 r)<|aN r (aJ (v:=aI) gA r r r)<|aN r (iY r r)<|mB r<|og r r r (fun u=>(bE aF2 r))<|og r r r (fun u=>(aJ (v:=aI) gA (gx r u) r r))<|og r r r (fun u=>(bE aF2 r))<|og r r r (fun u=>(aJ (v:=aI) gA (gx r u) r r))<|og r r r (fun u=>(iY (gx r u) (gx r u)))<|aN r (cM r r r (fun e=>fU e))<|mB r<|og r r r (fun u=>(bE aF3 r))<|og r r r (fun u=>(aJ (v:=aI) gA (gx r u) r r))<|og r r r (fun u=>(bE aF3 r))<|og r r r (fun u=>(aJ (v:=aI) gA (gx r u) r r))<|og r r r (fun u=>(iY (gx r u) (gx r u)))<|aN r (cM r r r (fun e=>fU e))<|mB r<|og r r r (fun u=>(bE aF4 r))<|og r r r (fun u=>(aJ (v:=aI) gA (gx r u) r r))<|og r r r (fun u=>(bE aF4 r))<|og r r r (fun u=>(aJ (v:=aI) gA (gx r u) r r))<|og r r r (fun u=>(iY (gx r u) (gx r u)))<|aN r (cM r r r (fun e=>fU e))<|mB r<|og r r r (fun u=>(bE uA r))<|og r r r (fun u=>(aJ (v:=aL) sE (gx r u) r r))<|og r r r (fun u=>(gQ yZ (eD (gx r u))))<|og r r r (fun u=>(bE uA r))<|og r r r (fun u=>(aJ (v:=aL) sE (gx r u) r r))<|og r r r (fun u=>(gQ yZ (eD (gx r u))))<|og r r r (fun u=>(iY (gx r u) (gx r u)))<|aN r (cM r r r (fun e=>fU e))<|aG (fr':=[(2,aD),(3,bK),(73,aB)]) r r<|cN h1 r (fun b3 h3=>?_) (fun b3 h3=>?_)
  ·
   refine aH<|sB r<|aG (fr':=[(4,aB)]) r r<|bJ<|aQ ?_
   obtain rfl:=sy h3
   exact bI (rs':=[.tmp 4]) r<|bX (v:=aB) r<|bG<|aP [] r r r lr aC
  ·
   refine bL<|cY<|aU<|aH<|sI r<|aG (fr':=[(2,aD),(3,bK),(5,aI)]) r r<|bx h3 fun x5 y5 h6=>gY kS (fun j7=>x5=Fl.go j7) (fun (j7:Unit)=>([]:Fr)) (fun (j7:Unit)=>([[.c (.str p0a.Queue),ci p0a.ToStart,ci p0a.ToClose,ci p0a.Total,ci p0a.Beat,ci p0a.First,ci p0a.Coef,ci p0a.Most,ci p0a.Attempts,.c (PV.ls 1 fZ p0a.Fatal)],[.c (.str p1b.Queue),ci p1b.ToStart,ci p1b.ToClose,ci p1b.Total,ci p1b.Beat,ci p1b.First,ci p1b.Coef,ci p1b.Most,ci p1b.Attempts,.c (PV.ls 1 fZ p1b.Fatal)]]:St)) ?_ ?_
   ·
    refine cE<|gU _ (fun (s8:Int)=>([(2,aD),(3,bK),(5,ci s8)]:Fr)) (fun (s8:Int)=>([[.c (.str p0a.Queue),ci p0a.ToStart,ci p0a.ToClose,ci p0a.Total,ci p0a.Beat,ci p0a.First,ci p0a.Coef,ci p0a.Most,ci p0a.Attempts,.c (PV.ls 1 fZ p0a.Fatal)],[.c (.str p1b.Queue),ci p1b.ToStart,ci p1b.ToClose,ci p1b.Total,ci p1b.Beat,ci p1b.First,ci p1b.Coef,ci p1b.Most,ci p1b.Attempts,.c (PV.ls 1 fZ p1b.Fatal)]]:St)) y5 (bH [] 2 r r r r lG (cV r (cV r aC))) ?_
    intro s8 st8 hs8 ho8
    unfold rJ at hs8
    refine aU<|aH<|mI r<|aN r (bE uA r)<|aN r (aJ (v:=aL) sE r r r)<|aN r (gQ yZ (eD r))<|aN r (gC r r)<|aG (fr':=[(2,aD),(3,bK),(5,aI),(78,aB)]) r r<|cN hs8 r (fun b9 h9=>?_) (fun b9 h9=>?_)
    ·
     refine bL<|cY<|aU<|cE<|aU<|mW [.q 0,.q 1,.q 2,.q 3,.q 4,.q 5,.q 6,.q 7,.q 8,.q 9,.q 10] [(some 81,[2]),(some 82,[81]),(some 83,[5]),(some 84,[82,83]),(some 85,[84]),(some 86,[3]),(some 87,[86]),(some 88,[5]),(some 89,[87,88]),(some 90,[89]),(some 91,[85,90])] [0,1,0,7,15,0,32,0,224,480,1023] (by kernel_rfl)<|dq r r (bE uA r)<|dq r r (aJ (v:=aL) sE r r r)<|dq r r (bS (v:=aI) r)<|bx h9 fun x10 y10 h11=>dq r r (lT (cs:=[PV.str _]) aBI (eD r) r y10 r)<|dq r r (iO (p:=PV.str _) mG r r)<|dq r r (bE uA r)<|dq r r (aJ (v:=aL) sE r r r)<|dq r r (bS (v:=aI) r)<|bx h11 fun x12 y12 h13=>dq r r (lT (cs:=[PV.str _]) aBI (eD r) r y12 r)<|dq r r (iO (p:=PV.str _) mG r r)<|dq r r (vK r r)<|aBl (fr':=[(2,aD),(3,bK),(5,aI),(91,aB)]) r r<|cN h13 r (fun b14 h14=>?_) (fun b14 h14=>?_)
     ·
      refine aH<|sB r<|aG (fr':=[(4,aB)]) r r<|bJ<|bM<|aQ<|aQ<|bM<|aQ<|aQ ?_
      have h15:=eZ h14 ho8
      have h16:=gT h15 h6
      obtain rfl:=sy h16
      exact bI (rs':=[.tmp 4]) r<|bX (v:=aB) r<|bG<|aP [] r r r lr aC
     ·
      exact bL<|dH<|cY<|bA<|mI r<|aN r (fY r r)<|sI r<|dT (fr':=[(2,aD),(3,bK),(5,aI),(91,aB)]) r<|e_l _ (sy h14) (bH [] 2 r r r r lG (cV r (cV r aC)))
    ·
     refine iA<|cX<|cX<|fS ?_
     have h18:=eZ h9 ho8
     exact kI _ (sy h18) (bH [] 2 r r r r trivial (cV r (cV r aC)))
   ·
    intro j7 hj19
    have h19:=mY hj19 h6
    refine cY<|aH<|sB r<|aG (fr':=[(4,aB)]) r r<|bJ ?_
    obtain rfl:=sy h19
    exact bI (rs':=[.tmp 4]) r<|bX (v:=aB) r<|bG<|aP [] r r r lr aC
noncomputable def aCi (p0a:dP) (p1b:dP):Option Bool :=
 (gd ((cond (cond (cond (cond (cond (cond (cond (cond (decide (p0a.ID=p1b.ID)) (decide (p0a.Kind=p1b.Kind)) false) (decide (p0a.Time=p1b.Time)) false) (decide (p0a.Seq=p1b.Seq)) false) (decide (p0a.Ref=p1b.Ref)) false) (decide (p0a.N=p1b.N)) false) (decide (p0a.Code=p1b.Code)) false) (decide (p0a.Name=p1b.Name)) false) (decide (p0a.Key=p1b.Key)) false)==true) (aA1 p0a.Data p1b.Data)).bind fun x1=>(gd ((cond (cond (cond (cond (cond (cond (cond (cond (cond (decide (p0a.ID=p1b.ID)) (decide (p0a.Kind=p1b.Kind)) false) (decide (p0a.Time=p1b.Time)) false) (decide (p0a.Seq=p1b.Seq)) false) (decide (p0a.Ref=p1b.Ref)) false) (decide (p0a.N=p1b.N)) false) (decide (p0a.Code=p1b.Code)) false) (decide (p0a.Name=p1b.Name)) false) (decide (p0a.Key=p1b.Key)) false) x1 false)==true) (oA p0a.Opts p1b.Opts)).bind fun x3=>some (cond (cond (cond (cond (cond (cond (cond (cond (cond (cond (decide (p0a.ID=p1b.ID)) (decide (p0a.Kind=p1b.Kind)) false) (decide (p0a.Time=p1b.Time)) false) (decide (p0a.Seq=p1b.Seq)) false) (decide (p0a.Ref=p1b.Ref)) false) (decide (p0a.N=p1b.N)) false) (decide (p0a.Code=p1b.Code)) false) (decide (p0a.Name=p1b.Name)) false) (decide (p0a.Key=p1b.Key)) false) x1 false) x3 false)
theorem aMz {p0a:dP}{p1b:dP}{z:Bool} (h:aCi p0a p1b=some z):cR Tryz.prog 23 [.agg (AV.cs (eU p0a)),.agg (AV.cs (eU p1b))] [] (.c (.bool z)) []:=by
 unfold aCi at h
 refine dQ (fn:=Tryz.f23) [0,1,2,3,4] (by kernel_rfl) Tryz.func23 r (by kernel_rfl) (by kernel_rfl)<|aH<|iR (v:=.agg aT) (n:=0) (cs:=aT) (σ':=[aT]) r r r r r<|iR (v:=.agg aT) (n:=1) (cs:=aT) (σ':=[aT,aT]) r r r r r<|sB r<|aG (fr':=[(2,aD),(3,bK)]) r r<|aH<|aN r (bE aF5 r)<|aN r (aJ (v:=aI) gA r r r)<|aN r (bE aF5 r)<|aN r (aJ (v:=aI) gA r r r)<|aN r (cC r r)<|mB r<|og r r r (fun u=>(bE aAJ r))<|og r r r (fun u=>(aJ (v:=aI) gA (gx r u) r r))<|og r r r (fun u=>(bE aAJ r))<|og r r r (fun u=>(aJ (v:=aI) gA (gx r u) r r))<|og r r r (fun u=>(cC (gx r u) (gx r u)))<|aN r (cB r r r (fun e=>fU e))<|mB r<|og r r r (fun u=>(bE aF6 r))<|og r r r (fun u=>(aJ (v:=aI) gA (gx r u) r r))<|og r r r (fun u=>(bE aF6 r))<|og r r r (fun u=>(aJ (v:=aI) gA (gx r u) r r))<|og r r r (fun u=>(cC (gx r u) (gx r u)))<|aN r (cB r r r (fun e=>fU e))<|mB r<|og r r r (fun u=>(bE aCr r))<|og r r r (fun u=>(aJ (v:=aI) gA (gx r u) r r))<|og r r r (fun u=>(bE aCr r))<|og r r r (fun u=>(aJ (v:=aI) gA (gx r u) r r))<|og r r r (fun u=>(cC (gx r u) (gx r u)))<|aN r (cB r r r (fun e=>fU e))<|mB r<|og r r r (fun u=>(bE aCs r))<|og r r r (fun u=>(aJ (v:=aI) gA (gx r u) r r))<|og r r r (fun u=>(bE aCs r))<|og r r r (fun u=>(aJ (v:=aI) gA (gx r u) r r))<|og r r r (fun u=>(cC (gx r u) (gx r u)))<|aN r (cB r r r (fun e=>fU e))<|mB r<|og r r r (fun u=>(bE aAd r))<|og r r r (fun u=>(aJ (v:=aI) gA (gx r u) r r))<|og r r r (fun u=>(bE aAd r))<|og r r r (fun u=>(aJ (v:=aI) gA (gx r u) r r))<|og r r r (fun u=>(cC (gx r u) (gx r u)))<|aN r (cB r r r (fun e=>fU e))<|mB r<|og r r r (fun u=>(bE aBH r))<|og r r r (fun u=>(aJ (v:=aI) gA (gx r u) r r))<|og r r r (fun u=>(bE aBH r))<|og r r r (fun u=>(aJ (v:=aI) gA (gx r u) r r))<|og r r r (fun u=>(cC (gx r u) (gx r u)))<|aN r (cB r r r (fun e=>fU e))<|mB r<|og r r r (fun u=>(bE xZ r))<|og r r r (fun u=>(aJ (v:=aS) mG (gx r u) r r))<|og r r r (fun u=>(bE xZ r))<|og r r r (fun u=>(aJ (v:=aS) mG (gx r u) r r))<|og r r r (fun u=>(qZ (gx r u) (gx r u)))<|aN r (cB r r r (fun e=>fU e))<|mB r<|og r r r (fun u=>(bE yA r))<|og r r r (fun u=>(aJ (v:=aS) mG (gx r u) r r))<|og r r r (fun u=>(bE yA r))<|og r r r (fun u=>(aJ (v:=aS) mG (gx r u) r r))<|og r r r (fun u=>(qZ (gx r u) (gx r u)))<|aN r (cB r r r (fun e=>fU e))<|mB r<|og r r r (fun u=>(bE aA5 r))<|og r r r (fun u=>(dN (us:=cH) jC (gx r u) r r r))<|og r r r (fun u=>(bE aA5 r))<|og r r r (fun u=>(dN (us:=cH) jC (gx r u) r r r))<|bx h fun x1 y1 h2=>uP r r (fun u=>bC (v:=aB) r (aBZ (cZ y1 u)) ⟨(fH (gx r u) (bQ r zA)),(fH (gx r u) (bQ r zA)),trivial⟩ (gO (by repeat (first | exact fC | refine aZ r ?_ | refine aZ (rG r) ?_ | refine aZ rF ?_))) r r) ?_
 refine aN r (cB r r r (fun e=>fU e))<|mB r<|og r r r (fun u=>(bE aBW r))<|og r r r (fun u=>(dN (us:=dE) aAm (gx r u) r r r))<|og r r r (fun u=>(bE aBW r))<|og r r r (fun u=>(dN (us:=dE) aAm (gx r u) r r r))<|bx h2 fun x3 y3 h4=>uP r r (fun u=>bC (v:=aB) r (vW (cZ y3 u)) ⟨(fH (gx r u) (bQ r zX)),(fH (gx r u) (bQ r zX)),trivial⟩ (gO (by repeat (first | exact fC | refine aZ r ?_ | refine aZ (rG r) ?_ | refine aZ rF ?_))) r r) ?_
 refine aN r (cB r r r (fun e=>fU e))<|sB r<|aG (fr':=[(4,aB)]) r r<|bJ ?_
 obtain rfl:=sy h4
 exact bI (rs':=[.tmp 4]) r<|bX (v:=aB) r<|bG<|aP [] r r r lr aC
