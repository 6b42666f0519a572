import Derived.Test.YtnigjppddilpcaaGreatDoorGETy
import Derived.Test.YtnigjppddilpcaaGreatDoorGEF4
import Derived.Test.YtnigjppddilpcaaGreatDoorGEF5
namespace Go.Proofs.YtnigjppddilpcaaGreatDoor
open Go Abs
set_option maxRecDepth 100000
set_option linter.unusedVariables false
set_option linter.unusedSimpArgs false
noncomputable def lC (dA:aT):Option (bI × aT) :=
 (eQ (-9223372036854775808:Int) (9223372036854775807:Int) dA).bind fun x1=>(eQ (-9223372036854775808:Int) (9223372036854775807:Int) x1.2).bind fun x3=>(eQ (-9223372036854775808:Int) (9223372036854775807:Int) x3.2).bind fun x5=>(eQ (-9223372036854775808:Int) (9223372036854775807:Int) x5.2).bind fun x7=>(eQ (-9223372036854775808:Int) (9223372036854775807:Int) x7.2).bind fun x9=>(eQ (-9223372036854775808:Int) (9223372036854775807:Int) x9.2).bind fun x11=>(eQ (-9223372036854775808:Int) (9223372036854775807:Int) x11.2).bind fun x13=>(gI (4096:Int) x13.2).bind fun x15=>(gI (4096:Int) x15.2).bind fun x17=>(tW x17.2).bind fun x19=>(jU x19.2).bind fun x21=>(((eV x21.2).bind fun x26=>(gd ((decide (x26=(0:Int)))==true) (pP (bI.mk x1.1 x3.1 x5.1 x7.1 x9.1 x11.1 x13.1 x15.1 x17.1 x19.1 x21.1))).bind fun x28=>cond (cond (decide (x26=(0:Int))) (!x28) false) ((lD (11:Int) x21.2).bind fun x31=>some x31) (some x21.2)):Option aT).bind fun x23=>((eV x23).bind fun x34=>cond (!decide (x34=(0:Int))) (some ((bI.mk (0:Int) (0:Int) (0:Int) (0:Int) (0:Int) (0:Int) (0:Int) ([]:List UInt8) ([]:List UInt8) (aC.mk (0:Int) (0:Int) ([]:List UInt8) ([]:(List aC)) ([]:(List (List UInt8)))) (bG.mk ([]:List UInt8) (0:Int) (0:Int) (0:Int) (0:Int) (0:Int) (0:Int) (0:Int) (0:Int) ([]:(List (List UInt8))))),x23)) (some ((bI.mk x1.1 x3.1 x5.1 x7.1 x9.1 x11.1 x13.1 x15.1 x17.1 x19.1 x21.1),x23)))
theorem xK {dA:aT}{res:(bI × aT)} (h:lC dA=some res):bS Tryz.prog 27 [.box 0 0] [AV.cs (cY dA)] (.agg (AV.cs (cD res.1))) [AV.cs (cY res.2)]:=by
 unfold lC at h
 refine cJ (fn:=Tryz.f27) [0,2,3,5,13,14,15,16,43,48] (by kernel_rfl) Tryz.func27 r (by kernel_rfl) (by kernel_rfl)<|aH<|gC (n:=1) (cs:=aG) (σ':=[cP,aG]) aJB r r r<|aF (fr':=[(0,.box 0 0),(2,.box 1 0)]) r r<|aH<|gC (n:=2) (cs:=aG) (σ':=[cP,aG,aG]) aJB r r r<|aF (fr':=[(0,.box 0 0),(2,.box 1 0),(3,.box 2 0)]) r r<|aP<|aH<|aM r (bD aCg r) ?_
 refine aM r (bD tU r)<|aM r (bD aCh r)<|aM r (bD xE r)<|aM r (bD xF r)<|aM r (bD sC r)<|aM r (bD vU r)<|aKo (l:=[(2,0),(2,1),(2,2),(2,3),(2,4),(2,5),(2,6)]) mQ r r r r<|aM r (aHS aPn r)<|mI r<|aF (fr':=[(0,.box 0 0),(2,.box 1 0),(3,.box 2 0),(13,.ptrs [(2,0),(2,1),(2,2),(2,3),(2,4),(2,5),(2,6)]),(14,aI),(15,aI)]) r r<|bJ<|aLu 64<|pT ?_
 refine aH<|aM r (rC (dJ r r) (show _=.bool true from r))<|aF (fr':=[(0,.box 0 0),(2,.box 1 0),(3,.box 2 0),(13,.ptrs [(2,0),(2,1),(2,2),(2,3),(2,4),(2,5),(2,6)]),(14,aI),(15,aI),(16,aB)]) r r<|aP<|fL r<|aW<|bV<|aP<|bJ<|aH<|aM r (iR (p:=(2,0)) mQ r r r) ?_
 refine aM r (fN nS r)<|sV (v:=.box 2 0) r<|aF (fr':=[(0,.box 0 0),(2,.box 1 0),(3,.box 2 0),(5,.box 2 0),(13,.ptrs [(2,0),(2,1),(2,2),(2,3),(2,4),(2,5),(2,6)]),(14,aI),(15,aI)]) r r<|aQ<|mV (v:=.box 2 0) r<|mV (v:=.box 0 0) r ?_
 obtain ⟨x1,hx1,h2⟩:=aE h
 refine eD (v:=aI) (σ':=[cP,aG,aG]) [0] r (fD hx1) r r ⟨lr,lr,lr,trivial⟩ (fO ⟨r,r,r,r,trivial⟩ aA) r r r<|aM r (fX r)<|bU (v:=aI) (us:=[aI]) (cs:=aG) (σ':=[cP,aG,aG]) r eP r r r r r r r r<|cB (fr':=[(0,.box 0 0),(2,.box 1 0),(3,.box 2 0),(5,.box 2 0),(13,.ptrs [(2,0),(2,1),(2,2),(2,3),(2,4),(2,5),(2,6)]),(14,aI),(15,aI)]) r<|bX<|bV<|aQ<|aM r (rC (dB r r) (show _=.int .i64 (1:Int) from r))<|mI r<|cB (fr':=[(0,.box 0 0),(2,.box 1 0),(3,.box 2 0),(5,.box 2 0),(13,.ptrs [(2,0),(2,1),(2,2),(2,3),(2,4),(2,5),(2,6)]),(14,aI),(15,aI)]) r<|gP<|pT<|aP ?_
 refine aQ<|aM r (rC (dJ r r) (show _=.bool true from r))<|aF (fr':=[(0,.box 0 0),(2,.box 1 0),(3,.box 2 0),(13,.ptrs [(2,0),(2,1),(2,2),(2,3),(2,4),(2,5),(2,6)]),(14,aI),(15,aI),(16,aB)]) r r<|aP<|fL r<|aW<|bV<|aP<|bJ<|aH<|aM r (iR (p:=(2,1)) mQ r r r)<|aM r (fN nS r) ?_
 refine sV (v:=.box 2 1) r<|aF (fr':=[(0,.box 0 0),(2,.box 1 0),(3,.box 2 0),(5,.box 2 1),(13,.ptrs [(2,0),(2,1),(2,2),(2,3),(2,4),(2,5),(2,6)]),(14,aI),(15,aI)]) r r<|aQ<|mV (v:=.box 2 1) r<|mV (v:=.box 0 0) r ?_
 obtain ⟨x3,hx3,h4⟩:=aE h2
 refine eD (v:=aI) (σ':=[cP,aG,aG]) [0] r (fD hx3) r r ⟨lr,lr,lr,trivial⟩ (fO ⟨r,r,r,r,trivial⟩ aA) r r r<|aM r (fX r)<|bU (v:=aI) (us:=[aI]) (cs:=aG) (σ':=[cP,aG,aG]) r eP r r r r r r r r<|cB (fr':=[(0,.box 0 0),(2,.box 1 0),(3,.box 2 0),(5,.box 2 1),(13,.ptrs [(2,0),(2,1),(2,2),(2,3),(2,4),(2,5),(2,6)]),(14,aI),(15,aI)]) r<|bX<|bV<|aQ<|aM r (rC (dB r r) (show _=.int .i64 (2:Int) from r))<|mI r<|cB (fr':=[(0,.box 0 0),(2,.box 1 0),(3,.box 2 0),(5,.box 2 1),(13,.ptrs [(2,0),(2,1),(2,2),(2,3),(2,4),(2,5),(2,6)]),(14,aI),(15,aI)]) r<|gP<|pT<|aP ?_
 refine aQ<|aM r (rC (dJ r r) (show _=.bool true from r))<|aF (fr':=[(0,.box 0 0),(2,.box 1 0),(3,.box 2 0),(13,.ptrs [(2,0),(2,1),(2,2),(2,3),(2,4),(2,5),(2,6)]),(14,aI),(15,aI),(16,aB)]) r r<|aP<|fL r<|aW<|bV<|aP<|bJ<|aH<|aM r (iR (p:=(2,2)) mQ r r r)<|aM r (fN nS r) ?_
 refine sV (v:=.box 2 2) r<|aF (fr':=[(0,.box 0 0),(2,.box 1 0),(3,.box 2 0),(5,.box 2 2),(13,.ptrs [(2,0),(2,1),(2,2),(2,3),(2,4),(2,5),(2,6)]),(14,aI),(15,aI)]) r r<|aQ<|mV (v:=.box 2 2) r<|mV (v:=.box 0 0) r ?_
 obtain ⟨x5,hx5,h6⟩:=aE h4
 refine eD (v:=aI) (σ':=[cP,aG,aG]) [0] r (fD hx5) r r ⟨lr,lr,lr,trivial⟩ (fO ⟨r,r,r,r,trivial⟩ aA) r r r<|aM r (fX r)<|bU (v:=aI) (us:=[aI]) (cs:=aG) (σ':=[cP,aG,aG]) r eP r r r r r r r r<|cB (fr':=[(0,.box 0 0),(2,.box 1 0),(3,.box 2 0),(5,.box 2 2),(13,.ptrs [(2,0),(2,1),(2,2),(2,3),(2,4),(2,5),(2,6)]),(14,aI),(15,aI)]) r<|bX<|bV<|aQ<|aM r (rC (dB r r) (show _=.int .i64 (3:Int) from r))<|mI r<|cB (fr':=[(0,.box 0 0),(2,.box 1 0),(3,.box 2 0),(5,.box 2 2),(13,.ptrs [(2,0),(2,1),(2,2),(2,3),(2,4),(2,5),(2,6)]),(14,aI),(15,aI)]) r<|gP<|pT<|aP ?_
 refine aQ<|aM r (rC (dJ r r) (show _=.bool true from r))<|aF (fr':=[(0,.box 0 0),(2,.box 1 0),(3,.box 2 0),(13,.ptrs [(2,0),(2,1),(2,2),(2,3),(2,4),(2,5),(2,6)]),(14,aI),(15,aI),(16,aB)]) r r<|aP<|fL r<|aW<|bV<|aP<|bJ<|aH<|aM r (iR (p:=(2,3)) mQ r r r)<|aM r (fN nS r) ?_
 refine sV (v:=.box 2 3) r<|aF (fr':=[(0,.box 0 0),(2,.box 1 0),(3,.box 2 0),(5,.box 2 3),(13,.ptrs [(2,0),(2,1),(2,2),(2,3),(2,4),(2,5),(2,6)]),(14,aI),(15,aI)]) r r<|aQ<|mV (v:=.box 2 3) r<|mV (v:=.box 0 0) r ?_
 obtain ⟨x7,hx7,h8⟩:=aE h6
 refine eD (v:=aI) (σ':=[cP,aG,aG]) [0] r (fD hx7) r r ⟨lr,lr,lr,trivial⟩ (fO ⟨r,r,r,r,trivial⟩ aA) r r r<|aM r (fX r)<|bU (v:=aI) (us:=[aI]) (cs:=aG) (σ':=[cP,aG,aG]) r eP r r r r r r r r<|cB (fr':=[(0,.box 0 0),(2,.box 1 0),(3,.box 2 0),(5,.box 2 3),(13,.ptrs [(2,0),(2,1),(2,2),(2,3),(2,4),(2,5),(2,6)]),(14,aI),(15,aI)]) r<|bX<|bV<|aQ<|aM r (rC (dB r r) (show _=.int .i64 (4:Int) from r))<|mI r<|cB (fr':=[(0,.box 0 0),(2,.box 1 0),(3,.box 2 0),(5,.box 2 3),(13,.ptrs [(2,0),(2,1),(2,2),(2,3),(2,4),(2,5),(2,6)]),(14,aI),(15,aI)]) r<|gP<|pT<|aP ?_
 refine aQ<|aM r (rC (dJ r r) (show _=.bool true from r))<|aF (fr':=[(0,.box 0 0),(2,.box 1 0),(3,.box 2 0),(13,.ptrs [(2,0),(2,1),(2,2),(2,3),(2,4),(2,5),(2,6)]),(14,aI),(15,aI),(16,aB)]) r r<|aP<|fL r<|aW<|bV<|aP<|bJ<|aH<|aM r (iR (p:=(2,4)) mQ r r r)<|aM r (fN nS r) ?_
 refine sV (v:=.box 2 4) r<|aF (fr':=[(0,.box 0 0),(2,.box 1 0),(3,.box 2 0),(5,.box 2 4),(13,.ptrs [(2,0),(2,1),(2,2),(2,3),(2,4),(2,5),(2,6)]),(14,aI),(15,aI)]) r r<|aQ<|mV (v:=.box 2 4) r<|mV (v:=.box 0 0) r ?_
 obtain ⟨x9,hx9,h10⟩:=aE h8
 refine eD (v:=aI) (σ':=[cP,aG,aG]) [0] r (fD hx9) r r ⟨lr,lr,lr,trivial⟩ (fO ⟨r,r,r,r,trivial⟩ aA) r r r<|aM r (fX r)<|bU (v:=aI) (us:=[aI]) (cs:=aG) (σ':=[cP,aG,aG]) r eP r r r r r r r r<|cB (fr':=[(0,.box 0 0),(2,.box 1 0),(3,.box 2 0),(5,.box 2 4),(13,.ptrs [(2,0),(2,1),(2,2),(2,3),(2,4),(2,5),(2,6)]),(14,aI),(15,aI)]) r<|bX<|bV<|aQ<|aM r (rC (dB r r) (show _=.int .i64 (5:Int) from r))<|mI r<|cB (fr':=[(0,.box 0 0),(2,.box 1 0),(3,.box 2 0),(5,.box 2 4),(13,.ptrs [(2,0),(2,1),(2,2),(2,3),(2,4),(2,5),(2,6)]),(14,aI),(15,aI)]) r<|gP<|pT<|aP ?_
 refine aQ<|aM r (rC (dJ r r) (show _=.bool true from r))<|aF (fr':=[(0,.box 0 0),(2,.box 1 0),(3,.box 2 0),(13,.ptrs [(2,0),(2,1),(2,2),(2,3),(2,4),(2,5),(2,6)]),(14,aI),(15,aI),(16,aB)]) r r<|aP<|fL r<|aW<|bV<|aP<|bJ<|aH<|aM r (iR (p:=(2,5)) mQ r r r)<|aM r (fN nS r) ?_
 refine sV (v:=.box 2 5) r<|aF (fr':=[(0,.box 0 0),(2,.box 1 0),(3,.box 2 0),(5,.box 2 5),(13,.ptrs [(2,0),(2,1),(2,2),(2,3),(2,4),(2,5),(2,6)]),(14,aI),(15,aI)]) r r<|aQ<|mV (v:=.box 2 5) r<|mV (v:=.box 0 0) r ?_
 obtain ⟨x11,hx11,h12⟩:=aE h10
 refine eD (v:=aI) (σ':=[cP,aG,aG]) [0] r (fD hx11) r r ⟨lr,lr,lr,trivial⟩ (fO ⟨r,r,r,r,trivial⟩ aA) r r r<|aM r (fX r)<|bU (v:=aI) (us:=[aI]) (cs:=aG) (σ':=[cP,aG,aG]) r eP r r r r r r r r<|cB (fr':=[(0,.box 0 0),(2,.box 1 0),(3,.box 2 0),(5,.box 2 5),(13,.ptrs [(2,0),(2,1),(2,2),(2,3),(2,4),(2,5),(2,6)]),(14,aI),(15,aI)]) r<|bX<|bV<|aQ<|aM r (rC (dB r r) (show _=.int .i64 (6:Int) from r))<|mI r<|cB (fr':=[(0,.box 0 0),(2,.box 1 0),(3,.box 2 0),(5,.box 2 5),(13,.ptrs [(2,0),(2,1),(2,2),(2,3),(2,4),(2,5),(2,6)]),(14,aI),(15,aI)]) r<|gP<|pT<|aP ?_
 refine aQ<|aM r (rC (dJ r r) (show _=.bool true from r))<|aF (fr':=[(0,.box 0 0),(2,.box 1 0),(3,.box 2 0),(13,.ptrs [(2,0),(2,1),(2,2),(2,3),(2,4),(2,5),(2,6)]),(14,aI),(15,aI),(16,aB)]) r r<|aP<|fL r<|aW<|bV<|aP<|bJ<|aH<|aM r (iR (p:=(2,6)) mQ r r r)<|aM r (fN nS r) ?_
 refine sV (v:=.box 2 6) r<|aF (fr':=[(0,.box 0 0),(2,.box 1 0),(3,.box 2 0),(5,.box 2 6),(13,.ptrs [(2,0),(2,1),(2,2),(2,3),(2,4),(2,5),(2,6)]),(14,aI),(15,aI)]) r r<|aQ<|mV (v:=.box 2 6) r<|mV (v:=.box 0 0) r ?_
 obtain ⟨x13,hx13,h14⟩:=aE h12
 refine eD (v:=aI) (σ':=[cP,aG,aG]) [0] r (fD hx13) r r ⟨lr,lr,lr,trivial⟩ (fO ⟨r,r,r,r,trivial⟩ aA) r r r<|aM r (fX r)<|bU (v:=aI) (us:=[aI]) (cs:=aG) (σ':=[cP,aG,aG]) r eP r r r r r r r r<|cB (fr':=[(0,.box 0 0),(2,.box 1 0),(3,.box 2 0),(5,.box 2 6),(13,.ptrs [(2,0),(2,1),(2,2),(2,3),(2,4),(2,5),(2,6)]),(14,aI),(15,aI)]) r<|bX<|bV<|aQ<|aM r (rC (dB r r) (show _=.int .i64 (7:Int) from r))<|mI r<|cB (fr':=[(0,.box 0 0),(2,.box 1 0),(3,.box 2 0),(5,.box 2 6),(13,.ptrs [(2,0),(2,1),(2,2),(2,3),(2,4),(2,5),(2,6)]),(14,aI),(15,aI)]) r<|gP<|pT<|aP ?_
 refine aQ<|aM r (rC (dJ r r) (show _=.bool false from r))<|aF (fr':=[(0,.box 0 0),(2,.box 1 0),(3,.box 2 0),(13,.ptrs [(2,0),(2,1),(2,2),(2,3),(2,4),(2,5),(2,6)]),(14,aI),(15,aI),(16,aB)]) r r<|aP<|yX r<|eK<|bR<|bR<|dC<|bV<|aH<|mV (v:=.box 0 0) r ?_
 obtain ⟨x15,hx15,h16⟩:=aE h14
 refine eD (v:=aS) (σ':=[cP,aG,aG]) [0] r (jN hx15) r r ⟨lr,lr,trivial⟩ (fO ⟨r,r,r,r,trivial⟩ aA) r r r<|aM r (bD oW r)<|bU (v:=aS) (us:=[aS]) (cs:=aG) (σ':=[cP,aG,aG]) r kD r r r r r r r r<|aF (fr':=[(0,.box 0 0),(2,.box 1 0),(3,.box 2 0)]) r r<|aH<|mV (v:=.box 0 0) r ?_
 obtain ⟨x17,hx17,h18⟩:=aE h16
 refine eD (v:=aS) (σ':=[cP,aG,aG]) [0] r (jN hx17) r r ⟨lr,lr,trivial⟩ (fO ⟨r,r,r,r,trivial⟩ aA) r r r<|aM r (bD oX r)<|bU (v:=aS) (us:=[aS]) (cs:=aG) (σ':=[cP,aG,aG]) r kD r r r r r r r r<|aF (fr':=[(0,.box 0 0),(2,.box 1 0),(3,.box 2 0)]) r r<|aH<|mV (v:=.box 0 0) r ?_
 obtain ⟨x19,hx19,h20⟩:=aE h18
 refine eD (v:=.agg bL) (σ':=[cP,aG,aG]) [0] r (aF8 hx19) r r ⟨lr,trivial⟩ (fO ⟨r,r,r,r,trivial⟩ aA) r r r<|aM r (bD tV r)<|bU (v:=.agg bL) (us:=bL) (cs:=aG) (σ':=[cP,aG,lR]) r fM r r r r r r r r<|aF (fr':=[(0,.box 0 0),(2,.box 1 0),(3,.box 2 0)]) r r<|aH<|mV (v:=.box 0 0) r ?_
 obtain ⟨x21,hx21,h22⟩:=aE h20
 refine eD (v:=.agg bZ) (σ':=[cP,aG,lR]) [0] r (aAb hx21) r r ⟨lr,trivial⟩ (fO ⟨r,r,r,r,trivial⟩ aA) r r r<|aM r (bD rW r)<|bU (v:=.agg bZ) (us:=bZ) (cs:=lR) (σ':=[cP,aG,aD]) r wH r r r r r r r r<|aF (fr':=[(0,.box 0 0),(2,.box 1 0),(3,.box 2 0)]) r r ?_
 obtain ⟨x23,hx23,h24⟩:=aE h22
 refine fY (fun j25=>x23=j25) (fun (j25:aT)=>([(0,.box 0 0),(2,.box 1 0),(3,.box 2 0)]:Fr)) (fun (j25:aT)=>([[.c (PV.ls 1 dF j25.b_),ci j25.at_,ci j25.err_,.c (.bool j25.made_)],[ci 0,ci 0,ci 0,ci 0,ci 0,ci 0,ci 0,.c (.str ([]:List UInt8)),.c (.str ([]:List UInt8)),ci 0,ci 0,.c (.str ([]:List UInt8)),AV.nil,AV.nil,.c (.str ([]:List UInt8)),ci 0,ci 0,ci 0,ci 0,ci 0,ci 0,ci 0,ci 0,AV.nil],[ci x1.1,ci x3.1,ci x5.1,ci x7.1,ci x9.1,ci x11.1,ci x13.1,.c (.str x15.1),.c (.str x17.1),ci x19.1.Kind,ci x19.1.Int,.c (.str x19.1.Text),.c (PV.ls 5 bF x19.1.Items),.c (PV.ls 1 eA x19.1.Keys),.c (.str x21.1.Queue),ci x21.1.ToStart,ci x21.1.ToClose,ci x21.1.Total,ci x21.1.Beat,ci x21.1.First,ci x21.1.Coef,ci x21.1.Most,ci x21.1.Attempts,.c (PV.ls 1 eA x21.1.Fatal)]]:St)) ?_ ?_
 ·
  refine aH<|mV (v:=.box 0 0) r ?_
  obtain ⟨x26,hx26,h27⟩:=aE hx23
  refine eD (v:=aI) (σ':=[cP,aG,aD]) [0] r (fC hx26) r r ⟨lr,trivial⟩ (fO ⟨r,r,r,r,trivial⟩ aA) r r r<|aM r (bM r r)<|mB r<|og r r r (fun hc=>(cN (us:=aD) qF r r r r)) ?_
  obtain ⟨x28,hx28,h29⟩:=aE h27
  refine sM r r (fun hc=>aX (v:=aB) r (aBK (cA hx28 hc)) ⟨(eH (gx r hc) (bK r ⟨r,r,r,r,r,r,r,r,r,r,r,r,r,r,r,r,r,r,r,r,r,r,r,r,trivial⟩)),trivial⟩ (fA (by repeat (first | exact dX | refine aY r ?_ | refine aY (oS r) ?_ | refine aY oR ?_))) r r) ?_
  refine og r r r (fun hc=>(eI (gx r hc)))<|aM r (bO r r r (fun e=>eO e))<|aF (fr':=[(0,.box 0 0),(2,.box 1 0),(3,.box 2 0),(43,aB)]) r r<|bP h29 r (fun hb30 h30=>?_) (fun hb30 h30=>?_)
  ·
   refine aQ<|mV (v:=.box 0 0) r ?_
   obtain ⟨x31,hx31,h32⟩:=aE h30
   exact eD (v:=_) (σ':=[cP,aG,aD]) [0] r (nZ hx31) r r ⟨lr,lr,trivial⟩ (fO ⟨r,r,r,r,trivial⟩ aA) r r r<|cB (fr':=[(0,.box 0 0),(2,.box 1 0),(3,.box 2 0),(43,aB)]) r<|gD _ (sy h32) (aU [] 3 r r r r ⟨lr,lr,lr,trivial⟩ (bW r (bW r (bW r aA))))
  ·
   exact aW<|gD _ (sy h30) (aU [] 3 r r r r ⟨lr,lr,lr,trivial⟩ (bW r (bW r (bW r aA))))
 ·
  intro j25 hj33
  subst hj33
  refine aP<|aH<|mV (v:=.box 0 0) r ?_
  obtain ⟨x34,hx34,h35⟩:=aE h24
  refine eD (v:=aI) (σ':=[cP,aG,aD]) [0] r (fC hx34) r r ⟨lr,trivial⟩ (fO ⟨r,r,r,r,trivial⟩ aA) r r r<|aM r (fI r r)<|aF (fr':=[(2,.box 1 0),(3,.box 2 0),(48,aB)]) r r<|bP h35 r (fun hb36 h36=>?_) (fun hb36 h36=>?_)
  ·
   refine aH<|aM r (pU (c0:=aG) (cs:=aG) aQv r pR)<|bU (v:=.agg aG) (us:=aG) (cs:=aG) (σ':=[cP,aG,aD]) r qF r r r r r r r r<|aF (fr':=[(2,.box 1 0)]) r r<|bC<|aJ ?_
   obtain rfl:=sy h36
   exact bB (rs':=[.cell 2 30]) r<|cZ (us:=aG) (cs:=aG) qF r r r r<|aZ<|aN [] r r r (bK r ⟨r,r,r,r,r,r,r,r,r,r,r,r,⟨_,r⟩,⟨_,r⟩,r,r,r,r,r,r,r,r,r,⟨_,r⟩,trivial⟩) (fO ⟨r,r,r,r,trivial⟩ aA)
  ·
   refine aW<|bV<|aH<|aM r (cN (us:=aD) qF r r r r)<|bU (v:=.agg aD) (us:=aD) (cs:=aG) (σ':=[cP,aD,aD]) r qF r r r r r r r r<|aF (fr':=[(2,.box 1 0)]) r r<|bC ?_
   obtain rfl:=sy h36
   exact bB (rs':=[.cell 2 30]) r<|cZ (us:=aD) (cs:=aD) qF r r r r<|aZ<|aN [] r r r (bK r ⟨r,r,r,r,r,r,r,r,r,r,r,r,r,r,r,r,r,r,r,r,r,r,r,r,trivial⟩) (fO ⟨r,r,r,r,trivial⟩ aA)
noncomputable def oM (dA:aT):Option Int :=
 (eV dA).bind fun x1=>cond (!decide (x1=(0:Int))) (some x1) (cond (decide (dA.at_<((dA.b_).length:Int))) (some (3:Int)) (some (0:Int)))
theorem aC6 {dA:aT}{res:Int} (h:oM dA=some res):bS Tryz.prog 65 [.box 0 0] [AV.cs (cY dA)] (ci res) [AV.cs (cY dA)]:=by
 unfold oM at h
 refine cJ (fn:=Tryz.f65) [0,2,3,7,18] (by kernel_rfl) Tryz.func65 r (by kernel_rfl) (by kernel_rfl)<|aH<|sI r<|aF (fr':=[(0,.box 0 0)]) r r<|aP<|aH<|mV (v:=.box 0 0) r ?_
 obtain ⟨x1,hx1,h2⟩:=aE h
 refine eD (v:=aI) (σ':=[cP]) [0] r (fC hx1) r r ⟨lr,trivial⟩ (fO ⟨r,r,r,r,trivial⟩ aA) r r r<|sI r<|aF (fr':=[(0,.box 0 0),(3,aI)]) r r<|aH<|mI r<|aM r (fI r r)<|aF (fr':=[(0,.box 0 0),(3,aI),(7,aB)]) r r<|bP h2 r (fun hb3 h3=>?_) (fun hb3 h3=>?_)
 ·
  refine aH<|mI r<|sI r<|aF (fr':=[(2,aI)]) r r<|bC<|aJ ?_
  obtain rfl:=sy h3
  exact bB (rs':=[.tmp 2]) r<|bH (v:=aI) r<|aZ<|aN [] r r r lr (bW r aA)
 ·
  refine aW<|bV<|aP<|aP<|hF [.q 0,.q 1,.q 2,.q 3,.q 4,.q 5,.q 6,.q 7,.q 8,.q 9] [(some 9,[0]),(some 10,[9]),(some 11,[10]),(some 12,[11]),(some 13,[0]),(some 14,[13]),(some 15,[14]),(some 16,[15]),(some 17,[16]),(some 18,[12,17])] [0,1,3,7,0,16,48,112,240,511] (by kernel_rfl)<|dq r r (bE (v:=.box 0 0) r)<|dq r r (fX r)<|dq r r (bD yE r)<|dq r r (aK (v:=aI) eP r r r)<|dq r r (bE (v:=.box 0 0) r)<|dq r r (fX r)<|dq r r (bD aFQ r)<|dq r r (aK (v:=aL) aNJ r r r) ?_
  refine dq r r (dI sD (cC r))<|dq r r (dJ r r)<|uE (fr':=[(18,aB)]) r r<|bP h3 r (fun hb5 h5=>?_) (fun hb5 h5=>?_)
  ·
   refine aH<|sI r<|aF (fr':=[(2,aI)]) r r<|bC<|aJ ?_
   obtain rfl:=sy h5
   exact bB (rs':=[.tmp 2]) r<|bH (v:=aI) r<|aZ<|aN [] r r r lr (bW r aA)
  ·
   refine aW<|bV<|aH<|sI r<|aF (fr':=[(2,aI)]) r r<|bC ?_
   obtain rfl:=sy h5
   exact bB (rs':=[.tmp 2]) r<|bH (v:=aI) r<|aZ<|aN [] r r r lr (bW r aA)
noncomputable def lX (x28:(Int × aT)) (s33:((List bI) × Int × aT)):Option (cI ((List bI) × Int × aT) ((List bI) × aT)) :=
 cond (decide (s33.2.1<x28.1)) ((lC s33.2.2).bind fun x35=>(app 272 s33.1 ([x35.1]:List bI)).bind fun x37=>(eV x35.2).bind fun x39=>cond (!decide (x39=(0:Int))) (some (cI.out (x37,x35.2))) (some (cI.next (x37,(IntKind.wrap .i64 (s33.2.1+(1:Int))),x35.2)))) (some (cI.out (s33.1,s33.2.2)))
noncomputable def gZ (p0b:(List UInt8)):Option ((List bI) × Int) :=
 cond (decide (((p0b).length:Int)<(4:Int))) (some (([]:(List bI)),(4:Int))) ((aNC p0b (IntKind.wrap .i64 (((p0b).length:Int) - (4:Int)))).bind fun x3=>(jH (List.take (Int.toNat (IntKind.wrap .i64 (((p0b).length:Int) - (4:Int)))) p0b)).bind fun x5=>(aND p0b (IntKind.wrap .i64 (((p0b).length:Int) - (4:Int)))).bind fun x7=>(aJy 4 (List.drop (Int.toNat (IntKind.wrap .i64 (((p0b).length:Int) - (4:Int)))) p0b)).bind fun x9=>(hG (List.drop (Int.toNat (IntKind.wrap .i64 (((p0b).length:Int) - (4:Int)))) p0b) (0:Int)).bind fun x11=>(hG (List.drop (Int.toNat (IntKind.wrap .i64 (((p0b).length:Int) - (4:Int)))) p0b) (1:Int)).bind fun x12=>(hG (List.drop (Int.toNat (IntKind.wrap .i64 (((p0b).length:Int) - (4:Int)))) p0b) (2:Int)).bind fun x13=>(hG (List.drop (Int.toNat (IntKind.wrap .i64 (((p0b).length:Int) - (4:Int)))) p0b) (3:Int)).bind fun x14=>cond (!(decide (x5.E0=((x11).toNat:Int))&&(decide (x5.E1=((x12).toNat:Int))&&(decide (x5.E2=((x13).toNat:Int))&&(decide (x5.E3=((x14).toNat:Int))&&true))))) (some (([]:(List bI)),(5:Int))) ((aNC p0b (IntKind.wrap .i64 (((p0b).length:Int) - (4:Int)))).bind fun x21=>(uM (List.take (Int.toNat (IntKind.wrap .i64 (((p0b).length:Int) - (4:Int)))) p0b)).bind fun x23=>(((eQ (0:Int) (2000:Int) x23).bind fun x28=>((dR (lX x28) ((([]:(List bI)),(0:Int),x28.2))):Option ((List bI) × aT)).bind fun x30=>(some (x30.1,x30.2))):Option ((List bI) × aT)).bind fun x25=>((oM x25.2).bind fun x46=>cond (!decide (x46=(0:Int))) (some (([]:(List bI)),x46)) (some (x25.1,(0:Int))))))
theorem rA {p0b:(List UInt8)}{res:((List bI) × Int)} (h:gZ p0b=some res):bS Tryz.prog 22 [.c (PV.ls 1 dF p0b)] [] (.tup [AV.os 0 24 cD res.1,ci res.2]) []:=by
 unfold gZ at h
 refine cJ (fn:=Tryz.f22) [0,2,3,4,5,6,7,10,23,29,30,31,39,44] (by kernel_rfl) Tryz.func22 r (by kernel_rfl) (by kernel_rfl)<|aH<|sV (v:=AV.nil) r<|sI r<|aF (fr':=[(0,aL)]) r r<|aP<|aH<|mL r<|aM r (dI sD (cC r))<|aM r (dJ r r)<|aF (fr':=[(0,aL),(10,aB)]) r r ?_
 refine bP h r (fun hb1 h1=>?_) (fun hb1 h1=>?_)
 ·
  refine aH<|sV (v:=AV.nil) r<|sI r<|aF (fr':=[(2,AV.nil),(3,aI)]) r r<|bC<|aJ ?_
  obtain rfl:=sy h1
  exact bB (rs':=[.tmp 2,.tmp 3]) r<|bH (v:=AV.nil) r<|bH (v:=aI) r<|aZ<|aN [1000000] r r r (rO r ⟨(vR r),lr,trivial⟩) aA
 ·
  refine aW<|bV<|aH<|mL r<|aM r (dI sD (cC r))<|aM r (aFr r r)<|sI r<|aF (fr':=[(0,aL),(4,aI)]) r r<|aP<|aP<|hF [.q 0,.q 1,.q 2,.q 3,.q 4,.q 5,.q 6,.q 7,.q 8,.q 9] [(some 14,[0]),(some 15,[4]),(some 16,[14,15]),(some 17,[16]),(some 18,[0]),(some 19,[4]),(some 20,[18,19]),(some 21,[20]),(some 22,[21]),(some 23,[17,22])] [0,0,3,7,0,0,48,112,240,511] (by kernel_rfl)<|dq r r (bE (v:=aL) r) ?_
  refine dq r r (bE (v:=aI) r) ?_
  obtain ⟨x3,hx3,h4⟩:=aE h1
  refine dq r r (aNk aNI pK (cC r) r (aHh hx3).1) ?_
  obtain ⟨x5,hx5,h6⟩:=aE h4
  refine d_q r (pD (v:=.agg sP) r (vQ hx5) ⟨lr,trivial⟩ r)<|dq r r (bE (v:=aL) r)<|dq r r (bE (v:=aI) r) ?_
  obtain ⟨x7,hx7,h8⟩:=aE h6
  refine dq r r (aNl aNI pK (cC r) r (aHi hx7).1) ?_
  obtain ⟨x9,hx9,h10⟩:=aE h8
  refine dq r r (aRn aQu (cC r) hx9) ?_
  obtain ⟨x11,hx11,h15⟩:=aE h10
  obtain ⟨x12,hx12,h16⟩:=aE h15
  obtain ⟨x13,hx13,h17⟩:=aE h16
  obtain ⟨x14,hx14,h18⟩:=aE h17
  refine dq r r (aOS aNK r hx11 hx12 hx13 hx14)<|dq r r (aQd aQQ aNK aR0 r r r r)<|uE (fr':=[(0,aL),(4,aI),(23,aB)]) r r<|bP h18 r (fun hb19 h19=>?_) (fun hb19 h19=>?_)
  ·
   refine aH<|sV (v:=AV.nil) r<|sI r<|aF (fr':=[(2,AV.nil),(3,aI)]) r r<|bC<|aJ ?_
   obtain rfl:=sy h19
   exact bB (rs':=[.tmp 2,.tmp 3]) r<|bH (v:=AV.nil) r<|bH (v:=aI) r<|aZ<|aN [1000000] r r r (rO r ⟨(vR r),lr,trivial⟩) aA
  ·
   refine aW<|bV<|aH<|mL r<|mI r ?_
   obtain ⟨x21,hx21,h22⟩:=aE h19
   refine aM r (aNk aNI pK (cC r) r (aHh hx21).1) ?_
   obtain ⟨x23,hx23,h24⟩:=aE h22
   refine eD (v:=.box 0 0) (σ':=[cP]) [] r (aDZ hx23) r r ⟨lr,trivial⟩ aA r r r<|sV (v:=.box 0 0) r<|aF (fr':=[(5,.box 0 0)]) r r<|aH<|sV (v:=AV.nil) r<|aF (fr':=[(5,.box 0 0),(6,AV.nil)]) r r ?_
   obtain ⟨x25,hx25,h26⟩:=aE h24
   refine fY (fun j27=>x25=j27) (fun (j27:((List bI) × aT))=>([(5,.box 0 0),(6,AV.os 0 24 cD j27.1)]:Fr)) (fun (j27:((List bI) × aT))=>([[.c (PV.ls 1 dF j27.2.b_),ci j27.2.at_,ci j27.2.err_,.c (.bool j27.2.made_)]]:St)) ?_ ?_
   ·
    refine aH<|mV (v:=.box 0 0) r ?_
    obtain ⟨x28,hx28,h29⟩:=aE hx25
    refine eD (v:=aI) (σ':=[cP]) [0] r (fD hx28) r r ⟨lr,lr,lr,trivial⟩ (fO ⟨r,r,r,r,trivial⟩ aA) r r r<|mI r<|aF (fr':=[(5,.box 0 0),(6,AV.nil),(29,aI),(30,aI)]) r r ?_
    obtain ⟨x30,hx30,h31⟩:=aE h29
    refine eB aQK (fun j32=>x30=j32) (fun (j32:((List bI) × aT))=>([(5,.box 0 0),(6,AV.os 0 24 cD j32.1)]:Fr)) (fun (j32:((List bI) × aT))=>([[.c (PV.ls 1 dF j32.2.b_),ci j32.2.at_,ci j32.2.err_,.c (.bool j32.2.made_)]]:St)) ?_ ?_
    ·
     refine bJ<|dV _ (fun (s33:((List bI) × Int × aT))=>([(5,.box 0 0),(6,AV.os 0 24 cD s33.1),(29,ci x28.1),(30,ci s33.2.1)]:Fr)) (fun (s33:((List bI) × Int × aT))=>([[.c (PV.ls 1 dF s33.2.2.b_),ci s33.2.2.at_,ci s33.2.2.err_,.c (.bool s33.2.2.made_)]]:St)) hx30 (aU [1000000] 1 r r r r ⟨lr,(vR r),lr,lr,trivial⟩ (bW r aA)) ?_
     intro s33 st33 hs33 ho33
     unfold lX at hs33
     refine aH<|aM r (dJ r r)<|aF (fr':=[(5,.box 0 0),(6,aO),(29,aI),(30,aI),(31,aB)]) r r<|aP<|bP hs33 r (fun hb34 h34=>?_) (fun hb34 h34=>?_)
     ·
      refine aW<|bV<|aP<|bJ<|aH<|mV (v:=aO) r<|mV (v:=.box 0 0) r ?_
      obtain ⟨x35,hx35,h36⟩:=aE h34
      refine eD (v:=.agg aD) (σ':=[cP]) [0] r (xK hx35) r r ⟨lr,trivial⟩ (fO ⟨r,r,r,r,trivial⟩ aA) r r r<|kT (row:=cD) (xs:=([x35.1]:List bI)) (rows:=[[_,_,_,_,_,_,_,_,_,_,_,_,_,_,_,_,_,_,_,_,_,_,_,_]]) (σ':=[cP]) [0,0,0,0,0,0,0,0,0,0,0,0,5,1,0,0,0,0,0,0,0,0,0,1] aEe r r r (cM r gY) r r ?_
      obtain ⟨x37,hx37,h38⟩:=aE h36
      refine wX (row:=cD) aEe r aDz r (lG r) (fun _=>r) hx37<|sV (v:=aO) r<|aF (fr':=[(5,.box 0 0),(6,aO),(29,aI),(30,aI)]) r r<|aH<|mV (v:=.box 0 0) r ?_
      obtain ⟨x39,hx39,h40⟩:=aE h38
      refine eD (v:=aI) (σ':=[cP]) [0] r (fC hx39) r r ⟨lr,trivial⟩ (fO ⟨r,r,r,r,trivial⟩ aA) r r r<|aM r (fI r r)<|aF (fr':=[(5,.box 0 0),(6,aO),(29,aI),(30,aI),(39,aB)]) r r<|bP h40 r (fun hb41 h41=>?_) (fun hb41 h41=>?_)
      ·
       refine eK<|aOA r<|bR<|bR<|dC ?_
       have h42:=cS h41 ho33
       exact gD _ (sy h42) (aU [576] 1 r r r r ⟨lr,lr,trivial⟩ (bW r aA))
      ·
       exact aW<|bX<|bV<|aQ<|aM r (dB r r)<|mI r<|cB (fr':=[(5,.box 0 0),(6,aO),(29,aI),(30,aI),(39,aB)]) r<|rX _ (sy h41) (aU [576] 1 r r r r ⟨lr,lr,lr,lr,trivial⟩ (bW r aA))
     ·
      refine eK<|bR<|bR<|dC ?_
      have h43:=cS h34 ho33
      exact gD _ (sy h43) (aU [0] 1 r r r r ⟨lr,lr,trivial⟩ (bW r aA))
    ·
     intro j32 hj44
     subst hj44
     exact gD _ (sy h31) (aU [0] 1 r r r r ⟨lr,lr,trivial⟩ (bW r aA))
   ·
    intro j27 hj45
    subst hj45
    refine aP<|aH<|mV (v:=.box 0 0) r ?_
    obtain ⟨x46,hx46,h47⟩:=aE h26
    refine eD (v:=aI) (σ':=[cP]) [0] r (aC6 hx46) r r ⟨lr,trivial⟩ (fO ⟨r,r,r,r,trivial⟩ aA) r r r<|sI r<|aF (fr':=[(6,aO),(7,aI)]) r r<|aH<|mI r<|aM r (fI r r)<|aF (fr':=[(6,aO),(7,aI),(44,aB)]) r r<|bP h47 r (fun hb48 h48=>?_) (fun hb48 h48=>?_)
    ·
     refine aH<|mI r<|sV (v:=AV.nil) r<|sI r<|aF (fr':=[(2,AV.nil),(3,aI)]) r r<|bC<|aJ ?_
     obtain rfl:=sy h48
     exact bB (rs':=[.tmp 2,.tmp 3]) r<|bH (v:=AV.nil) r<|bH (v:=aI) r<|aZ<|aN [1000000] r r r (rO r ⟨(vR r),lr,trivial⟩) aA
    ·
     refine aW<|bV<|aH<|mV (v:=aO) r<|sV (v:=aO) r<|sI r<|aF (fr':=[(2,aO),(3,aI)]) r r<|bC ?_
     obtain rfl:=sy h48
     exact bB (rs':=[.tmp 2,.tmp 3]) r<|bH (v:=aO) r<|bH (v:=aI) r<|aZ<|aN [0] r r r (rO r ⟨lr,lr,trivial⟩) aA
noncomputable def uT (p0a:aC) (p1b:aC) (s6:Int):Option (cI Int (Fl Bool Unit)) :=
 cond (decide (s6<((p0a.Keys).length:Int))) ((hG p0a.Keys s6).bind fun x8=>(hG p1b.Keys s6).bind fun x10=>cond (!decide (x8=x10)) (some (cI.out (Fl.done false))) (some (cI.next (IntKind.wrap .i64 (s6+(1:Int)))))) (some (cI.out (Fl.go ())))
noncomputable def uU (aFz:aC→aC→Option Bool) (p0a:aC) (p1b:aC) (s21:Int):Option (cI Int (Fl Bool Unit)) :=
 cond (decide (s21<((p0a.Items).length:Int))) ((hG p0a.Items s21).bind fun x23=>(hG p1b.Items s21).bind fun x25=>(aFz x23 x25).bind fun x27=>cond (!x27) (some (cI.out (Fl.done false))) (some (cI.next (IntKind.wrap .i64 (s21+(1:Int)))))) (some (cI.out (Fl.go ())))
noncomputable def pW:Nat→aC→aC→Option Bool
 | 0,_,_=>none
 | n+1,p0a,p1b =>
  cond (cond (cond (cond (cond (!decide (p0a.Kind=p1b.Kind)) true (!decide (p0a.Int=p1b.Int))) true (!decide (p0a.Text=p1b.Text))) true (!decide (((p0a.Items).length:Int)=((p1b.Items).length:Int)))) true (!decide (((p0a.Keys).length:Int)=((p1b.Keys).length:Int)))) (some false) (((dR (uT p0a p1b) ((0:Int))):Option (Fl Bool Unit)).bind fun x3=>Fl.next x3 (fun j5=>(((dR (uU (pW n) p0a p1b) ((0:Int))):Option (Fl Bool Unit)).bind fun x18=>Fl.next x18 (fun j20=>(some true)))))
theorem aGA:∀ n:Nat,(∀ {p0a:aC}{p1b:aC}{res:Bool},pW n p0a p1b=some res→bS Tryz.prog 66 [.agg (AV.cs (cQ p0a)),.agg (AV.cs (cQ p1b))] [] (.c (.bool res)) []):=by
 intro n
 induction n with
 | zero=>exact fun {p0a p1b res} h=>absurd h (by simp [pW])
 | succ n ih =>
  have ih_ref02xSame:=@ih
  intro p0a p1b res h
  rw [pW] at h
  refine cJ (fn:=Tryz.f66) [0,1,2,3,4,5,6,43,48,61,66,80] (by kernel_rfl) Tryz.func66 r (by kernel_rfl) (by kernel_rfl)<|aH<|fS (v:=.agg bL) (n:=0) (cs:=bL) (σ':=[bL]) r r r r r<|fS (v:=.agg bL) (n:=1) (cs:=bL) (σ':=[bL,bL]) r r r r r<|sB r<|aF (fr':=[(2,.box 0 0),(3,.box 1 0)]) r r<|aP<|aH<|aM r (bD gW r)<|aM r (aK (v:=aI) eP r r r)<|aM r (bD gW r) ?_
  refine aM r (aK (v:=aI) eP r r r)<|aM r (fI r r)<|mB r<|og r r r (fun hc=>(bD mM r))<|og r r r (fun hc=>(aK (v:=aI) eP (gx r hc) r r))<|og r r r (fun hc=>(bD mM r))<|og r r r (fun hc=>(aK (v:=aI) eP (gx r hc) r r))<|og r r r (fun hc=>(fI (gx r hc) (gx r hc)))<|aM r (bY r r r (fun e=>eO e))<|mB r<|og r r r (fun hc=>(bD lT r))<|og r r r (fun hc=>(aK (v:=aS) kD (gx r hc) r r))<|og r r r (fun hc=>(bD lT r)) ?_
  refine og r r r (fun hc=>(aK (v:=aS) kD (gx r hc) r r))<|og r r r (fun hc=>(yC (gx r hc) (gx r hc)))<|aM r (bY r r r (fun e=>eO e))<|mB r<|og r r r (fun hc=>(bD eJ r))<|og r r r (fun hc=>(aK (v:=aL) iF (gx r hc) r r))<|og r r r (fun hc=>(dI nH (cC (gx r hc))))<|og r r r (fun hc=>(bD eJ r))<|og r r r (fun hc=>(aK (v:=aL) iF (gx r hc) r r))<|og r r r (fun hc=>(dI nH (cC (gx r hc))))<|og r r r (fun hc=>(fI (gx r hc) (gx r hc)))<|aM r (bY r r r (fun e=>eO e))<|mB r ?_
  refine og r r r (fun hc=>(bD jA r))<|og r r r (fun hc=>(aK (v:=aL) kM (gx r hc) r r))<|og r r r (fun hc=>(dI pI (cC (gx r hc))))<|og r r r (fun hc=>(bD jA r))<|og r r r (fun hc=>(aK (v:=aL) kM (gx r hc) r r))<|og r r r (fun hc=>(dI pI (cC (gx r hc))))<|og r r r (fun hc=>(fI (gx r hc) (gx r hc)))<|aM r (bY r r r (fun e=>eO e))<|aF (fr':=[(2,.box 0 0),(3,.box 1 0),(43,aB)]) r r<|bP h r (fun hb1 h1=>?_) (fun hb1 h1=>?_)
  ·
   refine aH<|sB r<|aF (fr':=[(4,aB)]) r r<|bC<|aJ ?_
   obtain rfl:=sy h1
   exact bB (rs':=[.tmp 4]) r<|bH (v:=aB) r<|aZ<|aN [] r r r lr aA
  ·
   refine aW<|bV<|aP<|aH<|sI r<|aF (fr':=[(2,.box 0 0),(3,.box 1 0),(5,aI)]) r r ?_
   obtain ⟨x3,hx3,h4⟩:=aE h1
   refine eB gF (fun j5=>x3=Fl.go j5) (fun (j5:Unit)=>([(2,.box 0 0),(3,.box 1 0)]:Fr)) (fun (j5:Unit)=>([[ci p0a.Kind,ci p0a.Int,.c (.str p0a.Text),.c (PV.ls 5 bF p0a.Items),.c (PV.ls 1 eA p0a.Keys)],[ci p1b.Kind,ci p1b.Int,.c (.str p1b.Text),.c (PV.ls 5 bF p1b.Items),.c (PV.ls 1 eA p1b.Keys)]]:St)) ?_ ?_
   ·
    refine bJ<|dV _ (fun (s6:Int)=>([(2,.box 0 0),(3,.box 1 0),(5,ci s6)]:Fr)) (fun (s6:Int)=>([[ci p0a.Kind,ci p0a.Int,.c (.str p0a.Text),.c (PV.ls 5 bF p0a.Items),.c (PV.ls 1 eA p0a.Keys)],[ci p1b.Kind,ci p1b.Int,.c (.str p1b.Text),.c (PV.ls 5 bF p1b.Items),.c (PV.ls 1 eA p1b.Keys)]]:St)) hx3 (aU [] 2 r r r r ⟨lr,lr,lr,trivial⟩ (bW r (bW r aA))) ?_
    intro s6 st6 hs6 ho6
    unfold uT at hs6
    refine aP<|aH<|mI r<|aM r (bD jA r)<|aM r (aK (v:=aL) kM r r r)<|aM r (dI pI (cC r))<|aM r (dJ r r)<|aF (fr':=[(2,.box 0 0),(3,.box 1 0),(5,aI),(48,aB)]) r r<|bP hs6 r (fun hb7 h7=>?_) (fun hb7 h7=>?_)
    ·
     refine aW<|bV<|aP<|bJ<|aP<|hF [.q 0,.q 1,.q 2,.q 3,.q 4,.q 5,.q 6,.q 7,.q 8,.q 9,.q 10] [(some 51,[2]),(some 52,[51]),(some 53,[5]),(some 54,[52,53]),(some 55,[54]),(some 56,[3]),(some 57,[56]),(some 58,[5]),(some 59,[57,58]),(some 60,[59]),(some 61,[55,60])] [0,1,0,7,15,0,32,0,224,480,1023] (by kernel_rfl)<|dq r r (bD jA r)<|dq r r (aK (v:=aL) kM r r r)<|dq r r (bE (v:=aI) r) ?_
     obtain ⟨x8,hx8,h9⟩:=aE h7
     refine dq r r (gR (cs:=[PV.str _]) vV (cC r) r hx8 r)<|dq r r (eG (p:=PV.str _) kD r r)<|dq r r (bD jA r)<|dq r r (aK (v:=aL) kM r r r)<|dq r r (bE (v:=aI) r) ?_
     obtain ⟨x10,hx10,h11⟩:=aE h9
     refine dq r r (gR (cs:=[PV.str _]) vV (cC r) r hx10 r)<|dq r r (eG (p:=PV.str _) kD r r)<|dq r r (yC r r)<|uE (fr':=[(2,.box 0 0),(3,.box 1 0),(5,aI),(61,aB)]) r r<|bP h11 r (fun hb12 h12=>?_) (fun hb12 h12=>?_)
     ·
      refine aH<|sB r<|aF (fr':=[(4,aB)]) r r<|bC<|bA<|aJ<|aJ<|bA<|aJ<|aJ ?_
      have h13:=cS h12 ho6
      have h14:=dQ h13 h4
      obtain rfl:=sy h14
      exact bB (rs':=[.tmp 4]) r<|bH (v:=aB) r<|aZ<|aN [] r r r lr aA
     ·
      exact aW<|bX<|bV<|aQ<|mI r<|aM r (dB r r)<|sI r<|cB (fr':=[(2,.box 0 0),(3,.box 1 0),(5,aI),(61,aB)]) r<|rX _ (sy h12) (aU [] 2 r r r r ⟨lr,lr,lr,trivial⟩ (bW r (bW r aA)))
    ·
     refine eK<|bR<|bR<|dC ?_
     have h16:=cS h7 ho6
     exact gD _ (sy h16) (aU [] 2 r r r r ⟨lr,lr,trivial⟩ (bW r (bW r aA)))
   ·
    intro j5 hj17
    have h17:=iC hj17 h4
    refine bV<|aP<|aH<|sI r<|aF (fr':=[(2,.box 0 0),(3,.box 1 0),(6,aI)]) r r ?_
    obtain ⟨x18,hx18,h19⟩:=aE h17
    refine eB gF (fun j20=>x18=Fl.go j20) (fun (j20:Unit)=>([]:Fr)) (fun (j20:Unit)=>([[ci p0a.Kind,ci p0a.Int,.c (.str p0a.Text),.c (PV.ls 5 bF p0a.Items),.c (PV.ls 1 eA p0a.Keys)],[ci p1b.Kind,ci p1b.Int,.c (.str p1b.Text),.c (PV.ls 5 bF p1b.Items),.c (PV.ls 1 eA p1b.Keys)]]:St)) ?_ ?_
    ·
     refine bJ<|dV _ (fun (s21:Int)=>([(2,.box 0 0),(3,.box 1 0),(6,ci s21)]:Fr)) (fun (s21:Int)=>([[ci p0a.Kind,ci p0a.Int,.c (.str p0a.Text),.c (PV.ls 5 bF p0a.Items),.c (PV.ls 1 eA p0a.Keys)],[ci p1b.Kind,ci p1b.Int,.c (.str p1b.Text),.c (PV.ls 5 bF p1b.Items),.c (PV.ls 1 eA p1b.Keys)]]:St)) hx18 (aU [] 2 r r r r ⟨lr,lr,lr,trivial⟩ (bW r (bW r aA))) ?_
     intro s21 st21 hs21 ho21
     unfold uU at hs21
     refine aP<|aH<|mI r<|aM r (bD eJ r)<|aM r (aK (v:=aL) iF r r r)<|aM r (dI nH (cC r))<|aM r (dJ r r)<|aF (fr':=[(2,.box 0 0),(3,.box 1 0),(6,aI),(66,aB)]) r r<|bP hs21 r (fun hb22 h22=>?_) (fun hb22 h22=>?_)
     ·
      refine aW<|bV<|aP<|bJ<|aP<|hF [.q 0,.q 1,.q 2,.q 3,.q 4,.q 5,.q 6,.q 7,.q 8,.q 9,.q 10,.q 11] [(some 69,[2]),(some 70,[69]),(some 71,[6]),(some 72,[70,71]),(some 73,[72]),(some 74,[3]),(some 75,[74]),(some 76,[6]),(some 77,[75,76]),(some 78,[77]),(some 79,[73,78]),(some 80,[79])] [0,1,0,7,15,0,32,0,224,480,1023,2047] (by kernel_rfl)<|dq r r (bD eJ r)<|dq r r (aK (v:=aL) iF r r r)<|dq r r (bE (v:=aI) r) ?_
      obtain ⟨x23,hx23,h24⟩:=aE h22
      refine dq r r (gR (cs:=[PV.int _ _,PV.int _ _,PV.str _,PV.ls _ _ _,PV.ls _ _ _]) mP (cC r) r hx23 (cE _))<|dq r r (gM (us:=[PV.int _ _,PV.int _ _,PV.str _,PV.ls _ _ _,PV.ls _ _ _]) fM r r r)<|dq r r (bD eJ r)<|dq r r (aK (v:=aL) iF r r r)<|dq r r (bE (v:=aI) r) ?_
      obtain ⟨x25,hx25,h26⟩:=aE h24
      refine dq r r (gR (cs:=[PV.int _ _,PV.int _ _,PV.str _,PV.ls _ _ _,PV.ls _ _ _]) mP (cC r) r hx25 (cE _))<|dq r r (gM (us:=[PV.int _ _,PV.int _ _,PV.str _,PV.ls _ _ _,PV.ls _ _ _]) fM r r r) ?_
      obtain ⟨x27,hx27,h28⟩:=aE h26
      refine d_q r (pD (v:=aB) r (ih_ref02xSame hx27) ⟨(bK r ⟨r,r,r,r,r,trivial⟩),(bK r ⟨r,r,r,r,r,trivial⟩),trivial⟩ r)<|dq r r (eI r)<|uE (fr':=[(2,.box 0 0),(3,.box 1 0),(6,aI),(80,aB)]) r r<|bP h28 r (fun hb29 h29=>?_) (fun hb29 h29=>?_)
      ·
       refine aH<|sB r<|aF (fr':=[(4,aB)]) r r<|bC<|bA<|aJ<|aJ<|bA<|aJ<|aJ ?_
       have h30:=cS h29 ho21
       have h31:=dQ h30 h19
       obtain rfl:=sy h31
       exact bB (rs':=[.tmp 4]) r<|bH (v:=aB) r<|aZ<|aN [] r r r lr aA
      ·
       exact aW<|bX<|bV<|aQ<|mI r<|aM r (dB r r)<|sI r<|cB (fr':=[(2,.box 0 0),(3,.box 1 0),(6,aI),(80,aB)]) r<|rX _ (sy h29) (aU [] 2 r r r r ⟨lr,lr,lr,trivial⟩ (bW r (bW r aA)))
     ·
      refine eK<|bR<|bR<|dC ?_
      have h33:=cS h22 ho21
      exact gD _ (sy h33) (aU [] 2 r r r r trivial (bW r (bW r aA)))
    ·
     intro j20 hj34
     have h34:=iC hj34 h19
     refine bV<|aH<|sB r<|aF (fr':=[(4,aB)]) r r<|bC ?_
     obtain rfl:=sy h34
     exact bB (rs':=[.tmp 4]) r<|bH (v:=aB) r<|aZ<|aN [] r r r lr aA
noncomputable def zS (p0a:aC) (p1b:aC):Option Bool:=lim fun n=>pW n p0a p1b
theorem aC1 {p0a:aC}{p1b:aC}{res:Bool} (h:zS p0a p1b=some res):bS Tryz.prog 66 [.agg (AV.cs (cQ p0a)),.agg (AV.cs (cQ p1b))] [] (.c (.bool res)) []:=by
 obtain ⟨n,hn⟩:=jZ h
 exact (aGA n) hn
noncomputable def kQ (p0a:bG) (p1b:bG) (s8:Int):Option (cI Int (Fl Bool Unit)) :=
 cond (decide (s8<((p0a.Fatal).length:Int))) ((hG p0a.Fatal s8).bind fun x10=>(hG p1b.Fatal s8).bind fun x12=>cond (!decide (x10=x12)) (some (cI.out (Fl.done false))) (some (cI.next (IntKind.wrap .i64 (s8+(1:Int)))))) (some (cI.out (Fl.go ())))
noncomputable def jL (p0a:bG) (p1b:bG):Option Bool :=
 cond (cond (cond (cond (cond (!decide (p0a.Queue=p1b.Queue)) true (!decide (p0a.ToStart=p1b.ToStart))) true (!decide (p0a.ToClose=p1b.ToClose))) true (!decide (p0a.Total=p1b.Total))) true (!decide (p0a.Beat=p1b.Beat))) (some false) (cond (cond (cond (cond (cond (!decide (p0a.First=p1b.First)) true (!decide (p0a.Coef=p1b.Coef))) true (!decide (p0a.Most=p1b.Most))) true (!decide (p0a.Attempts=p1b.Attempts))) true (!decide (((p0a.Fatal).length:Int)=((p1b.Fatal).length:Int)))) (some false) (((dR (kQ p0a p1b) ((0:Int))):Option (Fl Bool Unit)).bind fun x5=>Fl.next x5 (fun j7=>(some true))))
theorem sG {p0a:bG}{p1b:bG}{res:Bool} (h:jL p0a p1b=some res):bS Tryz.prog 67 [.agg (AV.cs (gS p0a)),.agg (AV.cs (gS p1b))] [] (.c (.bool res)) []:=by
 unfold jL at h
 refine cJ (fn:=Tryz.f67) [0,1,2,3,4,5,38,73,78,91] (by kernel_rfl) Tryz.func67 r (by kernel_rfl) (by kernel_rfl)<|aH<|fS (v:=.agg bZ) (n:=0) (cs:=bZ) (σ':=[bZ]) r r r r r<|fS (v:=.agg bZ) (n:=1) (cs:=bZ) (σ':=[bZ,bZ]) r r r r r<|sB r<|aF (fr':=[(2,.box 0 0),(3,.box 1 0)]) r r<|aP<|aH<|aM r (bD vT r)<|aM r (aK (v:=aS) kD r r r)<|aM r (bD vT r) ?_
 refine aM r (aK (v:=aS) kD r r r)<|aM r (yC r r)<|mB r<|og r r r (fun hc=>(bD aB8 r))<|og r r r (fun hc=>(aK (v:=aI) eP (gx r hc) r r))<|og r r r (fun hc=>(bD aB8 r))<|og r r r (fun hc=>(aK (v:=aI) eP (gx r hc) r r))<|og r r r (fun hc=>(fI (gx r hc) (gx r hc)))<|aM r (bY r r r (fun e=>eO e))<|mB r<|og r r r (fun hc=>(bD aB9 r))<|og r r r (fun hc=>(aK (v:=aI) eP (gx r hc) r r))<|og r r r (fun hc=>(bD aB9 r)) ?_
 refine og r r r (fun hc=>(aK (v:=aI) eP (gx r hc) r r))<|og r r r (fun hc=>(fI (gx r hc) (gx r hc)))<|aM r (bY r r r (fun e=>eO e))<|mB r<|og r r r (fun hc=>(bD aCa r))<|og r r r (fun hc=>(aK (v:=aI) eP (gx r hc) r r))<|og r r r (fun hc=>(bD aCa r))<|og r r r (fun hc=>(aK (v:=aI) eP (gx r hc) r r))<|og r r r (fun hc=>(fI (gx r hc) (gx r hc)))<|aM r (bY r r r (fun e=>eO e))<|mB r<|og r r r (fun hc=>(bD aCb r))<|og r r r (fun hc=>(aK (v:=aI) eP (gx r hc) r r)) ?_
 refine og r r r (fun hc=>(bD aCb r))<|og r r r (fun hc=>(aK (v:=aI) eP (gx r hc) r r))<|og r r r (fun hc=>(fI (gx r hc) (gx r hc)))<|aM r (bY r r r (fun e=>eO e))<|aF (fr':=[(2,.box 0 0),(3,.box 1 0),(38,aB)]) r r<|bP h r (fun hb1 h1=>?_) (fun hb1 h1=>?_)
 ·
  refine aH<|sB r<|aF (fr':=[(4,aB)]) r r<|bC<|aJ ?_
  obtain rfl:=sy h1
  exact bB (rs':=[.tmp 4]) r<|bH (v:=aB) r<|aZ<|aN [] r r r lr aA
 ·
  refine aW<|bV<|aP<|aH<|aM r (bD aCc r)<|aM r (aK (v:=aI) eP r r r)<|aM r (bD aCc r)<|aM r (aK (v:=aI) eP r r r)<|aM r (fI r r)<|mB r<|og r r r (fun hc=>(bD aCd r))<|og r r r (fun hc=>(aK (v:=aI) eP (gx r hc) r r)) ?_
  refine og r r r (fun hc=>(bD aCd r))<|og r r r (fun hc=>(aK (v:=aI) eP (gx r hc) r r))<|og r r r (fun hc=>(fI (gx r hc) (gx r hc)))<|aM r (bY r r r (fun e=>eO e))<|mB r<|og r r r (fun hc=>(bD aCe r))<|og r r r (fun hc=>(aK (v:=aI) eP (gx r hc) r r))<|og r r r (fun hc=>(bD aCe r))<|og r r r (fun hc=>(aK (v:=aI) eP (gx r hc) r r))<|og r r r (fun hc=>(fI (gx r hc) (gx r hc)))<|aM r (bY r r r (fun e=>eO e))<|mB r<|og r r r (fun hc=>(bD aCf r)) ?_
  refine og r r r (fun hc=>(aK (v:=aI) eP (gx r hc) r r))<|og r r r (fun hc=>(bD aCf r))<|og r r r (fun hc=>(aK (v:=aI) eP (gx r hc) r r))<|og r r r (fun hc=>(fI (gx r hc) (gx r hc)))<|aM r (bY r r r (fun e=>eO e))<|mB r<|og r r r (fun hc=>(bD lI r))<|og r r r (fun hc=>(aK (v:=aL) kM (gx r hc) r r))<|og r r r (fun hc=>(dI pI (cC (gx r hc))))<|og r r r (fun hc=>(bD lI r))<|og r r r (fun hc=>(aK (v:=aL) kM (gx r hc) r r))<|og r r r (fun hc=>(dI pI (cC (gx r hc))))<|og r r r (fun hc=>(fI (gx r hc) (gx r hc))) ?_
  refine aM r (bY r r r (fun e=>eO e))<|aF (fr':=[(2,.box 0 0),(3,.box 1 0),(73,aB)]) r r<|bP h1 r (fun hb3 h3=>?_) (fun hb3 h3=>?_)
  ·
   refine aH<|sB r<|aF (fr':=[(4,aB)]) r r<|bC<|aJ ?_
   obtain rfl:=sy h3
   exact bB (rs':=[.tmp 4]) r<|bH (v:=aB) r<|aZ<|aN [] r r r lr aA
  ·
   refine aW<|bV<|aP<|aH<|sI r<|aF (fr':=[(2,.box 0 0),(3,.box 1 0),(5,aI)]) r r ?_
   obtain ⟨x5,hx5,h6⟩:=aE h3
   refine eB gF (fun j7=>x5=Fl.go j7) (fun (j7:Unit)=>([]:Fr)) (fun (j7:Unit)=>([[.c (.str p0a.Queue),ci p0a.ToStart,ci p0a.ToClose,ci p0a.Total,ci p0a.Beat,ci p0a.First,ci p0a.Coef,ci p0a.Most,ci p0a.Attempts,.c (PV.ls 1 eA p0a.Fatal)],[.c (.str p1b.Queue),ci p1b.ToStart,ci p1b.ToClose,ci p1b.Total,ci p1b.Beat,ci p1b.First,ci p1b.Coef,ci p1b.Most,ci p1b.Attempts,.c (PV.ls 1 eA p1b.Fatal)]]:St)) ?_ ?_
   ·
    refine bJ<|dV _ (fun (s8:Int)=>([(2,.box 0 0),(3,.box 1 0),(5,ci s8)]:Fr)) (fun (s8:Int)=>([[.c (.str p0a.Queue),ci p0a.ToStart,ci p0a.ToClose,ci p0a.Total,ci p0a.Beat,ci p0a.First,ci p0a.Coef,ci p0a.Most,ci p0a.Attempts,.c (PV.ls 1 eA p0a.Fatal)],[.c (.str p1b.Queue),ci p1b.ToStart,ci p1b.ToClose,ci p1b.Total,ci p1b.Beat,ci p1b.First,ci p1b.Coef,ci p1b.Most,ci p1b.Attempts,.c (PV.ls 1 eA p1b.Fatal)]]:St)) hx5 (aU [] 2 r r r r ⟨lr,lr,lr,trivial⟩ (bW r (bW r aA))) ?_
    intro s8 st8 hs8 ho8
    unfold kQ at hs8
    refine aP<|aH<|mI r<|aM r (bD lI r)<|aM r (aK (v:=aL) kM r r r)<|aM r (dI pI (cC r))<|aM r (dJ r r)<|aF (fr':=[(2,.box 0 0),(3,.box 1 0),(5,aI),(78,aB)]) r r<|bP hs8 r (fun hb9 h9=>?_) (fun hb9 h9=>?_)
    ·
     refine aW<|bV<|aP<|bJ<|aP<|hF [.q 0,.q 1,.q 2,.q 3,.q 4,.q 5,.q 6,.q 7,.q 8,.q 9,.q 10] [(some 81,[2]),(some 82,[81]),(some 83,[5]),(some 84,[82,83]),(some 85,[84]),(some 86,[3]),(some 87,[86]),(some 88,[5]),(some 89,[87,88]),(some 90,[89]),(some 91,[85,90])] [0,1,0,7,15,0,32,0,224,480,1023] (by kernel_rfl)<|dq r r (bD lI r)<|dq r r (aK (v:=aL) kM r r r)<|dq r r (bE (v:=aI) r) ?_
     obtain ⟨x10,hx10,h11⟩:=aE h9
     refine dq r r (gR (cs:=[PV.str _]) vV (cC r) r hx10 r)<|dq r r (eG (p:=PV.str _) kD r r)<|dq r r (bD lI r)<|dq r r (aK (v:=aL) kM r r r)<|dq r r (bE (v:=aI) r) ?_
     obtain ⟨x12,hx12,h13⟩:=aE h11
     refine dq r r (gR (cs:=[PV.str _]) vV (cC r) r hx12 r)<|dq r r (eG (p:=PV.str _) kD r r)<|dq r r (yC r r)<|uE (fr':=[(2,.box 0 0),(3,.box 1 0),(5,aI),(91,aB)]) r r<|bP h13 r (fun hb14 h14=>?_) (fun hb14 h14=>?_)
     ·
      refine aH<|sB r<|aF (fr':=[(4,aB)]) r r<|bC<|bA<|aJ<|aJ<|bA<|aJ<|aJ ?_
      have h15:=cS h14 ho8
      have h16:=dQ h15 h6
      obtain rfl:=sy h16
      exact bB (rs':=[.tmp 4]) r<|bH (v:=aB) r<|aZ<|aN [] r r r lr aA
     ·
      exact aW<|bX<|bV<|aQ<|mI r<|aM r (dB r r)<|sI r<|cB (fr':=[(2,.box 0 0),(3,.box 1 0),(5,aI),(91,aB)]) r<|rX _ (sy h14) (aU [] 2 r r r r ⟨lr,lr,lr,trivial⟩ (bW r (bW r aA)))
    ·
     refine eK<|bR<|bR<|dC ?_
     have h18:=cS h9 ho8
     exact gD _ (sy h18) (aU [] 2 r r r r trivial (bW r (bW r aA)))
   ·
    intro j7 hj19
    have h19:=iC hj19 h6
    refine bV<|aH<|sB r<|aF (fr':=[(4,aB)]) r r<|bC ?_
    obtain rfl:=sy h19
    exact bB (rs':=[.tmp 4]) r<|bH (v:=aB) r<|aZ<|aN [] r r r lr aA
noncomputable def qD (p0a:bI) (p1b:bI):Option Bool :=
 (gd ((cond (cond (cond (cond (cond (cond (cond (cond (decide (p0a.ID=p1b.ID)) (decide (p0a.Kind=p1b.Kind)) false) (decide (p0a.Time=p1b.Time)) false) (decide (p0a.Seq=p1b.Seq)) false) (decide (p0a.Ref=p1b.Ref)) false) (decide (p0a.N=p1b.N)) false) (decide (p0a.Code=p1b.Code)) false) (decide (p0a.Name=p1b.Name)) false) (decide (p0a.Key=p1b.Key)) false)==true) (zS p0a.Data p1b.Data)).bind fun x1=>(gd ((cond (cond (cond (cond (cond (cond (cond (cond (cond (decide (p0a.ID=p1b.ID)) (decide (p0a.Kind=p1b.Kind)) false) (decide (p0a.Time=p1b.Time)) false) (decide (p0a.Seq=p1b.Seq)) false) (decide (p0a.Ref=p1b.Ref)) false) (decide (p0a.N=p1b.N)) false) (decide (p0a.Code=p1b.Code)) false) (decide (p0a.Name=p1b.Name)) false) (decide (p0a.Key=p1b.Key)) false) x1 false)==true) (jL p0a.Opts p1b.Opts)).bind fun x3=>some (cond (cond (cond (cond (cond (cond (cond (cond (cond (cond (decide (p0a.ID=p1b.ID)) (decide (p0a.Kind=p1b.Kind)) false) (decide (p0a.Time=p1b.Time)) false) (decide (p0a.Seq=p1b.Seq)) false) (decide (p0a.Ref=p1b.Ref)) false) (decide (p0a.N=p1b.N)) false) (decide (p0a.Code=p1b.Code)) false) (decide (p0a.Name=p1b.Name)) false) (decide (p0a.Key=p1b.Key)) false) x1 false) x3 false)
theorem aAf {p0a:bI}{p1b:bI}{res:Bool} (h:qD p0a p1b=some res):bS Tryz.prog 23 [.agg (AV.cs (cD p0a)),.agg (AV.cs (cD p1b))] [] (.c (.bool res)) []:=by
 unfold qD at h
 refine cJ (fn:=Tryz.f23) [0,1,2,3,4] (by kernel_rfl) Tryz.func23 r (by kernel_rfl) (by kernel_rfl)<|aH<|fS (v:=.agg aD) (n:=0) (cs:=aD) (σ':=[aD]) r r r r r<|fS (v:=.agg aD) (n:=1) (cs:=aD) (σ':=[aD,aD]) r r r r r<|sB r<|aF (fr':=[(2,.box 0 0),(3,.box 1 0)]) r r<|aH<|aM r (bD aCg r)<|aM r (aK (v:=aI) eP r r r)<|aM r (bD aCg r)<|aM r (aK (v:=aI) eP r r r) ?_
 refine aM r (bM r r)<|mB r<|og r r r (fun hc=>(bD tU r))<|og r r r (fun hc=>(aK (v:=aI) eP (gx r hc) r r))<|og r r r (fun hc=>(bD tU r))<|og r r r (fun hc=>(aK (v:=aI) eP (gx r hc) r r))<|og r r r (fun hc=>(bM (gx r hc) (gx r hc)))<|aM r (bO r r r (fun e=>eO e))<|mB r<|og r r r (fun hc=>(bD aCh r))<|og r r r (fun hc=>(aK (v:=aI) eP (gx r hc) r r))<|og r r r (fun hc=>(bD aCh r))<|og r r r (fun hc=>(aK (v:=aI) eP (gx r hc) r r)) ?_
 refine og r r r (fun hc=>(bM (gx r hc) (gx r hc)))<|aM r (bO r r r (fun e=>eO e))<|mB r<|og r r r (fun hc=>(bD xE r))<|og r r r (fun hc=>(aK (v:=aI) eP (gx r hc) r r))<|og r r r (fun hc=>(bD xE r))<|og r r r (fun hc=>(aK (v:=aI) eP (gx r hc) r r))<|og r r r (fun hc=>(bM (gx r hc) (gx r hc)))<|aM r (bO r r r (fun e=>eO e))<|mB r<|og r r r (fun hc=>(bD xF r))<|og r r r (fun hc=>(aK (v:=aI) eP (gx r hc) r r))<|og r r r (fun hc=>(bD xF r)) ?_
 refine og r r r (fun hc=>(aK (v:=aI) eP (gx r hc) r r))<|og r r r (fun hc=>(bM (gx r hc) (gx r hc)))<|aM r (bO r r r (fun e=>eO e))<|mB r<|og r r r (fun hc=>(bD sC r))<|og r r r (fun hc=>(aK (v:=aI) eP (gx r hc) r r))<|og r r r (fun hc=>(bD sC r))<|og r r r (fun hc=>(aK (v:=aI) eP (gx r hc) r r))<|og r r r (fun hc=>(bM (gx r hc) (gx r hc)))<|aM r (bO r r r (fun e=>eO e))<|mB r<|og r r r (fun hc=>(bD vU r))<|og r r r (fun hc=>(aK (v:=aI) eP (gx r hc) r r)) ?_
 refine og r r r (fun hc=>(bD vU r))<|og r r r (fun hc=>(aK (v:=aI) eP (gx r hc) r r))<|og r r r (fun hc=>(bM (gx r hc) (gx r hc)))<|aM r (bO r r r (fun e=>eO e))<|mB r<|og r r r (fun hc=>(bD oW r))<|og r r r (fun hc=>(aK (v:=aS) kD (gx r hc) r r))<|og r r r (fun hc=>(bD oW r))<|og r r r (fun hc=>(aK (v:=aS) kD (gx r hc) r r))<|og r r r (fun hc=>(oU (gx r hc) (gx r hc)))<|aM r (bO r r r (fun e=>eO e))<|mB r<|og r r r (fun hc=>(bD oX r)) ?_
 refine og r r r (fun hc=>(aK (v:=aS) kD (gx r hc) r r))<|og r r r (fun hc=>(bD oX r))<|og r r r (fun hc=>(aK (v:=aS) kD (gx r hc) r r))<|og r r r (fun hc=>(oU (gx r hc) (gx r hc)))<|aM r (bO r r r (fun e=>eO e))<|mB r<|og r r r (fun hc=>(bD tV r))<|og r r r (fun hc=>(cN (us:=bL) fM (gx r hc) r r r))<|og r r r (fun hc=>(bD tV r))<|og r r r (fun hc=>(cN (us:=bL) fM (gx r hc) r r r)) ?_
 obtain ⟨x1,hx1,h2⟩:=aE h
 refine sM r r (fun hc=>aX (v:=aB) r (aC1 (cA hx1 hc)) ⟨(eH (gx r hc) (bK r ⟨r,r,r,r,r,trivial⟩)),(eH (gx r hc) (bK r ⟨r,r,r,r,r,trivial⟩)),trivial⟩ (fA (by repeat (first | exact dX | refine aY r ?_ | refine aY (oS r) ?_ | refine aY oR ?_))) r r) ?_
 refine aM r (bO r r r (fun e=>eO e))<|mB r<|og r r r (fun hc=>(bD rW r))<|og r r r (fun hc=>(cN (us:=bZ) wH (gx r hc) r r r))<|og r r r (fun hc=>(bD rW r))<|og r r r (fun hc=>(cN (us:=bZ) wH (gx r hc) r r r)) ?_
 obtain ⟨x3,hx3,h4⟩:=aE h2
 refine sM r r (fun hc=>aX (v:=aB) r (sG (cA hx3 hc)) ⟨(eH (gx r hc) (bK r ⟨r,r,r,r,r,r,r,r,r,r,trivial⟩)),(eH (gx r hc) (bK r ⟨r,r,r,r,r,r,r,r,r,r,trivial⟩)),trivial⟩ (fA (by repeat (first | exact dX | refine aY r ?_ | refine aY (oS r) ?_ | refine aY oR ?_))) r r) ?_
 refine aM r (bO r r r (fun e=>eO e))<|sB r<|aF (fr':=[(4,aB)]) r r<|bC ?_
 obtain rfl:=sy h4
 exact bB (rs':=[.tmp 4]) r<|bH (v:=aB) r<|aZ<|aN [] r r r lr aA
noncomputable def oH  : Option bI :=
 some (bI.mk (2:Int) (2:Int) (5:Int) (0:Int) (0:Int) (1:Int) (0:Int) ([]:List UInt8) ([]:List UInt8) (aC.mk (0:Int) (0:Int) ([]:List UInt8) ([]:(List aC)) ([]:(List (List UInt8)))) (bG.mk ([]:List UInt8) (0:Int) (0:Int) (0:Int) (0:Int) (0:Int) (0:Int) (0:Int) (0:Int) ([]:(List (List UInt8)))))
theorem xZ  {res:bI} (h:oH=some res):bS Tryz.prog 52 [] [] (.agg (AV.cs (cD res))) []:=by
 unfold oH at h
 refine cJ (fn:=Tryz.f52) [0] (by kernel_rfl) Tryz.func52 r (by kernel_rfl) (by kernel_rfl)<|aH<|gC (n:=0) (cs:=aG) (σ':=[aG]) aJB r r r<|aF (fr':=[(0,.box 0 0)]) r r<|aH<|aM r (pU (c0:=aG) (cs:=aG) aQv r (iA (v:=aI) (us:=[_]) (cs':=u24) r r r r r r (iA (v:=aI) (us:=[_]) (cs':=u24) r r r r r r (iA (v:=aI) (us:=[_]) (cs':=u24) r r r r r r (iA (v:=aI) (us:=[_]) (cs':=u24) r r r r r r pR)))))<|bU (v:=.agg aG) (us:=aG) (cs:=aG) (σ':=[aG]) r qF r r r r r r r r<|aF (fr':=[(0,.box 0 0)]) r r<|bC ?_
 obtain rfl:=sy h
 exact bB (rs':=[.cell 0 30]) r<|cZ (us:=aG) (cs:=aG) qF r r r r<|aZ<|aN [] r r r (bK r ⟨r,r,r,r,r,r,r,r,r,r,r,r,⟨_,r⟩,⟨_,r⟩,r,r,r,r,r,r,r,r,r,⟨_,r⟩,trivial⟩) aA
noncomputable def iH  : Option Bool :=
 (oH).bind fun x1=>(iX ([x1]:List bI)).bind fun x3=>(gZ x3.1).bind fun x5=>(gZ ([]:List UInt8)).bind fun x7=>(iX ([(bI.mk (0:Int) (0:Int) (0:Int) (0:Int) (0:Int) (0:Int) (0:Int) ([]:List UInt8) ([]:List UInt8) (aC.mk (0:Int) (0:Int) ([]:List UInt8) ([]:(List aC)) ([]:(List (List UInt8)))) (bG.mk ([]:List UInt8) (0:Int) (0:Int) (0:Int) (0:Int) (0:Int) (0:Int) (0:Int) (0:Int) ([]:(List (List UInt8)))))]:List bI)).bind fun x9=>(iX ([]:List bI)).bind fun x11=>(gd ((cond (cond (decide (x3.2=(0:Int))) (decide (x5.2=(0:Int))) false) (decide (((x5.1).length:Int)=(1:Int))) false)==true) (hG x5.1 (0:Int))).bind fun x13=>(gd ((cond (cond (decide (x3.2=(0:Int))) (decide (x5.2=(0:Int))) false) (decide (((x5.1).length:Int)=(1:Int))) false)==true) (oH)).bind fun x15=>(gd ((cond (cond (decide (x3.2=(0:Int))) (decide (x5.2=(0:Int))) false) (decide (((x5.1).length:Int)=(1:Int))) false)==true) (qD x13 x15)).bind fun x17=>(gd ((cond (cond (cond (cond (cond (cond (decide (x3.2=(0:Int))) (decide (x5.2=(0:Int))) false) (decide (((x5.1).length:Int)=(1:Int))) false) x17 false) (decide (x7.2=(4:Int))) false) (decide (x9.2=(11:Int))) false) (decide (((x11.1).length:Int)=(5:Int))) false)==true) (hG x11.1 (0:Int))).bind fun x19=>some (cond (cond (cond (cond (cond (cond (cond (decide (x3.2=(0:Int))) (decide (x5.2=(0:Int))) false) (decide (((x5.1).length:Int)=(1:Int))) false) x17 false) (decide (x7.2=(4:Int))) false) (decide (x9.2=(11:Int))) false) (decide (((x11.1).length:Int)=(5:Int))) false) (decide (((x19).toNat:Int)=(0:Int))) false)
theorem iQ  {res:Bool} (h:iH=some res):bS Tryz.prog 16 [] [] (.c (.bool res)) []:=by
 unfold iH at h
 refine cJ (fn:=Tryz.f16) [0,1,2,3,4,6,8,9] (by kernel_rfl) Tryz.func16 r (by kernel_rfl) (by kernel_rfl)<|aH<|sB r<|aF (fr':=[]) r r<|aP<|aQ ?_
 obtain ⟨x1,hx1,h2⟩:=aE h
 refine gV (aX (v:=.agg aD) r (xZ hx1) trivial r r r)<|kT (row:=cD) (xs:=([x1]:List bI)) (rows:=[[_,_,_,_,_,_,_,_,_,_,_,_,_,_,_,_,_,_,_,_,_,_,_,_]]) (σ':=[]) [0,0,0,0,0,0,0,0,0,0,0,0,5,1,0,0,0,0,0,0,0,0,0,1] aEe r r r (cM r gY) r r ?_
 obtain ⟨x3,hx3,h4⟩:=aE h2
 refine gV (aX (v:=.tup [aO,aI]) r (pG hx3) ⟨lr,trivial⟩ r r r)<|mV (v:=.tup [aO,aI]) r<|aM r (yO (v:=aO) r r)<|aM r (yO (v:=aI) r r)<|sV (v:=aO) r<|sI r<|aF (fr':=[(1,aO),(2,aI)]) r r<|aH<|mV (v:=aO) r ?_
 obtain ⟨x5,hx5,h6⟩:=aE h4
 refine gV (aX (v:=.tup [aO,aI]) r (rA hx5) ⟨lr,trivial⟩ r r r)<|mV (v:=.tup [aO,aI]) r<|aM r (yO (v:=aO) r r)<|aM r (yO (v:=aI) r r)<|sV (v:=aO) r<|sI r<|aF (fr':=[(2,aI),(3,aO),(4,aI)]) r r<|aP<|aQ ?_
 obtain ⟨x7,hx7,h8⟩:=aE h6
 refine gV (aX (v:=.tup [aO,aI]) r (rA hx7) ⟨aAG,trivial⟩ r r r)<|mV (v:=.tup [aO,aI]) r<|aM r (yO (v:=aO) r r)<|aM r (yO (v:=aI) r r)<|sV (v:=aO) r<|sI r<|aF (fr':=[(2,aI),(3,aO),(4,aI),(6,aI)]) r r<|aH<|aM r (pU (c0:=aG) (cs:=aG) aQv r pR)<|kT (row:=cD) (xs:=([(bI.mk (0:Int) (0:Int) (0:Int) (0:Int) (0:Int) (0:Int) (0:Int) ([]:List UInt8) ([]:List UInt8) (aC.mk (0:Int) (0:Int) ([]:List UInt8) ([]:(List aC)) ([]:(List (List UInt8)))) (bG.mk ([]:List UInt8) (0:Int) (0:Int) (0:Int) (0:Int) (0:Int) (0:Int) (0:Int) (0:Int) ([]:(List (List UInt8)))))]:List bI)) (rows:=[[_,_,_,_,_,_,_,_,_,_,_,_,_,_,_,_,_,_,_,_,_,_,_,_]]) (σ':=[]) [0,0,0,0,0,0,0,0,0,0,0,0,5,1,0,0,0,0,0,0,0,0,0,1] aEe r r r (cM r gY) r r ?_
 obtain ⟨x9,hx9,h10⟩:=aE h8
 refine gV (aX (v:=.tup [aO,aI]) r (pG hx9) ⟨lr,trivial⟩ r r r)<|mV (v:=.tup [aO,aI]) r<|aM r (yO (v:=aO) r r)<|aM r (yO (v:=aI) r r)<|sV (v:=aO) r<|sI r<|aF (fr':=[(2,aI),(3,aO),(4,aI),(6,aI),(8,aI)]) r r<|aP<|aQ ?_
 obtain ⟨x11,hx11,h12⟩:=aE h10
 refine gV (aX (v:=.tup [aO,aI]) r (pG hx11) ⟨aAG,trivial⟩ r r r)<|mV (v:=.tup [aO,aI]) r<|aM r (yO (v:=aO) r r)<|aM r (yO (v:=aI) r r)<|sV (v:=aO) r<|sI r<|aF (fr':=[(2,aI),(3,aO),(4,aI),(6,aI),(8,aI),(9,aO)]) r r<|aP<|hF [.q 0,.q 1,.q 2,.q 3,.q 4,.q 5,.q 6,.q 7,.q 8,.q 9,.q 10,.q 11,.q 12,.q 13,.q 14,.q 15,.q 16,.q 17,.q 18,.q 19,.q 20,.q 21,.q 22,.q 23,.q 24,.q 25,.q 26,.q 27,.q 28,.q 29,.q 30,.q 31,.q 32,.q 33,.q 34,.q 35,.q 36,.n 37 []] [(some 36,[2]),(some 37,[36]),(some 38,[37]),(some 39,[4,38]),(some 40,[39,38]),(some 41,[38,40]),(some 42,[41]),(some 43,[3,42]),(some 44,[43,42]),(some 45,[44,42]),(some 46,[42,45]),(some 47,[46]),(some 48,[3,47]),(some 49,[48,47]),(some 50,[49,47]),(some 51,[47]),(some 52,[50,51,47]),(some 53,[47,52]),(some 54,[53]),(some 55,[6,54]),(some 56,[55,54]),(some 57,[54,56]),(some 58,[57]),(some 59,[8,58]),(some 60,[59,58]),(some 61,[58,60]),(some 62,[61]),(some 63,[9,62]),(some 64,[63,62]),(some 65,[64,62]),(some 66,[62,65]),(some 67,[66]),(some 68,[9,67]),(some 69,[68,67]),(some 70,[69,67]),(some 71,[70,67]),(some 72,[67,71]),(some 0,[72])] [0,1,3,7,15,31,63,127,255,511,1023,2047,4095,8191,16383,4095,65535,131071,262143,524287,1048575,2097151,4194303,8388607,16777215,33554431,67108863,134217727,268435455,536870911,1073741823,2147483647,4294967295,8589934591,17179869183,34359738367,68719476735,137438953471] (by kernel_rfl)<|dq r r (bE (v:=aI) r)<|dq r r (bM r r)<|dq r r (bE (v:=aB) r)<|d_g r r r (fun hc=>rK r (bE (v:=aI) r)) ?_
 refine d_g r r r (fun hc=>rK r (bM (gx r hc) r))<|dq r r (bO r r r (fun e=>eO e))<|dq r r (bE (v:=aB) r)<|d_g r r r (fun hc=>rK r (bE (v:=aO) r))<|d_g r r r (fun hc=>rK r (dI aDz (lG (gx r hc))))<|d_g r r r (fun hc=>rK r (bM (gx r hc) r))<|dq r r (bO r r r (fun e=>eO e))<|dq r r (bE (v:=aB) r)<|d_g r r r (fun hc=>rK r (bE (v:=aO) r)) ?_
 obtain ⟨x13,hx13,h14⟩:=aE h12
 refine d_g r r r (fun hc=>rK r (gR (cs:=[PV.int _ _,PV.int _ _,PV.int _ _,PV.int _ _,PV.int _ _,PV.int _ _,PV.int _ _,PV.str _,PV.str _,PV.int _ _,PV.int _ _,PV.str _,PV.ls _ _ _,PV.ls _ _ _,PV.str _,PV.int _ _,PV.int _ _,PV.int _ _,PV.int _ _,PV.int _ _,PV.int _ _,PV.int _ _,PV.int _ _,PV.ls _ _ _]) aEe (lG (gx r hc)) r (cA hx13 hc) r))<|d_g r r r (fun hc=>rK r (gM (us:=[PV.int _ _,PV.int _ _,PV.int _ _,PV.int _ _,PV.int _ _,PV.int _ _,PV.int _ _,PV.str _,PV.str _,PV.int _ _,PV.int _ _,PV.str _,PV.ls _ _ _,PV.ls _ _ _,PV.str _,PV.int _ _,PV.int _ _,PV.int _ _,PV.int _ _,PV.int _ _,PV.int _ _,PV.int _ _,PV.int _ _,PV.ls _ _ _]) qF (gx r hc) r r)) ?_
 obtain ⟨x15,hx15,h16⟩:=aE h14
 refine d_g r r r (fun hc=>pD (v:=.agg aD) r (xZ (cA hx15 hc)) trivial r) ?_
 obtain ⟨x17,hx17,h18⟩:=aE h16
 refine d_g r r r (fun hc=>pD (v:=aB) r (aAf (cA hx17 hc)) ⟨(eH (gx r hc) (bK r ⟨r,r,r,r,r,r,r,r,r,r,r,r,r,r,r,r,r,r,r,r,r,r,r,r,trivial⟩)),(eH (gx r hc) (bK r ⟨r,r,r,r,r,r,r,r,r,r,r,r,r,r,r,r,r,r,r,r,r,r,r,r,trivial⟩)),trivial⟩ r)<|dq r r (bO r r r (fun e=>eO e))<|dq r r (bE (v:=aB) r)<|d_g r r r (fun hc=>rK r (bE (v:=aI) r))<|d_g r r r (fun hc=>rK r (bM (gx r hc) r))<|dq r r (bO r r r (fun e=>eO e))<|dq r r (bE (v:=aB) r)<|d_g r r r (fun hc=>rK r (bE (v:=aI) r))<|d_g r r r (fun hc=>rK r (bM (gx r hc) r))<|dq r r (bO r r r (fun e=>eO e))<|dq r r (bE (v:=aB) r)<|d_g r r r (fun hc=>rK r (bE (v:=aO) r))<|d_g r r r (fun hc=>rK r (dI sD (lG (gx r hc)))) ?_
 refine d_g r r r (fun hc=>rK r (bM (gx r hc) r))<|dq r r (bO r r r (fun e=>eO e))<|dq r r (bE (v:=aB) r)<|d_g r r r (fun hc=>rK r (bE (v:=aO) r)) ?_
 obtain ⟨x19,hx19,h20⟩:=aE h18
 refine d_g r r r (fun hc=>rK r (gR (cs:=[PV.int _ _]) pK (lG (gx r hc)) r (cA hx19 hc) r))<|d_g r r r (fun hc=>rK r (eG (p:=PV.int _ _) tv5 (gx r hc) r))<|d_g r r r (fun hc=>rK r (bM (gx r hc) r))<|dq r r (bO r r r (fun e=>eO e))<|d_n r ?_ r
 refine sB r<|aCI<|⟨tD,?_⟩
 refine uE (fr':=[(0,aB)]) r r<|bC ?_
 obtain rfl:=sy h20
 exact bB (rs':=[.tmp 0]) r<|bH (v:=aB) r<|aZ<|aN [] r r r lr aA
noncomputable def sZ (p0a:(List UInt8)) (p1b:(List UInt8)) (s6:Int):Option (cI Int (Fl Bool Unit)) :=
 cond (decide (s6<((p0a).length:Int))) ((hG p0a s6).bind fun x8=>(hG p1b s6).bind fun x10=>cond (!decide (((x8).toNat:Int)=((x10).toNat:Int))) (some (cI.out (Fl.done false))) (some (cI.next (IntKind.wrap .i64 (s6+(1:Int)))))) (some (cI.out (Fl.go ())))
noncomputable def sJ (p0a:(List UInt8)) (p1b:(List UInt8)):Option Bool :=
 cond (!decide (((p0a).length:Int)=((p1b).length:Int))) (some false) (((dR (sZ p0a p1b) ((0:Int))):Option (Fl Bool Unit)).bind fun x3=>Fl.next x3 (fun j5=>(some true)))
theorem aBL {p0a:(List UInt8)}{p1b:(List UInt8)}{res:Bool} (h:sJ p0a p1b=some res):bS Tryz.prog 17 [.c (PV.ls 1 dF p0a),.c (PV.ls 1 dF p1b)] [] (.c (.bool res)) []:=by
 unfold sJ at h
 refine cJ (fn:=Tryz.f17) [0,1,4,5,10,12,13,14,24] (by kernel_rfl) Tryz.func17 r (by kernel_rfl) (by kernel_rfl)<|aH<|sB r<|aF (fr':=[(0,aL),(1,aL)]) r r<|aP<|aH<|mL r<|aM r (dI sD (cC r))<|mL r<|aM r (dI sD (cC r))<|aM r (fI r r) ?_
 refine aF (fr':=[(0,aL),(1,aL),(10,aB)]) r r<|bP h r (fun hb1 h1=>?_) (fun hb1 h1=>?_)
 ·
  refine aH<|sB r<|aF (fr':=[(4,aB)]) r r<|bC<|aJ ?_
  obtain rfl:=sy h1
  exact bB (rs':=[.tmp 4]) r<|bH (v:=aB) r<|aZ<|aN [] r r r lr aA
 ·
  refine aW<|bV<|aP<|aH<|mL r<|aM r (dI sD (cC r))<|mI r<|aF (fr':=[(0,aL),(1,aL),(12,aI),(13,aI)]) r r ?_
  obtain ⟨x3,hx3,h4⟩:=aE h1
  refine eB gF (fun j5=>x3=Fl.go j5) (fun (j5:Unit)=>([]:Fr)) (fun (j5:Unit)=>([]:St)) ?_ ?_
  ·
   refine bJ<|dV _ (fun (s6:Int)=>([(0,.c (PV.ls 1 dF p0a)),(1,.c (PV.ls 1 dF p1b)),(12,ci ((p0a).length:Int)),(13,ci s6)]:Fr)) (fun (s6:Int)=>([]:St)) hx3 (aU [] 0 r r r r ⟨lr,lr,lr,lr,trivial⟩ aA) ?_
   intro s6 st6 hs6 ho6
   unfold sZ at hs6
   refine aH<|aM r (dJ r r)<|aF (fr':=[(0,aL),(1,aL),(12,aI),(13,aI),(14,aB)]) r r<|aP<|bP hs6 r (fun hb7 h7=>?_) (fun hb7 h7=>?_)
   ·
    refine aW<|bV<|aP<|bJ<|aH<|mI r<|sI r<|aF (fr':=[(0,aL),(1,aL),(5,aI),(12,aI),(13,aI)]) r r<|aP<|hF [.q 0,.q 1,.q 2,.q 3,.q 4,.q 5,.q 6,.q 7,.q 8] [(some 16,[0]),(some 17,[5]),(some 18,[16,17]),(some 19,[18]),(some 20,[1]),(some 21,[5]),(some 22,[20,21]),(some 23,[22]),(some 24,[19,23])] [0,0,3,7,0,0,48,112,255] (by kernel_rfl)<|dq r r (bE (v:=aL) r)<|dq r r (bE (v:=aI) r) ?_
    obtain ⟨x8,hx8,h9⟩:=aE h7
    refine dq r r (gR (cs:=[PV.int _ _]) pK (cC r) r hx8 r)<|dq r r (eG (p:=PV.int _ _) tv5 r r)<|dq r r (bE (v:=aL) r)<|dq r r (bE (v:=aI) r) ?_
    obtain ⟨x10,hx10,h11⟩:=aE h9
    refine dq r r (gR (cs:=[PV.int _ _]) pK (cC r) r hx10 r)<|dq r r (eG (p:=PV.int _ _) tv5 r r)<|dq r r (fI r r)<|uE (fr':=[(0,aL),(1,aL),(12,aI),(13,aI),(24,aB)]) r r<|bP h11 r (fun hb12 h12=>?_) (fun hb12 h12=>?_)
    ·
     refine aH<|sB r<|aF (fr':=[(4,aB)]) r r<|bC<|bA<|aJ<|aJ<|bA<|aJ<|aJ ?_
     have h13:=cS h12 ho6
     have h14:=dQ h13 h4
     obtain rfl:=sy h14
     exact bB (rs':=[.tmp 4]) r<|bH (v:=aB) r<|aZ<|aN [] r r r lr aA
    ·
     exact aW<|bX<|bV<|aQ<|aM r (dB r r)<|mI r<|cB (fr':=[(0,aL),(1,aL),(12,aI),(13,aI),(24,aB)]) r<|rX _ (sy h12) (aU [] 0 r r r r ⟨lr,lr,lr,lr,trivial⟩ aA)
   ·
    refine eK<|bR<|bR<|dC ?_
    have h16:=cS h7 ho6
    exact gD _ (sy h16) (aU [] 0 r r r r trivial aA)
  ·
   intro j5 hj17
   have h17:=iC hj17 h4
   refine bV<|aH<|sB r<|aF (fr':=[(4,aB)]) r r<|bC ?_
   obtain rfl:=sy h17
   exact bB (rs':=[.tmp 4]) r<|bH (v:=aB) r<|aZ<|aN [] r r r lr aA
end Go.Proofs.YtnigjppddilpcaaGreatDoor
