import Derived.Test.YtnigjppddilpcaaGreatDoorGETy
import Derived.Test.YtnigjppddilpcaaGreatDoorGEF4
import Derived.Test.YtnigjppddilpcaaGreatDoorGEF5
namespace Go.Proofs.YtnigjppddilpcaaGreatDoor
open Go Abs
set_option maxRecDepth 100000
set_option linter.unusedVariables false
set_option linter.unusedSimpArgs false
noncomputable def kH (cQ:aG):Option (aV × aG) :=
 (dG (-9223372036854775808:Int) (9223372036854775807:Int) cQ).bind fun x1=>(dG (-9223372036854775808:Int) (9223372036854775807:Int) x1.2).bind fun x3=>(dG (-9223372036854775808:Int) (9223372036854775807:Int) x3.2).bind fun x5=>(dG (-9223372036854775808:Int) (9223372036854775807:Int) x5.2).bind fun x7=>(dG (-9223372036854775808:Int) (9223372036854775807:Int) x7.2).bind fun x9=>(dG (-9223372036854775808:Int) (9223372036854775807:Int) x9.2).bind fun x11=>(dG (-9223372036854775808:Int) (9223372036854775807:Int) x11.2).bind fun x13=>(fF (4096:Int) x13.2).bind fun x15=>(fF (4096:Int) x15.2).bind fun x17=>(oX x17.2).bind fun x19=>(hY x19.2).bind fun x21=>(((dS x21.2).bind fun x26=>(gd ((decide (x26=(0:Int)))==true) (mH (aV.mk x1.1 x3.1 x5.1 x7.1 x9.1 x11.1 x13.1 x15.1 x17.1 x19.1 x21.1))).bind fun x28=>cond (cond (decide (x26=(0:Int))) (!x28) false) ((iU (11:Int) x21.2).bind fun x31=>some x31) (some x21.2)):Option aG).bind fun x23=>((dS x23).bind fun x34=>cond (!decide (x34=(0:Int))) (some ((aV.mk (0:Int) (0:Int) (0:Int) (0:Int) (0:Int) (0:Int) (0:Int) ([]:List UInt8) ([]:List UInt8) (aD.mk (0:Int) (0:Int) ([]:List UInt8) ([]:(List aD)) ([]:(List (List UInt8)))) (bP.mk ([]:List UInt8) (0:Int) (0:Int) (0:Int) (0:Int) (0:Int) (0:Int) (0:Int) (0:Int) ([]:(List (List UInt8))))),x23)) (some ((aV.mk x1.1 x3.1 x5.1 x7.1 x9.1 x11.1 x13.1 x15.1 x17.1 x19.1 x21.1),x23)))
theorem zB {cQ:aG}{res:(aV × aG)} (h:kH cQ=some res):bR Tryz.prog 27 [.box 0 0] [AV.cs (cN cQ)] (.agg (AV.cs (bZ res.1))) [AV.cs (cN res.2)]:=by
 unfold kH at h
 refine cP (fn:=Tryz.f27) [0,2,3,5,13,14,15,16,43,48] (by kernel_rfl) Tryz.func27 r (by kernel_rfl) (by kernel_rfl)<|aJ<|fZ (n:=1) (cs:=aA) (σ':=[bV,aA]) aIQ r r r<|aF (fr':=[(0,.box 0 0),(2,.box 1 0)]) r r<|aJ<|fZ (n:=2) (cs:=aA) (σ':=[bV,aA,aA]) aIQ r r r<|aF (fr':=[(0,.box 0 0),(2,.box 1 0),(3,.box 2 0)]) r r<|aN<|aJ<|aQ r (bF aCO r) ?_
 refine aQ r (bF wP r)<|aQ r (bF aCP r)<|aQ r (bF yV r)<|aQ r (bF wQ r)<|aQ r (bF uS r)<|aQ r (bF wR r)<|aGX (l:=[(2,0),(2,1),(2,2),(2,3),(2,4),(2,5),(2,6)]) kA r r r r<|aQ r (aED aLx r)<|mI r<|aF (fr':=[(0,.box 0 0),(2,.box 1 0),(3,.box 2 0),(13,.ptrs [(2,0),(2,1),(2,2),(2,3),(2,4),(2,5),(2,6)]),(14,aI),(15,aI)]) r r<|bK<|aHX 64<|mN ?_
 refine aJ<|aQ r (nH (dU r r) (show _=.bool true from r))<|aF (fr':=[(0,.box 0 0),(2,.box 1 0),(3,.box 2 0),(13,.ptrs [(2,0),(2,1),(2,2),(2,3),(2,4),(2,5),(2,6)]),(14,aI),(15,aI),(16,aB)]) r r<|aN<|eL r<|bA<|bT<|aN<|bK<|aJ<|aQ r (gJ (p:=(2,0)) kA r r r) ?_
 refine aQ r (eE kY r)<|sV (v:=.box 2 0) r<|aF (fr':=[(0,.box 0 0),(2,.box 1 0),(3,.box 2 0),(5,.box 2 0),(13,.ptrs [(2,0),(2,1),(2,2),(2,3),(2,4),(2,5),(2,6)]),(14,aI),(15,aI)]) r r<|aT<|mV (v:=.box 2 0) r<|mV (v:=.box 0 0) r ?_
 obtain ⟨x1,hx1,h2⟩:=aE h
 refine dK (v:=aI) (σ':=[bV,aA,aA]) [0] r (dV hx1) r r ⟨lr,lr,lr,trivial⟩ (eM ⟨r,r,r,r,trivial⟩ aC) r r r<|aQ r (eQ r)<|bO (v:=aI) (us:=[aI]) (cs:=aA) (σ':=[bV,aA,aA]) r fC r r r r r r r r<|cI (fr':=[(0,.box 0 0),(2,.box 1 0),(3,.box 2 0),(5,.box 2 0),(13,.ptrs [(2,0),(2,1),(2,2),(2,3),(2,4),(2,5),(2,6)]),(14,aI),(15,aI)]) r<|cA<|bT<|aT<|aQ r (nH (dR r r) (show _=.int .i64 (1:Int) from r))<|mI r<|cI (fr':=[(0,.box 0 0),(2,.box 1 0),(3,.box 2 0),(5,.box 2 0),(13,.ptrs [(2,0),(2,1),(2,2),(2,3),(2,4),(2,5),(2,6)]),(14,aI),(15,aI)]) r<|fM<|mN<|aN ?_
 refine aT<|aQ r (nH (dU r r) (show _=.bool true from r))<|aF (fr':=[(0,.box 0 0),(2,.box 1 0),(3,.box 2 0),(13,.ptrs [(2,0),(2,1),(2,2),(2,3),(2,4),(2,5),(2,6)]),(14,aI),(15,aI),(16,aB)]) r r<|aN<|eL r<|bA<|bT<|aN<|bK<|aJ<|aQ r (gJ (p:=(2,1)) kA r r r)<|aQ r (eE kY r) ?_
 refine sV (v:=.box 2 1) r<|aF (fr':=[(0,.box 0 0),(2,.box 1 0),(3,.box 2 0),(5,.box 2 1),(13,.ptrs [(2,0),(2,1),(2,2),(2,3),(2,4),(2,5),(2,6)]),(14,aI),(15,aI)]) r r<|aT<|mV (v:=.box 2 1) r<|mV (v:=.box 0 0) r ?_
 obtain ⟨x3,hx3,h4⟩:=aE h2
 refine dK (v:=aI) (σ':=[bV,aA,aA]) [0] r (dV hx3) r r ⟨lr,lr,lr,trivial⟩ (eM ⟨r,r,r,r,trivial⟩ aC) r r r<|aQ r (eQ r)<|bO (v:=aI) (us:=[aI]) (cs:=aA) (σ':=[bV,aA,aA]) r fC r r r r r r r r<|cI (fr':=[(0,.box 0 0),(2,.box 1 0),(3,.box 2 0),(5,.box 2 1),(13,.ptrs [(2,0),(2,1),(2,2),(2,3),(2,4),(2,5),(2,6)]),(14,aI),(15,aI)]) r<|cA<|bT<|aT<|aQ r (nH (dR r r) (show _=.int .i64 (2:Int) from r))<|mI r<|cI (fr':=[(0,.box 0 0),(2,.box 1 0),(3,.box 2 0),(5,.box 2 1),(13,.ptrs [(2,0),(2,1),(2,2),(2,3),(2,4),(2,5),(2,6)]),(14,aI),(15,aI)]) r<|fM<|mN<|aN ?_
 refine aT<|aQ r (nH (dU r r) (show _=.bool true from r))<|aF (fr':=[(0,.box 0 0),(2,.box 1 0),(3,.box 2 0),(13,.ptrs [(2,0),(2,1),(2,2),(2,3),(2,4),(2,5),(2,6)]),(14,aI),(15,aI),(16,aB)]) r r<|aN<|eL r<|bA<|bT<|aN<|bK<|aJ<|aQ r (gJ (p:=(2,2)) kA r r r)<|aQ r (eE kY r) ?_
 refine sV (v:=.box 2 2) r<|aF (fr':=[(0,.box 0 0),(2,.box 1 0),(3,.box 2 0),(5,.box 2 2),(13,.ptrs [(2,0),(2,1),(2,2),(2,3),(2,4),(2,5),(2,6)]),(14,aI),(15,aI)]) r r<|aT<|mV (v:=.box 2 2) r<|mV (v:=.box 0 0) r ?_
 obtain ⟨x5,hx5,h6⟩:=aE h4
 refine dK (v:=aI) (σ':=[bV,aA,aA]) [0] r (dV hx5) r r ⟨lr,lr,lr,trivial⟩ (eM ⟨r,r,r,r,trivial⟩ aC) r r r<|aQ r (eQ r)<|bO (v:=aI) (us:=[aI]) (cs:=aA) (σ':=[bV,aA,aA]) r fC r r r r r r r r<|cI (fr':=[(0,.box 0 0),(2,.box 1 0),(3,.box 2 0),(5,.box 2 2),(13,.ptrs [(2,0),(2,1),(2,2),(2,3),(2,4),(2,5),(2,6)]),(14,aI),(15,aI)]) r<|cA<|bT<|aT<|aQ r (nH (dR r r) (show _=.int .i64 (3:Int) from r))<|mI r<|cI (fr':=[(0,.box 0 0),(2,.box 1 0),(3,.box 2 0),(5,.box 2 2),(13,.ptrs [(2,0),(2,1),(2,2),(2,3),(2,4),(2,5),(2,6)]),(14,aI),(15,aI)]) r<|fM<|mN<|aN ?_
 refine aT<|aQ r (nH (dU r r) (show _=.bool true from r))<|aF (fr':=[(0,.box 0 0),(2,.box 1 0),(3,.box 2 0),(13,.ptrs [(2,0),(2,1),(2,2),(2,3),(2,4),(2,5),(2,6)]),(14,aI),(15,aI),(16,aB)]) r r<|aN<|eL r<|bA<|bT<|aN<|bK<|aJ<|aQ r (gJ (p:=(2,3)) kA r r r)<|aQ r (eE kY r) ?_
 refine sV (v:=.box 2 3) r<|aF (fr':=[(0,.box 0 0),(2,.box 1 0),(3,.box 2 0),(5,.box 2 3),(13,.ptrs [(2,0),(2,1),(2,2),(2,3),(2,4),(2,5),(2,6)]),(14,aI),(15,aI)]) r r<|aT<|mV (v:=.box 2 3) r<|mV (v:=.box 0 0) r ?_
 obtain ⟨x7,hx7,h8⟩:=aE h6
 refine dK (v:=aI) (σ':=[bV,aA,aA]) [0] r (dV hx7) r r ⟨lr,lr,lr,trivial⟩ (eM ⟨r,r,r,r,trivial⟩ aC) r r r<|aQ r (eQ r)<|bO (v:=aI) (us:=[aI]) (cs:=aA) (σ':=[bV,aA,aA]) r fC r r r r r r r r<|cI (fr':=[(0,.box 0 0),(2,.box 1 0),(3,.box 2 0),(5,.box 2 3),(13,.ptrs [(2,0),(2,1),(2,2),(2,3),(2,4),(2,5),(2,6)]),(14,aI),(15,aI)]) r<|cA<|bT<|aT<|aQ r (nH (dR r r) (show _=.int .i64 (4:Int) from r))<|mI r<|cI (fr':=[(0,.box 0 0),(2,.box 1 0),(3,.box 2 0),(5,.box 2 3),(13,.ptrs [(2,0),(2,1),(2,2),(2,3),(2,4),(2,5),(2,6)]),(14,aI),(15,aI)]) r<|fM<|mN<|aN ?_
 refine aT<|aQ r (nH (dU r r) (show _=.bool true from r))<|aF (fr':=[(0,.box 0 0),(2,.box 1 0),(3,.box 2 0),(13,.ptrs [(2,0),(2,1),(2,2),(2,3),(2,4),(2,5),(2,6)]),(14,aI),(15,aI),(16,aB)]) r r<|aN<|eL r<|bA<|bT<|aN<|bK<|aJ<|aQ r (gJ (p:=(2,4)) kA r r r)<|aQ r (eE kY r) ?_
 refine sV (v:=.box 2 4) r<|aF (fr':=[(0,.box 0 0),(2,.box 1 0),(3,.box 2 0),(5,.box 2 4),(13,.ptrs [(2,0),(2,1),(2,2),(2,3),(2,4),(2,5),(2,6)]),(14,aI),(15,aI)]) r r<|aT<|mV (v:=.box 2 4) r<|mV (v:=.box 0 0) r ?_
 obtain ⟨x9,hx9,h10⟩:=aE h8
 refine dK (v:=aI) (σ':=[bV,aA,aA]) [0] r (dV hx9) r r ⟨lr,lr,lr,trivial⟩ (eM ⟨r,r,r,r,trivial⟩ aC) r r r<|aQ r (eQ r)<|bO (v:=aI) (us:=[aI]) (cs:=aA) (σ':=[bV,aA,aA]) r fC r r r r r r r r<|cI (fr':=[(0,.box 0 0),(2,.box 1 0),(3,.box 2 0),(5,.box 2 4),(13,.ptrs [(2,0),(2,1),(2,2),(2,3),(2,4),(2,5),(2,6)]),(14,aI),(15,aI)]) r<|cA<|bT<|aT<|aQ r (nH (dR r r) (show _=.int .i64 (5:Int) from r))<|mI r<|cI (fr':=[(0,.box 0 0),(2,.box 1 0),(3,.box 2 0),(5,.box 2 4),(13,.ptrs [(2,0),(2,1),(2,2),(2,3),(2,4),(2,5),(2,6)]),(14,aI),(15,aI)]) r<|fM<|mN<|aN ?_
 refine aT<|aQ r (nH (dU r r) (show _=.bool true from r))<|aF (fr':=[(0,.box 0 0),(2,.box 1 0),(3,.box 2 0),(13,.ptrs [(2,0),(2,1),(2,2),(2,3),(2,4),(2,5),(2,6)]),(14,aI),(15,aI),(16,aB)]) r r<|aN<|eL r<|bA<|bT<|aN<|bK<|aJ<|aQ r (gJ (p:=(2,5)) kA r r r)<|aQ r (eE kY r) ?_
 refine sV (v:=.box 2 5) r<|aF (fr':=[(0,.box 0 0),(2,.box 1 0),(3,.box 2 0),(5,.box 2 5),(13,.ptrs [(2,0),(2,1),(2,2),(2,3),(2,4),(2,5),(2,6)]),(14,aI),(15,aI)]) r r<|aT<|mV (v:=.box 2 5) r<|mV (v:=.box 0 0) r ?_
 obtain ⟨x11,hx11,h12⟩:=aE h10
 refine dK (v:=aI) (σ':=[bV,aA,aA]) [0] r (dV hx11) r r ⟨lr,lr,lr,trivial⟩ (eM ⟨r,r,r,r,trivial⟩ aC) r r r<|aQ r (eQ r)<|bO (v:=aI) (us:=[aI]) (cs:=aA) (σ':=[bV,aA,aA]) r fC r r r r r r r r<|cI (fr':=[(0,.box 0 0),(2,.box 1 0),(3,.box 2 0),(5,.box 2 5),(13,.ptrs [(2,0),(2,1),(2,2),(2,3),(2,4),(2,5),(2,6)]),(14,aI),(15,aI)]) r<|cA<|bT<|aT<|aQ r (nH (dR r r) (show _=.int .i64 (6:Int) from r))<|mI r<|cI (fr':=[(0,.box 0 0),(2,.box 1 0),(3,.box 2 0),(5,.box 2 5),(13,.ptrs [(2,0),(2,1),(2,2),(2,3),(2,4),(2,5),(2,6)]),(14,aI),(15,aI)]) r<|fM<|mN<|aN ?_
 refine aT<|aQ r (nH (dU r r) (show _=.bool true from r))<|aF (fr':=[(0,.box 0 0),(2,.box 1 0),(3,.box 2 0),(13,.ptrs [(2,0),(2,1),(2,2),(2,3),(2,4),(2,5),(2,6)]),(14,aI),(15,aI),(16,aB)]) r r<|aN<|eL r<|bA<|bT<|aN<|bK<|aJ<|aQ r (gJ (p:=(2,6)) kA r r r)<|aQ r (eE kY r) ?_
 refine sV (v:=.box 2 6) r<|aF (fr':=[(0,.box 0 0),(2,.box 1 0),(3,.box 2 0),(5,.box 2 6),(13,.ptrs [(2,0),(2,1),(2,2),(2,3),(2,4),(2,5),(2,6)]),(14,aI),(15,aI)]) r r<|aT<|mV (v:=.box 2 6) r<|mV (v:=.box 0 0) r ?_
 obtain ⟨x13,hx13,h14⟩:=aE h12
 refine dK (v:=aI) (σ':=[bV,aA,aA]) [0] r (dV hx13) r r ⟨lr,lr,lr,trivial⟩ (eM ⟨r,r,r,r,trivial⟩ aC) r r r<|aQ r (eQ r)<|bO (v:=aI) (us:=[aI]) (cs:=aA) (σ':=[bV,aA,aA]) r fC r r r r r r r r<|cI (fr':=[(0,.box 0 0),(2,.box 1 0),(3,.box 2 0),(5,.box 2 6),(13,.ptrs [(2,0),(2,1),(2,2),(2,3),(2,4),(2,5),(2,6)]),(14,aI),(15,aI)]) r<|cA<|bT<|aT<|aQ r (nH (dR r r) (show _=.int .i64 (7:Int) from r))<|mI r<|cI (fr':=[(0,.box 0 0),(2,.box 1 0),(3,.box 2 0),(5,.box 2 6),(13,.ptrs [(2,0),(2,1),(2,2),(2,3),(2,4),(2,5),(2,6)]),(14,aI),(15,aI)]) r<|fM<|mN<|aN ?_
 refine aT<|aQ r (nH (dU r r) (show _=.bool false from r))<|aF (fr':=[(0,.box 0 0),(2,.box 1 0),(3,.box 2 0),(13,.ptrs [(2,0),(2,1),(2,2),(2,3),(2,4),(2,5),(2,6)]),(14,aI),(15,aI),(16,aB)]) r r<|aN<|wZ r<|fJ<|bY<|bY<|eC<|bT<|aJ<|mV (v:=.box 0 0) r ?_
 obtain ⟨x15,hx15,h16⟩:=aE h14
 refine dK (v:=aS) (σ':=[bV,aA,aA]) [0] r (gX hx15) r r ⟨lr,lr,trivial⟩ (eM ⟨r,r,r,r,trivial⟩ aC) r r r<|aQ r (bF rX r)<|bO (v:=aS) (us:=[aS]) (cs:=aA) (σ':=[bV,aA,aA]) r nV r r r r r r r r<|aF (fr':=[(0,.box 0 0),(2,.box 1 0),(3,.box 2 0)]) r r<|aJ<|mV (v:=.box 0 0) r ?_
 obtain ⟨x17,hx17,h18⟩:=aE h16
 refine dK (v:=aS) (σ':=[bV,aA,aA]) [0] r (gX hx17) r r ⟨lr,lr,trivial⟩ (eM ⟨r,r,r,r,trivial⟩ aC) r r r<|aQ r (bF rY r)<|bO (v:=aS) (us:=[aS]) (cs:=aA) (σ':=[bV,aA,aA]) r nV r r r r r r r r<|aF (fr':=[(0,.box 0 0),(2,.box 1 0),(3,.box 2 0)]) r r<|aJ<|mV (v:=.box 0 0) r ?_
 obtain ⟨x19,hx19,h20⟩:=aE h18
 refine dK (v:=.agg bI) (σ':=[bV,aA,aA]) [0] r (aCY hx19) r r ⟨lr,trivial⟩ (eM ⟨r,r,r,r,trivial⟩ aC) r r r<|aQ r (bF uT r)<|bO (v:=.agg bI) (us:=bI) (cs:=aA) (σ':=[bV,aA,jD]) r fQ r r r r r r r r<|aF (fr':=[(0,.box 0 0),(2,.box 1 0),(3,.box 2 0)]) r r<|aJ<|mV (v:=.box 0 0) r ?_
 obtain ⟨x21,hx21,h22⟩:=aE h20
 refine dK (v:=.agg bU) (σ':=[bV,aA,jD]) [0] r (vC hx21) r r ⟨lr,trivial⟩ (eM ⟨r,r,r,r,trivial⟩ aC) r r r<|aQ r (bF rB r)<|bO (v:=.agg bU) (us:=bU) (cs:=jD) (σ':=[bV,aA,aH]) r xQ r r r r r r r r<|aF (fr':=[(0,.box 0 0),(2,.box 1 0),(3,.box 2 0)]) r r ?_
 obtain ⟨x23,hx23,h24⟩:=aE h22
 refine jX (fun j25=>x23=j25) (fun (j25:aG)=>([(0,.box 0 0),(2,.box 1 0),(3,.box 2 0)]:Fr)) (fun (j25:aG)=>([[.c (PV.ls 1 eD j25.b_),ci j25.at_,ci j25.err_,.c (.bool j25.made_)],[ci 0,ci 0,ci 0,ci 0,ci 0,ci 0,ci 0,.c (.str ([]:List UInt8)),.c (.str ([]:List UInt8)),ci 0,ci 0,.c (.str ([]:List UInt8)),AV.nil,AV.nil,.c (.str ([]:List UInt8)),ci 0,ci 0,ci 0,ci 0,ci 0,ci 0,ci 0,ci 0,AV.nil],[ci x1.1,ci x3.1,ci x5.1,ci x7.1,ci x9.1,ci x11.1,ci x13.1,.c (.str x15.1),.c (.str x17.1),ci x19.1.Kind,ci x19.1.Int,.c (.str x19.1.Text),.c (PV.ls 5 aZ x19.1.Items),.c (PV.ls 1 fD x19.1.Keys),.c (.str x21.1.Queue),ci x21.1.ToStart,ci x21.1.ToClose,ci x21.1.Total,ci x21.1.Beat,ci x21.1.First,ci x21.1.Coef,ci x21.1.Most,ci x21.1.Attempts,.c (PV.ls 1 fD x21.1.Fatal)]]:St)) ?_ ?_
 ·
  refine aJ<|mV (v:=.box 0 0) r ?_
  obtain ⟨x26,hx26,h27⟩:=aE hx23
  refine dK (v:=aI) (σ':=[bV,aA,aH]) [0] r (eB hx26) r r ⟨lr,trivial⟩ (eM ⟨r,r,r,r,trivial⟩ aC) r r r<|aQ r (bX r r)<|mB r<|og r r r (fun hc=>(dF (us:=aH) vO r r r r)) ?_
  obtain ⟨x28,hx28,h29⟩:=aE h27
  refine vQ r r (fun hc=>bG (v:=aB) r (yE (cV hx28 hc)) ⟨(fK (gx r hc) (bM r ⟨r,r,r,r,r,r,r,r,r,r,r,r,r,r,r,r,r,r,r,r,r,r,r,r,trivial⟩)),trivial⟩ (fT (by repeat (first | exact eK | refine aY r ?_ | refine aY (rI r) ?_ | refine aY rH ?_))) r r) ?_
  refine og r r r (fun hc=>(eU (gx r hc)))<|aQ r (bS r r r (fun e=>fG e))<|aF (fr':=[(0,.box 0 0),(2,.box 1 0),(3,.box 2 0),(43,aB)]) r r<|cC h29 r (fun hb30 h30=>?_) (fun hb30 h30=>?_)
  ·
   refine aT<|mV (v:=.box 0 0) r ?_
   obtain ⟨x31,hx31,h32⟩:=aE h30
   exact dK (v:=_) (σ':=[bV,aA,aH]) [0] r (lD hx31) r r ⟨lr,lr,trivial⟩ (eM ⟨r,r,r,r,trivial⟩ aC) r r r<|cI (fr':=[(0,.box 0 0),(2,.box 1 0),(3,.box 2 0),(43,aB)]) r<|lF _ (sy h32) (bJ [] 3 r r r r ⟨lr,lr,lr,trivial⟩ (cK r (cK r (cK r aC))))
  ·
   exact bA<|lF _ (sy h30) (bJ [] 3 r r r r ⟨lr,lr,lr,trivial⟩ (cK r (cK r (cK r aC))))
 ·
  intro j25 hj33
  subst hj33
  refine aN<|aJ<|mV (v:=.box 0 0) r ?_
  obtain ⟨x34,hx34,h35⟩:=aE h24
  refine dK (v:=aI) (σ':=[bV,aA,aH]) [0] r (eB hx34) r r ⟨lr,trivial⟩ (eM ⟨r,r,r,r,trivial⟩ aC) r r r<|aQ r (fU r r)<|aF (fr':=[(2,.box 1 0),(3,.box 2 0),(48,aB)]) r r<|cC h35 r (fun hb36 h36=>?_) (fun hb36 h36=>?_)
  ·
   refine aJ<|aQ r (rS (c0:=aA) (cs:=aA) aMM r rK)<|bO (v:=.agg aA) (us:=aA) (cs:=aA) (σ':=[bV,aA,aH]) r vO r r r r r r r r<|aF (fr':=[(2,.box 1 0)]) r r<|bE<|aK ?_
   obtain rfl:=sy h36
   exact bD (rs':=[.cell 2 30]) r<|dX (us:=aA) (cs:=aA) vO r r r r<|bC<|aR [] r r r (bM r ⟨r,r,r,r,r,r,r,r,r,r,r,r,⟨_,r⟩,⟨_,r⟩,r,r,r,r,r,r,r,r,r,⟨_,r⟩,trivial⟩) (eM ⟨r,r,r,r,trivial⟩ aC)
  ·
   refine bA<|bT<|aJ<|aQ r (dF (us:=aH) vO r r r r)<|bO (v:=.agg aH) (us:=aH) (cs:=aA) (σ':=[bV,aH,aH]) r vO r r r r r r r r<|aF (fr':=[(2,.box 1 0)]) r r<|bE ?_
   obtain rfl:=sy h36
   exact bD (rs':=[.cell 2 30]) r<|dX (us:=aH) (cs:=aH) vO r r r r<|bC<|aR [] r r r (bM r ⟨r,r,r,r,r,r,r,r,r,r,r,r,r,r,r,r,r,r,r,r,r,r,r,r,trivial⟩) (eM ⟨r,r,r,r,trivial⟩ aC)
noncomputable def jH (cQ:aG):Option Int :=
 (dS cQ).bind fun x1=>cond (!decide (x1=(0:Int))) (some x1) (cond (decide (cQ.at_<((cQ.b_).length:Int))) (some (3:Int)) (some (0:Int)))
theorem aAw {cQ:aG}{res:Int} (h:jH cQ=some res):bR Tryz.prog 65 [.box 0 0] [AV.cs (cN cQ)] (ci res) [AV.cs (cN cQ)]:=by
 unfold jH at h
 refine cP (fn:=Tryz.f65) [0,2,3,7,18] (by kernel_rfl) Tryz.func65 r (by kernel_rfl) (by kernel_rfl)<|aJ<|sI r<|aF (fr':=[(0,.box 0 0)]) r r<|aN<|aJ<|mV (v:=.box 0 0) r ?_
 obtain ⟨x1,hx1,h2⟩:=aE h
 refine dK (v:=aI) (σ':=[bV]) [0] r (eB hx1) r r ⟨lr,trivial⟩ (eM ⟨r,r,r,r,trivial⟩ aC) r r r<|sI r<|aF (fr':=[(0,.box 0 0),(3,aI)]) r r<|aJ<|mI r<|aQ r (fU r r)<|aF (fr':=[(0,.box 0 0),(3,aI),(7,aB)]) r r<|cC h2 r (fun hb3 h3=>?_) (fun hb3 h3=>?_)
 ·
  refine aJ<|mI r<|sI r<|aF (fr':=[(2,aI)]) r r<|bE<|aK ?_
  obtain rfl:=sy h3
  exact bD (rs':=[.tmp 2]) r<|bL (v:=aI) r<|bC<|aR [] r r r lr (cK r aC)
 ·
  refine bA<|bT<|aN<|aN<|gP [.q 0,.q 1,.q 2,.q 3,.q 4,.q 5,.q 6,.q 7,.q 8,.q 9] [(some 9,[0]),(some 10,[9]),(some 11,[10]),(some 12,[11]),(some 13,[0]),(some 14,[13]),(some 15,[14]),(some 16,[15]),(some 17,[16]),(some 18,[12,17])] [0,1,3,7,0,16,48,112,240,511] (by kernel_rfl)<|dq r r (aU (v:=.box 0 0) r)<|dq r r (eQ r)<|dq r r (bF uU r)<|dq r r (aP (v:=aI) fC r r r)<|dq r r (aU (v:=.box 0 0) r)<|dq r r (eQ r)<|dq r r (bF aEN r)<|dq r r (aP (v:=aL) aLA r r r) ?_
  refine dq r r (eX yW (cZ r))<|dq r r (dU r r)<|tB (fr':=[(18,aB)]) r r<|cC h3 r (fun hb5 h5=>?_) (fun hb5 h5=>?_)
  ·
   refine aJ<|sI r<|aF (fr':=[(2,aI)]) r r<|bE<|aK ?_
   obtain rfl:=sy h5
   exact bD (rs':=[.tmp 2]) r<|bL (v:=aI) r<|bC<|aR [] r r r lr (cK r aC)
  ·
   refine bA<|bT<|aJ<|sI r<|aF (fr':=[(2,aI)]) r r<|bE ?_
   obtain rfl:=sy h5
   exact bD (rs':=[.tmp 2]) r<|bL (v:=aI) r<|bC<|aR [] r r r lr (cK r aC)
noncomputable def iB (x28:(Int × aG)) (s33:((List aV) × Int × aG)):Option (cD ((List aV) × Int × aG) ((List aV) × aG)) :=
 cond (decide (s33.2.1<x28.1)) ((kH s33.2.2).bind fun x35=>(app 272 s33.1 ([x35.1]:List aV)).bind fun x37=>(dS x35.2).bind fun x39=>cond (!decide (x39=(0:Int))) (some (cD.out (x37,x35.2))) (some (cD.next (x37,(IntKind.wrap .i64 (s33.2.1+(1:Int))),x35.2)))) (some (cD.out (s33.1,s33.2.2)))
noncomputable def dY (p0b:(List UInt8)):Option ((List aV) × Int) :=
 cond (decide (((p0b).length:Int)<(4:Int))) (some (([]:(List aV)),(4:Int))) ((aKe p0b (IntKind.wrap .i64 (((p0b).length:Int) - (4:Int)))).bind fun x3=>(gU (List.take (Int.toNat (IntKind.wrap .i64 (((p0b).length:Int) - (4:Int)))) p0b)).bind fun x5=>(aKf p0b (IntKind.wrap .i64 (((p0b).length:Int) - (4:Int)))).bind fun x7=>(aD2 4 (List.drop (Int.toNat (IntKind.wrap .i64 (((p0b).length:Int) - (4:Int)))) p0b)).bind fun x9=>(gR (List.drop (Int.toNat (IntKind.wrap .i64 (((p0b).length:Int) - (4:Int)))) p0b) (0:Int)).bind fun x11=>(gR (List.drop (Int.toNat (IntKind.wrap .i64 (((p0b).length:Int) - (4:Int)))) p0b) (1:Int)).bind fun x12=>(gR (List.drop (Int.toNat (IntKind.wrap .i64 (((p0b).length:Int) - (4:Int)))) p0b) (2:Int)).bind fun x13=>(gR (List.drop (Int.toNat (IntKind.wrap .i64 (((p0b).length:Int) - (4:Int)))) p0b) (3:Int)).bind fun x14=>cond (!(decide (x5.E0=((x11).toNat:Int))&&(decide (x5.E1=((x12).toNat:Int))&&(decide (x5.E2=((x13).toNat:Int))&&(decide (x5.E3=((x14).toNat:Int))&&true))))) (some (([]:(List aV)),(5:Int))) ((aKe p0b (IntKind.wrap .i64 (((p0b).length:Int) - (4:Int)))).bind fun x21=>(pP (List.take (Int.toNat (IntKind.wrap .i64 (((p0b).length:Int) - (4:Int)))) p0b)).bind fun x23=>(((dG (0:Int) (2000:Int) x23).bind fun x28=>((dO (iB x28) ((([]:(List aV)),(0:Int),x28.2))):Option ((List aV) × aG)).bind fun x30=>(some (x30.1,x30.2))):Option ((List aV) × aG)).bind fun x25=>((jH x25.2).bind fun x46=>cond (!decide (x46=(0:Int))) (some (([]:(List aV)),x46)) (some (x25.1,(0:Int))))))
theorem nG {p0b:(List UInt8)}{res:((List aV) × Int)} (h:dY p0b=some res):bR Tryz.prog 22 [.c (PV.ls 1 eD p0b)] [] (.tup [AV.os 0 24 bZ res.1,ci res.2]) []:=by
 unfold dY at h
 refine cP (fn:=Tryz.f22) [0,2,3,4,5,6,7,10,23,29,30,31,39,44] (by kernel_rfl) Tryz.func22 r (by kernel_rfl) (by kernel_rfl)<|aJ<|sV (v:=AV.nil) r<|sI r<|aF (fr':=[(0,aL)]) r r<|aN<|aJ<|mL r<|aQ r (eX yW (cZ r))<|aQ r (dU r r)<|aF (fr':=[(0,aL),(10,aB)]) r r ?_
 refine cC h r (fun hb1 h1=>?_) (fun hb1 h1=>?_)
 ·
  refine aJ<|sV (v:=AV.nil) r<|sI r<|aF (fr':=[(2,AV.nil),(3,aI)]) r r<|bE<|aK ?_
  obtain rfl:=sy h1
  exact bD (rs':=[.tmp 2,.tmp 3]) r<|bL (v:=AV.nil) r<|bL (v:=aI) r<|bC<|aR [1000000] r r r (uC r ⟨(tE r),lr,trivial⟩) aC
 ·
  refine bA<|bT<|aJ<|mL r<|aQ r (eX yW (cZ r))<|aQ r (aHD r r)<|sI r<|aF (fr':=[(0,aL),(4,aI)]) r r<|aN<|aN<|gP [.q 0,.q 1,.q 2,.q 3,.q 4,.q 5,.q 6,.q 7,.q 8,.q 9] [(some 14,[0]),(some 15,[4]),(some 16,[14,15]),(some 17,[16]),(some 18,[0]),(some 19,[4]),(some 20,[18,19]),(some 21,[20]),(some 22,[21]),(some 23,[17,22])] [0,0,3,7,0,0,48,112,240,511] (by kernel_rfl)<|dq r r (aU (v:=aL) r) ?_
  refine dq r r (aU (v:=aI) r) ?_
  obtain ⟨x3,hx3,h4⟩:=aE h1
  refine dq r r (aJV aKj uV (cZ r) r (aDZ hx3).1) ?_
  obtain ⟨x5,hx5,h6⟩:=aE h4
  refine d_q r (aBP (v:=.agg oI) r (qL hx5) ⟨lr,trivial⟩ r)<|dq r r (aU (v:=aL) r)<|dq r r (aU (v:=aI) r) ?_
  obtain ⟨x7,hx7,h8⟩:=aE h6
  refine dq r r (aJW aKj uV (cZ r) r (aD0 hx7).1) ?_
  obtain ⟨x9,hx9,h10⟩:=aE h8
  refine dq r r (aNf aMK (cZ r) hx9) ?_
  obtain ⟨x11,hx11,h15⟩:=aE h10
  obtain ⟨x12,hx12,h16⟩:=aE h15
  obtain ⟨x13,hx13,h17⟩:=aE h16
  obtain ⟨x14,hx14,h18⟩:=aE h17
  refine dq r r (aK5 aKl r hx11 hx12 hx13 hx14)<|dq r r (aMr aM4 aKl aNQ r r r r)<|tB (fr':=[(0,aL),(4,aI),(23,aB)]) r r<|cC h18 r (fun hb19 h19=>?_) (fun hb19 h19=>?_)
  ·
   refine aJ<|sV (v:=AV.nil) r<|sI r<|aF (fr':=[(2,AV.nil),(3,aI)]) r r<|bE<|aK ?_
   obtain rfl:=sy h19
   exact bD (rs':=[.tmp 2,.tmp 3]) r<|bL (v:=AV.nil) r<|bL (v:=aI) r<|bC<|aR [1000000] r r r (uC r ⟨(tE r),lr,trivial⟩) aC
  ·
   refine bA<|bT<|aJ<|mL r<|mI r ?_
   obtain ⟨x21,hx21,h22⟩:=aE h19
   refine aQ r (aJV aKj uV (cZ r) r (aDZ hx21).1) ?_
   obtain ⟨x23,hx23,h24⟩:=aE h22
   refine dK (v:=.box 0 0) (σ':=[bV]) [] r (aGd hx23) r r ⟨lr,trivial⟩ aC r r r<|sV (v:=.box 0 0) r<|aF (fr':=[(5,.box 0 0)]) r r<|aJ<|sV (v:=AV.nil) r<|aF (fr':=[(5,.box 0 0),(6,AV.nil)]) r r ?_
   obtain ⟨x25,hx25,h26⟩:=aE h24
   refine jX (fun j27=>x25=j27) (fun (j27:((List aV) × aG))=>([(5,.box 0 0),(6,AV.os 0 24 bZ j27.1)]:Fr)) (fun (j27:((List aV) × aG))=>([[.c (PV.ls 1 eD j27.2.b_),ci j27.2.at_,ci j27.2.err_,.c (.bool j27.2.made_)]]:St)) ?_ ?_
   ·
    refine aJ<|mV (v:=.box 0 0) r ?_
    obtain ⟨x28,hx28,h29⟩:=aE hx25
    refine dK (v:=aI) (σ':=[bV]) [0] r (dV hx28) r r ⟨lr,lr,lr,trivial⟩ (eM ⟨r,r,r,r,trivial⟩ aC) r r r<|mI r<|aF (fr':=[(5,.box 0 0),(6,AV.nil),(29,aI),(30,aI)]) r r ?_
    obtain ⟨x30,hx30,h31⟩:=aE h29
    refine fI aNO (fun j32=>x30=j32) (fun (j32:((List aV) × aG))=>([(5,.box 0 0),(6,AV.os 0 24 bZ j32.1)]:Fr)) (fun (j32:((List aV) × aG))=>([[.c (PV.ls 1 eD j32.2.b_),ci j32.2.at_,ci j32.2.err_,.c (.bool j32.2.made_)]]:St)) ?_ ?_
    ·
     refine bK<|fB _ (fun (s33:((List aV) × Int × aG))=>([(5,.box 0 0),(6,AV.os 0 24 bZ s33.1),(29,ci x28.1),(30,ci s33.2.1)]:Fr)) (fun (s33:((List aV) × Int × aG))=>([[.c (PV.ls 1 eD s33.2.2.b_),ci s33.2.2.at_,ci s33.2.2.err_,.c (.bool s33.2.2.made_)]]:St)) hx30 (bJ [1000000] 1 r r r r ⟨lr,(tE r),lr,lr,trivial⟩ (cK r aC)) ?_
     intro s33 st33 hs33 ho33
     unfold iB at hs33
     refine aJ<|aQ r (dU r r)<|aF (fr':=[(5,.box 0 0),(6,aO),(29,aI),(30,aI),(31,aB)]) r r<|aN<|cC hs33 r (fun hb34 h34=>?_) (fun hb34 h34=>?_)
     ·
      refine bA<|bT<|aN<|bK<|aJ<|mV (v:=aO) r<|mV (v:=.box 0 0) r ?_
      obtain ⟨x35,hx35,h36⟩:=aE h34
      refine dK (v:=.agg aH) (σ':=[bV]) [0] r (zB hx35) r r ⟨lr,trivial⟩ (eM ⟨r,r,r,r,trivial⟩ aC) r r r<|rP (row:=bZ) (xs:=([x35.1]:List aV)) (rows:=[[_,_,_,_,_,_,_,_,_,_,_,_,_,_,_,_,_,_,_,_,_,_,_,_]]) (σ':=[bV]) [0,0,0,0,0,0,0,0,0,0,0,0,5,1,0,0,0,0,0,0,0,0,0,1] aHc r r r (fR r mD) r r ?_
      obtain ⟨x37,hx37,h38⟩:=aE h36
      refine aBd (row:=bZ) aHc r aF6 r (qF r) (fun _=>r) hx37<|sV (v:=aO) r<|aF (fr':=[(5,.box 0 0),(6,aO),(29,aI),(30,aI)]) r r<|aJ<|mV (v:=.box 0 0) r ?_
      obtain ⟨x39,hx39,h40⟩:=aE h38
      refine dK (v:=aI) (σ':=[bV]) [0] r (eB hx39) r r ⟨lr,trivial⟩ (eM ⟨r,r,r,r,trivial⟩ aC) r r r<|aQ r (fU r r)<|aF (fr':=[(5,.box 0 0),(6,aO),(29,aI),(30,aI),(39,aB)]) r r<|cC h40 r (fun hb41 h41=>?_) (fun hb41 h41=>?_)
      ·
       refine fJ<|aKL r<|bY<|bY<|eC ?_
       have h42:=dN h41 ho33
       exact lF _ (sy h42) (bJ [576] 1 r r r r ⟨lr,lr,trivial⟩ (cK r aC))
      ·
       exact bA<|cA<|bT<|aT<|aQ r (dR r r)<|mI r<|cI (fr':=[(5,.box 0 0),(6,aO),(29,aI),(30,aI),(39,aB)]) r<|xG _ (sy h41) (bJ [576] 1 r r r r ⟨lr,lr,lr,lr,trivial⟩ (cK r aC))
     ·
      refine fJ<|bY<|bY<|eC ?_
      have h43:=dN h34 ho33
      exact lF _ (sy h43) (bJ [0] 1 r r r r ⟨lr,lr,trivial⟩ (cK r aC))
    ·
     intro j32 hj44
     subst hj44
     exact lF _ (sy h31) (bJ [0] 1 r r r r ⟨lr,lr,trivial⟩ (cK r aC))
   ·
    intro j27 hj45
    subst hj45
    refine aN<|aJ<|mV (v:=.box 0 0) r ?_
    obtain ⟨x46,hx46,h47⟩:=aE h26
    refine dK (v:=aI) (σ':=[bV]) [0] r (aAw hx46) r r ⟨lr,trivial⟩ (eM ⟨r,r,r,r,trivial⟩ aC) r r r<|sI r<|aF (fr':=[(6,aO),(7,aI)]) r r<|aJ<|mI r<|aQ r (fU r r)<|aF (fr':=[(6,aO),(7,aI),(44,aB)]) r r<|cC h47 r (fun hb48 h48=>?_) (fun hb48 h48=>?_)
    ·
     refine aJ<|mI r<|sV (v:=AV.nil) r<|sI r<|aF (fr':=[(2,AV.nil),(3,aI)]) r r<|bE<|aK ?_
     obtain rfl:=sy h48
     exact bD (rs':=[.tmp 2,.tmp 3]) r<|bL (v:=AV.nil) r<|bL (v:=aI) r<|bC<|aR [1000000] r r r (uC r ⟨(tE r),lr,trivial⟩) aC
    ·
     refine bA<|bT<|aJ<|mV (v:=aO) r<|sV (v:=aO) r<|sI r<|aF (fr':=[(2,aO),(3,aI)]) r r<|bE ?_
     obtain rfl:=sy h48
     exact bD (rs':=[.tmp 2,.tmp 3]) r<|bL (v:=aO) r<|bL (v:=aI) r<|bC<|aR [0] r r r (uC r ⟨lr,lr,trivial⟩) aC
noncomputable def pU (p0a:aD) (p1b:aD) (s6:Int):Option (cD Int (Fl Bool Unit)) :=
 cond (decide (s6<((p0a.Keys).length:Int))) ((gR p0a.Keys s6).bind fun x8=>(gR p1b.Keys s6).bind fun x10=>cond (!decide (x8=x10)) (some (cD.out (Fl.done false))) (some (cD.next (IntKind.wrap .i64 (s6+(1:Int)))))) (some (cD.out (Fl.go ())))
noncomputable def pV (aCx:aD→aD→Option Bool) (p0a:aD) (p1b:aD) (s21:Int):Option (cD Int (Fl Bool Unit)) :=
 cond (decide (s21<((p0a.Items).length:Int))) ((gR p0a.Items s21).bind fun x23=>(gR p1b.Items s21).bind fun x25=>(aCx x23 x25).bind fun x27=>cond (!x27) (some (cD.out (Fl.done false))) (some (cD.next (IntKind.wrap .i64 (s21+(1:Int)))))) (some (cD.out (Fl.go ())))
noncomputable def mO:Nat→aD→aD→Option Bool
 | 0,_,_=>none
 | n+1,p0a,p1b =>
  cond (cond (cond (cond (cond (!decide (p0a.Kind=p1b.Kind)) true (!decide (p0a.Int=p1b.Int))) true (!decide (p0a.Text=p1b.Text))) true (!decide (((p0a.Items).length:Int)=((p1b.Items).length:Int)))) true (!decide (((p0a.Keys).length:Int)=((p1b.Keys).length:Int)))) (some false) (((dO (pU p0a p1b) ((0:Int))):Option (Fl Bool Unit)).bind fun x3=>Fl.next x3 (fun j5=>(((dO (pV (mO n) p0a p1b) ((0:Int))):Option (Fl Bool Unit)).bind fun x18=>Fl.next x18 (fun j20=>(some true)))))
theorem aDp:∀ n:Nat,(∀ {p0a:aD}{p1b:aD}{res:Bool},mO n p0a p1b=some res→bR Tryz.prog 66 [.agg (AV.cs (dD p0a)),.agg (AV.cs (dD p1b))] [] (.c (.bool res)) []):=by
 intro n
 induction n with
 | zero=>exact fun {p0a p1b res} h=>absurd h (by simp [mO])
 | succ n ih =>
  have ih_ref02xSame:=@ih
  intro p0a p1b res h
  rw [mO] at h
  refine cP (fn:=Tryz.f66) [0,1,2,3,4,5,6,43,48,61,66,80] (by kernel_rfl) Tryz.func66 r (by kernel_rfl) (by kernel_rfl)<|aJ<|gH (v:=.agg bI) (n:=0) (cs:=bI) (σ':=[bI]) r r r r r<|gH (v:=.agg bI) (n:=1) (cs:=bI) (σ':=[bI,bI]) r r r r r<|sB r<|aF (fr':=[(2,.box 0 0),(3,.box 1 0)]) r r<|aN<|aJ<|aQ r (bF jE r)<|aQ r (aP (v:=aI) fC r r r)<|aQ r (bF jE r) ?_
  refine aQ r (aP (v:=aI) fC r r r)<|aQ r (fU r r)<|mB r<|og r r r (fun hc=>(bF pO r))<|og r r r (fun hc=>(aP (v:=aI) fC (gx r hc) r r))<|og r r r (fun hc=>(bF pO r))<|og r r r (fun hc=>(aP (v:=aI) fC (gx r hc) r r))<|og r r r (fun hc=>(fU (gx r hc) (gx r hc)))<|aQ r (cB r r r (fun e=>fG e))<|mB r<|og r r r (fun hc=>(bF qR r))<|og r r r (fun hc=>(aP (v:=aS) nV (gx r hc) r r))<|og r r r (fun hc=>(bF qR r)) ?_
  refine og r r r (fun hc=>(aP (v:=aS) nV (gx r hc) r r))<|og r r r (fun hc=>(yP (gx r hc) (gx r hc)))<|aQ r (cB r r r (fun e=>fG e))<|mB r<|og r r r (fun hc=>(bF gG r))<|og r r r (fun hc=>(aP (v:=aL) nR (gx r hc) r r))<|og r r r (fun hc=>(eX sJ (cZ (gx r hc))))<|og r r r (fun hc=>(bF gG r))<|og r r r (fun hc=>(aP (v:=aL) nR (gx r hc) r r))<|og r r r (fun hc=>(eX sJ (cZ (gx r hc))))<|og r r r (fun hc=>(fU (gx r hc) (gx r hc)))<|aQ r (cB r r r (fun e=>fG e))<|mB r ?_
  refine og r r r (fun hc=>(bF mR r))<|og r r r (fun hc=>(aP (v:=aL) nA (gx r hc) r r))<|og r r r (fun hc=>(eX rZ (cZ (gx r hc))))<|og r r r (fun hc=>(bF mR r))<|og r r r (fun hc=>(aP (v:=aL) nA (gx r hc) r r))<|og r r r (fun hc=>(eX rZ (cZ (gx r hc))))<|og r r r (fun hc=>(fU (gx r hc) (gx r hc)))<|aQ r (cB r r r (fun e=>fG e))<|aF (fr':=[(2,.box 0 0),(3,.box 1 0),(43,aB)]) r r<|cC h r (fun hb1 h1=>?_) (fun hb1 h1=>?_)
  ·
   refine aJ<|sB r<|aF (fr':=[(4,aB)]) r r<|bE<|aK ?_
   obtain rfl:=sy h1
   exact bD (rs':=[.tmp 4]) r<|bL (v:=aB) r<|bC<|aR [] r r r lr aC
  ·
   refine bA<|bT<|aN<|aJ<|sI r<|aF (fr':=[(2,.box 0 0),(3,.box 1 0),(5,aI)]) r r ?_
   obtain ⟨x3,hx3,h4⟩:=aE h1
   refine fI iV (fun j5=>x3=Fl.go j5) (fun (j5:Unit)=>([(2,.box 0 0),(3,.box 1 0)]:Fr)) (fun (j5:Unit)=>([[ci p0a.Kind,ci p0a.Int,.c (.str p0a.Text),.c (PV.ls 5 aZ p0a.Items),.c (PV.ls 1 fD p0a.Keys)],[ci p1b.Kind,ci p1b.Int,.c (.str p1b.Text),.c (PV.ls 5 aZ p1b.Items),.c (PV.ls 1 fD p1b.Keys)]]:St)) ?_ ?_
   ·
    refine bK<|fB _ (fun (s6:Int)=>([(2,.box 0 0),(3,.box 1 0),(5,ci s6)]:Fr)) (fun (s6:Int)=>([[ci p0a.Kind,ci p0a.Int,.c (.str p0a.Text),.c (PV.ls 5 aZ p0a.Items),.c (PV.ls 1 fD p0a.Keys)],[ci p1b.Kind,ci p1b.Int,.c (.str p1b.Text),.c (PV.ls 5 aZ p1b.Items),.c (PV.ls 1 fD p1b.Keys)]]:St)) hx3 (bJ [] 2 r r r r ⟨lr,lr,lr,trivial⟩ (cK r (cK r aC))) ?_
    intro s6 st6 hs6 ho6
    unfold pU at hs6
    refine aN<|aJ<|mI r<|aQ r (bF mR r)<|aQ r (aP (v:=aL) nA r r r)<|aQ r (eX rZ (cZ r))<|aQ r (dU r r)<|aF (fr':=[(2,.box 0 0),(3,.box 1 0),(5,aI),(48,aB)]) r r<|cC hs6 r (fun hb7 h7=>?_) (fun hb7 h7=>?_)
    ·
     refine bA<|bT<|aN<|bK<|aN<|gP [.q 0,.q 1,.q 2,.q 3,.q 4,.q 5,.q 6,.q 7,.q 8,.q 9,.q 10] [(some 51,[2]),(some 52,[51]),(some 53,[5]),(some 54,[52,53]),(some 55,[54]),(some 56,[3]),(some 57,[56]),(some 58,[5]),(some 59,[57,58]),(some 60,[59]),(some 61,[55,60])] [0,1,0,7,15,0,32,0,224,480,1023] (by kernel_rfl)<|dq r r (bF mR r)<|dq r r (aP (v:=aL) nA r r r)<|dq r r (aU (v:=aI) r) ?_
     obtain ⟨x8,hx8,h9⟩:=aE h7
     refine dq r r (jS (cs:=[PV.str _]) uW (cZ r) r hx8 r)<|dq r r (fV (p:=PV.str _) nV r r)<|dq r r (bF mR r)<|dq r r (aP (v:=aL) nA r r r)<|dq r r (aU (v:=aI) r) ?_
     obtain ⟨x10,hx10,h11⟩:=aE h9
     refine dq r r (jS (cs:=[PV.str _]) uW (cZ r) r hx10 r)<|dq r r (fV (p:=PV.str _) nV r r)<|dq r r (yP r r)<|tB (fr':=[(2,.box 0 0),(3,.box 1 0),(5,aI),(61,aB)]) r r<|cC h11 r (fun hb12 h12=>?_) (fun hb12 h12=>?_)
     ·
      refine aJ<|sB r<|aF (fr':=[(4,aB)]) r r<|bE<|bB<|aK<|aK<|bB<|aK<|aK ?_
      have h13:=dN h12 ho6
      have h14:=eA h13 h4
      obtain rfl:=sy h14
      exact bD (rs':=[.tmp 4]) r<|bL (v:=aB) r<|bC<|aR [] r r r lr aC
     ·
      exact bA<|cA<|bT<|aT<|mI r<|aQ r (dR r r)<|sI r<|cI (fr':=[(2,.box 0 0),(3,.box 1 0),(5,aI),(61,aB)]) r<|xG _ (sy h12) (bJ [] 2 r r r r ⟨lr,lr,lr,trivial⟩ (cK r (cK r aC)))
    ·
     refine fJ<|bY<|bY<|eC ?_
     have h16:=dN h7 ho6
     exact lF _ (sy h16) (bJ [] 2 r r r r ⟨lr,lr,trivial⟩ (cK r (cK r aC)))
   ·
    intro j5 hj17
    have h17:=kN hj17 h4
    refine bT<|aN<|aJ<|sI r<|aF (fr':=[(2,.box 0 0),(3,.box 1 0),(6,aI)]) r r ?_
    obtain ⟨x18,hx18,h19⟩:=aE h17
    refine fI iV (fun j20=>x18=Fl.go j20) (fun (j20:Unit)=>([]:Fr)) (fun (j20:Unit)=>([[ci p0a.Kind,ci p0a.Int,.c (.str p0a.Text),.c (PV.ls 5 aZ p0a.Items),.c (PV.ls 1 fD p0a.Keys)],[ci p1b.Kind,ci p1b.Int,.c (.str p1b.Text),.c (PV.ls 5 aZ p1b.Items),.c (PV.ls 1 fD p1b.Keys)]]:St)) ?_ ?_
    ·
     refine bK<|fB _ (fun (s21:Int)=>([(2,.box 0 0),(3,.box 1 0),(6,ci s21)]:Fr)) (fun (s21:Int)=>([[ci p0a.Kind,ci p0a.Int,.c (.str p0a.Text),.c (PV.ls 5 aZ p0a.Items),.c (PV.ls 1 fD p0a.Keys)],[ci p1b.Kind,ci p1b.Int,.c (.str p1b.Text),.c (PV.ls 5 aZ p1b.Items),.c (PV.ls 1 fD p1b.Keys)]]:St)) hx18 (bJ [] 2 r r r r ⟨lr,lr,lr,trivial⟩ (cK r (cK r aC))) ?_
     intro s21 st21 hs21 ho21
     unfold pV at hs21
     refine aN<|aJ<|mI r<|aQ r (bF gG r)<|aQ r (aP (v:=aL) nR r r r)<|aQ r (eX sJ (cZ r))<|aQ r (dU r r)<|aF (fr':=[(2,.box 0 0),(3,.box 1 0),(6,aI),(66,aB)]) r r<|cC hs21 r (fun hb22 h22=>?_) (fun hb22 h22=>?_)
     ·
      refine bA<|bT<|aN<|bK<|aN<|gP [.q 0,.q 1,.q 2,.q 3,.q 4,.q 5,.q 6,.q 7,.q 8,.q 9,.q 10,.q 11] [(some 69,[2]),(some 70,[69]),(some 71,[6]),(some 72,[70,71]),(some 73,[72]),(some 74,[3]),(some 75,[74]),(some 76,[6]),(some 77,[75,76]),(some 78,[77]),(some 79,[73,78]),(some 80,[79])] [0,1,0,7,15,0,32,0,224,480,1023,2047] (by kernel_rfl)<|dq r r (bF gG r)<|dq r r (aP (v:=aL) nR r r r)<|dq r r (aU (v:=aI) r) ?_
      obtain ⟨x23,hx23,h24⟩:=aE h22
      refine dq r r (jS (cs:=[PV.int _ _,PV.int _ _,PV.str _,PV.ls _ _ _,PV.ls _ _ _]) sK (cZ r) r hx23 (dA _))<|dq r r (iL (us:=[PV.int _ _,PV.int _ _,PV.str _,PV.ls _ _ _,PV.ls _ _ _]) fQ r r r)<|dq r r (bF gG r)<|dq r r (aP (v:=aL) nR r r r)<|dq r r (aU (v:=aI) r) ?_
      obtain ⟨x25,hx25,h26⟩:=aE h24
      refine dq r r (jS (cs:=[PV.int _ _,PV.int _ _,PV.str _,PV.ls _ _ _,PV.ls _ _ _]) sK (cZ r) r hx25 (dA _))<|dq r r (iL (us:=[PV.int _ _,PV.int _ _,PV.str _,PV.ls _ _ _,PV.ls _ _ _]) fQ r r r) ?_
      obtain ⟨x27,hx27,h28⟩:=aE h26
      refine d_q r (aBP (v:=aB) r (ih_ref02xSame hx27) ⟨(bM r ⟨r,r,r,r,r,trivial⟩),(bM r ⟨r,r,r,r,r,trivial⟩),trivial⟩ r)<|dq r r (eU r)<|tB (fr':=[(2,.box 0 0),(3,.box 1 0),(6,aI),(80,aB)]) r r<|cC h28 r (fun hb29 h29=>?_) (fun hb29 h29=>?_)
      ·
       refine aJ<|sB r<|aF (fr':=[(4,aB)]) r r<|bE<|bB<|aK<|aK<|bB<|aK<|aK ?_
       have h30:=dN h29 ho21
       have h31:=eA h30 h19
       obtain rfl:=sy h31
       exact bD (rs':=[.tmp 4]) r<|bL (v:=aB) r<|bC<|aR [] r r r lr aC
      ·
       exact bA<|cA<|bT<|aT<|mI r<|aQ r (dR r r)<|sI r<|cI (fr':=[(2,.box 0 0),(3,.box 1 0),(6,aI),(80,aB)]) r<|xG _ (sy h29) (bJ [] 2 r r r r ⟨lr,lr,lr,trivial⟩ (cK r (cK r aC)))
     ·
      refine fJ<|bY<|bY<|eC ?_
      have h33:=dN h22 ho21
      exact lF _ (sy h33) (bJ [] 2 r r r r trivial (cK r (cK r aC)))
    ·
     intro j20 hj34
     have h34:=kN hj34 h19
     refine bT<|aJ<|sB r<|aF (fr':=[(4,aB)]) r r<|bE ?_
     obtain rfl:=sy h34
     exact bD (rs':=[.tmp 4]) r<|bL (v:=aB) r<|bC<|aR [] r r r lr aC
noncomputable def yS (p0a:aD) (p1b:aD):Option Bool:=lim fun n=>mO n p0a p1b
theorem aEU {p0a:aD}{p1b:aD}{res:Bool} (h:yS p0a p1b=some res):bR Tryz.prog 66 [.agg (AV.cs (dD p0a)),.agg (AV.cs (dD p1b))] [] (.c (.bool res)) []:=by
 obtain ⟨n,hn⟩:=nM h
 exact (aDp n) hn
noncomputable def iM (p0a:bP) (p1b:bP) (s8:Int):Option (cD Int (Fl Bool Unit)) :=
 cond (decide (s8<((p0a.Fatal).length:Int))) ((gR p0a.Fatal s8).bind fun x10=>(gR p1b.Fatal s8).bind fun x12=>cond (!decide (x10=x12)) (some (cD.out (Fl.done false))) (some (cD.next (IntKind.wrap .i64 (s8+(1:Int)))))) (some (cD.out (Fl.go ())))
noncomputable def kM (p0a:bP) (p1b:bP):Option Bool :=
 cond (cond (cond (cond (cond (!decide (p0a.Queue=p1b.Queue)) true (!decide (p0a.ToStart=p1b.ToStart))) true (!decide (p0a.ToClose=p1b.ToClose))) true (!decide (p0a.Total=p1b.Total))) true (!decide (p0a.Beat=p1b.Beat))) (some false) (cond (cond (cond (cond (cond (!decide (p0a.First=p1b.First)) true (!decide (p0a.Coef=p1b.Coef))) true (!decide (p0a.Most=p1b.Most))) true (!decide (p0a.Attempts=p1b.Attempts))) true (!decide (((p0a.Fatal).length:Int)=((p1b.Fatal).length:Int)))) (some false) (((dO (iM p0a p1b) ((0:Int))):Option (Fl Bool Unit)).bind fun x5=>Fl.next x5 (fun j7=>(some true))))
theorem zD {p0a:bP}{p1b:bP}{res:Bool} (h:kM p0a p1b=some res):bR Tryz.prog 67 [.agg (AV.cs (gA p0a)),.agg (AV.cs (gA p1b))] [] (.c (.bool res)) []:=by
 unfold kM at h
 refine cP (fn:=Tryz.f67) [0,1,2,3,4,5,38,73,78,91] (by kernel_rfl) Tryz.func67 r (by kernel_rfl) (by kernel_rfl)<|aJ<|gH (v:=.agg bU) (n:=0) (cs:=bU) (σ':=[bU]) r r r r r<|gH (v:=.agg bU) (n:=1) (cs:=bU) (σ':=[bU,bU]) r r r r r<|sB r<|aF (fr':=[(2,.box 0 0),(3,.box 1 0)]) r r<|aN<|aJ<|aQ r (bF uR r)<|aQ r (aP (v:=aS) nV r r r)<|aQ r (bF uR r) ?_
 refine aQ r (aP (v:=aS) nV r r r)<|aQ r (yP r r)<|mB r<|og r r r (fun hc=>(bF aCG r))<|og r r r (fun hc=>(aP (v:=aI) fC (gx r hc) r r))<|og r r r (fun hc=>(bF aCG r))<|og r r r (fun hc=>(aP (v:=aI) fC (gx r hc) r r))<|og r r r (fun hc=>(fU (gx r hc) (gx r hc)))<|aQ r (cB r r r (fun e=>fG e))<|mB r<|og r r r (fun hc=>(bF aCH r))<|og r r r (fun hc=>(aP (v:=aI) fC (gx r hc) r r))<|og r r r (fun hc=>(bF aCH r)) ?_
 refine og r r r (fun hc=>(aP (v:=aI) fC (gx r hc) r r))<|og r r r (fun hc=>(fU (gx r hc) (gx r hc)))<|aQ r (cB r r r (fun e=>fG e))<|mB r<|og r r r (fun hc=>(bF aCI r))<|og r r r (fun hc=>(aP (v:=aI) fC (gx r hc) r r))<|og r r r (fun hc=>(bF aCI r))<|og r r r (fun hc=>(aP (v:=aI) fC (gx r hc) r r))<|og r r r (fun hc=>(fU (gx r hc) (gx r hc)))<|aQ r (cB r r r (fun e=>fG e))<|mB r<|og r r r (fun hc=>(bF aCJ r))<|og r r r (fun hc=>(aP (v:=aI) fC (gx r hc) r r)) ?_
 refine og r r r (fun hc=>(bF aCJ r))<|og r r r (fun hc=>(aP (v:=aI) fC (gx r hc) r r))<|og r r r (fun hc=>(fU (gx r hc) (gx r hc)))<|aQ r (cB r r r (fun e=>fG e))<|aF (fr':=[(2,.box 0 0),(3,.box 1 0),(38,aB)]) r r<|cC h r (fun hb1 h1=>?_) (fun hb1 h1=>?_)
 ·
  refine aJ<|sB r<|aF (fr':=[(4,aB)]) r r<|bE<|aK ?_
  obtain rfl:=sy h1
  exact bD (rs':=[.tmp 4]) r<|bL (v:=aB) r<|bC<|aR [] r r r lr aC
 ·
  refine bA<|bT<|aN<|aJ<|aQ r (bF aCK r)<|aQ r (aP (v:=aI) fC r r r)<|aQ r (bF aCK r)<|aQ r (aP (v:=aI) fC r r r)<|aQ r (fU r r)<|mB r<|og r r r (fun hc=>(bF aCL r))<|og r r r (fun hc=>(aP (v:=aI) fC (gx r hc) r r)) ?_
  refine og r r r (fun hc=>(bF aCL r))<|og r r r (fun hc=>(aP (v:=aI) fC (gx r hc) r r))<|og r r r (fun hc=>(fU (gx r hc) (gx r hc)))<|aQ r (cB r r r (fun e=>fG e))<|mB r<|og r r r (fun hc=>(bF aCM r))<|og r r r (fun hc=>(aP (v:=aI) fC (gx r hc) r r))<|og r r r (fun hc=>(bF aCM r))<|og r r r (fun hc=>(aP (v:=aI) fC (gx r hc) r r))<|og r r r (fun hc=>(fU (gx r hc) (gx r hc)))<|aQ r (cB r r r (fun e=>fG e))<|mB r<|og r r r (fun hc=>(bF aCN r)) ?_
  refine og r r r (fun hc=>(aP (v:=aI) fC (gx r hc) r r))<|og r r r (fun hc=>(bF aCN r))<|og r r r (fun hc=>(aP (v:=aI) fC (gx r hc) r r))<|og r r r (fun hc=>(fU (gx r hc) (gx r hc)))<|aQ r (cB r r r (fun e=>fG e))<|mB r<|og r r r (fun hc=>(bF mT r))<|og r r r (fun hc=>(aP (v:=aL) nA (gx r hc) r r))<|og r r r (fun hc=>(eX rZ (cZ (gx r hc))))<|og r r r (fun hc=>(bF mT r))<|og r r r (fun hc=>(aP (v:=aL) nA (gx r hc) r r))<|og r r r (fun hc=>(eX rZ (cZ (gx r hc))))<|og r r r (fun hc=>(fU (gx r hc) (gx r hc))) ?_
  refine aQ r (cB r r r (fun e=>fG e))<|aF (fr':=[(2,.box 0 0),(3,.box 1 0),(73,aB)]) r r<|cC h1 r (fun hb3 h3=>?_) (fun hb3 h3=>?_)
  ·
   refine aJ<|sB r<|aF (fr':=[(4,aB)]) r r<|bE<|aK ?_
   obtain rfl:=sy h3
   exact bD (rs':=[.tmp 4]) r<|bL (v:=aB) r<|bC<|aR [] r r r lr aC
  ·
   refine bA<|bT<|aN<|aJ<|sI r<|aF (fr':=[(2,.box 0 0),(3,.box 1 0),(5,aI)]) r r ?_
   obtain ⟨x5,hx5,h6⟩:=aE h3
   refine fI iV (fun j7=>x5=Fl.go j7) (fun (j7:Unit)=>([]:Fr)) (fun (j7:Unit)=>([[.c (.str p0a.Queue),ci p0a.ToStart,ci p0a.ToClose,ci p0a.Total,ci p0a.Beat,ci p0a.First,ci p0a.Coef,ci p0a.Most,ci p0a.Attempts,.c (PV.ls 1 fD p0a.Fatal)],[.c (.str p1b.Queue),ci p1b.ToStart,ci p1b.ToClose,ci p1b.Total,ci p1b.Beat,ci p1b.First,ci p1b.Coef,ci p1b.Most,ci p1b.Attempts,.c (PV.ls 1 fD p1b.Fatal)]]:St)) ?_ ?_
   ·
    refine bK<|fB _ (fun (s8:Int)=>([(2,.box 0 0),(3,.box 1 0),(5,ci s8)]:Fr)) (fun (s8:Int)=>([[.c (.str p0a.Queue),ci p0a.ToStart,ci p0a.ToClose,ci p0a.Total,ci p0a.Beat,ci p0a.First,ci p0a.Coef,ci p0a.Most,ci p0a.Attempts,.c (PV.ls 1 fD p0a.Fatal)],[.c (.str p1b.Queue),ci p1b.ToStart,ci p1b.ToClose,ci p1b.Total,ci p1b.Beat,ci p1b.First,ci p1b.Coef,ci p1b.Most,ci p1b.Attempts,.c (PV.ls 1 fD p1b.Fatal)]]:St)) hx5 (bJ [] 2 r r r r ⟨lr,lr,lr,trivial⟩ (cK r (cK r aC))) ?_
    intro s8 st8 hs8 ho8
    unfold iM at hs8
    refine aN<|aJ<|mI r<|aQ r (bF mT r)<|aQ r (aP (v:=aL) nA r r r)<|aQ r (eX rZ (cZ r))<|aQ r (dU r r)<|aF (fr':=[(2,.box 0 0),(3,.box 1 0),(5,aI),(78,aB)]) r r<|cC hs8 r (fun hb9 h9=>?_) (fun hb9 h9=>?_)
    ·
     refine bA<|bT<|aN<|bK<|aN<|gP [.q 0,.q 1,.q 2,.q 3,.q 4,.q 5,.q 6,.q 7,.q 8,.q 9,.q 10] [(some 81,[2]),(some 82,[81]),(some 83,[5]),(some 84,[82,83]),(some 85,[84]),(some 86,[3]),(some 87,[86]),(some 88,[5]),(some 89,[87,88]),(some 90,[89]),(some 91,[85,90])] [0,1,0,7,15,0,32,0,224,480,1023] (by kernel_rfl)<|dq r r (bF mT r)<|dq r r (aP (v:=aL) nA r r r)<|dq r r (aU (v:=aI) r) ?_
     obtain ⟨x10,hx10,h11⟩:=aE h9
     refine dq r r (jS (cs:=[PV.str _]) uW (cZ r) r hx10 r)<|dq r r (fV (p:=PV.str _) nV r r)<|dq r r (bF mT r)<|dq r r (aP (v:=aL) nA r r r)<|dq r r (aU (v:=aI) r) ?_
     obtain ⟨x12,hx12,h13⟩:=aE h11
     refine dq r r (jS (cs:=[PV.str _]) uW (cZ r) r hx12 r)<|dq r r (fV (p:=PV.str _) nV r r)<|dq r r (yP r r)<|tB (fr':=[(2,.box 0 0),(3,.box 1 0),(5,aI),(91,aB)]) r r<|cC h13 r (fun hb14 h14=>?_) (fun hb14 h14=>?_)
     ·
      refine aJ<|sB r<|aF (fr':=[(4,aB)]) r r<|bE<|bB<|aK<|aK<|bB<|aK<|aK ?_
      have h15:=dN h14 ho8
      have h16:=eA h15 h6
      obtain rfl:=sy h16
      exact bD (rs':=[.tmp 4]) r<|bL (v:=aB) r<|bC<|aR [] r r r lr aC
     ·
      exact bA<|cA<|bT<|aT<|mI r<|aQ r (dR r r)<|sI r<|cI (fr':=[(2,.box 0 0),(3,.box 1 0),(5,aI),(91,aB)]) r<|xG _ (sy h14) (bJ [] 2 r r r r ⟨lr,lr,lr,trivial⟩ (cK r (cK r aC)))
    ·
     refine fJ<|bY<|bY<|eC ?_
     have h18:=dN h9 ho8
     exact lF _ (sy h18) (bJ [] 2 r r r r trivial (cK r (cK r aC)))
   ·
    intro j7 hj19
    have h19:=kN hj19 h6
    refine bT<|aJ<|sB r<|aF (fr':=[(4,aB)]) r r<|bE ?_
    obtain rfl:=sy h19
    exact bD (rs':=[.tmp 4]) r<|bL (v:=aB) r<|bC<|aR [] r r r lr aC
noncomputable def pN (p0a:aV) (p1b:aV):Option Bool :=
 (gd ((cond (cond (cond (cond (cond (cond (cond (cond (decide (p0a.ID=p1b.ID)) (decide (p0a.Kind=p1b.Kind)) false) (decide (p0a.Time=p1b.Time)) false) (decide (p0a.Seq=p1b.Seq)) false) (decide (p0a.Ref=p1b.Ref)) false) (decide (p0a.N=p1b.N)) false) (decide (p0a.Code=p1b.Code)) false) (decide (p0a.Name=p1b.Name)) false) (decide (p0a.Key=p1b.Key)) false)==true) (yS p0a.Data p1b.Data)).bind fun x1=>(gd ((cond (cond (cond (cond (cond (cond (cond (cond (cond (decide (p0a.ID=p1b.ID)) (decide (p0a.Kind=p1b.Kind)) false) (decide (p0a.Time=p1b.Time)) false) (decide (p0a.Seq=p1b.Seq)) false) (decide (p0a.Ref=p1b.Ref)) false) (decide (p0a.N=p1b.N)) false) (decide (p0a.Code=p1b.Code)) false) (decide (p0a.Name=p1b.Name)) false) (decide (p0a.Key=p1b.Key)) false) x1 false)==true) (kM p0a.Opts p1b.Opts)).bind fun x3=>some (cond (cond (cond (cond (cond (cond (cond (cond (cond (cond (decide (p0a.ID=p1b.ID)) (decide (p0a.Kind=p1b.Kind)) false) (decide (p0a.Time=p1b.Time)) false) (decide (p0a.Seq=p1b.Seq)) false) (decide (p0a.Ref=p1b.Ref)) false) (decide (p0a.N=p1b.N)) false) (decide (p0a.Code=p1b.Code)) false) (decide (p0a.Name=p1b.Name)) false) (decide (p0a.Key=p1b.Key)) false) x1 false) x3 false)
theorem aEV {p0a:aV}{p1b:aV}{res:Bool} (h:pN p0a p1b=some res):bR Tryz.prog 23 [.agg (AV.cs (bZ p0a)),.agg (AV.cs (bZ p1b))] [] (.c (.bool res)) []:=by
 unfold pN at h
 refine cP (fn:=Tryz.f23) [0,1,2,3,4] (by kernel_rfl) Tryz.func23 r (by kernel_rfl) (by kernel_rfl)<|aJ<|gH (v:=.agg aH) (n:=0) (cs:=aH) (σ':=[aH]) r r r r r<|gH (v:=.agg aH) (n:=1) (cs:=aH) (σ':=[aH,aH]) r r r r r<|sB r<|aF (fr':=[(2,.box 0 0),(3,.box 1 0)]) r r<|aJ<|aQ r (bF aCO r)<|aQ r (aP (v:=aI) fC r r r)<|aQ r (bF aCO r)<|aQ r (aP (v:=aI) fC r r r) ?_
 refine aQ r (bX r r)<|mB r<|og r r r (fun hc=>(bF wP r))<|og r r r (fun hc=>(aP (v:=aI) fC (gx r hc) r r))<|og r r r (fun hc=>(bF wP r))<|og r r r (fun hc=>(aP (v:=aI) fC (gx r hc) r r))<|og r r r (fun hc=>(bX (gx r hc) (gx r hc)))<|aQ r (bS r r r (fun e=>fG e))<|mB r<|og r r r (fun hc=>(bF aCP r))<|og r r r (fun hc=>(aP (v:=aI) fC (gx r hc) r r))<|og r r r (fun hc=>(bF aCP r))<|og r r r (fun hc=>(aP (v:=aI) fC (gx r hc) r r)) ?_
 refine og r r r (fun hc=>(bX (gx r hc) (gx r hc)))<|aQ r (bS r r r (fun e=>fG e))<|mB r<|og r r r (fun hc=>(bF yV r))<|og r r r (fun hc=>(aP (v:=aI) fC (gx r hc) r r))<|og r r r (fun hc=>(bF yV r))<|og r r r (fun hc=>(aP (v:=aI) fC (gx r hc) r r))<|og r r r (fun hc=>(bX (gx r hc) (gx r hc)))<|aQ r (bS r r r (fun e=>fG e))<|mB r<|og r r r (fun hc=>(bF wQ r))<|og r r r (fun hc=>(aP (v:=aI) fC (gx r hc) r r))<|og r r r (fun hc=>(bF wQ r)) ?_
 refine og r r r (fun hc=>(aP (v:=aI) fC (gx r hc) r r))<|og r r r (fun hc=>(bX (gx r hc) (gx r hc)))<|aQ r (bS r r r (fun e=>fG e))<|mB r<|og r r r (fun hc=>(bF uS r))<|og r r r (fun hc=>(aP (v:=aI) fC (gx r hc) r r))<|og r r r (fun hc=>(bF uS r))<|og r r r (fun hc=>(aP (v:=aI) fC (gx r hc) r r))<|og r r r (fun hc=>(bX (gx r hc) (gx r hc)))<|aQ r (bS r r r (fun e=>fG e))<|mB r<|og r r r (fun hc=>(bF wR r))<|og r r r (fun hc=>(aP (v:=aI) fC (gx r hc) r r)) ?_
 refine og r r r (fun hc=>(bF wR r))<|og r r r (fun hc=>(aP (v:=aI) fC (gx r hc) r r))<|og r r r (fun hc=>(bX (gx r hc) (gx r hc)))<|aQ r (bS r r r (fun e=>fG e))<|mB r<|og r r r (fun hc=>(bF rX r))<|og r r r (fun hc=>(aP (v:=aS) nV (gx r hc) r r))<|og r r r (fun hc=>(bF rX r))<|og r r r (fun hc=>(aP (v:=aS) nV (gx r hc) r r))<|og r r r (fun hc=>(uJ (gx r hc) (gx r hc)))<|aQ r (bS r r r (fun e=>fG e))<|mB r<|og r r r (fun hc=>(bF rY r)) ?_
 refine og r r r (fun hc=>(aP (v:=aS) nV (gx r hc) r r))<|og r r r (fun hc=>(bF rY r))<|og r r r (fun hc=>(aP (v:=aS) nV (gx r hc) r r))<|og r r r (fun hc=>(uJ (gx r hc) (gx r hc)))<|aQ r (bS r r r (fun e=>fG e))<|mB r<|og r r r (fun hc=>(bF uT r))<|og r r r (fun hc=>(dF (us:=bI) fQ (gx r hc) r r r))<|og r r r (fun hc=>(bF uT r))<|og r r r (fun hc=>(dF (us:=bI) fQ (gx r hc) r r r)) ?_
 obtain ⟨x1,hx1,h2⟩:=aE h
 refine vQ r r (fun hc=>bG (v:=aB) r (aEU (cV hx1 hc)) ⟨(fK (gx r hc) (bM r ⟨r,r,r,r,r,trivial⟩)),(fK (gx r hc) (bM r ⟨r,r,r,r,r,trivial⟩)),trivial⟩ (fT (by repeat (first | exact eK | refine aY r ?_ | refine aY (rI r) ?_ | refine aY rH ?_))) r r) ?_
 refine aQ r (bS r r r (fun e=>fG e))<|mB r<|og r r r (fun hc=>(bF rB r))<|og r r r (fun hc=>(dF (us:=bU) xQ (gx r hc) r r r))<|og r r r (fun hc=>(bF rB r))<|og r r r (fun hc=>(dF (us:=bU) xQ (gx r hc) r r r)) ?_
 obtain ⟨x3,hx3,h4⟩:=aE h2
 refine vQ r r (fun hc=>bG (v:=aB) r (zD (cV hx3 hc)) ⟨(fK (gx r hc) (bM r ⟨r,r,r,r,r,r,r,r,r,r,trivial⟩)),(fK (gx r hc) (bM r ⟨r,r,r,r,r,r,r,r,r,r,trivial⟩)),trivial⟩ (fT (by repeat (first | exact eK | refine aY r ?_ | refine aY (rI r) ?_ | refine aY rH ?_))) r r) ?_
 refine aQ r (bS r r r (fun e=>fG e))<|sB r<|aF (fr':=[(4,aB)]) r r<|bE ?_
 obtain rfl:=sy h4
 exact bD (rs':=[.tmp 4]) r<|bL (v:=aB) r<|bC<|aR [] r r r lr aC
noncomputable def lK  : Option aV :=
 some (aV.mk (2:Int) (2:Int) (5:Int) (0:Int) (0:Int) (1:Int) (0:Int) ([]:List UInt8) ([]:List UInt8) (aD.mk (0:Int) (0:Int) ([]:List UInt8) ([]:(List aD)) ([]:(List (List UInt8)))) (bP.mk ([]:List UInt8) (0:Int) (0:Int) (0:Int) (0:Int) (0:Int) (0:Int) (0:Int) (0:Int) ([]:(List (List UInt8)))))
theorem sY  {res:aV} (h:lK=some res):bR Tryz.prog 52 [] [] (.agg (AV.cs (bZ res))) []:=by
 unfold lK at h
 refine cP (fn:=Tryz.f52) [0] (by kernel_rfl) Tryz.func52 r (by kernel_rfl) (by kernel_rfl)<|aJ<|fZ (n:=0) (cs:=aA) (σ':=[aA]) aIQ r r r<|aF (fr':=[(0,.box 0 0)]) r r<|aJ<|aQ r (rS (c0:=aA) (cs:=aA) aMM r (kJ (v:=aI) (us:=[_]) (cs':=u24) r r r r r r (kJ (v:=aI) (us:=[_]) (cs':=u24) r r r r r r (kJ (v:=aI) (us:=[_]) (cs':=u24) r r r r r r (kJ (v:=aI) (us:=[_]) (cs':=u24) r r r r r r rK)))))<|bO (v:=.agg aA) (us:=aA) (cs:=aA) (σ':=[aA]) r vO r r r r r r r r<|aF (fr':=[(0,.box 0 0)]) r r<|bE ?_
 obtain rfl:=sy h
 exact bD (rs':=[.cell 0 30]) r<|dX (us:=aA) (cs:=aA) vO r r r r<|bC<|aR [] r r r (bM r ⟨r,r,r,r,r,r,r,r,r,r,r,r,⟨_,r⟩,⟨_,r⟩,r,r,r,r,r,r,r,r,r,⟨_,r⟩,trivial⟩) aC
noncomputable def mM  : Option Bool :=
 (lK).bind fun x1=>(gN ([x1]:List aV)).bind fun x3=>(dY x3.1).bind fun x5=>(dY ([]:List UInt8)).bind fun x7=>(gN ([(aV.mk (0:Int) (0:Int) (0:Int) (0:Int) (0:Int) (0:Int) (0:Int) ([]:List UInt8) ([]:List UInt8) (aD.mk (0:Int) (0:Int) ([]:List UInt8) ([]:(List aD)) ([]:(List (List UInt8)))) (bP.mk ([]:List UInt8) (0:Int) (0:Int) (0:Int) (0:Int) (0:Int) (0:Int) (0:Int) (0:Int) ([]:(List (List UInt8)))))]:List aV)).bind fun x9=>(gN ([]:List aV)).bind fun x11=>(gd ((cond (cond (decide (x3.2=(0:Int))) (decide (x5.2=(0:Int))) false) (decide (((x5.1).length:Int)=(1:Int))) false)==true) (gR x5.1 (0:Int))).bind fun x13=>(gd ((cond (cond (decide (x3.2=(0:Int))) (decide (x5.2=(0:Int))) false) (decide (((x5.1).length:Int)=(1:Int))) false)==true) (lK)).bind fun x15=>(gd ((cond (cond (decide (x3.2=(0:Int))) (decide (x5.2=(0:Int))) false) (decide (((x5.1).length:Int)=(1:Int))) false)==true) (pN x13 x15)).bind fun x17=>(gd ((cond (cond (cond (cond (cond (cond (decide (x3.2=(0:Int))) (decide (x5.2=(0:Int))) false) (decide (((x5.1).length:Int)=(1:Int))) false) x17 false) (decide (x7.2=(4:Int))) false) (decide (x9.2=(11:Int))) false) (decide (((x11.1).length:Int)=(5:Int))) false)==true) (gR x11.1 (0:Int))).bind fun x19=>some (cond (cond (cond (cond (cond (cond (cond (decide (x3.2=(0:Int))) (decide (x5.2=(0:Int))) false) (decide (((x5.1).length:Int)=(1:Int))) false) x17 false) (decide (x7.2=(4:Int))) false) (decide (x9.2=(11:Int))) false) (decide (((x11.1).length:Int)=(5:Int))) false) (decide (((x19).toNat:Int)=(0:Int))) false)
theorem tI  {res:Bool} (h:mM=some res):bR Tryz.prog 16 [] [] (.c (.bool res)) []:=by
 unfold mM at h
 refine cP (fn:=Tryz.f16) [0,1,2,3,4,6,8,9] (by kernel_rfl) Tryz.func16 r (by kernel_rfl) (by kernel_rfl)<|aJ<|sB r<|aF (fr':=[]) r r<|aN<|aT ?_
 obtain ⟨x1,hx1,h2⟩:=aE h
 refine jZ (bG (v:=.agg aH) r (sY hx1) trivial r r r)<|rP (row:=bZ) (xs:=([x1]:List aV)) (rows:=[[_,_,_,_,_,_,_,_,_,_,_,_,_,_,_,_,_,_,_,_,_,_,_,_]]) (σ':=[]) [0,0,0,0,0,0,0,0,0,0,0,0,5,1,0,0,0,0,0,0,0,0,0,1] aHc r r r (fR r mD) r r ?_
 obtain ⟨x3,hx3,h4⟩:=aE h2
 refine jZ (bG (v:=.tup [aO,aI]) r (mA hx3) ⟨lr,trivial⟩ r r r)<|mV (v:=.tup [aO,aI]) r<|aQ r (xP (v:=aO) r r)<|aQ r (xP (v:=aI) r r)<|sV (v:=aO) r<|sI r<|aF (fr':=[(1,aO),(2,aI)]) r r<|aJ<|mV (v:=aO) r ?_
 obtain ⟨x5,hx5,h6⟩:=aE h4
 refine jZ (bG (v:=.tup [aO,aI]) r (nG hx5) ⟨lr,trivial⟩ r r r)<|mV (v:=.tup [aO,aI]) r<|aQ r (xP (v:=aO) r r)<|aQ r (xP (v:=aI) r r)<|sV (v:=aO) r<|sI r<|aF (fr':=[(2,aI),(3,aO),(4,aI)]) r r<|aN<|aT ?_
 obtain ⟨x7,hx7,h8⟩:=aE h6
 refine jZ (bG (v:=.tup [aO,aI]) r (nG hx7) ⟨aEz,trivial⟩ r r r)<|mV (v:=.tup [aO,aI]) r<|aQ r (xP (v:=aO) r r)<|aQ r (xP (v:=aI) r r)<|sV (v:=aO) r<|sI r<|aF (fr':=[(2,aI),(3,aO),(4,aI),(6,aI)]) r r<|aJ<|aQ r (rS (c0:=aA) (cs:=aA) aMM r rK)<|rP (row:=bZ) (xs:=([(aV.mk (0:Int) (0:Int) (0:Int) (0:Int) (0:Int) (0:Int) (0:Int) ([]:List UInt8) ([]:List UInt8) (aD.mk (0:Int) (0:Int) ([]:List UInt8) ([]:(List aD)) ([]:(List (List UInt8)))) (bP.mk ([]:List UInt8) (0:Int) (0:Int) (0:Int) (0:Int) (0:Int) (0:Int) (0:Int) (0:Int) ([]:(List (List UInt8)))))]:List aV)) (rows:=[[_,_,_,_,_,_,_,_,_,_,_,_,_,_,_,_,_,_,_,_,_,_,_,_]]) (σ':=[]) [0,0,0,0,0,0,0,0,0,0,0,0,5,1,0,0,0,0,0,0,0,0,0,1] aHc r r r (fR r mD) r r ?_
 obtain ⟨x9,hx9,h10⟩:=aE h8
 refine jZ (bG (v:=.tup [aO,aI]) r (mA hx9) ⟨lr,trivial⟩ r r r)<|mV (v:=.tup [aO,aI]) r<|aQ r (xP (v:=aO) r r)<|aQ r (xP (v:=aI) r r)<|sV (v:=aO) r<|sI r<|aF (fr':=[(2,aI),(3,aO),(4,aI),(6,aI),(8,aI)]) r r<|aN<|aT ?_
 obtain ⟨x11,hx11,h12⟩:=aE h10
 refine jZ (bG (v:=.tup [aO,aI]) r (mA hx11) ⟨aEz,trivial⟩ r r r)<|mV (v:=.tup [aO,aI]) r<|aQ r (xP (v:=aO) r r)<|aQ r (xP (v:=aI) r r)<|sV (v:=aO) r<|sI r<|aF (fr':=[(2,aI),(3,aO),(4,aI),(6,aI),(8,aI),(9,aO)]) r r<|aN<|gP [.q 0,.q 1,.q 2,.q 3,.q 4,.q 5,.q 6,.q 7,.q 8,.q 9,.q 10,.q 11,.q 12,.q 13,.q 14,.q 15,.q 16,.q 17,.q 18,.q 19,.q 20,.q 21,.q 22,.q 23,.q 24,.q 25,.q 26,.q 27,.q 28,.q 29,.q 30,.q 31,.q 32,.q 33,.q 34,.q 35,.q 36,.n 37 []] [(some 36,[2]),(some 37,[36]),(some 38,[37]),(some 39,[4,38]),(some 40,[39,38]),(some 41,[38,40]),(some 42,[41]),(some 43,[3,42]),(some 44,[43,42]),(some 45,[44,42]),(some 46,[42,45]),(some 47,[46]),(some 48,[3,47]),(some 49,[48,47]),(some 50,[49,47]),(some 51,[47]),(some 52,[50,51,47]),(some 53,[47,52]),(some 54,[53]),(some 55,[6,54]),(some 56,[55,54]),(some 57,[54,56]),(some 58,[57]),(some 59,[8,58]),(some 60,[59,58]),(some 61,[58,60]),(some 62,[61]),(some 63,[9,62]),(some 64,[63,62]),(some 65,[64,62]),(some 66,[62,65]),(some 67,[66]),(some 68,[9,67]),(some 69,[68,67]),(some 70,[69,67]),(some 71,[70,67]),(some 72,[67,71]),(some 0,[72])] [0,1,3,7,15,31,63,127,255,511,1023,2047,4095,8191,16383,4095,65535,131071,262143,524287,1048575,2097151,4194303,8388607,16777215,33554431,67108863,134217727,268435455,536870911,1073741823,2147483647,4294967295,8589934591,17179869183,34359738367,68719476735,137438953471] (by kernel_rfl)<|dq r r (aU (v:=aI) r)<|dq r r (bX r r)<|dq r r (aU (v:=aB) r)<|d_g r r r (fun hc=>rA r (aU (v:=aI) r)) ?_
 refine d_g r r r (fun hc=>rA r (bX (gx r hc) r))<|dq r r (bS r r r (fun e=>fG e))<|dq r r (aU (v:=aB) r)<|d_g r r r (fun hc=>rA r (aU (v:=aO) r))<|d_g r r r (fun hc=>rA r (eX aF6 (qF (gx r hc))))<|d_g r r r (fun hc=>rA r (bX (gx r hc) r))<|dq r r (bS r r r (fun e=>fG e))<|dq r r (aU (v:=aB) r)<|d_g r r r (fun hc=>rA r (aU (v:=aO) r)) ?_
 obtain ⟨x13,hx13,h14⟩:=aE h12
 refine d_g r r r (fun hc=>rA r (jS (cs:=[PV.int _ _,PV.int _ _,PV.int _ _,PV.int _ _,PV.int _ _,PV.int _ _,PV.int _ _,PV.str _,PV.str _,PV.int _ _,PV.int _ _,PV.str _,PV.ls _ _ _,PV.ls _ _ _,PV.str _,PV.int _ _,PV.int _ _,PV.int _ _,PV.int _ _,PV.int _ _,PV.int _ _,PV.int _ _,PV.int _ _,PV.ls _ _ _]) aHc (qF (gx r hc)) r (cV hx13 hc) r))<|d_g r r r (fun hc=>rA r (iL (us:=[PV.int _ _,PV.int _ _,PV.int _ _,PV.int _ _,PV.int _ _,PV.int _ _,PV.int _ _,PV.str _,PV.str _,PV.int _ _,PV.int _ _,PV.str _,PV.ls _ _ _,PV.ls _ _ _,PV.str _,PV.int _ _,PV.int _ _,PV.int _ _,PV.int _ _,PV.int _ _,PV.int _ _,PV.int _ _,PV.int _ _,PV.ls _ _ _]) vO (gx r hc) r r)) ?_
 obtain ⟨x15,hx15,h16⟩:=aE h14
 refine d_g r r r (fun hc=>aBP (v:=.agg aH) r (sY (cV hx15 hc)) trivial r) ?_
 obtain ⟨x17,hx17,h18⟩:=aE h16
 refine d_g r r r (fun hc=>aBP (v:=aB) r (aEV (cV hx17 hc)) ⟨(fK (gx r hc) (bM r ⟨r,r,r,r,r,r,r,r,r,r,r,r,r,r,r,r,r,r,r,r,r,r,r,r,trivial⟩)),(fK (gx r hc) (bM r ⟨r,r,r,r,r,r,r,r,r,r,r,r,r,r,r,r,r,r,r,r,r,r,r,r,trivial⟩)),trivial⟩ r)<|dq r r (bS r r r (fun e=>fG e))<|dq r r (aU (v:=aB) r)<|d_g r r r (fun hc=>rA r (aU (v:=aI) r))<|d_g r r r (fun hc=>rA r (bX (gx r hc) r))<|dq r r (bS r r r (fun e=>fG e))<|dq r r (aU (v:=aB) r)<|d_g r r r (fun hc=>rA r (aU (v:=aI) r))<|d_g r r r (fun hc=>rA r (bX (gx r hc) r))<|dq r r (bS r r r (fun e=>fG e))<|dq r r (aU (v:=aB) r)<|d_g r r r (fun hc=>rA r (aU (v:=aO) r))<|d_g r r r (fun hc=>rA r (eX yW (qF (gx r hc)))) ?_
 refine d_g r r r (fun hc=>rA r (bX (gx r hc) r))<|dq r r (bS r r r (fun e=>fG e))<|dq r r (aU (v:=aB) r)<|d_g r r r (fun hc=>rA r (aU (v:=aO) r)) ?_
 obtain ⟨x19,hx19,h20⟩:=aE h18
 refine d_g r r r (fun hc=>rA r (jS (cs:=[PV.int _ _]) uV (qF (gx r hc)) r (cV hx19 hc) r))<|d_g r r r (fun hc=>rA r (fV (p:=PV.int _ _) tv5 (gx r hc) r))<|d_g r r r (fun hc=>rA r (bX (gx r hc) r))<|dq r r (bS r r r (fun e=>fG e))<|d_n r ?_ r
 refine sB r<|aCn<|⟨rT,?_⟩
 refine tB (fr':=[(0,aB)]) r r<|bE ?_
 obtain rfl:=sy h20
 exact bD (rs':=[.tmp 0]) r<|bL (v:=aB) r<|bC<|aR [] r r r lr aC
end Go.Proofs.YtnigjppddilpcaaGreatDoor
