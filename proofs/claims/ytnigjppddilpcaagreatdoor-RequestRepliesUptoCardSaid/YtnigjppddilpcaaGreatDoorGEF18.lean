import Derived.Test.YtnigjppddilpcaaGreatDoorGETy
import Derived.Test.YtnigjppddilpcaaGreatDoorGEF0
import Derived.Test.YtnigjppddilpcaaGreatDoorGEF1
import Derived.Test.YtnigjppddilpcaaGreatDoorGEF7
import Derived.Test.YtnigjppddilpcaaGreatDoorGEF8
import Derived.Test.YtnigjppddilpcaaGreatDoorGEF10
import Derived.Test.YtnigjppddilpcaaGreatDoorGEF11
import Derived.Test.YtnigjppddilpcaaGreatDoorGEF12
import Derived.Test.YtnigjppddilpcaaGreatDoorGEF14
import Derived.Test.YtnigjppddilpcaaGreatDoorGEF15
import Derived.Test.YtnigjppddilpcaaGreatDoorGEF17
namespace Go.Proofs.YtnigjppddilpcaaGreatDoor
open Go Abs
set_option maxRecDepth 100000
set_option linter.unusedVariables false
set_option linter.unusedSimpArgs false
noncomputable def rN (p0a:iI) (s20:((List UInt8) × Int)):Option (dU ((List UInt8) × Int) (List UInt8)) :=
 cond (decide (s20.2<((p0a.Events).length:Int))) ((mP p0a.Events s20.2).bind fun x22=>(uO s20.1 x22).bind fun x24=>some (dU.next (x24,(IntKind.wrap .i64 (s20.2+1))))) (some (dU.out s20.1))
noncomputable def oT (p0a:iI):Option ((List UInt8) × Int) :=
 (pL p0a).bind fun x1=>cond (!x1) (some (([]:(List UInt8)),3)) ((hY ([]:List UInt8) p0a.Err).bind fun x5=>(kZ x5 p0a.Run).bind fun x7=>(hY x7 p0a.Token).bind fun x9=>(hY x9 p0a.N).bind fun x11=>(tS x11 p0a.Data).bind fun x13=>(hY x13 ((p0a.Events).length:Int)).bind fun x15=>(gL (rN p0a) ((x15,0))).bind fun x17=>(some (x17,0)))
theorem aEd {p0a:iI}{z:((List UInt8) × Int)} (h:oT p0a=some z):cR Tryz.prog 49 [.agg (AV.cs (lY p0a))] [] (.tup [AV.os 0 1 hF z.1,ci z.2]) []:=by
 unfold oT at h
 refine dQ (fn:=Tryz.f49) [0,1,2,3,4,6,9,35,36,37,38] (by kernel_rfl) Tryz.func49 r (by kernel_rfl) (by kernel_rfl)<|aH<|iR (v:=.agg fM) (n:=0) (cs:=fM) (σ':=[fM]) r r r r r<|sV (v:=AV.nil) r<|sI r<|aG (fr':=[(1,aD)]) r r<|aU<|aH<|aN r (dN (us:=fM) aFj r r r r)<|bx h fun x1 y1 h2=>kB (bC (v:=aB) r (aBw y1) ⟨(bQ r zX),trivial⟩ r r r)<|aN r (fP r)<|aG (fr':=[(1,aD),(9,aB)]) r r<|cN h2 r (fun b3 h3=>?_) (fun b3 h3=>?_)
 ·
  refine aH<|sV (v:=AV.nil) r<|sI r<|aG (fr':=[(2,AV.nil),(3,aI)]) r r<|bJ<|aQ ?_
  obtain rfl:=sy h3
  exact bI (rs':=[.tmp 2,.tmp 3]) r<|bX (v:=AV.nil) r<|bX (v:=aI) r<|bG<|aP [1000000] r r r (qQ r ⟨(aC1 r),lr,trivial⟩) aC
 ·
  refine bL<|cY<|aH<|aN r (bE aHR r)<|aN r (aJ (v:=aI) aG7 r r r)<|bx h3 fun x5 y5 h6=>kB (bC (v:=aO) r (hH y5) ⟨aJG,lr,trivial⟩ r r r)<|sV (v:=aO) r<|aG (fr':=[(1,aD),(4,aO)]) r r<|aH<|mV (v:=aO) r<|aN r (bE aF8 r)<|aN r (aJ (v:=aS) mG r r r)<|bx h6 fun x7 y7 h8=>kB (bC (v:=aO) r (mO y7) kU r r r)<|sV (v:=aO) r<|aG (fr':=[(1,aD),(4,aO)]) r r<|aH<|mV (v:=aO) r<|aN r (bE aF9 r)<|aN r (aJ (v:=aI) gA r r r)<|bx h8 fun x9 y9 h10=>kB (bC (v:=aO) r (hH y9) kU r r r)<|sV (v:=aO) r<|aG (fr':=[(1,aD),(4,aO)]) r r<|aH<|mV (v:=aO) r<|aN r (bE aKd r)<|aN r (aJ (v:=aI) gA r r r)<|bx h10 fun x11 y11 h12=>kB (bC (v:=aO) r (hH y11) kU r r r)<|sV (v:=aO) r<|aG (fr':=[(1,aD),(4,aO)]) r r<|aH<|mV (v:=aO) r<|aN r (bE aGa r)<|aN r (dN (us:=cH) jC r r r r)<|bx h12 fun x13 y13 h14=>kB (bC (v:=aO) r (aAS y13) ⟨lr,(bQ r zA),trivial⟩ r r r)<|sV (v:=aO) r<|aG (fr':=[(1,aD),(4,aO)]) r r<|aH<|mV (v:=aO) r<|aN r (bE yB r)<|aN r (aJ (v:=aL) aEQ r r r)<|aN r (gQ aHS (eD r))<|bx h14 fun x15 y15 h16=>kB (bC (v:=aO) r (hH y15) kU r r r)<|sV (v:=aO) r<|aG (fr':=[(1,aD),(4,aO)]) r r<|aU<|aH<|aN r (bE yB r)<|aN r (aJ (v:=aL) aEQ r r r)<|aN r (gQ aHS (eD r))<|mI r<|aG (fr':=[(4,aO),(35,aL),(36,aI),(37,aI)]) r r<|bx h16 fun x17 y17 h18=>gY kS (fun j19=>x17=j19) (fun (j19:(List UInt8))=>([(4,AV.os 0 1 hF j19)]:Fr)) (fun (j19:(List UInt8))=>([[ci p0a.Err,.c (.str p0a.Run),ci p0a.Token,ci p0a.N,ci p0a.Data.Kind,ci p0a.Data.Int,.c (.str p0a.Data.Text),.c (PV.ls 5 bO p0a.Data.Items),.c (PV.ls 1 fZ p0a.Data.Keys),.c (PV.ls 24 eU p0a.Events)]]:St)) ?_ ?_
  ·
   refine cE<|gU _ (fun (s20:((List UInt8) × Int))=>([(4,AV.os 0 1 hF s20.1),(35,.c (PV.ls 24 eU p0a.Events)),(36,ci ((p0a.Events).length:Int)),(37,ci s20.2)]:Fr)) (fun (s20:((List UInt8) × Int))=>([[ci p0a.Err,.c (.str p0a.Run),ci p0a.Token,ci p0a.N,ci p0a.Data.Kind,ci p0a.Data.Int,.c (.str p0a.Data.Text),.c (PV.ls 5 bO p0a.Data.Items),.c (PV.ls 1 fZ p0a.Data.Keys),.c (PV.ls 24 eU p0a.Events)]]:St)) y17 (bH [528] 1 r r r r kL4 (cV r aC)) ?_
   intro s20 st20 hs20 ho20
   unfold rN at hs20
   refine aH<|aN r (gC r r)<|aG (fr':=[(4,aO),(35,aL),(36,aI),(37,aI),(38,aB)]) r r<|aU<|cN hs20 r (fun b21 h21=>?_) (fun b21 h21=>?_)
   ·
    exact bL<|cY<|aU<|cE<|aU<|bA<|bx h21 fun x22 y22 h23=>aN r (lT (cs:=[PV.int _ _,PV.int _ _,PV.int _ _,PV.int _ _,PV.int _ _,PV.int _ _,PV.int _ _,PV.str _,PV.str _,PV.int _ _,PV.int _ _,PV.str _,PV.ls _ _ _,PV.ls _ _ _,PV.str _,PV.int _ _,PV.int _ _,PV.int _ _,PV.int _ _,PV.int _ _,PV.int _ _,PV.int _ _,PV.int _ _,PV.ls _ _ _]) aN3 (eD r) r y22 r)<|aN r (kT (us:=[PV.int _ _,PV.int _ _,PV.int _ _,PV.int _ _,PV.int _ _,PV.int _ _,PV.int _ _,PV.str _,PV.str _,PV.int _ _,PV.int _ _,PV.str _,PV.ls _ _ _,PV.ls _ _ _,PV.str _,PV.int _ _,PV.int _ _,PV.int _ _,PV.int _ _,PV.int _ _,PV.int _ _,PV.int _ _,PV.int _ _,PV.ls _ _ _]) aDp r r r)<|jT (n:=1) (cs:=aV) (σ':=[fM,aV]) aTW r r r<|cD (v:=.agg aT) (us:=aT) (cs:=aV) (σ':=[fM,aT]) r aDp r r r r r r r r<|aG (fr':=[(4,aO),(6,bK),(35,aL),(36,aI),(37,aI)]) r r<|bA<|mV (v:=aO) r<|aN r (dN (us:=aT) aDp r r r r)<|bx h23 fun x24 y24 h25=>kB (bC (v:=aO) r (aGf y24) ⟨lr,(bQ r aGD),trivial⟩ r r r)<|sV (v:=aO) r<|dT (fr':=[(4,aO),(6,bK),(35,aL),(36,aI),(37,aI)]) r<|dH<|cY<|bA<|aN r (fY r r)<|mI r<|dT (fr':=[(4,aO),(6,bK),(35,aL),(36,aI),(37,aI)]) r<|e_l _ (sy h25) (bH [688] 1 r r r r kL4 (cV r aC))
   ·
    refine iA<|cX<|cX<|fS ?_
    have h26:=eZ h21 ho20
    exact kI _ (sy h26) (bH [0] 1 r r r r ⟨lr,trivial⟩ (cV r aC))
  ·
   intro j19 hj27
   subst hj27
   refine cY<|aH<|mV (v:=aO) r<|sV (v:=aO) r<|sI r<|aG (fr':=[(2,aO),(3,aI)]) r r<|bJ ?_
   obtain rfl:=sy h18
   exact bI (rs':=[.tmp 2,.tmp 3]) r<|bX (v:=aO) r<|bX (v:=aI) r<|bG<|aP [0] r r r (qQ r kU) aC
noncomputable def tP (p0a:iI) (s20:((List UInt8) × Int)):Option (dU ((List UInt8) × Int) (List UInt8)) :=
 cond (decide (s20.2<((p0a.Events).length:Int))) ((mP p0a.Events s20.2).bind fun x22=>(aAF s20.1 x22).bind fun x24=>some (dU.next (x24,(IntKind.wrap .i64 (s20.2+1))))) (some (dU.out s20.1))
noncomputable def qU (p0a:iI):Option ((List UInt8) × Int) :=
 (uT p0a).bind fun x1=>cond (!x1) (some (([]:(List UInt8)),3)) ((jB ([]:List UInt8) p0a.Err).bind fun x5=>(kH x5 p0a.Run).bind fun x7=>(jB x7 p0a.Token).bind fun x9=>(jB x9 p0a.N).bind fun x11=>(tL x11 p0a.Data).bind fun x13=>(jB x13 ((p0a.Events).length:Int)).bind fun x15=>(gL (tP p0a) ((x15,0))).bind fun x17=>(some (x17,0)))
theorem aFm {p0a:iI}{z:((List UInt8) × Int)} (h:qU p0a=some z):cR Tryz.prog 50 [.agg (AV.cs (lY p0a))] [] (.tup [AV.os 0 1 hF z.1,ci z.2]) []:=by
 unfold qU at h
 refine dQ (fn:=Tryz.f50) [0,1,2,3,4,5,8,37] (by kernel_rfl) Tryz.func50 r (by kernel_rfl) (by kernel_rfl)<|aH<|iR (v:=.agg fM) (n:=0) (cs:=fM) (σ':=[fM]) r r r r r<|sV (v:=AV.nil) r<|sI r<|aG (fr':=[(1,aD)]) r r<|aU<|aH<|aN r (dN (us:=fM) aFj r r r r)<|bx h fun x1 y1 h2=>kB (bC (v:=aB) r (aGg y1) ⟨(bQ r zX),trivial⟩ r r r)<|aN r (fP r)<|aG (fr':=[(1,aD),(8,aB)]) r r<|cN h2 r (fun b3 h3=>?_) (fun b3 h3=>?_)
 ·
  refine aH<|sV (v:=AV.nil) r<|sI r<|aG (fr':=[(2,AV.nil),(3,aI)]) r r<|bJ<|aQ ?_
  obtain rfl:=sy h3
  exact bI (rs':=[.tmp 2,.tmp 3]) r<|bX (v:=AV.nil) r<|bX (v:=aI) r<|bG<|aP [1000000] r r r (qQ r ⟨(aC1 r),lr,trivial⟩) aC
 ·
  refine bL<|cY<|aH<|aN r (bE aHR r)<|aN r (aJ (v:=aI) aG7 r r r)<|bx h3 fun x5 y5 h6=>kB (bC (v:=aO) r (nN y5) ⟨aJG,lr,trivial⟩ r r r)<|sV (v:=aO) r<|aG (fr':=[(1,aD),(4,aO)]) r r<|aH<|mV (v:=aO) r<|aN r (bE aF8 r)<|aN r (aJ (v:=aS) mG r r r)<|bx h6 fun x7 y7 h8=>kB (bC (v:=aO) r (rB y7) kU r r r)<|sV (v:=aO) r<|aG (fr':=[(1,aD),(4,aO)]) r r<|aH<|mV (v:=aO) r<|aN r (bE aF9 r)<|aN r (aJ (v:=aI) gA r r r)<|bx h8 fun x9 y9 h10=>kB (bC (v:=aO) r (nN y9) kU r r r)<|sV (v:=aO) r<|aG (fr':=[(1,aD),(4,aO)]) r r<|aH<|mV (v:=aO) r<|aN r (bE aKd r)<|aN r (aJ (v:=aI) gA r r r)<|bx h10 fun x11 y11 h12=>kB (bC (v:=aO) r (nN y11) kU r r r)<|sV (v:=aO) r<|aG (fr':=[(1,aD),(4,aO)]) r r<|aH<|mV (v:=aO) r<|aN r (bE aGa r)<|aN r (dN (us:=cH) jC r r r r)<|bx h12 fun x13 y13 h14=>kB (bC (v:=aO) r (aEW y13) ⟨lr,(bQ r zA),trivial⟩ r r r)<|sV (v:=aO) r<|aG (fr':=[(1,aD),(4,aO)]) r r<|aH<|mV (v:=aO) r<|aN r (bE yB r)<|aN r (aJ (v:=aL) aEQ r r r)<|aN r (gQ aHS (eD r))<|bx h14 fun x15 y15 h16=>kB (bC (v:=aO) r (nN y15) kU r r r)<|sV (v:=aO) r<|aG (fr':=[(1,aD),(4,aO)]) r r<|aU<|aH<|sI r<|aG (fr':=[(1,aD),(4,aO),(5,aI)]) r r<|bx h16 fun x17 y17 h18=>gY kS (fun j19=>x17=j19) (fun (j19:(List UInt8))=>([(4,AV.os 0 1 hF j19)]:Fr)) (fun (j19:(List UInt8))=>([[ci p0a.Err,.c (.str p0a.Run),ci p0a.Token,ci p0a.N,ci p0a.Data.Kind,ci p0a.Data.Int,.c (.str p0a.Data.Text),.c (PV.ls 5 bO p0a.Data.Items),.c (PV.ls 1 fZ p0a.Data.Keys),.c (PV.ls 24 eU p0a.Events)]]:St)) ?_ ?_
  ·
   refine cE<|gU _ (fun (s20:((List UInt8) × Int))=>([(1,aD),(4,AV.os 0 1 hF s20.1),(5,ci s20.2)]:Fr)) (fun (s20:((List UInt8) × Int))=>([[ci p0a.Err,.c (.str p0a.Run),ci p0a.Token,ci p0a.N,ci p0a.Data.Kind,ci p0a.Data.Int,.c (.str p0a.Data.Text),.c (PV.ls 5 bO p0a.Data.Items),.c (PV.ls 1 fZ p0a.Data.Keys),.c (PV.ls 24 eU p0a.Events)]]:St)) y17 (bH [512] 1 r r r r lG (cV r aC)) ?_
   intro s20 st20 hs20 ho20
   unfold tP at hs20
   refine aU<|aH<|mI r<|aN r (bE yB r)<|aN r (aJ (v:=aL) aEQ r r r)<|aN r (gQ aHS (eD r))<|aN r (gC r r)<|aG (fr':=[(1,aD),(4,aO),(5,aI),(37,aB)]) r r<|cN hs20 r (fun b21 h21=>?_) (fun b21 h21=>?_)
   ·
    exact bL<|cY<|aU<|cE<|bA<|mV (v:=aO) r<|aN r (bE yB r)<|aN r (aJ (v:=aL) aEQ r r r)<|mI r<|bx h21 fun x22 y22 h23=>aN r (lT (cs:=[PV.int _ _,PV.int _ _,PV.int _ _,PV.int _ _,PV.int _ _,PV.int _ _,PV.int _ _,PV.str _,PV.str _,PV.int _ _,PV.int _ _,PV.str _,PV.ls _ _ _,PV.ls _ _ _,PV.str _,PV.int _ _,PV.int _ _,PV.int _ _,PV.int _ _,PV.int _ _,PV.int _ _,PV.int _ _,PV.int _ _,PV.ls _ _ _]) aN3 (eD r) r y22 r)<|aN r (kT (us:=[PV.int _ _,PV.int _ _,PV.int _ _,PV.int _ _,PV.int _ _,PV.int _ _,PV.int _ _,PV.str _,PV.str _,PV.int _ _,PV.int _ _,PV.str _,PV.ls _ _ _,PV.ls _ _ _,PV.str _,PV.int _ _,PV.int _ _,PV.int _ _,PV.int _ _,PV.int _ _,PV.int _ _,PV.int _ _,PV.int _ _,PV.ls _ _ _]) aDp r r r)<|bx h23 fun x24 y24 h25=>kB (bC (v:=aO) r (aKv y24) ⟨lr,(bQ r aGD),trivial⟩ r r r)<|sV (v:=aO) r<|dT (fr':=[(1,aD),(4,aO),(5,aI),(37,aB)]) r<|dH<|cY<|bA<|mI r<|aN r (fY r r)<|sI r<|dT (fr':=[(1,aD),(4,aO),(5,aI),(37,aB)]) r<|e_l _ (sy h25) (bH [736] 1 r r r r lG (cV r aC))
   ·
    refine iA<|cX<|cX<|fS ?_
    have h26:=eZ h21 ho20
    exact kI _ (sy h26) (bH [0] 1 r r r r ⟨lr,trivial⟩ (cV r aC))
  ·
   intro j19 hj27
   subst hj27
   refine cY<|aH<|mV (v:=aO) r<|sV (v:=aO) r<|sI r<|aG (fr':=[(2,aO),(3,aI)]) r r<|bJ ?_
   obtain rfl:=sy h18
   exact bI (rs':=[.tmp 2,.tmp 3]) r<|bX (v:=aO) r<|bX (v:=aI) r<|bG<|aP [0] r r r (qQ r kU) aC
noncomputable def qF (p0a:iI):Option Bool :=
 cond (decide (200<((p0a.Events).length:Int))) ((xL).bind fun x2=>some x2) ((oT p0a).bind fun x5=>(qU p0a).bind fun x7=>cond (cond (!decide (x5.2=x7.2)) true (!decide (x5.1=x7.1))) (some false) (cond (decide (x5.2=0)) ((rK x5.1).bind fun x12=>(gd ((!decide (x12.2=0))==false) (wF x12.1 p0a)).bind fun x14=>cond (cond (!decide (x12.2=0)) true (!x14)) (some false) ((xL).bind fun x18=>some x18)) ((xL).bind fun x21=>some x21)))
theorem aDW {p0a:iI}{z:Bool} (h:qF p0a=some z):cR Tryz.prog 14 [.agg (AV.cs (lY p0a))] [] (.c (.bool z)) []:=by
 unfold qF at h
 refine dQ (fn:=Tryz.f14) [0,1,2,3,4,5,6,7,8,12,33,35,48] (by kernel_rfl) Tryz.func14 r (by kernel_rfl) (by kernel_rfl)<|aH<|iR (v:=.agg fM) (n:=0) (cs:=fM) (σ':=[fM]) r r r r r<|sB r<|aG (fr':=[(1,aD)]) r r<|aU<|aH<|aN r (bE yB r)<|aN r (aJ (v:=aL) aEQ r r r)<|aN r (gQ aHS (eD r))<|aN r (sP r r)<|aG (fr':=[(1,aD),(12,aB)]) r r<|cN h r (fun b1 h1=>?_) (fun b1 h1=>?_)
 ·
  refine aU<|bA ?_
  obtain ⟨x2,y2,h3⟩:=lB h1
  refine kB (bC (v:=aB) r (aC8 y2) trivial r r r)<|sB r<|aG (fr':=[(2,aB)]) r r<|bJ<|aQ ?_
  obtain rfl:=sy h3
  exact bI (rs':=[.tmp 2]) r<|bX (v:=aB) r<|bG<|aP [] r r r lr aC
 ·
  refine bL<|cY<|aH<|aN r (dN (us:=fM) aFj r r r r)<|bx h1 fun x5 y5 h6=>kB (bC (v:=.tup [aO,aI]) r (aEd y5) ⟨(bQ r zX),trivial⟩ r r r)<|mV (v:=.tup [aO,aI]) r<|aN r (aAu (v:=aO) r r)<|aN r (aAu (v:=aI) r r)<|sV (v:=aO) r<|sI r<|aG (fr':=[(1,aD),(3,aO),(4,aI)]) r r<|aH<|aN r (dN (us:=fM) aFj r r r r)<|bx h6 fun x7 y7 h8=>kB (bC (v:=.tup [aO,aI]) r (aFm y7) ⟨(bQ r zX),trivial⟩ r r r)<|mV (v:=.tup [aO,aI]) r<|aN r (aAu (v:=aO) r r)<|aN r (aAu (v:=aI) r r)<|sV (v:=aO) r<|sI r<|aG (fr':=[(1,aD),(3,aO),(4,aI),(5,aO),(6,aI)]) r r<|aU<|aH<|mI r<|mI r<|aN r (iY r r)<|mB r<|og r r r (fun u=>(bS (v:=aO) r))<|og r r r (fun u=>(aEA aN2 uD (rQ (gx r u))))<|og r r r (fun u=>(bS (v:=aO) r))<|og r r r (fun u=>(aEA aN2 uD (rQ (gx r u))))<|og r r r (fun u=>(vK (gx r u) (gx r u)))<|aN r (cM r r r (fun e=>fU e))<|aG (fr':=[(1,aD),(3,aO),(4,aI),(33,aB)]) r r<|cN h8 r (fun b9 h9=>?_) (fun b9 h9=>?_)
  ·
   refine aH<|sB r<|aG (fr':=[(2,aB)]) r r<|bJ<|aQ ?_
   obtain rfl:=sy h9
   exact bI (rs':=[.tmp 2]) r<|bX (v:=aB) r<|bG<|aP [] r r r lr aC
  ·
   refine bL<|cY<|aU<|aH<|mI r<|aN r (cC r r)<|aG (fr':=[(1,aD),(3,aO),(35,aB)]) r r<|cN h9 r (fun b11 h11=>?_) (fun b11 h11=>?_)
   ·
    refine aH<|mV (v:=aO) r<|bx h11 fun x12 y12 h13=>kB (bC (v:=.tup [.agg fM,aI]) r (aEc y12) ⟨lr,trivial⟩ r r r)<|mV (v:=.tup [.agg fM,aI]) r<|aN r (aAu (v:=.agg fM) r r)<|aN r (aAu (v:=aI) r r)<|jT (n:=1) (cs:=eB) (σ':=[fM,eB]) aTX r r r<|cD (v:=.agg fM) (us:=fM) (cs:=eB) (σ':=[fM,fM]) r aFj r r r r r r r r<|sI r<|aG (fr':=[(1,aD),(7,bK),(8,aI)]) r r<|aH<|mI r<|aN r (iY r r)<|mB r<|og r r r (fun u=>(dN (us:=fM) aFj r r r r))<|og r r r (fun u=>(dN (us:=fM) aFj r r r r))<|bx h13 fun x14 y14 h15=>uP r r (fun u=>bC (v:=aB) r (aHg (cZ y14 u)) ⟨(fH (gx r u) (bQ r zX)),(fH (gx r u) (bQ r zX)),trivial⟩ (gO (by repeat (first | exact fC | refine aZ r ?_ | refine aZ (rG r) ?_ | refine aZ rF ?_))) r r) ?_
    refine og r r r (fun u=>(fP (gx r u)))<|aN r (cM r r r (fun e=>fU e))<|aG (fr':=[(48,aB)]) r r<|cN h15 r (fun b16 h16=>?_) (fun b16 h16=>?_)
    ·
     refine aH<|sB r<|aG (fr':=[(2,aB)]) r r<|bJ<|aQ ?_
     obtain rfl:=sy h16
     exact bI (rs':=[.tmp 2]) r<|bX (v:=aB) r<|bG<|aP [] r r r lr aC
    ·
     refine bL<|cY<|aU<|bA ?_
     obtain ⟨x18,y18,h19⟩:=lB h16
     refine kB (bC (v:=aB) r (aC8 y18) trivial r r r)<|sB r<|aG (fr':=[(2,aB)]) r r<|bJ ?_
     obtain rfl:=sy h19
     exact bI (rs':=[.tmp 2]) r<|bX (v:=aB) r<|bG<|aP [] r r r lr aC
   ·
    refine bL<|cY<|aU<|bA ?_
    obtain ⟨x21,y21,h22⟩:=lB h11
    refine kB (bC (v:=aB) r (aC8 y21) trivial r r r)<|sB r<|aG (fr':=[(2,aB)]) r r<|bJ ?_
    obtain rfl:=sy h22
    exact bI (rs':=[.tmp 2]) r<|bX (v:=aB) r<|bG<|aP [] r r r lr aC
