import Derived.Test.YtnigjppddilpcaaGreatDoorGETy
import Derived.Test.YtnigjppddilpcaaGreatDoorGEF0
import Derived.Test.YtnigjppddilpcaaGreatDoorGEF4
import Derived.Test.YtnigjppddilpcaaGreatDoorGEF6
import Derived.Test.YtnigjppddilpcaaGreatDoorGEF7
import Derived.Test.YtnigjppddilpcaaGreatDoorGEF10
import Derived.Test.YtnigjppddilpcaaGreatDoorGEF11
namespace Go.Proofs.YtnigjppddilpcaaGreatDoor
open Go Abs
set_option maxRecDepth 100000
set_option linter.unusedVariables false
set_option linter.unusedSimpArgs false
noncomputable def gI (p0l:(List aV)) (aCq:Int) (p2x:Int):Option Bool :=
 (oA p0l).bind fun x1=>cond x1 ((mM).bind fun x4=>some x4) ((gN p0l).bind fun x7=>(gd ((cond (cond (!decide (x7.2=(0:Int))) true (decide (aCq<(0:Int)))) true (decide (((x7.1).length:Int)≤aCq)))==false) (gR x7.1 aCq)).bind fun x9=>cond (cond (cond (cond (!decide (x7.2=(0:Int))) true (decide (aCq<(0:Int)))) true (decide (((x7.1).length:Int)≤aCq))) true (decide (((x9).toNat:Int)=p2x))) ((mM).bind fun x12=>some x12) ((gR x7.1 aCq).bind fun x15=>(jP p2x).bind fun x17=>(dY (List.set x7.1 (Int.toNat aCq) x17)).bind fun x19=>(gd ((cond (decide (x19.2=(5:Int))) (decide (((x19.1).length:Int)=(0:Int))) false)==true) (mM)).bind fun x21=>some (cond (cond (decide (x19.2=(5:Int))) (decide (((x19.1).length:Int)=(0:Int))) false) x21 false)))
theorem tH {p0l:(List aV)}{aCq:Int}{p2x:Int}{res:Bool} (h:gI p0l aCq p2x=some res):bR Tryz.prog 6 [.c (PV.ls 24 bZ p0l),ci aCq,.c (.int .u8 p2x)] [] (.c (.bool res)) []:=by
 unfold gI at h
 refine cP (fn:=Tryz.f6) [0,1,2,6,7,8,9,11,37] (by kernel_rfl) Tryz.func6 r (by kernel_rfl) (by kernel_rfl)<|aJ<|sB r<|aF (fr':=[(0,aL),(1,aI),(2,aI)]) r r<|aN<|aJ<|mL r ?_
 obtain ⟨x1,hx1,h2⟩:=aE h
 refine jZ (bG (v:=aB) r (aDs hx1) ⟨lr,trivial⟩ r r r)<|aF (fr':=[(0,aL),(1,aI),(2,aI),(11,aB)]) r r<|cC h2 r (fun hb3 h3=>?_) (fun hb3 h3=>?_)
 ·
  refine aN<|aT ?_
  obtain ⟨x4,hx4,h5⟩:=aE h3
  refine jZ (bG (v:=aB) r (tI hx4) trivial r r r)<|sB r<|aF (fr':=[(6,aB)]) r r<|bE<|aK ?_
  obtain rfl:=sy h5
  exact bD (rs':=[.tmp 6]) r<|bL (v:=aB) r<|bC<|aR [] r r r lr aC
 ·
  refine bA<|bT<|aJ<|mL r ?_
  obtain ⟨x7,hx7,h8⟩:=aE h3
  refine aK3 (v:=.tup [aM,aI]) (σ':=[]) [0] 15 aNU r (mA hx7) ⟨lr,trivial⟩ ⟨aMh,r,trivial⟩ trivial r r r<|mV (v:=.tup [aM,aI]) r<|aQ r (xP (v:=aM) r r)<|aQ r (xP (v:=aI) r r)<|sV (v:=aM) r<|sI r<|aF (fr':=[(1,aI),(2,aI),(7,aM),(8,aI)]) r r<|aN<|aJ<|mI r<|aQ r (fU r r)<|mB r ?_
  refine og r r r (fun hc=>(aU (v:=aI) r))<|og r r r (fun hc=>(dU (gx r hc) r))<|aQ r (cB r r r (fun e=>fG e))<|mB r<|og r r r (fun hc=>(aU (v:=aI) r))<|og r r r (fun hc=>(aU (v:=aM) r))<|og r r r (fun hc=>(aMu yW (gx r hc)))<|og r r r (fun hc=>(qJ (gx r hc) (gx r hc)))<|aQ r (cB r r r (fun e=>fG e))<|mB r<|og r r r (fun hc=>(aU (v:=aM) r))<|og r r r (fun hc=>(aU (v:=aI) r)) ?_
  obtain ⟨x9,hx9,h10⟩:=aE h8
  refine og r r r (fun hc=>(aLR (cs:=[PV.int _ _]) uV (gx r hc) (gx r hc) (cV hx9 hc) r))<|og r r r (fun hc=>(aK7 (p:=PV.int _ _) tv5 (gx r hc) r))<|og r r r (fun hc=>(aU (v:=aI) r))<|og r r r (fun hc=>(bX (gx r hc) (gx r hc)))<|aQ r (cB r r r (fun e=>fG e))<|aF (fr':=[(1,aI),(2,aI),(7,aM),(37,aB)]) r r<|cC h10 r (fun hb11 h11=>?_) (fun hb11 h11=>?_)
  ·
   refine aN<|aT ?_
   obtain ⟨x12,hx12,h13⟩:=aE h11
   refine jZ (bG (v:=aB) r (tI hx12) trivial r r r)<|sB r<|aF (fr':=[(6,aB)]) r r<|bE<|aK ?_
   obtain rfl:=sy h13
   exact bD (rs':=[.tmp 6]) r<|bL (v:=aB) r<|bC<|aR [] r r r lr aC
  ·
   refine bA<|bT<|aJ<|mV (v:=aM) r<|mI r<|mI r ?_
   obtain ⟨x15,hx15,h16⟩:=aE h11
   refine aQ r (aLR (cs:=[PV.int _ _]) uV r r hx15 r) ?_
   obtain ⟨x17,hx17,h18⟩:=aE h16
   refine aNa (v:=aI) (cs:=[PV.int _ _]) (row:=eD) (xs:=x7.1) (u:=x17) [] [(42,0)] tv5 r r r r r r (aEl hx17) ⟨r,trivial⟩ r r<|aF (fr':=[(7,aM)]) r r<|aJ<|mV (v:=aM) r ?_
   obtain ⟨x19,hx19,h20⟩:=aE h18
   refine aMm 240 1 eD (List.set x7.1 (Int.toNat aCq) x17) r r (bG (v:=.tup [aO,aI]) r (nG hx19) ⟨lr,trivial⟩ r r r)<|mV (v:=.tup [aO,aI]) r<|aQ r (xP (v:=aO) r r)<|aQ r (xP (v:=aI) r r)<|sV (v:=aO) r<|sI r<|aF (fr':=[(8,aI),(9,aO)]) r r<|aJ<|mI r<|aQ r (bX r r)<|mB r<|og r r r (fun hc=>(aU (v:=aO) r)) ?_
   refine og r r r (fun hc=>(eX aF6 (qF (gx r hc))))<|og r r r (fun hc=>(bX (gx r hc) r))<|aQ r (bS r r r (fun e=>fG e))<|mB r ?_
   obtain ⟨x21,hx21,h22⟩:=aE h20
   refine vQ r r (fun hc=>bG (v:=aB) r (tI (cV hx21 hc)) trivial (fT (by repeat (first | exact eK | refine aY r ?_ | refine aY (rI r) ?_ | refine aY rH ?_))) r r) ?_
   refine aQ r (bS r r r (fun e=>fG e))<|sB r<|aF (fr':=[(6,aB)]) r r<|bE ?_
   obtain rfl:=sy h22
   exact bD (rs':=[.tmp 6]) r<|bL (v:=aB) r<|bC<|aR [] r r r lr aC
end Go.Proofs.YtnigjppddilpcaaGreatDoor
