import Derived.Test.YtnigjppddilpcaaGreatDoorGETy
import Derived.Test.YtnigjppddilpcaaGreatDoorGEF0
import Derived.Test.YtnigjppddilpcaaGreatDoorGEF1
import Derived.Test.YtnigjppddilpcaaGreatDoorGEF2
import Derived.Test.YtnigjppddilpcaaGreatDoorGEF3
import Derived.Test.YtnigjppddilpcaaGreatDoorGEF4
import Derived.Test.YtnigjppddilpcaaGreatDoorGEF6
import Derived.Test.YtnigjppddilpcaaGreatDoorGEF10
import Derived.Test.YtnigjppddilpcaaGreatDoorGEF12
namespace Go.Proofs.YtnigjppddilpcaaGreatDoor
open Go Abs
set_option maxRecDepth 100000
set_option linter.unusedVariables false
set_option linter.unusedSimpArgs false
noncomputable def iQ (p0n:Int) (mF:Int) (iO:Int):Option Bool :=
 some (cond (decide (mF≤p0n)) (decide (p0n≤iO)) false)
theorem jM {p0n:Int}{mF:Int}{iO:Int}{res:Bool} (h:iQ p0n mF iO=some res):bT Tryz.prog 98 [ci p0n,ci mF,ci iO] [] (.c (.bool res)) []:=by
 unfold iQ at h
 refine cJ (fn:=Tryz.f98) [0,1,2,6] (by kernel_rfl) Tryz.func98 r (by kernel_rfl) (by kernel_rfl)<|aH<|sB r<|aF (fr':=[(0,aI),(1,aI),(2,aI)]) r r<|aH<|mI r<|mI r<|aK r (lC r r)<|mB r<|og r r r (fun hc=>(bC (v:=aI) r))<|og r r r (fun hc=>(bC (v:=aI) r)) ?_
 refine og r r r (fun hc=>(lI (gx r hc) (gx r hc)))<|aK r (bM r r r (fun e=>eI e))<|sB r<|aF (fr':=[(6,aB)]) r r<|bF ?_
 obtain rfl:=sy h
 exact bE (rs':=[.tmp 6]) r<|bG (v:=aB) r<|bD<|aN [] r r r lr aC
noncomputable def yJ (p0s:(List UInt8)) (s4:Int):Option (cM Int (Fl Bool Unit)) :=
 cond (decide (s4<((p0s).length:Int))) ((jT p0s s4).bind fun x6=>(gd ((decide (((x6).toNat:Int)<(33:Int)))==false) (jT p0s s4)).bind fun x8=>(gd ((cond (decide (((x6).toNat:Int)<(33:Int))) true (decide ((126:Int)<((x8).toNat:Int))))==false) (jT p0s s4)).bind fun x10=>(gd ((cond (cond (decide (((x6).toNat:Int)<(33:Int))) true (decide ((126:Int)<((x8).toNat:Int)))) true (decide (((x10).toNat:Int)=(47:Int))))==false) (jT p0s s4)).bind fun x12=>cond (cond (cond (cond (decide (((x6).toNat:Int)<(33:Int))) true (decide ((126:Int)<((x8).toNat:Int)))) true (decide (((x10).toNat:Int)=(47:Int)))) true (decide (((x12).toNat:Int)=(34:Int)))) (some (cM.out (Fl.done false))) (some (cM.next (IntKind.wrap .i64 (s4+(1:Int)))))) (some (cM.out (Fl.go ())))
noncomputable def mX (p0s:(List UInt8)):Option Bool :=
 ((eQ (yJ p0s) ((0:Int))):Option (Fl Bool Unit)).bind fun x1=>Fl.next x1 (fun j3=>((iQ ((p0s).length:Int) (1:Int) (64:Int)).bind fun x20=>some x20))
theorem vO {p0s:(List UInt8)}{res:Bool} (h:mX p0s=some res):bT Tryz.prog 101 [.c (.str p0s)] [] (.c (.bool res)) []:=by
 unfold mX at h
 refine cJ (fn:=Tryz.f101) [0,2,3,5,6,7,30] (by kernel_rfl) Tryz.func101 r (by kernel_rfl) (by kernel_rfl)<|aH<|sB r<|aF (fr':=[(0,aS)]) r r<|aR<|aH<|mS r<|aK r (gS nJ r)<|mI r<|aF (fr':=[(0,aS),(5,aI),(6,aI)]) r r ?_
 obtain ⟨x1,hx1,h2⟩:=aE h
 refine eR gX (fun j3=>x1=Fl.go j3) (fun (j3:Unit)=>([(0,.c (.str p0s))]:Fr)) (fun (j3:Unit)=>([]:St)) ?_ ?_
 ·
  refine bL<|eK _ (fun (s4:Int)=>([(0,.c (.str p0s)),(5,ci ((p0s).length:Int)),(6,ci s4)]:Fr)) (fun (s4:Int)=>([]:St)) hx1 (aU [] 0 r r r r ⟨lr,lr,lr,trivial⟩ aC) ?_
  intro s4 st4 hs4 ho4
  unfold yJ at hs4
  refine aH<|aK r (eA r r)<|aF (fr':=[(0,aS),(5,aI),(6,aI),(7,aB)]) r r<|aR<|bS hs4 r (fun hb5 h5=>?_) (fun hb5 h5=>?_)
  ·
   refine aW<|bZ<|aR<|bL<|aH<|mI r<|sI r<|aF (fr':=[(0,aS),(3,aI),(5,aI),(6,aI)]) r r<|aH<|mS r<|mI r ?_
   obtain ⟨x6,hx6,h7⟩:=aE h5
   refine aK r (xI nJ r r hx6)<|aK r (eA r r)<|mB r<|og r r r (fun hc=>(bC (v:=aS) r))<|og r r r (fun hc=>(bC (v:=aI) r)) ?_
   obtain ⟨x8,hx8,h9⟩:=aE h7
   refine og r r r (fun hc=>(xI nJ (gx r hc) (gx r hc) (cG hx8 hc)))<|og r r r (fun hc=>(mG (gx r hc) r))<|aK r (bX r r r (fun e=>eI e))<|mB r<|og r r r (fun hc=>(bC (v:=aS) r))<|og r r r (fun hc=>(bC (v:=aI) r)) ?_
   obtain ⟨x10,hx10,h11⟩:=aE h9
   refine og r r r (fun hc=>(xI nJ (gx r hc) (gx r hc) (cG hx10 hc)))<|og r r r (fun hc=>(bO (gx r hc) r))<|aK r (bX r r r (fun e=>eI e))<|mB r<|og r r r (fun hc=>(bC (v:=aS) r))<|og r r r (fun hc=>(bC (v:=aI) r)) ?_
   obtain ⟨x12,hx12,h13⟩:=aE h11
   refine og r r r (fun hc=>(xI nJ (gx r hc) (gx r hc) (cG hx12 hc)))<|og r r r (fun hc=>(bO (gx r hc) r))<|aK r (bX r r r (fun e=>eI e))<|aF (fr':=[(0,aS),(5,aI),(6,aI),(30,aB)]) r r<|bS h13 r (fun hb14 h14=>?_) (fun hb14 h14=>?_)
   ·
    refine aH<|sB r<|aF (fr':=[(2,aB)]) r r<|bF<|bH<|aM<|aM<|bH<|aM<|aM ?_
    have h15:=dB h14 ho4
    have h16:=eH h15 h2
    obtain rfl:=sy h16
    exact bE (rs':=[.tmp 2]) r<|bG (v:=aB) r<|bD<|aN [] r r r lr aC
   ·
    exact aW<|bW<|bZ<|aT<|aK r (dZ r r)<|mI r<|cD (fr':=[(0,aS),(5,aI),(6,aI),(30,aB)]) r<|tU _ (sy h14) (aU [] 0 r r r r ⟨lr,lr,lr,trivial⟩ aC)
  ·
   refine eZ<|bY<|bY<|dX ?_
   have h18:=dB h5 ho4
   exact fS _ (sy h18) (aU [] 0 r r r r ⟨lr,trivial⟩ aC)
 ·
  intro j3 hj19
  have h19:=iS hj19 h2
  refine bZ<|aH<|mS r<|aK r (gS nJ r) ?_
  obtain ⟨x20,hx20,h21⟩:=aE h19
  refine gW (aY (v:=aB) r (jM hx20) ⟨lr,lr,lr,trivial⟩ r r r)<|sB r<|aF (fr':=[(2,aB)]) r r<|bF ?_
  obtain rfl:=sy h21
  exact bE (rs':=[.tmp 2]) r<|bG (v:=aB) r<|bD<|aN [] r r r lr aC
noncomputable def sE (p0s:(List UInt8)):Option Bool :=
 (uU p0s).bind fun x1=>some (cond (decide (p0s=([]:List UInt8))) true x1.2)
theorem aBK {p0s:(List UInt8)}{res:Bool} (h:sE p0s=some res):bT Tryz.prog 102 [.c (.str p0s)] [] (.c (.bool res)) []:=by
 unfold sE at h
 refine cJ (fn:=Tryz.f102) [0,2,4] (by kernel_rfl) Tryz.func102 r (by kernel_rfl) (by kernel_rfl)<|aH<|sB r<|aF (fr':=[(0,aS)]) r r<|aH<|mS r ?_
 obtain ⟨x1,hx1,h2⟩:=aE h
 refine gW (aY (v:=.tup [aI,aB]) r (aGy hx1) ⟨lr,trivial⟩ r r r)<|mV (v:=.tup [aI,aB]) r<|aK r (uY (v:=aI) r r)<|aK r (uY (v:=aB) r r)<|sI r<|sB r<|aF (fr':=[(0,aS),(4,aB)]) r r<|aH<|mS r<|aK r (kX r r)<|mB r<|og r r r (fun hc=>(bC (v:=aB) r)) ?_
 refine aK r (bX r r r (fun e=>eI e))<|sB r<|aF (fr':=[(2,aB)]) r r<|bF ?_
 obtain rfl:=sy h2
 exact bE (rs':=[.tmp 2]) r<|bG (v:=aB) r<|bD<|aN [] r r r lr aC
noncomputable def pA (p0C:(List UInt8)) (p1o:(List UInt8)):Option Int :=
 match p1o with
 | [c]=>some (Lib.indexByte p0C c)
 | _=>none
theorem aBq {p0C:(List UInt8)}{p1o:(List UInt8)}{res:Int} (h:pA p0C p1o=some res):bT Tryz.prog 224 [.c (.str p0C),.c (.str p1o)] [] (ci res) []:=by
 unfold pA at h
 split at h
 ·
  rename_i c
  cases h
  refine aBM (by kernel_rfl) fun g w vs hv hI hg=>?_
  rw [aKS hv]
  refine (Tryz.stringslite_Index_one ⟨p0C.toArray⟩ c w).mono fun e w'=>?_
  rintro ⟨rfl,rfl⟩
  exact ⟨_,r,RowKit.Below.refl _ _,fun g'=>.c (.int _ _)⟩
 ·
  cases h
noncomputable def rO (p0s:(List UInt8)) (aAC:(List UInt8)):Option ((List UInt8) × (List UInt8) × Bool) :=
 (pA p0s aAC).bind fun x1=>cond (decide ((0:Int)≤x1)) ((aNi p0s x1).bind fun x4=>(aKn p0s (IntKind.wrap .i64 (x1+((aAC).length:Int)))).bind fun x6=>some ((List.take (Int.toNat x1) p0s),(List.drop (Int.toNat (IntKind.wrap .i64 (x1+((aAC).length:Int)))) p0s),true)) (some (p0s,([]:List UInt8),false))
theorem aC2 {p0s:(List UInt8)}{aAC:(List UInt8)}{res:((List UInt8) × (List UInt8) × Bool)} (h:rO p0s aAC=some res):bT Tryz.prog 214 [.c (.str p0s),.c (.str aAC)] [] (.tup [.c (.str res.1),.c (.str res.2.1),.c (.bool res.2.2)]) []:=by
 unfold rO at h
 refine cJ (fn:=Tryz.f214) [0,1,4,5,6,7,12] (by kernel_rfl) Tryz.func214 r (by kernel_rfl) (by kernel_rfl)<|aH<|sS r<|sS r<|sB r<|aF (fr':=[(0,aS),(1,aS)]) r r<|aR<|aH<|mS r<|mS r ?_
 obtain ⟨x1,hx1,h2⟩:=aE h
 refine gW (aY (v:=aI) r (aBq hx1) ⟨lr,lr,trivial⟩ r r r)<|sI r<|aF (fr':=[(0,aS),(1,aS),(7,aI)]) r r<|aH<|mI r<|aK r (lC r r)<|aF (fr':=[(0,aS),(1,aS),(7,aI),(12,aB)]) r r<|bS h2 r (fun hb3 h3=>?_) (fun hb3 h3=>?_)
 ·
  refine aR<|hF [.q 0,.q 1,.q 2,.q 3,.q 4,.q 5,.q 6,.q 7,.q 8,.n 9 [3,4,5,6,7,8],.n 10 [],.n 11 []] [(some 13,[0]),(some 14,[7]),(some 15,[13,14]),(some 16,[0]),(some 17,[7]),(some 18,[1]),(some 19,[18]),(some 20,[17,19]),(some 21,[16,20]),(some 4,[15]),(some 5,[21]),(some 6,[])] [0,0,3,0,0,0,32,112,248,7,1023,2047] (by kernel_rfl)<|dq r r (bC (v:=aS) r)<|dq r r (bC (v:=aI) r) ?_
  obtain ⟨x4,hx4,h5⟩:=aE h3
  refine dq r r (aKQ nJ r r (aG9 hx4).1)<|dq r r (bC (v:=aS) r)<|dq r r (bC (v:=aI) r)<|dq r r (bC (v:=aS) r)<|dq r r (gS nJ r)<|dq r r (dZ r r) ?_
  obtain ⟨x6,hx6,h7⟩:=aE h5
  refine dq r r (aEJ nJ r r (yK hx6).1)<|d_n r ?_ r
  refine sS r<|yD<|⟨(aBo (v:=aS) r r (mJ r (bC (v:=aS) r)) (aBo (v:=aI) r r (mJ r (bC (v:=aI) r)) (aBo (v:=aS) r r (mJ r (bC (v:=aS) r)) (aBo (v:=aI) r r (mJ r (gS nJ r)) (aBo (v:=aI) r r (mJ r (dZ r r)) (aBo (v:=aS) r r (mJ r (aEJ nJ r r (yK hx6).1)) nH)))))),?_⟩
  refine d_n r ?_ r
  refine sS r<|yD<|⟨nH,?_⟩
  refine d_n r ?_ r
  refine sB r<|yD<|⟨nH,?_⟩
  refine tS (fr':=[(4,aS),(5,aS),(6,aB)]) r r<|bF<|aM ?_
  obtain rfl:=sy h7
  exact bE (rs':=[.tmp 4,.tmp 5,.tmp 6]) r<|bG (v:=aS) r<|bG (v:=aS) r<|bG (v:=aB) r<|bD<|aN [] r r r (kW r ⟨lr,lr,lr,trivial⟩) aC
 ·
  refine aW<|bZ<|aH<|mS r<|sS r<|sS r<|sB r<|aF (fr':=[(4,aS),(5,aS),(6,aB)]) r r<|bF ?_
  obtain rfl:=sy h3
  exact bE (rs':=[.tmp 4,.tmp 5,.tmp 6]) r<|bG (v:=aS) r<|bG (v:=aS) r<|bG (v:=aB) r<|bD<|aN [] r r r (kW r ⟨lr,lr,lr,trivial⟩) aC
noncomputable def vB (p0s:(List UInt8)) (aAC:(List UInt8)):Option ((List UInt8) × (List UInt8) × Bool) :=
 (rO p0s aAC).bind fun x1=>some (x1.1,x1.2.1,x1.2.2)
theorem aGE {p0s:(List UInt8)}{aAC:(List UInt8)}{res:((List UInt8) × (List UInt8) × Bool)} (h:vB p0s aAC=some res):bT Tryz.prog 197 [.c (.str p0s),.c (.str aAC)] [] (.tup [.c (.str res.1),.c (.str res.2.1),.c (.bool res.2.2)]) []:=by
 unfold vB at h
 refine cJ (fn:=Tryz.f197) [0,1,4,5,6] (by kernel_rfl) Tryz.func197 r (by kernel_rfl) (by kernel_rfl)<|aH<|sS r<|sS r<|sB r<|aF (fr':=[(0,aS),(1,aS)]) r r<|aH<|mS r<|mS r ?_
 obtain ⟨x1,hx1,h2⟩:=aE h
 refine gW (aY (v:=.tup [aS,aS,aB]) r (aC2 hx1) ⟨lr,lr,trivial⟩ r r r)<|aK r (uY (v:=aS) r r)<|aK r (uY (v:=aS) r r)<|aK r (uY (v:=aB) r r)<|sS r<|sS r<|sB r<|aF (fr':=[(4,aS),(5,aS),(6,aB)]) r r<|bF ?_
 obtain rfl:=sy h2
 exact bE (rs':=[.tmp 4,.tmp 5,.tmp 6]) r<|bG (v:=aS) r<|bG (v:=aS) r<|bG (v:=aB) r<|bD<|aN [] r r r (kW r ⟨lr,lr,lr,trivial⟩) aC
noncomputable def qL (p0s:(List UInt8)) (aCE:(List UInt8)):Option Bool :=
 match aCE with
 | [c]=>some (decide (0≤Lib.indexByte p0s c))
 | _=>none
theorem aCe {p0s:(List UInt8)}{aCE:(List UInt8)}{res:Bool} (h:qL p0s aCE=some res):bT Tryz.prog 198 [.c (.str p0s),.c (.str aCE)] [] (.c (.bool res)) []:=by
 unfold qL at h
 split at h
 ·
  rename_i c
  cases h
  refine aBM (by kernel_rfl) fun g w vs hv hI hg=>?_
  rw [aKS hv]
  refine (Tryz.strings_Contains_one ⟨p0s.toArray⟩ c w).mono fun e w'=>?_
  rintro ⟨rfl,rfl⟩
  exact ⟨_,r,RowKit.Below.refl _ _,fun g'=>.c (.bool _)⟩
 ·
  cases h
noncomputable def wQ (sN:(List UInt8)):Option ((List UInt8) × (List UInt8) × Bool) :=
 (vB sN ([47]:List UInt8)).bind fun x1=>(gd ((!x1.2.2)==false) (qL x1.2.1 ([47]:List UInt8))).bind fun x3=>cond (cond (!x1.2.2) true x3) (some (([]:List UInt8),([]:List UInt8),false)) (some (x1.1,x1.2.1,true))
theorem aHT {sN:(List UInt8)}{res:((List UInt8) × (List UInt8) × Bool)} (h:wQ sN=some res):bT Tryz.prog 162 [.c (.str sN)] [] (.tup [.c (.str res.1),.c (.str res.2.1),.c (.bool res.2.2)]) []:=by
 unfold wQ at h
 refine cJ (fn:=Tryz.f162) [0,2,3,4,5,6,7,19] (by kernel_rfl) Tryz.func162 r (by kernel_rfl) (by kernel_rfl)<|aH<|sS r<|sS r<|sB r<|aF (fr':=[(0,aS)]) r r<|aH<|mS r ?_
 obtain ⟨x1,hx1,h2⟩:=aE h
 refine gW (aY (v:=.tup [aS,aS,aB]) r (aGE hx1) ⟨lr,lr,trivial⟩ r r r)<|mV (v:=.tup [aS,aS,aB]) r<|aK r (uY (v:=aS) r r)<|aK r (uY (v:=aS) r r)<|aK r (uY (v:=aB) r r)<|sS r<|sS r<|sB r<|aF (fr':=[(5,aS),(6,aS),(7,aB)]) r r<|aR<|aH<|mB r ?_
 refine aK r (eD r)<|mB r<|og r r r (fun hc=>(bC (v:=aS) r)) ?_
 obtain ⟨x3,hx3,h4⟩:=aE h2
 refine rZ r r (fun hc=>aY (v:=aB) r (aCe (cG hx3 hc)) ⟨(dW (gx r hc) lr),lr,trivial⟩ (fC (by repeat (first | exact dT | refine aX r ?_ | refine aX (oQ r) ?_ | refine aX oP ?_))) r r) ?_
 refine aK r (bX r r r (fun e=>eI e))<|aF (fr':=[(5,aS),(6,aS),(19,aB)]) r r<|bS h4 r (fun hb5 h5=>?_) (fun hb5 h5=>?_)
 ·
  refine aH<|sS r<|sS r<|sB r<|aF (fr':=[(2,aS),(3,aS),(4,aB)]) r r<|bF<|aM ?_
  obtain rfl:=sy h5
  exact bE (rs':=[.tmp 2,.tmp 3,.tmp 4]) r<|bG (v:=aS) r<|bG (v:=aS) r<|bG (v:=aB) r<|bD<|aN [] r r r (kW r ⟨lr,lr,lr,trivial⟩) aC
 ·
  refine aW<|bZ<|aH<|mS r<|mS r<|sS r<|sS r<|sB r<|aF (fr':=[(2,aS),(3,aS),(4,aB)]) r r<|bF ?_
  obtain rfl:=sy h5
  exact bE (rs':=[.tmp 2,.tmp 3,.tmp 4]) r<|bG (v:=aS) r<|bG (v:=aS) r<|bG (v:=aB) r<|bD<|aN [] r r r (kW r ⟨lr,lr,lr,trivial⟩) aC
noncomputable def pR (p0s:(List UInt8)):Option Bool :=
 (wQ p0s).bind fun x1=>some (cond (decide (p0s=([]:List UInt8))) true (cond x1.2.2 (decide (((p0s).length:Int)≤(4096:Int))) false))
theorem aDM {p0s:(List UInt8)}{res:Bool} (h:pR p0s=some res):bT Tryz.prog 103 [.c (.str p0s)] [] (.c (.bool res)) []:=by
 unfold pR at h
 refine cJ (fn:=Tryz.f103) [0,2,5] (by kernel_rfl) Tryz.func103 r (by kernel_rfl) (by kernel_rfl)<|aH<|sB r<|aF (fr':=[(0,aS)]) r r<|aH<|mS r ?_
 obtain ⟨x1,hx1,h2⟩:=aE h
 refine gW (aY (v:=.tup [aS,aS,aB]) r (aHT hx1) ⟨lr,trivial⟩ r r r)<|mV (v:=.tup [aS,aS,aB]) r<|aK r (uY (v:=aS) r r)<|aK r (uY (v:=aS) r r)<|aK r (uY (v:=aB) r r)<|sS r<|sS r<|sB r<|aF (fr':=[(0,aS),(5,aB)]) r r<|aH<|mS r<|aK r (kX r r) ?_
 refine mB r<|og r r r (fun hc=>(bC (v:=aB) r))<|og r r r (fun hc=>(bC (v:=aB) (gx r hc)))<|eJ r r (fun hc=>eU r (bC (v:=aS) r))<|eJ r r (fun hc=>eU r (gS nJ (gx r hc)))<|eJ r r (fun hc=>eU r (lI (gx r hc) r))<|og r r r (fun hc=>(bM (gx r hc) r r (fun e=>oO hc (eI e))))<|aK r (bX r r r (fun e=>eI e))<|sB r<|aF (fr':=[(2,aB)]) r r<|bF ?_
 obtain rfl:=sy h2
 exact bE (rs':=[.tmp 2]) r<|bG (v:=aB) r<|bD<|aN [] r r r lr aC
noncomputable def rN (p0c:bI):Option Bool :=
 (mQ p0c).bind fun x1=>some (!x1)
theorem aC1 {p0c:bI}{res:Bool} (h:rN p0c=some res):bT Tryz.prog 105 [.agg (AV.cs (bR p0c))] [] (.c (.bool res)) []:=by
 unfold rN at h
 refine cJ (fn:=Tryz.f105) [0,1,2] (by kernel_rfl) Tryz.func105 r (by kernel_rfl) (by kernel_rfl)<|aH<|fW (v:=.agg aP) (n:=0) (cs:=aP) (σ':=[aP]) r r r r r<|sB r<|aF (fr':=[(1,.box 0 0)]) r r<|aH<|aK r (cN (us:=aP) nR r r r r) ?_
 obtain ⟨x1,hx1,h2⟩:=aE h
 refine gW (aY (v:=aB) r (vM hx1) ⟨(bP r ⟨r,r,r,r,r,r,r,r,r,r,r,r,r,r,r,r,r,r,r,r,trivial⟩),trivial⟩ r r r)<|aK r (eD r)<|sB r<|aF (fr':=[(2,aB)]) r r<|bF ?_
 obtain rfl:=sy h2
 exact bE (rs':=[.tmp 2]) r<|bG (v:=aB) r<|bD<|aN [] r r r lr aC
noncomputable def dF (p0s:(List bI)) (s4:Int):Option (cM Int (Fl Int Unit)) :=
 cond (decide (s4<((p0s).length:Int))) ((jT p0s s4).bind fun x6=>(rN x6).bind fun x8=>cond x8 (some (cM.out (Fl.done s4))) (some (cM.next (IntKind.wrap .i64 (s4+(1:Int)))))) (some (cM.out (Fl.go ())))
noncomputable def eF (p0s:(List bI)):Option Int :=
 ((eQ (dF p0s) ((0:Int))):Option (Fl Int Unit)).bind fun x1=>Fl.next x1 (fun j3=>(some (-1:Int)))
theorem jH {p0s:(List bI)}{res:Int} (h:eF p0s=some res):bT Tryz.prog 163 [.c (PV.ls 20 bR p0s),.fn 105 []] [] (ci res) []:=by
 unfold eF at h
 refine cJ (fn:=Tryz.f163) [0,1,4,5,7,8,9,16] (by kernel_rfl) Tryz.func163 r (by kernel_rfl) (by kernel_rfl)<|aH<|sI r<|aF (fr':=[(0,aL),(1,.fn _ [])]) r r<|aR<|aH<|mL r<|aK r (eC aCb (cR r))<|mI r<|aF (fr':=[(0,aL),(1,.fn _ []),(7,aI),(8,aI)]) r r ?_
 obtain ⟨x1,hx1,h2⟩:=aE h
 refine eR gX (fun j3=>x1=Fl.go j3) (fun (j3:Unit)=>([]:Fr)) (fun (j3:Unit)=>([]:St)) ?_ ?_
 ·
  refine bL<|eK _ (fun (s4:Int)=>([(0,.c (PV.ls 20 bR p0s)),(1,.fn 105 []),(7,ci ((p0s).length:Int)),(8,ci s4)]:Fr)) (fun (s4:Int)=>([]:St)) hx1 (aU [] 0 r r r r ⟨lr,lr,lr,lr,trivial⟩ aC) ?_
  intro s4 st4 hs4 ho4
  unfold dF at hs4
  refine aH<|aK r (eA r r)<|aF (fr':=[(0,aL),(1,.fn _ []),(7,aI),(8,aI),(9,aB)]) r r<|aR<|bS hs4 r (fun hb5 h5=>?_) (fun hb5 h5=>?_)
  ·
   refine aW<|bZ<|aR<|bL<|aH<|mI r<|sI r<|aF (fr':=[(0,aL),(1,.fn _ []),(5,aI),(7,aI),(8,aI)]) r r<|aH<|mV (v:=.fn _ []) r<|mL r ?_
   refine mI r ?_
   obtain ⟨x6,hx6,h7⟩:=aE h5
   refine aK r (iL (cs:=[PV.int _ _,PV.int _ _,PV.str _,PV.str _,PV.int _ _,PV.int _ _,PV.int _ _,PV.str _,PV.ls _ _ _,PV.ls _ _ _,PV.str _,PV.int _ _,PV.int _ _,PV.int _ _,PV.int _ _,PV.int _ _,PV.int _ _,PV.int _ _,PV.int _ _,PV.ls _ _ _]) aJi (cR r) r hx6 r)<|aK r (hG (us:=[PV.int _ _,PV.int _ _,PV.str _,PV.str _,PV.int _ _,PV.int _ _,PV.int _ _,PV.str _,PV.ls _ _ _,PV.ls _ _ _,PV.str _,PV.int _ _,PV.int _ _,PV.int _ _,PV.int _ _,PV.int _ _,PV.int _ _,PV.int _ _,PV.int _ _,PV.ls _ _ _]) nR r r r) ?_
   obtain ⟨x8,hx8,h9⟩:=aE h7
   refine gW (aY (v:=aB) r (aC1 hx8) ⟨(bP r ⟨r,r,r,r,r,r,r,r,r,r,r,r,r,r,r,r,r,r,r,r,trivial⟩),trivial⟩ r r r)<|aF (fr':=[(0,aL),(1,.fn _ []),(5,aI),(7,aI),(8,aI),(16,aB)]) r r<|bS h9 r (fun hb10 h10=>?_) (fun hb10 h10=>?_)
   ·
    refine aH<|mI r<|sI r<|aF (fr':=[(4,aI)]) r r<|bF<|bH<|aM<|aM<|bH<|aM<|aM ?_
    have h11:=dB h10 ho4
    have h12:=eH h11 h2
    obtain rfl:=sy h12
    exact bE (rs':=[.tmp 4]) r<|bG (v:=aI) r<|bD<|aN [] r r r lr aC
   ·
    exact aW<|bW<|bZ<|aT<|aK r (dZ r r)<|mI r<|cD (fr':=[(0,aL),(1,.fn _ []),(5,aI),(7,aI),(8,aI),(16,aB)]) r<|tU _ (sy h10) (aU [] 0 r r r r ⟨lr,lr,lr,lr,trivial⟩ aC)
  ·
   refine eZ<|bY<|bY<|dX ?_
   have h14:=dB h5 ho4
   exact fS _ (sy h14) (aU [] 0 r r r r trivial aC)
 ·
  intro j3 hj15
  have h15:=iS hj15 h2
  refine bZ<|aH<|sI r<|aF (fr':=[(4,aI)]) r r<|bF ?_
  obtain rfl:=sy h15
  exact bE (rs':=[.tmp 4]) r<|bG (v:=aI) r<|bD<|aN [] r r r lr aC
noncomputable def dE (p0s:(List bI)):Option Bool :=
 (eF p0s).bind fun x1=>some (decide ((0:Int)≤x1))
theorem iW {p0s:(List bI)}{res:Bool} (h:dE p0s=some res):bT Tryz.prog 104 [.c (PV.ls 20 bR p0s),.fn 105 []] [] (.c (.bool res)) []:=by
 unfold dE at h
 refine cJ (fn:=Tryz.f104) [0,1,4] (by kernel_rfl) Tryz.func104 r (by kernel_rfl) (by kernel_rfl)<|aH<|sB r<|aF (fr':=[(0,aL),(1,.fn _ [])]) r r<|aH<|mL r<|mV (v:=.fn _ []) r ?_
 obtain ⟨x1,hx1,h2⟩:=aE h
 refine gW (aY (v:=aI) r (jH hx1) ⟨lr,lr,trivial⟩ r r r)<|aK r (lC r r)<|sB r<|aF (fr':=[(4,aB)]) r r<|bF ?_
 obtain rfl:=sy h2
 exact bE (rs':=[.tmp 4]) r<|bG (v:=aB) r<|bD<|aN [] r r r lr aC
noncomputable def pQ (p0q:bK):Option Bool :=
 cond (decide (p0q.Kind=(1:Int))) ((iQ p0q.N (0:Int) (2:Int)).bind fun x2=>some x2) (cond (decide (p0q.Kind=(8:Int))) ((iQ p0q.N (1:Int) (30:Int)).bind fun x6=>some x6) (cond (decide (p0q.Kind=(9:Int))) ((iQ p0q.N (1:Int) (1000:Int)).bind fun x10=>some x10) (cond (decide (p0q.Kind=(15:Int))) (some (cond (cond (decide (p0q.N=(20:Int))) true (decide (p0q.N=(21:Int)))) true (decide (p0q.N=(22:Int))))) (cond (decide (p0q.Kind=(16:Int))) (some (cond (decide (p0q.N=(24:Int))) true (decide (p0q.N=(25:Int))))) (cond (decide (p0q.Kind=(17:Int))) (some (decide ((1:Int)≤p0q.N))) (some true))))))
theorem aDL {p0q:bK}{res:Bool} (h:pQ p0q=some res):bT Tryz.prog 107 [.agg (AV.cs (fD p0q))] [] (.c (.bool res)) []:=by
 unfold pQ at h
 refine cJ (fn:=Tryz.f107) [0,1,2,4,5,10,15,20,35,45] (by kernel_rfl) Tryz.func107 r (by kernel_rfl) (by kernel_rfl)<|aH<|fW (v:=.agg aD) (n:=0) (cs:=aD) (σ':=[aD]) r r r r r<|sB r<|aF (fr':=[(1,.box 0 0)]) r r<|aR<|aH<|aK r (aZ jX r)<|aK r (aJ (v:=aI) eB r r r)<|aF (fr':=[(1,.box 0 0),(4,aI)]) r r<|bL ?_
 refine aH<|aK r (bO r r)<|sB r<|aF (fr':=[(1,.box 0 0),(4,aI),(5,aB)]) r r<|bS h r (fun hb1 h1=>?_) (fun hb1 h1=>?_)
 ·
  refine aH<|aK r (aZ lL r)<|aK r (aJ (v:=aI) eB r r r) ?_
  obtain ⟨x2,hx2,h3⟩:=aE h1
  refine gW (aY (v:=aB) r (jM hx2) ⟨lr,lr,lr,trivial⟩ r r r)<|sB r<|aF (fr':=[(2,aB)]) r r<|bF<|bH<|aM ?_
  obtain rfl:=sy h3
  exact bE (rs':=[.tmp 2]) r<|bG (v:=aB) r<|bD<|aN [] r r r lr aC
 ·
  refine aH<|aK r (bO r r)<|sB r<|aF (fr':=[(1,.box 0 0),(4,aI),(10,aB)]) r r<|bS h1 r (fun hb5 h5=>?_) (fun hb5 h5=>?_)
  ·
   refine aH<|aK r (aZ lL r)<|aK r (aJ (v:=aI) eB r r r) ?_
   obtain ⟨x6,hx6,h7⟩:=aE h5
   refine gW (aY (v:=aB) r (jM hx6) ⟨lr,lr,lr,trivial⟩ r r r)<|sB r<|aF (fr':=[(2,aB)]) r r<|bF<|bH<|aM ?_
   obtain rfl:=sy h7
   exact bE (rs':=[.tmp 2]) r<|bG (v:=aB) r<|bD<|aN [] r r r lr aC
  ·
   refine aH<|aK r (bO r r)<|sB r<|aF (fr':=[(1,.box 0 0),(4,aI),(15,aB)]) r r<|bS h5 r (fun hb9 h9=>?_) (fun hb9 h9=>?_)
   ·
    refine aH<|aK r (aZ lL r)<|aK r (aJ (v:=aI) eB r r r) ?_
    obtain ⟨x10,hx10,h11⟩:=aE h9
    refine gW (aY (v:=aB) r (jM hx10) ⟨lr,lr,lr,trivial⟩ r r r)<|sB r<|aF (fr':=[(2,aB)]) r r<|bF<|bH<|aM ?_
    obtain rfl:=sy h11
    exact bE (rs':=[.tmp 2]) r<|bG (v:=aB) r<|bD<|aN [] r r r lr aC
   ·
    refine aH<|aK r (bO r r)<|sB r<|aF (fr':=[(1,.box 0 0),(4,aI),(20,aB)]) r r<|bS h9 r (fun hb13 h13=>?_) (fun hb13 h13=>?_)
    ·
     refine aH<|aK r (aZ lL r)<|aK r (aJ (v:=aI) eB r r r)<|aK r (bO r r)<|mB r<|og r r r (fun hc=>(aZ lL r))<|og r r r (fun hc=>(aJ (v:=aI) eB (gx r hc) r r))<|og r r r (fun hc=>(bO (gx r hc) r))<|aK r (bX r r r (fun e=>eI e))<|mB r<|og r r r (fun hc=>(aZ lL r))<|og r r r (fun hc=>(aJ (v:=aI) eB (gx r hc) r r)) ?_
     refine og r r r (fun hc=>(bO (gx r hc) r))<|aK r (bX r r r (fun e=>eI e))<|sB r<|aF (fr':=[(2,aB)]) r r<|bF<|bH<|aM ?_
     obtain rfl:=sy h13
     exact bE (rs':=[.tmp 2]) r<|bG (v:=aB) r<|bD<|aN [] r r r lr aC
    ·
     refine aH<|aK r (bO r r)<|sB r<|aF (fr':=[(1,.box 0 0),(4,aI),(35,aB)]) r r<|bS h13 r (fun hb15 h15=>?_) (fun hb15 h15=>?_)
     ·
      refine aH<|aK r (aZ lL r)<|aK r (aJ (v:=aI) eB r r r)<|aK r (bO r r)<|mB r<|og r r r (fun hc=>(aZ lL r))<|og r r r (fun hc=>(aJ (v:=aI) eB (gx r hc) r r))<|og r r r (fun hc=>(bO (gx r hc) r))<|aK r (bX r r r (fun e=>eI e))<|sB r<|aF (fr':=[(2,aB)]) r r<|bF ?_
      refine bH<|aM ?_
      obtain rfl:=sy h15
      exact bE (rs':=[.tmp 2]) r<|bG (v:=aB) r<|bD<|aN [] r r r lr aC
     ·
      refine aH<|aK r (bO r r)<|sB r<|aF (fr':=[(1,.box 0 0),(45,aB)]) r r<|bS h15 r (fun hb17 h17=>?_) (fun hb17 h17=>?_)
      ·
       refine aH<|aK r (aZ lL r)<|aK r (aJ (v:=aI) eB r r r)<|aK r (lC r r)<|sB r<|aF (fr':=[(2,aB)]) r r<|bF<|bH<|aM ?_
       obtain rfl:=sy h17
       exact bE (rs':=[.tmp 2]) r<|bG (v:=aB) r<|bD<|aN [] r r r lr aC
      ·
       refine aW<|bW<|bZ<|aH<|sB r<|aF (fr':=[(2,aB)]) r r<|bF ?_
       obtain rfl:=sy h17
       exact bE (rs':=[.tmp 2]) r<|bG (v:=aB) r<|bD<|aN [] r r r lr aC
noncomputable def rA (p0q:bK) (p1u:eN):Option Bool :=
 cond (decide (p0q.Kind=(15:Int))) ((sE p0q.ID).bind fun x2=>some (cond x2 (decide (((p0q.Name).length:Int)≤(4096:Int))) false)) (cond (decide (p0q.Kind=(16:Int))) (some (decide (((p0q.Name).length:Int)≤(4096:Int)))) (cond (decide (p0q.Kind=(4:Int))) (some (decide (((p0q.Name).length:Int)≤(64:Int)))) (cond (decide (p0q.Kind=(11:Int))) ((mX p0q.Name).bind fun x10=>some x10) ((gd ((!p1u.id_)==false) (mX p0q.ID)).bind fun x13=>(gd (((cond (!p1u.id_) true x13)==true)&&((!p1u.name_)==false)) (pK p0q.Name)).bind fun x15=>some (cond (cond (!p1u.id_) true x13) (cond (!p1u.name_) true x15) false)))))
theorem aEt {p0q:bK}{p1u:eN}{res:Bool} (h:rA p0q p1u=some res):bT Tryz.prog 108 [.agg (AV.cs (fD p0q)),.agg (AV.cs (wX p1u))] [] (.c (.bool res)) []:=by
 unfold rA at h
 refine cJ (fn:=Tryz.f108) [0,1,2,3,4,6,7,18,24,30] (by kernel_rfl) Tryz.func108 r (by kernel_rfl) (by kernel_rfl)<|aH<|fW (v:=.agg aD) (n:=0) (cs:=aD) (σ':=[aD]) r r r r r<|fW (v:=.agg bA) (n:=1) (cs:=bA) (σ':=[aD,bA]) r r r r r<|sB r<|aF (fr':=[(2,.box 0 0),(3,.box 1 0)]) r r<|aR<|aH<|aK r (aZ jX r)<|aK r (aJ (v:=aI) eB r r r)<|aF (fr':=[(2,.box 0 0),(3,.box 1 0),(6,aI)]) r r ?_
 refine bL<|aH<|aK r (bO r r)<|sB r<|aF (fr':=[(2,.box 0 0),(3,.box 1 0),(6,aI),(7,aB)]) r r<|bS h r (fun hb1 h1=>?_) (fun hb1 h1=>?_)
 ·
  refine aH<|aK r (aZ xA r)<|aK r (aJ (v:=aS) iE r r r) ?_
  obtain ⟨x2,hx2,h3⟩:=aE h1
  refine gW (aY (v:=aB) r (aBK hx2) ⟨lr,trivial⟩ r r r)<|mB r<|og r r r (fun hc=>(aZ pT r))<|og r r r (fun hc=>(aJ (v:=aS) iE (gx r hc) r r))<|og r r r (fun hc=>(gS nJ (gx r hc)))<|og r r r (fun hc=>(lI (gx r hc) r))<|aK r (bM r r r (fun e=>eI e))<|sB r<|aF (fr':=[(4,aB)]) r r<|bF<|bH<|aM ?_
  obtain rfl:=sy h3
  exact bE (rs':=[.tmp 4]) r<|bG (v:=aB) r<|bD<|aN [] r r r lr aC
 ·
  refine aH<|aK r (bO r r)<|sB r<|aF (fr':=[(2,.box 0 0),(3,.box 1 0),(6,aI),(18,aB)]) r r<|bS h1 r (fun hb5 h5=>?_) (fun hb5 h5=>?_)
  ·
   refine aH<|aK r (aZ pT r)<|aK r (aJ (v:=aS) iE r r r)<|aK r (gS nJ r)<|aK r (lI r r)<|sB r<|aF (fr':=[(4,aB)]) r r<|bF<|bH<|aM ?_
   obtain rfl:=sy h5
   exact bE (rs':=[.tmp 4]) r<|bG (v:=aB) r<|bD<|aN [] r r r lr aC
  ·
   refine aH<|aK r (bO r r)<|sB r<|aF (fr':=[(2,.box 0 0),(3,.box 1 0),(6,aI),(24,aB)]) r r<|bS h5 r (fun hb7 h7=>?_) (fun hb7 h7=>?_)
   ·
    refine aH<|aK r (aZ pT r)<|aK r (aJ (v:=aS) iE r r r)<|aK r (gS nJ r)<|aK r (lI r r)<|sB r<|aF (fr':=[(4,aB)]) r r<|bF<|bH<|aM ?_
    obtain rfl:=sy h7
    exact bE (rs':=[.tmp 4]) r<|bG (v:=aB) r<|bD<|aN [] r r r lr aC
   ·
    refine aH<|aK r (bO r r)<|sB r<|aF (fr':=[(2,.box 0 0),(3,.box 1 0),(30,aB)]) r r<|bS h7 r (fun hb9 h9=>?_) (fun hb9 h9=>?_)
    ·
     refine aH<|aK r (aZ pT r)<|aK r (aJ (v:=aS) iE r r r) ?_
     obtain ⟨x10,hx10,h11⟩:=aE h9
     refine gW (aY (v:=aB) r (vO hx10) ⟨lr,trivial⟩ r r r)<|sB r<|aF (fr':=[(4,aB)]) r r<|bF<|bH<|aM ?_
     obtain rfl:=sy h11
     exact bE (rs':=[.tmp 4]) r<|bG (v:=aB) r<|bD<|aN [] r r r lr aC
    ·
     refine aW<|bW<|bZ<|aH<|aK r (aZ aKY r)<|aK r (aJ (v:=aB) tv4 r r r)<|aK r (eD r)<|mB r<|og r r r (fun hc=>(aZ xA r))<|og r r r (fun hc=>(aJ (v:=aS) iE (gx r hc) r r)) ?_
     obtain ⟨x13,hx13,h14⟩:=aE h9
     refine rZ r r (fun hc=>aY (v:=aB) r (vO (cG hx13 hc)) ⟨(dW (gx r hc) lr),trivial⟩ (fC (by repeat (first | exact dT | refine aX r ?_ | refine aX (oQ r) ?_ | refine aX oP ?_))) r r) ?_
     refine aK r (bX r r r (fun e=>eI e))<|mB r<|og r r r (fun hc=>(aZ aKZ r))<|og r r r (fun hc=>(aJ (v:=aB) tv4 (gx r hc) r r))<|og r r r (fun hc=>(eD (gx r hc)))<|og r r r (fun hc=>(bC (v:=aB) (gx r hc)))<|eJ r r (fun hc=>eU r (aZ pT r))<|eJ r r (fun hc=>eU r (aJ (v:=aS) iE (gx r hc) r r)) ?_
     obtain ⟨x15,hx15,h16⟩:=aE h14
     refine eJ r r (fun hc=>aY (v:=aB) r (wC (cG hx15 hc)) ⟨(dW (gx r hc) lr),trivial⟩ (fC (by repeat (first | exact dT | refine aX r ?_ | refine aX (oQ r) ?_ | refine aX oP ?_))) r r) ?_
     refine og r r r (fun hc=>(bX (gx r hc) r r (fun e=>oO hc (eI e))))<|aK r (bM r r r (fun e=>eI e))<|sB r<|aF (fr':=[(4,aB)]) r r<|bF ?_
     obtain rfl:=sy h16
     exact bE (rs':=[.tmp 4]) r<|bG (v:=aB) r<|bD<|aN [] r r r lr aC
noncomputable def pP (fL:Int):Option eN :=
 cond (decide (fL=(1:Int))) (some (eN.mk true true false false true true true false true)) (((cond (decide (fL=(2:Int))) (some (decide (fL=(2:Int)))) (some (decide (fL=(5:Int))))):Option Bool).bind fun x3=>(cond x3 (some (eN.mk true true false false false false true false false)) (cond (decide (fL=(3:Int))) (some (eN.mk true false false false false false false false false)) (cond (decide (fL=(4:Int))) (some (eN.mk false true false false false false false false false)) (cond (decide (fL=(6:Int))) (some (eN.mk false false false true false false false false false)) (cond (decide (fL=(7:Int))) (some (eN.mk false false true false false false true true false)) (cond (decide (fL=(8:Int))) (some (eN.mk false false true false false true false false false)) (cond (decide (fL=(9:Int))) (some (eN.mk false false false false true true false false false)) (((cond (decide (fL=(10:Int))) (some (decide (fL=(10:Int)))) (cond (decide (fL=(12:Int))) (some (decide (fL=(12:Int)))) (some (decide (fL=(13:Int)))))):Option Bool).bind fun x22=>(cond x22 (some (eN.mk false false true false true false true false false)) (cond (decide (fL=(11:Int))) (some (eN.mk false true true false true false true false false)) (cond (decide (fL=(15:Int))) (some (eN.mk true true false false true true true false false)) (cond (decide (fL=(16:Int))) (some (eN.mk false true false false true true false false false)) (cond (decide (fL=(17:Int))) (some (eN.mk false false false false false true false false false)) (some (eN.mk false false false false false false false false false))))))))))))))))
theorem aDK {fL:Int}{res:eN} (h:pP fL=some res):bT Tryz.prog 97 [ci fL] [] (.agg (AV.cs (wX res))) []:=by
 unfold pP at h
 refine cJ (fn:=Tryz.f97) [0,2,3,4,7,11,14,17,20,23,26,29,34,37,40,43] (by kernel_rfl) Tryz.func97 r (by kernel_rfl) (by kernel_rfl)<|aH<|hS (n:=0) (cs:=bA) (σ':=[bA]) aNq r r r<|aF (fr':=[(0,aI),(2,.box 0 0)]) r r<|aR<|aH<|mI r<|aF (fr':=[(2,.box 0 0),(3,aI)]) r r<|bL<|aR<|aT ?_
 refine aK r (bO r r)<|sB r<|aF (fr':=[(2,.box 0 0),(3,aI),(4,aB)]) r r<|bS h r (fun hb1 h1=>?_) (fun hb1 h1=>?_)
 ·
  refine aH<|aK r (gR (c0:=bA) (cs:=bA) xR r (dQ (v:=aB) (us:=[_]) (cs':=u9) r r r r r r (dQ (v:=aB) (us:=[_]) (cs':=u9) r r r r r r (dQ (v:=aB) (us:=[_]) (cs':=u9) r r r r r r (dQ (v:=aB) (us:=[_]) (cs':=u9) r r r r r r (dQ (v:=aB) (us:=[_]) (cs':=u9) r r r r r r (dQ (v:=aB) (us:=[_]) (cs':=u9) r r r r r r gQ)))))))<|bV (v:=.agg bA) (us:=bA) (cs:=bA) (σ':=[bA]) r lM r r r r r r r r<|aF (fr':=[(2,.box 0 0)]) r r<|bF<|bH<|aM ?_
  obtain rfl:=sy h1
  exact bE (rs':=[.cell 2 116]) r<|eV (us:=bA) (cs:=bA) lM r r r r<|bD<|aN [] r r r (bP r ⟨r,r,r,r,r,r,r,r,r,trivial⟩) aC
 ·
  obtain ⟨x3,hx3,h4⟩:=aE h1
  refine fP (fun j5=>x3=j5) (fun (j5:Bool)=>([(2,.box 0 0),(3,ci fL),(7,.c (.bool j5))]:Fr)) (fun (j5:Bool)=>([[.c (.bool false),.c (.bool false),.c (.bool false),.c (.bool false),.c (.bool false),.c (.bool false),.c (.bool false),.c (.bool false),.c (.bool false)]]:St)) ?_ ?_
  ·
   refine aH<|aK r (bO r r)<|sB r<|aF (fr':=[(2,.box 0 0),(3,aI),(7,aB)]) r r<|bS hx3 r (fun hb6 h6=>?_) (fun hb6 h6=>?_)
   ·
    exact aW<|fS _ (sy h6) (aU [] 1 r r r r ⟨lr,lr,lr,trivial⟩ (bJ r aC))
   ·
    exact aT<|aK r (bO r r)<|sB r<|cD (fr':=[(2,.box 0 0),(3,aI),(7,aB)]) r<|fS _ (sy h6) (aU [] 1 r r r r ⟨lr,lr,lr,trivial⟩ (bJ r aC))
  ·
   intro j5 hj7
   subst hj7
   refine bS h4 r (fun hb8 h8=>?_) (fun hb8 h8=>?_)
   ·
    refine aH<|aK r (gR (c0:=bA) (cs:=bA) xR r (dQ (v:=aB) (us:=[_]) (cs':=u9) r r r r r r (dQ (v:=aB) (us:=[_]) (cs':=u9) r r r r r r (dQ (v:=aB) (us:=[_]) (cs':=u9) r r r r r r gQ))))<|bV (v:=.agg bA) (us:=bA) (cs:=bA) (σ':=[bA]) r lM r r r r r r r r<|aF (fr':=[(2,.box 0 0)]) r r<|bF<|bH<|aM ?_
    obtain rfl:=sy h8
    exact bE (rs':=[.cell 2 116]) r<|eV (us:=bA) (cs:=bA) lM r r r r<|bD<|aN [] r r r (bP r ⟨r,r,r,r,r,r,r,r,r,trivial⟩) aC
   ·
    refine aH<|aK r (bO r r)<|sB r<|aF (fr':=[(2,.box 0 0),(3,aI),(11,aB)]) r r<|bS h8 r (fun hb10 h10=>?_) (fun hb10 h10=>?_)
    ·
     refine aH<|aK r (gR (c0:=bA) (cs:=bA) xR r (dQ (v:=aB) (us:=[_]) (cs':=u9) r r r r r r gQ))<|bV (v:=.agg bA) (us:=bA) (cs:=bA) (σ':=[bA]) r lM r r r r r r r r<|aF (fr':=[(2,.box 0 0)]) r r<|bF<|bH<|aM ?_
     obtain rfl:=sy h10
     exact bE (rs':=[.cell 2 116]) r<|eV (us:=bA) (cs:=bA) lM r r r r<|bD<|aN [] r r r (bP r ⟨r,r,r,r,r,r,r,r,r,trivial⟩) aC
    ·
     refine aH<|aK r (bO r r)<|sB r<|aF (fr':=[(2,.box 0 0),(3,aI),(14,aB)]) r r<|bS h10 r (fun hb12 h12=>?_) (fun hb12 h12=>?_)
     ·
      refine aH<|aK r (gR (c0:=bA) (cs:=bA) xR r (dQ (v:=aB) (us:=[_]) (cs':=u9) r r r r r r gQ))<|bV (v:=.agg bA) (us:=bA) (cs:=bA) (σ':=[bA]) r lM r r r r r r r r<|aF (fr':=[(2,.box 0 0)]) r r<|bF<|bH<|aM ?_
      obtain rfl:=sy h12
      exact bE (rs':=[.cell 2 116]) r<|eV (us:=bA) (cs:=bA) lM r r r r<|bD<|aN [] r r r (bP r ⟨r,r,r,r,r,r,r,r,r,trivial⟩) aC
     ·
      refine aH<|aK r (bO r r)<|sB r<|aF (fr':=[(2,.box 0 0),(3,aI),(17,aB)]) r r<|bS h12 r (fun hb14 h14=>?_) (fun hb14 h14=>?_)
      ·
       refine aH<|aK r (gR (c0:=bA) (cs:=bA) xR r (dQ (v:=aB) (us:=[_]) (cs':=u9) r r r r r r gQ))<|bV (v:=.agg bA) (us:=bA) (cs:=bA) (σ':=[bA]) r lM r r r r r r r r<|aF (fr':=[(2,.box 0 0)]) r r<|bF<|bH<|aM ?_
       obtain rfl:=sy h14
       exact bE (rs':=[.cell 2 116]) r<|eV (us:=bA) (cs:=bA) lM r r r r<|bD<|aN [] r r r (bP r ⟨r,r,r,r,r,r,r,r,r,trivial⟩) aC
      ·
       refine aH<|aK r (bO r r)<|sB r<|aF (fr':=[(2,.box 0 0),(3,aI),(20,aB)]) r r<|bS h14 r (fun hb16 h16=>?_) (fun hb16 h16=>?_)
       ·
        refine aH<|aK r (gR (c0:=bA) (cs:=bA) xR r (dQ (v:=aB) (us:=[_]) (cs':=u9) r r r r r r (dQ (v:=aB) (us:=[_]) (cs':=u9) r r r r r r (dQ (v:=aB) (us:=[_]) (cs':=u9) r r r r r r gQ))))<|bV (v:=.agg bA) (us:=bA) (cs:=bA) (σ':=[bA]) r lM r r r r r r r r<|aF (fr':=[(2,.box 0 0)]) r r<|bF<|bH<|aM ?_
        obtain rfl:=sy h16
        exact bE (rs':=[.cell 2 116]) r<|eV (us:=bA) (cs:=bA) lM r r r r<|bD<|aN [] r r r (bP r ⟨r,r,r,r,r,r,r,r,r,trivial⟩) aC
       ·
        refine aH<|aK r (bO r r)<|sB r<|aF (fr':=[(2,.box 0 0),(3,aI),(23,aB)]) r r<|bS h16 r (fun hb18 h18=>?_) (fun hb18 h18=>?_)
        ·
         refine aH<|aK r (gR (c0:=bA) (cs:=bA) xR r (dQ (v:=aB) (us:=[_]) (cs':=u9) r r r r r r (dQ (v:=aB) (us:=[_]) (cs':=u9) r r r r r r gQ)))<|bV (v:=.agg bA) (us:=bA) (cs:=bA) (σ':=[bA]) r lM r r r r r r r r<|aF (fr':=[(2,.box 0 0)]) r r<|bF<|bH<|aM ?_
         obtain rfl:=sy h18
         exact bE (rs':=[.cell 2 116]) r<|eV (us:=bA) (cs:=bA) lM r r r r<|bD<|aN [] r r r (bP r ⟨r,r,r,r,r,r,r,r,r,trivial⟩) aC
        ·
         refine aH<|aK r (bO r r)<|sB r<|aF (fr':=[(2,.box 0 0),(3,aI),(26,aB)]) r r<|bS h18 r (fun hb20 h20=>?_) (fun hb20 h20=>?_)
         ·
          refine aH<|aK r (gR (c0:=bA) (cs:=bA) xR r (dQ (v:=aB) (us:=[_]) (cs':=u9) r r r r r r (dQ (v:=aB) (us:=[_]) (cs':=u9) r r r r r r gQ)))<|bV (v:=.agg bA) (us:=bA) (cs:=bA) (σ':=[bA]) r lM r r r r r r r r<|aF (fr':=[(2,.box 0 0)]) r r<|bF<|bH<|aM ?_
          obtain rfl:=sy h20
          exact bE (rs':=[.cell 2 116]) r<|eV (us:=bA) (cs:=bA) lM r r r r<|bD<|aN [] r r r (bP r ⟨r,r,r,r,r,r,r,r,r,trivial⟩) aC
         ·
          obtain ⟨x22,hx22,h23⟩:=aE h20
          refine fP (fun j24=>x22=j24) (fun (j24:Bool)=>([(2,.box 0 0),(3,ci fL),(29,.c (.bool j24))]:Fr)) (fun (j24:Bool)=>([[.c (.bool false),.c (.bool false),.c (.bool false),.c (.bool false),.c (.bool false),.c (.bool false),.c (.bool false),.c (.bool false),.c (.bool false)]]:St)) ?_ ?_
          ·
           refine aH<|aK r (bO r r)<|sB r<|aF (fr':=[(2,.box 0 0),(3,aI),(29,aB)]) r r<|bS hx22 r (fun hb25 h25=>?_) (fun hb25 h25=>?_)
           ·
            exact aW<|fS _ (sy h25) (aU [] 1 r r r r ⟨lr,lr,lr,trivial⟩ (bJ r aC))
           ·
            refine aH<|aK r (bO r r)<|sB r<|aF (fr':=[(2,.box 0 0),(3,aI),(29,aB)]) r r<|bS h25 r (fun hb26 h26=>?_) (fun hb26 h26=>?_)
            ·
             exact aW<|fS _ (sy h26) (aU [] 1 r r r r ⟨lr,lr,lr,trivial⟩ (bJ r aC))
            ·
             exact aT<|aK r (bO r r)<|sB r<|cD (fr':=[(2,.box 0 0),(3,aI),(29,aB)]) r<|fS _ (sy h26) (aU [] 1 r r r r ⟨lr,lr,lr,trivial⟩ (bJ r aC))
          ·
           intro j24 hj27
           subst hj27
           refine bS h23 r (fun hb28 h28=>?_) (fun hb28 h28=>?_)
           ·
            refine aH<|aK r (gR (c0:=bA) (cs:=bA) xR r (dQ (v:=aB) (us:=[_]) (cs':=u9) r r r r r r (dQ (v:=aB) (us:=[_]) (cs':=u9) r r r r r r (dQ (v:=aB) (us:=[_]) (cs':=u9) r r r r r r gQ))))<|bV (v:=.agg bA) (us:=bA) (cs:=bA) (σ':=[bA]) r lM r r r r r r r r<|aF (fr':=[(2,.box 0 0)]) r r<|bF<|bH<|aM ?_
            obtain rfl:=sy h28
            exact bE (rs':=[.cell 2 116]) r<|eV (us:=bA) (cs:=bA) lM r r r r<|bD<|aN [] r r r (bP r ⟨r,r,r,r,r,r,r,r,r,trivial⟩) aC
           ·
            refine aH<|aK r (bO r r)<|sB r<|aF (fr':=[(2,.box 0 0),(3,aI),(34,aB)]) r r<|bS h28 r (fun hb30 h30=>?_) (fun hb30 h30=>?_)
            ·
             refine aH<|aK r (gR (c0:=bA) (cs:=bA) xR r (dQ (v:=aB) (us:=[_]) (cs':=u9) r r r r r r (dQ (v:=aB) (us:=[_]) (cs':=u9) r r r r r r (dQ (v:=aB) (us:=[_]) (cs':=u9) r r r r r r (dQ (v:=aB) (us:=[_]) (cs':=u9) r r r r r r gQ)))))<|bV (v:=.agg bA) (us:=bA) (cs:=bA) (σ':=[bA]) r lM r r r r r r r r<|aF (fr':=[(2,.box 0 0)]) r r<|bF<|bH<|aM ?_
             obtain rfl:=sy h30
             exact bE (rs':=[.cell 2 116]) r<|eV (us:=bA) (cs:=bA) lM r r r r<|bD<|aN [] r r r (bP r ⟨r,r,r,r,r,r,r,r,r,trivial⟩) aC
            ·
             refine aH<|aK r (bO r r)<|sB r<|aF (fr':=[(2,.box 0 0),(3,aI),(37,aB)]) r r<|bS h30 r (fun hb32 h32=>?_) (fun hb32 h32=>?_)
             ·
              refine aH<|aK r (gR (c0:=bA) (cs:=bA) xR r (dQ (v:=aB) (us:=[_]) (cs':=u9) r r r r r r (dQ (v:=aB) (us:=[_]) (cs':=u9) r r r r r r (dQ (v:=aB) (us:=[_]) (cs':=u9) r r r r r r (dQ (v:=aB) (us:=[_]) (cs':=u9) r r r r r r (dQ (v:=aB) (us:=[_]) (cs':=u9) r r r r r r gQ))))))<|bV (v:=.agg bA) (us:=bA) (cs:=bA) (σ':=[bA]) r lM r r r r r r r r<|aF (fr':=[(2,.box 0 0)]) r r<|bF<|bH<|aM ?_
              obtain rfl:=sy h32
              exact bE (rs':=[.cell 2 116]) r<|eV (us:=bA) (cs:=bA) lM r r r r<|bD<|aN [] r r r (bP r ⟨r,r,r,r,r,r,r,r,r,trivial⟩) aC
             ·
              refine aH<|aK r (bO r r)<|sB r<|aF (fr':=[(2,.box 0 0),(3,aI),(40,aB)]) r r<|bS h32 r (fun hb34 h34=>?_) (fun hb34 h34=>?_)
              ·
               refine aH<|aK r (gR (c0:=bA) (cs:=bA) xR r (dQ (v:=aB) (us:=[_]) (cs':=u9) r r r r r r (dQ (v:=aB) (us:=[_]) (cs':=u9) r r r r r r (dQ (v:=aB) (us:=[_]) (cs':=u9) r r r r r r gQ))))<|bV (v:=.agg bA) (us:=bA) (cs:=bA) (σ':=[bA]) r lM r r r r r r r r<|aF (fr':=[(2,.box 0 0)]) r r<|bF<|bH<|aM ?_
               obtain rfl:=sy h34
               exact bE (rs':=[.cell 2 116]) r<|eV (us:=bA) (cs:=bA) lM r r r r<|bD<|aN [] r r r (bP r ⟨r,r,r,r,r,r,r,r,r,trivial⟩) aC
              ·
               refine aH<|aK r (bO r r)<|sB r<|aF (fr':=[(2,.box 0 0),(43,aB)]) r r<|bS h34 r (fun hb36 h36=>?_) (fun hb36 h36=>?_)
               ·
                refine aH<|aK r (gR (c0:=bA) (cs:=bA) xR r (dQ (v:=aB) (us:=[_]) (cs':=u9) r r r r r r gQ))<|bV (v:=.agg bA) (us:=bA) (cs:=bA) (σ':=[bA]) r lM r r r r r r r r<|aF (fr':=[(2,.box 0 0)]) r r<|bF<|bH<|aM ?_
                obtain rfl:=sy h36
                exact bE (rs':=[.cell 2 116]) r<|eV (us:=bA) (cs:=bA) lM r r r r<|bD<|aN [] r r r (bP r ⟨r,r,r,r,r,r,r,r,r,trivial⟩) aC
               ·
                refine aW<|bW<|bZ<|aH<|aK r (gR (c0:=bA) (cs:=bA) xR r gQ)<|bV (v:=.agg bA) (us:=bA) (cs:=bA) (σ':=[bA]) r lM r r r r r r r r<|aF (fr':=[(2,.box 0 0)]) r r<|bF ?_
                obtain rfl:=sy h36
                exact bE (rs':=[.cell 2 116]) r<|eV (us:=bA) (cs:=bA) lM r r r r<|bD<|aN [] r r r (bP r ⟨r,r,r,r,r,r,r,r,r,trivial⟩) aC
noncomputable def tD (p0q:bK) (p1u:eN):Option Bool :=
 (gd (((cond (cond (cond (cond (cond (cond p1u.id_ true (decide (p0q.ID=([]:List UInt8)))) (cond p1u.name_ true (decide (p0q.Name=([]:List UInt8)))) false) (cond p1u.token_ true (decide (p0q.Token=(0:Int)))) false) (cond p1u.event_ true (decide (p0q.Event=(0:Int)))) false) (cond p1u.seq_ true (decide (p0q.Seq=(0:Int)))) false) (cond p1u.n_ true (decide (p0q.N=(0:Int)))) false)==true)&&(p1u.data_==false)) (zS p0q.Data (aG.mk (0:Int) (0:Int) ([]:List UInt8) ([]:(List aG)) ([]:(List (List UInt8)))))).bind fun x1=>(gd ((cond (cond (cond (cond (cond (cond (cond (cond (cond p1u.id_ true (decide (p0q.ID=([]:List UInt8)))) (cond p1u.name_ true (decide (p0q.Name=([]:List UInt8)))) false) (cond p1u.token_ true (decide (p0q.Token=(0:Int)))) false) (cond p1u.event_ true (decide (p0q.Event=(0:Int)))) false) (cond p1u.seq_ true (decide (p0q.Seq=(0:Int)))) false) (cond p1u.n_ true (decide (p0q.N=(0:Int)))) false) (cond p1u.data_ true x1) false) (cond p1u.commands_ true (decide (((p0q.Commands).length:Int)=(0:Int)))) false) (cond p1u.parent_ true (decide (p0q.Parent=([]:List UInt8)))) false)==true) (jD p0q.Opts (cE.mk ([]:List UInt8) (0:Int) (0:Int) (0:Int) (0:Int) (0:Int) (0:Int) (0:Int) (0:Int) ([]:(List (List UInt8)))))).bind fun x3=>some (cond (cond (cond (cond (cond (cond (cond (cond (cond (cond p1u.id_ true (decide (p0q.ID=([]:List UInt8)))) (cond p1u.name_ true (decide (p0q.Name=([]:List UInt8)))) false) (cond p1u.token_ true (decide (p0q.Token=(0:Int)))) false) (cond p1u.event_ true (decide (p0q.Event=(0:Int)))) false) (cond p1u.seq_ true (decide (p0q.Seq=(0:Int)))) false) (cond p1u.n_ true (decide (p0q.N=(0:Int)))) false) (cond p1u.data_ true x1) false) (cond p1u.commands_ true (decide (((p0q.Commands).length:Int)=(0:Int)))) false) (cond p1u.parent_ true (decide (p0q.Parent=([]:List UInt8)))) false) x3 false)
theorem aF3 {p0q:bK}{p1u:eN}{res:Bool} (h:tD p0q p1u=some res):bT Tryz.prog 99 [.agg (AV.cs (fD p0q)),.agg (AV.cs (wX p1u))] [] (.c (.bool res)) []:=by
 unfold tD at h
 refine cJ (fn:=Tryz.f99) [0,1,2,3,4] (by kernel_rfl) Tryz.func99 r (by kernel_rfl) (by kernel_rfl)<|aH<|fW (v:=.agg aD) (n:=0) (cs:=aD) (σ':=[aD]) r r r r r<|fW (v:=.agg bA) (n:=1) (cs:=bA) (σ':=[aD,bA]) r r r r r<|sB r<|aF (fr':=[(2,.box 0 0),(3,.box 1 0)]) r r<|aH<|aK r (aZ aKY r)<|aK r (aJ (v:=aB) tv4 r r r)<|mB r<|og r r r (fun hc=>(aZ xA r)) ?_
 refine og r r r (fun hc=>(aJ (v:=aS) iE (gx r hc) r r))<|og r r r (fun hc=>(kX (gx r hc) r))<|aK r (bX r r r (fun e=>eI e))<|mB r<|og r r r (fun hc=>(aZ aKZ r))<|og r r r (fun hc=>(aJ (v:=aB) tv4 (gx r hc) r r))<|og r r r (fun hc=>(bC (v:=aB) (gx r hc)))<|eJ r r (fun hc=>eU r (aZ pT r))<|eJ r r (fun hc=>eU r (aJ (v:=aS) iE (gx r hc) r r))<|eJ r r (fun hc=>eU r (kX (gx r hc) r))<|og r r r (fun hc=>(bX (gx r hc) r r (fun e=>oO hc (eI e))))<|aK r (bM r r r (fun e=>eI e))<|mB r ?_
 refine og r r r (fun hc=>(aZ aK0 r))<|og r r r (fun hc=>(aJ (v:=aB) tv4 (gx r hc) r r))<|og r r r (fun hc=>(bC (v:=aB) (gx r hc)))<|eJ r r (fun hc=>eU r (aZ vL r))<|eJ r r (fun hc=>eU r (aJ (v:=aI) eB (gx r hc) r r))<|eJ r r (fun hc=>eU r (bO (gx r hc) r))<|og r r r (fun hc=>(bX (gx r hc) r r (fun e=>oO hc (eI e))))<|aK r (bM r r r (fun e=>eI e))<|mB r<|og r r r (fun hc=>(aZ aK1 r))<|og r r r (fun hc=>(aJ (v:=aB) tv4 (gx r hc) r r))<|og r r r (fun hc=>(bC (v:=aB) (gx r hc)))<|eJ r r (fun hc=>eU r (aZ zM r)) ?_
 refine eJ r r (fun hc=>eU r (aJ (v:=aI) eB (gx r hc) r r))<|eJ r r (fun hc=>eU r (bO (gx r hc) r))<|og r r r (fun hc=>(bX (gx r hc) r r (fun e=>oO hc (eI e))))<|aK r (bM r r r (fun e=>eI e))<|mB r<|og r r r (fun hc=>(aZ aK2 r))<|og r r r (fun hc=>(aJ (v:=aB) tv4 (gx r hc) r r))<|og r r r (fun hc=>(bC (v:=aB) (gx r hc)))<|eJ r r (fun hc=>eU r (aZ xB r))<|eJ r r (fun hc=>eU r (aJ (v:=aI) eB (gx r hc) r r))<|eJ r r (fun hc=>eU r (bO (gx r hc) r))<|og r r r (fun hc=>(bX (gx r hc) r r (fun e=>oO hc (eI e))))<|aK r (bM r r r (fun e=>eI e)) ?_
 refine mB r<|og r r r (fun hc=>(aZ aOd r))<|og r r r (fun hc=>(aJ (v:=aB) tv4 (gx r hc) r r))<|og r r r (fun hc=>(bC (v:=aB) (gx r hc)))<|eJ r r (fun hc=>eU r (aZ lL r))<|eJ r r (fun hc=>eU r (aJ (v:=aI) eB (gx r hc) r r))<|eJ r r (fun hc=>eU r (bO (gx r hc) r))<|og r r r (fun hc=>(bX (gx r hc) r r (fun e=>oO hc (eI e))))<|aK r (bM r r r (fun e=>eI e))<|mB r<|og r r r (fun hc=>(aZ aOe r))<|og r r r (fun hc=>(aJ (v:=aB) tv4 (gx r hc) r r))<|og r r r (fun hc=>(bC (v:=aB) (gx r hc))) ?_
 refine eJ r r (fun hc=>eU r (aZ vZ r))<|eJ r r (fun hc=>eU r (cN (us:=bQ) fV (gx r hc) r r r))<|eJ r r (fun hc=>eU r (iF (cs:=bU) aEk r)) ?_
 obtain ⟨x1,hx1,h2⟩:=aE h
 refine eJ r r (fun hc=>aY (v:=aB) r (aC3 (cG hx1 hc)) ⟨(dW (gx r hc) (bP r ⟨r,r,r,r,r,trivial⟩)),(dW (gx r hc) (bP r ⟨r,r,r,⟨_,r⟩,⟨_,r⟩,trivial⟩)),trivial⟩ (fC (by repeat (first | exact dT | refine aX r ?_ | refine aX (oQ r) ?_ | refine aX oP ?_))) r r) ?_
 refine og r r r (fun hc=>(bX (gx r hc) r r (fun e=>oO hc (eI e))))<|aK r (bM r r r (fun e=>eI e))<|mB r<|og r r r (fun hc=>(aZ aOf r))<|og r r r (fun hc=>(aJ (v:=aB) tv4 (gx r hc) r r))<|og r r r (fun hc=>(bC (v:=aB) (gx r hc)))<|eJ r r (fun hc=>eU r (aZ oB r))<|eJ r r (fun hc=>eU r (aJ (v:=aL) aCc (gx r hc) r r))<|eJ r r (fun hc=>eU r (eC aCb (cR (gx r hc))))<|eJ r r (fun hc=>eU r (bO (gx r hc) r))<|og r r r (fun hc=>(bX (gx r hc) r r (fun e=>oO hc (eI e))))<|aK r (bM r r r (fun e=>eI e))<|mB r ?_
 refine og r r r (fun hc=>(aZ aOg r))<|og r r r (fun hc=>(aJ (v:=aB) tv4 (gx r hc) r r))<|og r r r (fun hc=>(bC (v:=aB) (gx r hc)))<|eJ r r (fun hc=>eU r (aZ tH r))<|eJ r r (fun hc=>eU r (aJ (v:=aS) iE (gx r hc) r r))<|eJ r r (fun hc=>eU r (kX (gx r hc) r))<|og r r r (fun hc=>(bX (gx r hc) r r (fun e=>oO hc (eI e))))<|aK r (bM r r r (fun e=>eI e))<|mB r<|og r r r (fun hc=>(aZ aHN r))<|og r r r (fun hc=>(cN (us:=cI) yM (gx r hc) r r r))<|og r r r (fun hc=>(gR (c0:=bN) (cs:=bN) aOb r gQ)) ?_
 obtain ⟨x3,hx3,h4⟩:=aE h2
 refine rZ r r (fun hc=>aY (v:=aB) r (vC (cG hx3 hc)) ⟨(dW (gx r hc) (bP r ⟨r,r,r,r,r,r,r,r,r,r,trivial⟩)),(dW (gx r hc) (bP r ⟨r,r,r,r,r,r,r,r,r,⟨_,r⟩,trivial⟩)),trivial⟩ (fC (by repeat (first | exact dT | refine aX r ?_ | refine aX (oQ r) ?_ | refine aX oP ?_))) r r) ?_
 refine aK r (bM r r r (fun e=>eI e))<|sB r<|aF (fr':=[(4,aB)]) r r<|bF ?_
 obtain rfl:=sy h4
 exact bE (rs':=[.tmp 4]) r<|bG (v:=aB) r<|bD<|aN [] r r r lr aC
end Go.Proofs.YtnigjppddilpcaaGreatDoor
