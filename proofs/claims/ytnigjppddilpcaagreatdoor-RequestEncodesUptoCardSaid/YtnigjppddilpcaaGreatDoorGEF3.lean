import Derived.Test.YtnigjppddilpcaaGreatDoorGETy
import Derived.Test.YtnigjppddilpcaaGreatDoorGEF0
import Derived.Test.YtnigjppddilpcaaGreatDoorGEF1
import Derived.Test.YtnigjppddilpcaaGreatDoorGEF2
namespace Go.Proofs.YtnigjppddilpcaaGreatDoor
open Go Abs
set_option maxRecDepth 100000
set_option linter.unusedVariables false
set_option linter.unusedSimpArgs false
noncomputable def dN (p0s:(List aG)) (s4:Int):Option (cM Int (Fl Int Unit)) :=
 cond (decide (s4<((p0s).length:Int))) ((jT p0s s4).bind fun x6=>(oJ x6).bind fun x8=>cond x8 (some (cM.out (Fl.done s4))) (some (cM.next (IntKind.wrap .i64 (s4+(1:Int)))))) (some (cM.out (Fl.go ())))
noncomputable def eS (p0s:(List aG)):Option Int :=
 ((eQ (dN p0s) ((0:Int))):Option (Fl Int Unit)).bind fun x1=>Fl.next x1 (fun j3=>(some (-1:Int)))
theorem kN {p0s:(List aG)}{res:Int} (h:eS p0s=some res):bT Tryz.prog 205 [.c (PV.ls 5 bB p0s),.fn 216 []] [] (ci res) []:=by
 unfold eS at h
 refine cJ (fn:=Tryz.f205) [0,1,4,5,7,8,9,16] (by kernel_rfl) Tryz.func205 r (by kernel_rfl) (by kernel_rfl)<|aH<|sI r<|aF (fr':=[(0,aL),(1,.fn _ [])]) r r<|aR<|aH<|mL r<|aK r (eC qM (cR r))<|mI r<|aF (fr':=[(0,aL),(1,.fn _ []),(7,aI),(8,aI)]) r r ?_
 obtain ⟨x1,hx1,h2⟩:=aE h
 refine eR gX (fun j3=>x1=Fl.go j3) (fun (j3:Unit)=>([]:Fr)) (fun (j3:Unit)=>([]:St)) ?_ ?_
 ·
  refine bL<|eK _ (fun (s4:Int)=>([(0,.c (PV.ls 5 bB p0s)),(1,.fn 216 []),(7,ci ((p0s).length:Int)),(8,ci s4)]:Fr)) (fun (s4:Int)=>([]:St)) hx1 (aU [] 0 r r r r ⟨lr,lr,lr,lr,trivial⟩ aC) ?_
  intro s4 st4 hs4 ho4
  unfold dN at hs4
  refine aH<|aK r (eA r r)<|aF (fr':=[(0,aL),(1,.fn _ []),(7,aI),(8,aI),(9,aB)]) r r<|aR<|bS hs4 r (fun hb5 h5=>?_) (fun hb5 h5=>?_)
  ·
   refine aW<|bZ<|aR<|bL<|aH<|mI r<|sI r<|aF (fr':=[(0,aL),(1,.fn _ []),(5,aI),(7,aI),(8,aI)]) r r<|aH<|mV (v:=.fn _ []) r<|mL r ?_
   refine mI r ?_
   obtain ⟨x6,hx6,h7⟩:=aE h5
   refine aK r (iL (cs:=[PV.int _ _,PV.int _ _,PV.str _,PV.ls _ _ _,PV.ls _ _ _]) tO (cR r) r hx6 (cY _))<|aK r (hG (us:=[PV.int _ _,PV.int _ _,PV.str _,PV.ls _ _ _,PV.ls _ _ _]) fV r r r) ?_
   obtain ⟨x8,hx8,h9⟩:=aE h7
   refine gW (aY (v:=aB) r (aCX hx8) ⟨(bP r ⟨r,r,r,r,r,trivial⟩),trivial⟩ r r r)<|aF (fr':=[(0,aL),(1,.fn _ []),(5,aI),(7,aI),(8,aI),(16,aB)]) r r<|bS h9 r (fun hb10 h10=>?_) (fun hb10 h10=>?_)
   ·
    refine aH<|mI r<|sI r<|aF (fr':=[(4,aI)]) r r<|bF<|bH<|aM<|aM<|bH<|aM<|aM ?_
    have h11:=dB h10 ho4
    have h12:=eH h11 h2
    obtain rfl:=sy h12
    exact bE (rs':=[.tmp 4]) r<|bG (v:=aI) r<|bD<|aN [] r r r lr aC
   ·
    exact aW<|bW<|bZ<|aT<|aK r (dZ r r)<|mI r<|cD (fr':=[(0,aL),(1,.fn _ []),(5,aI),(7,aI),(8,aI),(16,aB)]) r<|tU _ (sy h10) (aU [] 0 r r r r ⟨lr,lr,lr,lr,trivial⟩ aC)
  ·
   refine eZ<|bY<|bY<|dX ?_
   have h14:=dB h5 ho4
   exact fS _ (sy h14) (aU [] 0 r r r r trivial aC)
 ·
  intro j3 hj15
  have h15:=iS hj15 h2
  refine bZ<|aH<|sI r<|aF (fr':=[(4,aI)]) r r<|bF ?_
  obtain rfl:=sy h15
  exact bE (rs':=[.tmp 4]) r<|bG (v:=aI) r<|bD<|aN [] r r r lr aC
noncomputable def dL (p0s:(List aG)):Option Bool :=
 (eS p0s).bind fun x1=>some (decide ((0:Int)≤x1))
theorem jO {p0s:(List aG)}{res:Bool} (h:dL p0s=some res):bT Tryz.prog 176 [.c (PV.ls 5 bB p0s),.fn 216 []] [] (.c (.bool res)) []:=by
 unfold dL at h
 refine cJ (fn:=Tryz.f176) [0,1,4] (by kernel_rfl) Tryz.func176 r (by kernel_rfl) (by kernel_rfl)<|aH<|sB r<|aF (fr':=[(0,aL),(1,.fn _ [])]) r r<|aH<|mL r<|mV (v:=.fn _ []) r ?_
 obtain ⟨x1,hx1,h2⟩:=aE h
 refine gW (aY (v:=aI) r (kN hx1) ⟨lr,lr,trivial⟩ r r r)<|aK r (lC r r)<|sB r<|aF (fr':=[(4,aB)]) r r<|bF ?_
 obtain rfl:=sy h2
 exact bE (rs':=[.tmp 4]) r<|bG (v:=aB) r<|bD<|aN [] r r r lr aC
noncomputable def qY (p0v:aG):Option Bool :=
 (gd ((cond (!decide (p0v.Kind=(4:Int))) true (!decide (((p0v.Items).length:Int)=(2:Int))))==false) (jT p0v.Items (1:Int))).bind fun x1=>cond (cond (cond (!decide (p0v.Kind=(4:Int))) true (!decide (((p0v.Items).length:Int)=(2:Int)))) true (!decide (x1.Kind=(4:Int)))) (some false) ((jT p0v.Items (1:Int)).bind fun x5=>(dL x5.Items).bind fun x7=>some (!x7))
theorem aEr {p0v:aG}{res:Bool} (h:qY p0v=some res):bT Tryz.prog 200 [.agg (AV.cs (cV p0v))] [] (.c (.bool res)) []:=by
 unfold qY at h
 refine cJ (fn:=Tryz.f200) [0,1,2,19] (by kernel_rfl) Tryz.func200 r (by kernel_rfl) (by kernel_rfl)<|aH<|fW (v:=.agg bQ) (n:=0) (cs:=bQ) (σ':=[bQ]) r r r r r<|sB r<|aF (fr':=[(1,.box 0 0)]) r r<|aR<|aH<|aK r (aZ iR r)<|aK r (aJ (v:=aI) eB r r r)<|aK r (gM r r)<|mB r ?_
 refine og r r r (fun hc=>(aZ fM r))<|og r r r (fun hc=>(aJ (v:=aL) kD (gx r hc) r r))<|og r r r (fun hc=>(eC qM (cR (gx r hc))))<|og r r r (fun hc=>(gM (gx r hc) r))<|aK r (bX r r r (fun e=>eI e))<|mB r<|og r r r (fun hc=>(aZ fM r))<|og r r r (fun hc=>(aJ (v:=aL) kD (gx r hc) r r)) ?_
 obtain ⟨x1,hx1,h2⟩:=aE h
 refine og r r r (fun hc=>(iL (cs:=[PV.int _ _,PV.int _ _,PV.str _,PV.ls _ _ _,PV.ls _ _ _]) tO (cR (gx r hc)) r (cG hx1 hc) (cY _)))<|og r r r (fun hc=>(aCI iR (gx r hc)))<|og r r r (fun hc=>(fU (p:=PV.int _ _) eB (gx r hc) r))<|og r r r (fun hc=>(gM (gx r hc) r))<|aK r (bX r r r (fun e=>eI e))<|aF (fr':=[(1,.box 0 0),(19,aB)]) r r<|bS h2 r (fun hb3 h3=>?_) (fun hb3 h3=>?_)
 ·
  refine aH<|sB r<|aF (fr':=[(2,aB)]) r r<|bF<|aM ?_
  obtain rfl:=sy h3
  exact bE (rs':=[.tmp 2]) r<|bG (v:=aB) r<|bD<|aN [] r r r lr aC
 ·
  refine aW<|bZ<|aH<|aK r (aZ fM r)<|aK r (aJ (v:=aL) kD r r r) ?_
  obtain ⟨x5,hx5,h6⟩:=aE h3
  refine aK r (iL (cs:=[PV.int _ _,PV.int _ _,PV.str _,PV.ls _ _ _,PV.ls _ _ _]) tO (cR r) r hx5 (cY _))<|aK r (aCI fM r)<|aK r (fU (p:=PV.ls _ _ _) kD r r) ?_
  obtain ⟨x7,hx7,h8⟩:=aE h6
  refine gW (aY (v:=aB) r (jO hx7) ⟨lr,lr,trivial⟩ r r r)<|aK r (eD r)<|sB r<|aF (fr':=[(2,aB)]) r r<|bF ?_
  obtain rfl:=sy h8
  exact bE (rs':=[.tmp 2]) r<|bG (v:=aB) r<|bD<|aN [] r r r lr aC
noncomputable def pI (p0c:bI):Option Bool :=
 cond (decide (p0c.Kind=(3:Int))) ((hY p0c.N (1:Int) (1099511627776:Int)).bind fun x2=>some x2) (cond (decide (p0c.Kind=(5:Int))) ((hY p0c.N (0:Int) (2:Int)).bind fun x6=>some x6) (cond (decide (p0c.Kind=(9:Int))) ((hY p0c.N (0:Int) (1:Int)).bind fun x10=>some x10) (cond (decide (p0c.Kind=(7:Int))) ((gd ((decide (p0c.N=(-1:Int)))==false) (hY p0c.N (0:Int) (2147483647:Int))).bind fun x14=>some (cond (decide (p0c.N=(-1:Int))) true (cond x14 (decide (p0c.Data.Kind=(0:Int))) false))) (cond (decide (p0c.Kind=(10:Int))) (some (decide (p0c.Data.Kind=(5:Int)))) (cond (decide (p0c.Kind=(14:Int))) ((qY p0c.Data).bind fun x20=>some x20) (some true))))))
theorem aDH {p0c:bI}{res:Bool} (h:pI p0c=some res):bT Tryz.prog 168 [.agg (AV.cs (bR p0c))] [] (.c (.bool res)) []:=by
 unfold pI at h
 refine cJ (fn:=Tryz.f168) [0,1,2,4,5,10,15,20,36,42] (by kernel_rfl) Tryz.func168 r (by kernel_rfl) (by kernel_rfl)<|aH<|fW (v:=.agg aP) (n:=0) (cs:=aP) (σ':=[aP]) r r r r r<|sB r<|aF (fr':=[(1,.box 0 0)]) r r<|aR<|aH<|aK r (aZ lB r)<|aK r (aJ (v:=aI) eB r r r)<|aF (fr':=[(1,.box 0 0),(4,aI)]) r r<|bL ?_
 refine aH<|aK r (bO r r)<|sB r<|aF (fr':=[(1,.box 0 0),(4,aI),(5,aB)]) r r<|bS h r (fun hb1 h1=>?_) (fun hb1 h1=>?_)
 ·
  refine aH<|aK r (aZ mO r)<|aK r (aJ (v:=aI) eB r r r) ?_
  obtain ⟨x2,hx2,h3⟩:=aE h1
  refine gW (aY (v:=aB) r (iT hx2) ⟨lr,lr,lr,trivial⟩ r r r)<|sB r<|aF (fr':=[(2,aB)]) r r<|bF<|bH<|aM ?_
  obtain rfl:=sy h3
  exact bE (rs':=[.tmp 2]) r<|bG (v:=aB) r<|bD<|aN [] r r r lr aC
 ·
  refine aH<|aK r (bO r r)<|sB r<|aF (fr':=[(1,.box 0 0),(4,aI),(10,aB)]) r r<|bS h1 r (fun hb5 h5=>?_) (fun hb5 h5=>?_)
  ·
   refine aH<|aK r (aZ mO r)<|aK r (aJ (v:=aI) eB r r r) ?_
   obtain ⟨x6,hx6,h7⟩:=aE h5
   refine gW (aY (v:=aB) r (iT hx6) ⟨lr,lr,lr,trivial⟩ r r r)<|sB r<|aF (fr':=[(2,aB)]) r r<|bF<|bH<|aM ?_
   obtain rfl:=sy h7
   exact bE (rs':=[.tmp 2]) r<|bG (v:=aB) r<|bD<|aN [] r r r lr aC
  ·
   refine aH<|aK r (bO r r)<|sB r<|aF (fr':=[(1,.box 0 0),(4,aI),(15,aB)]) r r<|bS h5 r (fun hb9 h9=>?_) (fun hb9 h9=>?_)
   ·
    refine aH<|aK r (aZ mO r)<|aK r (aJ (v:=aI) eB r r r) ?_
    obtain ⟨x10,hx10,h11⟩:=aE h9
    refine gW (aY (v:=aB) r (iT hx10) ⟨lr,lr,lr,trivial⟩ r r r)<|sB r<|aF (fr':=[(2,aB)]) r r<|bF<|bH<|aM ?_
    obtain rfl:=sy h11
    exact bE (rs':=[.tmp 2]) r<|bG (v:=aB) r<|bD<|aN [] r r r lr aC
   ·
    refine aH<|aK r (bO r r)<|sB r<|aF (fr':=[(1,.box 0 0),(4,aI),(20,aB)]) r r<|bS h9 r (fun hb13 h13=>?_) (fun hb13 h13=>?_)
    ·
     refine aH<|aK r (aZ mO r)<|aK r (aJ (v:=aI) eB r r r)<|aK r (bO r r)<|mB r<|og r r r (fun hc=>(aZ mO r))<|og r r r (fun hc=>(aJ (v:=aI) eB (gx r hc) r r)) ?_
     obtain ⟨x14,hx14,h15⟩:=aE h13
     refine rZ r r (fun hc=>aY (v:=aB) r (iT (cG hx14 hc)) ⟨(dW (gx r hc) lr),lr,lr,trivial⟩ (fC (by repeat (first | exact dT | refine aX r ?_ | refine aX (oQ r) ?_ | refine aX oP ?_))) r r) ?_
     refine og r r r (fun hc=>(bC (v:=aB) (gx r hc)))<|eJ r r (fun hc=>eU r (aZ nZ r))<|eJ r r (fun hc=>eU r (aZ iR (gx r hc)))<|eJ r r (fun hc=>eU r (aJ (v:=aI) eB (gx r hc) r r))<|eJ r r (fun hc=>eU r (bO (gx r hc) r))<|og r r r (fun hc=>(bM (gx r hc) r r (fun e=>oO hc (eI e))))<|aK r (bX r r r (fun e=>eI e))<|sB r<|aF (fr':=[(2,aB)]) r r<|bF<|bH<|aM ?_
     obtain rfl:=sy h15
     exact bE (rs':=[.tmp 2]) r<|bG (v:=aB) r<|bD<|aN [] r r r lr aC
    ·
     refine aH<|aK r (bO r r)<|sB r<|aF (fr':=[(1,.box 0 0),(4,aI),(36,aB)]) r r<|bS h13 r (fun hb17 h17=>?_) (fun hb17 h17=>?_)
     ·
      refine aH<|aK r (aZ nZ r)<|aK r (aZ iR r)<|aK r (aJ (v:=aI) eB r r r)<|aK r (bO r r)<|sB r<|aF (fr':=[(2,aB)]) r r<|bF<|bH<|aM ?_
      obtain rfl:=sy h17
      exact bE (rs':=[.tmp 2]) r<|bG (v:=aB) r<|bD<|aN [] r r r lr aC
     ·
      refine aH<|aK r (bO r r)<|sB r<|aF (fr':=[(1,.box 0 0),(42,aB)]) r r<|bS h17 r (fun hb19 h19=>?_) (fun hb19 h19=>?_)
      ·
       refine aH<|aK r (aZ nZ r)<|aK r (cN (us:=bQ) fV r r r r) ?_
       obtain ⟨x20,hx20,h21⟩:=aE h19
       refine gW (aY (v:=aB) r (aEr hx20) ⟨(bP r ⟨r,r,r,r,r,trivial⟩),trivial⟩ r r r)<|sB r<|aF (fr':=[(2,aB)]) r r<|bF<|bH<|aM ?_
       obtain rfl:=sy h21
       exact bE (rs':=[.tmp 2]) r<|bG (v:=aB) r<|bD<|aN [] r r r lr aC
      ·
       refine aW<|bW<|bZ<|aH<|sB r<|aF (fr':=[(2,aB)]) r r<|bF ?_
       obtain rfl:=sy h19
       exact bE (rs':=[.tmp 2]) r<|bG (v:=aB) r<|bD<|aN [] r r r lr aC
noncomputable def mQ (p0c:bI):Option Bool :=
 (pH p0c.Kind).bind fun x1=>(hY p0c.Kind (1:Int) (14:Int)).bind fun x3=>(gd ((!x3)==false) (sJ p0c x1)).bind fun x5=>(gd ((cond (!x3) true (!x5))==false) (sG p0c.Data)).bind fun x7=>(gd ((cond (cond (!x3) true (!x5)) true (!x7))==false) (iV p0c.Opts)).bind fun x9=>cond (cond (cond (cond (!x3) true (!x5)) true (!x7)) true (!x9)) (some false) ((gd (x1.seq_==true) (hY p0c.Seq (1:Int) (2000:Int))).bind fun x13=>(gd (((cond x1.seq_ (!x13) false)==false)&&(x1.key_==true)) (oN p0c.Key)).bind fun x15=>cond (cond (cond x1.seq_ (!x13) false) true (cond x1.key_ (!x15) false)) (some false) ((gd (((x1.name_==true)&&((cond (decide (p0c.Kind=(12:Int))) (decide ((4096:Int)<((p0c.Name).length:Int))) false)==false))&&((!decide (p0c.Kind=(12:Int)))==true)) (pK p0c.Name)).bind fun x19=>cond (cond x1.name_ (cond (cond (decide (p0c.Kind=(12:Int))) (decide ((4096:Int)<((p0c.Name).length:Int))) false) true (cond (!decide (p0c.Kind=(12:Int))) (!x19) false)) false) (some false) ((pI p0c).bind fun x23=>some x23)))
theorem vM {p0c:bI}{res:Bool} (h:mQ p0c=some res):bT Tryz.prog 106 [.agg (AV.cs (bR p0c))] [] (.c (.bool res)) []:=by
 unfold mQ at h
 refine cJ (fn:=Tryz.f106) [0,1,2,3,28,46,70] (by kernel_rfl) Tryz.func106 r (by kernel_rfl) (by kernel_rfl)<|aH<|fW (v:=.agg aP) (n:=0) (cs:=aP) (σ':=[aP]) r r r r r<|sB r<|aF (fr':=[(1,.box 0 0)]) r r<|aH<|aK r (aZ lB r)<|aK r (aJ (v:=aI) eB r r r) ?_
 obtain ⟨x1,hx1,h2⟩:=aE h
 refine gW (aY (v:=.agg cU) r (aDG hx1) ⟨lr,trivial⟩ r r r)<|hS (n:=1) (cs:=cU) (σ':=[aP,cU]) aNr r r r<|bV (v:=.agg cU) (us:=cU) (cs:=cU) (σ':=[aP,cU]) r qQ r r r r r r r r<|aF (fr':=[(1,.box 0 0),(3,.box 1 0)]) r r<|aR<|aH<|aK r (aZ lB r)<|aK r (aJ (v:=aI) eB r r r) ?_
 obtain ⟨x3,hx3,h4⟩:=aE h2
 refine gW (aY (v:=aB) r (iT hx3) ⟨lr,lr,lr,trivial⟩ r r r)<|aK r (eD r)<|mB r<|og r r r (fun hc=>(cN (us:=aP) nR r r r r))<|og r r r (fun hc=>(cN (us:=cU) qQ r r r r)) ?_
 obtain ⟨x5,hx5,h6⟩:=aE h4
 refine rZ r r (fun hc=>aY (v:=aB) r (aFT (cG hx5 hc)) ⟨(dW (gx r hc) (bP r ⟨r,r,r,r,r,r,r,r,r,r,r,r,r,r,r,r,r,r,r,r,trivial⟩)),(dW (gx r hc) (bP r ⟨r,r,r,r,r,r,trivial⟩)),trivial⟩ (fC (by repeat (first | exact dT | refine aX r ?_ | refine aX (oQ r) ?_ | refine aX oP ?_))) r r) ?_
 refine og r r r (fun hc=>(eD (gx r hc)))<|aK r (bX r r r (fun e=>eI e))<|mB r<|og r r r (fun hc=>(aZ nZ r))<|og r r r (fun hc=>(cN (us:=bQ) fV (gx r hc) r r r)) ?_
 obtain ⟨x7,hx7,h8⟩:=aE h6
 refine rZ r r (fun hc=>aY (v:=aB) r (aBL (cG hx7 hc)) ⟨(dW (gx r hc) (bP r ⟨r,r,r,r,r,trivial⟩)),trivial⟩ (fC (by repeat (first | exact dT | refine aX r ?_ | refine aX (oQ r) ?_ | refine aX oP ?_))) r r) ?_
 refine og r r r (fun hc=>(eD (gx r hc)))<|aK r (bX r r r (fun e=>eI e))<|mB r<|og r r r (fun hc=>(aZ uL r))<|og r r r (fun hc=>(cN (us:=cI) yM (gx r hc) r r r)) ?_
 obtain ⟨x9,hx9,h10⟩:=aE h8
 refine rZ r r (fun hc=>aY (v:=aB) r (tP (cG hx9 hc)) ⟨(dW (gx r hc) (bP r ⟨r,r,r,r,r,r,r,r,r,r,trivial⟩)),trivial⟩ (fC (by repeat (first | exact dT | refine aX r ?_ | refine aX (oQ r) ?_ | refine aX oP ?_))) r r) ?_
 refine og r r r (fun hc=>(eD (gx r hc)))<|aK r (bX r r r (fun e=>eI e))<|aF (fr':=[(1,.box 0 0),(3,.box 1 0),(28,aB)]) r r<|bS h10 r (fun hb11 h11=>?_) (fun hb11 h11=>?_)
 ·
  refine aH<|sB r<|aF (fr':=[(2,aB)]) r r<|bF<|aM ?_
  obtain rfl:=sy h11
  exact bE (rs':=[.tmp 2]) r<|bG (v:=aB) r<|bD<|aN [] r r r lr aC
 ·
  refine aW<|bZ<|aR<|aH<|aK r (aZ aK3 r)<|aK r (aJ (v:=aB) tv4 r r r)<|mB r<|og r r r (fun hc=>(aZ vX r))<|og r r r (fun hc=>(aJ (v:=aI) eB (gx r hc) r r)) ?_
  obtain ⟨x13,hx13,h14⟩:=aE h11
  refine rZ r r (fun hc=>aY (v:=aB) r (iT (cG hx13 hc)) ⟨(dW (gx r hc) lr),lr,lr,trivial⟩ (fC (by repeat (first | exact dT | refine aX r ?_ | refine aX (oQ r) ?_ | refine aX oP ?_))) r r) ?_
  refine og r r r (fun hc=>(eD (gx r hc)))<|aK r (bM r r r (fun e=>eI e))<|mB r<|og r r r (fun hc=>(aZ aK5 r))<|og r r r (fun hc=>(aJ (v:=aB) tv4 (gx r hc) r r))<|og r r r (fun hc=>(bC (v:=aB) (gx r hc)))<|eJ r r (fun hc=>eU r (aZ vY r))<|eJ r r (fun hc=>eU r (aJ (v:=aS) iE (gx r hc) r r)) ?_
  obtain ⟨x15,hx15,h16⟩:=aE h14
  refine eJ r r (fun hc=>aY (v:=aB) r (aEq (cG hx15 hc)) ⟨(dW (gx r hc) lr),trivial⟩ (fC (by repeat (first | exact dT | refine aX r ?_ | refine aX (oQ r) ?_ | refine aX oP ?_))) r r) ?_
  refine eJ r r (fun hc=>eU r (eD (gx r hc)))<|og r r r (fun hc=>(bM (gx r hc) r r (fun e=>oO hc (eI e))))<|aK r (bX r r r (fun e=>eI e))<|aF (fr':=[(1,.box 0 0),(3,.box 1 0),(46,aB)]) r r<|bS h16 r (fun hb17 h17=>?_) (fun hb17 h17=>?_)
  ·
   refine aH<|sB r<|aF (fr':=[(2,aB)]) r r<|bF<|aM ?_
   obtain rfl:=sy h17
   exact bE (rs':=[.tmp 2]) r<|bG (v:=aB) r<|bD<|aN [] r r r lr aC
  ·
   refine aW<|bZ<|aR<|aH<|aK r (aZ aK4 r)<|aK r (aJ (v:=aB) tv4 r r r)<|mB r<|og r r r (fun hc=>(aZ lB r))<|og r r r (fun hc=>(aJ (v:=aI) eB (gx r hc) r r))<|og r r r (fun hc=>(bO (gx r hc) r))<|og r r r (fun hc=>(bC (v:=aB) (gx r hc)))<|eJ r r (fun hc=>eU r (aZ tG r)) ?_
   refine eJ r r (fun hc=>eU r (aJ (v:=aS) iE (gx r hc) r r))<|eJ r r (fun hc=>eU r (gS nJ (gx r hc)))<|eJ r r (fun hc=>eU r (mG (gx r hc) r))<|og r r r (fun hc=>(bM (gx r hc) r r (fun e=>oO hc (eI e))))<|og r r r (fun hc=>(bC (v:=aB) (gx r hc)))<|eJ r r (fun hc=>eU r (aZ lB r))<|eJ r r (fun hc=>eU r (aJ (v:=aI) eB (gx r hc) r r))<|eJ r r (fun hc=>eU r (gM (gx r hc) r))<|eJ r r (fun hc=>eU r (bC (v:=aB) (gx r hc)))<|eJ r r (fun hc=>eU r (aZ tG r))<|eJ r r (fun hc=>eU r (aJ (v:=aS) iE (gx r hc) r r)) ?_
   obtain ⟨x19,hx19,h20⟩:=aE h17
   refine eJ r r (fun hc=>aY (v:=aB) r (wC (cG hx19 hc)) ⟨(dW (gx r hc) lr),trivial⟩ (fC (by repeat (first | exact dT | refine aX r ?_ | refine aX (oQ r) ?_ | refine aX oP ?_))) r r) ?_
   refine eJ r r (fun hc=>eU r (eD (gx r hc)))<|eJ r r (fun hc=>eU r (bM (gx r hc) r r (fun e=>oO hc (eI e))))<|og r r r (fun hc=>(bX (gx r hc) r r (fun e=>oO hc (eI e))))<|aK r (bM r r r (fun e=>eI e))<|aF (fr':=[(1,.box 0 0),(70,aB)]) r r<|bS h20 r (fun hb21 h21=>?_) (fun hb21 h21=>?_)
   ·
    refine aH<|sB r<|aF (fr':=[(2,aB)]) r r<|bF<|aM ?_
    obtain rfl:=sy h21
    exact bE (rs':=[.tmp 2]) r<|bG (v:=aB) r<|bD<|aN [] r r r lr aC
   ·
    refine aW<|bZ<|aH<|aK r (cN (us:=aP) nR r r r r) ?_
    obtain ⟨x23,hx23,h24⟩:=aE h21
    refine gW (aY (v:=aB) r (aDH hx23) ⟨(bP r ⟨r,r,r,r,r,r,r,r,r,r,r,r,r,r,r,r,r,r,r,r,trivial⟩),trivial⟩ r r r)<|sB r<|aF (fr':=[(2,aB)]) r r<|bF ?_
    obtain rfl:=sy h24
    exact bE (rs':=[.tmp 2]) r<|bG (v:=aB) r<|bD<|aN [] r r r lr aC
noncomputable def uU (uX:(List UInt8)):Option (Int × Bool) :=
 if uX.length≤140737488355328 then some (rF uX) else none
theorem aGy {uX:(List UInt8)}{res:(Int × Bool)} (h:uU uX=some res):bT Tryz.prog 161 [.c (.str uX)] [] (.tup [ci res.1,.c (.bool res.2)]) []:=by
 unfold uU at h
 obtain ⟨hl,rfl⟩:=aMK h
 refine aBM (by kernel_rfl) fun g w vs hv hI hg=>?_
 rw [aPg hv]
 refine (aHx hl w hI hg).mono fun e w'=>?_
 rintro ⟨rfl,hb⟩
 exact ⟨_,r,hb,fun g'=>aNa (.c (.int _ _)) (.c (.bool _))⟩
end Go.Proofs.YtnigjppddilpcaaGreatDoor
