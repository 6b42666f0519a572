import Derived.Test.YtnigjppddilpcaaGreatDoorGETy
import Derived.Test.YtnigjppddilpcaaGreatDoorGEF0
import Derived.Test.YtnigjppddilpcaaGreatDoorGEF1
import Derived.Test.YtnigjppddilpcaaGreatDoorGEF3
import Derived.Test.YtnigjppddilpcaaGreatDoorGEF4
import Derived.Test.YtnigjppddilpcaaGreatDoorGEF5
import Derived.Test.YtnigjppddilpcaaGreatDoorGEF6
import Derived.Test.YtnigjppddilpcaaGreatDoorGEF9
import Derived.Test.YtnigjppddilpcaaGreatDoorGEF13
namespace Go.Proofs.YtnigjppddilpcaaGreatDoor
open Go Abs
set_option maxRecDepth 100000
set_option linter.unusedVariables false
set_option linter.unusedSimpArgs false
noncomputable def mW (p0q:bK):Option Bool :=
 (pP p0q.Kind).bind fun x1=>(iQ p0q.Kind (1:Int) (17:Int)).bind fun x3=>(gd ((!x3)==false) (iQ p0q.Time (0:Int) (1099511627776:Int))).bind fun x5=>(gd ((cond (!x3) true (!x5))==false) (tD p0q x1)).bind fun x7=>(gd ((cond (cond (!x3) true (!x5)) true (!x7))==false) (sG p0q.Data)).bind fun x9=>cond (cond (cond (cond (!x3) true (!x5)) true (!x7)) true (!x9)) (some false) ((gd (((cond (decide (p0q.Kind=(14:Int))) (!decide (p0q.Workflow=([]:List UInt8))) false)==false)&&((!(decide (p0q.Kind=(14:Int))))==true)) (mX p0q.Workflow)).bind fun x13=>(gd ((cond (cond (decide (p0q.Kind=(14:Int))) (!decide (p0q.Workflow=([]:List UInt8))) false) true (cond (!(decide (p0q.Kind=(14:Int)))) (!x13) false))==false) (sE p0q.Run)).bind fun x15=>cond (cond (cond (cond (cond (decide (p0q.Kind=(14:Int))) (!decide (p0q.Workflow=([]:List UInt8))) false) true (cond (!(decide (p0q.Kind=(14:Int)))) (!x13) false)) true (!x15)) true (cond (cond (decide (p0q.Kind=(14:Int))) true (decide (p0q.Kind=(1:Int)))) (!decide (p0q.Run=([]:List UInt8))) false)) (some false) (((cond (decide (p0q.Kind=(1:Int))) (some (0:Int)) (some (1:Int))):Option Int).bind fun x19=>((gd (((cond x1.token_ (decide (p0q.Token<(1:Int))) false)==false)&&(x1.event_==true)) (iQ p0q.Event (1:Int) (2000:Int))).bind fun x24=>(gd (((cond (cond x1.token_ (decide (p0q.Token<(1:Int))) false) true (cond x1.event_ (!x24) false))==false)&&(x1.seq_==true)) (iQ p0q.Seq x19 (2000:Int))).bind fun x26=>(gd ((cond (cond (cond x1.token_ (decide (p0q.Token<(1:Int))) false) true (cond x1.event_ (!x24) false)) true (cond x1.seq_ (!x26) false))==false) (pR p0q.Parent)).bind fun x28=>cond (cond (cond (cond (cond x1.token_ (decide (p0q.Token<(1:Int))) false) true (cond x1.event_ (!x24) false)) true (cond x1.seq_ (!x26) false)) true (!x28)) (some false) ((gd ((decide ((200:Int)<((p0q.Commands).length:Int)))==false) (dE p0q.Commands)).bind fun x32=>cond (cond (decide ((200:Int)<((p0q.Commands).length:Int))) true x32) (some false) ((pQ p0q).bind fun x36=>(gd (x36==true) (rA p0q x1)).bind fun x38=>some (cond x36 x38 false))))))
theorem vN {p0q:bK}{res:Bool} (h:mW p0q=some res):bT Tryz.prog 39 [.agg (AV.cs (fD p0q))] [] (.c (.bool res)) []:=by
 unfold mW at h
 refine cJ (fn:=Tryz.f39) [0,1,2,3,4,5,30,68,71,105,114] (by kernel_rfl) Tryz.func39 r (by kernel_rfl) (by kernel_rfl)<|aH<|fW (v:=.agg aD) (n:=0) (cs:=aD) (σ':=[aD]) r r r r r<|sB r<|aF (fr':=[(1,.box 0 0)]) r r<|aH<|aK r (aZ jX r)<|aK r (aJ (v:=aI) eB r r r) ?_
 obtain ⟨x1,hx1,h2⟩:=aE h
 refine gW (aY (v:=.agg bA) r (aDK hx1) ⟨lr,trivial⟩ r r r)<|hS (n:=1) (cs:=bA) (σ':=[aD,bA]) aNq r r r<|bV (v:=.agg bA) (us:=bA) (cs:=bA) (σ':=[aD,bA]) r lM r r r r r r r r<|aF (fr':=[(1,.box 0 0),(3,.box 1 0)]) r r<|aR<|aH<|aK r (aZ jX r)<|aK r (aJ (v:=aI) eB r r r) ?_
 obtain ⟨x3,hx3,h4⟩:=aE h2
 refine gW (aY (v:=aB) r (jM hx3) ⟨lr,lr,lr,trivial⟩ r r r)<|aK r (eD r)<|mB r<|og r r r (fun hc=>(aZ aAP r))<|og r r r (fun hc=>(aJ (v:=aI) eB (gx r hc) r r)) ?_
 obtain ⟨x5,hx5,h6⟩:=aE h4
 refine rZ r r (fun hc=>aY (v:=aB) r (jM (cG hx5 hc)) ⟨(dW (gx r hc) lr),lr,lr,trivial⟩ (fC (by repeat (first | exact dT | refine aX r ?_ | refine aX (oQ r) ?_ | refine aX oP ?_))) r r) ?_
 refine og r r r (fun hc=>(eD (gx r hc)))<|aK r (bX r r r (fun e=>eI e))<|mB r<|og r r r (fun hc=>(cN (us:=aD) rB r r r r))<|og r r r (fun hc=>(cN (us:=bA) lM r r r r)) ?_
 obtain ⟨x7,hx7,h8⟩:=aE h6
 refine rZ r r (fun hc=>aY (v:=aB) r (aF3 (cG hx7 hc)) ⟨(dW (gx r hc) (bP r ⟨r,r,r,r,r,r,r,r,r,r,r,r,r,r,r,r,r,r,r,r,r,r,r,r,r,r,r,trivial⟩)),(dW (gx r hc) (bP r ⟨r,r,r,r,r,r,r,r,r,trivial⟩)),trivial⟩ (fC (by repeat (first | exact dT | refine aX r ?_ | refine aX (oQ r) ?_ | refine aX oP ?_))) r r) ?_
 refine og r r r (fun hc=>(eD (gx r hc)))<|aK r (bX r r r (fun e=>eI e))<|mB r<|og r r r (fun hc=>(aZ vZ r))<|og r r r (fun hc=>(cN (us:=bQ) fV (gx r hc) r r r)) ?_
 obtain ⟨x9,hx9,h10⟩:=aE h8
 refine rZ r r (fun hc=>aY (v:=aB) r (aBL (cG hx9 hc)) ⟨(dW (gx r hc) (bP r ⟨r,r,r,r,r,trivial⟩)),trivial⟩ (fC (by repeat (first | exact dT | refine aX r ?_ | refine aX (oQ r) ?_ | refine aX oP ?_))) r r) ?_
 refine og r r r (fun hc=>(eD (gx r hc)))<|aK r (bX r r r (fun e=>eI e))<|aF (fr':=[(1,.box 0 0),(3,.box 1 0),(30,aB)]) r r<|bS h10 r (fun hb11 h11=>?_) (fun hb11 h11=>?_)
 ·
  refine aH<|sB r<|aF (fr':=[(2,aB)]) r r<|bF<|aM ?_
  obtain rfl:=sy h11
  exact bE (rs':=[.tmp 2]) r<|bG (v:=aB) r<|bD<|aN [] r r r lr aC
 ·
  refine aW<|bZ<|aH<|aK r (aZ jX r)<|aK r (aJ (v:=aI) eB r r r)<|aK r (bO r r)<|sB r<|aF (fr':=[(1,.box 0 0),(3,.box 1 0),(4,aB)]) r r<|aR<|aH<|mB r ?_
  refine mB r<|og r r r (fun hc=>(aZ zK r))<|og r r r (fun hc=>(aJ (v:=aS) iE (gx r hc) r r))<|og r r r (fun hc=>(rR (gx r hc) r))<|aK r (bM r r r (fun e=>eI e))<|mB r<|og r r r (fun hc=>(bC (v:=aB) r))<|og r r r (fun hc=>(eD (gx r hc)))<|og r r r (fun hc=>(bC (v:=aB) (gx r hc)))<|eJ r r (fun hc=>eU r (aZ zK r))<|eJ r r (fun hc=>eU r (aJ (v:=aS) iE (gx r hc) r r)) ?_
  obtain ⟨x13,hx13,h14⟩:=aE h11
  refine eJ r r (fun hc=>aY (v:=aB) r (vO (cG hx13 hc)) ⟨(dW (gx r hc) lr),trivial⟩ (fC (by repeat (first | exact dT | refine aX r ?_ | refine aX (oQ r) ?_ | refine aX oP ?_))) r r) ?_
  refine eJ r r (fun hc=>eU r (eD (gx r hc)))<|og r r r (fun hc=>(bM (gx r hc) r r (fun e=>oO hc (eI e))))<|aK r (bX r r r (fun e=>eI e))<|mB r<|og r r r (fun hc=>(aZ zL r))<|og r r r (fun hc=>(aJ (v:=aS) iE (gx r hc) r r)) ?_
  obtain ⟨x15,hx15,h16⟩:=aE h14
  refine rZ r r (fun hc=>aY (v:=aB) r (aBK (cG hx15 hc)) ⟨(dW (gx r hc) lr),trivial⟩ (fC (by repeat (first | exact dT | refine aX r ?_ | refine aX (oQ r) ?_ | refine aX oP ?_))) r r) ?_
  refine og r r r (fun hc=>(eD (gx r hc)))<|aK r (bX r r r (fun e=>eI e))<|mB r<|og r r r (fun hc=>(bC (v:=aB) r))<|og r r r (fun hc=>(bC (v:=aB) (gx r hc)))<|eJ r r (fun hc=>eU r (aZ jX r))<|eJ r r (fun hc=>eU r (aJ (v:=aI) eB (gx r hc) r r))<|eJ r r (fun hc=>eU r (bO (gx r hc) r))<|og r r r (fun hc=>(bX (gx r hc) r r (fun e=>oO hc (eI e))))<|og r r r (fun hc=>(bC (v:=aB) (gx r hc)))<|eJ r r (fun hc=>eU r (aZ zL r))<|eJ r r (fun hc=>eU r (aJ (v:=aS) iE (gx r hc) r r))<|eJ r r (fun hc=>eU r (rR (gx r hc) r)) ?_
  refine og r r r (fun hc=>(bM (gx r hc) r r (fun e=>oO hc (eI e))))<|aK r (bX r r r (fun e=>eI e))<|aF (fr':=[(1,.box 0 0),(3,.box 1 0),(68,aB)]) r r<|bS h16 r (fun hb17 h17=>?_) (fun hb17 h17=>?_)
  ·
   refine aH<|sB r<|aF (fr':=[(2,aB)]) r r<|bF<|aM ?_
   obtain rfl:=sy h17
   exact bE (rs':=[.tmp 2]) r<|bG (v:=aB) r<|bD<|aN [] r r r lr aC
  ·
   refine aW<|bZ<|aH<|sI r<|aF (fr':=[(1,.box 0 0),(3,.box 1 0),(5,aI)]) r r ?_
   obtain ⟨x19,hx19,h20⟩:=aE h17
   refine fP (fun j21=>x19=j21) (fun (j21:Int)=>([(1,.box 0 0),(3,.box 1 0),(5,ci j21)]:Fr)) (fun (j21:Int)=>([[ci p0q.Kind,ci p0q.Time,.c (.str p0q.Workflow),.c (.str p0q.Run),.c (.str p0q.ID),.c (.str p0q.Name),ci p0q.Token,ci p0q.Event,ci p0q.Seq,ci p0q.N,ci p0q.Data.Kind,ci p0q.Data.Int,.c (.str p0q.Data.Text),.c (PV.ls 5 bB p0q.Data.Items),.c (PV.ls 1 dD p0q.Data.Keys),.c (.str p0q.Opts.Queue),ci p0q.Opts.ToStart,ci p0q.Opts.ToClose,ci p0q.Opts.Total,ci p0q.Opts.Beat,ci p0q.Opts.First,ci p0q.Opts.Coef,ci p0q.Opts.Most,ci p0q.Opts.Attempts,.c (PV.ls 1 dD p0q.Opts.Fatal),.c (PV.ls 20 bR p0q.Commands),.c (.str p0q.Parent)],[.c (.bool x1.id_),.c (.bool x1.name_),.c (.bool x1.token_),.c (.bool x1.event_),.c (.bool x1.seq_),.c (.bool x1.n_),.c (.bool x1.data_),.c (.bool x1.commands_),.c (.bool x1.parent_)]]:St)) ?_ ?_
   ·
    refine aH<|aK r (aZ jX r)<|aK r (aJ (v:=aI) eB r r r)<|aK r (bO r r)<|aF (fr':=[(1,.box 0 0),(3,.box 1 0),(5,aI),(71,aB)]) r r<|bS hx19 r (fun hb22 h22=>?_) (fun hb22 h22=>?_)
    ·
     exact aT<|sI r<|cD (fr':=[(1,.box 0 0),(3,.box 1 0),(5,aI),(71,aB)]) r<|fS _ (sy h22) (aU [] 2 r r r r ⟨lr,lr,lr,trivial⟩ (bJ r (bJ r aC)))
    ·
     exact aW<|fS _ (sy h22) (aU [] 2 r r r r ⟨lr,lr,lr,trivial⟩ (bJ r (bJ r aC)))
   ·
    intro j21 hj23
    subst hj23
    refine aR<|aH<|aK r (aZ aK0 r)<|aK r (aJ (v:=aB) tv4 r r r)<|mB r<|og r r r (fun hc=>(aZ vL r))<|og r r r (fun hc=>(aJ (v:=aI) eB (gx r hc) r r))<|og r r r (fun hc=>(eA (gx r hc) r))<|aK r (bM r r r (fun e=>eI e))<|mB r<|og r r r (fun hc=>(aZ aK1 r))<|og r r r (fun hc=>(aJ (v:=aB) tv4 (gx r hc) r r)) ?_
    refine og r r r (fun hc=>(bC (v:=aB) (gx r hc)))<|eJ r r (fun hc=>eU r (aZ zM r))<|eJ r r (fun hc=>eU r (aJ (v:=aI) eB (gx r hc) r r)) ?_
    obtain ⟨x24,hx24,h25⟩:=aE h20
    refine eJ r r (fun hc=>aY (v:=aB) r (jM (cG hx24 hc)) ⟨(dW (gx r hc) lr),lr,lr,trivial⟩ (fC (by repeat (first | exact dT | refine aX r ?_ | refine aX (oQ r) ?_ | refine aX oP ?_))) r r) ?_
    refine eJ r r (fun hc=>eU r (eD (gx r hc)))<|og r r r (fun hc=>(bM (gx r hc) r r (fun e=>oO hc (eI e))))<|aK r (bX r r r (fun e=>eI e))<|mB r<|og r r r (fun hc=>(aZ aK2 r))<|og r r r (fun hc=>(aJ (v:=aB) tv4 (gx r hc) r r))<|og r r r (fun hc=>(bC (v:=aB) (gx r hc)))<|eJ r r (fun hc=>eU r (aZ xB r))<|eJ r r (fun hc=>eU r (aJ (v:=aI) eB (gx r hc) r r))<|eJ r r (fun hc=>eU r (bC (v:=aI) r)) ?_
    obtain ⟨x26,hx26,h27⟩:=aE h25
    refine eJ r r (fun hc=>aY (v:=aB) r (jM (cG hx26 hc)) ⟨(dW (gx r hc) lr),(dW (gx r hc) lr),lr,trivial⟩ (fC (by repeat (first | exact dT | refine aX r ?_ | refine aX (oQ r) ?_ | refine aX oP ?_))) r r) ?_
    refine eJ r r (fun hc=>eU r (eD (gx r hc)))<|og r r r (fun hc=>(bM (gx r hc) r r (fun e=>oO hc (eI e))))<|aK r (bX r r r (fun e=>eI e))<|mB r<|og r r r (fun hc=>(aZ tH r))<|og r r r (fun hc=>(aJ (v:=aS) iE (gx r hc) r r)) ?_
    obtain ⟨x28,hx28,h29⟩:=aE h27
    refine rZ r r (fun hc=>aY (v:=aB) r (aDM (cG hx28 hc)) ⟨(dW (gx r hc) lr),trivial⟩ (fC (by repeat (first | exact dT | refine aX r ?_ | refine aX (oQ r) ?_ | refine aX oP ?_))) r r) ?_
    refine og r r r (fun hc=>(eD (gx r hc)))<|aK r (bX r r r (fun e=>eI e))<|aF (fr':=[(1,.box 0 0),(3,.box 1 0),(105,aB)]) r r<|bS h29 r (fun hb30 h30=>?_) (fun hb30 h30=>?_)
    ·
     refine aH<|sB r<|aF (fr':=[(2,aB)]) r r<|bF<|aM ?_
     obtain rfl:=sy h30
     exact bE (rs':=[.tmp 2]) r<|bG (v:=aB) r<|bD<|aN [] r r r lr aC
    ·
     refine aW<|bZ<|aR<|aH<|aK r (aZ oB r)<|aK r (aJ (v:=aL) aCc r r r)<|aK r (eC aCb (cR r))<|aK r (mG r r)<|mB r<|og r r r (fun hc=>(aZ oB r))<|og r r r (fun hc=>(aJ (v:=aL) aCc (gx r hc) r r)) ?_
     obtain ⟨x32,hx32,h33⟩:=aE h30
     refine rZ r r (fun hc=>aY (v:=aB) r (iW (cG hx32 hc)) ⟨(dW (gx r hc) lr),lr,trivial⟩ (fC (by repeat (first | exact dT | refine aX r ?_ | refine aX (oQ r) ?_ | refine aX oP ?_))) r r) ?_
     refine aK r (bX r r r (fun e=>eI e))<|aF (fr':=[(1,.box 0 0),(3,.box 1 0),(114,aB)]) r r<|bS h33 r (fun hb34 h34=>?_) (fun hb34 h34=>?_)
     ·
      refine aH<|sB r<|aF (fr':=[(2,aB)]) r r<|bF<|aM ?_
      obtain rfl:=sy h34
      exact bE (rs':=[.tmp 2]) r<|bG (v:=aB) r<|bD<|aN [] r r r lr aC
     ·
      refine aW<|bZ<|aH<|aK r (cN (us:=aD) rB r r r r) ?_
      obtain ⟨x36,hx36,h37⟩:=aE h34
      refine gW (aY (v:=aB) r (aDL hx36) ⟨(bP r ⟨r,r,r,r,r,r,r,r,r,r,r,r,r,r,r,r,r,r,r,r,r,r,r,r,r,r,r,trivial⟩),trivial⟩ r r r)<|mB r<|og r r r (fun hc=>(cN (us:=aD) rB r r r r))<|og r r r (fun hc=>(cN (us:=bA) lM r r r r)) ?_
      obtain ⟨x38,hx38,h39⟩:=aE h37
      refine rZ r r (fun hc=>aY (v:=aB) r (aEt (cG hx38 hc)) ⟨(dW (gx r hc) (bP r ⟨r,r,r,r,r,r,r,r,r,r,r,r,r,r,r,r,r,r,r,r,r,r,r,r,r,r,r,trivial⟩)),(dW (gx r hc) (bP r ⟨r,r,r,r,r,r,r,r,r,trivial⟩)),trivial⟩ (fC (by repeat (first | exact dT | refine aX r ?_ | refine aX (oQ r) ?_ | refine aX oP ?_))) r r) ?_
      refine aK r (bM r r r (fun e=>eI e))<|sB r<|aF (fr':=[(2,aB)]) r r<|bF ?_
      obtain rfl:=sy h39
      exact bE (rs':=[.tmp 2]) r<|bG (v:=aB) r<|bD<|aN [] r r r lr aC
noncomputable def pG (p0b:(List UInt8)) (p1c:bI):Option (List UInt8) :=
 (gC p0b).bind fun x1=>(mQ p1c).bind fun x3=>cond (!x3) (some x1) ((fB x1 p1c.Kind).bind fun x7=>(fB x7 p1c.Seq).bind fun x9=>(hU x9 p1c.Name).bind fun x11=>(hU x11 p1c.Key).bind fun x13=>(fB x13 p1c.N).bind fun x15=>(qP x15 p1c.Data).bind fun x17=>(pJ x17 p1c.Opts).bind fun x19=>some x19)
theorem aDF {p0b:(List UInt8)}{p1c:bI}{res:(List UInt8)} (h:pG p0b p1c=some res):bT Tryz.prog 90 [.c (PV.ls 1 eL p0b),.agg (AV.cs (bR p1c))] [] (AV.os 0 1 eL res) []:=by
 unfold pG at h
 refine cJ (fn:=Tryz.f90) [0,1,3,4,5,10] (by kernel_rfl) Tryz.func90 r (by kernel_rfl) (by kernel_rfl)<|aH<|fW (v:=.agg aP) (n:=0) (cs:=aP) (σ':=[aP]) r r r r r<|sV (v:=AV.nil) r<|aF (fr':=[(0,aL),(3,.box 0 0)]) r r<|aH<|mL r ?_
 obtain ⟨x1,hx1,h2⟩:=aE h
 refine gW (aY (v:=aO) r (jN hx1) ⟨lr,trivial⟩ r r r)<|sV (v:=aO) r<|aF (fr':=[(3,.box 0 0),(5,aO)]) r r<|aR<|aH<|aK r (cN (us:=aP) nR r r r r) ?_
 obtain ⟨x3,hx3,h4⟩:=aE h2
 refine gW (aY (v:=aB) r (vM hx3) ⟨(bP r ⟨r,r,r,r,r,r,r,r,r,r,r,r,r,r,r,r,r,r,r,r,trivial⟩),trivial⟩ r r r)<|aK r (eD r)<|aF (fr':=[(3,.box 0 0),(5,aO),(10,aB)]) r r<|bS h4 r (fun hb5 h5=>?_) (fun hb5 h5=>?_)
 ·
  refine aH<|mV (v:=aO) r<|sV (v:=aO) r<|aF (fr':=[(4,aO)]) r r<|bF<|aM ?_
  obtain rfl:=sy h5
  exact bE (rs':=[.tmp 4]) r<|bG (v:=aO) r<|bD<|aN [112] r r r lr aC
 ·
  refine aW<|bZ<|aH<|mV (v:=aO) r<|aK r (aZ lB r)<|aK r (aJ (v:=aI) eB r r r) ?_
  obtain ⟨x7,hx7,h8⟩:=aE h5
  refine gW (aY (v:=aO) r (fE hx7) ⟨lr,lr,trivial⟩ r r r)<|sV (v:=aO) r<|aF (fr':=[(3,.box 0 0),(5,aO)]) r r<|aH<|mV (v:=aO) r<|aK r (aZ vX r)<|aK r (aJ (v:=aI) eB r r r) ?_
  obtain ⟨x9,hx9,h10⟩:=aE h8
  refine gW (aY (v:=aO) r (fE hx9) ⟨lr,lr,trivial⟩ r r r)<|sV (v:=aO) r<|aF (fr':=[(3,.box 0 0),(5,aO)]) r r<|aH<|mV (v:=aO) r<|aK r (aZ tG r)<|aK r (aJ (v:=aS) iE r r r) ?_
  obtain ⟨x11,hx11,h12⟩:=aE h10
  refine gW (aY (v:=aO) r (jZ hx11) ⟨lr,lr,trivial⟩ r r r)<|sV (v:=aO) r<|aF (fr':=[(3,.box 0 0),(5,aO)]) r r<|aH<|mV (v:=aO) r<|aK r (aZ vY r)<|aK r (aJ (v:=aS) iE r r r) ?_
  obtain ⟨x13,hx13,h14⟩:=aE h12
  refine gW (aY (v:=aO) r (jZ hx13) ⟨lr,lr,trivial⟩ r r r)<|sV (v:=aO) r<|aF (fr':=[(3,.box 0 0),(5,aO)]) r r<|aH<|mV (v:=aO) r<|aK r (aZ mO r)<|aK r (aJ (v:=aI) eB r r r) ?_
  obtain ⟨x15,hx15,h16⟩:=aE h14
  refine gW (aY (v:=aO) r (fE hx15) ⟨lr,lr,trivial⟩ r r r)<|sV (v:=aO) r<|aF (fr':=[(3,.box 0 0),(5,aO)]) r r<|aR<|hF [.q 0,.q 1,.q 2,.q 4,.q 5,.n 3 [4,5],.n 6 [],.n 7 []] [(some 32,[5]),(some 33,[3]),(some 34,[33]),(some 35,[32,34]),(some 36,[3]),(some 37,[36]),(some 38,[35,37]),(some 4,[38])] [0,0,2,7,0,16,63,127] (by kernel_rfl)<|dq r r (bC (v:=aO) r)<|dq r r (aZ nZ r)<|dq r r (cN (us:=bQ) fV r r r r)<|dq r r (aZ uL r)<|dq r r (cN (us:=cI) yM r r r r)<|d_n r ?_ r
  obtain ⟨x17,hx17,h18⟩:=aE h16
  refine gW (aY (v:=aO) r (aA6 hx17) ⟨lr,(bP r ⟨r,r,r,r,r,trivial⟩),trivial⟩ r r r)<|yD<|⟨(aBo (v:=.box 0 10) r r (mJ r (aZ uL r)) (aBo (v:=.agg cI) r r (mJ r (cN (us:=cI) yM r r r r)) nH)),?_⟩
  refine d_n r ?_ r
  obtain ⟨x19,hx19,h20⟩:=aE h18
  refine gW (aY (v:=aO) r (aDI hx19) ⟨lr,(bP r ⟨r,r,r,r,r,r,r,r,r,r,trivial⟩),trivial⟩ r r r)<|yD<|⟨nH,?_⟩
  refine d_n r ?_ r
  refine sV (v:=aO) r<|yD<|⟨nH,?_⟩
  refine tS (fr':=[(4,aO)]) r r<|bF ?_
  obtain rfl:=sy h20
  exact bE (rs':=[.tmp 4]) r<|bG (v:=aO) r<|bD<|aN [608] r r r lr aC
noncomputable def oX (p0q:bK) (s12:((List UInt8) × Int)):Option (cM ((List UInt8) × Int) (List UInt8)) :=
 cond (decide (s12.2<((([p0q.Workflow,p0q.Run,p0q.ID,p0q.Name]:List (List UInt8))).length:Int))) ((jT ([p0q.Workflow,p0q.Run,p0q.ID,p0q.Name]:List (List UInt8)) s12.2).bind fun x14=>(hU s12.1 x14).bind fun x16=>some (cM.next (x16,(IntKind.wrap .i64 (s12.2+(1:Int)))))) (some (cM.out s12.1))
noncomputable def oY (p0q:bK) (s23:((List UInt8) × Int)):Option (cM ((List UInt8) × Int) (List UInt8)) :=
 cond (decide (s23.2<((([p0q.Token,p0q.Event,p0q.Seq,p0q.N]:List Int)).length:Int))) ((jT ([p0q.Token,p0q.Event,p0q.Seq,p0q.N]:List Int) s23.2).bind fun x25=>(fB s23.1 x25).bind fun x27=>some (cM.next (x27,(IntKind.wrap .i64 (s23.2+(1:Int)))))) (some (cM.out s23.1))
noncomputable def oZ (p0q:bK) (s38:((List UInt8) × Int)):Option (cM ((List UInt8) × Int) (List UInt8)) :=
 cond (decide (s38.2<((p0q.Commands).length:Int))) ((jT p0q.Commands s38.2).bind fun x40=>(pG s38.1 x40).bind fun x42=>some (cM.next (x42,(IntKind.wrap .i64 (s38.2+(1:Int)))))) (some (cM.out s38.1))
noncomputable def jV (p0q:bK):Option ((List UInt8) × Int) :=
 (mW p0q).bind fun x1=>cond (!x1) (some (([]:(List UInt8)),(3:Int))) ((fB ([]:List UInt8) p0q.Kind).bind fun x5=>(fB x5 p0q.Time).bind fun x7=>((eQ (oX p0q) ((x7,(0:Int)))):Option (List UInt8)).bind fun x9=>(((eQ (oY p0q) ((x9,(0:Int)))):Option (List UInt8)).bind fun x20=>((qP x20 p0q.Data).bind fun x31=>(fB x31 ((p0q.Commands).length:Int)).bind fun x33=>((eQ (oZ p0q) ((x33,(0:Int)))):Option (List UInt8)).bind fun x35=>((hU x35 p0q.Parent).bind fun x46=>cond (decide ((65536:Int)<((x46).length:Int))) (some (([]:(List UInt8)),(6:Int))) (some (x46,(0:Int)))))))
theorem uC {p0q:bK}{res:((List UInt8) × Int)} (h:jV p0q=some res):bT Tryz.prog 35 [.agg (AV.cs (fD p0q))] [] (.tup [AV.os 0 1 eL res.1,ci res.2]) []:=by
 unfold jV at h
 refine cJ (fn:=Tryz.f35) [0,1,2,3,4,6,8,10,13,29,30,31,32,47,48,49,50,67,68,69,70,83] (by kernel_rfl) Tryz.func35 r (by kernel_rfl) (by kernel_rfl)<|aH<|fW (v:=.agg aD) (n:=0) (cs:=aD) (σ':=[aD]) r r r r r<|sV (v:=AV.nil) r<|sI r<|aF (fr':=[(1,.box 0 0)]) r r<|aR<|aH<|aK r (cN (us:=aD) rB r r r r) ?_
 obtain ⟨x1,hx1,h2⟩:=aE h
 refine gW (aY (v:=aB) r (vN hx1) ⟨(bP r ⟨r,r,r,r,r,r,r,r,r,r,r,r,r,r,r,r,r,r,r,r,r,r,r,r,r,r,r,trivial⟩),trivial⟩ r r r)<|aK r (eD r)<|aF (fr':=[(1,.box 0 0),(13,aB)]) r r<|bS h2 r (fun hb3 h3=>?_) (fun hb3 h3=>?_)
 ·
  refine aH<|sV (v:=AV.nil) r<|sI r<|aF (fr':=[(2,AV.nil),(3,aI)]) r r<|bF<|aM ?_
  obtain rfl:=sy h3
  exact bE (rs':=[.tmp 2,.tmp 3]) r<|bG (v:=AV.nil) r<|bG (v:=aI) r<|bD<|aN [1000000] r r r (kW r ⟨(yY r),lr,trivial⟩) aC
 ·
  refine aW<|bZ<|aH<|aK r (aZ jX r)<|aK r (aJ (v:=aI) eB r r r) ?_
  obtain ⟨x5,hx5,h6⟩:=aE h3
  refine gW (aY (v:=aO) r (fE hx5) ⟨aDl,lr,trivial⟩ r r r)<|sV (v:=aO) r<|aF (fr':=[(1,.box 0 0),(4,aO)]) r r<|aH<|mV (v:=aO) r<|aK r (aZ aAP r)<|aK r (aJ (v:=aI) eB r r r) ?_
  obtain ⟨x7,hx7,h8⟩:=aE h6
  refine gW (aY (v:=aO) r (fE hx7) ⟨lr,lr,trivial⟩ r r r)<|sV (v:=aO) r<|aF (fr':=[(1,.box 0 0),(4,aO)]) r r<|aR<|aH<|aK r (aZ zK r)<|aK r (aJ (v:=aS) iE r r r)<|aK r (aZ zL r)<|aK r (aJ (v:=aS) iE r r r)<|aK r (aZ xA r)<|aK r (aJ (v:=aS) iE r r r)<|aK r (aZ pT r) ?_
  refine aK r (aJ (v:=aS) iE r r r)<|mT (row:=dD) (xs:=([p0q.Workflow,p0q.Run,p0q.ID,p0q.Name]:List (List UInt8))) (rows:=[[_],[_],[_],[_]]) (σ':=[aD]) [0] rV r r r (cB r (cB r (cB r (cB r iC)))) r r<|aK r (eC pU (kQ r))<|mI r<|aF (fr':=[(1,.box 0 0),(4,aO),(29,aO),(30,aI),(31,aI)]) r r ?_
  obtain ⟨x9,hx9,h10⟩:=aE h8
  refine eR gX (fun j11=>x9=j11) (fun (j11:(List UInt8))=>([(1,.box 0 0),(4,AV.os 0 1 eL j11)]:Fr)) (fun (j11:(List UInt8))=>([[ci p0q.Kind,ci p0q.Time,.c (.str p0q.Workflow),.c (.str p0q.Run),.c (.str p0q.ID),.c (.str p0q.Name),ci p0q.Token,ci p0q.Event,ci p0q.Seq,ci p0q.N,ci p0q.Data.Kind,ci p0q.Data.Int,.c (.str p0q.Data.Text),.c (PV.ls 5 bB p0q.Data.Items),.c (PV.ls 1 dD p0q.Data.Keys),.c (.str p0q.Opts.Queue),ci p0q.Opts.ToStart,ci p0q.Opts.ToClose,ci p0q.Opts.Total,ci p0q.Opts.Beat,ci p0q.Opts.First,ci p0q.Opts.Coef,ci p0q.Opts.Most,ci p0q.Opts.Attempts,.c (PV.ls 1 dD p0q.Opts.Fatal),.c (PV.ls 20 bR p0q.Commands),.c (.str p0q.Parent)]]:St)) ?_ ?_
  ·
   refine bL<|eK _ (fun (s12:((List UInt8) × Int))=>([(1,.box 0 0),(4,AV.os 0 1 eL s12.1),(29,AV.os 1 1 dD ([p0q.Workflow,p0q.Run,p0q.ID,p0q.Name]:List (List UInt8))),(30,ci ((([p0q.Workflow,p0q.Run,p0q.ID,p0q.Name]:List (List UInt8))).length:Int)),(31,ci s12.2)]:Fr)) (fun (s12:((List UInt8) × Int))=>([[ci p0q.Kind,ci p0q.Time,.c (.str p0q.Workflow),.c (.str p0q.Run),.c (.str p0q.ID),.c (.str p0q.Name),ci p0q.Token,ci p0q.Event,ci p0q.Seq,ci p0q.N,ci p0q.Data.Kind,ci p0q.Data.Int,.c (.str p0q.Data.Text),.c (PV.ls 5 bB p0q.Data.Items),.c (PV.ls 1 dD p0q.Data.Keys),.c (.str p0q.Opts.Queue),ci p0q.Opts.ToStart,ci p0q.Opts.ToClose,ci p0q.Opts.Total,ci p0q.Opts.Beat,ci p0q.Opts.First,ci p0q.Opts.Coef,ci p0q.Opts.Most,ci p0q.Opts.Attempts,.c (PV.ls 1 dD p0q.Opts.Fatal),.c (PV.ls 20 bR p0q.Commands),.c (.str p0q.Parent)]]:St)) hx9 (aU [320,464] 1 r r r r ⟨lr,lr,lr,lr,lr,trivial⟩ (bJ r aC)) ?_
   intro s12 st12 hs12 ho12
   unfold oX at hs12
   refine aH<|aK r (eA r r)<|aF (fr':=[(1,.box 0 0),(4,aO),(29,aO),(30,aI),(31,aI),(32,aB)]) r r<|aR<|bS hs12 r (fun hb13 h13=>?_) (fun hb13 h13=>?_)
   ·
    refine aW<|bZ<|aR<|bL<|aR<|aT ?_
    obtain ⟨x14,hx14,h15⟩:=aE h13
    refine aK r (iL (cs:=[PV.str _]) rV (kQ r) r hx14 r)<|aK r (fU (p:=PV.str _) iE r r)<|sS r<|aF (fr':=[(1,.box 0 0),(4,aO),(6,aS),(29,aO),(30,aI),(31,aI)]) r r<|aT<|mV (v:=aO) r<|mS r ?_
    obtain ⟨x16,hx16,h17⟩:=aE h15
    exact gW (aY (v:=aO) r (jZ hx16) ⟨lr,lr,trivial⟩ r r r)<|sV (v:=aO) r<|cD (fr':=[(1,.box 0 0),(4,aO),(6,aS),(29,aO),(30,aI),(31,aI)]) r<|bW<|bZ<|aT<|aK r (dZ r r)<|mI r<|cD (fr':=[(1,.box 0 0),(4,aO),(6,aS),(29,aO),(30,aI),(31,aI)]) r<|tU _ (sy h17) (aU [592,1] 1 r r r r ⟨lr,lr,lr,lr,lr,trivial⟩ (bJ r aC))
   ·
    refine eZ<|bY<|bY<|dX ?_
    have h18:=dB h13 ho12
    exact fS _ (sy h18) (aU [0] 1 r r r r ⟨lr,lr,trivial⟩ (bJ r aC))
  ·
   intro j11 hj19
   subst hj19
   refine bZ<|aR<|aH<|aK r (aZ vL r)<|aK r (aJ (v:=aI) eB r r r)<|aK r (aZ zM r)<|aK r (aJ (v:=aI) eB r r r)<|aK r (aZ xB r)<|aK r (aJ (v:=aI) eB r r r)<|aK r (aZ lL r)<|aK r (aJ (v:=aI) eB r r r)<|mT (row:=(aGq .i64)) (xs:=([p0q.Token,p0q.Event,p0q.Seq,p0q.N]:List Int)) (rows:=[[_],[_],[_],[_]]) (σ':=[aD]) [0] aGs r r r (cB r (cB r (cB r (cB r iC)))) r r ?_
   refine aK r (eC aNn (kQ r))<|mI r<|aF (fr':=[(1,.box 0 0),(4,aO),(47,aO),(48,aI),(49,aI)]) r r ?_
   obtain ⟨x20,hx20,h21⟩:=aE h10
   refine eR gX (fun j22=>x20=j22) (fun (j22:(List UInt8))=>([(1,.box 0 0),(4,AV.os 0 1 eL j22)]:Fr)) (fun (j22:(List UInt8))=>([[ci p0q.Kind,ci p0q.Time,.c (.str p0q.Workflow),.c (.str p0q.Run),.c (.str p0q.ID),.c (.str p0q.Name),ci p0q.Token,ci p0q.Event,ci p0q.Seq,ci p0q.N,ci p0q.Data.Kind,ci p0q.Data.Int,.c (.str p0q.Data.Text),.c (PV.ls 5 bB p0q.Data.Items),.c (PV.ls 1 dD p0q.Data.Keys),.c (.str p0q.Opts.Queue),ci p0q.Opts.ToStart,ci p0q.Opts.ToClose,ci p0q.Opts.Total,ci p0q.Opts.Beat,ci p0q.Opts.First,ci p0q.Opts.Coef,ci p0q.Opts.Most,ci p0q.Opts.Attempts,.c (PV.ls 1 dD p0q.Opts.Fatal),.c (PV.ls 20 bR p0q.Commands),.c (.str p0q.Parent)]]:St)) ?_ ?_
   ·
    refine bL<|eK _ (fun (s23:((List UInt8) × Int))=>([(1,.box 0 0),(4,AV.os 0 1 eL s23.1),(47,AV.os 1 1 (aGq .i64) ([p0q.Token,p0q.Event,p0q.Seq,p0q.N]:List Int)),(48,ci ((([p0q.Token,p0q.Event,p0q.Seq,p0q.N]:List Int)).length:Int)),(49,ci s23.2)]:Fr)) (fun (s23:((List UInt8) × Int))=>([[ci p0q.Kind,ci p0q.Time,.c (.str p0q.Workflow),.c (.str p0q.Run),.c (.str p0q.ID),.c (.str p0q.Name),ci p0q.Token,ci p0q.Event,ci p0q.Seq,ci p0q.N,ci p0q.Data.Kind,ci p0q.Data.Int,.c (.str p0q.Data.Text),.c (PV.ls 5 bB p0q.Data.Items),.c (PV.ls 1 dD p0q.Data.Keys),.c (.str p0q.Opts.Queue),ci p0q.Opts.ToStart,ci p0q.Opts.ToClose,ci p0q.Opts.Total,ci p0q.Opts.Beat,ci p0q.Opts.First,ci p0q.Opts.Coef,ci p0q.Opts.Most,ci p0q.Opts.Attempts,.c (PV.ls 1 dD p0q.Opts.Fatal),.c (PV.ls 20 bR p0q.Commands),.c (.str p0q.Parent)]]:St)) hx20 (aU [0,752] 1 r r r r ⟨lr,lr,lr,lr,lr,trivial⟩ (bJ r aC)) ?_
    intro s23 st23 hs23 ho23
    unfold oY at hs23
    refine aH<|aK r (eA r r)<|aF (fr':=[(1,.box 0 0),(4,aO),(47,aO),(48,aI),(49,aI),(50,aB)]) r r<|aR<|bS hs23 r (fun hb24 h24=>?_) (fun hb24 h24=>?_)
    ·
     refine aW<|bZ<|aR<|bL<|aR<|aT ?_
     obtain ⟨x25,hx25,h26⟩:=aE h24
     refine aK r (iL (cs:=[PV.int _ _]) aGs (kQ r) r hx25 r)<|aK r (fU (p:=PV.int _ _) eB r r)<|sI r<|aF (fr':=[(1,.box 0 0),(4,aO),(8,aI),(47,aO),(48,aI),(49,aI)]) r r<|aT<|mV (v:=aO) r<|mI r ?_
     obtain ⟨x27,hx27,h28⟩:=aE h26
     exact gW (aY (v:=aO) r (fE hx27) ⟨lr,lr,trivial⟩ r r r)<|sV (v:=aO) r<|cD (fr':=[(1,.box 0 0),(4,aO),(8,aI),(47,aO),(48,aI),(49,aI)]) r<|bW<|bZ<|aT<|aK r (dZ r r)<|mI r<|cD (fr':=[(1,.box 0 0),(4,aO),(8,aI),(47,aO),(48,aI),(49,aI)]) r<|tU _ (sy h28) (aU [880,1] 1 r r r r ⟨lr,lr,lr,lr,lr,trivial⟩ (bJ r aC))
    ·
     refine eZ<|bY<|bY<|dX ?_
     have h29:=dB h24 ho23
     exact fS _ (sy h29) (aU [0] 1 r r r r ⟨lr,lr,trivial⟩ (bJ r aC))
   ·
    intro j22 hj30
    subst hj30
    refine bZ<|aH<|mV (v:=aO) r<|aK r (aZ vZ r)<|aK r (cN (us:=bQ) fV r r r r) ?_
    obtain ⟨x31,hx31,h32⟩:=aE h21
    refine gW (aY (v:=aO) r (aA6 hx31) ⟨lr,(bP r ⟨r,r,r,r,r,trivial⟩),trivial⟩ r r r)<|sV (v:=aO) r<|aF (fr':=[(1,.box 0 0),(4,aO)]) r r<|aH<|mV (v:=aO) r<|aK r (aZ oB r)<|aK r (aJ (v:=aL) aCc r r r)<|aK r (eC aCb (cR r)) ?_
    obtain ⟨x33,hx33,h34⟩:=aE h32
    refine gW (aY (v:=aO) r (fE hx33) ⟨lr,lr,trivial⟩ r r r)<|sV (v:=aO) r<|aF (fr':=[(1,.box 0 0),(4,aO)]) r r<|aR<|aH<|aK r (aZ oB r)<|aK r (aJ (v:=aL) aCc r r r)<|aK r (eC aCb (cR r))<|mI r<|aF (fr':=[(1,.box 0 0),(4,aO),(67,aL),(68,aI),(69,aI)]) r r ?_
    obtain ⟨x35,hx35,h36⟩:=aE h34
    refine eR gX (fun j37=>x35=j37) (fun (j37:(List UInt8))=>([(1,.box 0 0),(4,AV.os 0 1 eL j37)]:Fr)) (fun (j37:(List UInt8))=>([[ci p0q.Kind,ci p0q.Time,.c (.str p0q.Workflow),.c (.str p0q.Run),.c (.str p0q.ID),.c (.str p0q.Name),ci p0q.Token,ci p0q.Event,ci p0q.Seq,ci p0q.N,ci p0q.Data.Kind,ci p0q.Data.Int,.c (.str p0q.Data.Text),.c (PV.ls 5 bB p0q.Data.Items),.c (PV.ls 1 dD p0q.Data.Keys),.c (.str p0q.Opts.Queue),ci p0q.Opts.ToStart,ci p0q.Opts.ToClose,ci p0q.Opts.Total,ci p0q.Opts.Beat,ci p0q.Opts.First,ci p0q.Opts.Coef,ci p0q.Opts.Most,ci p0q.Opts.Attempts,.c (PV.ls 1 dD p0q.Opts.Fatal),.c (PV.ls 20 bR p0q.Commands),.c (.str p0q.Parent)]]:St)) ?_ ?_
    ·
     refine bL<|eK _ (fun (s38:((List UInt8) × Int))=>([(1,.box 0 0),(4,AV.os 0 1 eL s38.1),(67,.c (PV.ls 20 bR p0q.Commands)),(68,ci ((p0q.Commands).length:Int)),(69,ci s38.2)]:Fr)) (fun (s38:((List UInt8) × Int))=>([[ci p0q.Kind,ci p0q.Time,.c (.str p0q.Workflow),.c (.str p0q.Run),.c (.str p0q.ID),.c (.str p0q.Name),ci p0q.Token,ci p0q.Event,ci p0q.Seq,ci p0q.N,ci p0q.Data.Kind,ci p0q.Data.Int,.c (.str p0q.Data.Text),.c (PV.ls 5 bB p0q.Data.Items),.c (PV.ls 1 dD p0q.Data.Keys),.c (.str p0q.Opts.Queue),ci p0q.Opts.ToStart,ci p0q.Opts.ToClose,ci p0q.Opts.Total,ci p0q.Opts.Beat,ci p0q.Opts.First,ci p0q.Opts.Coef,ci p0q.Opts.Most,ci p0q.Opts.Attempts,.c (PV.ls 1 dD p0q.Opts.Fatal),.c (PV.ls 20 bR p0q.Commands),.c (.str p0q.Parent)]]:St)) hx35 (aU [1040] 1 r r r r ⟨lr,lr,lr,lr,lr,trivial⟩ (bJ r aC)) ?_
     intro s38 st38 hs38 ho38
     unfold oZ at hs38
     refine aH<|aK r (eA r r)<|aF (fr':=[(1,.box 0 0),(4,aO),(67,aL),(68,aI),(69,aI),(70,aB)]) r r<|aR<|bS hs38 r (fun hb39 h39=>?_) (fun hb39 h39=>?_)
     ·
      refine aW<|bZ<|aR<|bL<|aR<|aT ?_
      obtain ⟨x40,hx40,h41⟩:=aE h39
      refine aK r (iL (cs:=[PV.int _ _,PV.int _ _,PV.str _,PV.str _,PV.int _ _,PV.int _ _,PV.int _ _,PV.str _,PV.ls _ _ _,PV.ls _ _ _,PV.str _,PV.int _ _,PV.int _ _,PV.int _ _,PV.int _ _,PV.int _ _,PV.int _ _,PV.int _ _,PV.int _ _,PV.ls _ _ _]) aJi (cR r) r hx40 r)<|aK r (hG (us:=[PV.int _ _,PV.int _ _,PV.str _,PV.str _,PV.int _ _,PV.int _ _,PV.int _ _,PV.str _,PV.ls _ _ _,PV.ls _ _ _,PV.str _,PV.int _ _,PV.int _ _,PV.int _ _,PV.int _ _,PV.int _ _,PV.int _ _,PV.int _ _,PV.int _ _,PV.ls _ _ _]) nR r r r)<|hS (n:=1) (cs:=aV) (σ':=[aD,aV]) aJk r r r<|bV (v:=.agg aP) (us:=aP) (cs:=aV) (σ':=[aD,aP]) r nR r r r r r r r r<|aF (fr':=[(1,.box 0 0),(4,aO),(10,.box 1 0),(67,aL),(68,aI),(69,aI)]) r r<|aT<|mV (v:=aO) r<|aK r (cN (us:=aP) nR r r r r) ?_
      obtain ⟨x42,hx42,h43⟩:=aE h41
      exact gW (aY (v:=aO) r (aDF hx42) ⟨lr,(bP r ⟨r,r,r,r,r,r,r,r,r,r,r,r,r,r,r,r,r,r,r,r,trivial⟩),trivial⟩ r r r)<|sV (v:=aO) r<|cD (fr':=[(1,.box 0 0),(4,aO),(10,.box 1 0),(67,aL),(68,aI),(69,aI)]) r<|bW<|bZ<|aT<|aK r (dZ r r)<|mI r<|cD (fr':=[(1,.box 0 0),(4,aO),(10,.box 1 0),(67,aL),(68,aI),(69,aI)]) r<|tU _ (sy h43) (aU [1200] 1 r r r r ⟨lr,lr,lr,lr,lr,trivial⟩ (bJ r aC))
     ·
      refine eZ<|bY<|bY<|dX ?_
      have h44:=dB h39 ho38
      exact fS _ (sy h44) (aU [0] 1 r r r r ⟨lr,lr,trivial⟩ (bJ r aC))
    ·
     intro j37 hj45
     subst hj45
     refine bZ<|aH<|mV (v:=aO) r<|aK r (aZ tH r)<|aK r (aJ (v:=aS) iE r r r) ?_
     obtain ⟨x46,hx46,h47⟩:=aE h36
     refine gW (aY (v:=aO) r (jZ hx46) ⟨lr,lr,trivial⟩ r r r)<|sV (v:=aO) r<|aF (fr':=[(4,aO)]) r r<|aR<|aH<|mV (v:=aO) r<|aK r (eC aAR (kQ r))<|aK r (mG r r)<|aF (fr':=[(4,aO),(83,aB)]) r r<|bS h47 r (fun hb48 h48=>?_) (fun hb48 h48=>?_)
     ·
      refine aH<|sV (v:=AV.nil) r<|sI r<|aF (fr':=[(2,AV.nil),(3,aI)]) r r<|bF<|aM ?_
      obtain rfl:=sy h48
      exact bE (rs':=[.tmp 2,.tmp 3]) r<|bG (v:=AV.nil) r<|bG (v:=aI) r<|bD<|aN [1000000] r r r (kW r ⟨(yY r),lr,trivial⟩) aC
     ·
      refine aW<|bZ<|aH<|mV (v:=aO) r<|sV (v:=aO) r<|sI r<|aF (fr':=[(2,aO),(3,aI)]) r r<|bF ?_
      obtain rfl:=sy h48
      exact bE (rs':=[.tmp 2,.tmp 3]) r<|bG (v:=aO) r<|bG (v:=aI) r<|bD<|aN [1280] r r r (kW r ⟨lr,lr,trivial⟩) aC
noncomputable def gF (cQ:aQ):Option (Int × aQ) :=
 (eP (-9223372036854775808:Int) (9223372036854775807:Int) cQ).bind fun x1=>some (x1.1,x1.2)
theorem jG {cQ:aQ}{res:(Int × aQ)} (h:gF cQ=some res):bT Tryz.prog 92 [.box 0 0] [AV.cs (cW cQ)] (ci res.1) [AV.cs (cW res.2)]:=by
 unfold gF at h
 refine cJ (fn:=Tryz.f92) [0,2] (by kernel_rfl) Tryz.func92 r (by kernel_rfl) (by kernel_rfl)<|aH<|sI r<|aF (fr':=[(0,.box 0 0)]) r r<|aH<|mV (v:=.box 0 0) r ?_
 obtain ⟨x1,hx1,h2⟩:=aE h
 refine dK (v:=aI) (σ':=[cH]) [0] r (iU hx1) r r ⟨lr,lr,lr,trivial⟩ (fJ ⟨r,r,r,r,trivial⟩ aC) r r r<|sI r<|aF (fr':=[(2,aI)]) r r<|bF ?_
 obtain rfl:=sy h2
 exact bE (rs':=[.tmp 2]) r<|bG (v:=aI) r<|bD<|aN [] r r r lr (fJ ⟨r,r,r,r,trivial⟩ aC)
noncomputable def lA (cQ:aQ):Option ((List UInt8) × aQ) :=
 (fZ (4096:Int) cQ).bind fun x1=>some (x1.1,x1.2)
theorem pX {cQ:aQ}{res:((List UInt8) × aQ)} (h:lA cQ=some res):bT Tryz.prog 93 [.box 0 0] [AV.cs (cW cQ)] (.c (.str res.1)) [AV.cs (cW res.2)]:=by
 unfold lA at h
 refine cJ (fn:=Tryz.f93) [0,2] (by kernel_rfl) Tryz.func93 r (by kernel_rfl) (by kernel_rfl)<|aH<|sS r<|aF (fr':=[(0,.box 0 0)]) r r<|aH<|mV (v:=.box 0 0) r ?_
 obtain ⟨x1,hx1,h2⟩:=aE h
 refine dK (v:=aS) (σ':=[cH]) [0] r (iI hx1) r r ⟨lr,lr,trivial⟩ (fJ ⟨r,r,r,r,trivial⟩ aC) r r r<|sS r<|aF (fr':=[(2,aS)]) r r<|bF ?_
 obtain rfl:=sy h2
 exact bE (rs':=[.tmp 2]) r<|bG (v:=aS) r<|bD<|aN [] r r r lr (fJ ⟨r,r,r,r,trivial⟩ aC)
noncomputable def pF (cQ:aQ):Option (bI × aQ) :=
 (eY cQ).bind fun x1=>(eY x1.2).bind fun x3=>(fZ (4096:Int) x3.2).bind fun x5=>(fZ (4096:Int) x5.2).bind fun x7=>(eY x7.2).bind fun x9=>(qO x9.2).bind fun x11=>(jR x11.2).bind fun x13=>(((eO x13.2).bind fun x18=>(gd ((decide (x18=(0:Int)))==true) (mQ (bI.mk x1.1 x3.1 x5.1 x7.1 x9.1 x11.1 x13.1))).bind fun x20=>cond (cond (decide (x18=(0:Int))) (!x20) false) ((iJ (3:Int) x13.2).bind fun x23=>some x23) (some x13.2)):Option aQ).bind fun x15=>((eO x15).bind fun x26=>cond (!decide (x26=(0:Int))) (some ((bI.mk (0:Int) (0:Int) ([]:List UInt8) ([]:List UInt8) (0:Int) (aG.mk (0:Int) (0:Int) ([]:List UInt8) ([]:(List aG)) ([]:(List (List UInt8)))) (cE.mk ([]:List UInt8) (0:Int) (0:Int) (0:Int) (0:Int) (0:Int) (0:Int) (0:Int) (0:Int) ([]:(List (List UInt8))))),x15)) (some ((bI.mk x1.1 x3.1 x5.1 x7.1 x9.1 x11.1 x13.1),x15)))
theorem aDE {cQ:aQ}{res:(bI × aQ)} (h:pF cQ=some res):bT Tryz.prog 95 [.box 0 0] [AV.cs (cW cQ)] (.agg (AV.cs (bR res.1))) [AV.cs (cW res.2)]:=by
 unfold pF at h
 refine cJ (fn:=Tryz.f95) [0,2,3,32,37] (by kernel_rfl) Tryz.func95 r (by kernel_rfl) (by kernel_rfl)<|aH<|hS (n:=1) (cs:=aV) (σ':=[cH,aV]) aJk r r r<|aF (fr':=[(0,.box 0 0),(2,.box 1 0)]) r r<|aH<|hS (n:=2) (cs:=aV) (σ':=[cH,aV,aV]) aJk r r r<|aF (fr':=[(0,.box 0 0),(2,.box 1 0),(3,.box 2 0)]) r r<|aH<|mV (v:=.box 0 0) r ?_
 obtain ⟨x1,hx1,h2⟩:=aE h
 refine dK (v:=aI) (σ':=[cH,aV,aV]) [0] r (fO hx1) r r ⟨lr,trivial⟩ (fJ ⟨r,r,r,r,trivial⟩ aC) r r r<|mV (v:=.box 0 0) r ?_
 obtain ⟨x3,hx3,h4⟩:=aE h2
 refine dK (v:=aI) (σ':=[cH,aV,aV]) [0] r (fO hx3) r r ⟨lr,trivial⟩ (fJ ⟨r,r,r,r,trivial⟩ aC) r r r<|aK r (aZ lB r)<|bV (v:=aI) (us:=[aI]) (cs:=aV) (σ':=[cH,aV,aV]) r eB r r r r r r r r<|aK r (aZ vX r)<|bV (v:=aI) (us:=[aI]) (cs:=aV) (σ':=[cH,aV,aV]) r eB r r r r r r r r<|aF (fr':=[(0,.box 0 0),(2,.box 1 0),(3,.box 2 0)]) r r<|aH<|mV (v:=.box 0 0) r ?_
 obtain ⟨x5,hx5,h6⟩:=aE h4
 refine dK (v:=aS) (σ':=[cH,aV,aV]) [0] r (iI hx5) r r ⟨lr,lr,trivial⟩ (fJ ⟨r,r,r,r,trivial⟩ aC) r r r<|mV (v:=.box 0 0) r ?_
 obtain ⟨x7,hx7,h8⟩:=aE h6
 refine dK (v:=aS) (σ':=[cH,aV,aV]) [0] r (iI hx7) r r ⟨lr,lr,trivial⟩ (fJ ⟨r,r,r,r,trivial⟩ aC) r r r<|aK r (aZ tG r)<|bV (v:=aS) (us:=[aS]) (cs:=aV) (σ':=[cH,aV,aV]) r iE r r r r r r r r<|aK r (aZ vY r)<|bV (v:=aS) (us:=[aS]) (cs:=aV) (σ':=[cH,aV,aV]) r iE r r r r r r r r<|aF (fr':=[(0,.box 0 0),(2,.box 1 0),(3,.box 2 0)]) r r<|aH<|mV (v:=.box 0 0) r ?_
 obtain ⟨x9,hx9,h10⟩:=aE h8
 refine dK (v:=aI) (σ':=[cH,aV,aV]) [0] r (fO hx9) r r ⟨lr,trivial⟩ (fJ ⟨r,r,r,r,trivial⟩ aC) r r r<|aK r (aZ mO r)<|bV (v:=aI) (us:=[aI]) (cs:=aV) (σ':=[cH,aV,aV]) r eB r r r r r r r r<|aF (fr':=[(0,.box 0 0),(2,.box 1 0),(3,.box 2 0)]) r r<|aH<|mV (v:=.box 0 0) r ?_
 obtain ⟨x11,hx11,h12⟩:=aE h10
 refine dK (v:=.agg bQ) (σ':=[cH,aV,aV]) [0] r (aA5 hx11) r r ⟨lr,trivial⟩ (fJ ⟨r,r,r,r,trivial⟩ aC) r r r<|aK r (aZ nZ r)<|bV (v:=.agg bQ) (us:=bQ) (cs:=aV) (σ':=[cH,aV,fG]) r fV r r r r r r r r<|aF (fr':=[(0,.box 0 0),(2,.box 1 0),(3,.box 2 0)]) r r<|aH<|mV (v:=.box 0 0) r ?_
 obtain ⟨x13,hx13,h14⟩:=aE h12
 refine dK (v:=.agg cI) (σ':=[cH,aV,fG]) [0] r (zX hx13) r r ⟨lr,trivial⟩ (fJ ⟨r,r,r,r,trivial⟩ aC) r r r<|aK r (aZ uL r)<|bV (v:=.agg cI) (us:=cI) (cs:=fG) (σ':=[cH,aV,aP]) r yM r r r r r r r r<|aF (fr':=[(0,.box 0 0),(2,.box 1 0),(3,.box 2 0)]) r r ?_
 obtain ⟨x15,hx15,h16⟩:=aE h14
 refine fP (fun j17=>x15=j17) (fun (j17:aQ)=>([(0,.box 0 0),(2,.box 1 0),(3,.box 2 0)]:Fr)) (fun (j17:aQ)=>([[.c (PV.ls 1 eL j17.b_),ci j17.at_,ci j17.err_,.c (.bool j17.made_)],[ci 0,ci 0,.c (.str ([]:List UInt8)),.c (.str ([]:List UInt8)),ci 0,ci 0,ci 0,.c (.str ([]:List UInt8)),AV.nil,AV.nil,.c (.str ([]:List UInt8)),ci 0,ci 0,ci 0,ci 0,ci 0,ci 0,ci 0,ci 0,AV.nil],[ci x1.1,ci x3.1,.c (.str x5.1),.c (.str x7.1),ci x9.1,ci x11.1.Kind,ci x11.1.Int,.c (.str x11.1.Text),.c (PV.ls 5 bB x11.1.Items),.c (PV.ls 1 dD x11.1.Keys),.c (.str x13.1.Queue),ci x13.1.ToStart,ci x13.1.ToClose,ci x13.1.Total,ci x13.1.Beat,ci x13.1.First,ci x13.1.Coef,ci x13.1.Most,ci x13.1.Attempts,.c (PV.ls 1 dD x13.1.Fatal)]]:St)) ?_ ?_
 ·
  refine aH<|mV (v:=.box 0 0) r ?_
  obtain ⟨x18,hx18,h19⟩:=aE hx15
  refine dK (v:=aI) (σ':=[cH,aV,aP]) [0] r (fI hx18) r r ⟨lr,trivial⟩ (fJ ⟨r,r,r,r,trivial⟩ aC) r r r<|aK r (bO r r)<|mB r<|og r r r (fun hc=>(cN (us:=aP) nR r r r r)) ?_
  obtain ⟨x20,hx20,h21⟩:=aE h19
  refine rZ r r (fun hc=>aY (v:=aB) r (vM (cG hx20 hc)) ⟨(dW (gx r hc) (bP r ⟨r,r,r,r,r,r,r,r,r,r,r,r,r,r,r,r,r,r,r,r,trivial⟩)),trivial⟩ (fC (by repeat (first | exact dT | refine aX r ?_ | refine aX (oQ r) ?_ | refine aX oP ?_))) r r) ?_
  refine og r r r (fun hc=>(eD (gx r hc)))<|aK r (bM r r r (fun e=>eI e))<|aF (fr':=[(0,.box 0 0),(2,.box 1 0),(3,.box 2 0),(32,aB)]) r r<|bS h21 r (fun hb22 h22=>?_) (fun hb22 h22=>?_)
  ·
   refine aT<|mV (v:=.box 0 0) r ?_
   obtain ⟨x23,hx23,h24⟩:=aE h22
   exact dK (v:=_) (σ':=[cH,aV,aP]) [0] r (lP hx23) r r ⟨lr,lr,trivial⟩ (fJ ⟨r,r,r,r,trivial⟩ aC) r r r<|cD (fr':=[(0,.box 0 0),(2,.box 1 0),(3,.box 2 0),(32,aB)]) r<|fS _ (sy h24) (aU [] 3 r r r r ⟨lr,lr,lr,trivial⟩ (bJ r (bJ r (bJ r aC))))
  ·
   exact aW<|fS _ (sy h22) (aU [] 3 r r r r ⟨lr,lr,lr,trivial⟩ (bJ r (bJ r (bJ r aC))))
 ·
  intro j17 hj25
  subst hj25
  refine aR<|aH<|mV (v:=.box 0 0) r ?_
  obtain ⟨x26,hx26,h27⟩:=aE h16
  refine dK (v:=aI) (σ':=[cH,aV,aP]) [0] r (fI hx26) r r ⟨lr,trivial⟩ (fJ ⟨r,r,r,r,trivial⟩ aC) r r r<|aK r (gM r r)<|aF (fr':=[(2,.box 1 0),(3,.box 2 0),(37,aB)]) r r<|bS h27 r (fun hb28 h28=>?_) (fun hb28 h28=>?_)
  ·
   refine aH<|aK r (gR (c0:=aV) (cs:=aV) aOJ r gQ)<|bV (v:=.agg aV) (us:=aV) (cs:=aV) (σ':=[cH,aV,aP]) r nR r r r r r r r r<|aF (fr':=[(2,.box 1 0)]) r r<|bF<|aM ?_
   obtain rfl:=sy h28
   exact bE (rs':=[.cell 2 103]) r<|eV (us:=aV) (cs:=aV) nR r r r r<|bD<|aN [] r r r (bP r ⟨r,r,r,r,r,r,r,r,⟨_,r⟩,⟨_,r⟩,r,r,r,r,r,r,r,r,r,⟨_,r⟩,trivial⟩) (fJ ⟨r,r,r,r,trivial⟩ aC)
  ·
   refine aW<|bZ<|aH<|aK r (cN (us:=aP) nR r r r r)<|bV (v:=.agg aP) (us:=aP) (cs:=aV) (σ':=[cH,aP,aP]) r nR r r r r r r r r<|aF (fr':=[(2,.box 1 0)]) r r<|bF ?_
   obtain rfl:=sy h28
   exact bE (rs':=[.cell 2 103]) r<|eV (us:=aP) (cs:=aP) nR r r r r<|bD<|aN [] r r r (bP r ⟨r,r,r,r,r,r,r,r,r,r,r,r,r,r,r,r,r,r,r,r,trivial⟩) (fJ ⟨r,r,r,r,trivial⟩ aC)
noncomputable def fK (x1:(Int × aQ)) (s17:((List bI) × Int × aQ)):Option (cM ((List bI) × Int × aQ) ((List bI) × aQ)) :=
 ((cond (decide (s17.2.1<x1.1)) ((eO s17.2.2).bind fun x22=>cond (decide (x22=(0:Int))) (some (Fl.go ())) (some (Fl.done (cM.out (s17.1,s17.2.2))))) (some (Fl.done (cM.out (s17.1,s17.2.2))))):Option (Fl (cM ((List bI) × Int × aQ) ((List bI) × aQ)) Unit)).bind fun x18=>Fl.next x18 (fun j20=>((pF s17.2.2).bind fun x30=>(app 240 s17.1 ([x30.1]:List bI)).bind fun x32=>some (cM.next (x32,(IntKind.wrap .i64 (s17.2.1+(1:Int))),x30.2))))
noncomputable def eW (zD:Int) (cQ:aQ):Option ((List bI) × aQ) :=
 (gF cQ).bind fun x1=>(((eO x1.2).bind fun x6=>(gd ((decide (x6=(0:Int)))==true) (iQ x1.1 (0:Int) zD)).bind fun x8=>cond (cond (decide (x6=(0:Int))) (!x8) false) ((iJ (3:Int) x1.2).bind fun x11=>some x11) (some x1.2)):Option aQ).bind fun x3=>(((eQ (fK x1) ((([]:(List bI)),(0:Int),x3))):Option ((List bI) × aQ)).bind fun x14=>(some (x14.1,x14.2)))
theorem nM {zD:Int}{cQ:aQ}{res:((List bI) × aQ)} (h:eW zD cQ=some res):bT Tryz.prog 94 [.box 0 0,ci zD,.fn 95 []] [AV.cs (cW cQ)] (AV.os 0 20 bR res.1) [AV.cs (cW res.2)]:=by
 unfold eW at h
 refine cJ (fn:=Tryz.f94) [0,1,2,6,7,8,9,20,30] (by kernel_rfl) Tryz.func94 r (by kernel_rfl) (by kernel_rfl)<|aH<|sV (v:=AV.nil) r<|aF (fr':=[(0,.box 0 0),(1,aI),(2,.fn _ [])]) r r<|aH<|mV (v:=.box 0 0) r ?_
 obtain ⟨x1,hx1,h2⟩:=aE h
 refine dK (v:=aI) (σ':=[cH]) [0] r (jG hx1) r r ⟨lr,trivial⟩ (fJ ⟨r,r,r,r,trivial⟩ aC) r r r<|sI r<|aF (fr':=[(0,.box 0 0),(1,aI),(2,.fn _ []),(7,aI)]) r r ?_
 obtain ⟨x3,hx3,h4⟩:=aE h2
 refine fP (fun j5=>x3=j5) (fun (j5:aQ)=>([(0,.box 0 0),(2,.fn 95 []),(7,ci x1.1)]:Fr)) (fun (j5:aQ)=>([[.c (PV.ls 1 eL j5.b_),ci j5.at_,ci j5.err_,.c (.bool j5.made_)]]:St)) ?_ ?_
 ·
  refine aH<|mV (v:=.box 0 0) r ?_
  obtain ⟨x6,hx6,h7⟩:=aE hx3
  refine dK (v:=aI) (σ':=[cH]) [0] r (fI hx6) r r ⟨lr,trivial⟩ (fJ ⟨r,r,r,r,trivial⟩ aC) r r r<|aK r (bO r r)<|mB r<|og r r r (fun hc=>(bC (v:=aI) r))<|og r r r (fun hc=>(bC (v:=aI) r)) ?_
  obtain ⟨x8,hx8,h9⟩:=aE h7
  refine rZ r r (fun hc=>aY (v:=aB) r (jM (cG hx8 hc)) ⟨(dW (gx r hc) lr),lr,(dW (gx r hc) lr),trivial⟩ (fC (by repeat (first | exact dT | refine aX r ?_ | refine aX (oQ r) ?_ | refine aX oP ?_))) r r) ?_
  refine og r r r (fun hc=>(eD (gx r hc)))<|aK r (bM r r r (fun e=>eI e))<|aF (fr':=[(0,.box 0 0),(2,.fn _ []),(7,aI),(20,aB)]) r r<|bS h9 r (fun hb10 h10=>?_) (fun hb10 h10=>?_)
  ·
   refine aT<|mV (v:=.box 0 0) r ?_
   obtain ⟨x11,hx11,h12⟩:=aE h10
   exact dK (v:=_) (σ':=[cH]) [0] r (lP hx11) r r ⟨lr,lr,trivial⟩ (fJ ⟨r,r,r,r,trivial⟩ aC) r r r<|cD (fr':=[(0,.box 0 0),(2,.fn _ []),(7,aI),(20,aB)]) r<|fS _ (sy h12) (aU [] 1 r r r r ⟨lr,lr,lr,trivial⟩ (bJ r aC))
  ·
   exact aW<|fS _ (sy h10) (aU [] 1 r r r r ⟨lr,lr,lr,trivial⟩ (bJ r aC))
 ·
  intro j5 hj13
  subst hj13
  refine aH<|sV (v:=AV.nil) r<|aF (fr':=[(0,.box 0 0),(2,.fn _ []),(7,aI),(8,AV.nil)]) r r<|aR<|aH<|sI r<|aF (fr':=[(0,.box 0 0),(2,.fn _ []),(7,aI),(8,AV.nil),(9,aI)]) r r ?_
  obtain ⟨x14,hx14,h15⟩:=aE h4
  refine eR gX (fun j16=>x14=j16) (fun (j16:((List bI) × aQ))=>([(8,AV.os 0 20 bR j16.1)]:Fr)) (fun (j16:((List bI) × aQ))=>([[.c (PV.ls 1 eL j16.2.b_),ci j16.2.at_,ci j16.2.err_,.c (.bool j16.2.made_)]]:St)) ?_ ?_
  ·
   refine bL<|eK _ (fun (s17:((List bI) × Int × aQ))=>([(0,.box 0 0),(2,.fn 95 []),(7,ci x1.1),(8,AV.os 0 20 bR s17.1),(9,ci s17.2.1)]:Fr)) (fun (s17:((List bI) × Int × aQ))=>([[.c (PV.ls 1 eL s17.2.2.b_),ci s17.2.2.at_,ci s17.2.2.err_,.c (.bool s17.2.2.made_)]]:St)) hx14 (aU [1000000] 1 r r r r ⟨lr,lr,lr,(yY r),lr,trivial⟩ (bJ r aC)) ?_
   intro s17 st17 hs17 ho17
   unfold fK at hs17
   obtain ⟨x18,hx18,h19⟩:=aE hs17
   refine fP (fun j20=>x18=Fl.go j20) (fun (j20:Unit)=>([(0,.box 0 0),(2,.fn 95 []),(7,ci x1.1),(8,AV.os 0 20 bR s17.1),(9,ci s17.2.1)]:Fr)) (fun (j20:Unit)=>([[.c (PV.ls 1 eL s17.2.2.b_),ci s17.2.2.at_,ci s17.2.2.err_,.c (.bool s17.2.2.made_)]]:St)) ?_ ?_
   ·
    refine aH<|mI r<|mI r<|aK r (eA r r)<|mB r<|aPT hx18 (fun hb21 h21=>?_) (fun hb21 h21=>?_)
    ·
     refine sM r r hb21<|mV (v:=.box 0 0) r<|sM r r hb21 ?_
     obtain ⟨x22,hx22,h23⟩:=aE h21
     refine dK (v:=aI) (σ':=[cH]) [0] r (fI hx22) r r ⟨lr,trivial⟩ (fJ ⟨r,r,r,r,trivial⟩ aC) r r r<|sM r r hb21<|aK r (bO r r)<|aK r (aIQ r hb21 r)<|aF (fr':=[(0,.box 0 0),(2,.fn _ []),(7,aI),(8,aO),(9,aI),(30,aB)]) r r<|bS h23 r (fun hb24 h24=>?_) (fun hb24 h24=>?_)
     ·
      exact aW<|fS _ (sy h24) (aU [0] 1 r r r r ⟨lr,lr,lr,lr,lr,trivial⟩ (bJ r aC))
     ·
      refine eZ<|bY<|bY<|dX ?_
      have h25:=eH h24 h19
      have h26:=dB h25 ho17
      exact fS _ (sy h26) (aU [0] 1 r r r r ⟨lr,trivial⟩ (bJ r aC))
    ·
     refine aLJ r r hb21<|aLJ r r hb21<|aLJ r r hb21<|aK r (aAE r hb21 r)<|aF (fr':=[(0,.box 0 0),(2,.fn _ []),(7,aI),(8,aO),(9,aI),(30,aB)]) r r<|aAZ r<|eZ<|bY<|bY<|dX ?_
     have h27:=eH h21 h19
     have h28:=dB h27 ho17
     exact fS _ (sy h28) (aU [0] 1 r r r r ⟨lr,trivial⟩ (bJ r aC))
   ·
    intro j20 hj29
    have h29:=iS hj29 h19
    refine aR<|bL<|aT<|mV (v:=aO) r<|mV (v:=.fn _ []) r<|mV (v:=.box 0 0) r ?_
    obtain ⟨x30,hx30,h31⟩:=aE h29
    refine dK (v:=.agg aP) (σ':=[cH]) [0] r (aDE hx30) r r ⟨lr,trivial⟩ (fJ ⟨r,r,r,r,trivial⟩ aC) r r r<|mT (row:=bR) (xs:=([x30.1]:List bI)) (rows:=[[_,_,_,_,_,_,_,_,_,_,_,_,_,_,_,_,_,_,_,_]]) (σ':=[cH]) [0,0,0,0,0,0,0,0,5,1,0,0,0,0,0,0,0,0,0,1] aJi r r r (cB r iC) r r ?_
    obtain ⟨x32,hx32,h33⟩:=aE h31
    exact aAB (row:=bR) aJi r aCb r (kQ r) (fun _=>r) hx32<|sV (v:=aO) r<|cD (fr':=[(0,.box 0 0),(2,.fn _ []),(7,aI),(8,aO),(9,aI)]) r<|bW<|bZ<|aT<|mI r<|aK r (dZ r r)<|sI r<|cD (fr':=[(0,.box 0 0),(2,.fn _ []),(7,aI),(8,aO),(9,aI)]) r<|tU _ (sy h33) (aU [608] 1 r r r r ⟨lr,lr,lr,lr,lr,trivial⟩ (bJ r aC))
  ·
   intro j16 hj34
   subst hj34
   refine bZ<|aH<|mV (v:=aO) r<|sV (v:=aO) r<|aF (fr':=[(6,aO)]) r r<|bF ?_
   obtain rfl:=sy h15
   exact bE (rs':=[.tmp 6]) r<|bG (v:=aO) r<|bD<|aN [0] r r r lr (fJ ⟨r,r,r,r,trivial⟩ aC)
noncomputable def pO (p0b:(List UInt8)):Option (bK × Int) :=
 (wH p0b).bind fun x1=>(gF x1).bind fun x3=>(gF x3.2).bind fun x5=>(lA x5.2).bind fun x7=>(lA x7.2).bind fun x9=>(lA x9.2).bind fun x11=>(lA x11.2).bind fun x13=>(gF x13.2).bind fun x15=>(gF x15.2).bind fun x17=>(gF x17.2).bind fun x19=>(gF x19.2).bind fun x21=>(qO x21.2).bind fun x23=>(eW (200:Int) x23.2).bind fun x25=>(lA x25.2).bind fun x27=>(kP x27.2).bind fun x29=>cond (!decide (x29=(0:Int))) (some ((bK.mk (0:Int) (0:Int) ([]:List UInt8) ([]:List UInt8) ([]:List UInt8) ([]:List UInt8) (0:Int) (0:Int) (0:Int) (0:Int) (aG.mk (0:Int) (0:Int) ([]:List UInt8) ([]:(List aG)) ([]:(List (List UInt8)))) (cE.mk ([]:List UInt8) (0:Int) (0:Int) (0:Int) (0:Int) (0:Int) (0:Int) (0:Int) (0:Int) ([]:(List (List UInt8)))) ([]:(List bI)) ([]:List UInt8)),x29)) ((mW (bK.mk x3.1 x5.1 x7.1 x9.1 x11.1 x13.1 x15.1 x17.1 x19.1 x21.1 x23.1 (cE.mk ([]:List UInt8) (0:Int) (0:Int) (0:Int) (0:Int) (0:Int) (0:Int) (0:Int) (0:Int) ([]:(List (List UInt8)))) x25.1 x27.1)).bind fun x33=>cond (!x33) (some ((bK.mk (0:Int) (0:Int) ([]:List UInt8) ([]:List UInt8) ([]:List UInt8) ([]:List UInt8) (0:Int) (0:Int) (0:Int) (0:Int) (aG.mk (0:Int) (0:Int) ([]:List UInt8) ([]:(List aG)) ([]:(List (List UInt8)))) (cE.mk ([]:List UInt8) (0:Int) (0:Int) (0:Int) (0:Int) (0:Int) (0:Int) (0:Int) (0:Int) ([]:(List (List UInt8)))) ([]:(List bI)) ([]:List UInt8)),(3:Int))) (some ((bK.mk x3.1 x5.1 x7.1 x9.1 x11.1 x13.1 x15.1 x17.1 x19.1 x21.1 x23.1 (cE.mk ([]:List UInt8) (0:Int) (0:Int) (0:Int) (0:Int) (0:Int) (0:Int) (0:Int) (0:Int) ([]:(List (List UInt8)))) x25.1 x27.1),(0:Int))))
theorem aDJ {p0b:(List UInt8)}{res:(bK × Int)} (h:pO p0b=some res):bT Tryz.prog 37 [.c (PV.ls 1 eL p0b)] [] (.tup [.agg (AV.cs (fD res.1)),ci res.2]) []:=by
 unfold pO at h
 refine cJ (fn:=Tryz.f37) [0,2,3,4,5,6,51,56] (by kernel_rfl) Tryz.func37 r (by kernel_rfl) (by kernel_rfl)<|aH<|hS (n:=0) (cs:=aA) (σ':=[aA]) aL2 r r r<|sI r<|aF (fr':=[(0,aL),(2,.box 0 0)]) r r<|aH<|mL r ?_
 obtain ⟨x1,hx1,h2⟩:=aE h
 refine dK (v:=.box 1 0) (σ':=[aA,cH]) [] r (aJu hx1) r r ⟨lr,trivial⟩ aC r r r<|sV (v:=.box 1 0) r<|aF (fr':=[(2,.box 0 0),(4,.box 1 0)]) r r<|aH<|hS (n:=2) (cs:=aA) (σ':=[aA,cH,aA]) aL2 r r r<|aF (fr':=[(2,.box 0 0),(4,.box 1 0),(5,.box 2 0)]) r r<|aH<|mV (v:=.box 1 0) r ?_
 obtain ⟨x3,hx3,h4⟩:=aE h2
 refine dK (v:=aI) (σ':=[aA,cH,aA]) [1] r (jG hx3) r r ⟨lr,trivial⟩ (fJ ⟨r,r,r,r,trivial⟩ aC) r r r<|mV (v:=.box 1 0) r ?_
 obtain ⟨x5,hx5,h6⟩:=aE h4
 refine dK (v:=aI) (σ':=[aA,cH,aA]) [1] r (jG hx5) r r ⟨lr,trivial⟩ (fJ ⟨r,r,r,r,trivial⟩ aC) r r r<|aK r (aZ jX r)<|bV (v:=aI) (us:=[aI]) (cs:=aA) (σ':=[aA,cH,aA]) r eB r r r r r r r r<|aK r (aZ aAP r)<|bV (v:=aI) (us:=[aI]) (cs:=aA) (σ':=[aA,cH,aA]) r eB r r r r r r r r<|aF (fr':=[(2,.box 0 0),(4,.box 1 0),(5,.box 2 0)]) r r<|aH<|mV (v:=.box 1 0) r ?_
 obtain ⟨x7,hx7,h8⟩:=aE h6
 refine dK (v:=aS) (σ':=[aA,cH,aA]) [1] r (pX hx7) r r ⟨lr,trivial⟩ (fJ ⟨r,r,r,r,trivial⟩ aC) r r r<|mV (v:=.box 1 0) r ?_
 obtain ⟨x9,hx9,h10⟩:=aE h8
 refine dK (v:=aS) (σ':=[aA,cH,aA]) [1] r (pX hx9) r r ⟨lr,trivial⟩ (fJ ⟨r,r,r,r,trivial⟩ aC) r r r<|mV (v:=.box 1 0) r ?_
 obtain ⟨x11,hx11,h12⟩:=aE h10
 refine dK (v:=aS) (σ':=[aA,cH,aA]) [1] r (pX hx11) r r ⟨lr,trivial⟩ (fJ ⟨r,r,r,r,trivial⟩ aC) r r r<|mV (v:=.box 1 0) r ?_
 obtain ⟨x13,hx13,h14⟩:=aE h12
 refine dK (v:=aS) (σ':=[aA,cH,aA]) [1] r (pX hx13) r r ⟨lr,trivial⟩ (fJ ⟨r,r,r,r,trivial⟩ aC) r r r<|aK r (aZ zK r)<|bV (v:=aS) (us:=[aS]) (cs:=aA) (σ':=[aA,cH,aA]) r iE r r r r r r r r<|aK r (aZ zL r)<|bV (v:=aS) (us:=[aS]) (cs:=aA) (σ':=[aA,cH,aA]) r iE r r r r r r r r<|aK r (aZ xA r)<|bV (v:=aS) (us:=[aS]) (cs:=aA) (σ':=[aA,cH,aA]) r iE r r r r r r r r<|aK r (aZ pT r)<|bV (v:=aS) (us:=[aS]) (cs:=aA) (σ':=[aA,cH,aA]) r iE r r r r r r r r<|aF (fr':=[(2,.box 0 0),(4,.box 1 0),(5,.box 2 0)]) r r<|aH<|mV (v:=.box 1 0) r ?_
 obtain ⟨x15,hx15,h16⟩:=aE h14
 refine dK (v:=aI) (σ':=[aA,cH,aA]) [1] r (jG hx15) r r ⟨lr,trivial⟩ (fJ ⟨r,r,r,r,trivial⟩ aC) r r r<|mV (v:=.box 1 0) r ?_
 obtain ⟨x17,hx17,h18⟩:=aE h16
 refine dK (v:=aI) (σ':=[aA,cH,aA]) [1] r (jG hx17) r r ⟨lr,trivial⟩ (fJ ⟨r,r,r,r,trivial⟩ aC) r r r<|mV (v:=.box 1 0) r ?_
 obtain ⟨x19,hx19,h20⟩:=aE h18
 refine dK (v:=aI) (σ':=[aA,cH,aA]) [1] r (jG hx19) r r ⟨lr,trivial⟩ (fJ ⟨r,r,r,r,trivial⟩ aC) r r r<|mV (v:=.box 1 0) r ?_
 obtain ⟨x21,hx21,h22⟩:=aE h20
 refine dK (v:=aI) (σ':=[aA,cH,aA]) [1] r (jG hx21) r r ⟨lr,trivial⟩ (fJ ⟨r,r,r,r,trivial⟩ aC) r r r<|aK r (aZ vL r)<|bV (v:=aI) (us:=[aI]) (cs:=aA) (σ':=[aA,cH,aA]) r eB r r r r r r r r<|aK r (aZ zM r)<|bV (v:=aI) (us:=[aI]) (cs:=aA) (σ':=[aA,cH,aA]) r eB r r r r r r r r<|aK r (aZ xB r)<|bV (v:=aI) (us:=[aI]) (cs:=aA) (σ':=[aA,cH,aA]) r eB r r r r r r r r<|aK r (aZ lL r)<|bV (v:=aI) (us:=[aI]) (cs:=aA) (σ':=[aA,cH,aA]) r eB r r r r r r r r<|aF (fr':=[(2,.box 0 0),(4,.box 1 0),(5,.box 2 0)]) r r<|aH<|mV (v:=.box 1 0) r ?_
 obtain ⟨x23,hx23,h24⟩:=aE h22
 refine dK (v:=.agg bQ) (σ':=[aA,cH,aA]) [1] r (aA5 hx23) r r ⟨lr,trivial⟩ (fJ ⟨r,r,r,r,trivial⟩ aC) r r r<|aK r (aZ vZ r)<|bV (v:=.agg bQ) (us:=bQ) (cs:=aA) (σ':=[aA,cH,kI]) r fV r r r r r r r r<|aF (fr':=[(2,.box 0 0),(4,.box 1 0),(5,.box 2 0)]) r r<|aH<|mV (v:=.box 1 0) r ?_
 obtain ⟨x25,hx25,h26⟩:=aE h24
 refine dK (v:=aO) (σ':=[aA,cH,kI]) [1] r (nM hx25) r r ⟨lr,lr,lr,trivial⟩ (fJ ⟨r,r,r,r,trivial⟩ aC) r r r<|aK r (aZ oB r)<|bV (v:=aO) (us:=[aO]) (cs:=kI) (σ':=[aA,cH,[aI,aI,aS,aS,aS,aS,aI,aI,aI,aI,aI,aI,aS,aL,aL,aS,aI,aI,aI,aI,aI,aI,aI,aI,AV.nil,aO,aS]]) r aCc r r r r r r r r<|aF (fr':=[(2,.box 0 0),(4,.box 1 0),(5,.box 2 0)]) r r<|aH<|mV (v:=.box 1 0) r ?_
 obtain ⟨x27,hx27,h28⟩:=aE h26
 refine dK (v:=aS) (σ':=[aA,cH,[aI,aI,aS,aS,aS,aS,aI,aI,aI,aI,aI,aI,aS,aL,aL,aS,aI,aI,aI,aI,aI,aI,aI,aI,AV.nil,aO,aS]]) [1] r (pX hx27) r r ⟨lr,trivial⟩ (fJ ⟨r,r,r,r,trivial⟩ aC) r r r<|aK r (aZ tH r)<|bV (v:=aS) (us:=[aS]) (cs:=[aI,aI,aS,aS,aS,aS,aI,aI,aI,aI,aI,aI,aS,aL,aL,aS,aI,aI,aI,aI,aI,aI,aI,aI,AV.nil,aO,aS]) (σ':=[aA,cH,[aI,aI,aS,aS,aS,aS,aI,aI,aI,aI,aI,aI,aS,aL,aL,aS,aI,aI,aI,aI,aI,aI,aI,aI,AV.nil,aO,aS]]) r iE r r r r r r r r<|aF (fr':=[(2,.box 0 0),(4,.box 1 0),(5,.box 2 0)]) r r<|aR<|aH<|mV (v:=.box 1 0) r ?_
 obtain ⟨x29,hx29,h30⟩:=aE h28
 refine dK (v:=aI) (σ':=[aA,cH,[aI,aI,aS,aS,aS,aS,aI,aI,aI,aI,aI,aI,aS,aL,aL,aS,aI,aI,aI,aI,aI,aI,aI,aI,AV.nil,aO,aS]]) [1] r (aC5 hx29) r r ⟨lr,trivial⟩ (fJ ⟨r,r,r,r,trivial⟩ aC) r r r<|sI r<|aF (fr':=[(2,.box 0 0),(5,.box 2 0),(6,aI)]) r r<|aH<|mI r<|aK r (gM r r)<|aF (fr':=[(2,.box 0 0),(5,.box 2 0),(6,aI),(51,aB)]) r r<|bS h30 r (fun hb31 h31=>?_) (fun hb31 h31=>?_)
 ·
  refine aH<|aK r (gR (c0:=aA) (cs:=aA) aNl r gQ)<|mI r<|bV (v:=.agg aA) (us:=aA) (cs:=aA) (σ':=[aA,cH,[aI,aI,aS,aS,aS,aS,aI,aI,aI,aI,aI,aI,aS,aL,aL,aS,aI,aI,aI,aI,aI,aI,aI,aI,AV.nil,aO,aS]]) r rB r r r r r r r r<|sI r<|aF (fr':=[(2,.box 0 0),(3,aI)]) r r<|bF<|aM ?_
  obtain rfl:=sy h31
  exact bE (rs':=[.cell 2 57,.tmp 3]) r<|eV (us:=aA) (cs:=aA) rB r r r r<|bG (v:=aI) r<|bD<|aN [] r r r (kW r ⟨(bP r ⟨r,r,r,r,r,r,r,r,r,r,r,r,r,⟨_,r⟩,⟨_,r⟩,r,r,r,r,r,r,r,r,r,⟨_,r⟩,⟨_,r⟩,r,trivial⟩),lr,trivial⟩) aC
 ·
  refine aW<|bZ<|aR<|aH<|aK r (cN (us:=[aI,aI,aS,aS,aS,aS,aI,aI,aI,aI,aI,aI,aS,aL,aL,aS,aI,aI,aI,aI,aI,aI,aI,aI,AV.nil,aO,aS]) rB r r r r) ?_
  obtain ⟨x33,hx33,h34⟩:=aE h31
  refine gW (aY (v:=aB) r (vN hx33) ⟨(bP r ⟨r,r,r,r,r,r,r,r,r,r,r,r,r,r,r,r,r,r,r,r,r,r,r,r,⟨_,r⟩,r,r,trivial⟩),trivial⟩ r r r)<|aK r (eD r)<|aF (fr':=[(2,.box 0 0),(5,.box 2 0),(56,aB)]) r r<|bS h34 r (fun hb35 h35=>?_) (fun hb35 h35=>?_)
  ·
   refine aH<|aK r (gR (c0:=aA) (cs:=aA) aNl r gQ)<|bV (v:=.agg aA) (us:=aA) (cs:=aA) (σ':=[aA,cH,[aI,aI,aS,aS,aS,aS,aI,aI,aI,aI,aI,aI,aS,aL,aL,aS,aI,aI,aI,aI,aI,aI,aI,aI,AV.nil,aO,aS]]) r rB r r r r r r r r<|sI r<|aF (fr':=[(2,.box 0 0),(3,aI)]) r r<|bF<|aM ?_
   obtain rfl:=sy h35
   exact bE (rs':=[.cell 2 57,.tmp 3]) r<|eV (us:=aA) (cs:=aA) rB r r r r<|bG (v:=aI) r<|bD<|aN [] r r r (kW r ⟨(bP r ⟨r,r,r,r,r,r,r,r,r,r,r,r,r,⟨_,r⟩,⟨_,r⟩,r,r,r,r,r,r,r,r,r,⟨_,r⟩,⟨_,r⟩,r,trivial⟩),lr,trivial⟩) aC
  ·
   refine aW<|bZ<|aH<|aK r (cN (us:=[aI,aI,aS,aS,aS,aS,aI,aI,aI,aI,aI,aI,aS,aL,aL,aS,aI,aI,aI,aI,aI,aI,aI,aI,AV.nil,aO,aS]) rB r r r r)<|bV (v:=.agg [aI,aI,aS,aS,aS,aS,aI,aI,aI,aI,aI,aI,aS,aL,aL,aS,aI,aI,aI,aI,aI,aI,aI,aI,AV.nil,aO,aS]) (us:=[aI,aI,aS,aS,aS,aS,aI,aI,aI,aI,aI,aI,aS,aL,aL,aS,aI,aI,aI,aI,aI,aI,aI,aI,AV.nil,aO,aS]) (cs:=aA) (σ':=[[aI,aI,aS,aS,aS,aS,aI,aI,aI,aI,aI,aI,aS,aL,aL,aS,aI,aI,aI,aI,aI,aI,aI,aI,AV.nil,aO,aS],cH,[aI,aI,aS,aS,aS,aS,aI,aI,aI,aI,aI,aI,aS,aL,aL,aS,aI,aI,aI,aI,aI,aI,aI,aI,AV.nil,aO,aS]]) r rB r r r r r r r r<|sI r<|aF (fr':=[(2,.box 0 0),(3,aI)]) r r<|bF ?_
   obtain rfl:=sy h35
   exact bE (rs':=[.cell 2 57,.tmp 3]) r<|eV (us:=[aI,aI,aS,aS,aS,aS,aI,aI,aI,aI,aI,aI,aS,aL,aL,aS,aI,aI,aI,aI,aI,aI,aI,aI,AV.nil,aO,aS]) (cs:=[aI,aI,aS,aS,aS,aS,aI,aI,aI,aI,aI,aI,aS,aL,aL,aS,aI,aI,aI,aI,aI,aI,aI,aI,AV.nil,aO,aS]) rB r r r r<|bG (v:=aI) r<|bD<|aN [] r r r (kW r ⟨(bP r ⟨r,r,r,r,r,r,r,r,r,r,r,r,r,r,r,r,r,r,r,r,r,r,r,r,⟨_,r⟩,r,r,trivial⟩),lr,trivial⟩) aC
noncomputable def jC (p0a:(List bI)) (p1b:(List bI)) (s6:Int):Option (cM Int (Fl Bool Unit)) :=
 cond (decide (s6<((p0a).length:Int))) ((jT p0a s6).bind fun x8=>(jT p1b s6).bind fun x10=>(rU x8 x10).bind fun x12=>cond (!x12) (some (cM.out (Fl.done false))) (some (cM.next (IntKind.wrap .i64 (s6+(1:Int)))))) (some (cM.out (Fl.go ())))
noncomputable def iH (p0a:(List bI)) (p1b:(List bI)):Option Bool :=
 cond (!decide (((p0a).length:Int)=((p1b).length:Int))) (some false) (((eQ (jC p0a p1b) ((0:Int))):Option (Fl Bool Unit)).bind fun x3=>Fl.next x3 (fun j5=>(some true)))
theorem aA4 {p0a:(List bI)}{p1b:(List bI)}{res:Bool} (h:iH p0a p1b=some res):bT Tryz.prog 96 [.c (PV.ls 20 bR p0a),.c (PV.ls 20 bR p1b)] [] (.c (.bool res)) []:=by
 unfold iH at h
 refine cJ (fn:=Tryz.f96) [0,1,4,5,10,14,26] (by kernel_rfl) Tryz.func96 r (by kernel_rfl) (by kernel_rfl)<|aH<|sB r<|aF (fr':=[(0,aL),(1,aL)]) r r<|aR<|aH<|mL r<|aK r (eC aCb (cR r))<|mL r<|aK r (eC aCb (cR r))<|aK r (gM r r) ?_
 refine aF (fr':=[(0,aL),(1,aL),(10,aB)]) r r<|bS h r (fun hb1 h1=>?_) (fun hb1 h1=>?_)
 ·
  refine aH<|sB r<|aF (fr':=[(4,aB)]) r r<|bF<|aM ?_
  obtain rfl:=sy h1
  exact bE (rs':=[.tmp 4]) r<|bG (v:=aB) r<|bD<|aN [] r r r lr aC
 ·
  refine aW<|bZ<|aR<|aH<|sI r<|aF (fr':=[(0,aL),(1,aL),(5,aI)]) r r ?_
  obtain ⟨x3,hx3,h4⟩:=aE h1
  refine eR gX (fun j5=>x3=Fl.go j5) (fun (j5:Unit)=>([]:Fr)) (fun (j5:Unit)=>([]:St)) ?_ ?_
  ·
   refine bL<|eK _ (fun (s6:Int)=>([(0,.c (PV.ls 20 bR p0a)),(1,.c (PV.ls 20 bR p1b)),(5,ci s6)]:Fr)) (fun (s6:Int)=>([]:St)) hx3 (aU [] 0 r r r r ⟨lr,lr,lr,trivial⟩ aC) ?_
   intro s6 st6 hs6 ho6
   unfold jC at hs6
   refine aR<|aH<|mI r<|mL r<|aK r (eC aCb (cR r))<|aK r (eA r r)<|aF (fr':=[(0,aL),(1,aL),(5,aI),(14,aB)]) r r<|bS hs6 r (fun hb7 h7=>?_) (fun hb7 h7=>?_)
   ·
    refine aW<|bZ<|aR<|bL<|aR<|hF [.q 0,.q 1,.q 2,.q 3,.q 4,.q 5,.q 6,.q 7,.q 8,.q 9] [(some 17,[0]),(some 18,[5]),(some 19,[17,18]),(some 20,[19]),(some 21,[1]),(some 22,[5]),(some 23,[21,22]),(some 24,[23]),(some 25,[20,24]),(some 26,[25])] [0,0,3,7,0,0,48,112,255,511] (by kernel_rfl)<|dq r r (bC (v:=aL) r)<|dq r r (bC (v:=aI) r) ?_
    obtain ⟨x8,hx8,h9⟩:=aE h7
    refine dq r r (iL (cs:=[PV.int _ _,PV.int _ _,PV.str _,PV.str _,PV.int _ _,PV.int _ _,PV.int _ _,PV.str _,PV.ls _ _ _,PV.ls _ _ _,PV.str _,PV.int _ _,PV.int _ _,PV.int _ _,PV.int _ _,PV.int _ _,PV.int _ _,PV.int _ _,PV.int _ _,PV.ls _ _ _]) aJi (cR r) r hx8 r)<|dq r r (hG (us:=[PV.int _ _,PV.int _ _,PV.str _,PV.str _,PV.int _ _,PV.int _ _,PV.int _ _,PV.str _,PV.ls _ _ _,PV.ls _ _ _,PV.str _,PV.int _ _,PV.int _ _,PV.int _ _,PV.int _ _,PV.int _ _,PV.int _ _,PV.int _ _,PV.int _ _,PV.ls _ _ _]) nR r r r)<|dq r r (bC (v:=aL) r)<|dq r r (bC (v:=aI) r) ?_
    obtain ⟨x10,hx10,h11⟩:=aE h9
    refine dq r r (iL (cs:=[PV.int _ _,PV.int _ _,PV.str _,PV.str _,PV.int _ _,PV.int _ _,PV.int _ _,PV.str _,PV.ls _ _ _,PV.ls _ _ _,PV.str _,PV.int _ _,PV.int _ _,PV.int _ _,PV.int _ _,PV.int _ _,PV.int _ _,PV.int _ _,PV.int _ _,PV.ls _ _ _]) aJi (cR r) r hx10 r)<|dq r r (hG (us:=[PV.int _ _,PV.int _ _,PV.str _,PV.str _,PV.int _ _,PV.int _ _,PV.int _ _,PV.str _,PV.ls _ _ _,PV.ls _ _ _,PV.str _,PV.int _ _,PV.int _ _,PV.int _ _,PV.int _ _,PV.int _ _,PV.int _ _,PV.int _ _,PV.int _ _,PV.ls _ _ _]) nR r r r) ?_
    obtain ⟨x12,hx12,h13⟩:=aE h11
    refine d_q r (mH (v:=aB) r (aCZ hx12) ⟨(bP r ⟨r,r,r,r,r,r,r,r,r,r,r,r,r,r,r,r,r,r,r,r,trivial⟩),(bP r ⟨r,r,r,r,r,r,r,r,r,r,r,r,r,r,r,r,r,r,r,r,trivial⟩),trivial⟩ r)<|dq r r (eD r)<|tS (fr':=[(0,aL),(1,aL),(5,aI),(26,aB)]) r r<|bS h13 r (fun hb14 h14=>?_) (fun hb14 h14=>?_)
    ·
     refine aH<|sB r<|aF (fr':=[(4,aB)]) r r<|bF<|bH<|aM<|aM<|bH<|aM<|aM ?_
     have h15:=dB h14 ho6
     have h16:=eH h15 h4
     obtain rfl:=sy h16
     exact bE (rs':=[.tmp 4]) r<|bG (v:=aB) r<|bD<|aN [] r r r lr aC
    ·
     exact aW<|bW<|bZ<|aT<|mI r<|aK r (dZ r r)<|sI r<|cD (fr':=[(0,aL),(1,aL),(5,aI),(26,aB)]) r<|tU _ (sy h14) (aU [] 0 r r r r ⟨lr,lr,lr,trivial⟩ aC)
   ·
    refine eZ<|bY<|bY<|dX ?_
    have h18:=dB h7 ho6
    exact fS _ (sy h18) (aU [] 0 r r r r trivial aC)
  ·
   intro j5 hj19
   have h19:=iS hj19 h4
   refine bZ<|aH<|sB r<|aF (fr':=[(4,aB)]) r r<|bF ?_
   obtain rfl:=sy h19
   exact bE (rs':=[.tmp 4]) r<|bG (v:=aB) r<|bD<|aN [] r r r lr aC
end Go.Proofs.YtnigjppddilpcaaGreatDoor
