import Derived.Test.YtnigjppddilpcaaGreatDoorGETy
import Derived.Test.YtnigjppddilpcaaGreatDoorGEF0
import Derived.Test.YtnigjppddilpcaaGreatDoorGEF1
import Derived.Test.YtnigjppddilpcaaGreatDoorGEF3
import Derived.Test.YtnigjppddilpcaaGreatDoorGEF4
import Derived.Test.YtnigjppddilpcaaGreatDoorGEF5
import Derived.Test.YtnigjppddilpcaaGreatDoorGEF6
import Derived.Test.YtnigjppddilpcaaGreatDoorGEF9
import Derived.Test.YtnigjppddilpcaaGreatDoorGEF13
namespace Go.Proofs.YtnigjppddilpcaaGreatDoor
open Go Abs
set_option maxRecDepth 100000
set_option linter.unusedVariables false
set_option linter.unusedSimpArgs false
noncomputable def nW (p0q:aY):Option Bool :=
 (oZ p0q.Kind).bind fun x1=>(jP p0q.Kind (1:Int) (17:Int)).bind fun x3=>(gd ((!x3)==false) (jP p0q.Time (0:Int) (1099511627776:Int))).bind fun x5=>(gd ((cond (!x3) true (!x5))==false) (rY p0q x1)).bind fun x7=>(gd ((cond (cond (!x3) true (!x5)) true (!x7))==false) (rC p0q.Data)).bind fun x9=>cond (cond (cond (cond (!x3) true (!x5)) true (!x7)) true (!x9)) (some false) ((gd (((cond (decide (p0q.Kind=(14:Int))) (!decide (p0q.Workflow=([]:List UInt8))) false)==false)&&((!(decide (p0q.Kind=(14:Int))))==true)) (mK p0q.Workflow)).bind fun x13=>(gd ((cond (cond (decide (p0q.Kind=(14:Int))) (!decide (p0q.Workflow=([]:List UInt8))) false) true (cond (!(decide (p0q.Kind=(14:Int)))) (!x13) false))==false) (rA p0q.Run)).bind fun x15=>cond (cond (cond (cond (cond (decide (p0q.Kind=(14:Int))) (!decide (p0q.Workflow=([]:List UInt8))) false) true (cond (!(decide (p0q.Kind=(14:Int)))) (!x13) false)) true (!x15)) true (cond (cond (decide (p0q.Kind=(14:Int))) true (decide (p0q.Kind=(1:Int)))) (!decide (p0q.Run=([]:List UInt8))) false)) (some false) (((cond (decide (p0q.Kind=(1:Int))) (some (0:Int)) (some (1:Int))):Option Int).bind fun x19=>((gd (((cond x1.token_ (decide (p0q.Token<(1:Int))) false)==false)&&(x1.event_==true)) (jP p0q.Event (1:Int) (2000:Int))).bind fun x24=>(gd (((cond (cond x1.token_ (decide (p0q.Token<(1:Int))) false) true (cond x1.event_ (!x24) false))==false)&&(x1.seq_==true)) (jP p0q.Seq x19 (2000:Int))).bind fun x26=>(gd ((cond (cond (cond x1.token_ (decide (p0q.Token<(1:Int))) false) true (cond x1.event_ (!x24) false)) true (cond x1.seq_ (!x26) false))==false) (pB p0q.Parent)).bind fun x28=>cond (cond (cond (cond (cond x1.token_ (decide (p0q.Token<(1:Int))) false) true (cond x1.event_ (!x24) false)) true (cond x1.seq_ (!x26) false)) true (!x28)) (some false) ((gd ((decide ((200:Int)<((p0q.Commands).length:Int)))==false) (dB p0q.Commands)).bind fun x32=>cond (cond (decide ((200:Int)<((p0q.Commands).length:Int))) true x32) (some false) ((pA p0q).bind fun x36=>(gd (x36==true) (qF p0q x1)).bind fun x38=>some (cond x36 x38 false))))))
theorem aAx {p0q:aY}{res:Bool} (h:nW p0q=some res):cC Tryz.prog 39 [.agg (AV.cs (fX p0q))] [] (.c (.bool res)) []:=by
 unfold nW at h
 refine cY (fn:=Tryz.f39) [0,1,2,3,4,5,30,68,71,105,114] (by kernel_rfl) Tryz.func39 r (by kernel_rfl) (by kernel_rfl)<|aK<|iH (v:=.agg aE) (n:=0) (cs:=aE) (σ':=[aE]) r r r r r<|sB r<|aH (fr':=[(1,.box 0 0)]) r r<|aK<|aT r (bD wS r)<|aT r (aJ (v:=aI) fY r r r) ?_
 obtain ⟨x1,hx1,h2⟩:=aG h
 refine lM (bC (v:=.agg aR) r (aDT hx1) ⟨lr,trivial⟩ r r r)<|iG (n:=1) (cs:=aR) (σ':=[aE,aR]) aNU r r r<|bU (v:=.agg aR) (us:=aR) (cs:=aR) (σ':=[aE,aR]) r lH r r r r r r r r<|aH (fr':=[(1,.box 0 0),(3,.box 1 0)]) r r<|aU<|aK<|aT r (bD wS r)<|aT r (aJ (v:=aI) fY r r r) ?_
 obtain ⟨x3,hx3,h4⟩:=aG h2
 refine lM (bC (v:=aB) r (lA hx3) ⟨lr,lr,lr,trivial⟩ r r r)<|aT r (fH r)<|mB r<|og r r r (fun hc=>(bD aF8 r))<|og r r r (fun hc=>(aJ (v:=aI) fY (gx r hc) r r)) ?_
 obtain ⟨x5,hx5,h6⟩:=aG h4
 refine yS r r (fun hc=>bC (v:=aB) r (lA (dW hx5 hc)) ⟨(fK (gx r hc) lr),lr,lr,trivial⟩ (gJ (by repeat (first | exact fF | refine aZ r ?_ | refine aZ (uH r) ?_ | refine aZ uG ?_))) r r) ?_
 refine og r r r (fun hc=>(fH (gx r hc)))<|aT r (cB r r r (fun e=>fW e))<|mB r<|og r r r (fun hc=>(dJ (us:=aE) xB r r r r))<|og r r r (fun hc=>(dJ (us:=aR) lH r r r r)) ?_
 obtain ⟨x7,hx7,h8⟩:=aG h6
 refine yS r r (fun hc=>bC (v:=aB) r (aGj (dW hx7 hc)) ⟨(fK (gx r hc) (bO r ⟨r,r,r,r,r,r,r,r,r,r,r,r,r,r,r,r,r,r,r,r,r,r,r,r,r,r,r,trivial⟩)),(fK (gx r hc) (bO r ⟨r,r,r,r,r,r,r,r,r,trivial⟩)),trivial⟩ (gJ (by repeat (first | exact fF | refine aZ r ?_ | refine aZ (uH r) ?_ | refine aZ uG ?_))) r r) ?_
 refine og r r r (fun hc=>(fH (gx r hc)))<|aT r (cB r r r (fun e=>fW e))<|mB r<|og r r r (fun hc=>(bD aBA r))<|og r r r (fun hc=>(dJ (us:=bQ) gV (gx r hc) r r r)) ?_
 obtain ⟨x9,hx9,h10⟩:=aG h8
 refine yS r r (fun hc=>bC (v:=aB) r (aBW (dW hx9 hc)) ⟨(fK (gx r hc) (bO r ⟨r,r,r,r,r,trivial⟩)),trivial⟩ (gJ (by repeat (first | exact fF | refine aZ r ?_ | refine aZ (uH r) ?_ | refine aZ uG ?_))) r r) ?_
 refine og r r r (fun hc=>(fH (gx r hc)))<|aT r (cB r r r (fun e=>fW e))<|aH (fr':=[(1,.box 0 0),(3,.box 1 0),(30,aB)]) r r<|cV h10 r (fun hb11 h11=>?_) (fun hb11 h11=>?_)
 ·
  refine aK<|sB r<|aH (fr':=[(2,aB)]) r r<|bI<|aN ?_
  obtain rfl:=sy h11
  exact bH (rs':=[.tmp 2]) r<|bP (v:=aB) r<|bG<|aQ [] r r r lr aF
 ·
  refine bJ<|cM<|aK<|aT r (bD wS r)<|aT r (aJ (v:=aI) fY r r r)<|aT r (dG r r)<|sB r<|aH (fr':=[(1,.box 0 0),(3,.box 1 0),(4,aB)]) r r<|aU<|aK<|mB r ?_
  refine mB r<|og r r r (fun hc=>(bD aDH r))<|og r r r (fun hc=>(aJ (v:=aS) nE (gx r hc) r r))<|og r r r (fun hc=>(rQ (gx r hc) r))<|aT r (cE r r r (fun e=>fW e))<|mB r<|og r r r (fun hc=>(bA (v:=aB) r))<|og r r r (fun hc=>(fH (gx r hc)))<|og r r r (fun hc=>(bA (v:=aB) (gx r hc)))<|eX r r (fun hc=>fJ r (bD aDH r))<|eX r r (fun hc=>fJ r (aJ (v:=aS) nE (gx r hc) r r)) ?_
  obtain ⟨x13,hx13,h14⟩:=aG h11
  refine eX r r (fun hc=>bC (v:=aB) r (uX (dW hx13 hc)) ⟨(fK (gx r hc) lr),trivial⟩ (gJ (by repeat (first | exact fF | refine aZ r ?_ | refine aZ (uH r) ?_ | refine aZ uG ?_))) r r) ?_
  refine eX r r (fun hc=>fJ r (fH (gx r hc)))<|og r r r (fun hc=>(cE (gx r hc) r r (fun e=>rF hc (fW e))))<|aT r (cB r r r (fun e=>fW e))<|mB r<|og r r r (fun hc=>(bD aDI r))<|og r r r (fun hc=>(aJ (v:=aS) nE (gx r hc) r r)) ?_
  obtain ⟨x15,hx15,h16⟩:=aG h14
  refine yS r r (fun hc=>bC (v:=aB) r (aBV (dW hx15 hc)) ⟨(fK (gx r hc) lr),trivial⟩ (gJ (by repeat (first | exact fF | refine aZ r ?_ | refine aZ (uH r) ?_ | refine aZ uG ?_))) r r) ?_
  refine og r r r (fun hc=>(fH (gx r hc)))<|aT r (cB r r r (fun e=>fW e))<|mB r<|og r r r (fun hc=>(bA (v:=aB) r))<|og r r r (fun hc=>(bA (v:=aB) (gx r hc)))<|eX r r (fun hc=>fJ r (bD wS r))<|eX r r (fun hc=>fJ r (aJ (v:=aI) fY (gx r hc) r r))<|eX r r (fun hc=>fJ r (dG (gx r hc) r))<|og r r r (fun hc=>(cB (gx r hc) r r (fun e=>rF hc (fW e))))<|og r r r (fun hc=>(bA (v:=aB) (gx r hc)))<|eX r r (fun hc=>fJ r (bD aDI r))<|eX r r (fun hc=>fJ r (aJ (v:=aS) nE (gx r hc) r r))<|eX r r (fun hc=>fJ r (rQ (gx r hc) r)) ?_
  refine og r r r (fun hc=>(cE (gx r hc) r r (fun e=>rF hc (fW e))))<|aT r (cB r r r (fun e=>fW e))<|aH (fr':=[(1,.box 0 0),(3,.box 1 0),(68,aB)]) r r<|cV h16 r (fun hb17 h17=>?_) (fun hb17 h17=>?_)
  ·
   refine aK<|sB r<|aH (fr':=[(2,aB)]) r r<|bI<|aN ?_
   obtain rfl:=sy h17
   exact bH (rs':=[.tmp 2]) r<|bP (v:=aB) r<|bG<|aQ [] r r r lr aF
  ·
   refine bJ<|cM<|aK<|sI r<|aH (fr':=[(1,.box 0 0),(3,.box 1 0),(5,aI)]) r r ?_
   obtain ⟨x19,hx19,h20⟩:=aG h17
   refine nB (fun j21=>x19=j21) (fun (j21:Int)=>([(1,.box 0 0),(3,.box 1 0),(5,ci j21)]:Fr)) (fun (j21:Int)=>([[ci p0q.Kind,ci p0q.Time,.c (.str p0q.Workflow),.c (.str p0q.Run),.c (.str p0q.ID),.c (.str p0q.Name),ci p0q.Token,ci p0q.Event,ci p0q.Seq,ci p0q.N,ci p0q.Data.Kind,ci p0q.Data.Int,.c (.str p0q.Data.Text),.c (PV.ls 5 bM p0q.Data.Items),.c (PV.ls 1 gL p0q.Data.Keys),.c (.str p0q.Opts.Queue),ci p0q.Opts.ToStart,ci p0q.Opts.ToClose,ci p0q.Opts.Total,ci p0q.Opts.Beat,ci p0q.Opts.First,ci p0q.Opts.Coef,ci p0q.Opts.Most,ci p0q.Opts.Attempts,.c (PV.ls 1 gL p0q.Opts.Fatal),.c (PV.ls 20 cH p0q.Commands),.c (.str p0q.Parent)],[.c (.bool x1.id_),.c (.bool x1.name_),.c (.bool x1.token_),.c (.bool x1.event_),.c (.bool x1.seq_),.c (.bool x1.n_),.c (.bool x1.data_),.c (.bool x1.commands_),.c (.bool x1.parent_)]]:St)) ?_ ?_
   ·
    refine aK<|aT r (bD wS r)<|aT r (aJ (v:=aI) fY r r r)<|aT r (dG r r)<|aH (fr':=[(1,.box 0 0),(3,.box 1 0),(5,aI),(71,aB)]) r r<|cV hx19 r (fun hb22 h22=>?_) (fun hb22 h22=>?_)
    ·
     exact aX<|sI r<|dT (fr':=[(1,.box 0 0),(3,.box 1 0),(5,aI),(71,aB)]) r<|pG _ (sy h22) (bT [] 2 r r r r ⟨lr,lr,lr,trivial⟩ (cZ r (cZ r aF)))
    ·
     exact bJ<|pG _ (sy h22) (bT [] 2 r r r r ⟨lr,lr,lr,trivial⟩ (cZ r (cZ r aF)))
   ·
    intro j21 hj23
    subst hj23
    refine aU<|aK<|aT r (bD aLi r)<|aT r (aJ (v:=aB) tv4 r r r)<|mB r<|og r r r (fun hc=>(bD aDJ r))<|og r r r (fun hc=>(aJ (v:=aI) fY (gx r hc) r r))<|og r r r (fun hc=>(fM (gx r hc) r))<|aT r (cE r r r (fun e=>fW e))<|mB r<|og r r r (fun hc=>(bD aLj r))<|og r r r (fun hc=>(aJ (v:=aB) tv4 (gx r hc) r r)) ?_
    refine og r r r (fun hc=>(bA (v:=aB) (gx r hc)))<|eX r r (fun hc=>fJ r (bD aDK r))<|eX r r (fun hc=>fJ r (aJ (v:=aI) fY (gx r hc) r r)) ?_
    obtain ⟨x24,hx24,h25⟩:=aG h20
    refine eX r r (fun hc=>bC (v:=aB) r (lA (dW hx24 hc)) ⟨(fK (gx r hc) lr),lr,lr,trivial⟩ (gJ (by repeat (first | exact fF | refine aZ r ?_ | refine aZ (uH r) ?_ | refine aZ uG ?_))) r r) ?_
    refine eX r r (fun hc=>fJ r (fH (gx r hc)))<|og r r r (fun hc=>(cE (gx r hc) r r (fun e=>rF hc (fW e))))<|aT r (cB r r r (fun e=>fW e))<|mB r<|og r r r (fun hc=>(bD aLk r))<|og r r r (fun hc=>(aJ (v:=aB) tv4 (gx r hc) r r))<|og r r r (fun hc=>(bA (v:=aB) (gx r hc)))<|eX r r (fun hc=>fJ r (bD aDL r))<|eX r r (fun hc=>fJ r (aJ (v:=aI) fY (gx r hc) r r))<|eX r r (fun hc=>fJ r (bA (v:=aI) r)) ?_
    obtain ⟨x26,hx26,h27⟩:=aG h25
    refine eX r r (fun hc=>bC (v:=aB) r (lA (dW hx26 hc)) ⟨(fK (gx r hc) lr),(fK (gx r hc) lr),lr,trivial⟩ (gJ (by repeat (first | exact fF | refine aZ r ?_ | refine aZ (uH r) ?_ | refine aZ uG ?_))) r r) ?_
    refine eX r r (fun hc=>fJ r (fH (gx r hc)))<|og r r r (fun hc=>(cE (gx r hc) r r (fun e=>rF hc (fW e))))<|aT r (cB r r r (fun e=>fW e))<|mB r<|og r r r (fun hc=>(bD aBB r))<|og r r r (fun hc=>(aJ (v:=aS) nE (gx r hc) r r)) ?_
    obtain ⟨x28,hx28,h29⟩:=aG h27
    refine yS r r (fun hc=>bC (v:=aB) r (aDV (dW hx28 hc)) ⟨(fK (gx r hc) lr),trivial⟩ (gJ (by repeat (first | exact fF | refine aZ r ?_ | refine aZ (uH r) ?_ | refine aZ uG ?_))) r r) ?_
    refine og r r r (fun hc=>(fH (gx r hc)))<|aT r (cB r r r (fun e=>fW e))<|aH (fr':=[(1,.box 0 0),(3,.box 1 0),(105,aB)]) r r<|cV h29 r (fun hb30 h30=>?_) (fun hb30 h30=>?_)
    ·
     refine aK<|sB r<|aH (fr':=[(2,aB)]) r r<|bI<|aN ?_
     obtain rfl:=sy h30
     exact bH (rs':=[.tmp 2]) r<|bP (v:=aB) r<|bG<|aQ [] r r r lr aF
    ·
     refine bJ<|cM<|aU<|aK<|aT r (bD vL r)<|aT r (aJ (v:=aL) aH4 r r r)<|aT r (gN aGI (eO r))<|aT r (sJ r r)<|mB r<|og r r r (fun hc=>(bD vL r))<|og r r r (fun hc=>(aJ (v:=aL) aH4 (gx r hc) r r)) ?_
     obtain ⟨x32,hx32,h33⟩:=aG h30
     refine yS r r (fun hc=>bC (v:=aB) r (jF (dW hx32 hc)) ⟨(fK (gx r hc) lr),lr,trivial⟩ (gJ (by repeat (first | exact fF | refine aZ r ?_ | refine aZ (uH r) ?_ | refine aZ uG ?_))) r r) ?_
     refine aT r (cB r r r (fun e=>fW e))<|aH (fr':=[(1,.box 0 0),(3,.box 1 0),(114,aB)]) r r<|cV h33 r (fun hb34 h34=>?_) (fun hb34 h34=>?_)
     ·
      refine aK<|sB r<|aH (fr':=[(2,aB)]) r r<|bI<|aN ?_
      obtain rfl:=sy h34
      exact bH (rs':=[.tmp 2]) r<|bP (v:=aB) r<|bG<|aQ [] r r r lr aF
     ·
      refine bJ<|cM<|aK<|aT r (dJ (us:=aE) xB r r r r) ?_
      obtain ⟨x36,hx36,h37⟩:=aG h34
      refine lM (bC (v:=aB) r (aDU hx36) ⟨(bO r ⟨r,r,r,r,r,r,r,r,r,r,r,r,r,r,r,r,r,r,r,r,r,r,r,r,r,r,r,trivial⟩),trivial⟩ r r r)<|mB r<|og r r r (fun hc=>(dJ (us:=aE) xB r r r r))<|og r r r (fun hc=>(dJ (us:=aR) lH r r r r)) ?_
      obtain ⟨x38,hx38,h39⟩:=aG h37
      refine yS r r (fun hc=>bC (v:=aB) r (aEI (dW hx38 hc)) ⟨(fK (gx r hc) (bO r ⟨r,r,r,r,r,r,r,r,r,r,r,r,r,r,r,r,r,r,r,r,r,r,r,r,r,r,r,trivial⟩)),(fK (gx r hc) (bO r ⟨r,r,r,r,r,r,r,r,r,trivial⟩)),trivial⟩ (gJ (by repeat (first | exact fF | refine aZ r ?_ | refine aZ (uH r) ?_ | refine aZ uG ?_))) r r) ?_
      refine aT r (cE r r r (fun e=>fW e))<|sB r<|aH (fr':=[(2,aB)]) r r<|bI ?_
      obtain rfl:=sy h39
      exact bH (rs':=[.tmp 2]) r<|bP (v:=aB) r<|bG<|aQ [] r r r lr aF
noncomputable def oO (p0b:(List UInt8)) (p1c:aP):Option (List UInt8) :=
 (fV p0b).bind fun x1=>(mE p1c).bind fun x3=>cond (!x3) (some x1) ((eR x1 p1c.Kind).bind fun x7=>(eR x7 p1c.Seq).bind fun x9=>(hU x9 p1c.Name).bind fun x11=>(hU x11 p1c.Key).bind fun x13=>(eR x13 p1c.N).bind fun x15=>(pP x15 p1c.Data).bind fun x17=>(oR x17 p1c.Opts).bind fun x19=>some x19)
theorem aDP {p0b:(List UInt8)}{p1c:aP}{res:(List UInt8)} (h:oO p0b p1c=some res):cC Tryz.prog 90 [.c (PV.ls 1 gA p0b),.agg (AV.cs (cH p1c))] [] (AV.os 0 1 gA res) []:=by
 unfold oO at h
 refine cY (fn:=Tryz.f90) [0,1,3,4,5,10] (by kernel_rfl) Tryz.func90 r (by kernel_rfl) (by kernel_rfl)<|aK<|iH (v:=.agg aW) (n:=0) (cs:=aW) (σ':=[aW]) r r r r r<|sV (v:=AV.nil) r<|aH (fr':=[(0,aL),(3,.box 0 0)]) r r<|aK<|mL r ?_
 obtain ⟨x1,hx1,h2⟩:=aG h
 refine lM (bC (v:=aO) r (kC hx1) ⟨lr,trivial⟩ r r r)<|sV (v:=aO) r<|aH (fr':=[(3,.box 0 0),(5,aO)]) r r<|aU<|aK<|aT r (dJ (us:=aW) vA r r r r) ?_
 obtain ⟨x3,hx3,h4⟩:=aG h2
 refine lM (bC (v:=aB) r (uW hx3) ⟨(bO r ⟨r,r,r,r,r,r,r,r,r,r,r,r,r,r,r,r,r,r,r,r,trivial⟩),trivial⟩ r r r)<|aT r (fH r)<|aH (fr':=[(3,.box 0 0),(5,aO),(10,aB)]) r r<|cV h4 r (fun hb5 h5=>?_) (fun hb5 h5=>?_)
 ·
  refine aK<|mV (v:=aO) r<|sV (v:=aO) r<|aH (fr':=[(4,aO)]) r r<|bI<|aN ?_
  obtain rfl:=sy h5
  exact bH (rs':=[.tmp 4]) r<|bP (v:=aO) r<|bG<|aQ [112] r r r lr aF
 ·
  refine bJ<|cM<|aK<|mV (v:=aO) r<|aT r (bD vJ r)<|aT r (aJ (v:=aI) fY r r r) ?_
  obtain ⟨x7,hx7,h8⟩:=aG h5
  refine lM (bC (v:=aO) r (eS hx7) ⟨lr,lr,trivial⟩ r r r)<|sV (v:=aO) r<|aH (fr':=[(3,.box 0 0),(5,aO)]) r r<|aK<|mV (v:=aO) r<|aT r (bD aBy r)<|aT r (aJ (v:=aI) fY r r r) ?_
  obtain ⟨x9,hx9,h10⟩:=aG h8
  refine lM (bC (v:=aO) r (eS hx9) ⟨lr,lr,trivial⟩ r r r)<|sV (v:=aO) r<|aH (fr':=[(3,.box 0 0),(5,aO)]) r r<|aK<|mV (v:=aO) r<|aT r (bD aAb r)<|aT r (aJ (v:=aS) nE r r r) ?_
  obtain ⟨x11,hx11,h12⟩:=aG h10
  refine lM (bC (v:=aO) r (kI hx11) ⟨lr,lr,trivial⟩ r r r)<|sV (v:=aO) r<|aH (fr':=[(3,.box 0 0),(5,aO)]) r r<|aK<|mV (v:=aO) r<|aT r (bD aBz r)<|aT r (aJ (v:=aS) nE r r r) ?_
  obtain ⟨x13,hx13,h14⟩:=aG h12
  refine lM (bC (v:=aO) r (kI hx13) ⟨lr,lr,trivial⟩ r r r)<|sV (v:=aO) r<|aH (fr':=[(3,.box 0 0),(5,aO)]) r r<|aK<|mV (v:=aO) r<|aT r (bD tN r)<|aT r (aJ (v:=aI) fY r r r) ?_
  obtain ⟨x15,hx15,h16⟩:=aG h14
  refine lM (bC (v:=aO) r (eS hx15) ⟨lr,lr,trivial⟩ r r r)<|sV (v:=aO) r<|aH (fr':=[(3,.box 0 0),(5,aO)]) r r<|aU<|jD [.q 0,.q 1,.q 2,.q 4,.q 5,.n 3 [4,5],.n 6 [],.n 7 []] [(some 32,[5]),(some 33,[3]),(some 34,[33]),(some 35,[32,34]),(some 36,[3]),(some 37,[36]),(some 38,[35,37]),(some 4,[38])] [0,0,2,7,0,16,63,127] (by kernel_rfl)<|dq r r (bA (v:=aO) r)<|dq r r (bD vK r)<|dq r r (dJ (us:=bQ) gV r r r r)<|dq r r (bD aAc r)<|dq r r (dJ (us:=cI) aBF r r r r)<|d_n r ?_ r
  obtain ⟨x17,hx17,h18⟩:=aG h16
  refine lM (bC (v:=aO) r (aBk hx17) ⟨lr,(bO r ⟨r,r,r,r,r,trivial⟩),trivial⟩ r r r)<|aBD<|⟨(aEv (v:=.box 0 10) r r (aDy r (bD aAc r)) (aEv (v:=.agg cI) r r (aDy r (dJ (us:=cI) aBF r r r r)) pS)),?_⟩
  refine d_n r ?_ r
  obtain ⟨x19,hx19,h20⟩:=aG h18
  refine lM (bC (v:=aO) r (aDS hx19) ⟨lr,(bO r ⟨r,r,r,r,r,r,r,r,r,r,trivial⟩),trivial⟩ r r r)<|aBD<|⟨pS,?_⟩
  refine d_n r ?_ r
  refine sV (v:=aO) r<|aBD<|⟨pS,?_⟩
  refine xA (fr':=[(4,aO)]) r r<|bI ?_
  obtain rfl:=sy h20
  exact bH (rs':=[.tmp 4]) r<|bP (v:=aO) r<|bG<|aQ [608] r r r lr aF
noncomputable def oI (p0q:aY) (s12:((List UInt8) × Int)):Option (bS ((List UInt8) × Int) (List UInt8)) :=
 cond (decide (s12.2<((([p0q.Workflow,p0q.Run,p0q.ID,p0q.Name]:List (List UInt8))).length:Int))) ((jV ([p0q.Workflow,p0q.Run,p0q.ID,p0q.Name]:List (List UInt8)) s12.2).bind fun x14=>(hU s12.1 x14).bind fun x16=>some (bS.next (x16,(IntKind.wrap .i64 (s12.2+(1:Int)))))) (some (bS.out s12.1))
noncomputable def oJ (p0q:aY) (s23:((List UInt8) × Int)):Option (bS ((List UInt8) × Int) (List UInt8)) :=
 cond (decide (s23.2<((([p0q.Token,p0q.Event,p0q.Seq,p0q.N]:List Int)).length:Int))) ((jV ([p0q.Token,p0q.Event,p0q.Seq,p0q.N]:List Int) s23.2).bind fun x25=>(eR s23.1 x25).bind fun x27=>some (bS.next (x27,(IntKind.wrap .i64 (s23.2+(1:Int)))))) (some (bS.out s23.1))
noncomputable def oK (p0q:aY) (s38:((List UInt8) × Int)):Option (bS ((List UInt8) × Int) (List UInt8)) :=
 cond (decide (s38.2<((p0q.Commands).length:Int))) ((jV p0q.Commands s38.2).bind fun x40=>(oO s38.1 x40).bind fun x42=>some (bS.next (x42,(IntKind.wrap .i64 (s38.2+(1:Int)))))) (some (bS.out s38.1))
noncomputable def kG (p0q:aY):Option ((List UInt8) × Int) :=
 (nW p0q).bind fun x1=>cond (!x1) (some (([]:(List UInt8)),(3:Int))) ((eR ([]:List UInt8) p0q.Kind).bind fun x5=>(eR x5 p0q.Time).bind fun x7=>((dL (oI p0q) ((x7,(0:Int)))):Option (List UInt8)).bind fun x9=>(((dL (oJ p0q) ((x9,(0:Int)))):Option (List UInt8)).bind fun x20=>((pP x20 p0q.Data).bind fun x31=>(eR x31 ((p0q.Commands).length:Int)).bind fun x33=>((dL (oK p0q) ((x33,(0:Int)))):Option (List UInt8)).bind fun x35=>((hU x35 p0q.Parent).bind fun x46=>cond (decide ((65536:Int)<((x46).length:Int))) (some (([]:(List UInt8)),(6:Int))) (some (x46,(0:Int)))))))
theorem tF {p0q:aY}{res:((List UInt8) × Int)} (h:kG p0q=some res):cC Tryz.prog 35 [.agg (AV.cs (fX p0q))] [] (.tup [AV.os 0 1 gA res.1,ci res.2]) []:=by
 unfold kG at h
 refine cY (fn:=Tryz.f35) [0,1,2,3,4,6,8,10,13,29,30,31,32,47,48,49,50,67,68,69,70,83] (by kernel_rfl) Tryz.func35 r (by kernel_rfl) (by kernel_rfl)<|aK<|iH (v:=.agg aE) (n:=0) (cs:=aE) (σ':=[aE]) r r r r r<|sV (v:=AV.nil) r<|sI r<|aH (fr':=[(1,.box 0 0)]) r r<|aU<|aK<|aT r (dJ (us:=aE) xB r r r r) ?_
 obtain ⟨x1,hx1,h2⟩:=aG h
 refine lM (bC (v:=aB) r (aAx hx1) ⟨(bO r ⟨r,r,r,r,r,r,r,r,r,r,r,r,r,r,r,r,r,r,r,r,r,r,r,r,r,r,r,trivial⟩),trivial⟩ r r r)<|aT r (fH r)<|aH (fr':=[(1,.box 0 0),(13,aB)]) r r<|cV h2 r (fun hb3 h3=>?_) (fun hb3 h3=>?_)
 ·
  refine aK<|sV (v:=AV.nil) r<|sI r<|aH (fr':=[(2,AV.nil),(3,aI)]) r r<|bI<|aN ?_
  obtain rfl:=sy h3
  exact bH (rs':=[.tmp 2,.tmp 3]) r<|bP (v:=AV.nil) r<|bP (v:=aI) r<|bG<|aQ [1000000] r r r (rN r ⟨(aB4 r),lr,trivial⟩) aF
 ·
  refine bJ<|cM<|aK<|aT r (bD wS r)<|aT r (aJ (v:=aI) fY r r r) ?_
  obtain ⟨x5,hx5,h6⟩:=aG h3
  refine lM (bC (v:=aO) r (eS hx5) ⟨aPC,lr,trivial⟩ r r r)<|sV (v:=aO) r<|aH (fr':=[(1,.box 0 0),(4,aO)]) r r<|aK<|mV (v:=aO) r<|aT r (bD aF8 r)<|aT r (aJ (v:=aI) fY r r r) ?_
  obtain ⟨x7,hx7,h8⟩:=aG h6
  refine lM (bC (v:=aO) r (eS hx7) ⟨lr,lr,trivial⟩ r r r)<|sV (v:=aO) r<|aH (fr':=[(1,.box 0 0),(4,aO)]) r r<|aU<|aK<|aT r (bD aDH r)<|aT r (aJ (v:=aS) nE r r r)<|aT r (bD aDI r)<|aT r (aJ (v:=aS) nE r r r)<|aT r (bD aCj r)<|aT r (aJ (v:=aS) nE r r r)<|aT r (bD yC r) ?_
  refine aT r (aJ (v:=aS) nE r r r)<|xX (row:=gL) (xs:=([p0q.Workflow,p0q.Run,p0q.ID,p0q.Name]:List (List UInt8))) (rows:=[[_],[_],[_],[_]]) (σ':=[aE]) [0] aAe r r r (gX r (gX r (gX r (gX r pX)))) r r<|aT r (gN yQ (tW r))<|mI r<|aH (fr':=[(1,.box 0 0),(4,aO),(29,aO),(30,aI),(31,aI)]) r r ?_
  obtain ⟨x9,hx9,h10⟩:=aG h8
  refine gZ mO (fun j11=>x9=j11) (fun (j11:(List UInt8))=>([(1,.box 0 0),(4,AV.os 0 1 gA j11)]:Fr)) (fun (j11:(List UInt8))=>([[ci p0q.Kind,ci p0q.Time,.c (.str p0q.Workflow),.c (.str p0q.Run),.c (.str p0q.ID),.c (.str p0q.Name),ci p0q.Token,ci p0q.Event,ci p0q.Seq,ci p0q.N,ci p0q.Data.Kind,ci p0q.Data.Int,.c (.str p0q.Data.Text),.c (PV.ls 5 bM p0q.Data.Items),.c (PV.ls 1 gL p0q.Data.Keys),.c (.str p0q.Opts.Queue),ci p0q.Opts.ToStart,ci p0q.Opts.ToClose,ci p0q.Opts.Total,ci p0q.Opts.Beat,ci p0q.Opts.First,ci p0q.Opts.Coef,ci p0q.Opts.Most,ci p0q.Opts.Attempts,.c (PV.ls 1 gL p0q.Opts.Fatal),.c (PV.ls 20 cH p0q.Commands),.c (.str p0q.Parent)]]:St)) ?_ ?_
  ·
   refine bZ<|gU _ (fun (s12:((List UInt8) × Int))=>([(1,.box 0 0),(4,AV.os 0 1 gA s12.1),(29,AV.os 1 1 gL ([p0q.Workflow,p0q.Run,p0q.ID,p0q.Name]:List (List UInt8))),(30,ci ((([p0q.Workflow,p0q.Run,p0q.ID,p0q.Name]:List (List UInt8))).length:Int)),(31,ci s12.2)]:Fr)) (fun (s12:((List UInt8) × Int))=>([[ci p0q.Kind,ci p0q.Time,.c (.str p0q.Workflow),.c (.str p0q.Run),.c (.str p0q.ID),.c (.str p0q.Name),ci p0q.Token,ci p0q.Event,ci p0q.Seq,ci p0q.N,ci p0q.Data.Kind,ci p0q.Data.Int,.c (.str p0q.Data.Text),.c (PV.ls 5 bM p0q.Data.Items),.c (PV.ls 1 gL p0q.Data.Keys),.c (.str p0q.Opts.Queue),ci p0q.Opts.ToStart,ci p0q.Opts.ToClose,ci p0q.Opts.Total,ci p0q.Opts.Beat,ci p0q.Opts.First,ci p0q.Opts.Coef,ci p0q.Opts.Most,ci p0q.Opts.Attempts,.c (PV.ls 1 gL p0q.Opts.Fatal),.c (PV.ls 20 cH p0q.Commands),.c (.str p0q.Parent)]]:St)) hx9 (bT [320,464] 1 r r r r ⟨lr,lr,lr,lr,lr,trivial⟩ (cZ r aF)) ?_
   intro s12 st12 hs12 ho12
   unfold oI at hs12
   refine aK<|aT r (fM r r)<|aH (fr':=[(1,.box 0 0),(4,aO),(29,aO),(30,aI),(31,aI),(32,aB)]) r r<|aU<|cV hs12 r (fun hb13 h13=>?_) (fun hb13 h13=>?_)
   ·
    refine bJ<|cM<|aU<|bZ<|aU<|aX ?_
    obtain ⟨x14,hx14,h15⟩:=aG h13
    refine aT r (oV (cs:=[PV.str _]) aAe (tW r) r hx14 r)<|aT r (jW (p:=PV.str _) nE r r)<|sS r<|aH (fr':=[(1,.box 0 0),(4,aO),(6,aS),(29,aO),(30,aI),(31,aI)]) r r<|aX<|mV (v:=aO) r<|mS r ?_
    obtain ⟨x16,hx16,h17⟩:=aG h15
    exact lM (bC (v:=aO) r (kI hx16) ⟨lr,lr,trivial⟩ r r r)<|sV (v:=aO) r<|dT (fr':=[(1,.box 0 0),(4,aO),(6,aS),(29,aO),(30,aI),(31,aI)]) r<|dH<|cM<|aX<|aT r (fL r r)<|mI r<|dT (fr':=[(1,.box 0 0),(4,aO),(6,aS),(29,aO),(30,aI),(31,aI)]) r<|e_l _ (sy h17) (bT [592,1] 1 r r r r ⟨lr,lr,lr,lr,lr,trivial⟩ (cZ r aF))
   ·
    refine hH<|cX<|cX<|fU ?_
    have h18:=eY h13 ho12
    exact pG _ (sy h18) (bT [0] 1 r r r r ⟨lr,lr,trivial⟩ (cZ r aF))
  ·
   intro j11 hj19
   subst hj19
   refine cM<|aU<|aK<|aT r (bD aDJ r)<|aT r (aJ (v:=aI) fY r r r)<|aT r (bD aDK r)<|aT r (aJ (v:=aI) fY r r r)<|aT r (bD aDL r)<|aT r (aJ (v:=aI) fY r r r)<|aT r (bD sC r)<|aT r (aJ (v:=aI) fY r r r)<|xX (row:=(aOw .i64)) (xs:=([p0q.Token,p0q.Event,p0q.Seq,p0q.N]:List Int)) (rows:=[[_],[_],[_],[_]]) (σ':=[aE]) [0] aOP r r r (gX r (gX r (gX r (gX r pX)))) r r ?_
   refine aT r (gN aQM (tW r))<|mI r<|aH (fr':=[(1,.box 0 0),(4,aO),(47,aO),(48,aI),(49,aI)]) r r ?_
   obtain ⟨x20,hx20,h21⟩:=aG h10
   refine gZ mO (fun j22=>x20=j22) (fun (j22:(List UInt8))=>([(1,.box 0 0),(4,AV.os 0 1 gA j22)]:Fr)) (fun (j22:(List UInt8))=>([[ci p0q.Kind,ci p0q.Time,.c (.str p0q.Workflow),.c (.str p0q.Run),.c (.str p0q.ID),.c (.str p0q.Name),ci p0q.Token,ci p0q.Event,ci p0q.Seq,ci p0q.N,ci p0q.Data.Kind,ci p0q.Data.Int,.c (.str p0q.Data.Text),.c (PV.ls 5 bM p0q.Data.Items),.c (PV.ls 1 gL p0q.Data.Keys),.c (.str p0q.Opts.Queue),ci p0q.Opts.ToStart,ci p0q.Opts.ToClose,ci p0q.Opts.Total,ci p0q.Opts.Beat,ci p0q.Opts.First,ci p0q.Opts.Coef,ci p0q.Opts.Most,ci p0q.Opts.Attempts,.c (PV.ls 1 gL p0q.Opts.Fatal),.c (PV.ls 20 cH p0q.Commands),.c (.str p0q.Parent)]]:St)) ?_ ?_
   ·
    refine bZ<|gU _ (fun (s23:((List UInt8) × Int))=>([(1,.box 0 0),(4,AV.os 0 1 gA s23.1),(47,AV.os 1 1 (aOw .i64) ([p0q.Token,p0q.Event,p0q.Seq,p0q.N]:List Int)),(48,ci ((([p0q.Token,p0q.Event,p0q.Seq,p0q.N]:List Int)).length:Int)),(49,ci s23.2)]:Fr)) (fun (s23:((List UInt8) × Int))=>([[ci p0q.Kind,ci p0q.Time,.c (.str p0q.Workflow),.c (.str p0q.Run),.c (.str p0q.ID),.c (.str p0q.Name),ci p0q.Token,ci p0q.Event,ci p0q.Seq,ci p0q.N,ci p0q.Data.Kind,ci p0q.Data.Int,.c (.str p0q.Data.Text),.c (PV.ls 5 bM p0q.Data.Items),.c (PV.ls 1 gL p0q.Data.Keys),.c (.str p0q.Opts.Queue),ci p0q.Opts.ToStart,ci p0q.Opts.ToClose,ci p0q.Opts.Total,ci p0q.Opts.Beat,ci p0q.Opts.First,ci p0q.Opts.Coef,ci p0q.Opts.Most,ci p0q.Opts.Attempts,.c (PV.ls 1 gL p0q.Opts.Fatal),.c (PV.ls 20 cH p0q.Commands),.c (.str p0q.Parent)]]:St)) hx20 (bT [0,752] 1 r r r r ⟨lr,lr,lr,lr,lr,trivial⟩ (cZ r aF)) ?_
    intro s23 st23 hs23 ho23
    unfold oJ at hs23
    refine aK<|aT r (fM r r)<|aH (fr':=[(1,.box 0 0),(4,aO),(47,aO),(48,aI),(49,aI),(50,aB)]) r r<|aU<|cV hs23 r (fun hb24 h24=>?_) (fun hb24 h24=>?_)
    ·
     refine bJ<|cM<|aU<|bZ<|aU<|aX ?_
     obtain ⟨x25,hx25,h26⟩:=aG h24
     refine aT r (oV (cs:=[PV.int _ _]) aOP (tW r) r hx25 r)<|aT r (jW (p:=PV.int _ _) fY r r)<|sI r<|aH (fr':=[(1,.box 0 0),(4,aO),(8,aI),(47,aO),(48,aI),(49,aI)]) r r<|aX<|mV (v:=aO) r<|mI r ?_
     obtain ⟨x27,hx27,h28⟩:=aG h26
     exact lM (bC (v:=aO) r (eS hx27) ⟨lr,lr,trivial⟩ r r r)<|sV (v:=aO) r<|dT (fr':=[(1,.box 0 0),(4,aO),(8,aI),(47,aO),(48,aI),(49,aI)]) r<|dH<|cM<|aX<|aT r (fL r r)<|mI r<|dT (fr':=[(1,.box 0 0),(4,aO),(8,aI),(47,aO),(48,aI),(49,aI)]) r<|e_l _ (sy h28) (bT [880,1] 1 r r r r ⟨lr,lr,lr,lr,lr,trivial⟩ (cZ r aF))
    ·
     refine hH<|cX<|cX<|fU ?_
     have h29:=eY h24 ho23
     exact pG _ (sy h29) (bT [0] 1 r r r r ⟨lr,lr,trivial⟩ (cZ r aF))
   ·
    intro j22 hj30
    subst hj30
    refine cM<|aK<|mV (v:=aO) r<|aT r (bD aBA r)<|aT r (dJ (us:=bQ) gV r r r r) ?_
    obtain ⟨x31,hx31,h32⟩:=aG h21
    refine lM (bC (v:=aO) r (aBk hx31) ⟨lr,(bO r ⟨r,r,r,r,r,trivial⟩),trivial⟩ r r r)<|sV (v:=aO) r<|aH (fr':=[(1,.box 0 0),(4,aO)]) r r<|aK<|mV (v:=aO) r<|aT r (bD vL r)<|aT r (aJ (v:=aL) aH4 r r r)<|aT r (gN aGI (eO r)) ?_
    obtain ⟨x33,hx33,h34⟩:=aG h32
    refine lM (bC (v:=aO) r (eS hx33) ⟨lr,lr,trivial⟩ r r r)<|sV (v:=aO) r<|aH (fr':=[(1,.box 0 0),(4,aO)]) r r<|aU<|aK<|aT r (bD vL r)<|aT r (aJ (v:=aL) aH4 r r r)<|aT r (gN aGI (eO r))<|mI r<|aH (fr':=[(1,.box 0 0),(4,aO),(67,aL),(68,aI),(69,aI)]) r r ?_
    obtain ⟨x35,hx35,h36⟩:=aG h34
    refine gZ mO (fun j37=>x35=j37) (fun (j37:(List UInt8))=>([(1,.box 0 0),(4,AV.os 0 1 gA j37)]:Fr)) (fun (j37:(List UInt8))=>([[ci p0q.Kind,ci p0q.Time,.c (.str p0q.Workflow),.c (.str p0q.Run),.c (.str p0q.ID),.c (.str p0q.Name),ci p0q.Token,ci p0q.Event,ci p0q.Seq,ci p0q.N,ci p0q.Data.Kind,ci p0q.Data.Int,.c (.str p0q.Data.Text),.c (PV.ls 5 bM p0q.Data.Items),.c (PV.ls 1 gL p0q.Data.Keys),.c (.str p0q.Opts.Queue),ci p0q.Opts.ToStart,ci p0q.Opts.ToClose,ci p0q.Opts.Total,ci p0q.Opts.Beat,ci p0q.Opts.First,ci p0q.Opts.Coef,ci p0q.Opts.Most,ci p0q.Opts.Attempts,.c (PV.ls 1 gL p0q.Opts.Fatal),.c (PV.ls 20 cH p0q.Commands),.c (.str p0q.Parent)]]:St)) ?_ ?_
    ·
     refine bZ<|gU _ (fun (s38:((List UInt8) × Int))=>([(1,.box 0 0),(4,AV.os 0 1 gA s38.1),(67,.c (PV.ls 20 cH p0q.Commands)),(68,ci ((p0q.Commands).length:Int)),(69,ci s38.2)]:Fr)) (fun (s38:((List UInt8) × Int))=>([[ci p0q.Kind,ci p0q.Time,.c (.str p0q.Workflow),.c (.str p0q.Run),.c (.str p0q.ID),.c (.str p0q.Name),ci p0q.Token,ci p0q.Event,ci p0q.Seq,ci p0q.N,ci p0q.Data.Kind,ci p0q.Data.Int,.c (.str p0q.Data.Text),.c (PV.ls 5 bM p0q.Data.Items),.c (PV.ls 1 gL p0q.Data.Keys),.c (.str p0q.Opts.Queue),ci p0q.Opts.ToStart,ci p0q.Opts.ToClose,ci p0q.Opts.Total,ci p0q.Opts.Beat,ci p0q.Opts.First,ci p0q.Opts.Coef,ci p0q.Opts.Most,ci p0q.Opts.Attempts,.c (PV.ls 1 gL p0q.Opts.Fatal),.c (PV.ls 20 cH p0q.Commands),.c (.str p0q.Parent)]]:St)) hx35 (bT [1040] 1 r r r r ⟨lr,lr,lr,lr,lr,trivial⟩ (cZ r aF)) ?_
     intro s38 st38 hs38 ho38
     unfold oK at hs38
     refine aK<|aT r (fM r r)<|aH (fr':=[(1,.box 0 0),(4,aO),(67,aL),(68,aI),(69,aI),(70,aB)]) r r<|aU<|cV hs38 r (fun hb39 h39=>?_) (fun hb39 h39=>?_)
     ·
      refine bJ<|cM<|aU<|bZ<|aU<|aX ?_
      obtain ⟨x40,hx40,h41⟩:=aG h39
      refine aT r (oV (cs:=[PV.int _ _,PV.int _ _,PV.str _,PV.str _,PV.int _ _,PV.int _ _,PV.int _ _,PV.str _,PV.ls _ _ _,PV.ls _ _ _,PV.str _,PV.int _ _,PV.int _ _,PV.int _ _,PV.int _ _,PV.int _ _,PV.int _ _,PV.int _ _,PV.int _ _,PV.ls _ _ _]) aMr (eO r) r hx40 r)<|aT r (lW (us:=[PV.int _ _,PV.int _ _,PV.str _,PV.str _,PV.int _ _,PV.int _ _,PV.int _ _,PV.str _,PV.ls _ _ _,PV.ls _ _ _,PV.str _,PV.int _ _,PV.int _ _,PV.int _ _,PV.int _ _,PV.int _ _,PV.int _ _,PV.int _ _,PV.int _ _,PV.ls _ _ _]) vA r r r)<|iG (n:=1) (cs:=aV) (σ':=[aE,aV]) aLp r r r<|bU (v:=.agg aW) (us:=aW) (cs:=aV) (σ':=[aE,aW]) r vA r r r r r r r r<|aH (fr':=[(1,.box 0 0),(4,aO),(10,.box 1 0),(67,aL),(68,aI),(69,aI)]) r r<|aX<|mV (v:=aO) r<|aT r (dJ (us:=aW) vA r r r r) ?_
      obtain ⟨x42,hx42,h43⟩:=aG h41
      exact lM (bC (v:=aO) r (aDP hx42) ⟨lr,(bO r ⟨r,r,r,r,r,r,r,r,r,r,r,r,r,r,r,r,r,r,r,r,trivial⟩),trivial⟩ r r r)<|sV (v:=aO) r<|dT (fr':=[(1,.box 0 0),(4,aO),(10,.box 1 0),(67,aL),(68,aI),(69,aI)]) r<|dH<|cM<|aX<|aT r (fL r r)<|mI r<|dT (fr':=[(1,.box 0 0),(4,aO),(10,.box 1 0),(67,aL),(68,aI),(69,aI)]) r<|e_l _ (sy h43) (bT [1200] 1 r r r r ⟨lr,lr,lr,lr,lr,trivial⟩ (cZ r aF))
     ·
      refine hH<|cX<|cX<|fU ?_
      have h44:=eY h39 ho38
      exact pG _ (sy h44) (bT [0] 1 r r r r ⟨lr,lr,trivial⟩ (cZ r aF))
    ·
     intro j37 hj45
     subst hj45
     refine cM<|aK<|mV (v:=aO) r<|aT r (bD aBB r)<|aT r (aJ (v:=aS) nE r r r) ?_
     obtain ⟨x46,hx46,h47⟩:=aG h36
     refine lM (bC (v:=aO) r (kI hx46) ⟨lr,lr,trivial⟩ r r r)<|sV (v:=aO) r<|aH (fr':=[(4,aO)]) r r<|aU<|aK<|mV (v:=aO) r<|aT r (gN aGH (tW r))<|aT r (sJ r r)<|aH (fr':=[(4,aO),(83,aB)]) r r<|cV h47 r (fun hb48 h48=>?_) (fun hb48 h48=>?_)
     ·
      refine aK<|sV (v:=AV.nil) r<|sI r<|aH (fr':=[(2,AV.nil),(3,aI)]) r r<|bI<|aN ?_
      obtain rfl:=sy h48
      exact bH (rs':=[.tmp 2,.tmp 3]) r<|bP (v:=AV.nil) r<|bP (v:=aI) r<|bG<|aQ [1000000] r r r (rN r ⟨(aB4 r),lr,trivial⟩) aF
     ·
      refine bJ<|cM<|aK<|mV (v:=aO) r<|sV (v:=aO) r<|sI r<|aH (fr':=[(2,aO),(3,aI)]) r r<|bI ?_
      obtain rfl:=sy h48
      exact bH (rs':=[.tmp 2,.tmp 3]) r<|bP (v:=aO) r<|bP (v:=aI) r<|bG<|aQ [1280] r r r (rN r ⟨lr,lr,trivial⟩) aF
noncomputable def fN (bV:aD):Option (Int × aD) :=
 (cW (-9223372036854775808:Int) (9223372036854775807:Int) bV).bind fun x1=>some (x1.1,x1.2)
theorem jR {bV:aD}{res:(Int × aD)} (h:fN bV=some res):cC Tryz.prog 92 [.box 0 0] [AV.cs (cL bV)] (ci res.1) [AV.cs (cL res.2)]:=by
 unfold fN at h
 refine cY (fn:=Tryz.f92) [0,2] (by kernel_rfl) Tryz.func92 r (by kernel_rfl) (by kernel_rfl)<|aK<|sI r<|aH (fr':=[(0,.box 0 0)]) r r<|aK<|mV (v:=.box 0 0) r ?_
 obtain ⟨x1,hx1,h2⟩:=aG h
 refine dM (v:=aI) (σ':=[bW]) [0] r (jE hx1) r r ⟨lr,lr,lr,trivial⟩ (eW ⟨r,r,r,r,trivial⟩ aF) r r r<|sI r<|aH (fr':=[(2,aI)]) r r<|bI ?_
 obtain rfl:=sy h2
 exact bH (rs':=[.tmp 2]) r<|bP (v:=aI) r<|bG<|aQ [] r r r lr (eW ⟨r,r,r,r,trivial⟩ aF)
noncomputable def hS (bV:aD):Option ((List UInt8) × aD) :=
 (eC (4096:Int) bV).bind fun x1=>some (x1.1,x1.2)
theorem pF {bV:aD}{res:((List UInt8) × aD)} (h:hS bV=some res):cC Tryz.prog 93 [.box 0 0] [AV.cs (cL bV)] (.c (.str res.1)) [AV.cs (cL res.2)]:=by
 unfold hS at h
 refine cY (fn:=Tryz.f93) [0,2] (by kernel_rfl) Tryz.func93 r (by kernel_rfl) (by kernel_rfl)<|aK<|sS r<|aH (fr':=[(0,.box 0 0)]) r r<|aK<|mV (v:=.box 0 0) r ?_
 obtain ⟨x1,hx1,h2⟩:=aG h
 refine dM (v:=aS) (σ':=[bW]) [0] r (iR hx1) r r ⟨lr,lr,trivial⟩ (eW ⟨r,r,r,r,trivial⟩ aF) r r r<|sS r<|aH (fr':=[(2,aS)]) r r<|bI ?_
 obtain rfl:=sy h2
 exact bH (rs':=[.tmp 2]) r<|bP (v:=aS) r<|bG<|aQ [] r r r lr (eW ⟨r,r,r,r,trivial⟩ aF)
noncomputable def iX (bV:aD):Option (aP × aD) :=
 (dZ bV).bind fun x1=>(dZ x1.2).bind fun x3=>(eC (4096:Int) x3.2).bind fun x5=>(eC (4096:Int) x5.2).bind fun x7=>(dZ x7.2).bind fun x9=>(jZ x9.2).bind fun x11=>(fT x11.2).bind fun x13=>(((dS x13.2).bind fun x18=>(gd ((decide (x18=(0:Int)))==true) (mE (aP.mk x1.1 x3.1 x5.1 x7.1 x9.1 x11.1 x13.1))).bind fun x20=>cond (cond (decide (x18=(0:Int))) (!x20) false) ((fE (3:Int) x13.2).bind fun x23=>some x23) (some x13.2)):Option aD).bind fun x15=>((dS x15).bind fun x26=>cond (!decide (x26=(0:Int))) (some ((aP.mk (0:Int) (0:Int) ([]:List UInt8) ([]:List UInt8) (0:Int) (aC.mk (0:Int) (0:Int) ([]:List UInt8) ([]:(List aC)) ([]:(List (List UInt8)))) (bL.mk ([]:List UInt8) (0:Int) (0:Int) (0:Int) (0:Int) (0:Int) (0:Int) (0:Int) (0:Int) ([]:(List (List UInt8))))),x15)) (some ((aP.mk x1.1 x3.1 x5.1 x7.1 x9.1 x11.1 x13.1),x15)))
theorem aDO {bV:aD}{res:(aP × aD)} (h:iX bV=some res):cC Tryz.prog 95 [.box 0 0] [AV.cs (cL bV)] (.agg (AV.cs (cH res.1))) [AV.cs (cL res.2)]:=by
 unfold iX at h
 refine cY (fn:=Tryz.f95) [0,2,3,32,37] (by kernel_rfl) Tryz.func95 r (by kernel_rfl) (by kernel_rfl)<|aK<|iG (n:=1) (cs:=aV) (σ':=[bW,aV]) aLp r r r<|aH (fr':=[(0,.box 0 0),(2,.box 1 0)]) r r<|aK<|iG (n:=2) (cs:=aV) (σ':=[bW,aV,aV]) aLp r r r<|aH (fr':=[(0,.box 0 0),(2,.box 1 0),(3,.box 2 0)]) r r<|aK<|mV (v:=.box 0 0) r ?_
 obtain ⟨x1,hx1,h2⟩:=aG h
 refine dM (v:=aI) (σ':=[bW,aV,aV]) [0] r (fG hx1) r r ⟨lr,trivial⟩ (eW ⟨r,r,r,r,trivial⟩ aF) r r r<|mV (v:=.box 0 0) r ?_
 obtain ⟨x3,hx3,h4⟩:=aG h2
 refine dM (v:=aI) (σ':=[bW,aV,aV]) [0] r (fG hx3) r r ⟨lr,trivial⟩ (eW ⟨r,r,r,r,trivial⟩ aF) r r r<|aT r (bD vJ r)<|bU (v:=aI) (us:=[aI]) (cs:=aV) (σ':=[bW,aV,aV]) r fY r r r r r r r r<|aT r (bD aBy r)<|bU (v:=aI) (us:=[aI]) (cs:=aV) (σ':=[bW,aV,aV]) r fY r r r r r r r r<|aH (fr':=[(0,.box 0 0),(2,.box 1 0),(3,.box 2 0)]) r r<|aK<|mV (v:=.box 0 0) r ?_
 obtain ⟨x5,hx5,h6⟩:=aG h4
 refine dM (v:=aS) (σ':=[bW,aV,aV]) [0] r (iR hx5) r r ⟨lr,lr,trivial⟩ (eW ⟨r,r,r,r,trivial⟩ aF) r r r<|mV (v:=.box 0 0) r ?_
 obtain ⟨x7,hx7,h8⟩:=aG h6
 refine dM (v:=aS) (σ':=[bW,aV,aV]) [0] r (iR hx7) r r ⟨lr,lr,trivial⟩ (eW ⟨r,r,r,r,trivial⟩ aF) r r r<|aT r (bD aAb r)<|bU (v:=aS) (us:=[aS]) (cs:=aV) (σ':=[bW,aV,aV]) r nE r r r r r r r r<|aT r (bD aBz r)<|bU (v:=aS) (us:=[aS]) (cs:=aV) (σ':=[bW,aV,aV]) r nE r r r r r r r r<|aH (fr':=[(0,.box 0 0),(2,.box 1 0),(3,.box 2 0)]) r r<|aK<|mV (v:=.box 0 0) r ?_
 obtain ⟨x9,hx9,h10⟩:=aG h8
 refine dM (v:=aI) (σ':=[bW,aV,aV]) [0] r (fG hx9) r r ⟨lr,trivial⟩ (eW ⟨r,r,r,r,trivial⟩ aF) r r r<|aT r (bD tN r)<|bU (v:=aI) (us:=[aI]) (cs:=aV) (σ':=[bW,aV,aV]) r fY r r r r r r r r<|aH (fr':=[(0,.box 0 0),(2,.box 1 0),(3,.box 2 0)]) r r<|aK<|mV (v:=.box 0 0) r ?_
 obtain ⟨x11,hx11,h12⟩:=aG h10
 refine dM (v:=.agg bQ) (σ':=[bW,aV,aV]) [0] r (aBj hx11) r r ⟨lr,trivial⟩ (eW ⟨r,r,r,r,trivial⟩ aF) r r r<|aT r (bD vK r)<|bU (v:=.agg bQ) (us:=bQ) (cs:=aV) (σ':=[bW,aV,nX]) r gV r r r r r r r r<|aH (fr':=[(0,.box 0 0),(2,.box 1 0),(3,.box 2 0)]) r r<|aK<|mV (v:=.box 0 0) r ?_
 obtain ⟨x13,hx13,h14⟩:=aG h12
 refine dM (v:=.agg cI) (σ':=[bW,aV,nX]) [0] r (aAm hx13) r r ⟨lr,trivial⟩ (eW ⟨r,r,r,r,trivial⟩ aF) r r r<|aT r (bD aAc r)<|bU (v:=.agg cI) (us:=cI) (cs:=nX) (σ':=[bW,aV,aW]) r aBF r r r r r r r r<|aH (fr':=[(0,.box 0 0),(2,.box 1 0),(3,.box 2 0)]) r r ?_
 obtain ⟨x15,hx15,h16⟩:=aG h14
 refine nB (fun j17=>x15=j17) (fun (j17:aD)=>([(0,.box 0 0),(2,.box 1 0),(3,.box 2 0)]:Fr)) (fun (j17:aD)=>([[.c (PV.ls 1 gA j17.b_),ci j17.at_,ci j17.err_,.c (.bool j17.made_)],[ci 0,ci 0,.c (.str ([]:List UInt8)),.c (.str ([]:List UInt8)),ci 0,ci 0,ci 0,.c (.str ([]:List UInt8)),AV.nil,AV.nil,.c (.str ([]:List UInt8)),ci 0,ci 0,ci 0,ci 0,ci 0,ci 0,ci 0,ci 0,AV.nil],[ci x1.1,ci x3.1,.c (.str x5.1),.c (.str x7.1),ci x9.1,ci x11.1.Kind,ci x11.1.Int,.c (.str x11.1.Text),.c (PV.ls 5 bM x11.1.Items),.c (PV.ls 1 gL x11.1.Keys),.c (.str x13.1.Queue),ci x13.1.ToStart,ci x13.1.ToClose,ci x13.1.Total,ci x13.1.Beat,ci x13.1.First,ci x13.1.Coef,ci x13.1.Most,ci x13.1.Attempts,.c (PV.ls 1 gL x13.1.Fatal)]]:St)) ?_ ?_
 ·
  refine aK<|mV (v:=.box 0 0) r ?_
  obtain ⟨x18,hx18,h19⟩:=aG hx15
  refine dM (v:=aI) (σ':=[bW,aV,aW]) [0] r (eV hx18) r r ⟨lr,trivial⟩ (eW ⟨r,r,r,r,trivial⟩ aF) r r r<|aT r (dG r r)<|mB r<|og r r r (fun hc=>(dJ (us:=aW) vA r r r r)) ?_
  obtain ⟨x20,hx20,h21⟩:=aG h19
  refine yS r r (fun hc=>bC (v:=aB) r (uW (dW hx20 hc)) ⟨(fK (gx r hc) (bO r ⟨r,r,r,r,r,r,r,r,r,r,r,r,r,r,r,r,r,r,r,r,trivial⟩)),trivial⟩ (gJ (by repeat (first | exact fF | refine aZ r ?_ | refine aZ (uH r) ?_ | refine aZ uG ?_))) r r) ?_
  refine og r r r (fun hc=>(fH (gx r hc)))<|aT r (cE r r r (fun e=>fW e))<|aH (fr':=[(0,.box 0 0),(2,.box 1 0),(3,.box 2 0),(32,aB)]) r r<|cV h21 r (fun hb22 h22=>?_) (fun hb22 h22=>?_)
  ·
   refine aX<|mV (v:=.box 0 0) r ?_
   obtain ⟨x23,hx23,h24⟩:=aG h22
   exact dM (v:=_) (σ':=[bW,aV,aW]) [0] r (lI hx23) r r ⟨lr,lr,trivial⟩ (eW ⟨r,r,r,r,trivial⟩ aF) r r r<|dT (fr':=[(0,.box 0 0),(2,.box 1 0),(3,.box 2 0),(32,aB)]) r<|pG _ (sy h24) (bT [] 3 r r r r ⟨lr,lr,lr,trivial⟩ (cZ r (cZ r (cZ r aF))))
  ·
   exact bJ<|pG _ (sy h22) (bT [] 3 r r r r ⟨lr,lr,lr,trivial⟩ (cZ r (cZ r (cZ r aF))))
 ·
  intro j17 hj25
  subst hj25
  refine aU<|aK<|mV (v:=.box 0 0) r ?_
  obtain ⟨x26,hx26,h27⟩:=aG h16
  refine dM (v:=aI) (σ':=[bW,aV,aW]) [0] r (eV hx26) r r ⟨lr,trivial⟩ (eW ⟨r,r,r,r,trivial⟩ aF) r r r<|aT r (gQ r r)<|aH (fr':=[(2,.box 1 0),(3,.box 2 0),(37,aB)]) r r<|cV h27 r (fun hb28 h28=>?_) (fun hb28 h28=>?_)
  ·
   refine aK<|aT r (iA (c0:=aV) (cs:=aV) aQG r hZ)<|bU (v:=.agg aV) (us:=aV) (cs:=aV) (σ':=[bW,aV,aW]) r vA r r r r r r r r<|aH (fr':=[(2,.box 1 0)]) r r<|bI<|aN ?_
   obtain rfl:=sy h28
   exact bH (rs':=[.cell 2 103]) r<|fA (us:=aV) (cs:=aV) vA r r r r<|bG<|aQ [] r r r (bO r ⟨r,r,r,r,r,r,r,r,⟨_,r⟩,⟨_,r⟩,r,r,r,r,r,r,r,r,r,⟨_,r⟩,trivial⟩) (eW ⟨r,r,r,r,trivial⟩ aF)
  ·
   refine bJ<|cM<|aK<|aT r (dJ (us:=aW) vA r r r r)<|bU (v:=.agg aW) (us:=aW) (cs:=aV) (σ':=[bW,aW,aW]) r vA r r r r r r r r<|aH (fr':=[(2,.box 1 0)]) r r<|bI ?_
   obtain rfl:=sy h28
   exact bH (rs':=[.cell 2 103]) r<|fA (us:=aW) (cs:=aW) vA r r r r<|bG<|aQ [] r r r (bO r ⟨r,r,r,r,r,r,r,r,r,r,r,r,r,r,r,r,r,r,r,r,trivial⟩) (eW ⟨r,r,r,r,trivial⟩ aF)
noncomputable def bF (x1:(Int × aD)) (s17:((List aP) × Int × aD)):Option (bS ((List aP) × Int × aD) ((List aP) × aD)) :=
 ((cond (decide (s17.2.1<x1.1)) ((dS s17.2.2).bind fun x22=>cond (decide (x22=(0:Int))) (some (Fl.go ())) (some (Fl.done (bS.out (s17.1,s17.2.2))))) (some (Fl.done (bS.out (s17.1,s17.2.2))))):Option (Fl (bS ((List aP) × Int × aD) ((List aP) × aD)) Unit)).bind fun x18=>Fl.next x18 (fun j20=>((iX s17.2.2).bind fun x30=>(app 240 s17.1 ([x30.1]:List aP)).bind fun x32=>some (bS.next (x32,(IntKind.wrap .i64 (s17.2.1+(1:Int))),x30.2))))
noncomputable def cJ (sW:Int) (bV:aD):Option ((List aP) × aD) :=
 (fN bV).bind fun x1=>(((dS x1.2).bind fun x6=>(gd ((decide (x6=(0:Int)))==true) (jP x1.1 (0:Int) sW)).bind fun x8=>cond (cond (decide (x6=(0:Int))) (!x8) false) ((fE (3:Int) x1.2).bind fun x11=>some x11) (some x1.2)):Option aD).bind fun x3=>(((dL (bF x1) ((([]:(List aP)),(0:Int),x3))):Option ((List aP) × aD)).bind fun x14=>(some (x14.1,x14.2)))
theorem nC {sW:Int}{bV:aD}{res:((List aP) × aD)} (h:cJ sW bV=some res):cC Tryz.prog 94 [.box 0 0,ci sW,.fn 95 []] [AV.cs (cL bV)] (AV.os 0 20 cH res.1) [AV.cs (cL res.2)]:=by
 unfold cJ at h
 refine cY (fn:=Tryz.f94) [0,1,2,6,7,8,9,20,30] (by kernel_rfl) Tryz.func94 r (by kernel_rfl) (by kernel_rfl)<|aK<|sV (v:=AV.nil) r<|aH (fr':=[(0,.box 0 0),(1,aI),(2,.fn _ [])]) r r<|aK<|mV (v:=.box 0 0) r ?_
 obtain ⟨x1,hx1,h2⟩:=aG h
 refine dM (v:=aI) (σ':=[bW]) [0] r (jR hx1) r r ⟨lr,trivial⟩ (eW ⟨r,r,r,r,trivial⟩ aF) r r r<|sI r<|aH (fr':=[(0,.box 0 0),(1,aI),(2,.fn _ []),(7,aI)]) r r ?_
 obtain ⟨x3,hx3,h4⟩:=aG h2
 refine nB (fun j5=>x3=j5) (fun (j5:aD)=>([(0,.box 0 0),(2,.fn 95 []),(7,ci x1.1)]:Fr)) (fun (j5:aD)=>([[.c (PV.ls 1 gA j5.b_),ci j5.at_,ci j5.err_,.c (.bool j5.made_)]]:St)) ?_ ?_
 ·
  refine aK<|mV (v:=.box 0 0) r ?_
  obtain ⟨x6,hx6,h7⟩:=aG hx3
  refine dM (v:=aI) (σ':=[bW]) [0] r (eV hx6) r r ⟨lr,trivial⟩ (eW ⟨r,r,r,r,trivial⟩ aF) r r r<|aT r (dG r r)<|mB r<|og r r r (fun hc=>(bA (v:=aI) r))<|og r r r (fun hc=>(bA (v:=aI) r)) ?_
  obtain ⟨x8,hx8,h9⟩:=aG h7
  refine yS r r (fun hc=>bC (v:=aB) r (lA (dW hx8 hc)) ⟨(fK (gx r hc) lr),lr,(fK (gx r hc) lr),trivial⟩ (gJ (by repeat (first | exact fF | refine aZ r ?_ | refine aZ (uH r) ?_ | refine aZ uG ?_))) r r) ?_
  refine og r r r (fun hc=>(fH (gx r hc)))<|aT r (cE r r r (fun e=>fW e))<|aH (fr':=[(0,.box 0 0),(2,.fn _ []),(7,aI),(20,aB)]) r r<|cV h9 r (fun hb10 h10=>?_) (fun hb10 h10=>?_)
  ·
   refine aX<|mV (v:=.box 0 0) r ?_
   obtain ⟨x11,hx11,h12⟩:=aG h10
   exact dM (v:=_) (σ':=[bW]) [0] r (lI hx11) r r ⟨lr,lr,trivial⟩ (eW ⟨r,r,r,r,trivial⟩ aF) r r r<|dT (fr':=[(0,.box 0 0),(2,.fn _ []),(7,aI),(20,aB)]) r<|pG _ (sy h12) (bT [] 1 r r r r ⟨lr,lr,lr,trivial⟩ (cZ r aF))
  ·
   exact bJ<|pG _ (sy h10) (bT [] 1 r r r r ⟨lr,lr,lr,trivial⟩ (cZ r aF))
 ·
  intro j5 hj13
  subst hj13
  refine aK<|sV (v:=AV.nil) r<|aH (fr':=[(0,.box 0 0),(2,.fn _ []),(7,aI),(8,AV.nil)]) r r<|aU<|aK<|sI r<|aH (fr':=[(0,.box 0 0),(2,.fn _ []),(7,aI),(8,AV.nil),(9,aI)]) r r ?_
  obtain ⟨x14,hx14,h15⟩:=aG h4
  refine gZ mO (fun j16=>x14=j16) (fun (j16:((List aP) × aD))=>([(8,AV.os 0 20 cH j16.1)]:Fr)) (fun (j16:((List aP) × aD))=>([[.c (PV.ls 1 gA j16.2.b_),ci j16.2.at_,ci j16.2.err_,.c (.bool j16.2.made_)]]:St)) ?_ ?_
  ·
   refine bZ<|gU _ (fun (s17:((List aP) × Int × aD))=>([(0,.box 0 0),(2,.fn 95 []),(7,ci x1.1),(8,AV.os 0 20 cH s17.1),(9,ci s17.2.1)]:Fr)) (fun (s17:((List aP) × Int × aD))=>([[.c (PV.ls 1 gA s17.2.2.b_),ci s17.2.2.at_,ci s17.2.2.err_,.c (.bool s17.2.2.made_)]]:St)) hx14 (bT [1000000] 1 r r r r ⟨lr,lr,lr,(aB4 r),lr,trivial⟩ (cZ r aF)) ?_
   intro s17 st17 hs17 ho17
   unfold bF at hs17
   obtain ⟨x18,hx18,h19⟩:=aG hs17
   refine nB (fun j20=>x18=Fl.go j20) (fun (j20:Unit)=>([(0,.box 0 0),(2,.fn 95 []),(7,ci x1.1),(8,AV.os 0 20 cH s17.1),(9,ci s17.2.1)]:Fr)) (fun (j20:Unit)=>([[.c (PV.ls 1 gA s17.2.2.b_),ci s17.2.2.at_,ci s17.2.2.err_,.c (.bool s17.2.2.made_)]]:St)) ?_ ?_
   ·
    refine aK<|mI r<|mI r<|aT r (fM r r)<|mB r<|aQx hx18 (fun hb21 h21=>?_) (fun hb21 h21=>?_)
    ·
     refine rO r r hb21<|mV (v:=.box 0 0) r<|rO r r hb21 ?_
     obtain ⟨x22,hx22,h23⟩:=aG h21
     refine dM (v:=aI) (σ':=[bW]) [0] r (eV hx22) r r ⟨lr,trivial⟩ (eW ⟨r,r,r,r,trivial⟩ aF) r r r<|rO r r hb21<|aT r (dG r r)<|aT r (aI3 r hb21 r)<|aH (fr':=[(0,.box 0 0),(2,.fn _ []),(7,aI),(8,aO),(9,aI),(30,aB)]) r r<|cV h23 r (fun hb24 h24=>?_) (fun hb24 h24=>?_)
     ·
      exact bJ<|pG _ (sy h24) (bT [0] 1 r r r r ⟨lr,lr,lr,lr,lr,trivial⟩ (cZ r aF))
     ·
      refine hH<|cX<|cX<|fU ?_
      have h25:=fI h24 h19
      have h26:=eY h25 ho17
      exact pG _ (sy h26) (bT [0] 1 r r r r ⟨lr,trivial⟩ (cZ r aF))
    ·
     refine aL9 r r hb21<|aL9 r r hb21<|aL9 r r hb21<|aT r (aAW r hb21 r)<|aH (fr':=[(0,.box 0 0),(2,.fn _ []),(7,aI),(8,aO),(9,aI),(30,aB)]) r r<|aBh r<|hH<|cX<|cX<|fU ?_
     have h27:=fI h21 h19
     have h28:=eY h27 ho17
     exact pG _ (sy h28) (bT [0] 1 r r r r ⟨lr,trivial⟩ (cZ r aF))
   ·
    intro j20 hj29
    have h29:=nG hj29 h19
    refine aU<|bZ<|aX<|mV (v:=aO) r<|mV (v:=.fn _ []) r<|mV (v:=.box 0 0) r ?_
    obtain ⟨x30,hx30,h31⟩:=aG h29
    refine dM (v:=.agg aW) (σ':=[bW]) [0] r (aDO hx30) r r ⟨lr,trivial⟩ (eW ⟨r,r,r,r,trivial⟩ aF) r r r<|xX (row:=cH) (xs:=([x30.1]:List aP)) (rows:=[[_,_,_,_,_,_,_,_,_,_,_,_,_,_,_,_,_,_,_,_]]) (σ':=[bW]) [0,0,0,0,0,0,0,0,5,1,0,0,0,0,0,0,0,0,0,1] aMr r r r (gX r pX) r r ?_
    obtain ⟨x32,hx32,h33⟩:=aG h31
    exact aFB (row:=cH) aMr r aGI r (tW r) (fun _=>r) hx32<|sV (v:=aO) r<|dT (fr':=[(0,.box 0 0),(2,.fn _ []),(7,aI),(8,aO),(9,aI)]) r<|dH<|cM<|aX<|mI r<|aT r (fL r r)<|sI r<|dT (fr':=[(0,.box 0 0),(2,.fn _ []),(7,aI),(8,aO),(9,aI)]) r<|e_l _ (sy h33) (bT [608] 1 r r r r ⟨lr,lr,lr,lr,lr,trivial⟩ (cZ r aF))
  ·
   intro j16 hj34
   subst hj34
   refine cM<|aK<|mV (v:=aO) r<|sV (v:=aO) r<|aH (fr':=[(6,aO)]) r r<|bI ?_
   obtain rfl:=sy h15
   exact bH (rs':=[.tmp 6]) r<|bP (v:=aO) r<|bG<|aQ [0] r r r lr (eW ⟨r,r,r,r,trivial⟩ aF)
noncomputable def hF (p0b:(List UInt8)):Option (aY × Int) :=
 (rE p0b).bind fun x1=>(fN x1).bind fun x3=>(fN x3.2).bind fun x5=>(hS x5.2).bind fun x7=>(hS x7.2).bind fun x9=>(hS x9.2).bind fun x11=>(hS x11.2).bind fun x13=>(fN x13.2).bind fun x15=>(fN x15.2).bind fun x17=>(fN x17.2).bind fun x19=>(fN x19.2).bind fun x21=>(jZ x21.2).bind fun x23=>(cJ (200:Int) x23.2).bind fun x25=>(hS x25.2).bind fun x27=>(gO x27.2).bind fun x29=>cond (!decide (x29=(0:Int))) (some ((aY.mk (0:Int) (0:Int) ([]:List UInt8) ([]:List UInt8) ([]:List UInt8) ([]:List UInt8) (0:Int) (0:Int) (0:Int) (0:Int) (aC.mk (0:Int) (0:Int) ([]:List UInt8) ([]:(List aC)) ([]:(List (List UInt8)))) (bL.mk ([]:List UInt8) (0:Int) (0:Int) (0:Int) (0:Int) (0:Int) (0:Int) (0:Int) (0:Int) ([]:(List (List UInt8)))) ([]:(List aP)) ([]:List UInt8)),x29)) ((nW (aY.mk x3.1 x5.1 x7.1 x9.1 x11.1 x13.1 x15.1 x17.1 x19.1 x21.1 x23.1 (bL.mk ([]:List UInt8) (0:Int) (0:Int) (0:Int) (0:Int) (0:Int) (0:Int) (0:Int) (0:Int) ([]:(List (List UInt8)))) x25.1 x27.1)).bind fun x33=>cond (!x33) (some ((aY.mk (0:Int) (0:Int) ([]:List UInt8) ([]:List UInt8) ([]:List UInt8) ([]:List UInt8) (0:Int) (0:Int) (0:Int) (0:Int) (aC.mk (0:Int) (0:Int) ([]:List UInt8) ([]:(List aC)) ([]:(List (List UInt8)))) (bL.mk ([]:List UInt8) (0:Int) (0:Int) (0:Int) (0:Int) (0:Int) (0:Int) (0:Int) (0:Int) ([]:(List (List UInt8)))) ([]:(List aP)) ([]:List UInt8)),(3:Int))) (some ((aY.mk x3.1 x5.1 x7.1 x9.1 x11.1 x13.1 x15.1 x17.1 x19.1 x21.1 x23.1 (bL.mk ([]:List UInt8) (0:Int) (0:Int) (0:Int) (0:Int) (0:Int) (0:Int) (0:Int) (0:Int) ([]:(List (List UInt8)))) x25.1 x27.1),(0:Int))))
theorem tE {p0b:(List UInt8)}{res:(aY × Int)} (h:hF p0b=some res):cC Tryz.prog 37 [.c (PV.ls 1 gA p0b)] [] (.tup [.agg (AV.cs (fX res.1)),ci res.2]) []:=by
 unfold hF at h
 refine cY (fn:=Tryz.f37) [0,2,3,4,5,6,51,56] (by kernel_rfl) Tryz.func37 r (by kernel_rfl) (by kernel_rfl)<|aK<|iG (n:=0) (cs:=aA) (σ':=[aA]) aKJ r r r<|sI r<|aH (fr':=[(0,aL),(2,.box 0 0)]) r r<|aK<|mL r ?_
 obtain ⟨x1,hx1,h2⟩:=aG h
 refine dM (v:=.box 1 0) (σ':=[aA,bW]) [] r (aJF hx1) r r ⟨lr,trivial⟩ aF r r r<|sV (v:=.box 1 0) r<|aH (fr':=[(2,.box 0 0),(4,.box 1 0)]) r r<|aK<|iG (n:=2) (cs:=aA) (σ':=[aA,bW,aA]) aKJ r r r<|aH (fr':=[(2,.box 0 0),(4,.box 1 0),(5,.box 2 0)]) r r<|aK<|mV (v:=.box 1 0) r ?_
 obtain ⟨x3,hx3,h4⟩:=aG h2
 refine dM (v:=aI) (σ':=[aA,bW,aA]) [1] r (jR hx3) r r ⟨lr,trivial⟩ (eW ⟨r,r,r,r,trivial⟩ aF) r r r<|mV (v:=.box 1 0) r ?_
 obtain ⟨x5,hx5,h6⟩:=aG h4
 refine dM (v:=aI) (σ':=[aA,bW,aA]) [1] r (jR hx5) r r ⟨lr,trivial⟩ (eW ⟨r,r,r,r,trivial⟩ aF) r r r<|aT r (bD wS r)<|bU (v:=aI) (us:=[aI]) (cs:=aA) (σ':=[aA,bW,aA]) r fY r r r r r r r r<|aT r (bD aF8 r)<|bU (v:=aI) (us:=[aI]) (cs:=aA) (σ':=[aA,bW,aA]) r fY r r r r r r r r<|aH (fr':=[(2,.box 0 0),(4,.box 1 0),(5,.box 2 0)]) r r<|aK<|mV (v:=.box 1 0) r ?_
 obtain ⟨x7,hx7,h8⟩:=aG h6
 refine dM (v:=aS) (σ':=[aA,bW,aA]) [1] r (pF hx7) r r ⟨lr,trivial⟩ (eW ⟨r,r,r,r,trivial⟩ aF) r r r<|mV (v:=.box 1 0) r ?_
 obtain ⟨x9,hx9,h10⟩:=aG h8
 refine dM (v:=aS) (σ':=[aA,bW,aA]) [1] r (pF hx9) r r ⟨lr,trivial⟩ (eW ⟨r,r,r,r,trivial⟩ aF) r r r<|mV (v:=.box 1 0) r ?_
 obtain ⟨x11,hx11,h12⟩:=aG h10
 refine dM (v:=aS) (σ':=[aA,bW,aA]) [1] r (pF hx11) r r ⟨lr,trivial⟩ (eW ⟨r,r,r,r,trivial⟩ aF) r r r<|mV (v:=.box 1 0) r ?_
 obtain ⟨x13,hx13,h14⟩:=aG h12
 refine dM (v:=aS) (σ':=[aA,bW,aA]) [1] r (pF hx13) r r ⟨lr,trivial⟩ (eW ⟨r,r,r,r,trivial⟩ aF) r r r<|aT r (bD aDH r)<|bU (v:=aS) (us:=[aS]) (cs:=aA) (σ':=[aA,bW,aA]) r nE r r r r r r r r<|aT r (bD aDI r)<|bU (v:=aS) (us:=[aS]) (cs:=aA) (σ':=[aA,bW,aA]) r nE r r r r r r r r<|aT r (bD aCj r)<|bU (v:=aS) (us:=[aS]) (cs:=aA) (σ':=[aA,bW,aA]) r nE r r r r r r r r<|aT r (bD yC r)<|bU (v:=aS) (us:=[aS]) (cs:=aA) (σ':=[aA,bW,aA]) r nE r r r r r r r r<|aH (fr':=[(2,.box 0 0),(4,.box 1 0),(5,.box 2 0)]) r r<|aK<|mV (v:=.box 1 0) r ?_
 obtain ⟨x15,hx15,h16⟩:=aG h14
 refine dM (v:=aI) (σ':=[aA,bW,aA]) [1] r (jR hx15) r r ⟨lr,trivial⟩ (eW ⟨r,r,r,r,trivial⟩ aF) r r r<|mV (v:=.box 1 0) r ?_
 obtain ⟨x17,hx17,h18⟩:=aG h16
 refine dM (v:=aI) (σ':=[aA,bW,aA]) [1] r (jR hx17) r r ⟨lr,trivial⟩ (eW ⟨r,r,r,r,trivial⟩ aF) r r r<|mV (v:=.box 1 0) r ?_
 obtain ⟨x19,hx19,h20⟩:=aG h18
 refine dM (v:=aI) (σ':=[aA,bW,aA]) [1] r (jR hx19) r r ⟨lr,trivial⟩ (eW ⟨r,r,r,r,trivial⟩ aF) r r r<|mV (v:=.box 1 0) r ?_
 obtain ⟨x21,hx21,h22⟩:=aG h20
 refine dM (v:=aI) (σ':=[aA,bW,aA]) [1] r (jR hx21) r r ⟨lr,trivial⟩ (eW ⟨r,r,r,r,trivial⟩ aF) r r r<|aT r (bD aDJ r)<|bU (v:=aI) (us:=[aI]) (cs:=aA) (σ':=[aA,bW,aA]) r fY r r r r r r r r<|aT r (bD aDK r)<|bU (v:=aI) (us:=[aI]) (cs:=aA) (σ':=[aA,bW,aA]) r fY r r r r r r r r<|aT r (bD aDL r)<|bU (v:=aI) (us:=[aI]) (cs:=aA) (σ':=[aA,bW,aA]) r fY r r r r r r r r<|aT r (bD sC r)<|bU (v:=aI) (us:=[aI]) (cs:=aA) (σ':=[aA,bW,aA]) r fY r r r r r r r r<|aH (fr':=[(2,.box 0 0),(4,.box 1 0),(5,.box 2 0)]) r r<|aK<|mV (v:=.box 1 0) r ?_
 obtain ⟨x23,hx23,h24⟩:=aG h22
 refine dM (v:=.agg bQ) (σ':=[aA,bW,aA]) [1] r (aBj hx23) r r ⟨lr,trivial⟩ (eW ⟨r,r,r,r,trivial⟩ aF) r r r<|aT r (bD aBA r)<|bU (v:=.agg bQ) (us:=bQ) (cs:=aA) (σ':=[aA,bW,kO]) r gV r r r r r r r r<|aH (fr':=[(2,.box 0 0),(4,.box 1 0),(5,.box 2 0)]) r r<|aK<|mV (v:=.box 1 0) r ?_
 obtain ⟨x25,hx25,h26⟩:=aG h24
 refine dM (v:=aO) (σ':=[aA,bW,kO]) [1] r (nC hx25) r r ⟨lr,lr,lr,trivial⟩ (eW ⟨r,r,r,r,trivial⟩ aF) r r r<|aT r (bD vL r)<|bU (v:=aO) (us:=[aO]) (cs:=kO) (σ':=[aA,bW,[aI,aI,aS,aS,aS,aS,aI,aI,aI,aI,aI,aI,aS,aL,aL,aS,aI,aI,aI,aI,aI,aI,aI,aI,AV.nil,aO,aS]]) r aH4 r r r r r r r r<|aH (fr':=[(2,.box 0 0),(4,.box 1 0),(5,.box 2 0)]) r r<|aK<|mV (v:=.box 1 0) r ?_
 obtain ⟨x27,hx27,h28⟩:=aG h26
 refine dM (v:=aS) (σ':=[aA,bW,[aI,aI,aS,aS,aS,aS,aI,aI,aI,aI,aI,aI,aS,aL,aL,aS,aI,aI,aI,aI,aI,aI,aI,aI,AV.nil,aO,aS]]) [1] r (pF hx27) r r ⟨lr,trivial⟩ (eW ⟨r,r,r,r,trivial⟩ aF) r r r<|aT r (bD aBB r)<|bU (v:=aS) (us:=[aS]) (cs:=[aI,aI,aS,aS,aS,aS,aI,aI,aI,aI,aI,aI,aS,aL,aL,aS,aI,aI,aI,aI,aI,aI,aI,aI,AV.nil,aO,aS]) (σ':=[aA,bW,[aI,aI,aS,aS,aS,aS,aI,aI,aI,aI,aI,aI,aS,aL,aL,aS,aI,aI,aI,aI,aI,aI,aI,aI,AV.nil,aO,aS]]) r nE r r r r r r r r<|aH (fr':=[(2,.box 0 0),(4,.box 1 0),(5,.box 2 0)]) r r<|aU<|aK<|mV (v:=.box 1 0) r ?_
 obtain ⟨x29,hx29,h30⟩:=aG h28
 refine dM (v:=aI) (σ':=[aA,bW,[aI,aI,aS,aS,aS,aS,aI,aI,aI,aI,aI,aI,aS,aL,aL,aS,aI,aI,aI,aI,aI,aI,aI,aI,AV.nil,aO,aS]]) [1] r (aDa hx29) r r ⟨lr,trivial⟩ (eW ⟨r,r,r,r,trivial⟩ aF) r r r<|sI r<|aH (fr':=[(2,.box 0 0),(5,.box 2 0),(6,aI)]) r r<|aK<|mI r<|aT r (gQ r r)<|aH (fr':=[(2,.box 0 0),(5,.box 2 0),(6,aI),(51,aB)]) r r<|cV h30 r (fun hb31 h31=>?_) (fun hb31 h31=>?_)
 ·
  refine aK<|aT r (iA (c0:=aA) (cs:=aA) aOH r hZ)<|mI r<|bU (v:=.agg aA) (us:=aA) (cs:=aA) (σ':=[aA,bW,[aI,aI,aS,aS,aS,aS,aI,aI,aI,aI,aI,aI,aS,aL,aL,aS,aI,aI,aI,aI,aI,aI,aI,aI,AV.nil,aO,aS]]) r xB r r r r r r r r<|sI r<|aH (fr':=[(2,.box 0 0),(3,aI)]) r r<|bI<|aN ?_
  obtain rfl:=sy h31
  exact bH (rs':=[.cell 2 57,.tmp 3]) r<|fA (us:=aA) (cs:=aA) xB r r r r<|bP (v:=aI) r<|bG<|aQ [] r r r (rN r ⟨(bO r ⟨r,r,r,r,r,r,r,r,r,r,r,r,r,⟨_,r⟩,⟨_,r⟩,r,r,r,r,r,r,r,r,r,⟨_,r⟩,⟨_,r⟩,r,trivial⟩),lr,trivial⟩) aF
 ·
  refine bJ<|cM<|aU<|aK<|aT r (dJ (us:=[aI,aI,aS,aS,aS,aS,aI,aI,aI,aI,aI,aI,aS,aL,aL,aS,aI,aI,aI,aI,aI,aI,aI,aI,AV.nil,aO,aS]) xB r r r r) ?_
  obtain ⟨x33,hx33,h34⟩:=aG h31
  refine lM (bC (v:=aB) r (aAx hx33) ⟨(bO r ⟨r,r,r,r,r,r,r,r,r,r,r,r,r,r,r,r,r,r,r,r,r,r,r,r,⟨_,r⟩,r,r,trivial⟩),trivial⟩ r r r)<|aT r (fH r)<|aH (fr':=[(2,.box 0 0),(5,.box 2 0),(56,aB)]) r r<|cV h34 r (fun hb35 h35=>?_) (fun hb35 h35=>?_)
  ·
   refine aK<|aT r (iA (c0:=aA) (cs:=aA) aOH r hZ)<|bU (v:=.agg aA) (us:=aA) (cs:=aA) (σ':=[aA,bW,[aI,aI,aS,aS,aS,aS,aI,aI,aI,aI,aI,aI,aS,aL,aL,aS,aI,aI,aI,aI,aI,aI,aI,aI,AV.nil,aO,aS]]) r xB r r r r r r r r<|sI r<|aH (fr':=[(2,.box 0 0),(3,aI)]) r r<|bI<|aN ?_
   obtain rfl:=sy h35
   exact bH (rs':=[.cell 2 57,.tmp 3]) r<|fA (us:=aA) (cs:=aA) xB r r r r<|bP (v:=aI) r<|bG<|aQ [] r r r (rN r ⟨(bO r ⟨r,r,r,r,r,r,r,r,r,r,r,r,r,⟨_,r⟩,⟨_,r⟩,r,r,r,r,r,r,r,r,r,⟨_,r⟩,⟨_,r⟩,r,trivial⟩),lr,trivial⟩) aF
  ·
   refine bJ<|cM<|aK<|aT r (dJ (us:=[aI,aI,aS,aS,aS,aS,aI,aI,aI,aI,aI,aI,aS,aL,aL,aS,aI,aI,aI,aI,aI,aI,aI,aI,AV.nil,aO,aS]) xB r r r r)<|bU (v:=.agg [aI,aI,aS,aS,aS,aS,aI,aI,aI,aI,aI,aI,aS,aL,aL,aS,aI,aI,aI,aI,aI,aI,aI,aI,AV.nil,aO,aS]) (us:=[aI,aI,aS,aS,aS,aS,aI,aI,aI,aI,aI,aI,aS,aL,aL,aS,aI,aI,aI,aI,aI,aI,aI,aI,AV.nil,aO,aS]) (cs:=aA) (σ':=[[aI,aI,aS,aS,aS,aS,aI,aI,aI,aI,aI,aI,aS,aL,aL,aS,aI,aI,aI,aI,aI,aI,aI,aI,AV.nil,aO,aS],bW,[aI,aI,aS,aS,aS,aS,aI,aI,aI,aI,aI,aI,aS,aL,aL,aS,aI,aI,aI,aI,aI,aI,aI,aI,AV.nil,aO,aS]]) r xB r r r r r r r r<|sI r<|aH (fr':=[(2,.box 0 0),(3,aI)]) r r<|bI ?_
   obtain rfl:=sy h35
   exact bH (rs':=[.cell 2 57,.tmp 3]) r<|fA (us:=[aI,aI,aS,aS,aS,aS,aI,aI,aI,aI,aI,aI,aS,aL,aL,aS,aI,aI,aI,aI,aI,aI,aI,aI,AV.nil,aO,aS]) (cs:=[aI,aI,aS,aS,aS,aS,aI,aI,aI,aI,aI,aI,aS,aL,aL,aS,aI,aI,aI,aI,aI,aI,aI,aI,AV.nil,aO,aS]) xB r r r r<|bP (v:=aI) r<|bG<|aQ [] r r r (rN r ⟨(bO r ⟨r,r,r,r,r,r,r,r,r,r,r,r,r,r,r,r,r,r,r,r,r,r,r,r,⟨_,r⟩,r,r,trivial⟩),lr,trivial⟩) aF
noncomputable def jL (p0a:(List aP)) (p1b:(List aP)) (s6:Int):Option (bS Int (Fl Bool Unit)) :=
 cond (decide (s6<((p0a).length:Int))) ((jV p0a s6).bind fun x8=>(jV p1b s6).bind fun x10=>(qT x8 x10).bind fun x12=>cond (!x12) (some (bS.out (Fl.done false))) (some (bS.next (IntKind.wrap .i64 (s6+(1:Int)))))) (some (bS.out (Fl.go ())))
noncomputable def iQ (p0a:(List aP)) (p1b:(List aP)):Option Bool :=
 cond (!decide (((p0a).length:Int)=((p1b).length:Int))) (some false) (((dL (jL p0a p1b) ((0:Int))):Option (Fl Bool Unit)).bind fun x3=>Fl.next x3 (fun j5=>(some true)))
theorem aBi {p0a:(List aP)}{p1b:(List aP)}{res:Bool} (h:iQ p0a p1b=some res):cC Tryz.prog 96 [.c (PV.ls 20 cH p0a),.c (PV.ls 20 cH p1b)] [] (.c (.bool res)) []:=by
 unfold iQ at h
 refine cY (fn:=Tryz.f96) [0,1,4,5,10,14,26] (by kernel_rfl) Tryz.func96 r (by kernel_rfl) (by kernel_rfl)<|aK<|sB r<|aH (fr':=[(0,aL),(1,aL)]) r r<|aU<|aK<|mL r<|aT r (gN aGI (eO r))<|mL r<|aT r (gN aGI (eO r))<|aT r (gQ r r) ?_
 refine aH (fr':=[(0,aL),(1,aL),(10,aB)]) r r<|cV h r (fun hb1 h1=>?_) (fun hb1 h1=>?_)
 ·
  refine aK<|sB r<|aH (fr':=[(4,aB)]) r r<|bI<|aN ?_
  obtain rfl:=sy h1
  exact bH (rs':=[.tmp 4]) r<|bP (v:=aB) r<|bG<|aQ [] r r r lr aF
 ·
  refine bJ<|cM<|aU<|aK<|sI r<|aH (fr':=[(0,aL),(1,aL),(5,aI)]) r r ?_
  obtain ⟨x3,hx3,h4⟩:=aG h1
  refine gZ mO (fun j5=>x3=Fl.go j5) (fun (j5:Unit)=>([]:Fr)) (fun (j5:Unit)=>([]:St)) ?_ ?_
  ·
   refine bZ<|gU _ (fun (s6:Int)=>([(0,.c (PV.ls 20 cH p0a)),(1,.c (PV.ls 20 cH p1b)),(5,ci s6)]:Fr)) (fun (s6:Int)=>([]:St)) hx3 (bT [] 0 r r r r ⟨lr,lr,lr,trivial⟩ aF) ?_
   intro s6 st6 hs6 ho6
   unfold jL at hs6
   refine aU<|aK<|mI r<|mL r<|aT r (gN aGI (eO r))<|aT r (fM r r)<|aH (fr':=[(0,aL),(1,aL),(5,aI),(14,aB)]) r r<|cV hs6 r (fun hb7 h7=>?_) (fun hb7 h7=>?_)
   ·
    refine bJ<|cM<|aU<|bZ<|aU<|jD [.q 0,.q 1,.q 2,.q 3,.q 4,.q 5,.q 6,.q 7,.q 8,.q 9] [(some 17,[0]),(some 18,[5]),(some 19,[17,18]),(some 20,[19]),(some 21,[1]),(some 22,[5]),(some 23,[21,22]),(some 24,[23]),(some 25,[20,24]),(some 26,[25])] [0,0,3,7,0,0,48,112,255,511] (by kernel_rfl)<|dq r r (bA (v:=aL) r)<|dq r r (bA (v:=aI) r) ?_
    obtain ⟨x8,hx8,h9⟩:=aG h7
    refine dq r r (oV (cs:=[PV.int _ _,PV.int _ _,PV.str _,PV.str _,PV.int _ _,PV.int _ _,PV.int _ _,PV.str _,PV.ls _ _ _,PV.ls _ _ _,PV.str _,PV.int _ _,PV.int _ _,PV.int _ _,PV.int _ _,PV.int _ _,PV.int _ _,PV.int _ _,PV.int _ _,PV.ls _ _ _]) aMr (eO r) r hx8 r)<|dq r r (lW (us:=[PV.int _ _,PV.int _ _,PV.str _,PV.str _,PV.int _ _,PV.int _ _,PV.int _ _,PV.str _,PV.ls _ _ _,PV.ls _ _ _,PV.str _,PV.int _ _,PV.int _ _,PV.int _ _,PV.int _ _,PV.int _ _,PV.int _ _,PV.int _ _,PV.int _ _,PV.ls _ _ _]) vA r r r)<|dq r r (bA (v:=aL) r)<|dq r r (bA (v:=aI) r) ?_
    obtain ⟨x10,hx10,h11⟩:=aG h9
    refine dq r r (oV (cs:=[PV.int _ _,PV.int _ _,PV.str _,PV.str _,PV.int _ _,PV.int _ _,PV.int _ _,PV.str _,PV.ls _ _ _,PV.ls _ _ _,PV.str _,PV.int _ _,PV.int _ _,PV.int _ _,PV.int _ _,PV.int _ _,PV.int _ _,PV.int _ _,PV.int _ _,PV.ls _ _ _]) aMr (eO r) r hx10 r)<|dq r r (lW (us:=[PV.int _ _,PV.int _ _,PV.str _,PV.str _,PV.int _ _,PV.int _ _,PV.int _ _,PV.str _,PV.ls _ _ _,PV.ls _ _ _,PV.str _,PV.int _ _,PV.int _ _,PV.int _ _,PV.int _ _,PV.int _ _,PV.int _ _,PV.int _ _,PV.int _ _,PV.ls _ _ _]) vA r r r) ?_
    obtain ⟨x12,hx12,h13⟩:=aG h11
    refine d_q r (aLa (v:=aB) r (aH8 hx12) ⟨(bO r ⟨r,r,r,r,r,r,r,r,r,r,r,r,r,r,r,r,r,r,r,r,trivial⟩),(bO r ⟨r,r,r,r,r,r,r,r,r,r,r,r,r,r,r,r,r,r,r,r,trivial⟩),trivial⟩ r)<|dq r r (fH r)<|xA (fr':=[(0,aL),(1,aL),(5,aI),(26,aB)]) r r<|cV h13 r (fun hb14 h14=>?_) (fun hb14 h14=>?_)
    ·
     refine aK<|sB r<|aH (fr':=[(4,aB)]) r r<|bI<|bN<|aN<|aN<|bN<|aN<|aN ?_
     have h15:=eY h14 ho6
     have h16:=fI h15 h4
     obtain rfl:=sy h16
     exact bH (rs':=[.tmp 4]) r<|bP (v:=aB) r<|bG<|aQ [] r r r lr aF
    ·
     exact bJ<|dH<|cM<|aX<|mI r<|aT r (fL r r)<|sI r<|dT (fr':=[(0,aL),(1,aL),(5,aI),(26,aB)]) r<|e_l _ (sy h14) (bT [] 0 r r r r ⟨lr,lr,lr,trivial⟩ aF)
   ·
    refine hH<|cX<|cX<|fU ?_
    have h18:=eY h7 ho6
    exact pG _ (sy h18) (bT [] 0 r r r r trivial aF)
  ·
   intro j5 hj19
   have h19:=nG hj19 h4
   refine cM<|aK<|sB r<|aH (fr':=[(4,aB)]) r r<|bI ?_
   obtain rfl:=sy h19
   exact bH (rs':=[.tmp 4]) r<|bP (v:=aB) r<|bG<|aQ [] r r r lr aF
end Go.Proofs.YtnigjppddilpcaaGreatDoor
