import Derived.Test.YtnigjppddilpcaaGreatDoorGETy
import Derived.Test.YtnigjppddilpcaaGreatDoorGEF0
import Derived.Test.YtnigjppddilpcaaGreatDoorGEF1
import Derived.Test.YtnigjppddilpcaaGreatDoorGEF3
import Derived.Test.YtnigjppddilpcaaGreatDoorGEF4
import Derived.Test.YtnigjppddilpcaaGreatDoorGEF5
import Derived.Test.YtnigjppddilpcaaGreatDoorGEF6
import Derived.Test.YtnigjppddilpcaaGreatDoorGEF9
import Derived.Test.YtnigjppddilpcaaGreatDoorGEF13
namespace Go.Proofs.YtnigjppddilpcaaGreatDoor
open Go Abs
set_option maxRecDepth 100000
set_option linter.unusedVariables false
set_option linter.unusedSimpArgs false
noncomputable def wU (p0q:dE):Option Bool :=
 (xY p0q.Kind).bind fun x1=>(oM p0q.Kind 1 17).bind fun x3=>(gd ((!x3)==false) (oM p0q.Time 0 1099511627776)).bind fun x5=>(gd ((cond (!x3) true (!x5))==false) (aAM p0q x1)).bind fun x7=>(gd ((cond (cond (!x3) true (!x5)) true (!x7))==false) (vQ p0q.Data)).bind fun x9=>cond (cond (cond (cond (!x3) true (!x5)) true (!x7)) true (!x9)) (some false) ((gd (((cond (decide (p0q.Kind=14)) (!decide (p0q.Workflow=([]:List UInt8))) false)==false)&&((!(decide (p0q.Kind=14)))==true)) (uO p0q.Workflow)).bind fun x13=>(gd ((cond (cond (decide (p0q.Kind=14)) (!decide (p0q.Workflow=([]:List UInt8))) false) true (cond (!(decide (p0q.Kind=14))) (!x13) false))==false) (yB p0q.Run)).bind fun x15=>cond (cond (cond (cond (cond (decide (p0q.Kind=14)) (!decide (p0q.Workflow=([]:List UInt8))) false) true (cond (!(decide (p0q.Kind=14))) (!x13) false)) true (!x15)) true (cond (cond (decide (p0q.Kind=14)) true (decide (p0q.Kind=1))) (!decide (p0q.Run=([]:List UInt8))) false)) (some false) (((cond (decide (p0q.Kind=1)) (some 0) (some 1)):Option Int).bind fun x19=>((gd (((cond x1.token_ (decide (p0q.Token<1)) false)==false)&&(x1.event_==true)) (oM p0q.Event 1 2000)).bind fun x24=>(gd (((cond (cond x1.token_ (decide (p0q.Token<1)) false) true (cond x1.event_ (!x24) false))==false)&&(x1.seq_==true)) (oM p0q.Seq x19 2000)).bind fun x26=>(gd ((cond (cond (cond x1.token_ (decide (p0q.Token<1)) false) true (cond x1.event_ (!x24) false)) true (cond x1.seq_ (!x26) false))==false) (yA p0q.Parent)).bind fun x28=>cond (cond (cond (cond (cond x1.token_ (decide (p0q.Token<1)) false) true (cond x1.event_ (!x24) false)) true (cond x1.seq_ (!x26) false)) true (!x28)) (some false) ((gd ((decide (200<((p0q.Commands).length:Int)))==false) (gD p0q.Commands)).bind fun x32=>cond (cond (decide (200<((p0q.Commands).length:Int))) true x32) (some false) ((xZ p0q).bind fun x36=>(gd (x36==true) (zM p0q x1)).bind fun x38=>some (cond x36 x38 false))))))
theorem aEk {p0q:dE}{z:Bool} (h:wU p0q=some z):cQ Tryz.prog 39 [.agg (AV.cs (nF p0q))] [] (.c (.bool z)) []:=by
 unfold wU at h
 refine dF (fn:=Tryz.f39) [0,1,2,3,4,5,30,68,71,105,114] (by kernel_rfl) Tryz.func39 r (by kernel_rfl) (by kernel_rfl)<|aH<|jK (v:=.agg aF) (n:=0) (cs:=aF) (σ':=[aF]) r r r r r<|sB r<|aG (fr':=[(1,aE)]) r r<|aH<|aR r (bD tA r)<|aR r (aK (v:=aI) fM r r r)<|bx h fun x1 y1 h2=>lS (bL (v:=.agg bX) r (aHF y1) ⟨lr,trivial⟩ r r r)<|hO (n:=1) (cs:=bX) (σ':=[aF,bX]) aRy r r r<|bM (v:=.agg bX) (us:=bX) (cs:=bX) (σ':=[aF,bX]) r tC r r r r r r r r<|aG (fr':=[(1,aE),(3,aU)]) r r<|aZ<|aH<|aR r (bD tA r)<|aR r (aK (v:=aI) fM r r r)<|bx h2 fun x3 y3 h4=>lS (bL (v:=aB) r (pK y3) kA r r r)<|aR r (fE r)<|mB r<|og r r r (fun u=>(bD aEV r))<|og r r r (fun u=>(aK (v:=aI) fM (gx r u) r r))<|bx h4 fun x5 y5 h6=>sX r r (fun u=>bL (v:=aB) r (pK (cU y5 u)) ⟨(eW (gx r u) lr),lr,lr,trivial⟩ (fT (by repeat (first | exact eN | refine aY r ?_ | refine aY (pP r) ?_ | refine aY pO ?_))) r r) ?_
 refine og r r r (fun u=>(fE (gx r u)))<|aR r (cN r r r (fun e=>fJ e))<|mB r<|og r r r (fun u=>(dL (us:=aF) vM r r r r))<|og r r r (fun u=>(dL (us:=bX) tC r r r r))<|bx h6 fun x7 y7 h8=>sX r r (fun u=>bL (v:=aB) r (aJO (cU y7 u)) ⟨(eW (gx r u) (bQ r aI2)),(eW (gx r u) (bQ r kR9)),trivial⟩ (fT (by repeat (first | exact eN | refine aY r ?_ | refine aY (pP r) ?_ | refine aY pO ?_))) r r) ?_
 refine og r r r (fun u=>(fE (gx r u)))<|aR r (cN r r r (fun e=>fJ e))<|mB r<|og r r r (fun u=>(bD aB7 r))<|og r r r (fun u=>(dL (us:=cE) iO (gx r u) r r r))<|bx h8 fun x9 y9 h10=>sX r r (fun u=>bL (v:=aB) r (aBu (cU y9 u)) ⟨(eW (gx r u) (bQ r kR5)),trivial⟩ (fT (by repeat (first | exact eN | refine aY r ?_ | refine aY (pP r) ?_ | refine aY pO ?_))) r r) ?_
 refine og r r r (fun u=>(fE (gx r u)))<|aR r (cN r r r (fun e=>fJ e))<|aG (fr':=[(1,aE),(3,aU),(30,aB)]) r r<|cG h10 r (fun b11 h11=>?_) (fun b11 h11=>?_)
 ·
  refine aH<|sB r<|aG (fr':=[(2,aB)]) r r<|bK<|aP ?_
  obtain rfl:=sy h11
  exact bJ (rs':=[.tmp 2]) r<|bS (v:=aB) r<|bI<|aN [] r r r lr aD
 ·
  refine bF<|cZ<|aH<|aR r (bD tA r)<|aR r (aK (v:=aI) fM r r r)<|aR r (bU r r)<|sB r<|aG (fr':=[(1,aE),(3,aU),(4,aB)]) r r<|aZ<|aH<|mB r<|mB r<|og r r r (fun u=>(bD aDX r))<|og r r r (fun u=>(aK (v:=aS) lP (gx r u) r r))<|og r r r (fun u=>(wZ (gx r u) r))<|aR r (bV r r r (fun e=>fJ e))<|mB r<|og r r r (fun u=>(bN (v:=aB) r))<|og r r r (fun u=>(fE (gx r u)))<|og r r r (fun u=>(bN (v:=aB) (gx r u)))<|fD r r (fun u=>fS r (bD aDX r))<|fD r r (fun u=>fS r (aK (v:=aS) lP (gx r u) r r))<|bx h11 fun x13 y13 h14=>fD r r (fun u=>bL (v:=aB) r (aBX (cU y13 u)) ⟨(eW (gx r u) lr),trivial⟩ (fT (by repeat (first | exact eN | refine aY r ?_ | refine aY (pP r) ?_ | refine aY pO ?_))) r r) ?_
  refine fD r r (fun u=>fS r (fE (gx r u)))<|og r r r (fun u=>(bV (gx r u) r r (fun e=>pX u (fJ e))))<|aR r (cN r r r (fun e=>fJ e))<|mB r<|og r r r (fun u=>(bD aDY r))<|og r r r (fun u=>(aK (v:=aS) lP (gx r u) r r))<|bx h14 fun x15 y15 h16=>sX r r (fun u=>bL (v:=aB) r (aDg (cU y15 u)) ⟨(eW (gx r u) lr),trivial⟩ (fT (by repeat (first | exact eN | refine aY r ?_ | refine aY (pP r) ?_ | refine aY pO ?_))) r r) ?_
  refine og r r r (fun u=>(fE (gx r u)))<|aR r (cN r r r (fun e=>fJ e))<|mB r<|og r r r (fun u=>(bN (v:=aB) r))<|og r r r (fun u=>(bN (v:=aB) (gx r u)))<|fD r r (fun u=>fS r (bD tA r))<|fD r r (fun u=>fS r (aK (v:=aI) fM (gx r u) r r))<|fD r r (fun u=>fS r (bU (gx r u) r))<|og r r r (fun u=>(cN (gx r u) r r (fun e=>pX u (fJ e))))<|og r r r (fun u=>(bN (v:=aB) (gx r u)))<|fD r r (fun u=>fS r (bD aDY r))<|fD r r (fun u=>fS r (aK (v:=aS) lP (gx r u) r r))<|fD r r (fun u=>fS r (wZ (gx r u) r))<|og r r r (fun u=>(bV (gx r u) r r (fun e=>pX u (fJ e))))<|aR r (cN r r r (fun e=>fJ e))<|aG (fr':=[(1,aE),(3,aU),(68,aB)]) r r<|cG h16 r (fun b17 h17=>?_) (fun b17 h17=>?_)
  ·
   refine aH<|sB r<|aG (fr':=[(2,aB)]) r r<|bK<|aP ?_
   obtain rfl:=sy h17
   exact bJ (rs':=[.tmp 2]) r<|bS (v:=aB) r<|bI<|aN [] r r r lr aD
  ·
   refine bF<|cZ<|aH<|sI r<|aG (fr':=[(1,aE),(3,aU),(5,aI)]) r r<|bx h17 fun x19 y19 h20=>hH (fun j21=>x19=j21) (fun (j21:Int)=>([(1,aE),(3,aU),(5,ci j21)]:Fr)) (fun (j21:Int)=>([[ci p0q.Kind,ci p0q.Time,.c (.str p0q.Workflow),.c (.str p0q.Run),.c (.str p0q.ID),.c (.str p0q.Name),ci p0q.Token,ci p0q.Event,ci p0q.Seq,ci p0q.N,ci p0q.Data.Kind,ci p0q.Data.Int,.c (.str p0q.Data.Text),.c (PV.ls 5 bT p0q.Data.Items),.c (PV.ls 1 fI p0q.Data.Keys),.c (.str p0q.Opts.Queue),ci p0q.Opts.ToStart,ci p0q.Opts.ToClose,ci p0q.Opts.Total,ci p0q.Opts.Beat,ci p0q.Opts.First,ci p0q.Opts.Coef,ci p0q.Opts.Most,ci p0q.Opts.Attempts,.c (PV.ls 1 fI p0q.Opts.Fatal),.c (PV.ls 20 dK p0q.Commands),.c (.str p0q.Parent)],[.c (.bool x1.id_),.c (.bool x1.name_),.c (.bool x1.token_),.c (.bool x1.event_),.c (.bool x1.seq_),.c (.bool x1.n_),.c (.bool x1.data_),.c (.bool x1.commands_),.c (.bool x1.parent_)]]:St)) ?_ ?_
   ·
    refine aH<|aR r (bD tA r)<|aR r (aK (v:=aI) fM r r r)<|aR r (bU r r)<|aG (fr':=[(1,aE),(3,aU),(5,aI),(71,aB)]) r r<|cG y19 r (fun b22 h22=>?_) (fun b22 h22=>?_)
    ·
     exact bB<|sI r<|dM (fr':=[(1,aE),(3,aU),(5,aI),(71,aB)]) r<|iQ _ (sy h22) (bC [] 2 r r r r kA (bR r (bR r aD)))
    ·
     exact bF<|iQ _ (sy h22) (bC [] 2 r r r r kA (bR r (bR r aD)))
   ·
    intro j21 hj23
    subst hj23
    refine aZ<|aH<|aR r (bD aOT r)<|aR r (aK (v:=aB) tv4 r r r)<|mB r<|og r r r (fun u=>(bD aBW r))<|og r r r (fun u=>(aK (v:=aI) fM (gx r u) r r))<|og r r r (fun u=>(gI (gx r u) r))<|aR r (bV r r r (fun e=>fJ e))<|mB r<|og r r r (fun u=>(bD aOU r))<|og r r r (fun u=>(aK (v:=aB) tv4 (gx r u) r r))<|og r r r (fun u=>(bN (v:=aB) (gx r u)))<|fD r r (fun u=>fS r (bD aDZ r))<|fD r r (fun u=>fS r (aK (v:=aI) fM (gx r u) r r))<|bx h20 fun x24 y24 h25=>fD r r (fun u=>bL (v:=aB) r (pK (cU y24 u)) ⟨(eW (gx r u) lr),lr,lr,trivial⟩ (fT (by repeat (first | exact eN | refine aY r ?_ | refine aY (pP r) ?_ | refine aY pO ?_))) r r) ?_
    refine fD r r (fun u=>fS r (fE (gx r u)))<|og r r r (fun u=>(bV (gx r u) r r (fun e=>pX u (fJ e))))<|aR r (cN r r r (fun e=>fJ e))<|mB r<|og r r r (fun u=>(bD aOV r))<|og r r r (fun u=>(aK (v:=aB) tv4 (gx r u) r r))<|og r r r (fun u=>(bN (v:=aB) (gx r u)))<|fD r r (fun u=>fS r (bD aCI r))<|fD r r (fun u=>fS r (aK (v:=aI) fM (gx r u) r r))<|fD r r (fun u=>fS r (bN (v:=aI) r))<|bx h25 fun x26 y26 h27=>fD r r (fun u=>bL (v:=aB) r (pK (cU y26 u)) ⟨(eW (gx r u) lr),(eW (gx r u) lr),lr,trivial⟩ (fT (by repeat (first | exact eN | refine aY r ?_ | refine aY (pP r) ?_ | refine aY pO ?_))) r r) ?_
    refine fD r r (fun u=>fS r (fE (gx r u)))<|og r r r (fun u=>(bV (gx r u) r r (fun e=>pX u (fJ e))))<|aR r (cN r r r (fun e=>fJ e))<|mB r<|og r r r (fun u=>(bD aAQ r))<|og r r r (fun u=>(aK (v:=aS) lP (gx r u) r r))<|bx h27 fun x28 y28 h29=>sX r r (fun u=>bL (v:=aB) r (aHH (cU y28 u)) ⟨(eW (gx r u) lr),trivial⟩ (fT (by repeat (first | exact eN | refine aY r ?_ | refine aY (pP r) ?_ | refine aY pO ?_))) r r) ?_
    refine og r r r (fun u=>(fE (gx r u)))<|aR r (cN r r r (fun e=>fJ e))<|aG (fr':=[(1,aE),(3,aU),(105,aB)]) r r<|cG h29 r (fun b30 h30=>?_) (fun b30 h30=>?_)
    ·
     refine aH<|sB r<|aG (fr':=[(2,aB)]) r r<|bK<|aP ?_
     obtain rfl:=sy h30
     exact bJ (rs':=[.tmp 2]) r<|bS (v:=aB) r<|bI<|aN [] r r r lr aD
    ·
     refine bF<|cZ<|aZ<|aH<|aR r (bD xI r)<|aR r (aK (v:=aL) aGO r r r)<|aR r (hZ aId (eK r))<|aR r (qW r r)<|mB r<|og r r r (fun u=>(bD xI r))<|og r r r (fun u=>(aK (v:=aL) aGO (gx r u) r r))<|bx h30 fun x32 y32 h33=>sX r r (fun u=>bL (v:=aB) r (pS (cU y32 u)) ⟨(eW (gx r u) lr),lr,trivial⟩ (fT (by repeat (first | exact eN | refine aY r ?_ | refine aY (pP r) ?_ | refine aY pO ?_))) r r) ?_
     refine aR r (cN r r r (fun e=>fJ e))<|aG (fr':=[(1,aE),(3,aU),(114,aB)]) r r<|cG h33 r (fun b34 h34=>?_) (fun b34 h34=>?_)
     ·
      refine aH<|sB r<|aG (fr':=[(2,aB)]) r r<|bK<|aP ?_
      obtain rfl:=sy h34
      exact bJ (rs':=[.tmp 2]) r<|bS (v:=aB) r<|bI<|aN [] r r r lr aD
     ·
      refine bF<|cZ<|aH<|aR r (dL (us:=aF) vM r r r r)<|bx h34 fun x36 y36 h37=>lS (bL (v:=aB) r (aHG y36) ⟨(bQ r aI2),trivial⟩ r r r)<|mB r<|og r r r (fun u=>(dL (us:=aF) vM r r r r))<|og r r r (fun u=>(dL (us:=bX) tC r r r r))<|bx h37 fun x38 y38 h39=>sX r r (fun u=>bL (v:=aB) r (aIl (cU y38 u)) ⟨(eW (gx r u) (bQ r aI2)),(eW (gx r u) (bQ r kR9)),trivial⟩ (fT (by repeat (first | exact eN | refine aY r ?_ | refine aY (pP r) ?_ | refine aY pO ?_))) r r) ?_
      refine aR r (bV r r r (fun e=>fJ e))<|sB r<|aG (fr':=[(2,aB)]) r r<|bK ?_
      obtain rfl:=sy h39
      exact bJ (rs':=[.tmp 2]) r<|bS (v:=aB) r<|bI<|aN [] r r r lr aD
noncomputable def aCh (p0b:(List UInt8)) (p1c:bY):Option (List UInt8) :=
 (lE p0b).bind fun x1=>(sH p1c).bind fun x3=>cond (!x3) (some x1) ((iZ x1 p1c.Kind).bind fun x7=>(iZ x7 p1c.Seq).bind fun x9=>(mH x9 p1c.Name).bind fun x11=>(mH x11 p1c.Key).bind fun x13=>(iZ x13 p1c.N).bind fun x15=>(yU x15 p1c.Data).bind fun x17=>(aCi x17 p1c.Opts).bind fun x19=>some x19)
theorem aHA {p0b:(List UInt8)}{p1c:bY}{z:(List UInt8)} (h:aCh p0b p1c=some z):cQ Tryz.prog 90 [.c (PV.ls 1 iT p0b),.agg (AV.cs (dK p1c))] [] (AV.os 0 1 iT z) []:=by
 unfold aCh at h
 refine dF (fn:=Tryz.f90) [0,1,3,4,5,10] (by kernel_rfl) Tryz.func90 r (by kernel_rfl) (by kernel_rfl)<|aH<|jK (v:=.agg aW) (n:=0) (cs:=aW) (σ':=[aW]) r r r r r<|sV (v:=AV.nil) r<|aG (fr':=[(0,aL),(3,aE)]) r r<|aH<|mL r<|bx h fun x1 y1 h2=>lS (bL (v:=aO) r (qR y1) ⟨lr,trivial⟩ r r r)<|sV (v:=aO) r<|aG (fr':=[(3,aE),(5,aO)]) r r<|aZ<|aH<|aR r (dL (us:=aW) rB r r r r)<|bx h2 fun x3 y3 h4=>lS (bL (v:=aB) r (zZ y3) ⟨(bQ r aDF),trivial⟩ r r r)<|aR r (fE r)<|aG (fr':=[(3,aE),(5,aO),(10,aB)]) r r<|cG h4 r (fun b5 h5=>?_) (fun b5 h5=>?_)
 ·
  refine aH<|mV (v:=aO) r<|sV (v:=aO) r<|aG (fr':=[(4,aO)]) r r<|bK<|aP ?_
  obtain rfl:=sy h5
  exact bJ (rs':=[.tmp 4]) r<|bS (v:=aO) r<|bI<|aN [112] r r r lr aD
 ·
  refine bF<|cZ<|aH<|mV (v:=aO) r<|aR r (bD tJ r)<|aR r (aK (v:=aI) fM r r r)<|bx h5 fun x7 y7 h8=>lS (bL (v:=aO) r (jL y7) jN r r r)<|sV (v:=aO) r<|aG (fr':=[(3,aE),(5,aO)]) r r<|aH<|mV (v:=aO) r<|aR r (bD aB5 r)<|aR r (aK (v:=aI) fM r r r)<|bx h8 fun x9 y9 h10=>lS (bL (v:=aO) r (jL y9) jN r r r)<|sV (v:=aO) r<|aG (fr':=[(3,aE),(5,aO)]) r r<|aH<|mV (v:=aO) r<|aR r (bD aAP r)<|aR r (aK (v:=aS) lP r r r)<|bx h10 fun x11 y11 h12=>lS (bL (v:=aO) r (rE y11) jN r r r)<|sV (v:=aO) r<|aG (fr':=[(3,aE),(5,aO)]) r r<|aH<|mV (v:=aO) r<|aR r (bD aB6 r)<|aR r (aK (v:=aS) lP r r r)<|bx h12 fun x13 y13 h14=>lS (bL (v:=aO) r (rE y13) jN r r r)<|sV (v:=aO) r<|aG (fr':=[(3,aE),(5,aO)]) r r<|aH<|mV (v:=aO) r<|aR r (bD uF r)<|aR r (aK (v:=aI) fM r r r)<|bx h14 fun x15 y15 h16=>lS (bL (v:=aO) r (jL y15) jN r r r)<|sV (v:=aO) r<|aG (fr':=[(3,aE),(5,aO)]) r r<|aZ<|kV [.q 0,.q 1,.q 2,.q 4,.q 5,.n 3 [4,5],.n 6 [],.n 7 []] [(some 32,[5]),(some 33,[3]),(some 34,[33]),(some 35,[32,34]),(some 36,[3]),(some 37,[36]),(some 38,[35,37]),(some 4,[38])] [0,0,2,7,0,16,63,127] (by kernel_rfl)<|dq r r (bN (v:=aO) r)<|dq r r (bD vW r)<|dq r r (dL (us:=cE) iO r r r r)<|dq r r (bD aBp r)<|dq r r (dL (us:=dO) yT r r r r)<|d_n r ?_ r
  obtain ⟨x17,y17,h18⟩:=iW h16
  refine lS (bL (v:=aO) r (aE6 y17) ⟨lr,(bQ r kR5),trivial⟩ r r r)<|uK<|⟨(pR (v:=aTa) r r (kU r (bD aBp r)) (pR (v:=.agg dO) r r (kU r (dL (us:=dO) yT r r r r)) lJ)),?_⟩
  refine d_n r ?_ r
  obtain ⟨x19,y19,h20⟩:=iW h18
  refine lS (bL (v:=aO) r (aHD y19) ⟨lr,(bQ r aBA),trivial⟩ r r r)<|uK<|⟨lJ,?_⟩
  refine d_n r ?_ r
  refine sV (v:=aO) r<|uK<|⟨lJ,?_⟩
  refine aAq (fr':=[(4,aO)]) r r<|bK ?_
  obtain rfl:=sy h20
  exact bJ (rs':=[.tmp 4]) r<|bS (v:=aO) r<|bI<|aN [608] r r r lr aD
noncomputable def uC (p0q:dE) (s12:((List UInt8) × Int)):Option (dU ((List UInt8) × Int) (List UInt8)) :=
 cond (decide (s12.2<((([p0q.Workflow,p0q.Run,p0q.ID,p0q.Name]:List (List UInt8))).length:Int))) ((nG ([p0q.Workflow,p0q.Run,p0q.ID,p0q.Name]:List (List UInt8)) s12.2).bind fun x14=>(mH s12.1 x14).bind fun x16=>some (dU.next (x16,(IntKind.wrap .i64 (s12.2+1))))) (some (dU.out s12.1))
noncomputable def uD (p0q:dE) (s23:((List UInt8) × Int)):Option (dU ((List UInt8) × Int) (List UInt8)) :=
 cond (decide (s23.2<((([p0q.Token,p0q.Event,p0q.Seq,p0q.N]:List Int)).length:Int))) ((nG ([p0q.Token,p0q.Event,p0q.Seq,p0q.N]:List Int) s23.2).bind fun x25=>(iZ s23.1 x25).bind fun x27=>some (dU.next (x27,(IntKind.wrap .i64 (s23.2+1))))) (some (dU.out s23.1))
noncomputable def aAL (p0q:dE) (s38:((List UInt8) × Int)):Option (dU ((List UInt8) × Int) (List UInt8)) :=
 cond (decide (s38.2<((p0q.Commands).length:Int))) ((nG p0q.Commands s38.2).bind fun x40=>(aCh s38.1 x40).bind fun x42=>some (dU.next (x42,(IntKind.wrap .i64 (s38.2+1))))) (some (dU.out s38.1))
noncomputable def rA (p0q:dE):Option ((List UInt8) × Int) :=
 (wU p0q).bind fun x1=>cond (!x1) (some (([]:(List UInt8)),3)) ((iZ ([]:List UInt8) p0q.Kind).bind fun x5=>(iZ x5 p0q.Time).bind fun x7=>(fK (uC p0q) ((x7,0))).bind fun x9=>((fK (uD p0q) ((x9,0))).bind fun x20=>((yU x20 p0q.Data).bind fun x31=>(iZ x31 ((p0q.Commands).length:Int)).bind fun x33=>(fK (aAL p0q) ((x33,0))).bind fun x35=>((mH x35 p0q.Parent).bind fun x46=>cond (decide (65536<((x46).length:Int))) (some (([]:(List UInt8)),6)) (some (x46,0))))))
theorem aDy {p0q:dE}{z:((List UInt8) × Int)} (h:rA p0q=some z):cQ Tryz.prog 35 [.agg (AV.cs (nF p0q))] [] (.tup [AV.os 0 1 iT z.1,ci z.2]) []:=by
 unfold rA at h
 refine dF (fn:=Tryz.f35) [0,1,2,3,4,6,8,10,13,29,30,31,32,47,48,49,50,67,68,69,70,83] (by kernel_rfl) Tryz.func35 r (by kernel_rfl) (by kernel_rfl)<|aH<|jK (v:=.agg aF) (n:=0) (cs:=aF) (σ':=[aF]) r r r r r<|sV (v:=AV.nil) r<|sI r<|aG (fr':=[(1,aE)]) r r<|aZ<|aH<|aR r (dL (us:=aF) vM r r r r)<|bx h fun x1 y1 h2=>lS (bL (v:=aB) r (aEk y1) ⟨(bQ r aI2),trivial⟩ r r r)<|aR r (fE r)<|aG (fr':=[(1,aE),(13,aB)]) r r<|cG h2 r (fun b3 h3=>?_) (fun b3 h3=>?_)
 ·
  refine aH<|sV (v:=AV.nil) r<|sI r<|aG (fr':=[(2,AV.nil),(3,aI)]) r r<|bK<|aP ?_
  obtain rfl:=sy h3
  exact bJ (rs':=[.tmp 2,.tmp 3]) r<|bS (v:=AV.nil) r<|bS (v:=aI) r<|bI<|aN [1000000] r r r (mR r ⟨(aAt r),lr,trivial⟩) aD
 ·
  refine bF<|cZ<|aH<|aR r (bD tA r)<|aR r (aK (v:=aI) fM r r r)<|bx h3 fun x5 y5 h6=>lS (bL (v:=aO) r (jL y5) ⟨aA7,lr,trivial⟩ r r r)<|sV (v:=aO) r<|aG (fr':=[(1,aE),(4,aO)]) r r<|aH<|mV (v:=aO) r<|aR r (bD aEV r)<|aR r (aK (v:=aI) fM r r r)<|bx h6 fun x7 y7 h8=>lS (bL (v:=aO) r (jL y7) jN r r r)<|sV (v:=aO) r<|aG (fr':=[(1,aE),(4,aO)]) r r<|aZ<|aH<|aR r (bD aDX r)<|aR r (aK (v:=aS) lP r r r)<|aR r (bD aDY r)<|aR r (aK (v:=aS) lP r r r)<|aR r (bD aCH r)<|aR r (aK (v:=aS) lP r r r)<|aR r (bD yC r)<|aR r (aK (v:=aS) lP r r r)<|uL (row:=fI) (xs:=([p0q.Workflow,p0q.Run,p0q.ID,p0q.Name]:List (List UInt8))) (rows:=[[_],[_],[_],[_]]) (σ':=[aF]) [0] aAR r r r (gB r (gB r (gB r (gB r oB)))) r r<|aR r (hZ zD (oC r))<|mI r<|aG (fr':=[(1,aE),(4,aO),(29,aO),(30,aI),(31,aI)]) r r<|bx h8 fun x9 y9 h10=>gZ lB (fun j11=>x9=j11) (fun (j11:(List UInt8))=>([(1,aE),(4,AV.os 0 1 iT j11)]:Fr)) (fun (j11:(List UInt8))=>([[ci p0q.Kind,ci p0q.Time,.c (.str p0q.Workflow),.c (.str p0q.Run),.c (.str p0q.ID),.c (.str p0q.Name),ci p0q.Token,ci p0q.Event,ci p0q.Seq,ci p0q.N,ci p0q.Data.Kind,ci p0q.Data.Int,.c (.str p0q.Data.Text),.c (PV.ls 5 bT p0q.Data.Items),.c (PV.ls 1 fI p0q.Data.Keys),.c (.str p0q.Opts.Queue),ci p0q.Opts.ToStart,ci p0q.Opts.ToClose,ci p0q.Opts.Total,ci p0q.Opts.Beat,ci p0q.Opts.First,ci p0q.Opts.Coef,ci p0q.Opts.Most,ci p0q.Opts.Attempts,.c (PV.ls 1 fI p0q.Opts.Fatal),.c (PV.ls 20 dK p0q.Commands),.c (.str p0q.Parent)]]:St)) ?_ ?_
  ·
   refine cH<|gV _ (fun (s12:((List UInt8) × Int))=>([(1,aE),(4,AV.os 0 1 iT s12.1),(29,AV.os 1 1 fI ([p0q.Workflow,p0q.Run,p0q.ID,p0q.Name]:List (List UInt8))),(30,ci ((([p0q.Workflow,p0q.Run,p0q.ID,p0q.Name]:List (List UInt8))).length:Int)),(31,ci s12.2)]:Fr)) (fun (s12:((List UInt8) × Int))=>([[ci p0q.Kind,ci p0q.Time,.c (.str p0q.Workflow),.c (.str p0q.Run),.c (.str p0q.ID),.c (.str p0q.Name),ci p0q.Token,ci p0q.Event,ci p0q.Seq,ci p0q.N,ci p0q.Data.Kind,ci p0q.Data.Int,.c (.str p0q.Data.Text),.c (PV.ls 5 bT p0q.Data.Items),.c (PV.ls 1 fI p0q.Data.Keys),.c (.str p0q.Opts.Queue),ci p0q.Opts.ToStart,ci p0q.Opts.ToClose,ci p0q.Opts.Total,ci p0q.Opts.Beat,ci p0q.Opts.First,ci p0q.Opts.Coef,ci p0q.Opts.Most,ci p0q.Opts.Attempts,.c (PV.ls 1 fI p0q.Opts.Fatal),.c (PV.ls 20 dK p0q.Commands),.c (.str p0q.Parent)]]:St)) y9 (bC [320,464] 1 r r r r kL5 (bR r aD)) ?_
   intro s12 st12 hs12 ho12
   unfold uC at hs12
   refine aH<|aR r (gI r r)<|aG (fr':=[(1,aE),(4,aO),(29,aO),(30,aI),(31,aI),(32,aB)]) r r<|aZ<|cG hs12 r (fun b13 h13=>?_) (fun b13 h13=>?_)
   ·
    exact bF<|cZ<|aZ<|cH<|aZ<|bB<|bx h13 fun x14 y14 h15=>aR r (lF (cs:=[PV.str _]) aAR (oC r) r y14 r)<|aR r (gP (p:=PV.str _) lP r r)<|sS r<|aG (fr':=[(1,aE),(4,aO),(6,aS),(29,aO),(30,aI),(31,aI)]) r r<|bB<|mV (v:=aO) r<|mS r<|bx h15 fun x16 y16 h17=>lS (bL (v:=aO) r (rE y16) jN r r r)<|sV (v:=aO) r<|dM (fr':=[(1,aE),(4,aO),(6,aS),(29,aO),(30,aI),(31,aI)]) r<|cW<|cZ<|bB<|aR r (gC r r)<|mI r<|dM (fr':=[(1,aE),(4,aO),(6,aS),(29,aO),(30,aI),(31,aI)]) r<|zO _ (sy h17) (bC [592,1] 1 r r r r kL5 (bR r aD))
   ·
    refine hG<|cY<|cY<|fP ?_
    have h18:=eR h13 ho12
    exact iQ _ (sy h18) (bC [0] 1 r r r r jN (bR r aD))
  ·
   intro j11 hj19
   subst hj19
   refine cZ<|aZ<|aH<|aR r (bD aBW r)<|aR r (aK (v:=aI) fM r r r)<|aR r (bD aDZ r)<|aR r (aK (v:=aI) fM r r r)<|aR r (bD aCI r)<|aR r (aK (v:=aI) fM r r r)<|aR r (bD tB r)<|aR r (aK (v:=aI) fM r r r)<|uL (row:=(aHr .i64)) (xs:=([p0q.Token,p0q.Event,p0q.Seq,p0q.N]:List Int)) (rows:=[[_],[_],[_],[_]]) (σ':=[aF]) [0] aB8 r r r (gB r (gB r (gB r (gB r oB)))) r r<|aR r (hZ aRv (oC r))<|mI r<|aG (fr':=[(1,aE),(4,aO),(47,aO),(48,aI),(49,aI)]) r r<|bx h10 fun x20 y20 h21=>gZ lB (fun j22=>x20=j22) (fun (j22:(List UInt8))=>([(1,aE),(4,AV.os 0 1 iT j22)]:Fr)) (fun (j22:(List UInt8))=>([[ci p0q.Kind,ci p0q.Time,.c (.str p0q.Workflow),.c (.str p0q.Run),.c (.str p0q.ID),.c (.str p0q.Name),ci p0q.Token,ci p0q.Event,ci p0q.Seq,ci p0q.N,ci p0q.Data.Kind,ci p0q.Data.Int,.c (.str p0q.Data.Text),.c (PV.ls 5 bT p0q.Data.Items),.c (PV.ls 1 fI p0q.Data.Keys),.c (.str p0q.Opts.Queue),ci p0q.Opts.ToStart,ci p0q.Opts.ToClose,ci p0q.Opts.Total,ci p0q.Opts.Beat,ci p0q.Opts.First,ci p0q.Opts.Coef,ci p0q.Opts.Most,ci p0q.Opts.Attempts,.c (PV.ls 1 fI p0q.Opts.Fatal),.c (PV.ls 20 dK p0q.Commands),.c (.str p0q.Parent)]]:St)) ?_ ?_
   ·
    refine cH<|gV _ (fun (s23:((List UInt8) × Int))=>([(1,aE),(4,AV.os 0 1 iT s23.1),(47,AV.os 1 1 (aHr .i64) ([p0q.Token,p0q.Event,p0q.Seq,p0q.N]:List Int)),(48,ci ((([p0q.Token,p0q.Event,p0q.Seq,p0q.N]:List Int)).length:Int)),(49,ci s23.2)]:Fr)) (fun (s23:((List UInt8) × Int))=>([[ci p0q.Kind,ci p0q.Time,.c (.str p0q.Workflow),.c (.str p0q.Run),.c (.str p0q.ID),.c (.str p0q.Name),ci p0q.Token,ci p0q.Event,ci p0q.Seq,ci p0q.N,ci p0q.Data.Kind,ci p0q.Data.Int,.c (.str p0q.Data.Text),.c (PV.ls 5 bT p0q.Data.Items),.c (PV.ls 1 fI p0q.Data.Keys),.c (.str p0q.Opts.Queue),ci p0q.Opts.ToStart,ci p0q.Opts.ToClose,ci p0q.Opts.Total,ci p0q.Opts.Beat,ci p0q.Opts.First,ci p0q.Opts.Coef,ci p0q.Opts.Most,ci p0q.Opts.Attempts,.c (PV.ls 1 fI p0q.Opts.Fatal),.c (PV.ls 20 dK p0q.Commands),.c (.str p0q.Parent)]]:St)) y20 (bC [0,752] 1 r r r r kL5 (bR r aD)) ?_
    intro s23 st23 hs23 ho23
    unfold uD at hs23
    refine aH<|aR r (gI r r)<|aG (fr':=[(1,aE),(4,aO),(47,aO),(48,aI),(49,aI),(50,aB)]) r r<|aZ<|cG hs23 r (fun b24 h24=>?_) (fun b24 h24=>?_)
    ·
     exact bF<|cZ<|aZ<|cH<|aZ<|bB<|bx h24 fun x25 y25 h26=>aR r (lF (cs:=[PV.int _ _]) aB8 (oC r) r y25 r)<|aR r (gP (p:=PV.int _ _) fM r r)<|sI r<|aG (fr':=[(1,aE),(4,aO),(8,aI),(47,aO),(48,aI),(49,aI)]) r r<|bB<|mV (v:=aO) r<|mI r<|bx h26 fun x27 y27 h28=>lS (bL (v:=aO) r (jL y27) jN r r r)<|sV (v:=aO) r<|dM (fr':=[(1,aE),(4,aO),(8,aI),(47,aO),(48,aI),(49,aI)]) r<|cW<|cZ<|bB<|aR r (gC r r)<|mI r<|dM (fr':=[(1,aE),(4,aO),(8,aI),(47,aO),(48,aI),(49,aI)]) r<|zO _ (sy h28) (bC [880,1] 1 r r r r kL5 (bR r aD))
    ·
     refine hG<|cY<|cY<|fP ?_
     have h29:=eR h24 ho23
     exact iQ _ (sy h29) (bC [0] 1 r r r r jN (bR r aD))
   ·
    intro j22 hj30
    subst hj30
    refine cZ<|aH<|mV (v:=aO) r<|aR r (bD aB7 r)<|aR r (dL (us:=cE) iO r r r r)<|bx h21 fun x31 y31 h32=>lS (bL (v:=aO) r (aE6 y31) ⟨lr,(bQ r kR5),trivial⟩ r r r)<|sV (v:=aO) r<|aG (fr':=[(1,aE),(4,aO)]) r r<|aH<|mV (v:=aO) r<|aR r (bD xI r)<|aR r (aK (v:=aL) aGO r r r)<|aR r (hZ aId (eK r))<|bx h32 fun x33 y33 h34=>lS (bL (v:=aO) r (jL y33) jN r r r)<|sV (v:=aO) r<|aG (fr':=[(1,aE),(4,aO)]) r r<|aZ<|aH<|aR r (bD xI r)<|aR r (aK (v:=aL) aGO r r r)<|aR r (hZ aId (eK r))<|mI r<|aG (fr':=[(1,aE),(4,aO),(67,aL),(68,aI),(69,aI)]) r r<|bx h34 fun x35 y35 h36=>gZ lB (fun j37=>x35=j37) (fun (j37:(List UInt8))=>([(1,aE),(4,AV.os 0 1 iT j37)]:Fr)) (fun (j37:(List UInt8))=>([[ci p0q.Kind,ci p0q.Time,.c (.str p0q.Workflow),.c (.str p0q.Run),.c (.str p0q.ID),.c (.str p0q.Name),ci p0q.Token,ci p0q.Event,ci p0q.Seq,ci p0q.N,ci p0q.Data.Kind,ci p0q.Data.Int,.c (.str p0q.Data.Text),.c (PV.ls 5 bT p0q.Data.Items),.c (PV.ls 1 fI p0q.Data.Keys),.c (.str p0q.Opts.Queue),ci p0q.Opts.ToStart,ci p0q.Opts.ToClose,ci p0q.Opts.Total,ci p0q.Opts.Beat,ci p0q.Opts.First,ci p0q.Opts.Coef,ci p0q.Opts.Most,ci p0q.Opts.Attempts,.c (PV.ls 1 fI p0q.Opts.Fatal),.c (PV.ls 20 dK p0q.Commands),.c (.str p0q.Parent)]]:St)) ?_ ?_
    ·
     refine cH<|gV _ (fun (s38:((List UInt8) × Int))=>([(1,aE),(4,AV.os 0 1 iT s38.1),(67,.c (PV.ls 20 dK p0q.Commands)),(68,ci ((p0q.Commands).length:Int)),(69,ci s38.2)]:Fr)) (fun (s38:((List UInt8) × Int))=>([[ci p0q.Kind,ci p0q.Time,.c (.str p0q.Workflow),.c (.str p0q.Run),.c (.str p0q.ID),.c (.str p0q.Name),ci p0q.Token,ci p0q.Event,ci p0q.Seq,ci p0q.N,ci p0q.Data.Kind,ci p0q.Data.Int,.c (.str p0q.Data.Text),.c (PV.ls 5 bT p0q.Data.Items),.c (PV.ls 1 fI p0q.Data.Keys),.c (.str p0q.Opts.Queue),ci p0q.Opts.ToStart,ci p0q.Opts.ToClose,ci p0q.Opts.Total,ci p0q.Opts.Beat,ci p0q.Opts.First,ci p0q.Opts.Coef,ci p0q.Opts.Most,ci p0q.Opts.Attempts,.c (PV.ls 1 fI p0q.Opts.Fatal),.c (PV.ls 20 dK p0q.Commands),.c (.str p0q.Parent)]]:St)) y35 (bC [1040] 1 r r r r kL5 (bR r aD)) ?_
     intro s38 st38 hs38 ho38
     unfold aAL at hs38
     refine aH<|aR r (gI r r)<|aG (fr':=[(1,aE),(4,aO),(67,aL),(68,aI),(69,aI),(70,aB)]) r r<|aZ<|cG hs38 r (fun b39 h39=>?_) (fun b39 h39=>?_)
     ·
      exact bF<|cZ<|aZ<|cH<|aZ<|bB<|bx h39 fun x40 y40 h41=>aR r (lF (cs:=[PV.int _ _,PV.int _ _,PV.str _,PV.str _,PV.int _ _,PV.int _ _,PV.int _ _,PV.str _,PV.ls _ _ _,PV.ls _ _ _,PV.str _,PV.int _ _,PV.int _ _,PV.int _ _,PV.int _ _,PV.int _ _,PV.int _ _,PV.int _ _,PV.int _ _,PV.ls _ _ _]) aLF (eK r) r y40 r)<|aR r (lT (us:=[PV.int _ _,PV.int _ _,PV.str _,PV.str _,PV.int _ _,PV.int _ _,PV.int _ _,PV.str _,PV.ls _ _ _,PV.ls _ _ _,PV.str _,PV.int _ _,PV.int _ _,PV.int _ _,PV.int _ _,PV.int _ _,PV.int _ _,PV.int _ _,PV.int _ _,PV.ls _ _ _]) rB r r r)<|hO (n:=1) (cs:=aM) (σ':=[aF,aM]) aGQ r r r<|bM (v:=.agg aW) (us:=aW) (cs:=aM) (σ':=[aF,aW]) r rB r r r r r r r r<|aG (fr':=[(1,aE),(4,aO),(10,aU),(67,aL),(68,aI),(69,aI)]) r r<|bB<|mV (v:=aO) r<|aR r (dL (us:=aW) rB r r r r)<|bx h41 fun x42 y42 h43=>lS (bL (v:=aO) r (aHA y42) ⟨lr,(bQ r aDF),trivial⟩ r r r)<|sV (v:=aO) r<|dM (fr':=[(1,aE),(4,aO),(10,aU),(67,aL),(68,aI),(69,aI)]) r<|cW<|cZ<|bB<|aR r (gC r r)<|mI r<|dM (fr':=[(1,aE),(4,aO),(10,aU),(67,aL),(68,aI),(69,aI)]) r<|zO _ (sy h43) (bC [1200] 1 r r r r kL5 (bR r aD))
     ·
      refine hG<|cY<|cY<|fP ?_
      have h44:=eR h39 ho38
      exact iQ _ (sy h44) (bC [0] 1 r r r r jN (bR r aD))
    ·
     intro j37 hj45
     subst hj45
     refine cZ<|aH<|mV (v:=aO) r<|aR r (bD aAQ r)<|aR r (aK (v:=aS) lP r r r)<|bx h36 fun x46 y46 h47=>lS (bL (v:=aO) r (rE y46) jN r r r)<|sV (v:=aO) r<|aG (fr':=[(4,aO)]) r r<|aZ<|aH<|mV (v:=aO) r<|aR r (hZ aGM (oC r))<|aR r (qW r r)<|aG (fr':=[(4,aO),(83,aB)]) r r<|cG h47 r (fun b48 h48=>?_) (fun b48 h48=>?_)
     ·
      refine aH<|sV (v:=AV.nil) r<|sI r<|aG (fr':=[(2,AV.nil),(3,aI)]) r r<|bK<|aP ?_
      obtain rfl:=sy h48
      exact bJ (rs':=[.tmp 2,.tmp 3]) r<|bS (v:=AV.nil) r<|bS (v:=aI) r<|bI<|aN [1000000] r r r (mR r ⟨(aAt r),lr,trivial⟩) aD
     ·
      refine bF<|cZ<|aH<|mV (v:=aO) r<|sV (v:=aO) r<|sI r<|aG (fr':=[(2,aO),(3,aI)]) r r<|bK ?_
      obtain rfl:=sy h48
      exact bJ (rs':=[.tmp 2,.tmp 3]) r<|bS (v:=aO) r<|bS (v:=aI) r<|bI<|aN [1280] r r r (mR r jN) aD
noncomputable def jY (cV:aX):Option (Int × aX) :=
 (fF (-9223372036854775808) 9223372036854775807 cV).bind fun x1=>some (x1.1,x1.2)
theorem lO {cV:aX}{z:(Int × aX)} (h:jY cV=some z):cQ Tryz.prog 92 [.box 0 0] [AV.cs (eV cV)] (ci z.1) [AV.cs (eV z.2)]:=by
 unfold jY at h
 refine dF (fn:=Tryz.f92) [0,2] (by kernel_rfl) Tryz.func92 r (by kernel_rfl) (by kernel_rfl)<|aH<|sI r<|aG (fr':=[(0,aE)]) r r<|aH<|mV (v:=aE) r<|bx h fun x1 y1 h2=>cP (v:=aI) (σ':=[dG]) [0] r (jR y1) r r kA (eG nO aD) r r r<|sI r<|aG (fr':=[(2,aI)]) r r<|bK ?_
 obtain rfl:=sy h2
 exact bJ (rs':=[.tmp 2]) r<|bS (v:=aI) r<|bI<|aN [] r r r lr (eG nO aD)
noncomputable def oG (cV:aX):Option ((List UInt8) × aX) :=
 (iF 4096 cV).bind fun x1=>some (x1.1,x1.2)
theorem vL {cV:aX}{z:((List UInt8) × aX)} (h:oG cV=some z):cQ Tryz.prog 93 [.box 0 0] [AV.cs (eV cV)] (.c (.str z.1)) [AV.cs (eV z.2)]:=by
 unfold oG at h
 refine dF (fn:=Tryz.f93) [0,2] (by kernel_rfl) Tryz.func93 r (by kernel_rfl) (by kernel_rfl)<|aH<|sS r<|aG (fr':=[(0,aE)]) r r<|aH<|mV (v:=aE) r<|bx h fun x1 y1 h2=>cP (v:=aS) (σ':=[dG]) [0] r (mG y1) r r jN (eG nO aD) r r r<|sS r<|aG (fr':=[(2,aS)]) r r<|bK ?_
 obtain rfl:=sy h2
 exact bJ (rs':=[.tmp 2]) r<|bS (v:=aS) r<|bI<|aN [] r r r lr (eG nO aD)
noncomputable def xM (cV:aX):Option (bY × aX) :=
 (jF cV).bind fun x1=>(jF x1.2).bind fun x3=>(iF 4096 x3.2).bind fun x5=>(iF 4096 x5.2).bind fun x7=>(jF x7.2).bind fun x9=>(qO x9.2).bind fun x11=>(oR x11.2).bind fun x13=>(((gH x13.2).bind fun x18=>(gd ((decide (x18=0))==true) (sH (bY.mk x1.1 x3.1 x5.1 x7.1 x9.1 x11.1 x13.1))).bind fun x20=>cond (cond (decide (x18=0)) (!x20) false) ((jS 3 x13.2).bind fun x23=>some x23) (some x13.2)):Option aX).bind fun x15=>((gH x15).bind fun x26=>cond (!decide (x26=0)) (some ((bY.mk 0 0 ([]:List UInt8) ([]:List UInt8) 0 (aQ.mk 0 0 ([]:List UInt8) ([]:(List aQ)) ([]:(List (List UInt8)))) (dS.mk ([]:List UInt8) 0 0 0 0 0 0 0 0 ([]:(List (List UInt8))))),x15)) (some ((bY.mk x1.1 x3.1 x5.1 x7.1 x9.1 x11.1 x13.1),x15)))
theorem aHz {cV:aX}{z:(bY × aX)} (h:xM cV=some z):cQ Tryz.prog 95 [.box 0 0] [AV.cs (eV cV)] (.agg (AV.cs (dK z.1))) [AV.cs (eV z.2)]:=by
 unfold xM at h
 refine dF (fn:=Tryz.f95) [0,2,3,32,37] (by kernel_rfl) Tryz.func95 r (by kernel_rfl) (by kernel_rfl)<|aH<|hO (n:=1) (cs:=aM) (σ':=[dG,aM]) aGQ r r r<|aG (fr':=[(0,aE),(2,aU)]) r r<|aH<|hO (n:=2) (cs:=aM) (σ':=[dG,aM,aM]) aGQ r r r<|aG (fr':=[(0,aE),(2,aU),(3,cK)]) r r<|aH<|mV (v:=aE) r<|bx h fun x1 y1 h2=>cP (v:=aI) (σ':=[dG,aM,aM]) [0] r (kG y1) r r ⟨lr,trivial⟩ (eG nO aD) r r r<|mV (v:=aE) r<|bx h2 fun x3 y3 h4=>cP (v:=aI) (σ':=[dG,aM,aM]) [0] r (kG y3) r r ⟨lr,trivial⟩ (eG nO aD) r r r<|aR r (bD tJ r)<|bM (v:=aI) (us:=[aI]) (cs:=aM) (σ':=[dG,aM,aM]) r fM r r r r r r r r<|aR r (bD aB5 r)<|bM (v:=aI) (us:=[aI]) (cs:=aM) (σ':=[dG,aM,aM]) r fM r r r r r r r r<|aG (fr':=[(0,aE),(2,aU),(3,cK)]) r r<|aH<|mV (v:=aE) r<|bx h4 fun x5 y5 h6=>cP (v:=aS) (σ':=[dG,aM,aM]) [0] r (mG y5) r r jN (eG nO aD) r r r<|mV (v:=aE) r<|bx h6 fun x7 y7 h8=>cP (v:=aS) (σ':=[dG,aM,aM]) [0] r (mG y7) r r jN (eG nO aD) r r r<|aR r (bD aAP r)<|bM (v:=aS) (us:=[aS]) (cs:=aM) (σ':=[dG,aM,aM]) r lP r r r r r r r r<|aR r (bD aB6 r)<|bM (v:=aS) (us:=[aS]) (cs:=aM) (σ':=[dG,aM,aM]) r lP r r r r r r r r<|aG (fr':=[(0,aE),(2,aU),(3,cK)]) r r<|aH<|mV (v:=aE) r<|bx h8 fun x9 y9 h10=>cP (v:=aI) (σ':=[dG,aM,aM]) [0] r (kG y9) r r ⟨lr,trivial⟩ (eG nO aD) r r r<|aR r (bD uF r)<|bM (v:=aI) (us:=[aI]) (cs:=aM) (σ':=[dG,aM,aM]) r fM r r r r r r r r<|aG (fr':=[(0,aE),(2,aU),(3,cK)]) r r<|aH<|mV (v:=aE) r<|bx h10 fun x11 y11 h12=>cP (v:=.agg cE) (σ':=[dG,aM,aM]) [0] r (aA1 y11) r r ⟨lr,trivial⟩ (eG nO aD) r r r<|aR r (bD vW r)<|bM (v:=.agg cE) (us:=cE) (cs:=aM) (σ':=[dG,aM,iA]) r iO r r r r r r r r<|aG (fr':=[(0,aE),(2,aU),(3,cK)]) r r<|aH<|mV (v:=aE) r<|bx h12 fun x13 y13 h14=>cP (v:=.agg dO) (σ':=[dG,aM,iA]) [0] r (aAY y13) r r ⟨lr,trivial⟩ (eG nO aD) r r r<|aR r (bD aBp r)<|bM (v:=.agg dO) (us:=dO) (cs:=iA) (σ':=[dG,aM,aW]) r yT r r r r r r r r<|aG (fr':=[(0,aE),(2,aU),(3,cK)]) r r<|bx h14 fun x15 y15 h16=>hH (fun j17=>x15=j17) (fun (j17:aX)=>([(0,aE),(2,aU),(3,cK)]:Fr)) (fun (j17:aX)=>([[.c (PV.ls 1 iT j17.b_),ci j17.at_,ci j17.err_,.c (.bool j17.made_)],[ci 0,ci 0,.c (.str ([]:List UInt8)),.c (.str ([]:List UInt8)),ci 0,ci 0,ci 0,.c (.str ([]:List UInt8)),AV.nil,AV.nil,.c (.str ([]:List UInt8)),ci 0,ci 0,ci 0,ci 0,ci 0,ci 0,ci 0,ci 0,AV.nil],[ci x1.1,ci x3.1,.c (.str x5.1),.c (.str x7.1),ci x9.1,ci x11.1.Kind,ci x11.1.Int,.c (.str x11.1.Text),.c (PV.ls 5 bT x11.1.Items),.c (PV.ls 1 fI x11.1.Keys),.c (.str x13.1.Queue),ci x13.1.ToStart,ci x13.1.ToClose,ci x13.1.Total,ci x13.1.Beat,ci x13.1.First,ci x13.1.Coef,ci x13.1.Most,ci x13.1.Attempts,.c (PV.ls 1 fI x13.1.Fatal)]]:St)) ?_ ?_
 ·
  refine aH<|mV (v:=aE) r<|bx y15 fun x18 y18 h19=>cP (v:=aI) (σ':=[dG,aM,aW]) [0] r (iB y18) r r ⟨lr,trivial⟩ (eG nO aD) r r r<|aR r (bU r r)<|mB r<|og r r r (fun u=>(dL (us:=aW) rB r r r r))<|bx h19 fun x20 y20 h21=>sX r r (fun u=>bL (v:=aB) r (zZ (cU y20 u)) ⟨(eW (gx r u) (bQ r aDF)),trivial⟩ (fT (by repeat (first | exact eN | refine aY r ?_ | refine aY (pP r) ?_ | refine aY pO ?_))) r r) ?_
  refine og r r r (fun u=>(fE (gx r u)))<|aR r (bV r r r (fun e=>fJ e))<|aG (fr':=[(0,aE),(2,aU),(3,cK),(32,aB)]) r r<|cG h21 r (fun b22 h22=>?_) (fun b22 h22=>?_)
  ·
   exact bB<|mV (v:=aE) r<|bx h22 fun x23 y23 h24=>cP (v:=_) (σ':=[dG,aM,aW]) [0] r (oO y23) r r jN (eG nO aD) r r r<|dM (fr':=[(0,aE),(2,aU),(3,cK),(32,aB)]) r<|iQ _ (sy h24) (bC [] 3 r r r r kA (bR r (bR r (bR r aD))))
  ·
   exact bF<|iQ _ (sy h22) (bC [] 3 r r r r kA (bR r (bR r (bR r aD))))
 ·
  intro j17 hj25
  subst hj25
  refine aZ<|aH<|mV (v:=aE) r<|bx h16 fun x26 y26 h27=>cP (v:=aI) (σ':=[dG,aM,aW]) [0] r (iB y26) r r ⟨lr,trivial⟩ (eG nO aD) r r r<|aR r (iS r r)<|aG (fr':=[(2,aU),(3,cK),(37,aB)]) r r<|cG h27 r (fun b28 h28=>?_) (fun b28 h28=>?_)
  ·
   refine aH<|aR r (iD (c0:=aM) (cs:=aM) aKP r iC)<|bM (v:=.agg aM) (us:=aM) (cs:=aM) (σ':=[dG,aM,aW]) r rB r r r r r r r r<|aG (fr':=[(2,aU)]) r r<|bK<|aP ?_
   obtain rfl:=sy h28
   exact bJ (rs':=[.cell 2 103]) r<|dY (us:=aM) (cs:=aM) rB r r r r<|bI<|aN [] r r r (bQ r ⟨r,r,r,r,r,r,r,r,⟨_,r⟩,⟨_,r⟩,r,r,r,r,r,r,r,r,r,⟨_,r⟩,trivial⟩) (eG nO aD)
  ·
   refine bF<|cZ<|aH<|aR r (dL (us:=aW) rB r r r r)<|bM (v:=.agg aW) (us:=aW) (cs:=aM) (σ':=[dG,aW,aW]) r rB r r r r r r r r<|aG (fr':=[(2,aU)]) r r<|bK ?_
   obtain rfl:=sy h28
   exact bJ (rs':=[.cell 2 103]) r<|dY (us:=aW) (cs:=aW) rB r r r r<|bI<|aN [] r r r (bQ r aDF) (eG nO aD)
noncomputable def eH (x1:(Int × aX)) (s17:((List bY) × Int × aX)):Option (dU ((List bY) × Int × aX) ((List bY) × aX)) :=
 ((cond (decide (s17.2.1<x1.1)) ((gH s17.2.2).bind fun x22=>cond (decide (x22=0)) (some (Fl.go ())) (some (Fl.done (dU.out (s17.1,s17.2.2))))) (some (Fl.done (dU.out (s17.1,s17.2.2))))):Option (Fl (dU ((List bY) × Int × aX) ((List bY) × aX)) Unit)).bind fun x18=>Fl.next x18 (fun j20=>((xM s17.2.2).bind fun x30=>(app 240 s17.1 ([x30.1]:List bY)).bind fun x32=>some (dU.next (x32,(IntKind.wrap .i64 (s17.2.1+1)),x30.2))))
noncomputable def gK (sD:Int) (cV:aX):Option ((List bY) × aX) :=
 (jY cV).bind fun x1=>(((gH x1.2).bind fun x6=>(gd ((decide (x6=0))==true) (oM x1.1 0 sD)).bind fun x8=>cond (cond (decide (x6=0)) (!x8) false) ((jS 3 x1.2).bind fun x11=>some x11) (some x1.2)):Option aX).bind fun x3=>((fK (eH x1) ((([]:(List bY)),0,x3))).bind fun x14=>(some (x14.1,x14.2)))
theorem vJ {sD:Int}{cV:aX}{z:((List bY) × aX)} (h:gK sD cV=some z):cQ Tryz.prog 94 [.box 0 0,ci sD,.fn 95 []] [AV.cs (eV cV)] (AV.os 0 20 dK z.1) [AV.cs (eV z.2)]:=by
 unfold gK at h
 refine dF (fn:=Tryz.f94) [0,1,2,6,7,8,9,20,30] (by kernel_rfl) Tryz.func94 r (by kernel_rfl) (by kernel_rfl)<|aH<|sV (v:=AV.nil) r<|aG (fr':=[(0,aE),(1,aI),(2,.fn _ [])]) r r<|aH<|mV (v:=aE) r<|bx h fun x1 y1 h2=>cP (v:=aI) (σ':=[dG]) [0] r (lO y1) r r ⟨lr,trivial⟩ (eG nO aD) r r r<|sI r<|aG (fr':=[(0,aE),(1,aI),(2,.fn _ []),(7,aI)]) r r<|bx h2 fun x3 y3 h4=>hH (fun j5=>x3=j5) (fun (j5:aX)=>([(0,aE),(2,.fn 95 []),(7,ci x1.1)]:Fr)) (fun (j5:aX)=>([[.c (PV.ls 1 iT j5.b_),ci j5.at_,ci j5.err_,.c (.bool j5.made_)]]:St)) ?_ ?_
 ·
  refine aH<|mV (v:=aE) r<|bx y3 fun x6 y6 h7=>cP (v:=aI) (σ':=[dG]) [0] r (iB y6) r r ⟨lr,trivial⟩ (eG nO aD) r r r<|aR r (bU r r)<|mB r<|og r r r (fun u=>(bN (v:=aI) r))<|og r r r (fun u=>(bN (v:=aI) r))<|bx h7 fun x8 y8 h9=>sX r r (fun u=>bL (v:=aB) r (pK (cU y8 u)) ⟨(eW (gx r u) lr),lr,(eW (gx r u) lr),trivial⟩ (fT (by repeat (first | exact eN | refine aY r ?_ | refine aY (pP r) ?_ | refine aY pO ?_))) r r) ?_
  refine og r r r (fun u=>(fE (gx r u)))<|aR r (bV r r r (fun e=>fJ e))<|aG (fr':=[(0,aE),(2,.fn _ []),(7,aI),(20,aB)]) r r<|cG h9 r (fun b10 h10=>?_) (fun b10 h10=>?_)
  ·
   exact bB<|mV (v:=aE) r<|bx h10 fun x11 y11 h12=>cP (v:=_) (σ':=[dG]) [0] r (oO y11) r r jN (eG nO aD) r r r<|dM (fr':=[(0,aE),(2,.fn _ []),(7,aI),(20,aB)]) r<|iQ _ (sy h12) (bC [] 1 r r r r kA (bR r aD))
  ·
   exact bF<|iQ _ (sy h10) (bC [] 1 r r r r kA (bR r aD))
 ·
  intro j5 hj13
  subst hj13
  refine aH<|sV (v:=AV.nil) r<|aG (fr':=[(0,aE),(2,.fn _ []),(7,aI),(8,AV.nil)]) r r<|aZ<|aH<|sI r<|aG (fr':=[(0,aE),(2,.fn _ []),(7,aI),(8,AV.nil),(9,aI)]) r r<|bx h4 fun x14 y14 h15=>gZ lB (fun j16=>x14=j16) (fun (j16:((List bY) × aX))=>([(8,AV.os 0 20 dK j16.1)]:Fr)) (fun (j16:((List bY) × aX))=>([[.c (PV.ls 1 iT j16.2.b_),ci j16.2.at_,ci j16.2.err_,.c (.bool j16.2.made_)]]:St)) ?_ ?_
  ·
   refine cH<|gV _ (fun (s17:((List bY) × Int × aX))=>([(0,aE),(2,.fn 95 []),(7,ci x1.1),(8,AV.os 0 20 dK s17.1),(9,ci s17.2.1)]:Fr)) (fun (s17:((List bY) × Int × aX))=>([[.c (PV.ls 1 iT s17.2.2.b_),ci s17.2.2.at_,ci s17.2.2.err_,.c (.bool s17.2.2.made_)]]:St)) y14 (bC [1000000] 1 r r r r ⟨lr,lr,lr,(aAt r),lr,trivial⟩ (bR r aD)) ?_
   intro s17 st17 hs17 ho17
   unfold eH at hs17
   obtain ⟨x18,y18,h19⟩:=iW hs17
   refine hH (fun j20=>x18=Fl.go j20) (fun (j20:Unit)=>([(0,aE),(2,.fn 95 []),(7,ci x1.1),(8,AV.os 0 20 dK s17.1),(9,ci s17.2.1)]:Fr)) (fun (j20:Unit)=>([[.c (PV.ls 1 iT s17.2.2.b_),ci s17.2.2.at_,ci s17.2.2.err_,.c (.bool s17.2.2.made_)]]:St)) ?_ ?_
   ·
    refine aH<|mI r<|mI r<|aR r (gI r r)<|mB r<|aN7 y18 (fun b21 h21=>?_) (fun b21 h21=>?_)
    ·
     refine oE r r b21<|mV (v:=aE) r<|oE r r b21<|bx h21 fun x22 y22 h23=>cP (v:=aI) (σ':=[dG]) [0] r (iB y22) r r ⟨lr,trivial⟩ (eG nO aD) r r r<|oE r r b21<|aR r (bU r r)<|aR r (aCw r b21 r)<|aG (fr':=[(0,aE),(2,.fn _ []),(7,aI),(8,aO),(9,aI),(30,aB)]) r r<|cG h23 r (fun b24 h24=>?_) (fun b24 h24=>?_)
     ·
      exact bF<|iQ _ (sy h24) (bC [0] 1 r r r r kL5 (bR r aD))
     ·
      refine hG<|cY<|cY<|fP ?_
      have h25:=fL h24 h19
      have h26:=eR h25 ho17
      exact iQ _ (sy h26) (bC [0] 1 r r r r ⟨lr,trivial⟩ (bR r aD))
    ·
     refine aDn r r b21<|aDn r r b21<|aDn r r b21<|aR r (wL r b21 r)<|aG (fr':=[(0,aE),(2,.fn _ []),(7,aI),(8,aO),(9,aI),(30,aB)]) r r<|yI r<|hG<|cY<|cY<|fP ?_
     have h27:=fL h21 h19
     have h28:=eR h27 ho17
     exact iQ _ (sy h28) (bC [0] 1 r r r r ⟨lr,trivial⟩ (bR r aD))
   ·
    intro j20 hj29
    have h29:=lV hj29 h19
    exact aZ<|cH<|bB<|mV (v:=aO) r<|mV (v:=.fn _ []) r<|mV (v:=aE) r<|bx h29 fun x30 y30 h31=>cP (v:=.agg aW) (σ':=[dG]) [0] r (aHz y30) r r ⟨lr,trivial⟩ (eG nO aD) r r r<|uL (row:=dK) (xs:=([x30.1]:List bY)) (rows:=[[_,_,_,_,_,_,_,_,_,_,_,_,_,_,_,_,_,_,_,_]]) (σ':=[dG]) [0,0,0,0,0,0,0,0,5,1,0,0,0,0,0,0,0,0,0,1] aLF r r r (gB r oB) r r<|bx h31 fun x32 y32 h33=>aCt (row:=dK) aLF r aId r (oC r) (fun _=>r) y32<|sV (v:=aO) r<|dM (fr':=[(0,aE),(2,.fn _ []),(7,aI),(8,aO),(9,aI)]) r<|cW<|cZ<|bB<|mI r<|aR r (gC r r)<|sI r<|dM (fr':=[(0,aE),(2,.fn _ []),(7,aI),(8,aO),(9,aI)]) r<|zO _ (sy h33) (bC [608] 1 r r r r kL5 (bR r aD))
  ·
   intro j16 hj34
   subst hj34
   refine cZ<|aH<|mV (v:=aO) r<|sV (v:=aO) r<|aG (fr':=[(6,aO)]) r r<|bK ?_
   obtain rfl:=sy h15
   exact bJ (rs':=[.tmp 6]) r<|bS (v:=aO) r<|bI<|aN [0] r r r lr (eG nO aD)
noncomputable def qZ (p0b:(List UInt8)):Option (dE × Int) :=
 (aAp p0b).bind fun x1=>(jY x1).bind fun x3=>(jY x3.2).bind fun x5=>(oG x5.2).bind fun x7=>(oG x7.2).bind fun x9=>(oG x9.2).bind fun x11=>(oG x11.2).bind fun x13=>(jY x13.2).bind fun x15=>(jY x15.2).bind fun x17=>(jY x17.2).bind fun x19=>(jY x19.2).bind fun x21=>(qO x21.2).bind fun x23=>(gK 200 x23.2).bind fun x25=>(oG x25.2).bind fun x27=>(pU x27.2).bind fun x29=>cond (!decide (x29=0)) (some ((dE.mk 0 0 ([]:List UInt8) ([]:List UInt8) ([]:List UInt8) ([]:List UInt8) 0 0 0 0 (aQ.mk 0 0 ([]:List UInt8) ([]:(List aQ)) ([]:(List (List UInt8)))) (dS.mk ([]:List UInt8) 0 0 0 0 0 0 0 0 ([]:(List (List UInt8)))) ([]:(List bY)) ([]:List UInt8)),x29)) ((wU (dE.mk x3.1 x5.1 x7.1 x9.1 x11.1 x13.1 x15.1 x17.1 x19.1 x21.1 x23.1 (dS.mk ([]:List UInt8) 0 0 0 0 0 0 0 0 ([]:(List (List UInt8)))) x25.1 x27.1)).bind fun x33=>cond (!x33) (some ((dE.mk 0 0 ([]:List UInt8) ([]:List UInt8) ([]:List UInt8) ([]:List UInt8) 0 0 0 0 (aQ.mk 0 0 ([]:List UInt8) ([]:(List aQ)) ([]:(List (List UInt8)))) (dS.mk ([]:List UInt8) 0 0 0 0 0 0 0 0 ([]:(List (List UInt8)))) ([]:(List bY)) ([]:List UInt8)),3)) (some ((dE.mk x3.1 x5.1 x7.1 x9.1 x11.1 x13.1 x15.1 x17.1 x19.1 x21.1 x23.1 (dS.mk ([]:List UInt8) 0 0 0 0 0 0 0 0 ([]:(List (List UInt8)))) x25.1 x27.1),0)))
theorem aDx {p0b:(List UInt8)}{z:(dE × Int)} (h:qZ p0b=some z):cQ Tryz.prog 37 [.c (PV.ls 1 iT p0b)] [] (.tup [.agg (AV.cs (nF z.1)),ci z.2]) []:=by
 unfold qZ at h
 refine dF (fn:=Tryz.f37) [0,2,3,4,5,6,51,56] (by kernel_rfl) Tryz.func37 r (by kernel_rfl) (by kernel_rfl)<|aH<|hO (n:=0) (cs:=aC) (σ':=[aC]) aJ9 r r r<|sI r<|aG (fr':=[(0,aL),(2,aE)]) r r<|aH<|mL r<|bx h fun x1 y1 h2=>cP (v:=aU) (σ':=[aC,dG]) [] r (aH2 y1) r r ⟨lr,trivial⟩ aD r r r<|sV (v:=aU) r<|aG (fr':=[(2,aE),(4,aU)]) r r<|aH<|hO (n:=2) (cs:=aC) (σ':=[aC,dG,aC]) aJ9 r r r<|aG (fr':=[(2,aE),(4,aU),(5,cK)]) r r<|aH<|mV (v:=aU) r<|bx h2 fun x3 y3 h4=>cP (v:=aI) (σ':=[aC,dG,aC]) [1] r (lO y3) r r ⟨lr,trivial⟩ (eG nO aD) r r r<|mV (v:=aU) r<|bx h4 fun x5 y5 h6=>cP (v:=aI) (σ':=[aC,dG,aC]) [1] r (lO y5) r r ⟨lr,trivial⟩ (eG nO aD) r r r<|aR r (bD tA r)<|bM (v:=aI) (us:=[aI]) (cs:=aC) (σ':=[aC,dG,aC]) r fM r r r r r r r r<|aR r (bD aEV r)<|bM (v:=aI) (us:=[aI]) (cs:=aC) (σ':=[aC,dG,aC]) r fM r r r r r r r r<|aG (fr':=[(2,aE),(4,aU),(5,cK)]) r r<|aH<|mV (v:=aU) r<|bx h6 fun x7 y7 h8=>cP (v:=aS) (σ':=[aC,dG,aC]) [1] r (vL y7) r r ⟨lr,trivial⟩ (eG nO aD) r r r<|mV (v:=aU) r<|bx h8 fun x9 y9 h10=>cP (v:=aS) (σ':=[aC,dG,aC]) [1] r (vL y9) r r ⟨lr,trivial⟩ (eG nO aD) r r r<|mV (v:=aU) r<|bx h10 fun x11 y11 h12=>cP (v:=aS) (σ':=[aC,dG,aC]) [1] r (vL y11) r r ⟨lr,trivial⟩ (eG nO aD) r r r<|mV (v:=aU) r<|bx h12 fun x13 y13 h14=>cP (v:=aS) (σ':=[aC,dG,aC]) [1] r (vL y13) r r ⟨lr,trivial⟩ (eG nO aD) r r r<|aR r (bD aDX r)<|bM (v:=aS) (us:=[aS]) (cs:=aC) (σ':=[aC,dG,aC]) r lP r r r r r r r r<|aR r (bD aDY r)<|bM (v:=aS) (us:=[aS]) (cs:=aC) (σ':=[aC,dG,aC]) r lP r r r r r r r r<|aR r (bD aCH r)<|bM (v:=aS) (us:=[aS]) (cs:=aC) (σ':=[aC,dG,aC]) r lP r r r r r r r r<|aR r (bD yC r)<|bM (v:=aS) (us:=[aS]) (cs:=aC) (σ':=[aC,dG,aC]) r lP r r r r r r r r<|aG (fr':=[(2,aE),(4,aU),(5,cK)]) r r<|aH<|mV (v:=aU) r<|bx h14 fun x15 y15 h16=>cP (v:=aI) (σ':=[aC,dG,aC]) [1] r (lO y15) r r ⟨lr,trivial⟩ (eG nO aD) r r r<|mV (v:=aU) r<|bx h16 fun x17 y17 h18=>cP (v:=aI) (σ':=[aC,dG,aC]) [1] r (lO y17) r r ⟨lr,trivial⟩ (eG nO aD) r r r<|mV (v:=aU) r<|bx h18 fun x19 y19 h20=>cP (v:=aI) (σ':=[aC,dG,aC]) [1] r (lO y19) r r ⟨lr,trivial⟩ (eG nO aD) r r r<|mV (v:=aU) r<|bx h20 fun x21 y21 h22=>cP (v:=aI) (σ':=[aC,dG,aC]) [1] r (lO y21) r r ⟨lr,trivial⟩ (eG nO aD) r r r<|aR r (bD aBW r)<|bM (v:=aI) (us:=[aI]) (cs:=aC) (σ':=[aC,dG,aC]) r fM r r r r r r r r<|aR r (bD aDZ r)<|bM (v:=aI) (us:=[aI]) (cs:=aC) (σ':=[aC,dG,aC]) r fM r r r r r r r r<|aR r (bD aCI r)<|bM (v:=aI) (us:=[aI]) (cs:=aC) (σ':=[aC,dG,aC]) r fM r r r r r r r r<|aR r (bD tB r)<|bM (v:=aI) (us:=[aI]) (cs:=aC) (σ':=[aC,dG,aC]) r fM r r r r r r r r<|aG (fr':=[(2,aE),(4,aU),(5,cK)]) r r<|aH<|mV (v:=aU) r<|bx h22 fun x23 y23 h24=>cP (v:=.agg cE) (σ':=[aC,dG,aC]) [1] r (aA1 y23) r r ⟨lr,trivial⟩ (eG nO aD) r r r<|aR r (bD aB7 r)<|bM (v:=.agg cE) (us:=cE) (cs:=aC) (σ':=[aC,dG,mJ]) r iO r r r r r r r r<|aG (fr':=[(2,aE),(4,aU),(5,cK)]) r r<|aH<|mV (v:=aU) r<|bx h24 fun x25 y25 h26=>cP (v:=aO) (σ':=[aC,dG,mJ]) [1] r (vJ y25) r r kA (eG nO aD) r r r<|aR r (bD xI r)<|bM (v:=aO) (us:=[aO]) (cs:=mJ) (σ':=[aC,dG,[aI,aI,aS,aS,aS,aS,aI,aI,aI,aI,aI,aI,aS,aL,aL,aS,aI,aI,aI,aI,aI,aI,aI,aI,AV.nil,aO,aS]]) r aGO r r r r r r r r<|aG (fr':=[(2,aE),(4,aU),(5,cK)]) r r<|aH<|mV (v:=aU) r<|bx h26 fun x27 y27 h28=>cP (v:=aS) (σ':=[aC,dG,[aI,aI,aS,aS,aS,aS,aI,aI,aI,aI,aI,aI,aS,aL,aL,aS,aI,aI,aI,aI,aI,aI,aI,aI,AV.nil,aO,aS]]) [1] r (vL y27) r r ⟨lr,trivial⟩ (eG nO aD) r r r<|aR r (bD aAQ r)<|bM (v:=aS) (us:=[aS]) (cs:=[aI,aI,aS,aS,aS,aS,aI,aI,aI,aI,aI,aI,aS,aL,aL,aS,aI,aI,aI,aI,aI,aI,aI,aI,AV.nil,aO,aS]) (σ':=[aC,dG,[aI,aI,aS,aS,aS,aS,aI,aI,aI,aI,aI,aI,aS,aL,aL,aS,aI,aI,aI,aI,aI,aI,aI,aI,AV.nil,aO,aS]]) r lP r r r r r r r r<|aG (fr':=[(2,aE),(4,aU),(5,cK)]) r r<|aZ<|aH<|mV (v:=aU) r<|bx h28 fun x29 y29 h30=>cP (v:=aI) (σ':=[aC,dG,[aI,aI,aS,aS,aS,aS,aI,aI,aI,aI,aI,aI,aS,aL,aL,aS,aI,aI,aI,aI,aI,aI,aI,aI,AV.nil,aO,aS]]) [1] r (aC3 y29) r r ⟨lr,trivial⟩ (eG nO aD) r r r<|sI r<|aG (fr':=[(2,aE),(5,cK),(6,aI)]) r r<|aH<|mI r<|aR r (iS r r)<|aG (fr':=[(2,aE),(5,cK),(6,aI),(51,aB)]) r r<|cG h30 r (fun b31 h31=>?_) (fun b31 h31=>?_)
 ·
  refine aH<|aR r (iD (c0:=aC) (cs:=aC) aM7 r iC)<|mI r<|bM (v:=.agg aC) (us:=aC) (cs:=aC) (σ':=[aC,dG,[aI,aI,aS,aS,aS,aS,aI,aI,aI,aI,aI,aI,aS,aL,aL,aS,aI,aI,aI,aI,aI,aI,aI,aI,AV.nil,aO,aS]]) r vM r r r r r r r r<|sI r<|aG (fr':=[(2,aE),(3,aI)]) r r<|bK<|aP ?_
  obtain rfl:=sy h31
  exact bJ (rs':=[.cell 2 57,.tmp 3]) r<|dY (us:=aC) (cs:=aC) vM r r r r<|bS (v:=aI) r<|bI<|aN [] r r r (mR r ⟨(bQ r ⟨r,r,r,r,r,r,r,r,r,r,r,r,r,⟨_,r⟩,⟨_,r⟩,r,r,r,r,r,r,r,r,r,⟨_,r⟩,⟨_,r⟩,r,trivial⟩),lr,trivial⟩) aD
 ·
  refine bF<|cZ<|aZ<|aH<|aR r (dL (us:=[aI,aI,aS,aS,aS,aS,aI,aI,aI,aI,aI,aI,aS,aL,aL,aS,aI,aI,aI,aI,aI,aI,aI,aI,AV.nil,aO,aS]) vM r r r r)<|bx h31 fun x33 y33 h34=>lS (bL (v:=aB) r (aEk y33) ⟨(bQ r ⟨r,r,r,r,r,r,r,r,r,r,r,r,r,r,r,r,r,r,r,r,r,r,r,r,⟨_,r⟩,r,r,trivial⟩),trivial⟩ r r r)<|aR r (fE r)<|aG (fr':=[(2,aE),(5,cK),(56,aB)]) r r<|cG h34 r (fun b35 h35=>?_) (fun b35 h35=>?_)
  ·
   refine aH<|aR r (iD (c0:=aC) (cs:=aC) aM7 r iC)<|bM (v:=.agg aC) (us:=aC) (cs:=aC) (σ':=[aC,dG,[aI,aI,aS,aS,aS,aS,aI,aI,aI,aI,aI,aI,aS,aL,aL,aS,aI,aI,aI,aI,aI,aI,aI,aI,AV.nil,aO,aS]]) r vM r r r r r r r r<|sI r<|aG (fr':=[(2,aE),(3,aI)]) r r<|bK<|aP ?_
   obtain rfl:=sy h35
   exact bJ (rs':=[.cell 2 57,.tmp 3]) r<|dY (us:=aC) (cs:=aC) vM r r r r<|bS (v:=aI) r<|bI<|aN [] r r r (mR r ⟨(bQ r ⟨r,r,r,r,r,r,r,r,r,r,r,r,r,⟨_,r⟩,⟨_,r⟩,r,r,r,r,r,r,r,r,r,⟨_,r⟩,⟨_,r⟩,r,trivial⟩),lr,trivial⟩) aD
  ·
   refine bF<|cZ<|aH<|aR r (dL (us:=[aI,aI,aS,aS,aS,aS,aI,aI,aI,aI,aI,aI,aS,aL,aL,aS,aI,aI,aI,aI,aI,aI,aI,aI,AV.nil,aO,aS]) vM r r r r)<|bM (v:=.agg [aI,aI,aS,aS,aS,aS,aI,aI,aI,aI,aI,aI,aS,aL,aL,aS,aI,aI,aI,aI,aI,aI,aI,aI,AV.nil,aO,aS]) (us:=[aI,aI,aS,aS,aS,aS,aI,aI,aI,aI,aI,aI,aS,aL,aL,aS,aI,aI,aI,aI,aI,aI,aI,aI,AV.nil,aO,aS]) (cs:=aC) (σ':=[[aI,aI,aS,aS,aS,aS,aI,aI,aI,aI,aI,aI,aS,aL,aL,aS,aI,aI,aI,aI,aI,aI,aI,aI,AV.nil,aO,aS],dG,[aI,aI,aS,aS,aS,aS,aI,aI,aI,aI,aI,aI,aS,aL,aL,aS,aI,aI,aI,aI,aI,aI,aI,aI,AV.nil,aO,aS]]) r vM r r r r r r r r<|sI r<|aG (fr':=[(2,aE),(3,aI)]) r r<|bK ?_
   obtain rfl:=sy h35
   exact bJ (rs':=[.cell 2 57,.tmp 3]) r<|dY (us:=[aI,aI,aS,aS,aS,aS,aI,aI,aI,aI,aI,aI,aS,aL,aL,aS,aI,aI,aI,aI,aI,aI,aI,aI,AV.nil,aO,aS]) (cs:=[aI,aI,aS,aS,aS,aS,aI,aI,aI,aI,aI,aI,aS,aL,aL,aS,aI,aI,aI,aI,aI,aI,aI,aI,AV.nil,aO,aS]) vM r r r r<|bS (v:=aI) r<|bI<|aN [] r r r (mR r ⟨(bQ r ⟨r,r,r,r,r,r,r,r,r,r,r,r,r,r,r,r,r,r,r,r,r,r,r,r,⟨_,r⟩,r,r,trivial⟩),lr,trivial⟩) aD
noncomputable def qC (p0a:(List bY)) (p1b:(List bY)) (s6:Int):Option (dU Int (Fl Bool Unit)) :=
 cond (decide (s6<((p0a).length:Int))) ((nG p0a s6).bind fun x8=>(nG p1b s6).bind fun x10=>(aAd x8 x10).bind fun x12=>cond (!x12) (some (dU.out (Fl.done false))) (some (dU.next (IntKind.wrap .i64 (s6+1))))) (some (dU.out (Fl.go ())))
noncomputable def oL (p0a:(List bY)) (p1b:(List bY)):Option Bool :=
 cond (!decide (((p0a).length:Int)=((p1b).length:Int))) (some false) ((fK (qC p0a p1b) (0)).bind fun x3=>Fl.next x3 (fun j5=>(some true)))
theorem aE4 {p0a:(List bY)}{p1b:(List bY)}{z:Bool} (h:oL p0a p1b=some z):cQ Tryz.prog 96 [.c (PV.ls 20 dK p0a),.c (PV.ls 20 dK p1b)] [] (.c (.bool z)) []:=by
 unfold oL at h
 refine dF (fn:=Tryz.f96) [0,1,4,5,10,14,26] (by kernel_rfl) Tryz.func96 r (by kernel_rfl) (by kernel_rfl)<|aH<|sB r<|aG (fr':=[(0,aL),(1,aL)]) r r<|aZ<|aH<|mL r<|aR r (hZ aId (eK r))<|mL r<|aR r (hZ aId (eK r))<|aR r (iS r r)<|aG (fr':=[(0,aL),(1,aL),(10,aB)]) r r<|cG h r (fun b1 h1=>?_) (fun b1 h1=>?_)
 ·
  refine aH<|sB r<|aG (fr':=[(4,aB)]) r r<|bK<|aP ?_
  obtain rfl:=sy h1
  exact bJ (rs':=[.tmp 4]) r<|bS (v:=aB) r<|bI<|aN [] r r r lr aD
 ·
  refine bF<|cZ<|aZ<|aH<|sI r<|aG (fr':=[(0,aL),(1,aL),(5,aI)]) r r<|bx h1 fun x3 y3 h4=>gZ lB (fun j5=>x3=Fl.go j5) (fun (j5:Unit)=>([]:Fr)) (fun (j5:Unit)=>([]:St)) ?_ ?_
  ·
   refine cH<|gV _ (fun (s6:Int)=>([(0,.c (PV.ls 20 dK p0a)),(1,.c (PV.ls 20 dK p1b)),(5,ci s6)]:Fr)) (fun (s6:Int)=>([]:St)) y3 (bC [] 0 r r r r kA aD) ?_
   intro s6 st6 hs6 ho6
   unfold qC at hs6
   refine aZ<|aH<|mI r<|mL r<|aR r (hZ aId (eK r))<|aR r (gI r r)<|aG (fr':=[(0,aL),(1,aL),(5,aI),(14,aB)]) r r<|cG hs6 r (fun b7 h7=>?_) (fun b7 h7=>?_)
   ·
    refine bF<|cZ<|aZ<|cH<|aZ<|kV [.q 0,.q 1,.q 2,.q 3,.q 4,.q 5,.q 6,.q 7,.q 8,.q 9] [(some 17,[0]),(some 18,[5]),(some 19,[17,18]),(some 20,[19]),(some 21,[1]),(some 22,[5]),(some 23,[21,22]),(some 24,[23]),(some 25,[20,24]),(some 26,[25])] [0,0,3,7,0,0,48,112,255,511] (by kernel_rfl)<|dq r r (bN (v:=aL) r)<|dq r r (bN (v:=aI) r)<|bx h7 fun x8 y8 h9=>dq r r (lF (cs:=[PV.int _ _,PV.int _ _,PV.str _,PV.str _,PV.int _ _,PV.int _ _,PV.int _ _,PV.str _,PV.ls _ _ _,PV.ls _ _ _,PV.str _,PV.int _ _,PV.int _ _,PV.int _ _,PV.int _ _,PV.int _ _,PV.int _ _,PV.int _ _,PV.int _ _,PV.ls _ _ _]) aLF (eK r) r y8 r)<|dq r r (lT (us:=[PV.int _ _,PV.int _ _,PV.str _,PV.str _,PV.int _ _,PV.int _ _,PV.int _ _,PV.str _,PV.ls _ _ _,PV.ls _ _ _,PV.str _,PV.int _ _,PV.int _ _,PV.int _ _,PV.int _ _,PV.int _ _,PV.int _ _,PV.int _ _,PV.int _ _,PV.ls _ _ _]) rB r r r)<|dq r r (bN (v:=aL) r)<|dq r r (bN (v:=aI) r)<|bx h9 fun x10 y10 h11=>dq r r (lF (cs:=[PV.int _ _,PV.int _ _,PV.str _,PV.str _,PV.int _ _,PV.int _ _,PV.int _ _,PV.str _,PV.ls _ _ _,PV.ls _ _ _,PV.str _,PV.int _ _,PV.int _ _,PV.int _ _,PV.int _ _,PV.int _ _,PV.int _ _,PV.int _ _,PV.int _ _,PV.ls _ _ _]) aLF (eK r) r y10 r)<|dq r r (lT (us:=[PV.int _ _,PV.int _ _,PV.str _,PV.str _,PV.int _ _,PV.int _ _,PV.int _ _,PV.str _,PV.ls _ _ _,PV.ls _ _ _,PV.str _,PV.int _ _,PV.int _ _,PV.int _ _,PV.int _ _,PV.int _ _,PV.int _ _,PV.int _ _,PV.int _ _,PV.ls _ _ _]) rB r r r)<|bx h11 fun x12 y12 h13=>d_q r (xF (v:=aB) r (aGV y12) ⟨(bQ r aDF),(bQ r aDF),trivial⟩ r)<|dq r r (fE r)<|aAq (fr':=[(0,aL),(1,aL),(5,aI),(26,aB)]) r r<|cG h13 r (fun b14 h14=>?_) (fun b14 h14=>?_)
    ·
     refine aH<|sB r<|aG (fr':=[(4,aB)]) r r<|bK<|bO<|aP<|aP<|bO<|aP<|aP ?_
     have h15:=eR h14 ho6
     have h16:=fL h15 h4
     obtain rfl:=sy h16
     exact bJ (rs':=[.tmp 4]) r<|bS (v:=aB) r<|bI<|aN [] r r r lr aD
    ·
     exact bF<|cW<|cZ<|bB<|mI r<|aR r (gC r r)<|sI r<|dM (fr':=[(0,aL),(1,aL),(5,aI),(26,aB)]) r<|zO _ (sy h14) (bC [] 0 r r r r kA aD)
   ·
    refine hG<|cY<|cY<|fP ?_
    have h18:=eR h7 ho6
    exact iQ _ (sy h18) (bC [] 0 r r r r trivial aD)
  ·
   intro j5 hj19
   have h19:=lV hj19 h4
   refine cZ<|aH<|sB r<|aG (fr':=[(4,aB)]) r r<|bK ?_
   obtain rfl:=sy h19
   exact bJ (rs':=[.tmp 4]) r<|bS (v:=aB) r<|bI<|aN [] r r r lr aD
