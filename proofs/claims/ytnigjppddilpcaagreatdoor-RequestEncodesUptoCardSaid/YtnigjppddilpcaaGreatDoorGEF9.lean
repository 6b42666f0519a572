import Derived.Test.YtnigjppddilpcaaGreatDoorGETy
import Derived.Test.YtnigjppddilpcaaGreatDoorGEF6
import Derived.Test.YtnigjppddilpcaaGreatDoorGEF7
import Derived.Test.YtnigjppddilpcaaGreatDoorGEF8
namespace Go.Proofs.YtnigjppddilpcaaGreatDoor
open Go Abs
set_option maxRecDepth 100000
set_option linter.unusedVariables false
set_option linter.unusedSimpArgs false
noncomputable def tC (p0s:(List UInt8)) (s6:Int):Option (cM Int (Fl Bool Unit)) :=
 cond (decide (s6<((p0s).length:Int))) ((jT p0s s6).bind fun x8=>(gd ((decide (((x8).toNat:Int)<(33:Int)))==false) (jT p0s s6)).bind fun x10=>(gd ((cond (decide (((x8).toNat:Int)<(33:Int))) true (decide ((126:Int)<((x10).toNat:Int))))==false) (jT p0s s6)).bind fun x12=>(gd ((cond (cond (decide (((x8).toNat:Int)<(33:Int))) true (decide ((126:Int)<((x10).toNat:Int)))) true (decide (((x12).toNat:Int)=(47:Int))))==false) (jT p0s s6)).bind fun x14=>cond (cond (cond (cond (decide (((x8).toNat:Int)<(33:Int))) true (decide ((126:Int)<((x10).toNat:Int)))) true (decide (((x12).toNat:Int)=(47:Int)))) true (decide (((x14).toNat:Int)=(34:Int)))) (some (cM.out (Fl.done false))) (some (cM.next (IntKind.wrap .i64 (s6+(1:Int)))))) (some (cM.out (Fl.go ())))
noncomputable def nQ (p0s:(List UInt8)):Option Bool :=
 cond (cond (decide (((p0s).length:Int)<(1:Int))) true (decide ((64:Int)<((p0s).length:Int)))) (some false) (((eQ (tC p0s) ((0:Int))):Option (Fl Bool Unit)).bind fun x3=>Fl.next x3 (fun j5=>(some true)))
theorem uR {p0s:(List UInt8)}{res:Bool} (h:nQ p0s=some res):bT Tryz.prog 113 [.c (.str p0s)] [] (.c (.bool res)) []:=by
 unfold nQ at h
 refine cJ (fn:=Tryz.f113) [0,2,3,11,15,39] (by kernel_rfl) Tryz.func113 r (by kernel_rfl) (by kernel_rfl)<|aH<|sB r<|aF (fr':=[(0,aS)]) r r<|aR<|aH<|mS r<|aK r (gS nJ r)<|aK r (eA r r)<|mB r<|og r r r (fun hc=>(bC (v:=aS) r)) ?_
 refine og r r r (fun hc=>(gS nJ (gx r hc)))<|og r r r (fun hc=>(mG (gx r hc) r))<|aK r (bX r r r (fun e=>eI e))<|aF (fr':=[(0,aS),(11,aB)]) r r<|bS h r (fun hb1 h1=>?_) (fun hb1 h1=>?_)
 ·
  refine aH<|sB r<|aF (fr':=[(2,aB)]) r r<|bF<|aM ?_
  obtain rfl:=sy h1
  exact bE (rs':=[.tmp 2]) r<|bG (v:=aB) r<|bD<|aN [] r r r lr aC
 ·
  refine aW<|bZ<|aR<|aH<|sI r<|aF (fr':=[(0,aS),(3,aI)]) r r ?_
  obtain ⟨x3,hx3,h4⟩:=aE h1
  refine eR gX (fun j5=>x3=Fl.go j5) (fun (j5:Unit)=>([]:Fr)) (fun (j5:Unit)=>([]:St)) ?_ ?_
  ·
   refine bL<|eK _ (fun (s6:Int)=>([(0,.c (.str p0s)),(3,ci s6)]:Fr)) (fun (s6:Int)=>([]:St)) hx3 (aU [] 0 r r r r ⟨lr,lr,trivial⟩ aC) ?_
   intro s6 st6 hs6 ho6
   unfold tC at hs6
   refine aR<|aH<|mI r<|mS r<|aK r (gS nJ r)<|aK r (eA r r)<|aF (fr':=[(0,aS),(3,aI),(15,aB)]) r r<|bS hs6 r (fun hb7 h7=>?_) (fun hb7 h7=>?_)
   ·
    refine aW<|bZ<|aR<|bL<|aH<|mS r<|mI r ?_
    obtain ⟨x8,hx8,h9⟩:=aE h7
    refine aK r (xI nJ r r hx8)<|aK r (eA r r)<|mB r<|og r r r (fun hc=>(bC (v:=aS) r))<|og r r r (fun hc=>(bC (v:=aI) r)) ?_
    obtain ⟨x10,hx10,h11⟩:=aE h9
    refine og r r r (fun hc=>(xI nJ (gx r hc) (gx r hc) (cG hx10 hc)))<|og r r r (fun hc=>(mG (gx r hc) r))<|aK r (bX r r r (fun e=>eI e))<|mB r<|og r r r (fun hc=>(bC (v:=aS) r))<|og r r r (fun hc=>(bC (v:=aI) r)) ?_
    obtain ⟨x12,hx12,h13⟩:=aE h11
    refine og r r r (fun hc=>(xI nJ (gx r hc) (gx r hc) (cG hx12 hc)))<|og r r r (fun hc=>(bO (gx r hc) r))<|aK r (bX r r r (fun e=>eI e))<|mB r<|og r r r (fun hc=>(bC (v:=aS) r))<|og r r r (fun hc=>(bC (v:=aI) r)) ?_
    obtain ⟨x14,hx14,h15⟩:=aE h13
    refine og r r r (fun hc=>(xI nJ (gx r hc) (gx r hc) (cG hx14 hc)))<|og r r r (fun hc=>(bO (gx r hc) r))<|aK r (bX r r r (fun e=>eI e))<|aF (fr':=[(0,aS),(3,aI),(39,aB)]) r r<|bS h15 r (fun hb16 h16=>?_) (fun hb16 h16=>?_)
    ·
     refine aH<|sB r<|aF (fr':=[(2,aB)]) r r<|bF<|bH<|aM<|aM<|bH<|aM<|aM ?_
     have h17:=dB h16 ho6
     have h18:=eH h17 h4
     obtain rfl:=sy h18
     exact bE (rs':=[.tmp 2]) r<|bG (v:=aB) r<|bD<|aN [] r r r lr aC
    ·
     exact aW<|bW<|bZ<|aT<|mI r<|aK r (dZ r r)<|sI r<|cD (fr':=[(0,aS),(3,aI),(39,aB)]) r<|tU _ (sy h16) (aU [] 0 r r r r ⟨lr,lr,trivial⟩ aC)
   ·
    refine eZ<|bY<|bY<|dX ?_
    have h20:=dB h7 ho6
    exact fS _ (sy h20) (aU [] 0 r r r r trivial aC)
  ·
   intro j5 hj21
   have h21:=iS hj21 h4
   refine bZ<|aH<|sB r<|aF (fr':=[(2,aB)]) r r<|bF ?_
   obtain rfl:=sy h21
   exact bE (rs':=[.tmp 2]) r<|bG (v:=aB) r<|bD<|aN [] r r r lr aC
noncomputable def rU (p0a:bI) (p1b:bI):Option Bool :=
 (gd ((cond (cond (cond (cond (decide (p0a.Kind=p1b.Kind)) (decide (p0a.Seq=p1b.Seq)) false) (decide (p0a.Name=p1b.Name)) false) (decide (p0a.Key=p1b.Key)) false) (decide (p0a.N=p1b.N)) false)==true) (zH p0a.Data p1b.Data)).bind fun x1=>(gd ((cond (cond (cond (cond (cond (decide (p0a.Kind=p1b.Kind)) (decide (p0a.Seq=p1b.Seq)) false) (decide (p0a.Name=p1b.Name)) false) (decide (p0a.Key=p1b.Key)) false) (decide (p0a.N=p1b.N)) false) x1 false)==true) (lG p0a.Opts p1b.Opts)).bind fun x3=>some (cond (cond (cond (cond (cond (cond (decide (p0a.Kind=p1b.Kind)) (decide (p0a.Seq=p1b.Seq)) false) (decide (p0a.Name=p1b.Name)) false) (decide (p0a.Key=p1b.Key)) false) (decide (p0a.N=p1b.N)) false) x1 false) x3 false)
theorem aCZ {p0a:bI}{p1b:bI}{res:Bool} (h:rU p0a p1b=some res):bT Tryz.prog 155 [.agg (AV.cs (bR p0a)),.agg (AV.cs (bR p1b))] [] (.c (.bool res)) []:=by
 unfold rU at h
 refine cJ (fn:=Tryz.f155) [0,1,2,3,4] (by kernel_rfl) Tryz.func155 r (by kernel_rfl) (by kernel_rfl)<|aH<|fW (v:=.agg aP) (n:=0) (cs:=aP) (σ':=[aP]) r r r r r<|fW (v:=.agg aP) (n:=1) (cs:=aP) (σ':=[aP,aP]) r r r r r<|sB r<|aF (fr':=[(2,.box 0 0),(3,.box 1 0)]) r r<|aH<|aK r (aZ lB r)<|aK r (aJ (v:=aI) eB r r r)<|aK r (aZ lB r)<|aK r (aJ (v:=aI) eB r r r) ?_
 refine aK r (bO r r)<|mB r<|og r r r (fun hc=>(aZ vX r))<|og r r r (fun hc=>(aJ (v:=aI) eB (gx r hc) r r))<|og r r r (fun hc=>(aZ vX r))<|og r r r (fun hc=>(aJ (v:=aI) eB (gx r hc) r r))<|og r r r (fun hc=>(bO (gx r hc) (gx r hc)))<|aK r (bM r r r (fun e=>eI e))<|mB r<|og r r r (fun hc=>(aZ tG r))<|og r r r (fun hc=>(aJ (v:=aS) iE (gx r hc) r r))<|og r r r (fun hc=>(aZ tG r))<|og r r r (fun hc=>(aJ (v:=aS) iE (gx r hc) r r)) ?_
 refine og r r r (fun hc=>(kX (gx r hc) (gx r hc)))<|aK r (bM r r r (fun e=>eI e))<|mB r<|og r r r (fun hc=>(aZ vY r))<|og r r r (fun hc=>(aJ (v:=aS) iE (gx r hc) r r))<|og r r r (fun hc=>(aZ vY r))<|og r r r (fun hc=>(aJ (v:=aS) iE (gx r hc) r r))<|og r r r (fun hc=>(kX (gx r hc) (gx r hc)))<|aK r (bM r r r (fun e=>eI e))<|mB r<|og r r r (fun hc=>(aZ mO r))<|og r r r (fun hc=>(aJ (v:=aI) eB (gx r hc) r r))<|og r r r (fun hc=>(aZ mO r)) ?_
 refine og r r r (fun hc=>(aJ (v:=aI) eB (gx r hc) r r))<|og r r r (fun hc=>(bO (gx r hc) (gx r hc)))<|aK r (bM r r r (fun e=>eI e))<|mB r<|og r r r (fun hc=>(aZ nZ r))<|og r r r (fun hc=>(cN (us:=bQ) fV (gx r hc) r r r))<|og r r r (fun hc=>(aZ nZ r))<|og r r r (fun hc=>(cN (us:=bQ) fV (gx r hc) r r r)) ?_
 obtain ⟨x1,hx1,h2⟩:=aE h
 refine rZ r r (fun hc=>aY (v:=aB) r (aCY (cG hx1 hc)) ⟨(dW (gx r hc) (bP r ⟨r,r,r,r,r,trivial⟩)),(dW (gx r hc) (bP r ⟨r,r,r,r,r,trivial⟩)),trivial⟩ (fC (by repeat (first | exact dT | refine aX r ?_ | refine aX (oQ r) ?_ | refine aX oP ?_))) r r) ?_
 refine aK r (bM r r r (fun e=>eI e))<|mB r<|og r r r (fun hc=>(aZ uL r))<|og r r r (fun hc=>(cN (us:=cI) yM (gx r hc) r r r))<|og r r r (fun hc=>(aZ uL r))<|og r r r (fun hc=>(cN (us:=cI) yM (gx r hc) r r r)) ?_
 obtain ⟨x3,hx3,h4⟩:=aE h2
 refine rZ r r (fun hc=>aY (v:=aB) r (xH (cG hx3 hc)) ⟨(dW (gx r hc) (bP r ⟨r,r,r,r,r,r,r,r,r,r,trivial⟩)),(dW (gx r hc) (bP r ⟨r,r,r,r,r,r,r,r,r,r,trivial⟩)),trivial⟩ (fC (by repeat (first | exact dT | refine aX r ?_ | refine aX (oQ r) ?_ | refine aX oP ?_))) r r) ?_
 refine aK r (bM r r r (fun e=>eI e))<|sB r<|aF (fr':=[(4,aB)]) r r<|bF ?_
 obtain rfl:=sy h4
 exact bE (rs':=[.tmp 4]) r<|bG (v:=aB) r<|bD<|aN [] r r r lr aC
noncomputable def wU (p0c:bI):Option bI :=
 ((((cond (decide (p0c.Kind=(1:Int))) (some (decide (p0c.Kind=(1:Int)))) (cond (decide (p0c.Kind=(2:Int))) (some (decide (p0c.Kind=(2:Int)))) (cond (decide (p0c.Kind=(3:Int))) (some (decide (p0c.Kind=(3:Int)))) (cond (decide (p0c.Kind=(4:Int))) (some (decide (p0c.Kind=(4:Int)))) (cond (decide (p0c.Kind=(5:Int))) (some (decide (p0c.Kind=(5:Int)))) (some (decide (p0c.Kind=(6:Int))))))))):Option Bool).bind fun x4=>(cond x4 (some (0:Int)) (some p0c.Seq))):Option Int).bind fun x1=>(((((cond (decide (p0c.Kind=(1:Int))) (some (decide (p0c.Kind=(1:Int)))) (cond (decide (p0c.Kind=(5:Int))) (some (decide (p0c.Kind=(5:Int)))) (cond (decide (p0c.Kind=(6:Int))) (some (decide (p0c.Kind=(6:Int)))) (cond (decide (p0c.Kind=(7:Int))) (some (decide (p0c.Kind=(7:Int)))) (cond (decide (p0c.Kind=(8:Int))) (some (decide (p0c.Kind=(8:Int)))) (some (decide (p0c.Kind=(12:Int))))))))):Option Bool).bind fun x18=>(cond x18 (some ([]:List UInt8)) (some p0c.Name))):Option (List UInt8)).bind fun x15=>(((((cond (decide (p0c.Kind=(5:Int))) (some (decide (p0c.Kind=(5:Int)))) (cond (decide (p0c.Kind=(6:Int))) (some (decide (p0c.Kind=(6:Int)))) (cond (decide (p0c.Kind=(8:Int))) (some (decide (p0c.Kind=(8:Int)))) (some (decide (p0c.Kind=(9:Int))))))):Option Bool).bind fun x32=>(cond x32 (some ([]:List UInt8)) (some p0c.Key))):Option (List UInt8)).bind fun x29=>(((((cond (decide (p0c.Kind=(3:Int))) (some (decide (p0c.Kind=(3:Int)))) (cond (decide (p0c.Kind=(5:Int))) (some (decide (p0c.Kind=(5:Int)))) (cond (decide (p0c.Kind=(7:Int))) (some (decide (p0c.Kind=(7:Int)))) (some (decide (p0c.Kind=(9:Int))))))):Option Bool).bind fun x44=>(cond x44 (some (0:Int)) (some p0c.N))):Option Int).bind fun x41=>(((((cond (decide (p0c.Kind=(2:Int))) (some (decide (p0c.Kind=(2:Int)))) (cond (decide (p0c.Kind=(3:Int))) (some (decide (p0c.Kind=(3:Int)))) (some (decide (p0c.Kind=(4:Int)))))):Option Bool).bind fun x56=>(cond x56 (some (bI.mk p0c.Kind x1 x15 x29 x41 p0c.Data p0c.Opts)) (some (bI.mk p0c.Kind x1 x15 x29 x41 (aG.mk (0:Int) (0:Int) ([]:List UInt8) ([]:(List aG)) ([]:(List (List UInt8)))) p0c.Opts)))):Option bI).bind fun x53=>(cond (decide (x53.Kind=(1:Int))) (some (bI.mk x53.Kind x53.Seq x53.Name x53.Key x53.N x53.Data (cE.mk ([]:List UInt8) (0:Int) (0:Int) (0:Int) (0:Int) (0:Int) (0:Int) (0:Int) (0:Int) ([]:(List (List UInt8)))))) (some x53))))))
theorem aHV {p0c:bI}{res:bI} (h:wU p0c=some res):bT Tryz.prog 156 [.agg (AV.cs (bR p0c))] [] (.agg (AV.cs (bR res))) []:=by
 unfold wU at h
 refine cJ (fn:=Tryz.f156) [0,1,2,4,5,14,15,24,25,32,33,40,43,49] (by kernel_rfl) Tryz.func156 r (by kernel_rfl) (by kernel_rfl)<|aH<|fW (v:=.agg aP) (n:=0) (cs:=aP) (σ':=[aP]) r r r r r<|hS (n:=1) (cs:=aV) (σ':=[aP,aV]) aJk r r r<|aF (fr':=[(1,.box 0 0),(2,.box 1 0)]) r r ?_
 obtain ⟨x1,hx1,h2⟩:=aE h
 refine fP (fun j3=>x1=j3) (fun (j3:Int)=>([(1,.box 0 0),(2,.box 1 0)]:Fr)) (fun (j3:Int)=>([[ci p0c.Kind,ci j3,.c (.str p0c.Name),.c (.str p0c.Key),ci p0c.N,ci p0c.Data.Kind,ci p0c.Data.Int,.c (.str p0c.Data.Text),.c (PV.ls 5 bB p0c.Data.Items),.c (PV.ls 1 dD p0c.Data.Keys),.c (.str p0c.Opts.Queue),ci p0c.Opts.ToStart,ci p0c.Opts.ToClose,ci p0c.Opts.Total,ci p0c.Opts.Beat,ci p0c.Opts.First,ci p0c.Opts.Coef,ci p0c.Opts.Most,ci p0c.Opts.Attempts,.c (PV.ls 1 dD p0c.Opts.Fatal)],[ci 0,ci 0,.c (.str ([]:List UInt8)),.c (.str ([]:List UInt8)),ci 0,ci 0,ci 0,.c (.str ([]:List UInt8)),AV.nil,AV.nil,.c (.str ([]:List UInt8)),ci 0,ci 0,ci 0,ci 0,ci 0,ci 0,ci 0,ci 0,AV.nil]]:St)) ?_ ?_
 ·
  refine aH<|aK r (aZ lB r)<|aK r (aJ (v:=aI) eB r r r)<|aF (fr':=[(1,.box 0 0),(2,.box 1 0),(4,aI)]) r r<|bL ?_
  obtain ⟨x4,hx4,h5⟩:=aE hx1
  refine fP (fun j6=>x4=j6) (fun (j6:Bool)=>([(1,.box 0 0),(2,.box 1 0),(5,.c (.bool j6))]:Fr)) (fun (j6:Bool)=>([[ci p0c.Kind,ci p0c.Seq,.c (.str p0c.Name),.c (.str p0c.Key),ci p0c.N,ci p0c.Data.Kind,ci p0c.Data.Int,.c (.str p0c.Data.Text),.c (PV.ls 5 bB p0c.Data.Items),.c (PV.ls 1 dD p0c.Data.Keys),.c (.str p0c.Opts.Queue),ci p0c.Opts.ToStart,ci p0c.Opts.ToClose,ci p0c.Opts.Total,ci p0c.Opts.Beat,ci p0c.Opts.First,ci p0c.Opts.Coef,ci p0c.Opts.Most,ci p0c.Opts.Attempts,.c (PV.ls 1 dD p0c.Opts.Fatal)],[ci 0,ci 0,.c (.str ([]:List UInt8)),.c (.str ([]:List UInt8)),ci 0,ci 0,ci 0,.c (.str ([]:List UInt8)),AV.nil,AV.nil,.c (.str ([]:List UInt8)),ci 0,ci 0,ci 0,ci 0,ci 0,ci 0,ci 0,ci 0,AV.nil]]:St)) ?_ ?_
  ·
   refine aH<|aK r (bO r r)<|sB r<|aF (fr':=[(1,.box 0 0),(2,.box 1 0),(4,aI),(5,aB)]) r r<|bS hx4 r (fun hb7 h7=>?_) (fun hb7 h7=>?_)
   ·
    exact aW<|fS _ (sy h7) (aU [] 2 r r r r ⟨lr,lr,lr,trivial⟩ (bJ r (bJ r aC)))
   ·
    refine aH<|aK r (bO r r)<|sB r<|aF (fr':=[(1,.box 0 0),(2,.box 1 0),(4,aI),(5,aB)]) r r<|bS h7 r (fun hb8 h8=>?_) (fun hb8 h8=>?_)
    ·
     exact aW<|fS _ (sy h8) (aU [] 2 r r r r ⟨lr,lr,lr,trivial⟩ (bJ r (bJ r aC)))
    ·
     refine aH<|aK r (bO r r)<|sB r<|aF (fr':=[(1,.box 0 0),(2,.box 1 0),(4,aI),(5,aB)]) r r<|bS h8 r (fun hb9 h9=>?_) (fun hb9 h9=>?_)
     ·
      exact aW<|fS _ (sy h9) (aU [] 2 r r r r ⟨lr,lr,lr,trivial⟩ (bJ r (bJ r aC)))
     ·
      refine aH<|aK r (bO r r)<|sB r<|aF (fr':=[(1,.box 0 0),(2,.box 1 0),(4,aI),(5,aB)]) r r<|bS h9 r (fun hb10 h10=>?_) (fun hb10 h10=>?_)
      ·
       exact aW<|fS _ (sy h10) (aU [] 2 r r r r ⟨lr,lr,lr,trivial⟩ (bJ r (bJ r aC)))
      ·
       refine aH<|aK r (bO r r)<|sB r<|aF (fr':=[(1,.box 0 0),(2,.box 1 0),(4,aI),(5,aB)]) r r<|bS h10 r (fun hb11 h11=>?_) (fun hb11 h11=>?_)
       ·
        exact aW<|fS _ (sy h11) (aU [] 2 r r r r ⟨lr,lr,lr,trivial⟩ (bJ r (bJ r aC)))
       ·
        exact aT<|aK r (bO r r)<|sB r<|cD (fr':=[(1,.box 0 0),(2,.box 1 0),(4,aI),(5,aB)]) r<|fS _ (sy h11) (aU [] 2 r r r r ⟨lr,lr,lr,trivial⟩ (bJ r (bJ r aC)))
  ·
   intro j6 hj12
   subst hj12
   refine bS h5 r (fun hb13 h13=>?_) (fun hb13 h13=>?_)
   ·
    exact aT<|aK r (aZ vX r)<|bV (v:=aI) (us:=[aI]) (cs:=aP) (σ':=[aP,aV]) r eB r r r r r r r r<|cD (fr':=[(1,.box 0 0),(2,.box 1 0),(5,aB)]) r<|bW<|fS _ (sy h13) (aU [] 2 r r r r ⟨lr,lr,trivial⟩ (bJ r (bJ r aC)))
   ·
    exact aW<|bW<|fS _ (sy h13) (aU [] 2 r r r r ⟨lr,lr,trivial⟩ (bJ r (bJ r aC)))
 ·
  intro j3 hj14
  subst hj14
  obtain ⟨x15,hx15,h16⟩:=aE h2
  refine fP (fun j17=>x15=j17) (fun (j17:(List UInt8))=>([(1,.box 0 0),(2,.box 1 0)]:Fr)) (fun (j17:(List UInt8))=>([[ci p0c.Kind,ci x1,.c (.str j17),.c (.str p0c.Key),ci p0c.N,ci p0c.Data.Kind,ci p0c.Data.Int,.c (.str p0c.Data.Text),.c (PV.ls 5 bB p0c.Data.Items),.c (PV.ls 1 dD p0c.Data.Keys),.c (.str p0c.Opts.Queue),ci p0c.Opts.ToStart,ci p0c.Opts.ToClose,ci p0c.Opts.Total,ci p0c.Opts.Beat,ci p0c.Opts.First,ci p0c.Opts.Coef,ci p0c.Opts.Most,ci p0c.Opts.Attempts,.c (PV.ls 1 dD p0c.Opts.Fatal)],[ci 0,ci 0,.c (.str ([]:List UInt8)),.c (.str ([]:List UInt8)),ci 0,ci 0,ci 0,.c (.str ([]:List UInt8)),AV.nil,AV.nil,.c (.str ([]:List UInt8)),ci 0,ci 0,ci 0,ci 0,ci 0,ci 0,ci 0,ci 0,AV.nil]]:St)) ?_ ?_
  ·
   refine aH<|aK r (aZ lB r)<|aK r (aJ (v:=aI) eB r r r)<|aF (fr':=[(1,.box 0 0),(2,.box 1 0),(14,aI)]) r r<|bL ?_
   obtain ⟨x18,hx18,h19⟩:=aE hx15
   refine fP (fun j20=>x18=j20) (fun (j20:Bool)=>([(1,.box 0 0),(2,.box 1 0),(15,.c (.bool j20))]:Fr)) (fun (j20:Bool)=>([[ci p0c.Kind,ci x1,.c (.str p0c.Name),.c (.str p0c.Key),ci p0c.N,ci p0c.Data.Kind,ci p0c.Data.Int,.c (.str p0c.Data.Text),.c (PV.ls 5 bB p0c.Data.Items),.c (PV.ls 1 dD p0c.Data.Keys),.c (.str p0c.Opts.Queue),ci p0c.Opts.ToStart,ci p0c.Opts.ToClose,ci p0c.Opts.Total,ci p0c.Opts.Beat,ci p0c.Opts.First,ci p0c.Opts.Coef,ci p0c.Opts.Most,ci p0c.Opts.Attempts,.c (PV.ls 1 dD p0c.Opts.Fatal)],[ci 0,ci 0,.c (.str ([]:List UInt8)),.c (.str ([]:List UInt8)),ci 0,ci 0,ci 0,.c (.str ([]:List UInt8)),AV.nil,AV.nil,.c (.str ([]:List UInt8)),ci 0,ci 0,ci 0,ci 0,ci 0,ci 0,ci 0,ci 0,AV.nil]]:St)) ?_ ?_
   ·
    refine aH<|aK r (bO r r)<|sB r<|aF (fr':=[(1,.box 0 0),(2,.box 1 0),(14,aI),(15,aB)]) r r<|bS hx18 r (fun hb21 h21=>?_) (fun hb21 h21=>?_)
    ·
     exact aW<|fS _ (sy h21) (aU [] 2 r r r r ⟨lr,lr,lr,trivial⟩ (bJ r (bJ r aC)))
    ·
     refine aH<|aK r (bO r r)<|sB r<|aF (fr':=[(1,.box 0 0),(2,.box 1 0),(14,aI),(15,aB)]) r r<|bS h21 r (fun hb22 h22=>?_) (fun hb22 h22=>?_)
     ·
      exact aW<|fS _ (sy h22) (aU [] 2 r r r r ⟨lr,lr,lr,trivial⟩ (bJ r (bJ r aC)))
     ·
      refine aH<|aK r (bO r r)<|sB r<|aF (fr':=[(1,.box 0 0),(2,.box 1 0),(14,aI),(15,aB)]) r r<|bS h22 r (fun hb23 h23=>?_) (fun hb23 h23=>?_)
      ·
       exact aW<|fS _ (sy h23) (aU [] 2 r r r r ⟨lr,lr,lr,trivial⟩ (bJ r (bJ r aC)))
      ·
       refine aH<|aK r (bO r r)<|sB r<|aF (fr':=[(1,.box 0 0),(2,.box 1 0),(14,aI),(15,aB)]) r r<|bS h23 r (fun hb24 h24=>?_) (fun hb24 h24=>?_)
       ·
        exact aW<|fS _ (sy h24) (aU [] 2 r r r r ⟨lr,lr,lr,trivial⟩ (bJ r (bJ r aC)))
       ·
        refine aH<|aK r (bO r r)<|sB r<|aF (fr':=[(1,.box 0 0),(2,.box 1 0),(14,aI),(15,aB)]) r r<|bS h24 r (fun hb25 h25=>?_) (fun hb25 h25=>?_)
        ·
         exact aW<|fS _ (sy h25) (aU [] 2 r r r r ⟨lr,lr,lr,trivial⟩ (bJ r (bJ r aC)))
        ·
         exact aT<|aK r (bO r r)<|sB r<|cD (fr':=[(1,.box 0 0),(2,.box 1 0),(14,aI),(15,aB)]) r<|fS _ (sy h25) (aU [] 2 r r r r ⟨lr,lr,lr,trivial⟩ (bJ r (bJ r aC)))
   ·
    intro j20 hj26
    subst hj26
    refine bS h19 r (fun hb27 h27=>?_) (fun hb27 h27=>?_)
    ·
     exact aT<|aK r (aZ tG r)<|bV (v:=aS) (us:=[aS]) (cs:=aP) (σ':=[aP,aV]) r iE r r r r r r r r<|cD (fr':=[(1,.box 0 0),(2,.box 1 0),(15,aB)]) r<|bW<|fS _ (sy h27) (aU [] 2 r r r r ⟨lr,lr,trivial⟩ (bJ r (bJ r aC)))
    ·
     exact aW<|bW<|fS _ (sy h27) (aU [] 2 r r r r ⟨lr,lr,trivial⟩ (bJ r (bJ r aC)))
  ·
   intro j17 hj28
   subst hj28
   obtain ⟨x29,hx29,h30⟩:=aE h16
   refine fP (fun j31=>x29=j31) (fun (j31:(List UInt8))=>([(1,.box 0 0),(2,.box 1 0)]:Fr)) (fun (j31:(List UInt8))=>([[ci p0c.Kind,ci x1,.c (.str x15),.c (.str j31),ci p0c.N,ci p0c.Data.Kind,ci p0c.Data.Int,.c (.str p0c.Data.Text),.c (PV.ls 5 bB p0c.Data.Items),.c (PV.ls 1 dD p0c.Data.Keys),.c (.str p0c.Opts.Queue),ci p0c.Opts.ToStart,ci p0c.Opts.ToClose,ci p0c.Opts.Total,ci p0c.Opts.Beat,ci p0c.Opts.First,ci p0c.Opts.Coef,ci p0c.Opts.Most,ci p0c.Opts.Attempts,.c (PV.ls 1 dD p0c.Opts.Fatal)],[ci 0,ci 0,.c (.str ([]:List UInt8)),.c (.str ([]:List UInt8)),ci 0,ci 0,ci 0,.c (.str ([]:List UInt8)),AV.nil,AV.nil,.c (.str ([]:List UInt8)),ci 0,ci 0,ci 0,ci 0,ci 0,ci 0,ci 0,ci 0,AV.nil]]:St)) ?_ ?_
   ·
    refine aH<|aK r (aZ lB r)<|aK r (aJ (v:=aI) eB r r r)<|aF (fr':=[(1,.box 0 0),(2,.box 1 0),(24,aI)]) r r<|bL ?_
    obtain ⟨x32,hx32,h33⟩:=aE hx29
    refine fP (fun j34=>x32=j34) (fun (j34:Bool)=>([(1,.box 0 0),(2,.box 1 0),(25,.c (.bool j34))]:Fr)) (fun (j34:Bool)=>([[ci p0c.Kind,ci x1,.c (.str x15),.c (.str p0c.Key),ci p0c.N,ci p0c.Data.Kind,ci p0c.Data.Int,.c (.str p0c.Data.Text),.c (PV.ls 5 bB p0c.Data.Items),.c (PV.ls 1 dD p0c.Data.Keys),.c (.str p0c.Opts.Queue),ci p0c.Opts.ToStart,ci p0c.Opts.ToClose,ci p0c.Opts.Total,ci p0c.Opts.Beat,ci p0c.Opts.First,ci p0c.Opts.Coef,ci p0c.Opts.Most,ci p0c.Opts.Attempts,.c (PV.ls 1 dD p0c.Opts.Fatal)],[ci 0,ci 0,.c (.str ([]:List UInt8)),.c (.str ([]:List UInt8)),ci 0,ci 0,ci 0,.c (.str ([]:List UInt8)),AV.nil,AV.nil,.c (.str ([]:List UInt8)),ci 0,ci 0,ci 0,ci 0,ci 0,ci 0,ci 0,ci 0,AV.nil]]:St)) ?_ ?_
    ·
     refine aH<|aK r (bO r r)<|sB r<|aF (fr':=[(1,.box 0 0),(2,.box 1 0),(24,aI),(25,aB)]) r r<|bS hx32 r (fun hb35 h35=>?_) (fun hb35 h35=>?_)
     ·
      exact aW<|fS _ (sy h35) (aU [] 2 r r r r ⟨lr,lr,lr,trivial⟩ (bJ r (bJ r aC)))
     ·
      refine aH<|aK r (bO r r)<|sB r<|aF (fr':=[(1,.box 0 0),(2,.box 1 0),(24,aI),(25,aB)]) r r<|bS h35 r (fun hb36 h36=>?_) (fun hb36 h36=>?_)
      ·
       exact aW<|fS _ (sy h36) (aU [] 2 r r r r ⟨lr,lr,lr,trivial⟩ (bJ r (bJ r aC)))
      ·
       refine aH<|aK r (bO r r)<|sB r<|aF (fr':=[(1,.box 0 0),(2,.box 1 0),(24,aI),(25,aB)]) r r<|bS h36 r (fun hb37 h37=>?_) (fun hb37 h37=>?_)
       ·
        exact aW<|fS _ (sy h37) (aU [] 2 r r r r ⟨lr,lr,lr,trivial⟩ (bJ r (bJ r aC)))
       ·
        exact aT<|aK r (bO r r)<|sB r<|cD (fr':=[(1,.box 0 0),(2,.box 1 0),(24,aI),(25,aB)]) r<|fS _ (sy h37) (aU [] 2 r r r r ⟨lr,lr,lr,trivial⟩ (bJ r (bJ r aC)))
    ·
     intro j34 hj38
     subst hj38
     refine bS h33 r (fun hb39 h39=>?_) (fun hb39 h39=>?_)
     ·
      exact aT<|aK r (aZ vY r)<|bV (v:=aS) (us:=[aS]) (cs:=aP) (σ':=[aP,aV]) r iE r r r r r r r r<|cD (fr':=[(1,.box 0 0),(2,.box 1 0),(25,aB)]) r<|bW<|fS _ (sy h39) (aU [] 2 r r r r ⟨lr,lr,trivial⟩ (bJ r (bJ r aC)))
     ·
      exact aW<|bW<|fS _ (sy h39) (aU [] 2 r r r r ⟨lr,lr,trivial⟩ (bJ r (bJ r aC)))
   ·
    intro j31 hj40
    subst hj40
    obtain ⟨x41,hx41,h42⟩:=aE h30
    refine fP (fun j43=>x41=j43) (fun (j43:Int)=>([(1,.box 0 0),(2,.box 1 0)]:Fr)) (fun (j43:Int)=>([[ci p0c.Kind,ci x1,.c (.str x15),.c (.str x29),ci j43,ci p0c.Data.Kind,ci p0c.Data.Int,.c (.str p0c.Data.Text),.c (PV.ls 5 bB p0c.Data.Items),.c (PV.ls 1 dD p0c.Data.Keys),.c (.str p0c.Opts.Queue),ci p0c.Opts.ToStart,ci p0c.Opts.ToClose,ci p0c.Opts.Total,ci p0c.Opts.Beat,ci p0c.Opts.First,ci p0c.Opts.Coef,ci p0c.Opts.Most,ci p0c.Opts.Attempts,.c (PV.ls 1 dD p0c.Opts.Fatal)],[ci 0,ci 0,.c (.str ([]:List UInt8)),.c (.str ([]:List UInt8)),ci 0,ci 0,ci 0,.c (.str ([]:List UInt8)),AV.nil,AV.nil,.c (.str ([]:List UInt8)),ci 0,ci 0,ci 0,ci 0,ci 0,ci 0,ci 0,ci 0,AV.nil]]:St)) ?_ ?_
    ·
     refine aH<|aK r (aZ lB r)<|aK r (aJ (v:=aI) eB r r r)<|aF (fr':=[(1,.box 0 0),(2,.box 1 0),(32,aI)]) r r<|bL ?_
     obtain ⟨x44,hx44,h45⟩:=aE hx41
     refine fP (fun j46=>x44=j46) (fun (j46:Bool)=>([(1,.box 0 0),(2,.box 1 0),(33,.c (.bool j46))]:Fr)) (fun (j46:Bool)=>([[ci p0c.Kind,ci x1,.c (.str x15),.c (.str x29),ci p0c.N,ci p0c.Data.Kind,ci p0c.Data.Int,.c (.str p0c.Data.Text),.c (PV.ls 5 bB p0c.Data.Items),.c (PV.ls 1 dD p0c.Data.Keys),.c (.str p0c.Opts.Queue),ci p0c.Opts.ToStart,ci p0c.Opts.ToClose,ci p0c.Opts.Total,ci p0c.Opts.Beat,ci p0c.Opts.First,ci p0c.Opts.Coef,ci p0c.Opts.Most,ci p0c.Opts.Attempts,.c (PV.ls 1 dD p0c.Opts.Fatal)],[ci 0,ci 0,.c (.str ([]:List UInt8)),.c (.str ([]:List UInt8)),ci 0,ci 0,ci 0,.c (.str ([]:List UInt8)),AV.nil,AV.nil,.c (.str ([]:List UInt8)),ci 0,ci 0,ci 0,ci 0,ci 0,ci 0,ci 0,ci 0,AV.nil]]:St)) ?_ ?_
     ·
      refine aH<|aK r (bO r r)<|sB r<|aF (fr':=[(1,.box 0 0),(2,.box 1 0),(32,aI),(33,aB)]) r r<|bS hx44 r (fun hb47 h47=>?_) (fun hb47 h47=>?_)
      ·
       exact aW<|fS _ (sy h47) (aU [] 2 r r r r ⟨lr,lr,lr,trivial⟩ (bJ r (bJ r aC)))
      ·
       refine aH<|aK r (bO r r)<|sB r<|aF (fr':=[(1,.box 0 0),(2,.box 1 0),(32,aI),(33,aB)]) r r<|bS h47 r (fun hb48 h48=>?_) (fun hb48 h48=>?_)
       ·
        exact aW<|fS _ (sy h48) (aU [] 2 r r r r ⟨lr,lr,lr,trivial⟩ (bJ r (bJ r aC)))
       ·
        refine aH<|aK r (bO r r)<|sB r<|aF (fr':=[(1,.box 0 0),(2,.box 1 0),(32,aI),(33,aB)]) r r<|bS h48 r (fun hb49 h49=>?_) (fun hb49 h49=>?_)
        ·
         exact aW<|fS _ (sy h49) (aU [] 2 r r r r ⟨lr,lr,lr,trivial⟩ (bJ r (bJ r aC)))
        ·
         exact aT<|aK r (bO r r)<|sB r<|cD (fr':=[(1,.box 0 0),(2,.box 1 0),(32,aI),(33,aB)]) r<|fS _ (sy h49) (aU [] 2 r r r r ⟨lr,lr,lr,trivial⟩ (bJ r (bJ r aC)))
     ·
      intro j46 hj50
      subst hj50
      refine bS h45 r (fun hb51 h51=>?_) (fun hb51 h51=>?_)
      ·
       exact aT<|aK r (aZ mO r)<|bV (v:=aI) (us:=[aI]) (cs:=aP) (σ':=[aP,aV]) r eB r r r r r r r r<|cD (fr':=[(1,.box 0 0),(2,.box 1 0),(33,aB)]) r<|bW<|fS _ (sy h51) (aU [] 2 r r r r ⟨lr,lr,trivial⟩ (bJ r (bJ r aC)))
      ·
       exact aW<|bW<|fS _ (sy h51) (aU [] 2 r r r r ⟨lr,lr,trivial⟩ (bJ r (bJ r aC)))
    ·
     intro j43 hj52
     subst hj52
     obtain ⟨x53,hx53,h54⟩:=aE h42
     refine fP (fun j55=>x53=j55) (fun (j55:bI)=>([(1,.box 0 0),(2,.box 1 0)]:Fr)) (fun (j55:bI)=>([[ci j55.Kind,ci j55.Seq,.c (.str j55.Name),.c (.str j55.Key),ci j55.N,ci j55.Data.Kind,ci j55.Data.Int,.c (.str j55.Data.Text),.c (PV.ls 5 bB j55.Data.Items),.c (PV.ls 1 dD j55.Data.Keys),.c (.str j55.Opts.Queue),ci j55.Opts.ToStart,ci j55.Opts.ToClose,ci j55.Opts.Total,ci j55.Opts.Beat,ci j55.Opts.First,ci j55.Opts.Coef,ci j55.Opts.Most,ci j55.Opts.Attempts,.c (PV.ls 1 dD j55.Opts.Fatal)],[ci 0,ci 0,.c (.str ([]:List UInt8)),.c (.str ([]:List UInt8)),ci 0,ci 0,ci 0,.c (.str ([]:List UInt8)),AV.nil,AV.nil,.c (.str ([]:List UInt8)),ci 0,ci 0,ci 0,ci 0,ci 0,ci 0,ci 0,ci 0,AV.nil]]:St)) ?_ ?_
     ·
      refine aH<|aK r (aZ lB r)<|aK r (aJ (v:=aI) eB r r r)<|aF (fr':=[(1,.box 0 0),(2,.box 1 0),(40,aI)]) r r<|bL ?_
      obtain ⟨x56,hx56,h57⟩:=aE hx53
      refine fP (fun j58=>x56=j58) (fun (j58:Bool)=>([(1,.box 0 0),(2,.box 1 0),(43,.c (.bool j58))]:Fr)) (fun (j58:Bool)=>([[ci p0c.Kind,ci x1,.c (.str x15),.c (.str x29),ci x41,ci p0c.Data.Kind,ci p0c.Data.Int,.c (.str p0c.Data.Text),.c (PV.ls 5 bB p0c.Data.Items),.c (PV.ls 1 dD p0c.Data.Keys),.c (.str p0c.Opts.Queue),ci p0c.Opts.ToStart,ci p0c.Opts.ToClose,ci p0c.Opts.Total,ci p0c.Opts.Beat,ci p0c.Opts.First,ci p0c.Opts.Coef,ci p0c.Opts.Most,ci p0c.Opts.Attempts,.c (PV.ls 1 dD p0c.Opts.Fatal)],[ci 0,ci 0,.c (.str ([]:List UInt8)),.c (.str ([]:List UInt8)),ci 0,ci 0,ci 0,.c (.str ([]:List UInt8)),AV.nil,AV.nil,.c (.str ([]:List UInt8)),ci 0,ci 0,ci 0,ci 0,ci 0,ci 0,ci 0,ci 0,AV.nil]]:St)) ?_ ?_
      ·
       refine aH<|aK r (bO r r)<|sB r<|aF (fr':=[(1,.box 0 0),(2,.box 1 0),(40,aI),(43,aB)]) r r<|bS hx56 r (fun hb59 h59=>?_) (fun hb59 h59=>?_)
       ·
        exact aW<|fS _ (sy h59) (aU [] 2 r r r r ⟨lr,lr,lr,trivial⟩ (bJ r (bJ r aC)))
       ·
        refine aH<|aK r (bO r r)<|sB r<|aF (fr':=[(1,.box 0 0),(2,.box 1 0),(40,aI),(43,aB)]) r r<|bS h59 r (fun hb60 h60=>?_) (fun hb60 h60=>?_)
        ·
         exact aW<|fS _ (sy h60) (aU [] 2 r r r r ⟨lr,lr,lr,trivial⟩ (bJ r (bJ r aC)))
        ·
         exact aT<|aK r (bO r r)<|sB r<|cD (fr':=[(1,.box 0 0),(2,.box 1 0),(40,aI),(43,aB)]) r<|fS _ (sy h60) (aU [] 2 r r r r ⟨lr,lr,lr,trivial⟩ (bJ r (bJ r aC)))
      ·
       intro j58 hj61
       subst hj61
       refine bS h57 r (fun hb62 h62=>?_) (fun hb62 h62=>?_)
       ·
        exact aW<|bW<|fS _ (sy h62) (aU [] 2 r r r r ⟨lr,lr,trivial⟩ (bJ r (bJ r aC)))
       ·
        exact aT<|aK r (iF (cs:=bU) aEk r)<|aK r (aZ nZ r)<|bV (v:=.agg bU) (us:=bU) (cs:=aP) (σ':=[aAh,aV]) r fV r r r r r r r r<|cD (fr':=[(1,.box 0 0),(2,.box 1 0),(43,aB)]) r<|bW<|fS _ (sy h62) (aU [] 2 r r r r ⟨lr,lr,trivial⟩ (vK ⟨lr,lr,lr,lr,lr,lr,lr,lr,aDl,aDl,lr,lr,lr,lr,lr,lr,lr,lr,lr,lr,trivial⟩ (bJ r aC)))
     ·
      intro j55 hj63
      subst hj63
      refine aR<|aH<|aK r (aZ lB r)<|aK r (aJ (v:=aI) eB r r r)<|aK r (bO r r)<|aF (fr':=[(1,.box 0 0),(2,.box 1 0),(49,aB)]) r r<|bS h54 r (fun hb64 h64=>?_) (fun hb64 h64=>?_)
      ·
       refine aT<|aK r (gR (c0:=bN) (cs:=bN) aOb r gQ)<|aK r (aZ uL r)<|bV (v:=.agg bN) (us:=bN) (cs:=aP) (σ':=[fG,aV]) r yM r r r r r r r r<|aF (fr':=[(1,.box 0 0),(2,.box 1 0)]) r r<|aH<|aK r (cN (us:=fG) nR r r r r)<|bV (v:=.agg fG) (us:=fG) (cs:=aV) (σ':=[fG,fG]) r nR r r r r r r r r<|aF (fr':=[(2,.box 1 0)]) r r<|bF ?_
       obtain rfl:=sy h64
       exact bE (rs':=[.cell 2 103]) r<|eV (us:=fG) (cs:=fG) nR r r r r<|bD<|aN [] r r r (bP r ⟨r,r,r,r,r,r,r,r,r,r,r,r,r,r,r,r,r,r,r,⟨_,r⟩,trivial⟩) aC
      ·
       refine aW<|bZ<|aH<|aK r (cN (us:=aP) nR r r r r)<|bV (v:=.agg aP) (us:=aP) (cs:=aV) (σ':=[aP,aP]) r nR r r r r r r r r<|aF (fr':=[(2,.box 1 0)]) r r<|bF ?_
       obtain rfl:=sy h64
       exact bE (rs':=[.cell 2 103]) r<|eV (us:=aP) (cs:=aP) nR r r r r<|bD<|aN [] r r r (bP r ⟨r,r,r,r,r,r,r,r,r,r,r,r,r,r,r,r,r,r,r,r,trivial⟩) aC
noncomputable def pN (p0v:aG) (s8:Int):Option (cM Int (Fl Bool Unit)) :=
 (jT p0v.Items (1:Int)).bind fun x9=>cond (decide (s8<((x9.Items).length:Int))) ((jT p0v.Items (1:Int)).bind fun x12=>(jT x12.Items s8).bind fun x14=>(gd ((cond (!decide (x14.Kind=(4:Int))) true (!decide (((x14.Items).length:Int)=(2:Int))))==false) (jT x14.Items (0:Int))).bind fun x16=>(gd ((cond (cond (!decide (x14.Kind=(4:Int))) true (!decide (((x14.Items).length:Int)=(2:Int)))) true (!decide (x16.Kind=(3:Int))))==false) (jT x14.Items (0:Int))).bind fun x18=>(gd ((cond (cond (!decide (x14.Kind=(4:Int))) true (!decide (((x14.Items).length:Int)=(2:Int)))) true (!decide (x16.Kind=(3:Int))))==false) (nP x18.Text)).bind fun x20=>cond (cond (cond (cond (!decide (x14.Kind=(4:Int))) true (!decide (((x14.Items).length:Int)=(2:Int)))) true (!decide (x16.Kind=(3:Int)))) true (!x20)) (some (cM.out (Fl.done false))) (some (cM.next (IntKind.wrap .i64 (s8+(1:Int)))))) (some (cM.out (Fl.go ())))
noncomputable def vA (p0v:aG):Option Bool :=
 (gd ((cond (!decide (p0v.Kind=(4:Int))) true (!decide (((p0v.Items).length:Int)=(2:Int))))==false) (jT p0v.Items (1:Int))).bind fun x1=>cond (cond (cond (!decide (p0v.Kind=(4:Int))) true (!decide (((p0v.Items).length:Int)=(2:Int)))) true (!decide (x1.Kind=(4:Int)))) (some false) (((eQ (pN p0v) ((0:Int))):Option (Fl Bool Unit)).bind fun x5=>Fl.next x5 (fun j7=>(some true)))
theorem aGD {p0v:aG}{res:Bool} (h:vA p0v=some res):bT Tryz.prog 157 [.agg (AV.cs (cV p0v))] [] (.c (.bool res)) []:=by
 unfold vA at h
 refine cJ (fn:=Tryz.f157) [0,1,2,3,4,21,29,65] (by kernel_rfl) Tryz.func157 r (by kernel_rfl) (by kernel_rfl)<|aH<|fW (v:=.agg bQ) (n:=0) (cs:=bQ) (σ':=[bQ]) r r r r r<|sB r<|aF (fr':=[(1,.box 0 0)]) r r<|aR<|aH<|aK r (aZ iR r)<|aK r (aJ (v:=aI) eB r r r)<|aK r (gM r r)<|mB r ?_
 refine og r r r (fun hc=>(aZ fM r))<|og r r r (fun hc=>(aJ (v:=aL) kD (gx r hc) r r))<|og r r r (fun hc=>(eC qM (cR (gx r hc))))<|og r r r (fun hc=>(gM (gx r hc) r))<|aK r (bX r r r (fun e=>eI e))<|mB r<|og r r r (fun hc=>(aZ fM r))<|og r r r (fun hc=>(aJ (v:=aL) kD (gx r hc) r r)) ?_
 obtain ⟨x1,hx1,h2⟩:=aE h
 refine og r r r (fun hc=>(iL (cs:=[PV.int _ _,PV.int _ _,PV.str _,PV.ls _ _ _,PV.ls _ _ _]) tO (cR (gx r hc)) r (cG hx1 hc) (cY _)))<|og r r r (fun hc=>(aCI iR (gx r hc)))<|og r r r (fun hc=>(fU (p:=PV.int _ _) eB (gx r hc) r))<|og r r r (fun hc=>(gM (gx r hc) r))<|aK r (bX r r r (fun e=>eI e))<|aF (fr':=[(1,.box 0 0),(21,aB)]) r r<|bS h2 r (fun hb3 h3=>?_) (fun hb3 h3=>?_)
 ·
  refine aH<|sB r<|aF (fr':=[(2,aB)]) r r<|bF<|aM ?_
  obtain rfl:=sy h3
  exact bE (rs':=[.tmp 2]) r<|bG (v:=aB) r<|bD<|aN [] r r r lr aC
 ·
  refine aW<|bZ<|aR<|aH<|sI r<|aF (fr':=[(1,.box 0 0),(3,aI)]) r r ?_
  obtain ⟨x5,hx5,h6⟩:=aE h3
  refine eR gX (fun j7=>x5=Fl.go j7) (fun (j7:Unit)=>([]:Fr)) (fun (j7:Unit)=>([[ci p0v.Kind,ci p0v.Int,.c (.str p0v.Text),.c (PV.ls 5 bB p0v.Items),.c (PV.ls 1 dD p0v.Keys)]]:St)) ?_ ?_
  ·
   refine bL<|eK _ (fun (s8:Int)=>([(1,.box 0 0),(3,ci s8)]:Fr)) (fun (s8:Int)=>([[ci p0v.Kind,ci p0v.Int,.c (.str p0v.Text),.c (PV.ls 5 bB p0v.Items),.c (PV.ls 1 dD p0v.Keys)]]:St)) hx5 (aU [] 1 r r r r ⟨lr,lr,trivial⟩ (bJ r aC)) ?_
   intro s8 st8 hs8 ho8
   unfold pN at hs8
   refine aR<|aH<|mI r<|aK r (aZ fM r)<|aK r (aJ (v:=aL) kD r r r) ?_
   obtain ⟨x9,hx9,h10⟩:=aE hs8
   refine aK r (iL (cs:=[PV.int _ _,PV.int _ _,PV.str _,PV.ls _ _ _,PV.ls _ _ _]) tO (cR r) r hx9 (cY _))<|aK r (aCI fM r)<|aK r (fU (p:=PV.ls _ _ _) kD r r)<|aK r (eC qM (cR r))<|aK r (eA r r)<|aF (fr':=[(1,.box 0 0),(3,aI),(29,aB)]) r r<|bS h10 r (fun hb11 h11=>?_) (fun hb11 h11=>?_)
   ·
    refine aW<|bZ<|aR<|bL<|aH<|aK r (aZ fM r)<|aK r (aJ (v:=aL) kD r r r) ?_
    obtain ⟨x12,hx12,h13⟩:=aE h11
    refine aK r (iL (cs:=[PV.int _ _,PV.int _ _,PV.str _,PV.ls _ _ _,PV.ls _ _ _]) tO (cR r) r hx12 (cY _))<|aK r (aCI fM r)<|aK r (fU (p:=PV.ls _ _ _) kD r r)<|mI r ?_
    obtain ⟨x14,hx14,h15⟩:=aE h13
    refine aK r (iL (cs:=[PV.int _ _,PV.int _ _,PV.str _,PV.ls _ _ _,PV.ls _ _ _]) tO (cR r) r hx14 (cY _))<|aK r (hG (us:=[PV.int _ _,PV.int _ _,PV.str _,PV.ls _ _ _,PV.ls _ _ _]) fV r r r)<|hS (n:=1) (cs:=bU) (σ':=[bQ,bU]) aDC r r r<|bV (v:=.agg bQ) (us:=bQ) (cs:=bU) (σ':=[bQ,bQ]) r fV r r r r r r r r<|aF (fr':=[(1,.box 0 0),(3,aI),(4,.box 1 0)]) r r<|aH<|aK r (aZ iR r)<|aK r (aJ (v:=aI) eB r r r)<|aK r (gM r r)<|mB r<|og r r r (fun hc=>(aZ fM r))<|og r r r (fun hc=>(aJ (v:=aL) kD (gx r hc) r r)) ?_
    refine og r r r (fun hc=>(eC qM (cR (gx r hc))))<|og r r r (fun hc=>(gM (gx r hc) r))<|aK r (bX r r r (fun e=>eI e))<|mB r<|og r r r (fun hc=>(aZ fM r))<|og r r r (fun hc=>(aJ (v:=aL) kD (gx r hc) r r)) ?_
    obtain ⟨x16,hx16,h17⟩:=aE h15
    refine og r r r (fun hc=>(iL (cs:=[PV.int _ _,PV.int _ _,PV.str _,PV.ls _ _ _,PV.ls _ _ _]) tO (cR (gx r hc)) r (cG hx16 hc) (cY _)))<|og r r r (fun hc=>(aCI iR (gx r hc)))<|og r r r (fun hc=>(fU (p:=PV.int _ _) eB (gx r hc) r))<|og r r r (fun hc=>(gM (gx r hc) r))<|aK r (bX r r r (fun e=>eI e))<|mB r<|og r r r (fun hc=>(aZ fM r))<|og r r r (fun hc=>(aJ (v:=aL) kD (gx r hc) r r)) ?_
    obtain ⟨x18,hx18,h19⟩:=aE h17
    refine og r r r (fun hc=>(iL (cs:=[PV.int _ _,PV.int _ _,PV.str _,PV.ls _ _ _,PV.ls _ _ _]) tO (cR (gx r hc)) r (cG hx18 hc) (cY _)))<|og r r r (fun hc=>(aCI oA (gx r hc)))<|og r r r (fun hc=>(fU (p:=PV.str _) iE (gx r hc) r)) ?_
    obtain ⟨x20,hx20,h21⟩:=aE h19
    refine rZ r r (fun hc=>aY (v:=aB) r (uQ (cG hx20 hc)) ⟨(dW (gx r hc) lr),trivial⟩ (fC (by repeat (first | exact dT | refine aX r ?_ | refine aX (oQ r) ?_ | refine aX oP ?_))) r r) ?_
    refine og r r r (fun hc=>(eD (gx r hc)))<|aK r (bX r r r (fun e=>eI e))<|aF (fr':=[(1,.box 0 0),(3,aI),(65,aB)]) r r<|bS h21 r (fun hb22 h22=>?_) (fun hb22 h22=>?_)
    ·
     refine aH<|sB r<|aF (fr':=[(2,aB)]) r r<|bF<|bH<|aM<|aM<|bH<|aM<|aM ?_
     have h23:=dB h22 ho8
     have h24:=eH h23 h6
     obtain rfl:=sy h24
     exact bE (rs':=[.tmp 2]) r<|bG (v:=aB) r<|bD<|aN [] r r r lr aC
    ·
     exact aW<|bW<|bZ<|aT<|mI r<|aK r (dZ r r)<|sI r<|cD (fr':=[(1,.box 0 0),(3,aI),(65,aB)]) r<|tU _ (sy h22) (aU [] 1 r r r r ⟨lr,lr,trivial⟩ (bJ r aC))
   ·
    refine eZ<|bY<|bY<|dX ?_
    have h26:=dB h11 ho8
    exact fS _ (sy h26) (aU [] 1 r r r r trivial (bJ r aC))
  ·
   intro j7 hj27
   have h27:=iS hj27 h6
   refine bZ<|aH<|sB r<|aF (fr':=[(2,aB)]) r r<|bF ?_
   obtain rfl:=sy h27
   exact bE (rs':=[.tmp 2]) r<|bG (v:=aB) r<|bD<|aN [] r r r lr aC
noncomputable def sC (p0C:bI):Option Bool :=
 (nI p0C.Kind (1:Int) (14:Int)).bind fun x1=>(gd ((!x1)==false) (wU p0C)).bind fun x3=>(gd ((!x1)==false) (rU x3 (bI.mk p0C.Kind (0:Int) ([]:List UInt8) ([]:List UInt8) (0:Int) (aG.mk (0:Int) (0:Int) ([]:List UInt8) ([]:(List aG)) ([]:(List (List UInt8)))) (cE.mk ([]:List UInt8) (0:Int) (0:Int) (0:Int) (0:Int) (0:Int) (0:Int) (0:Int) (0:Int) ([]:(List (List UInt8))))))).bind fun x5=>(gd ((cond (!x1) true (!x5))==false) (sA p0C.Data)).bind fun x7=>cond (cond (cond (!x1) true (!x5)) true (!x7)) (some false) ((nI p0C.Seq (1:Int) (2000:Int)).bind fun x11=>(nP p0C.Name).bind fun x13=>(nQ p0C.Key).bind fun x15=>cond (decide (p0C.Kind=(1:Int))) ((gd ((cond x11 x13 false)==true) (kH p0C.Opts)).bind fun x18=>some (cond (cond x11 x13 false) x18 false)) (((cond (decide (p0C.Kind=(2:Int))) (some (decide (p0C.Kind=(2:Int)))) (some (decide (p0C.Kind=(4:Int))))):Option Bool).bind fun x21=>(cond x21 (some x11) (cond (decide (p0C.Kind=(3:Int))) ((gd (x11==true) (nI p0C.N (1:Int) (1099511627776:Int))).bind fun x29=>some (cond x11 x29 false)) (cond (decide (p0C.Kind=(5:Int))) ((gd ((cond (cond x11 x13 false) x15 false)==true) (nI p0C.N (0:Int) (2:Int))).bind fun x33=>some (cond (cond (cond x11 x13 false) x15 false) x33 false)) (cond (decide (p0C.Kind=(6:Int))) (some (cond (cond x11 x13 false) x15 false)) (cond (decide (p0C.Kind=(7:Int))) ((gd ((x13==true)&&((decide (p0C.N=(-1:Int)))==false)) (nI p0C.N (0:Int) (2147483647:Int))).bind fun x39=>some (cond x13 (cond (decide (p0C.N=(-1:Int))) true (cond x39 (decide (p0C.Data.Kind=(0:Int))) false)) false)) (cond (decide (p0C.Kind=(8:Int))) (some (cond x15 x13 false)) (cond (decide (p0C.Kind=(9:Int))) ((gd (x15==true) (nI p0C.N (0:Int) (1:Int))).bind fun x45=>some (cond x15 x45 false)) (cond (decide (p0C.Kind=(10:Int))) (some (decide (p0C.Data.Kind=(5:Int)))) (cond (decide (p0C.Kind=(12:Int))) (some (decide (((p0C.Name).length:Int)≤(4096:Int)))) (cond (decide (p0C.Kind=(14:Int))) ((vA p0C.Data).bind fun x53=>some x53) (some true)))))))))))))
theorem aBI {p0C:bI}{res:Bool} (h:sC p0C=some res):bT Tryz.prog 84 [.agg (AV.cs (bR p0C))] [] (.c (.bool res)) []:=by
 unfold sC at h
 refine cJ (fn:=Tryz.f84) [0,1,2,3,4,5,24,35,36,47,51,59,73,82,101,107,115,121,127] (by kernel_rfl) Tryz.func84 r (by kernel_rfl) (by kernel_rfl)<|aH<|fW (v:=.agg aP) (n:=0) (cs:=aP) (σ':=[aP]) r r r r r<|sB r<|aF (fr':=[(1,.box 0 0)]) r r<|aR<|aR<|hF [.q 0,.q 1,.q 2,.q 3,.q 4,.q 5,.q 6,.q 7,.q 8,.q 9,.q 10,.q 11,.q 12,.q 13,.q 14,.q 15,.q 16,.q 17,.q 18] [(some 6,[1]),(some 7,[6]),(some 8,[7]),(some 9,[8]),(some 10,[9]),(some 11,[1,10]),(some 12,[11,10]),(some 13,[1,10]),(some 14,[13,10]),(some 15,[14,10]),(some 16,[12,15,10]),(some 17,[16,10]),(some 18,[10,17]),(some 19,[18]),(some 20,[1,19]),(some 21,[20,19]),(some 22,[21,19]),(some 23,[22,19]),(some 24,[19,23])] [0,1,3,7,15,31,63,31,159,415,1023,2047,4095,8191,16383,32767,65535,131071,262143] (by kernel_rfl)<|dq r r (aZ lB r)<|dq r r (aJ (v:=aI) eB r r r) ?_
 obtain ⟨x1,hx1,h2⟩:=aE h
 refine d_q r (mH (v:=aB) r (oH hx1) ⟨lr,lr,lr,trivial⟩ r)<|dq r r (eD r)<|dq r r (bC (v:=aB) r)<|d_g r r r (fun hc=>mJ r (cN (us:=aP) nR r r r r)) ?_
 obtain ⟨x3,hx3,h4⟩:=aE h2
 refine d_g r r r (fun hc=>mH (v:=.agg aP) r (aHV (cG hx3 hc)) ⟨(dW (gx r hc) (bP r ⟨r,r,r,r,r,r,r,r,r,r,r,r,r,r,r,r,r,r,r,r,trivial⟩)),trivial⟩ r)<|d_g r r r (fun hc=>mJ r (aZ lB r))<|d_g r r r (fun hc=>mJ r (aJ (v:=aI) eB (gx r hc) r r))<|d_g r r r (fun hc=>mJ r (gR (c0:=aV) (cs:=aV) aOJ r (dQ (v:=aI) (us:=[_]) (cs':=u20) r (gx r hc) r r r r gQ))) ?_
 obtain ⟨x5,hx5,h6⟩:=aE h4
 refine d_g r r r (fun hc=>mH (v:=aB) r (aCZ (cG hx5 hc)) ⟨(dW (gx r hc) (bP r ⟨r,r,r,r,r,r,r,r,r,r,r,r,r,r,r,r,r,r,r,r,trivial⟩)),(dW (gx r hc) (bP r ⟨r,r,r,r,r,r,r,r,⟨_,r⟩,⟨_,r⟩,r,r,r,r,r,r,r,r,r,⟨_,r⟩,trivial⟩)),trivial⟩ r)<|d_g r r r (fun hc=>mJ r (eD (gx r hc)))<|dq r r (bX r r r (fun e=>eI e))<|dq r r (bC (v:=aB) r)<|d_g r r r (fun hc=>mJ r (aZ nZ r))<|d_g r r r (fun hc=>mJ r (cN (us:=bQ) fV (gx r hc) r r r)) ?_
 obtain ⟨x7,hx7,h8⟩:=aE h6
 refine d_g r r r (fun hc=>mH (v:=aB) r (aBH (cG hx7 hc)) ⟨(dW (gx r hc) (bP r ⟨r,r,r,r,r,trivial⟩)),trivial⟩ r)<|d_g r r r (fun hc=>mJ r (eD (gx r hc)))<|dq r r (bX r r r (fun e=>eI e))<|tS (fr':=[(1,.box 0 0),(24,aB)]) r r<|bS h8 r (fun hb9 h9=>?_) (fun hb9 h9=>?_)
 ·
  refine aH<|sB r<|aF (fr':=[(2,aB)]) r r<|bF<|aM ?_
  obtain rfl:=sy h9
  exact bE (rs':=[.tmp 2]) r<|bG (v:=aB) r<|bD<|aN [] r r r lr aC
 ·
  refine aW<|bZ<|aH<|aK r (aZ vX r)<|aK r (aJ (v:=aI) eB r r r) ?_
  obtain ⟨x11,hx11,h12⟩:=aE h9
  refine gW (aY (v:=aB) r (oH hx11) ⟨lr,lr,lr,trivial⟩ r r r)<|sB r<|aF (fr':=[(1,.box 0 0),(3,aB)]) r r<|aH<|aK r (aZ tG r)<|aK r (aJ (v:=aS) iE r r r) ?_
  obtain ⟨x13,hx13,h14⟩:=aE h12
  refine gW (aY (v:=aB) r (uQ hx13) ⟨lr,trivial⟩ r r r)<|sB r<|aF (fr':=[(1,.box 0 0),(3,aB),(4,aB)]) r r<|aH<|aK r (aZ vY r)<|aK r (aJ (v:=aS) iE r r r) ?_
  obtain ⟨x15,hx15,h16⟩:=aE h14
  refine gW (aY (v:=aB) r (uR hx15) ⟨lr,trivial⟩ r r r)<|sB r<|aF (fr':=[(1,.box 0 0),(3,aB),(4,aB),(5,aB)]) r r<|aR<|aH<|aK r (aZ lB r)<|aK r (aJ (v:=aI) eB r r r)<|aF (fr':=[(1,.box 0 0),(3,aB),(4,aB),(5,aB),(35,aI)]) r r<|bL<|aH<|aK r (bO r r) ?_
  refine sB r<|aF (fr':=[(1,.box 0 0),(3,aB),(4,aB),(5,aB),(35,aI),(36,aB)]) r r<|bS h16 r (fun hb17 h17=>?_) (fun hb17 h17=>?_)
  ·
   refine aH<|mB r<|mB r<|og r r r (fun hc=>(bC (v:=aB) r))<|aK r (bM r r r (fun e=>eI e))<|mB r<|og r r r (fun hc=>(aZ uL r))<|og r r r (fun hc=>(cN (us:=cI) yM (gx r hc) r r r)) ?_
   obtain ⟨x18,hx18,h19⟩:=aE h17
   refine rZ r r (fun hc=>aY (v:=aB) r (vR (cG hx18 hc)) ⟨(dW (gx r hc) (bP r ⟨r,r,r,r,r,r,r,r,r,r,trivial⟩)),trivial⟩ (fC (by repeat (first | exact dT | refine aX r ?_ | refine aX (oQ r) ?_ | refine aX oP ?_))) r r) ?_
   refine aK r (bM r r r (fun e=>eI e))<|sB r<|aF (fr':=[(2,aB)]) r r<|bF<|bH<|aM ?_
   obtain rfl:=sy h19
   exact bE (rs':=[.tmp 2]) r<|bG (v:=aB) r<|bD<|aN [] r r r lr aC
  ·
   obtain ⟨x21,hx21,h22⟩:=aE h17
   refine fP (fun j23=>x21=j23) (fun (j23:Bool)=>([(1,.box 0 0),(3,.c (.bool x11)),(4,.c (.bool x13)),(5,.c (.bool x15)),(35,ci p0C.Kind),(47,.c (.bool j23))]:Fr)) (fun (j23:Bool)=>([[ci p0C.Kind,ci p0C.Seq,.c (.str p0C.Name),.c (.str p0C.Key),ci p0C.N,ci p0C.Data.Kind,ci p0C.Data.Int,.c (.str p0C.Data.Text),.c (PV.ls 5 bB p0C.Data.Items),.c (PV.ls 1 dD p0C.Data.Keys),.c (.str p0C.Opts.Queue),ci p0C.Opts.ToStart,ci p0C.Opts.ToClose,ci p0C.Opts.Total,ci p0C.Opts.Beat,ci p0C.Opts.First,ci p0C.Opts.Coef,ci p0C.Opts.Most,ci p0C.Opts.Attempts,.c (PV.ls 1 dD p0C.Opts.Fatal)]]:St)) ?_ ?_
   ·
    refine aH<|aK r (bO r r)<|sB r<|aF (fr':=[(1,.box 0 0),(3,aB),(4,aB),(5,aB),(35,aI),(47,aB)]) r r<|bS hx21 r (fun hb24 h24=>?_) (fun hb24 h24=>?_)
    ·
     exact aW<|fS _ (sy h24) (aU [] 1 r r r r ⟨lr,lr,lr,lr,lr,lr,trivial⟩ (bJ r aC))
    ·
     exact aT<|aK r (bO r r)<|sB r<|cD (fr':=[(1,.box 0 0),(3,aB),(4,aB),(5,aB),(35,aI),(47,aB)]) r<|fS _ (sy h24) (aU [] 1 r r r r ⟨lr,lr,lr,lr,lr,lr,trivial⟩ (bJ r aC))
   ·
    intro j23 hj25
    subst hj25
    refine bS h22 r (fun hb26 h26=>?_) (fun hb26 h26=>?_)
    ·
     refine aH<|mB r<|sB r<|aF (fr':=[(2,aB)]) r r<|bF<|bH<|aM ?_
     obtain rfl:=sy h26
     exact bE (rs':=[.tmp 2]) r<|bG (v:=aB) r<|bD<|aN [] r r r lr aC
    ·
     refine aH<|aK r (bO r r)<|sB r<|aF (fr':=[(1,.box 0 0),(3,aB),(4,aB),(5,aB),(35,aI),(51,aB)]) r r<|bS h26 r (fun hb28 h28=>?_) (fun hb28 h28=>?_)
     ·
      refine aH<|mB r<|mB r<|og r r r (fun hc=>(aZ mO r))<|og r r r (fun hc=>(aJ (v:=aI) eB (gx r hc) r r)) ?_
      obtain ⟨x29,hx29,h30⟩:=aE h28
      refine rZ r r (fun hc=>aY (v:=aB) r (oH (cG hx29 hc)) ⟨(dW (gx r hc) lr),lr,lr,trivial⟩ (fC (by repeat (first | exact dT | refine aX r ?_ | refine aX (oQ r) ?_ | refine aX oP ?_))) r r) ?_
      refine aK r (bM r r r (fun e=>eI e))<|sB r<|aF (fr':=[(2,aB)]) r r<|bF<|bH<|aM ?_
      obtain rfl:=sy h30
      exact bE (rs':=[.tmp 2]) r<|bG (v:=aB) r<|bD<|aN [] r r r lr aC
     ·
      refine aH<|aK r (bO r r)<|sB r<|aF (fr':=[(1,.box 0 0),(3,aB),(4,aB),(5,aB),(35,aI),(59,aB)]) r r<|bS h28 r (fun hb32 h32=>?_) (fun hb32 h32=>?_)
      ·
       refine aH<|mB r<|mB r<|og r r r (fun hc=>(bC (v:=aB) r))<|aK r (bM r r r (fun e=>eI e))<|mB r<|og r r r (fun hc=>(bC (v:=aB) r))<|aK r (bM r r r (fun e=>eI e))<|mB r<|og r r r (fun hc=>(aZ mO r))<|og r r r (fun hc=>(aJ (v:=aI) eB (gx r hc) r r)) ?_
       obtain ⟨x33,hx33,h34⟩:=aE h32
       refine rZ r r (fun hc=>aY (v:=aB) r (oH (cG hx33 hc)) ⟨(dW (gx r hc) lr),lr,lr,trivial⟩ (fC (by repeat (first | exact dT | refine aX r ?_ | refine aX (oQ r) ?_ | refine aX oP ?_))) r r) ?_
       refine aK r (bM r r r (fun e=>eI e))<|sB r<|aF (fr':=[(2,aB)]) r r<|bF<|bH<|aM ?_
       obtain rfl:=sy h34
       exact bE (rs':=[.tmp 2]) r<|bG (v:=aB) r<|bD<|aN [] r r r lr aC
      ·
       refine aH<|aK r (bO r r)<|sB r<|aF (fr':=[(1,.box 0 0),(3,aB),(4,aB),(5,aB),(35,aI),(73,aB)]) r r<|bS h32 r (fun hb36 h36=>?_) (fun hb36 h36=>?_)
       ·
        refine aH<|mB r<|mB r<|og r r r (fun hc=>(bC (v:=aB) r))<|aK r (bM r r r (fun e=>eI e))<|mB r<|og r r r (fun hc=>(bC (v:=aB) r))<|aK r (bM r r r (fun e=>eI e))<|sB r<|aF (fr':=[(2,aB)]) r r<|bF<|bH ?_
        refine aM ?_
        obtain rfl:=sy h36
        exact bE (rs':=[.tmp 2]) r<|bG (v:=aB) r<|bD<|aN [] r r r lr aC
       ·
        refine aH<|aK r (bO r r)<|sB r<|aF (fr':=[(1,.box 0 0),(4,aB),(5,aB),(35,aI),(82,aB)]) r r<|bS h36 r (fun hb38 h38=>?_) (fun hb38 h38=>?_)
        ·
         refine aH<|mB r<|mB r<|og r r r (fun hc=>(aZ mO r))<|og r r r (fun hc=>(aJ (v:=aI) eB (gx r hc) r r))<|og r r r (fun hc=>(bO (gx r hc) r))<|og r r r (fun hc=>(bC (v:=aB) (gx r hc)))<|eJ r r (fun hc=>eU r (aZ mO r))<|eJ r r (fun hc=>eU r (aJ (v:=aI) eB (gx r hc) r r)) ?_
         obtain ⟨x39,hx39,h40⟩:=aE h38
         refine eJ r r (fun hc=>aY (v:=aB) r (oH (cG hx39 hc)) ⟨(dW (gx r hc) lr),lr,lr,trivial⟩ (fC (by repeat (first | exact dT | refine aX r ?_ | refine aX (oQ r) ?_ | refine aX oP ?_))) r r) ?_
         refine eJ r r (fun hc=>eU r (bC (v:=aB) (gx r hc)))<|eJ r r (fun hc=>eU r (aZ nZ r))<|eJ r r (fun hc=>eU r (aZ iR (gx r hc)))<|eJ r r (fun hc=>eU r (aJ (v:=aI) eB (gx r hc) r r))<|eJ r r (fun hc=>eU r (bO (gx r hc) r))<|eJ r r (fun hc=>eU r (bM (gx r hc) r r (fun e=>oO hc (eI e))))<|og r r r (fun hc=>(bX (gx r hc) r r (fun e=>oO hc (eI e))))<|aK r (bM r r r (fun e=>eI e))<|sB r<|aF (fr':=[(2,aB)]) r r<|bF<|bH<|aM ?_
         obtain rfl:=sy h40
         exact bE (rs':=[.tmp 2]) r<|bG (v:=aB) r<|bD<|aN [] r r r lr aC
        ·
         refine aH<|aK r (bO r r)<|sB r<|aF (fr':=[(1,.box 0 0),(4,aB),(5,aB),(35,aI),(101,aB)]) r r<|bS h38 r (fun hb42 h42=>?_) (fun hb42 h42=>?_)
         ·
          refine aH<|mB r<|mB r<|og r r r (fun hc=>(bC (v:=aB) r))<|aK r (bM r r r (fun e=>eI e))<|sB r<|aF (fr':=[(2,aB)]) r r<|bF<|bH<|aM ?_
          obtain rfl:=sy h42
          exact bE (rs':=[.tmp 2]) r<|bG (v:=aB) r<|bD<|aN [] r r r lr aC
         ·
          refine aH<|aK r (bO r r)<|sB r<|aF (fr':=[(1,.box 0 0),(5,aB),(35,aI),(107,aB)]) r r<|bS h42 r (fun hb44 h44=>?_) (fun hb44 h44=>?_)
          ·
           refine aH<|mB r<|mB r<|og r r r (fun hc=>(aZ mO r))<|og r r r (fun hc=>(aJ (v:=aI) eB (gx r hc) r r)) ?_
           obtain ⟨x45,hx45,h46⟩:=aE h44
           refine rZ r r (fun hc=>aY (v:=aB) r (oH (cG hx45 hc)) ⟨(dW (gx r hc) lr),lr,lr,trivial⟩ (fC (by repeat (first | exact dT | refine aX r ?_ | refine aX (oQ r) ?_ | refine aX oP ?_))) r r) ?_
           refine aK r (bM r r r (fun e=>eI e))<|sB r<|aF (fr':=[(2,aB)]) r r<|bF<|bH<|aM ?_
           obtain rfl:=sy h46
           exact bE (rs':=[.tmp 2]) r<|bG (v:=aB) r<|bD<|aN [] r r r lr aC
          ·
           refine aH<|aK r (bO r r)<|sB r<|aF (fr':=[(1,.box 0 0),(35,aI),(115,aB)]) r r<|bS h44 r (fun hb48 h48=>?_) (fun hb48 h48=>?_)
           ·
            refine aH<|aK r (aZ nZ r)<|aK r (aZ iR r)<|aK r (aJ (v:=aI) eB r r r)<|aK r (bO r r)<|sB r<|aF (fr':=[(2,aB)]) r r<|bF<|bH<|aM ?_
            obtain rfl:=sy h48
            exact bE (rs':=[.tmp 2]) r<|bG (v:=aB) r<|bD<|aN [] r r r lr aC
           ·
            refine aH<|aK r (bO r r)<|sB r<|aF (fr':=[(1,.box 0 0),(35,aI),(121,aB)]) r r<|bS h48 r (fun hb50 h50=>?_) (fun hb50 h50=>?_)
            ·
             refine aH<|aK r (aZ tG r)<|aK r (aJ (v:=aS) iE r r r)<|aK r (gS nJ r)<|aK r (lI r r)<|sB r<|aF (fr':=[(2,aB)]) r r<|bF<|bH<|aM ?_
             obtain rfl:=sy h50
             exact bE (rs':=[.tmp 2]) r<|bG (v:=aB) r<|bD<|aN [] r r r lr aC
            ·
             refine aH<|aK r (bO r r)<|sB r<|aF (fr':=[(1,.box 0 0),(127,aB)]) r r<|bS h50 r (fun hb52 h52=>?_) (fun hb52 h52=>?_)
             ·
              refine aH<|aK r (aZ nZ r)<|aK r (cN (us:=bQ) fV r r r r) ?_
              obtain ⟨x53,hx53,h54⟩:=aE h52
              refine gW (aY (v:=aB) r (aGD hx53) ⟨(bP r ⟨r,r,r,r,r,trivial⟩),trivial⟩ r r r)<|sB r<|aF (fr':=[(2,aB)]) r r<|bF<|bH<|aM ?_
              obtain rfl:=sy h54
              exact bE (rs':=[.tmp 2]) r<|bG (v:=aB) r<|bD<|aN [] r r r lr aC
             ·
              refine aW<|bW<|bZ<|aH<|sB r<|aF (fr':=[(2,aB)]) r r<|bF ?_
              obtain rfl:=sy h52
              exact bE (rs':=[.tmp 2]) r<|bG (v:=aB) r<|bD<|aN [] r r r lr aC
end Go.Proofs.YtnigjppddilpcaaGreatDoor
