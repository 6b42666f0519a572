import Derived.Test.YtnigjppddilpcaaGreatDoorGETy
import Derived.Test.YtnigjppddilpcaaGreatDoorGEF0
import Derived.Test.YtnigjppddilpcaaGreatDoorGEF1
import Derived.Test.YtnigjppddilpcaaGreatDoorGEF2
import Derived.Test.YtnigjppddilpcaaGreatDoorGEF3
namespace Go.Proofs.YtnigjppddilpcaaGreatDoor
open Go Abs
set_option maxRecDepth 100000
set_option linter.unusedVariables false
set_option linter.unusedSimpArgs false
noncomputable def kF (p0e:aV):Option Bool :=
 cond (decide (p0e.Kind=(1:Int))) ((jQ p0e.Name).bind fun x2=>(gd (x2==true) (gT p0e.Key)).bind fun x4=>(gd ((cond x2 x4 false)==true) (fN p0e.N (0:Int) (4294967295:Int))).bind fun x6=>(gd ((cond (cond x2 x4 false) x6 false)==true) (qC p0e.Data)).bind fun x8=>some (cond (cond (cond x2 x4 false) x6 false) x8 false)) (cond (decide (p0e.Kind=(2:Int))) (some (decide ((1:Int)≤p0e.N))) (cond (decide (p0e.Kind=(5:Int))) ((fN p0e.Code (1:Int) (30:Int)).bind fun x14=>some x14) (cond (decide (p0e.Kind=(8:Int))) ((fN p0e.N (1:Int) (1000:Int)).bind fun x18=>some x18) (cond (decide (p0e.Kind=(11:Int))) ((fN p0e.Code (1:Int) (4:Int)).bind fun x22=>some x22) (((cond (decide (p0e.Kind=(10:Int))) (some (decide (p0e.Kind=(10:Int)))) (cond (decide (p0e.Kind=(22:Int))) (some (decide (p0e.Kind=(22:Int)))) (some (decide (p0e.Kind=(25:Int)))))):Option Bool).bind fun x25=>(cond x25 (some (decide (((p0e.Name).length:Int)≤(4096:Int)))) (cond (decide (p0e.Kind=(33:Int))) (some (decide (((p0e.Name).length:Int)≤(64:Int)))) (cond (decide (p0e.Kind=(17:Int))) ((jQ p0e.Name).bind fun x36=>(gd (x36==true) (gT p0e.Key)).bind fun x38=>some (cond x36 x38 false)) (cond (decide (p0e.Kind=(26:Int))) ((gT p0e.Key).bind fun x42=>some x42) (cond (decide (p0e.Kind=(20:Int))) ((qG p0e.Key).bind fun x46=>some x46.2) (some true)))))))))))
theorem yZ {p0e:aV}{res:Bool} (h:kF p0e=some res):bR Tryz.prog 141 [.agg (AV.cs (bZ p0e))] [] (.c (.bool res)) []:=by
 unfold kF at h
 refine cP (fn:=Tryz.f141) [0,1,2,4,6,7,27,32,37,42,47,55,61,71,76] (by kernel_rfl) Tryz.func141 r (by kernel_rfl) (by kernel_rfl)<|aJ<|gH (v:=.agg aH) (n:=0) (cs:=aH) (σ':=[aH]) r r r r r<|sB r<|aF (fr':=[(1,.box 0 0)]) r r<|aN<|aJ<|aQ r (bF wP r)<|aQ r (aP (v:=aI) fC r r r)<|aF (fr':=[(1,.box 0 0),(6,aI)]) r r<|bK ?_
 refine aJ<|aQ r (bX r r)<|sB r<|aF (fr':=[(1,.box 0 0),(6,aI),(7,aB)]) r r<|cC h r (fun hb1 h1=>?_) (fun hb1 h1=>?_)
 ·
  refine aJ<|aQ r (bF rX r)<|aQ r (aP (v:=aS) nV r r r) ?_
  obtain ⟨x2,hx2,h3⟩:=aE h1
  refine jZ (bG (v:=aB) r (nB hx2) ⟨lr,trivial⟩ r r r)<|mB r<|og r r r (fun hc=>(bF rY r))<|og r r r (fun hc=>(aP (v:=aS) nV (gx r hc) r r)) ?_
  obtain ⟨x4,hx4,h5⟩:=aE h3
  refine vQ r r (fun hc=>bG (v:=aB) r (nW (cV hx4 hc)) ⟨(fK (gx r hc) lr),trivial⟩ (fT (by repeat (first | exact eK | refine aY r ?_ | refine aY (rI r) ?_ | refine aY rH ?_))) r r) ?_
  refine aQ r (bS r r r (fun e=>fG e))<|mB r<|og r r r (fun hc=>(bF uS r))<|og r r r (fun hc=>(aP (v:=aI) fC (gx r hc) r r)) ?_
  obtain ⟨x6,hx6,h7⟩:=aE h5
  refine vQ r r (fun hc=>bG (v:=aB) r (fY (cV hx6 hc)) ⟨(fK (gx r hc) lr),lr,lr,trivial⟩ (fT (by repeat (first | exact eK | refine aY r ?_ | refine aY (rI r) ?_ | refine aY rH ?_))) r r) ?_
  refine aQ r (bS r r r (fun e=>fG e))<|mB r<|og r r r (fun hc=>(bF uT r))<|og r r r (fun hc=>(dF (us:=bI) fQ (gx r hc) r r r)) ?_
  obtain ⟨x8,hx8,h9⟩:=aE h7
  refine vQ r r (fun hc=>bG (v:=aB) r (aDr (cV hx8 hc)) ⟨(fK (gx r hc) (bM r ⟨r,r,r,r,r,trivial⟩)),trivial⟩ (fT (by repeat (first | exact eK | refine aY r ?_ | refine aY (rI r) ?_ | refine aY rH ?_))) r r) ?_
  refine aQ r (bS r r r (fun e=>fG e))<|sB r<|aF (fr':=[(2,aB)]) r r<|bE<|bB<|aK ?_
  obtain rfl:=sy h9
  exact bD (rs':=[.tmp 2]) r<|bL (v:=aB) r<|bC<|aR [] r r r lr aC
 ·
  refine aJ<|aQ r (bX r r)<|sB r<|aF (fr':=[(1,.box 0 0),(6,aI),(27,aB)]) r r<|cC h1 r (fun hb11 h11=>?_) (fun hb11 h11=>?_)
  ·
   refine aJ<|aQ r (bF uS r)<|aQ r (aP (v:=aI) fC r r r)<|aQ r (qJ r r)<|sB r<|aF (fr':=[(2,aB)]) r r<|bE<|bB<|aK ?_
   obtain rfl:=sy h11
   exact bD (rs':=[.tmp 2]) r<|bL (v:=aB) r<|bC<|aR [] r r r lr aC
  ·
   refine aJ<|aQ r (bX r r)<|sB r<|aF (fr':=[(1,.box 0 0),(6,aI),(32,aB)]) r r<|cC h11 r (fun hb13 h13=>?_) (fun hb13 h13=>?_)
   ·
    refine aJ<|aQ r (bF wR r)<|aQ r (aP (v:=aI) fC r r r) ?_
    obtain ⟨x14,hx14,h15⟩:=aE h13
    refine jZ (bG (v:=aB) r (fY hx14) ⟨lr,lr,lr,trivial⟩ r r r)<|sB r<|aF (fr':=[(2,aB)]) r r<|bE<|bB<|aK ?_
    obtain rfl:=sy h15
    exact bD (rs':=[.tmp 2]) r<|bL (v:=aB) r<|bC<|aR [] r r r lr aC
   ·
    refine aJ<|aQ r (bX r r)<|sB r<|aF (fr':=[(1,.box 0 0),(6,aI),(37,aB)]) r r<|cC h13 r (fun hb17 h17=>?_) (fun hb17 h17=>?_)
    ·
     refine aJ<|aQ r (bF uS r)<|aQ r (aP (v:=aI) fC r r r) ?_
     obtain ⟨x18,hx18,h19⟩:=aE h17
     refine jZ (bG (v:=aB) r (fY hx18) ⟨lr,lr,lr,trivial⟩ r r r)<|sB r<|aF (fr':=[(2,aB)]) r r<|bE<|bB<|aK ?_
     obtain rfl:=sy h19
     exact bD (rs':=[.tmp 2]) r<|bL (v:=aB) r<|bC<|aR [] r r r lr aC
    ·
     refine aJ<|aQ r (bX r r)<|sB r<|aF (fr':=[(1,.box 0 0),(6,aI),(42,aB)]) r r<|cC h17 r (fun hb21 h21=>?_) (fun hb21 h21=>?_)
     ·
      refine aJ<|aQ r (bF wR r)<|aQ r (aP (v:=aI) fC r r r) ?_
      obtain ⟨x22,hx22,h23⟩:=aE h21
      refine jZ (bG (v:=aB) r (fY hx22) ⟨lr,lr,lr,trivial⟩ r r r)<|sB r<|aF (fr':=[(2,aB)]) r r<|bE<|bB<|aK ?_
      obtain rfl:=sy h23
      exact bD (rs':=[.tmp 2]) r<|bL (v:=aB) r<|bC<|aR [] r r r lr aC
     ·
      obtain ⟨x25,hx25,h26⟩:=aE h21
      refine jX (fun j27=>x25=j27) (fun (j27:Bool)=>([(1,.box 0 0),(6,ci p0e.Kind),(47,.c (.bool j27))]:Fr)) (fun (j27:Bool)=>([[ci p0e.ID,ci p0e.Kind,ci p0e.Time,ci p0e.Seq,ci p0e.Ref,ci p0e.N,ci p0e.Code,.c (.str p0e.Name),.c (.str p0e.Key),ci p0e.Data.Kind,ci p0e.Data.Int,.c (.str p0e.Data.Text),.c (PV.ls 5 aZ p0e.Data.Items),.c (PV.ls 1 fD p0e.Data.Keys),.c (.str p0e.Opts.Queue),ci p0e.Opts.ToStart,ci p0e.Opts.ToClose,ci p0e.Opts.Total,ci p0e.Opts.Beat,ci p0e.Opts.First,ci p0e.Opts.Coef,ci p0e.Opts.Most,ci p0e.Opts.Attempts,.c (PV.ls 1 fD p0e.Opts.Fatal)]]:St)) ?_ ?_
      ·
       refine aJ<|aQ r (bX r r)<|sB r<|aF (fr':=[(1,.box 0 0),(6,aI),(47,aB)]) r r<|cC hx25 r (fun hb28 h28=>?_) (fun hb28 h28=>?_)
       ·
        exact bA<|lF _ (sy h28) (bJ [] 1 r r r r ⟨lr,lr,lr,trivial⟩ (cK r aC))
       ·
        refine aJ<|aQ r (bX r r)<|sB r<|aF (fr':=[(1,.box 0 0),(6,aI),(47,aB)]) r r<|cC h28 r (fun hb29 h29=>?_) (fun hb29 h29=>?_)
        ·
         exact bA<|lF _ (sy h29) (bJ [] 1 r r r r ⟨lr,lr,lr,trivial⟩ (cK r aC))
        ·
         exact aT<|aQ r (bX r r)<|sB r<|cI (fr':=[(1,.box 0 0),(6,aI),(47,aB)]) r<|lF _ (sy h29) (bJ [] 1 r r r r ⟨lr,lr,lr,trivial⟩ (cK r aC))
      ·
       intro j27 hj30
       subst hj30
       refine cC h26 r (fun hb31 h31=>?_) (fun hb31 h31=>?_)
       ·
        refine aJ<|aQ r (bF rX r)<|aQ r (aP (v:=aS) nV r r r)<|aQ r (jT tT r)<|aQ r (tN r r)<|sB r<|aF (fr':=[(2,aB)]) r r<|bE<|bB<|aK ?_
        obtain rfl:=sy h31
        exact bD (rs':=[.tmp 2]) r<|bL (v:=aB) r<|bC<|aR [] r r r lr aC
       ·
        refine aJ<|aQ r (bX r r)<|sB r<|aF (fr':=[(1,.box 0 0),(6,aI),(55,aB)]) r r<|cC h31 r (fun hb33 h33=>?_) (fun hb33 h33=>?_)
        ·
         refine aJ<|aQ r (bF rX r)<|aQ r (aP (v:=aS) nV r r r)<|aQ r (jT tT r)<|aQ r (tN r r)<|sB r<|aF (fr':=[(2,aB)]) r r<|bE<|bB<|aK ?_
         obtain rfl:=sy h33
         exact bD (rs':=[.tmp 2]) r<|bL (v:=aB) r<|bC<|aR [] r r r lr aC
        ·
         refine aJ<|aQ r (bX r r)<|sB r<|aF (fr':=[(1,.box 0 0),(6,aI),(61,aB)]) r r<|cC h33 r (fun hb35 h35=>?_) (fun hb35 h35=>?_)
         ·
          refine aJ<|aQ r (bF rX r)<|aQ r (aP (v:=aS) nV r r r) ?_
          obtain ⟨x36,hx36,h37⟩:=aE h35
          refine jZ (bG (v:=aB) r (nB hx36) ⟨lr,trivial⟩ r r r)<|mB r<|og r r r (fun hc=>(bF rY r))<|og r r r (fun hc=>(aP (v:=aS) nV (gx r hc) r r)) ?_
          obtain ⟨x38,hx38,h39⟩:=aE h37
          refine vQ r r (fun hc=>bG (v:=aB) r (nW (cV hx38 hc)) ⟨(fK (gx r hc) lr),trivial⟩ (fT (by repeat (first | exact eK | refine aY r ?_ | refine aY (rI r) ?_ | refine aY rH ?_))) r r) ?_
          refine aQ r (bS r r r (fun e=>fG e))<|sB r<|aF (fr':=[(2,aB)]) r r<|bE<|bB<|aK ?_
          obtain rfl:=sy h39
          exact bD (rs':=[.tmp 2]) r<|bL (v:=aB) r<|bC<|aR [] r r r lr aC
         ·
          refine aJ<|aQ r (bX r r)<|sB r<|aF (fr':=[(1,.box 0 0),(6,aI),(71,aB)]) r r<|cC h35 r (fun hb41 h41=>?_) (fun hb41 h41=>?_)
          ·
           refine aJ<|aQ r (bF rY r)<|aQ r (aP (v:=aS) nV r r r) ?_
           obtain ⟨x42,hx42,h43⟩:=aE h41
           refine jZ (bG (v:=aB) r (nW hx42) ⟨lr,trivial⟩ r r r)<|sB r<|aF (fr':=[(2,aB)]) r r<|bE<|bB<|aK ?_
           obtain rfl:=sy h43
           exact bD (rs':=[.tmp 2]) r<|bL (v:=aB) r<|bC<|aR [] r r r lr aC
          ·
           refine aJ<|aQ r (bX r r)<|sB r<|aF (fr':=[(1,.box 0 0),(76,aB)]) r r<|cC h41 r (fun hb45 h45=>?_) (fun hb45 h45=>?_)
           ·
            refine aJ<|aQ r (bF rY r)<|aQ r (aP (v:=aS) nV r r r) ?_
            obtain ⟨x46,hx46,h47⟩:=aE h45
            refine jZ (bG (v:=.tup [aI,aB]) r (aDt hx46) ⟨lr,trivial⟩ r r r)<|mV (v:=.tup [aI,aB]) r<|aQ r (xP (v:=aI) r r)<|aQ r (xP (v:=aB) r r)<|sI r<|sB r<|aF (fr':=[(4,aB)]) r r<|aJ<|mB r<|sB r<|aF (fr':=[(2,aB)]) r r<|bE ?_
            refine bB<|aK ?_
            obtain rfl:=sy h47
            exact bD (rs':=[.tmp 2]) r<|bL (v:=aB) r<|bC<|aR [] r r r lr aC
           ·
            refine bA<|cA<|bT<|aJ<|sB r<|aF (fr':=[(2,aB)]) r r<|bE ?_
            obtain rfl:=sy h45
            exact bD (rs':=[.tmp 2]) r<|bL (v:=aB) r<|bC<|aR [] r r r lr aC
noncomputable def mH (p0e:aV):Option Bool :=
 (fN p0e.Kind (1:Int) (35:Int)).bind fun x1=>(gd ((!x1)==false) (fN p0e.ID (0:Int) (2000:Int))).bind fun x3=>(gd ((cond (!x1) true (!x3))==false) (fN p0e.Time (0:Int) (1099511627776:Int))).bind fun x5=>(gd ((cond (cond (!x1) true (!x3)) true (!x5))==false) (oD p0e.Data)).bind fun x7=>cond (cond (cond (cond (!x1) true (!x3)) true (!x5)) true (!x7)) (some false) ((lH p0e.Kind).bind fun x11=>cond (!decide (x11=(0:Int))) ((lI p0e x11).bind fun x14=>some x14) ((rJ p0e.Kind).bind fun x17=>(kG x17 p0e).bind fun x19=>(gd (((!x19)==false)&&(x17.seq_==true)) (fN p0e.Seq (1:Int) (2000:Int))).bind fun x21=>(gd (((cond (!x19) true (cond x17.seq_ (!x21) false))==false)&&(x17.ref_==true)) (fN p0e.Ref (1:Int) (2000:Int))).bind fun x23=>cond (cond (cond (!x19) true (cond x17.seq_ (!x21) false)) true (cond x17.ref_ (!x23) false)) (some false) ((kF p0e).bind fun x27=>some x27)))
theorem yE {p0e:aV}{res:Bool} (h:mH p0e=some res):bR Tryz.prog 61 [.agg (AV.cs (bZ p0e))] [] (.c (.bool res)) []:=by
 unfold mH at h
 refine cP (fn:=Tryz.f61) [0,1,2,3,4,26,31,61] (by kernel_rfl) Tryz.func61 r (by kernel_rfl) (by kernel_rfl)<|aJ<|gH (v:=.agg aH) (n:=0) (cs:=aH) (σ':=[aH]) r r r r r<|sB r<|aF (fr':=[(1,.box 0 0)]) r r<|aN<|aJ<|aQ r (bF wP r)<|aQ r (aP (v:=aI) fC r r r) ?_
 obtain ⟨x1,hx1,h2⟩:=aE h
 refine jZ (bG (v:=aB) r (fY hx1) ⟨lr,lr,lr,trivial⟩ r r r)<|aQ r (eU r)<|mB r<|og r r r (fun hc=>(bF aCO r))<|og r r r (fun hc=>(aP (v:=aI) fC (gx r hc) r r)) ?_
 obtain ⟨x3,hx3,h4⟩:=aE h2
 refine vQ r r (fun hc=>bG (v:=aB) r (fY (cV hx3 hc)) ⟨(fK (gx r hc) lr),lr,lr,trivial⟩ (fT (by repeat (first | exact eK | refine aY r ?_ | refine aY (rI r) ?_ | refine aY rH ?_))) r r) ?_
 refine og r r r (fun hc=>(eU (gx r hc)))<|aQ r (cB r r r (fun e=>fG e))<|mB r<|og r r r (fun hc=>(bF aCP r))<|og r r r (fun hc=>(aP (v:=aI) fC (gx r hc) r r)) ?_
 obtain ⟨x5,hx5,h6⟩:=aE h4
 refine vQ r r (fun hc=>bG (v:=aB) r (fY (cV hx5 hc)) ⟨(fK (gx r hc) lr),lr,lr,trivial⟩ (fT (by repeat (first | exact eK | refine aY r ?_ | refine aY (rI r) ?_ | refine aY rH ?_))) r r) ?_
 refine og r r r (fun hc=>(eU (gx r hc)))<|aQ r (cB r r r (fun e=>fG e))<|mB r<|og r r r (fun hc=>(bF uT r))<|og r r r (fun hc=>(dF (us:=bI) fQ (gx r hc) r r r)) ?_
 obtain ⟨x7,hx7,h8⟩:=aE h6
 refine vQ r r (fun hc=>bG (v:=aB) r (yF (cV hx7 hc)) ⟨(fK (gx r hc) (bM r ⟨r,r,r,r,r,trivial⟩)),trivial⟩ (fT (by repeat (first | exact eK | refine aY r ?_ | refine aY (rI r) ?_ | refine aY rH ?_))) r r) ?_
 refine og r r r (fun hc=>(eU (gx r hc)))<|aQ r (cB r r r (fun e=>fG e))<|aF (fr':=[(1,.box 0 0),(26,aB)]) r r<|cC h8 r (fun hb9 h9=>?_) (fun hb9 h9=>?_)
 ·
  refine aJ<|sB r<|aF (fr':=[(2,aB)]) r r<|bE<|aK ?_
  obtain rfl:=sy h9
  exact bD (rs':=[.tmp 2]) r<|bL (v:=aB) r<|bC<|aR [] r r r lr aC
 ·
  refine bA<|bT<|aN<|aJ<|aQ r (bF wP r)<|aQ r (aP (v:=aI) fC r r r) ?_
  obtain ⟨x11,hx11,h12⟩:=aE h9
  refine jZ (bG (v:=aI) r (aAs hx11) ⟨lr,trivial⟩ r r r)<|sI r<|aF (fr':=[(1,.box 0 0),(3,aI)]) r r<|aJ<|mI r<|aQ r (fU r r)<|aF (fr':=[(1,.box 0 0),(3,aI),(31,aB)]) r r<|cC h12 r (fun hb13 h13=>?_) (fun hb13 h13=>?_)
  ·
   refine aJ<|aQ r (dF (us:=aH) vO r r r r)<|mI r ?_
   obtain ⟨x14,hx14,h15⟩:=aE h13
   refine jZ (bG (v:=aB) r (aAt hx14) ⟨(bM r ⟨r,r,r,r,r,r,r,r,r,r,r,r,r,r,r,r,r,r,r,r,r,r,r,r,trivial⟩),lr,trivial⟩ r r r)<|sB r<|aF (fr':=[(2,aB)]) r r<|bE<|aK ?_
   obtain rfl:=sy h15
   exact bD (rs':=[.tmp 2]) r<|bL (v:=aB) r<|bC<|aR [] r r r lr aC
  ·
   refine bA<|bT<|aJ<|aQ r (bF wP r)<|aQ r (aP (v:=aI) fC r r r) ?_
   obtain ⟨x17,hx17,h18⟩:=aE h13
   refine jZ (bG (v:=.agg aW) r (aES hx17) ⟨lr,trivial⟩ r r r)<|fZ (n:=1) (cs:=aW) (σ':=[aH,aW]) aKo r r r<|bO (v:=.agg aW) (us:=aW) (cs:=aW) (σ':=[aH,aW]) r iR r r r r r r r r<|aF (fr':=[(1,.box 0 0),(4,.box 1 0)]) r r<|aN<|aJ<|aQ r (dF (us:=aW) iR r r r r)<|aQ r (dF (us:=aH) vO r r r r) ?_
   obtain ⟨x19,hx19,h20⟩:=aE h18
   refine jZ (bG (v:=aB) r (zA hx19) ⟨(bM r ⟨r,r,r,r,r,r,r,trivial⟩),(bM r ⟨r,r,r,r,r,r,r,r,r,r,r,r,r,r,r,r,r,r,r,r,r,r,r,r,trivial⟩),trivial⟩ r r r)<|aQ r (eU r)<|mB r<|og r r r (fun hc=>(bF aHO r))<|og r r r (fun hc=>(aP (v:=aB) tv4 (gx r hc) r r))<|og r r r (fun hc=>(aU (v:=aB) (gx r hc)))<|eJ r r (fun hc=>eW r (bF yV r))<|eJ r r (fun hc=>eW r (aP (v:=aI) fC (gx r hc) r r)) ?_
   obtain ⟨x21,hx21,h22⟩:=aE h20
   refine eJ r r (fun hc=>bG (v:=aB) r (fY (cV hx21 hc)) ⟨(fK (gx r hc) lr),lr,lr,trivial⟩ (fT (by repeat (first | exact eK | refine aY r ?_ | refine aY (rI r) ?_ | refine aY rH ?_))) r r) ?_
   refine eJ r r (fun hc=>eW r (eU (gx r hc)))<|og r r r (fun hc=>(bS (gx r hc) r r (fun e=>qB hc (fG e))))<|aQ r (cB r r r (fun e=>fG e))<|mB r<|og r r r (fun hc=>(bF aHP r))<|og r r r (fun hc=>(aP (v:=aB) tv4 (gx r hc) r r))<|og r r r (fun hc=>(aU (v:=aB) (gx r hc)))<|eJ r r (fun hc=>eW r (bF wQ r))<|eJ r r (fun hc=>eW r (aP (v:=aI) fC (gx r hc) r r)) ?_
   obtain ⟨x23,hx23,h24⟩:=aE h22
   refine eJ r r (fun hc=>bG (v:=aB) r (fY (cV hx23 hc)) ⟨(fK (gx r hc) lr),lr,lr,trivial⟩ (fT (by repeat (first | exact eK | refine aY r ?_ | refine aY (rI r) ?_ | refine aY rH ?_))) r r) ?_
   refine eJ r r (fun hc=>eW r (eU (gx r hc)))<|og r r r (fun hc=>(bS (gx r hc) r r (fun e=>qB hc (fG e))))<|aQ r (cB r r r (fun e=>fG e))<|aF (fr':=[(1,.box 0 0),(61,aB)]) r r<|cC h24 r (fun hb25 h25=>?_) (fun hb25 h25=>?_)
   ·
    refine aJ<|sB r<|aF (fr':=[(2,aB)]) r r<|bE<|aK ?_
    obtain rfl:=sy h25
    exact bD (rs':=[.tmp 2]) r<|bL (v:=aB) r<|bC<|aR [] r r r lr aC
   ·
    refine bA<|bT<|aJ<|aQ r (dF (us:=aH) vO r r r r) ?_
    obtain ⟨x27,hx27,h28⟩:=aE h25
    refine jZ (bG (v:=aB) r (yZ hx27) ⟨(bM r ⟨r,r,r,r,r,r,r,r,r,r,r,r,r,r,r,r,r,r,r,r,r,r,r,r,trivial⟩),trivial⟩ r r r)<|sB r<|aF (fr':=[(2,aB)]) r r<|bE ?_
    obtain rfl:=sy h28
    exact bD (rs':=[.tmp 2]) r<|bL (v:=aB) r<|bC<|aR [] r r r lr aC
noncomputable def kR  (s11:(Int × Int)):Option (cD (Int × Int) Int) :=
 cond (decide (s11.2<(8:Int))) (some (cD.next ((eT .xor .u32 (Int.fdiv s11.1 (2 ^ (min (Int.toNat (1:Int)) (IntKind.bits .u32)))) (IntKind.wrap .u32 ((3988292384:Int)*(eT .and .u32 s11.1 (1:Int))))),(IntKind.wrap .i64 (s11.2+(1:Int)))))) (some (cD.out s11.1))
noncomputable def sQ (p0b:(List UInt8)) (s4:(Int × Int)):Option (cD (Int × Int) Int) :=
 cond (decide (s4.2<((p0b).length:Int))) ((gR p0b s4.2).bind fun x6=>((dO (kR) (((eT .xor .u32 s4.1 (IntKind.wrap .u32 ((x6).toNat:Int))),(0:Int)))):Option Int).bind fun x8=>(some (cD.next (x8,(IntKind.wrap .i64 (s4.2+(1:Int))))))) (some (cD.out s4.1))
noncomputable def wA (p0b:(List UInt8)):Option Int :=
 ((dO (sQ p0b) (((4294967295:Int),(0:Int)))):Option Int).bind fun x1=>(some (IntKind.wrap .i64 (eT .xor .u32 (4294967295:Int) x1)))
theorem aHi {p0b:(List UInt8)}{res:Int} (h:wA p0b=some res):bR Tryz.prog 142 [.c (PV.ls 1 eD p0b)] [] (ci res) []:=by
 unfold wA at h
 refine cP (fn:=Tryz.f142) [0,2,3,5,6,7,8,9,10,17,18] (by kernel_rfl) Tryz.func142 r (by kernel_rfl) (by kernel_rfl)<|aJ<|sI r<|aF (fr':=[(0,aL)]) r r<|aJ<|sI r<|aF (fr':=[(0,aL),(3,aI)]) r r<|aN<|aJ<|mL r ?_
 refine aQ r (eX yW (cZ r))<|mI r<|aF (fr':=[(3,aI),(7,aL),(8,aI),(9,aI)]) r r ?_
 obtain ⟨x1,hx1,h2⟩:=aE h
 refine fI iV (fun j3=>x1=j3) (fun (j3:Int)=>([(3,.c (.int .u32 j3))]:Fr)) (fun (j3:Int)=>([]:St)) ?_ ?_
 ·
  refine bK<|fB _ (fun (s4:(Int × Int))=>([(3,.c (.int .u32 s4.1)),(7,.c (PV.ls 1 eD p0b)),(8,ci ((p0b).length:Int)),(9,ci s4.2)]:Fr)) (fun (s4:(Int × Int))=>([]:St)) hx1 (bJ [] 0 r r r r ⟨lr,lr,lr,lr,trivial⟩ aC) ?_
  intro s4 st4 hs4 ho4
  unfold sQ at hs4
  refine aJ<|aQ r (dU r r)<|aF (fr':=[(3,aI),(7,aL),(8,aI),(9,aI),(10,aB)]) r r<|aN<|cC hs4 r (fun hb5 h5=>?_) (fun hb5 h5=>?_)
  ·
   refine bA<|bT<|aN<|bK<|aN<|aT ?_
   obtain ⟨x6,hx6,h7⟩:=aE h5
   refine aQ r (jS (cs:=[PV.int _ _]) uV (cZ r) r hx6 r)<|aQ r (fV (p:=PV.int _ _) tv5 r r)<|sI r<|aF (fr':=[(3,aI),(5,aI),(7,aL),(8,aI),(9,aI)]) r r<|aJ<|mI r<|mI r<|aQ r (pL tk5 aLW r)<|aQ r (aHE r r)<|sI r<|aF (fr':=[(3,aI),(7,aL),(8,aI),(9,aI)]) r r<|aN ?_
   refine aT<|mI r<|aF (fr':=[(3,aI),(7,aL),(8,aI),(9,aI),(17,aI)]) r r ?_
   obtain ⟨x8,hx8,h9⟩:=aE h7
   refine fI (aM1 iV) (fun j10=>x8=j10) (fun (j10:Int)=>([(3,.c (.int .u32 j10)),(7,.c (PV.ls 1 eD p0b)),(8,ci ((p0b).length:Int)),(9,ci s4.2)]:Fr)) (fun (j10:Int)=>([]:St)) ?_ ?_
   ·
    refine bK<|fB _ (fun (s11:(Int × Int))=>([(3,.c (.int .u32 s11.1)),(7,.c (PV.ls 1 eD p0b)),(8,ci ((p0b).length:Int)),(9,ci s4.2),(17,ci s11.2)]:Fr)) (fun (s11:(Int × Int))=>([]:St)) hx8 (bJ [] 0 r r r r ⟨lr,lr,lr,lr,lr,trivial⟩ aC) ?_
    intro s11 st11 hs11 ho11
    unfold kR at hs11
    refine aJ<|aQ r (dU r r)<|aF (fr':=[(3,aI),(7,aL),(8,aI),(9,aI),(17,aI),(18,aB)]) r r<|aN<|cC hs11 r (fun hb12 h12=>?_) (fun hb12 h12=>?_)
    ·
     refine bA<|bT<|aN<|bK<|aJ<|mI r<|aQ r (aJR r r)<|sI r<|aF (fr':=[(3,aI),(6,aI),(7,aL),(8,aI),(9,aI),(17,aI)]) r r<|aT<|mI r<|aQ r (aCs r r (by decide)) ?_
     exact mI r<|aQ r (aLS r r)<|aQ r (aHE r r)<|sI r<|cI (fr':=[(3,aI),(6,aI),(7,aL),(8,aI),(9,aI),(17,aI)]) r<|cA<|bT<|aT<|aQ r (dR r r)<|mI r<|cI (fr':=[(3,aI),(6,aI),(7,aL),(8,aI),(9,aI),(17,aI)]) r<|xG _ (sy h12) (bJ [] 0 r r r r ⟨lr,lr,lr,lr,lr,trivial⟩ aC)
    ·
     refine fJ<|bY<|bY<|eC ?_
     have h13:=dN h12 ho11
     exact lF _ (sy h13) (bJ [] 0 r r r r ⟨lr,lr,lr,lr,trivial⟩ aC)
   ·
    intro j10 hj14
    subst hj14
    exact cA<|bT<|aT<|aQ r (dR r r)<|mI r<|cI (fr':=[(3,aI),(7,aL),(8,aI),(9,aI)]) r<|xG _ (sy h9) (bJ [] 0 r r r r ⟨lr,lr,lr,lr,trivial⟩ aC)
  ·
   refine fJ<|bY<|bY<|eC ?_
   have h15:=dN h5 ho4
   exact lF _ (sy h15) (bJ [] 0 r r r r ⟨lr,trivial⟩ aC)
 ·
  intro j3 hj16
  subst hj16
  refine bT<|aJ<|mI r<|aQ r (aK6 (m:=4294967295) r r)<|aQ r (pL aLW tk3 r)<|sI r<|aF (fr':=[(2,aI)]) r r<|bE ?_
  obtain rfl:=sy h2
  exact bD (rs':=[.tmp 2]) r<|bL (v:=aI) r<|bC<|aR [] r r r lr aC
noncomputable def gU (p0b:(List UInt8)):Option yG :=
 (wA p0b).bind fun x1=>some (yG.mk (IntKind.wrap .u8 (Int.fdiv x1 (2 ^ (min (Int.toNat (24:Int)) (IntKind.bits .i64))))) (IntKind.wrap .u8 (Int.fdiv x1 (2 ^ (min (Int.toNat (16:Int)) (IntKind.bits .i64))))) (IntKind.wrap .u8 (Int.fdiv x1 (2 ^ (min (Int.toNat (8:Int)) (IntKind.bits .i64))))) (IntKind.wrap .u8 x1))
theorem qL {p0b:(List UInt8)}{res:yG} (h:gU p0b=some res):bR Tryz.prog 62 [.c (PV.ls 1 eD p0b)] [] (.agg (AV.cs (aIG res))) []:=by
 unfold gU at h
 refine cP (fn:=Tryz.f62) [0,2,3] (by kernel_rfl) Tryz.func62 r (by kernel_rfl) (by kernel_rfl)<|aJ<|fZ (n:=0) (cs:=oI) (σ':=[oI]) aMP r r r<|aF (fr':=[(0,aL),(2,.box 0 0)]) r r<|aJ<|mL r ?_
 obtain ⟨x1,hx1,h2⟩:=aE h
 refine jZ (bG (v:=aI) r (aHi hx1) ⟨lr,trivial⟩ r r r)<|sI r<|aF (fr':=[(2,.box 0 0),(3,aI)]) r r<|aJ<|mI r<|aQ r (aCs r r (by decide))<|aQ r (pL tk3 tk5 r)<|mI r<|aQ r (aCs r r (by decide))<|aQ r (pL tk3 tk5 r)<|mI r<|aQ r (aCs r r (by decide)) ?_
 refine aQ r (pL tk3 tk5 r)<|mI r<|aQ r (pL tk3 tk5 r)<|aQ r (aMs (cs:=oI) (rows:=[[_],[_],[_],[_]]) [0] aMK aMP r r r)<|bO (v:=.agg oI) (us:=oI) (cs:=oI) (σ':=[oI]) r aKl r r r r r r r r<|aF (fr':=[(2,.box 0 0)]) r r<|bE ?_
 obtain rfl:=sy h2
 exact bD (rs':=[.cell 2 81]) r<|dX (us:=oI) (cs:=oI) aKl r r r r<|bC<|aR [] r r r (bM r ⟨r,r,r,r,trivial⟩) aC
noncomputable def kV (p0l:(List aV)) (s8:((List UInt8) × Int)):Option (cD ((List UInt8) × Int) (Fl ((List UInt8) × Int) (List UInt8))) :=
 cond (decide (s8.2<((p0l).length:Int))) ((gR p0l s8.2).bind fun x10=>(mH x10).bind fun x12=>cond (!x12) (some (cD.out (Fl.done (([]:(List UInt8)),(11:Int))))) ((kI ([]:List UInt8) x10).bind fun x18=>(app 1 s8.1 x18).bind fun x20=>some (cD.next (x20,(IntKind.wrap .i64 (s8.2+(1:Int))))))) (some (cD.out (Fl.go s8.1)))
noncomputable def gN (p0l:(List aV)):Option ((List UInt8) × Int) :=
 cond (decide ((2000:Int)<((p0l).length:Int))) (some (([]:(List UInt8)),(6:Int))) ((eP ([]:List UInt8) ((p0l).length:Int)).bind fun x3=>((dO (kV p0l) ((x3,(0:Int)))):Option (Fl ((List UInt8) × Int) (List UInt8))).bind fun x5=>Fl.next x5 (fun j7=>((gU j7).bind fun x24=>(jP x24.E0).bind fun x26=>(jP x24.E1).bind fun x28=>(jP x24.E2).bind fun x30=>(jP x24.E3).bind fun x32=>(app 1 j7 ([x26,x28,x30,x32]:List UInt8)).bind fun x34=>some (x34,(0:Int)))))
theorem mA {p0l:(List aV)}{res:((List UInt8) × Int)} (h:gN p0l=some res):bR Tryz.prog 20 [.c (PV.ls 24 bZ p0l)] [] (.tup [AV.os 0 1 eD res.1,ci res.2]) []:=by
 unfold gN at h
 refine cP (fn:=Tryz.f20) [0,2,3,4,6,7,10,14,15,16,17,22] (by kernel_rfl) Tryz.func20 r (by kernel_rfl) (by kernel_rfl)<|aJ<|sV (v:=AV.nil) r<|sI r<|aF (fr':=[(0,aL)]) r r<|aN<|aJ<|mL r<|aQ r (eX aF6 (cZ r))<|aQ r (nO r r)<|aF (fr':=[(0,aL),(10,aB)]) r r ?_
 refine cC h r (fun hb1 h1=>?_) (fun hb1 h1=>?_)
 ·
  refine aJ<|sV (v:=AV.nil) r<|sI r<|aF (fr':=[(2,AV.nil),(3,aI)]) r r<|bE<|aK ?_
  obtain rfl:=sy h1
  exact bD (rs':=[.tmp 2,.tmp 3]) r<|bL (v:=AV.nil) r<|bL (v:=aI) r<|bC<|aR [1000000] r r r (uC r ⟨(tE r),lr,trivial⟩) aC
 ·
  refine bA<|bT<|aJ<|mL r<|aQ r (eX aF6 (cZ r)) ?_
  obtain ⟨x3,hx3,h4⟩:=aE h1
  refine jZ (bG (v:=aO) r (eY hx3) ⟨aEz,lr,trivial⟩ r r r)<|sV (v:=aO) r<|aF (fr':=[(0,aL),(4,aO)]) r r<|aN<|aJ<|mL r<|aQ r (eX aF6 (cZ r))<|mI r<|aF (fr':=[(4,aO),(14,aL),(15,aI),(16,aI)]) r r ?_
  obtain ⟨x5,hx5,h6⟩:=aE h4
  refine fI iV (fun j7=>x5=Fl.go j7) (fun (j7:(List UInt8))=>([(4,AV.os 0 1 eD j7)]:Fr)) (fun (j7:(List UInt8))=>([]:St)) ?_ ?_
  ·
   refine bK<|fB _ (fun (s8:((List UInt8) × Int))=>([(4,AV.os 0 1 eD s8.1),(14,.c (PV.ls 24 bZ p0l)),(15,ci ((p0l).length:Int)),(16,ci s8.2)]:Fr)) (fun (s8:((List UInt8) × Int))=>([]:St)) hx5 (bJ [208] 0 r r r r ⟨lr,lr,lr,lr,trivial⟩ aC) ?_
   intro s8 st8 hs8 ho8
   unfold kV at hs8
   refine aJ<|aQ r (dU r r)<|aF (fr':=[(4,aO),(14,aL),(15,aI),(16,aI),(17,aB)]) r r<|aN<|cC hs8 r (fun hb9 h9=>?_) (fun hb9 h9=>?_)
   ·
    refine bA<|bT<|aN<|bK<|aN<|aT ?_
    obtain ⟨x10,hx10,h11⟩:=aE h9
    refine aQ r (jS (cs:=[PV.int _ _,PV.int _ _,PV.int _ _,PV.int _ _,PV.int _ _,PV.int _ _,PV.int _ _,PV.str _,PV.str _,PV.int _ _,PV.int _ _,PV.str _,PV.ls _ _ _,PV.ls _ _ _,PV.str _,PV.int _ _,PV.int _ _,PV.int _ _,PV.int _ _,PV.int _ _,PV.int _ _,PV.int _ _,PV.int _ _,PV.ls _ _ _]) aHc (cZ r) r hx10 r)<|aQ r (iL (us:=[PV.int _ _,PV.int _ _,PV.int _ _,PV.int _ _,PV.int _ _,PV.int _ _,PV.int _ _,PV.str _,PV.str _,PV.int _ _,PV.int _ _,PV.str _,PV.ls _ _ _,PV.ls _ _ _,PV.str _,PV.int _ _,PV.int _ _,PV.int _ _,PV.int _ _,PV.int _ _,PV.int _ _,PV.int _ _,PV.int _ _,PV.ls _ _ _]) vO r r r)<|fZ (n:=0) (cs:=aA) (σ':=[aA]) aIQ r r r<|bO (v:=.agg aH) (us:=aH) (cs:=aA) (σ':=[aH]) r vO r r r r r r r r<|aF (fr':=[(4,aO),(6,.box 0 0),(14,aL),(15,aI),(16,aI)]) r r<|aN<|aJ<|aQ r (dF (us:=aH) vO r r r r) ?_
    obtain ⟨x12,hx12,h13⟩:=aE h11
    refine jZ (bG (v:=aB) r (yE hx12) ⟨(bM r ⟨r,r,r,r,r,r,r,r,r,r,r,r,r,r,r,r,r,r,r,r,r,r,r,r,trivial⟩),trivial⟩ r r r)<|aQ r (eU r)<|aF (fr':=[(4,aO),(6,.box 0 0),(14,aL),(15,aI),(16,aI),(22,aB)]) r r<|cC h13 r (fun hb14 h14=>?_) (fun hb14 h14=>?_)
    ·
     refine aJ<|sV (v:=AV.nil) r<|sI r<|aF (fr':=[(2,AV.nil),(3,aI)]) r r<|bE<|aK<|bB<|aK<|aK<|bB<|aK<|aK ?_
     have h15:=dN h14 ho8
     have h16:=eA h15 h6
     obtain rfl:=sy h16
     exact bD (rs':=[.tmp 2,.tmp 3]) r<|bL (v:=AV.nil) r<|bL (v:=aI) r<|bC<|aR [1000000] r r r (uC r ⟨(tE r),lr,trivial⟩) aC
    ·
     refine bA<|bT<|aT<|mV (v:=aO) r<|aQ r (dF (us:=aH) vO r r r r) ?_
     obtain ⟨x18,hx18,h19⟩:=aE h14
     refine jZ (bG (v:=aO) r (zC hx18) ⟨aEz,(bM r ⟨r,r,r,r,r,r,r,r,r,r,r,r,r,r,r,r,r,r,r,r,r,r,r,r,trivial⟩),trivial⟩ r r r) ?_
     obtain ⟨x20,hx20,h21⟩:=aE h19
     exact aBd (row:=eD) uV r yW r (qF r) (fun _=>r) hx20<|sV (v:=aO) r<|cI (fr':=[(4,aO),(6,.box 0 0),(14,aL),(15,aI),(16,aI),(22,aB)]) r<|cA<|bT<|aT<|aQ r (dR r r)<|mI r<|cI (fr':=[(4,aO),(6,.box 0 0),(14,aL),(15,aI),(16,aI),(22,aB)]) r<|xG _ (sy h21) (bJ [416] 0 r r r r ⟨lr,lr,lr,lr,trivial⟩ aC)
   ·
    refine fJ<|bY<|bY<|eC ?_
    have h22:=dN h9 ho8
    exact lF _ (sy h22) (bJ [0] 0 r r r r ⟨lr,trivial⟩ aC)
  ·
   intro j7 hj23
   have h23:=kN hj23 h6
   refine bT<|aJ<|mV (v:=aO) r ?_
   obtain ⟨x24,hx24,h25⟩:=aE h23
   refine jZ (bG (v:=.agg oI) r (qL hx24) ⟨lr,trivial⟩ r r r)<|fZ (n:=0) (cs:=oI) (σ':=[oI]) aMP r r r<|bO (v:=.agg oI) (us:=oI) (cs:=oI) (σ':=[oI]) r aKl r r r r r r r r<|aF (fr':=[(4,aO),(7,.box 0 0)]) r r<|aJ<|mV (v:=aO) r<|aQ r (aMz aMK r) ?_
   obtain ⟨x26,hx26,h27⟩:=aE h25
   obtain ⟨x28,hx28,h29⟩:=aE h27
   obtain ⟨x30,hx30,h31⟩:=aE h29
   obtain ⟨x32,hx32,h33⟩:=aE h31
   obtain ⟨x34,hx34,h35⟩:=aE h33
   refine aMl (row:=eD) (ys:=([x26,x28,x30,x32]:List UInt8)) (cs:=oI) (us:=oI) uV r yW r r r r r (aHW hx26 (aHW hx28 (aHW hx30 (aHW hx32 aMT)))) (fun _=>r) hx34<|sV (v:=aO) r<|sI r<|aF (fr':=[(2,aO),(3,aI)]) r r<|bE ?_
   obtain rfl:=sy h35
   exact bD (rs':=[.tmp 2,.tmp 3]) r<|bL (v:=aO) r<|bL (v:=aI) r<|bC<|aR [512] r r r (uC r ⟨lr,lr,trivial⟩) aC
noncomputable def pP (p0b:(List UInt8)):Option aG :=
 (eV p0b).bind fun x1=>some (aG.mk x1 (0:Int) (0:Int) true)
theorem aGd {p0b:(List UInt8)}{res:aG} (h:pP p0b=some res):bR Tryz.prog 25 [.c (PV.ls 1 eD p0b)] [] (.box 0 0) [AV.cs (cN res)]:=by
 unfold pP at h
 refine cP (fn:=Tryz.f25) [0,2] (by kernel_rfl) Tryz.func25 r (by kernel_rfl) (by kernel_rfl)<|aJ<|sV (v:=.nilptr) r<|aF (fr':=[(0,aL)]) r r<|aJ<|mL r ?_
 obtain ⟨x1,hx1,h2⟩:=aE h
 refine jZ (bG (v:=aO) r (hG hx1) ⟨lr,trivial⟩ r r r)<|aQ r (eI (cs:=[aO,aI,aI,aB]) aN6 r)<|gH (v:=.agg [aO,aI,aI,aB]) (n:=0) (cs:=[aO,aI,aI,aB]) (σ':=[[aO,aI,aI,aB]]) r r r r r<|sV (v:=.box 0 0) r<|aF (fr':=[(2,.box 0 0)]) r r<|bE ?_
 obtain rfl:=sy h2
 exact bD (rs':=[.tmp 2]) r<|bL (v:=.box 0 0) r<|bC<|aKQ (off:=0) (j:=0) r r r r r (eM ⟨r,r,r,r,trivial⟩ aC)
noncomputable def dS (cQ:aG):Option Int :=
 cond (!cQ.made_) (some (1:Int)) (some cQ.err_)
theorem eB {cQ:aG}{res:Int} (h:dS cQ=some res):bR Tryz.prog 29 [.box 0 0] [AV.cs (cN cQ)] (ci res) [AV.cs (cN cQ)]:=by
 unfold dS at h
 refine cP (fn:=Tryz.f29) [0,2,11] (by kernel_rfl) Tryz.func29 r (by kernel_rfl) (by kernel_rfl)<|aJ<|sI r<|aF (fr':=[(0,.box 0 0)]) r r<|aN<|aJ<|mV (v:=.box 0 0) r<|aQ r (aG0 aMN r r)<|mB r<|qU r r r<|mV (v:=.box 0 0) r ?_
 refine qU r r r<|aQ r (eQ r)<|qU r r r<|aQ r (bF aKi r)<|qU r r r<|aQ r (aP (v:=aB) tv4 r r r)<|qU r r r<|aQ r (eU r)<|aQ r (aAa r r r)<|aF (fr':=[(0,.box 0 0),(11,aB)]) r r<|cC h r (fun hb1 h1=>?_) (fun hb1 h1=>?_)
 ·
  refine aJ<|sI r<|aF (fr':=[(2,aI)]) r r<|bE<|aK ?_
  obtain rfl:=sy h1
  exact bD (rs':=[.tmp 2]) r<|bL (v:=aI) r<|bC<|aR [] r r r lr (cK r aC)
 ·
  refine bA<|bT<|aJ<|mV (v:=.box 0 0) r<|aQ r (eQ r)<|aQ r (bF wS r)<|aQ r (aP (v:=aI) aF7 r r r)<|sI r<|aF (fr':=[(2,aI)]) r r<|bE ?_
  obtain rfl:=sy h1
  exact bD (rs':=[.tmp 2]) r<|bL (v:=aI) r<|bC<|aR [] r r r lr (cK r aC)
noncomputable def gY (cQ:aG):Option Bool :=
 some (cond (!cQ.made_) true (!decide (cQ.err_=(0:Int))))
theorem nX {cQ:aG}{res:Bool} (h:gY cQ=some res):bR Tryz.prog 79 [.box 0 0] [AV.cs (cN cQ)] (.c (.bool res)) [AV.cs (cN cQ)]:=by
 unfold gY at h
 refine cP (fn:=Tryz.f79) [0,2] (by kernel_rfl) Tryz.func79 r (by kernel_rfl) (by kernel_rfl)<|aJ<|sB r<|aF (fr':=[(0,.box 0 0)]) r r<|aJ<|mV (v:=.box 0 0) r<|aQ r (aG0 aMN r r)<|mB r<|qU r r r<|mV (v:=.box 0 0) r<|qU r r r ?_
 refine aQ r (eQ r)<|qU r r r<|aQ r (bF aKi r)<|qU r r r<|aQ r (aP (v:=aB) tv4 r r r)<|qU r r r<|aQ r (eU r)<|aQ r (aAa r r r)<|mB r<|og r r r (fun hc=>(aU (v:=.box 0 0) r))<|og r r r (fun hc=>(eQ (gx r hc)))<|og r r r (fun hc=>(bF wS (gx r hc)))<|og r r r (fun hc=>(aP (v:=aI) aF7 (gx r hc) r r)) ?_
 refine og r r r (fun hc=>(fU (gx r hc) r))<|aQ r (cB r r r (fun e=>fG e))<|sB r<|aF (fr':=[(2,aB)]) r r<|bE ?_
 obtain rfl:=sy h
 exact bD (rs':=[.tmp 2]) r<|bL (v:=aB) r<|bC<|aR [] r r r lr (cK r aC)
noncomputable def lE (cQ:aG) (oR:Int) (kX:Int) (s10:(Int × Int)):Option (cD (Int × Int) (Fl (Int × aG) Unit)) :=
 cond (decide (s10.2<(10:Int))) (cond (decide ((((List.drop (Int.toNat cQ.at_) cQ.b_)).length:Int)≤s10.2)) (some (cD.out (Fl.done ((0:Int),(aG.mk cQ.b_ cQ.at_ (4:Int) cQ.made_))))) ((gR (List.drop (Int.toNat cQ.at_) cQ.b_) s10.2).bind fun x16=>(nn (IntKind.wrap .i64 ((7:Int)*s10.2))).bind fun x18=>cond (decide ((128:Int)≤((x16).toNat:Int))) (some (cD.next ((eT .or .u64 s10.1 (IntKind.wrap .u64 ((IntKind.wrap .u64 (eT .and .u8 ((x16).toNat:Int) (127:Int)))*2 ^ (min (Int.toNat (IntKind.wrap .i64 ((7:Int)*s10.2))) (IntKind.bits .u64))))),(IntKind.wrap .i64 (s10.2+(1:Int)))))) (cond (cond (cond (decide ((0:Int)<s10.2)) (decide (((x16).toNat:Int)=(0:Int))) false) true (cond (decide (s10.2=(9:Int))) (decide ((1:Int)<((x16).toNat:Int))) false)) (some (cD.out (Fl.done ((0:Int),(aG.mk cQ.b_ cQ.at_ (3:Int) cQ.made_))))) (cond (cond (decide ((eT .xor .i64 (IntKind.wrap .i64 (Int.fdiv (eT .or .u64 s10.1 (IntKind.wrap .u64 ((IntKind.wrap .u64 (eT .and .u8 ((x16).toNat:Int) (127:Int)))*2 ^ (min (Int.toNat (IntKind.wrap .i64 ((7:Int)*s10.2))) (IntKind.bits .u64))))) (2 ^ (min (Int.toNat (1:Int)) (IntKind.bits .u64))))) (IntKind.wrap .i64 (0 - (IntKind.wrap .i64 (eT .and .u64 (eT .or .u64 s10.1 (IntKind.wrap .u64 ((IntKind.wrap .u64 (eT .and .u8 ((x16).toNat:Int) (127:Int)))*2 ^ (min (Int.toNat (IntKind.wrap .i64 ((7:Int)*s10.2))) (IntKind.bits .u64))))) (1:Int))))))<oR)) true (decide (kX<(eT .xor .i64 (IntKind.wrap .i64 (Int.fdiv (eT .or .u64 s10.1 (IntKind.wrap .u64 ((IntKind.wrap .u64 (eT .and .u8 ((x16).toNat:Int) (127:Int)))*2 ^ (min (Int.toNat (IntKind.wrap .i64 ((7:Int)*s10.2))) (IntKind.bits .u64))))) (2 ^ (min (Int.toNat (1:Int)) (IntKind.bits .u64))))) (IntKind.wrap .i64 (0 - (IntKind.wrap .i64 (eT .and .u64 (eT .or .u64 s10.1 (IntKind.wrap .u64 ((IntKind.wrap .u64 (eT .and .u8 ((x16).toNat:Int) (127:Int)))*2 ^ (min (Int.toNat (IntKind.wrap .i64 ((7:Int)*s10.2))) (IntKind.bits .u64))))) (1:Int))))))))) (some (cD.out (Fl.done ((0:Int),(aG.mk cQ.b_ (IntKind.wrap .i64 (cQ.at_+(IntKind.wrap .i64 (s10.2+(1:Int))))) (14:Int) cQ.made_))))) (some (cD.out (Fl.done ((eT .xor .i64 (IntKind.wrap .i64 (Int.fdiv (eT .or .u64 s10.1 (IntKind.wrap .u64 ((IntKind.wrap .u64 (eT .and .u8 ((x16).toNat:Int) (127:Int)))*2 ^ (min (Int.toNat (IntKind.wrap .i64 ((7:Int)*s10.2))) (IntKind.bits .u64))))) (2 ^ (min (Int.toNat (1:Int)) (IntKind.bits .u64))))) (IntKind.wrap .i64 (0 - (IntKind.wrap .i64 (eT .and .u64 (eT .or .u64 s10.1 (IntKind.wrap .u64 ((IntKind.wrap .u64 (eT .and .u8 ((x16).toNat:Int) (127:Int)))*2 ^ (min (Int.toNat (IntKind.wrap .i64 ((7:Int)*s10.2))) (IntKind.bits .u64))))) (1:Int)))))),(aG.mk cQ.b_ (IntKind.wrap .i64 (cQ.at_+(IntKind.wrap .i64 (s10.2+(1:Int))))) cQ.err_ cQ.made_))))))))) (some (cD.out (Fl.go ())))
noncomputable def dG (oR:Int) (kX:Int) (cQ:aG):Option (Int × aG) :=
 (gY cQ).bind fun x1=>cond x1 (some ((0:Int),cQ)) ((aKf cQ.b_ cQ.at_).bind fun x5=>((dO (lE cQ oR kX) (((0:Int),(0:Int)))):Option (Fl (Int × aG) Unit)).bind fun x7=>Fl.next x7 (fun j9=>(some ((0:Int),(aG.mk cQ.b_ cQ.at_ (3:Int) cQ.made_)))))
theorem dV {oR:Int}{kX:Int}{cQ:aG}{res:(Int × aG)} (h:dG oR kX cQ=some res):bR Tryz.prog 64 [.box 0 0,ci oR,ci kX] [AV.cs (cN cQ)] (ci res.1) [AV.cs (cN res.2)]:=by
 unfold dG at h
 refine cP (fn:=Tryz.f64) [0,1,2,6,7,8,9,10,11,13,23,24,29,46,60,88] (by kernel_rfl) Tryz.func64 r (by kernel_rfl) (by kernel_rfl)<|aJ<|sI r<|aF (fr':=[(0,.box 0 0),(1,aI),(2,aI)]) r r<|aN<|aJ<|mV (v:=.box 0 0) r ?_
 obtain ⟨x1,hx1,h2⟩:=aE h
 refine dK (v:=aB) (σ':=[bV]) [0] r (nX hx1) r r ⟨lr,trivial⟩ (eM ⟨r,r,r,r,trivial⟩ aC) r r r<|aF (fr':=[(0,.box 0 0),(1,aI),(2,aI),(13,aB)]) r r<|cC h2 r (fun hb3 h3=>?_) (fun hb3 h3=>?_)
 ·
  refine aJ<|sI r<|aF (fr':=[(6,aI)]) r r<|bE<|aK ?_
  obtain rfl:=sy h3
  exact bD (rs':=[.tmp 6]) r<|bL (v:=aI) r<|bC<|aR [] r r r lr (eM ⟨r,r,r,r,trivial⟩ aC)
 ·
  refine bA<|bT<|aN<|gP [.q 0,.q 1,.q 2,.q 3,.q 4,.q 5,.q 6,.q 7,.q 8,.n 9 []] [(some 14,[0]),(some 15,[14]),(some 16,[15]),(some 17,[16]),(some 18,[0]),(some 19,[18]),(some 20,[19]),(some 21,[20]),(some 22,[17,21]),(some 7,[22])] [0,1,3,7,0,16,48,112,255,511] (by kernel_rfl)<|dq r r (aU (v:=.box 0 0) r)<|dq r r (eQ r)<|dq r r (bF aEN r)<|dq r r (aP (v:=aL) aLA r r r)<|dq r r (aU (v:=.box 0 0) r)<|dq r r (eQ r)<|dq r r (bF uU r)<|dq r r (aP (v:=aI) fC r r r) ?_
  obtain ⟨x5,hx5,h6⟩:=aE h3
  refine dq r r (aJW aKj uV (cZ r) r (aD0 hx5).1)<|d_n r ?_ r
  refine sL r<|aCn<|⟨rT,?_⟩
  refine tB (fr':=[(0,.box 0 0),(1,aI),(2,aI),(7,aL)]) r r<|aJ<|sI r<|aF (fr':=[(0,.box 0 0),(1,aI),(2,aI),(7,aL),(8,aI)]) r r<|aN<|aJ<|mI r<|aF (fr':=[(0,.box 0 0),(1,aI),(2,aI),(7,aL),(8,aI),(23,aI)]) r r ?_
  obtain ⟨x7,hx7,h8⟩:=aE h6
  refine fI iV (fun j9=>x7=Fl.go j9) (fun (j9:Unit)=>([(0,.box 0 0)]:Fr)) (fun (j9:Unit)=>([[.c (PV.ls 1 eD cQ.b_),ci cQ.at_,ci cQ.err_,.c (.bool cQ.made_)]]:St)) ?_ ?_
  ·
   refine bK<|fB _ (fun (s10:(Int × Int))=>([(0,.box 0 0),(1,ci oR),(2,ci kX),(7,.c (PV.ls 1 eD (List.drop (Int.toNat cQ.at_) cQ.b_))),(8,.c (.int .u64 s10.1)),(23,ci s10.2)]:Fr)) (fun (s10:(Int × Int))=>([[.c (PV.ls 1 eD cQ.b_),ci cQ.at_,ci cQ.err_,.c (.bool cQ.made_)]]:St)) hx7 (bJ [] 1 r r r r ⟨lr,lr,lr,lr,lr,lr,trivial⟩ (cK r aC)) ?_
   intro s10 st10 hs10 ho10
   unfold lE at hs10
   refine aJ<|aQ r (dU r r)<|aF (fr':=[(0,.box 0 0),(1,aI),(2,aI),(7,aL),(8,aI),(23,aI),(24,aB)]) r r<|aN<|cC hs10 r (fun hb11 h11=>?_) (fun hb11 h11=>?_)
   ·
    refine bA<|bT<|aN<|bK<|aJ<|mI r<|sI r<|aF (fr':=[(0,.box 0 0),(1,aI),(2,aI),(7,aL),(8,aI),(9,aI),(23,aI)]) r r<|aN<|aJ<|mI r ?_
    refine mL r<|aQ r (eX yW (cZ r))<|aQ r (qJ r r)<|aF (fr':=[(0,.box 0 0),(1,aI),(2,aI),(7,aL),(8,aI),(9,aI),(23,aI),(29,aB)]) r r<|cC h11 r (fun hb12 h12=>?_) (fun hb12 h12=>?_)
    ·
     refine aJ<|mV (v:=.box 0 0) r<|aQ r (eQ r)<|aQ r (bF wS r)<|bO (v:=aI) (us:=[aI]) (cs:=bV) (σ':=[bV]) r aF7 r r r r r r r r<|aF (fr':=[]) r r<|aJ<|sI r<|aF (fr':=[(6,aI)]) r r<|bE<|aK ?_
     refine bB<|aK<|aK<|bB<|aK<|aK ?_
     have h13:=dN h12 ho10
     have h14:=eA h13 h8
     obtain rfl:=sy h14
     exact bD (rs':=[.tmp 6]) r<|bL (v:=aI) r<|bC<|aR [] r r r lr (eM ⟨r,r,r,r,trivial⟩ aC)
    ·
     refine bA<|bT<|aJ<|mL r<|mI r ?_
     obtain ⟨x16,hx16,h17⟩:=aE h12
     refine aQ r (jS (cs:=[PV.int _ _]) uV (cZ r) r hx16 r)<|aQ r (fV (p:=PV.int _ _) tv5 r r)<|sI r<|aF (fr':=[(0,.box 0 0),(1,aI),(2,aI),(7,aL),(8,aI),(9,aI),(10,aI),(23,aI)]) r r<|aJ<|mI r<|mI r<|aQ r (aJR r r)<|aQ r (pL tk5 aCR r)<|mI r<|aQ r (aLS r r) ?_
     obtain ⟨x18,hx18,h19⟩:=aE h17
     refine aQ r (aLU r r (aK2 hx18).1)<|aQ r (aNe r r)<|sI r<|aF (fr':=[(0,.box 0 0),(1,aI),(2,aI),(7,aL),(8,aI),(9,aI),(10,aI),(23,aI)]) r r<|aN<|aJ<|mI r<|aQ r (qJ r r)<|aF (fr':=[(0,.box 0 0),(1,aI),(2,aI),(7,aL),(8,aI),(9,aI),(10,aI),(23,aI),(46,aB)]) r r<|cC h19 r (fun hb20 h20=>?_) (fun hb20 h20=>?_)
     ·
      exact fJ<|bY<|eC<|bT<|aT<|aQ r (dR r r)<|mI r<|cI (fr':=[(0,.box 0 0),(1,aI),(2,aI),(7,aL),(8,aI),(9,aI),(10,aI),(23,aI),(46,aB)]) r<|xG _ (sy h20) (bJ [] 1 r r r r ⟨lr,lr,lr,lr,lr,lr,trivial⟩ (cK r aC))
     ·
      refine bA<|bT<|aN<|aJ<|mI r<|aQ r (nO r r)<|mB r<|og r r r (fun hc=>(aU (v:=aI) r))<|og r r r (fun hc=>(bX (gx r hc) r))<|aQ r (bS r r r (fun e=>fG e))<|mB r<|og r r r (fun hc=>(aU (v:=aI) r)) ?_
      refine og r r r (fun hc=>(bX (gx r hc) r))<|og r r r (fun hc=>(aU (v:=aB) (gx r hc)))<|eJ r r (fun hc=>eW r (aU (v:=aI) r))<|eJ r r (fun hc=>eW r (nO (gx r hc) r))<|og r r r (fun hc=>(bS (gx r hc) r r (fun e=>qB hc (fG e))))<|aQ r (cB r r r (fun e=>fG e))<|aF (fr':=[(0,.box 0 0),(1,aI),(2,aI),(8,aI),(9,aI),(60,aB)]) r r<|cC h20 r (fun hb21 h21=>?_) (fun hb21 h21=>?_)
      ·
       refine aJ<|mV (v:=.box 0 0) r<|aQ r (eQ r)<|aQ r (bF wS r)<|bO (v:=aI) (us:=[aI]) (cs:=bV) (σ':=[bV]) r aF7 r r r r r r r r<|aF (fr':=[]) r r<|aJ<|sI r<|aF (fr':=[(6,aI)]) r r<|bE<|aK ?_
       refine bB<|aK<|aK<|bB<|aK<|aK ?_
       have h22:=dN h21 ho10
       have h23:=eA h22 h8
       obtain rfl:=sy h23
       exact bD (rs':=[.tmp 6]) r<|bL (v:=aI) r<|bC<|aR [] r r r lr (eM ⟨r,r,r,r,trivial⟩ aC)
      ·
       refine bA<|bT<|aJ<|mV (v:=.box 0 0) r<|aQ r (eQ r)<|aQ r (bF uU r)<|aQ r (aP (v:=aI) fC r r r)<|mI r<|aQ r (dR r r)<|aQ r (dR r r)<|aQ r (eQ r)<|aQ r (bF uU r) ?_
       refine bO (v:=aI) (us:=[aI]) (cs:=bV) (σ':=[bV]) r fC r r r r r r r r<|aF (fr':=[(0,.box 0 0),(1,aI),(2,aI),(8,aI)]) r r<|aJ<|mI r<|aQ r (aCs r r (by decide))<|aQ r (pL aCR tk3 r)<|mI r<|aQ r (aJR r r)<|aQ r (pL aCR tk3 r)<|aQ r (aNd r)<|aQ r (aHE r r)<|sI r ?_
       refine aF (fr':=[(0,.box 0 0),(1,aI),(2,aI),(11,aI)]) r r<|aN<|aJ<|mI r<|mI r<|aQ r (dU r r)<|mB r<|og r r r (fun hc=>(aU (v:=aI) r))<|og r r r (fun hc=>(aU (v:=aI) r))<|og r r r (fun hc=>(nO (gx r hc) (gx r hc)))<|aQ r (cB r r r (fun e=>fG e))<|aF (fr':=[(0,.box 0 0),(11,aI),(88,aB)]) r r ?_
       refine cC h21 r (fun hb25 h25=>?_) (fun hb25 h25=>?_)
       ·
        refine aJ<|mV (v:=.box 0 0) r<|aQ r (eQ r)<|aQ r (bF wS r)<|bO (v:=aI) (us:=[aI]) (cs:=bV) (σ':=[bV]) r aF7 r r r r r r r r<|aF (fr':=[]) r r<|aJ<|sI r<|aF (fr':=[(6,aI)]) r r<|bE<|aK ?_
        refine bB<|aK<|aK<|bB<|aK<|aK ?_
        have h26:=dN h25 ho10
        have h27:=eA h26 h8
        obtain rfl:=sy h27
        exact bD (rs':=[.tmp 6]) r<|bL (v:=aI) r<|bC<|aR [] r r r lr (eM ⟨r,r,r,r,trivial⟩ aC)
       ·
        refine bA<|bT<|aJ<|mI r<|sI r<|aF (fr':=[(6,aI)]) r r<|bE<|bB<|aK<|aK<|bB<|aK ?_
        refine aK ?_
        have h29:=dN h25 ho10
        have h30:=eA h29 h8
        obtain rfl:=sy h30
        exact bD (rs':=[.tmp 6]) r<|bL (v:=aI) r<|bC<|aR [] r r r lr (eM ⟨r,r,r,r,trivial⟩ aC)
   ·
    refine fJ<|bY<|bY<|eC ?_
    have h32:=dN h11 ho10
    exact lF _ (sy h32) (bJ [] 1 r r r r ⟨lr,trivial⟩ (cK r aC))
  ·
   intro j9 hj33
   have h33:=kN hj33 h8
   refine bT<|aJ<|mV (v:=.box 0 0) r<|aQ r (eQ r)<|aQ r (bF wS r)<|bO (v:=aI) (us:=[aI]) (cs:=bV) (σ':=[bV]) r aF7 r r r r r r r r<|aF (fr':=[]) r r<|aJ<|sI r<|aF (fr':=[(6,aI)]) r r<|bE ?_
   obtain rfl:=sy h33
   exact bD (rs':=[.tmp 6]) r<|bL (v:=aI) r<|bC<|aR [] r r r lr (eM ⟨r,r,r,r,trivial⟩ aC)
noncomputable def fF (aEC:Int) (cQ:aG):Option ((List UInt8) × aG) :=
 (dG (0:Int) aEC cQ).bind fun x1=>(gY x1.2).bind fun x3=>cond x3 (some (([]:List UInt8),x1.2)) (cond (decide ((IntKind.wrap .i64 (((x1.2.b_).length:Int) - x1.2.at_))<x1.1)) (some (([]:List UInt8),(aG.mk x1.2.b_ x1.2.at_ (4:Int) x1.2.made_))) ((aLl x1.2.b_ x1.2.at_ (IntKind.wrap .i64 (x1.2.at_+x1.1))).bind fun x9=>some ((List.drop (Int.toNat x1.2.at_) (List.take (Int.toNat (IntKind.wrap .i64 (x1.2.at_+x1.1))) x1.2.b_)),(aG.mk x1.2.b_ (IntKind.wrap .i64 (x1.2.at_+x1.1)) x1.2.err_ x1.2.made_))))
theorem gX {aEC:Int}{cQ:aG}{res:((List UInt8) × aG)} (h:fF aEC cQ=some res):bR Tryz.prog 71 [.box 0 0,ci aEC] [AV.cs (cN cQ)] (.c (.str res.1)) [AV.cs (cN res.2)]:=by
 unfold fF at h
 refine cP (fn:=Tryz.f71) [0,1,4,5,6,11,23] (by kernel_rfl) Tryz.func71 r (by kernel_rfl) (by kernel_rfl)<|aJ<|sS r<|aF (fr':=[(0,.box 0 0),(1,aI)]) r r<|aJ<|mV (v:=.box 0 0) r<|mI r ?_
 obtain ⟨x1,hx1,h2⟩:=aE h
 refine dK (v:=aI) (σ':=[bV]) [0] r (dV hx1) r r ⟨lr,lr,lr,trivial⟩ (eM ⟨r,r,r,r,trivial⟩ aC) r r r<|sI r<|aF (fr':=[(0,.box 0 0),(5,aI)]) r r<|aN<|aJ<|mV (v:=.box 0 0) r ?_
 obtain ⟨x3,hx3,h4⟩:=aE h2
 refine dK (v:=aB) (σ':=[bV]) [0] r (nX hx3) r r ⟨lr,trivial⟩ (eM ⟨r,r,r,r,trivial⟩ aC) r r r<|aF (fr':=[(0,.box 0 0),(5,aI),(11,aB)]) r r<|cC h4 r (fun hb5 h5=>?_) (fun hb5 h5=>?_)
 ·
  refine aJ<|sS r<|aF (fr':=[(4,aS)]) r r<|bE<|aK ?_
  obtain rfl:=sy h5
  exact bD (rs':=[.tmp 4]) r<|bL (v:=aS) r<|bC<|aR [] r r r lr (eM ⟨r,r,r,r,trivial⟩ aC)
 ·
  refine bA<|bT<|aN<|aN<|gP [.q 0,.q 1,.q 2,.q 3,.q 4,.q 5,.q 6,.q 7,.q 8,.q 9,.q 10,.q 11] [(some 12,[5]),(some 13,[0]),(some 14,[13]),(some 15,[14]),(some 16,[15]),(some 17,[16]),(some 18,[0]),(some 19,[18]),(some 20,[19]),(some 21,[20]),(some 22,[17,21]),(some 23,[12,22])] [0,0,2,6,14,30,0,64,192,448,1022,2047] (by kernel_rfl)<|dq r r (aU (v:=aI) r)<|dq r r (aU (v:=.box 0 0) r)<|dq r r (eQ r)<|dq r r (bF aEN r)<|dq r r (aP (v:=aL) aLA r r r)<|dq r r (eX yW (cZ r))<|dq r r (aU (v:=.box 0 0) r)<|dq r r (eQ r) ?_
  refine dq r r (bF uU r)<|dq r r (aP (v:=aI) fC r r r)<|dq r r (aHD r r)<|dq r r (nO r r)<|tB (fr':=[(0,.box 0 0),(5,aI),(23,aB)]) r r<|cC h5 r (fun hb7 h7=>?_) (fun hb7 h7=>?_)
  ·
   refine aJ<|mV (v:=.box 0 0) r<|aQ r (eQ r)<|aQ r (bF wS r)<|bO (v:=aI) (us:=[aI]) (cs:=bV) (σ':=[bV]) r aF7 r r r r r r r r<|aF (fr':=[]) r r<|aJ<|sS r<|aF (fr':=[(4,aS)]) r r<|bE<|aK ?_
   obtain rfl:=sy h7
   exact bD (rs':=[.tmp 4]) r<|bL (v:=aS) r<|bC<|aR [] r r r lr (eM ⟨r,r,r,r,trivial⟩ aC)
  ·
   refine bA<|bT<|aN<|gP [.q 0,.q 1,.q 2,.q 3,.q 4,.q 5,.q 6,.q 7,.q 8,.q 9,.q 10,.q 11,.q 12,.q 13,.q 14,.q 15,.n 16 []] [(some 27,[0]),(some 28,[27]),(some 29,[28]),(some 30,[29]),(some 31,[0]),(some 32,[31]),(some 33,[32]),(some 34,[33]),(some 35,[0]),(some 36,[35]),(some 37,[36]),(some 38,[37]),(some 39,[5]),(some 40,[38,39]),(some 41,[30,34,40]),(some 42,[41]),(some 6,[42])] [0,1,3,7,0,16,48,112,0,256,768,1792,0,7936,16383,32767,65535] (by kernel_rfl)<|dq r r (aU (v:=.box 0 0) r)<|dq r r (eQ r)<|dq r r (bF aEN r)<|dq r r (aP (v:=aL) aLA r r r)<|dq r r (aU (v:=.box 0 0) r)<|dq r r (eQ r)<|dq r r (bF uU r)<|dq r r (aP (v:=aI) fC r r r)<|dq r r (aU (v:=.box 0 0) r) ?_
   refine dq r r (eQ r)<|dq r r (bF uU r)<|dq r r (aP (v:=aI) fC r r r)<|dq r r (aU (v:=aI) r)<|dq r r (dR r r) ?_
   obtain ⟨x9,hx9,h10⟩:=aE h7
   refine dq r r (aMy aKj uV (cZ r) r r (aIO hx9).1)<|dq r r (aJS aNv tT (cZ r))<|d_n r ?_ r
   refine sS r<|aCn<|⟨rT,?_⟩
   refine tB (fr':=[(0,.box 0 0),(5,aI),(6,aS)]) r r<|aJ<|mV (v:=.box 0 0) r<|aQ r (eQ r)<|aQ r (bF uU r)<|aQ r (aP (v:=aI) fC r r r)<|mI r<|aQ r (dR r r)<|aQ r (eQ r)<|aQ r (bF uU r)<|bO (v:=aI) (us:=[aI]) (cs:=bV) (σ':=[bV]) r fC r r r r r r r r<|aF (fr':=[(6,aS)]) r r ?_
   refine aJ<|mS r<|sS r<|aF (fr':=[(4,aS)]) r r<|bE ?_
   obtain rfl:=sy h10
   exact bD (rs':=[.tmp 4]) r<|bL (v:=aS) r<|bC<|aR [] r r r lr (eM ⟨r,r,r,r,trivial⟩ aC)
noncomputable def iU (p1e:Int) (cQ:aG):Option aG :=
 (gY cQ).bind fun x1=>cond (!x1) (some (aG.mk cQ.b_ cQ.at_ p1e cQ.made_)) (some cQ)
theorem lD {p1e:Int}{cQ:aG}{res:aG} (h:iU p1e cQ=some res):bR Tryz.prog 74 [.box 0 0,ci p1e] [AV.cs (cN cQ)] (.any) [AV.cs (cN res)]:=by
 unfold iU at h
 refine cP (fn:=Tryz.f74) [0,1,6] (by kernel_rfl) Tryz.func74 r (by kernel_rfl) (by kernel_rfl)<|aJ<|mV (v:=.box 0 0) r ?_
 obtain ⟨x1,hx1,h2⟩:=aE h
 refine dK (v:=aB) (σ':=[bV]) [0] r (nX hx1) r r ⟨lr,trivial⟩ (eM ⟨r,r,r,r,trivial⟩ aC) r r r<|aQ r (eU r)<|aF (fr':=[(0,.box 0 0),(1,aI),(6,aB)]) r r<|cC h2 r (fun hb3 h3=>?_) (fun hb3 h3=>?_)
 ·
  refine aT<|mV (v:=.box 0 0) r<|mI r<|aQ r (eQ r)<|aQ r (bF wS r)<|bO (v:=aI) (us:=[aI]) (cs:=bV) (σ':=[bV]) r aF7 r r r r r r r r<|cI (fr':=[(0,.box 0 0),(1,aI),(6,aB)]) r ?_
  obtain rfl:=sy h3
  exact aLL (rs':=[]) r<|bC<|aR [] r r r (AV.le_any _) (eM ⟨r,r,r,r,trivial⟩ aC)
 ·
  refine bA ?_
  obtain rfl:=sy h3
  exact aLL (rs':=[]) r<|bC<|aR [] r r r (AV.le_any _) (eM ⟨r,r,r,r,trivial⟩ aC)
noncomputable def fS (sW:Bool) (dT:Int) (jL:aG):Option (Bool × aG) :=
 (((dS jL).bind fun x4=>cond (cond (decide (x4=(0:Int))) (!sW) false) ((iU (3:Int) jL).bind fun x7=>some x7) (some jL)):Option aG).bind fun x1=>((dS x1).bind fun x10=>some ((decide (x10=(0:Int))),x1))
theorem gW {sW:Bool}{dT:Int}{jL:aG}{res:(Bool × aG)} (h:fS sW dT jL=some res):bR Tryz.prog 183 [.box 0 0,.c (.bool sW)] [[.box 1 0,ci dT],AV.cs (cN jL)] (.c (.bool res.1)) [[.box 1 0,ci dT],AV.cs (cN res.2)]:=by
 unfold fS at h
 refine cP (fn:=Tryz.f183) [0,1,4,14] (by kernel_rfl) Tryz.func183 r (by kernel_rfl) (by kernel_rfl)<|aJ<|sB r<|aF (fr':=[(0,.box 0 0),(1,aB)]) r r ?_
 obtain ⟨x1,hx1,h2⟩:=aE h
 refine jX (fun j3=>x1=j3) (fun (j3:aG)=>([(0,.box 0 0)]:Fr)) (fun (j3:aG)=>([[.box 1 0,ci dT],[.c (PV.ls 1 eD j3.b_),ci j3.at_,ci j3.err_,.c (.bool j3.made_)]]:St)) ?_ ?_
 ·
  refine aJ<|mV (v:=.box 0 0) r<|aQ r (eQ r)<|aQ r (bF pW r)<|aQ r (aP (v:=.box 1 0) aDm r r r) ?_
  obtain ⟨x4,hx4,h5⟩:=aE hx1
  refine dK (v:=aI) (σ':=[[.box 1 0,aI],bV]) [1] r (eB hx4) r r ⟨lr,trivial⟩ (eM ⟨r,r,r,r,trivial⟩ aC) r r r<|aQ r (bX r r)<|mB r<|og r r r (fun hc=>(aU (v:=aB) r))<|og r r r (fun hc=>(eU (gx r hc)))<|aQ r (bS r r r (fun e=>fG e))<|aF (fr':=[(0,.box 0 0),(14,aB)]) r r<|cC h5 r (fun hb6 h6=>?_) (fun hb6 h6=>?_)
  ·
   refine aT<|mV (v:=.box 0 0) r<|aQ r (eQ r)<|aQ r (bF pW r)<|aQ r (aP (v:=.box 1 0) aDm r r r) ?_
   obtain ⟨x7,hx7,h8⟩:=aE h6
   exact dK (v:=_) (σ':=[[.box 1 0,aI],bV]) [1] r (lD hx7) r r ⟨lr,lr,trivial⟩ (eM ⟨r,r,r,r,trivial⟩ aC) r r r<|cI (fr':=[(0,.box 0 0),(14,aB)]) r<|lF _ (sy h8) (bJ [] 2 r r r r ⟨lr,trivial⟩ (cK r (cK r aC)))
  ·
   exact bA<|lF _ (sy h6) (bJ [] 2 r r r r ⟨lr,trivial⟩ (cK r (cK r aC)))
 ·
  intro j3 hj9
  subst hj9
  refine aJ<|mV (v:=.box 0 0) r<|aQ r (eQ r)<|aQ r (bF pW r)<|aQ r (aP (v:=.box 1 0) aDm r r r) ?_
  obtain ⟨x10,hx10,h11⟩:=aE h2
  refine dK (v:=aI) (σ':=[[.box 1 0,aI],bV]) [1] r (eB hx10) r r ⟨lr,trivial⟩ (eM ⟨r,r,r,r,trivial⟩ aC) r r r<|aQ r (bX r r)<|sB r<|aF (fr':=[(4,aB)]) r r<|bE ?_
  obtain rfl:=sy h11
  exact bD (rs':=[.tmp 4]) r<|bL (v:=aB) r<|bC<|aR [] r r r lr (cK r (eM ⟨r,r,r,r,trivial⟩ aC))
end Go.Proofs.YtnigjppddilpcaaGreatDoor
