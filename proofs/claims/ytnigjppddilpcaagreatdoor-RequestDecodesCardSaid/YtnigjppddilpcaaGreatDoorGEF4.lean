import Derived.Test.YtnigjppddilpcaaGreatDoorGETy
import Derived.Test.YtnigjppddilpcaaGreatDoorGEF0
import Derived.Test.YtnigjppddilpcaaGreatDoorGEF1
import Derived.Test.YtnigjppddilpcaaGreatDoorGEF2
import Derived.Test.YtnigjppddilpcaaGreatDoorGEF3
namespace Go.Proofs.YtnigjppddilpcaaGreatDoor
open Go Abs
set_option maxRecDepth 100000
set_option linter.unusedVariables false
set_option linter.unusedSimpArgs false
noncomputable def vC (p0e:dH):Option Bool :=
 cond (decide (p0e.Kind=1)) ((sW p0e.Name).bind fun x2=>(gd (x2==true) (oS p0e.Key)).bind fun x4=>(gd ((cond x2 x4 false)==true) (mC p0e.N 0 4294967295)).bind fun x6=>(gd ((cond (cond x2 x4 false) x6 false)==true) (aBz p0e.Data)).bind fun x8=>some (cond (cond (cond x2 x4 false) x6 false) x8 false)) (cond (decide (p0e.Kind=2)) (some (decide (1≤p0e.N))) (cond (decide (p0e.Kind=5)) ((mC p0e.Code 1 30).bind fun x14=>some x14) (cond (decide (p0e.Kind=8)) ((mC p0e.N 1 1000).bind fun x18=>some x18) (cond (decide (p0e.Kind=11)) ((mC p0e.Code 1 4).bind fun x22=>some x22) (((cond (decide (p0e.Kind=10)) (some (decide (p0e.Kind=10))) (cond (decide (p0e.Kind=22)) (some (decide (p0e.Kind=22))) (some (decide (p0e.Kind=25))))):Option Bool).bind fun x25=>(cond x25 (some (decide (((p0e.Name).length:Int)≤4096))) (cond (decide (p0e.Kind=33)) (some (decide (((p0e.Name).length:Int)≤64))) (cond (decide (p0e.Kind=17)) ((sW p0e.Name).bind fun x36=>(gd (x36==true) (oS p0e.Key)).bind fun x38=>some (cond x36 x38 false)) (cond (decide (p0e.Kind=26)) ((oS p0e.Key).bind fun x42=>some x42) (cond (decide (p0e.Kind=20)) ((aAj p0e.Key).bind fun x46=>some x46.2) (some true)))))))))))
theorem aF3 {p0e:dH}{z:Bool} (h:vC p0e=some z):cQ Tryz.prog 141 [.agg (AV.cs (gT p0e))] [] (.c (.bool z)) []:=by
 unfold vC at h
 refine dF (fn:=Tryz.f141) [0,1,2,4,6,7,27,32,37,42,47,55,61,71,76] (by kernel_rfl) Tryz.func141 r (by kernel_rfl) (by kernel_rfl)<|aH<|jK (v:=.agg bA) (n:=0) (cs:=bA) (σ':=[bA]) r r r r r<|sB r<|aG (fr':=[(1,aE)]) r r<|aZ<|aH<|aR r (bD aBU r)<|aR r (aK (v:=aI) fM r r r)<|aG (fr':=[(1,aE),(6,aI)]) r r<|cH<|aH<|aR r (bU r r)<|sB r<|aG (fr':=[(1,aE),(6,aI),(7,aB)]) r r<|cG h r (fun b1 h1=>?_) (fun b1 h1=>?_)
 ·
  refine aH<|aR r (bD yZ r)<|aR r (aK (v:=aS) lP r r r)<|bx h1 fun x2 y2 h3=>lS (bL (v:=aB) r (wC y2) ⟨lr,trivial⟩ r r r)<|mB r<|og r r r (fun u=>(bD zB r))<|og r r r (fun u=>(aK (v:=aS) lP (gx r u) r r))<|bx h3 fun x4 y4 h5=>sX r r (fun u=>bL (v:=aB) r (aAf (cU y4 u)) ⟨(eW (gx r u) lr),trivial⟩ (fT (by repeat (first | exact eN | refine aY r ?_ | refine aY (pP r) ?_ | refine aY pO ?_))) r r) ?_
  refine aR r (bV r r r (fun e=>fJ e))<|mB r<|og r r r (fun u=>(bD aBh r))<|og r r r (fun u=>(aK (v:=aI) fM (gx r u) r r))<|bx h5 fun x6 y6 h7=>sX r r (fun u=>bL (v:=aB) r (nD (cU y6 u)) ⟨(eW (gx r u) lr),lr,lr,trivial⟩ (fT (by repeat (first | exact eN | refine aY r ?_ | refine aY (pP r) ?_ | refine aY pO ?_))) r r) ?_
  refine aR r (bV r r r (fun e=>fJ e))<|mB r<|og r r r (fun u=>(bD aBV r))<|og r r r (fun u=>(dL (us:=cE) iO (gx r u) r r r))<|bx h7 fun x8 y8 h9=>sX r r (fun u=>bL (v:=aB) r (aKe (cU y8 u)) ⟨(eW (gx r u) (bQ r kR5)),trivial⟩ (fT (by repeat (first | exact eN | refine aY r ?_ | refine aY (pP r) ?_ | refine aY pO ?_))) r r) ?_
  refine aR r (bV r r r (fun e=>fJ e))<|sB r<|aG (fr':=[(2,aB)]) r r<|bK<|bO<|aP ?_
  obtain rfl:=sy h9
  exact bJ (rs':=[.tmp 2]) r<|bS (v:=aB) r<|bI<|aN [] r r r lr aD
 ·
  refine aH<|aR r (bU r r)<|sB r<|aG (fr':=[(1,aE),(6,aI),(27,aB)]) r r<|cG h1 r (fun b11 h11=>?_) (fun b11 h11=>?_)
  ·
   refine aH<|aR r (bD aBh r)<|aR r (aK (v:=aI) fM r r r)<|aR r (oI r r)<|sB r<|aG (fr':=[(2,aB)]) r r<|bK<|bO<|aP ?_
   obtain rfl:=sy h11
   exact bJ (rs':=[.tmp 2]) r<|bS (v:=aB) r<|bI<|aN [] r r r lr aD
  ·
   refine aH<|aR r (bU r r)<|sB r<|aG (fr':=[(1,aE),(6,aI),(32,aB)]) r r<|cG h11 r (fun b13 h13=>?_) (fun b13 h13=>?_)
   ·
    refine aH<|aR r (bD aDc r)<|aR r (aK (v:=aI) fM r r r)<|bx h13 fun x14 y14 h15=>lS (bL (v:=aB) r (nD y14) kA r r r)<|sB r<|aG (fr':=[(2,aB)]) r r<|bK<|bO<|aP ?_
    obtain rfl:=sy h15
    exact bJ (rs':=[.tmp 2]) r<|bS (v:=aB) r<|bI<|aN [] r r r lr aD
   ·
    refine aH<|aR r (bU r r)<|sB r<|aG (fr':=[(1,aE),(6,aI),(37,aB)]) r r<|cG h13 r (fun b17 h17=>?_) (fun b17 h17=>?_)
    ·
     refine aH<|aR r (bD aBh r)<|aR r (aK (v:=aI) fM r r r)<|bx h17 fun x18 y18 h19=>lS (bL (v:=aB) r (nD y18) kA r r r)<|sB r<|aG (fr':=[(2,aB)]) r r<|bK<|bO<|aP ?_
     obtain rfl:=sy h19
     exact bJ (rs':=[.tmp 2]) r<|bS (v:=aB) r<|bI<|aN [] r r r lr aD
    ·
     refine aH<|aR r (bU r r)<|sB r<|aG (fr':=[(1,aE),(6,aI),(42,aB)]) r r<|cG h17 r (fun b21 h21=>?_) (fun b21 h21=>?_)
     ·
      refine aH<|aR r (bD aDc r)<|aR r (aK (v:=aI) fM r r r)<|bx h21 fun x22 y22 h23=>lS (bL (v:=aB) r (nD y22) kA r r r)<|sB r<|aG (fr':=[(2,aB)]) r r<|bK<|bO<|aP ?_
      obtain rfl:=sy h23
      exact bJ (rs':=[.tmp 2]) r<|bS (v:=aB) r<|bI<|aN [] r r r lr aD
     ·
      obtain ⟨x25,y25,h26⟩:=iW h21
      refine hH (fun j27=>x25=j27) (fun (j27:Bool)=>([(1,aE),(6,ci p0e.Kind),(47,.c (.bool j27))]:Fr)) (fun (j27:Bool)=>([[ci p0e.ID,ci p0e.Kind,ci p0e.Time,ci p0e.Seq,ci p0e.Ref,ci p0e.N,ci p0e.Code,.c (.str p0e.Name),.c (.str p0e.Key),ci p0e.Data.Kind,ci p0e.Data.Int,.c (.str p0e.Data.Text),.c (PV.ls 5 bT p0e.Data.Items),.c (PV.ls 1 fI p0e.Data.Keys),.c (.str p0e.Opts.Queue),ci p0e.Opts.ToStart,ci p0e.Opts.ToClose,ci p0e.Opts.Total,ci p0e.Opts.Beat,ci p0e.Opts.First,ci p0e.Opts.Coef,ci p0e.Opts.Most,ci p0e.Opts.Attempts,.c (PV.ls 1 fI p0e.Opts.Fatal)]]:St)) ?_ ?_
      ·
       refine aH<|aR r (bU r r)<|sB r<|aG (fr':=[(1,aE),(6,aI),(47,aB)]) r r<|cG y25 r (fun b28 h28=>?_) (fun b28 h28=>?_)
       ·
        exact bF<|iQ _ (sy h28) (bC [] 1 r r r r kA (bR r aD))
       ·
        refine aH<|aR r (bU r r)<|sB r<|aG (fr':=[(1,aE),(6,aI),(47,aB)]) r r<|cG h28 r (fun b29 h29=>?_) (fun b29 h29=>?_)
        ·
         exact bF<|iQ _ (sy h29) (bC [] 1 r r r r kA (bR r aD))
        ·
         exact bB<|aR r (bU r r)<|sB r<|dM (fr':=[(1,aE),(6,aI),(47,aB)]) r<|iQ _ (sy h29) (bC [] 1 r r r r kA (bR r aD))
      ·
       intro j27 hj30
       subst hj30
       refine cG h26 r (fun b31 h31=>?_) (fun b31 h31=>?_)
       ·
        refine aH<|aR r (bD yZ r)<|aR r (aK (v:=aS) lP r r r)<|aR r (kT uU r)<|aR r (nM r r)<|sB r<|aG (fr':=[(2,aB)]) r r<|bK<|bO<|aP ?_
        obtain rfl:=sy h31
        exact bJ (rs':=[.tmp 2]) r<|bS (v:=aB) r<|bI<|aN [] r r r lr aD
       ·
        refine aH<|aR r (bU r r)<|sB r<|aG (fr':=[(1,aE),(6,aI),(55,aB)]) r r<|cG h31 r (fun b33 h33=>?_) (fun b33 h33=>?_)
        ·
         refine aH<|aR r (bD yZ r)<|aR r (aK (v:=aS) lP r r r)<|aR r (kT uU r)<|aR r (nM r r)<|sB r<|aG (fr':=[(2,aB)]) r r<|bK<|bO<|aP ?_
         obtain rfl:=sy h33
         exact bJ (rs':=[.tmp 2]) r<|bS (v:=aB) r<|bI<|aN [] r r r lr aD
        ·
         refine aH<|aR r (bU r r)<|sB r<|aG (fr':=[(1,aE),(6,aI),(61,aB)]) r r<|cG h33 r (fun b35 h35=>?_) (fun b35 h35=>?_)
         ·
          refine aH<|aR r (bD yZ r)<|aR r (aK (v:=aS) lP r r r)<|bx h35 fun x36 y36 h37=>lS (bL (v:=aB) r (wC y36) ⟨lr,trivial⟩ r r r)<|mB r<|og r r r (fun u=>(bD zB r))<|og r r r (fun u=>(aK (v:=aS) lP (gx r u) r r))<|bx h37 fun x38 y38 h39=>sX r r (fun u=>bL (v:=aB) r (aAf (cU y38 u)) ⟨(eW (gx r u) lr),trivial⟩ (fT (by repeat (first | exact eN | refine aY r ?_ | refine aY (pP r) ?_ | refine aY pO ?_))) r r) ?_
          refine aR r (bV r r r (fun e=>fJ e))<|sB r<|aG (fr':=[(2,aB)]) r r<|bK<|bO<|aP ?_
          obtain rfl:=sy h39
          exact bJ (rs':=[.tmp 2]) r<|bS (v:=aB) r<|bI<|aN [] r r r lr aD
         ·
          refine aH<|aR r (bU r r)<|sB r<|aG (fr':=[(1,aE),(6,aI),(71,aB)]) r r<|cG h35 r (fun b41 h41=>?_) (fun b41 h41=>?_)
          ·
           refine aH<|aR r (bD zB r)<|aR r (aK (v:=aS) lP r r r)<|bx h41 fun x42 y42 h43=>lS (bL (v:=aB) r (aAf y42) ⟨lr,trivial⟩ r r r)<|sB r<|aG (fr':=[(2,aB)]) r r<|bK<|bO<|aP ?_
           obtain rfl:=sy h43
           exact bJ (rs':=[.tmp 2]) r<|bS (v:=aB) r<|bI<|aN [] r r r lr aD
          ·
           refine aH<|aR r (bU r r)<|sB r<|aG (fr':=[(1,aE),(76,aB)]) r r<|cG h41 r (fun b45 h45=>?_) (fun b45 h45=>?_)
           ·
            refine aH<|aR r (bD zB r)<|aR r (aK (v:=aS) lP r r r)<|bx h45 fun x46 y46 h47=>lS (bL (v:=.tup [aI,aB]) r (aFG y46) ⟨lr,trivial⟩ r r r)<|mV (v:=.tup [aI,aB]) r<|aR r (xJ (v:=aI) r r)<|aR r (xJ (v:=aB) r r)<|sI r<|sB r<|aG (fr':=[(4,aB)]) r r<|aH<|mB r<|sB r<|aG (fr':=[(2,aB)]) r r<|bK<|bO<|aP ?_
            obtain rfl:=sy h47
            exact bJ (rs':=[.tmp 2]) r<|bS (v:=aB) r<|bI<|aN [] r r r lr aD
           ·
            refine bF<|cW<|cZ<|aH<|sB r<|aG (fr':=[(2,aB)]) r r<|bK ?_
            obtain rfl:=sy h45
            exact bJ (rs':=[.tmp 2]) r<|bS (v:=aB) r<|bI<|aN [] r r r lr aD
noncomputable def aAh (p0e:dH):Option Bool :=
 (mC p0e.Kind 1 35).bind fun x1=>(gd ((!x1)==false) (mC p0e.ID 0 2000)).bind fun x3=>(gd ((cond (!x1) true (!x3))==false) (mC p0e.Time 0 1099511627776)).bind fun x5=>(gd ((cond (cond (!x1) true (!x3)) true (!x5))==false) (vQ p0e.Data)).bind fun x7=>cond (cond (cond (cond (!x1) true (!x3)) true (!x5)) true (!x7)) (some false) ((wJ p0e.Kind).bind fun x11=>cond (!decide (x11=0)) ((wK p0e x11).bind fun x14=>some x14) ((aCl p0e.Kind).bind fun x17=>(vD x17 p0e).bind fun x19=>(gd (((!x19)==false)&&(x17.seq_==true)) (mC p0e.Seq 1 2000)).bind fun x21=>(gd (((cond (!x19) true (cond x17.seq_ (!x21) false))==false)&&(x17.ref_==true)) (mC p0e.Ref 1 2000)).bind fun x23=>cond (cond (cond (!x19) true (cond x17.seq_ (!x21) false)) true (cond x17.ref_ (!x23) false)) (some false) ((vC p0e).bind fun x27=>some x27)))
theorem aFE {p0e:dH}{z:Bool} (h:aAh p0e=some z):cQ Tryz.prog 61 [.agg (AV.cs (gT p0e))] [] (.c (.bool z)) []:=by
 unfold aAh at h
 refine dF (fn:=Tryz.f61) [0,1,2,3,4,26,31,61] (by kernel_rfl) Tryz.func61 r (by kernel_rfl) (by kernel_rfl)<|aH<|jK (v:=.agg bA) (n:=0) (cs:=bA) (σ':=[bA]) r r r r r<|sB r<|aG (fr':=[(1,aE)]) r r<|aZ<|aH<|aR r (bD aBU r)<|aR r (aK (v:=aI) fM r r r)<|bx h fun x1 y1 h2=>lS (bL (v:=aB) r (nD y1) kA r r r)<|aR r (fE r)<|mB r<|og r r r (fun u=>(bD aJu r))<|og r r r (fun u=>(aK (v:=aI) fM (gx r u) r r))<|bx h2 fun x3 y3 h4=>sX r r (fun u=>bL (v:=aB) r (nD (cU y3 u)) ⟨(eW (gx r u) lr),lr,lr,trivial⟩ (fT (by repeat (first | exact eN | refine aY r ?_ | refine aY (pP r) ?_ | refine aY pO ?_))) r r) ?_
 refine og r r r (fun u=>(fE (gx r u)))<|aR r (cN r r r (fun e=>fJ e))<|mB r<|og r r r (fun u=>(bD aJv r))<|og r r r (fun u=>(aK (v:=aI) fM (gx r u) r r))<|bx h4 fun x5 y5 h6=>sX r r (fun u=>bL (v:=aB) r (nD (cU y5 u)) ⟨(eW (gx r u) lr),lr,lr,trivial⟩ (fT (by repeat (first | exact eN | refine aY r ?_ | refine aY (pP r) ?_ | refine aY pO ?_))) r r) ?_
 refine og r r r (fun u=>(fE (gx r u)))<|aR r (cN r r r (fun e=>fJ e))<|mB r<|og r r r (fun u=>(bD aBV r))<|og r r r (fun u=>(dL (us:=cE) iO (gx r u) r r r))<|bx h6 fun x7 y7 h8=>sX r r (fun u=>bL (v:=aB) r (aBu (cU y7 u)) ⟨(eW (gx r u) (bQ r kR5)),trivial⟩ (fT (by repeat (first | exact eN | refine aY r ?_ | refine aY (pP r) ?_ | refine aY pO ?_))) r r) ?_
 refine og r r r (fun u=>(fE (gx r u)))<|aR r (cN r r r (fun e=>fJ e))<|aG (fr':=[(1,aE),(26,aB)]) r r<|cG h8 r (fun b9 h9=>?_) (fun b9 h9=>?_)
 ·
  refine aH<|sB r<|aG (fr':=[(2,aB)]) r r<|bK<|aP ?_
  obtain rfl:=sy h9
  exact bJ (rs':=[.tmp 2]) r<|bS (v:=aB) r<|bI<|aN [] r r r lr aD
 ·
  refine bF<|cZ<|aZ<|aH<|aR r (bD aBU r)<|aR r (aK (v:=aI) fM r r r)<|bx h9 fun x11 y11 h12=>lS (bL (v:=aI) r (aGS y11) ⟨lr,trivial⟩ r r r)<|sI r<|aG (fr':=[(1,aE),(3,aI)]) r r<|aH<|mI r<|aR r (iS r r)<|aG (fr':=[(1,aE),(3,aI),(31,aB)]) r r<|cG h12 r (fun b13 h13=>?_) (fun b13 h13=>?_)
  ·
   refine aH<|aR r (dL (us:=bA) aCK r r r r)<|mI r<|bx h13 fun x14 y14 h15=>lS (bL (v:=aB) r (aGT y14) ⟨(bQ r aGn),lr,trivial⟩ r r r)<|sB r<|aG (fr':=[(2,aB)]) r r<|bK<|aP ?_
   obtain rfl:=sy h15
   exact bJ (rs':=[.tmp 2]) r<|bS (v:=aB) r<|bI<|aN [] r r r lr aD
  ·
   refine bF<|cZ<|aH<|aR r (bD aBU r)<|aR r (aK (v:=aI) fM r r r)<|bx h13 fun x17 y17 h18=>lS (bL (v:=.agg cX) r (aLJ y17) ⟨lr,trivial⟩ r r r)<|hO (n:=1) (cs:=cX) (σ':=[bA,cX]) aRz r r r<|bM (v:=.agg cX) (us:=cX) (cs:=cX) (σ':=[bA,cX]) r sK r r r r r r r r<|aG (fr':=[(1,aE),(4,aU)]) r r<|aZ<|aH<|aR r (dL (us:=cX) sK r r r r)<|aR r (dL (us:=bA) aCK r r r r)<|bx h18 fun x19 y19 h20=>lS (bL (v:=aB) r (aF4 y19) ⟨(bQ r kR7),(bQ r aGn),trivial⟩ r r r)<|aR r (fE r)<|mB r<|og r r r (fun u=>(bD aOW r))<|og r r r (fun u=>(aK (v:=aB) tv4 (gx r u) r r))<|og r r r (fun u=>(bN (v:=aB) (gx r u)))<|fD r r (fun u=>fS r (bD aDV r))<|fD r r (fun u=>fS r (aK (v:=aI) fM (gx r u) r r))<|bx h20 fun x21 y21 h22=>fD r r (fun u=>bL (v:=aB) r (nD (cU y21 u)) ⟨(eW (gx r u) lr),lr,lr,trivial⟩ (fT (by repeat (first | exact eN | refine aY r ?_ | refine aY (pP r) ?_ | refine aY pO ?_))) r r) ?_
   refine fD r r (fun u=>fS r (fE (gx r u)))<|og r r r (fun u=>(bV (gx r u) r r (fun e=>pX u (fJ e))))<|aR r (cN r r r (fun e=>fJ e))<|mB r<|og r r r (fun u=>(bD aOX r))<|og r r r (fun u=>(aK (v:=aB) tv4 (gx r u) r r))<|og r r r (fun u=>(bN (v:=aB) (gx r u)))<|fD r r (fun u=>fS r (bD aDW r))<|fD r r (fun u=>fS r (aK (v:=aI) fM (gx r u) r r))<|bx h22 fun x23 y23 h24=>fD r r (fun u=>bL (v:=aB) r (nD (cU y23 u)) ⟨(eW (gx r u) lr),lr,lr,trivial⟩ (fT (by repeat (first | exact eN | refine aY r ?_ | refine aY (pP r) ?_ | refine aY pO ?_))) r r) ?_
   refine fD r r (fun u=>fS r (fE (gx r u)))<|og r r r (fun u=>(bV (gx r u) r r (fun e=>pX u (fJ e))))<|aR r (cN r r r (fun e=>fJ e))<|aG (fr':=[(1,aE),(61,aB)]) r r<|cG h24 r (fun b25 h25=>?_) (fun b25 h25=>?_)
   ·
    refine aH<|sB r<|aG (fr':=[(2,aB)]) r r<|bK<|aP ?_
    obtain rfl:=sy h25
    exact bJ (rs':=[.tmp 2]) r<|bS (v:=aB) r<|bI<|aN [] r r r lr aD
   ·
    refine bF<|cZ<|aH<|aR r (dL (us:=bA) aCK r r r r)<|bx h25 fun x27 y27 h28=>lS (bL (v:=aB) r (aF3 y27) ⟨(bQ r aGn),trivial⟩ r r r)<|sB r<|aG (fr':=[(2,aB)]) r r<|bK ?_
    obtain rfl:=sy h28
    exact bJ (rs':=[.tmp 2]) r<|bS (v:=aB) r<|bI<|aN [] r r r lr aD
noncomputable def aAp (p0b:(List UInt8)):Option aX :=
 (lE p0b).bind fun x1=>some (aX.mk x1 0 0 true)
theorem aH2 {p0b:(List UInt8)}{z:aX} (h:aAp p0b=some z):cQ Tryz.prog 25 [.c (PV.ls 1 iT p0b)] [] (.box 0 0) [AV.cs (eV z)]:=by
 unfold aAp at h
 refine dF (fn:=Tryz.f25) [0,2] (by kernel_rfl) Tryz.func25 r (by kernel_rfl) (by kernel_rfl)<|aH<|sV (v:=.nilptr) r<|aG (fr':=[(0,aL)]) r r<|aH<|mL r<|bx h fun x1 y1 h2=>lS (bL (v:=aO) r (qR y1) ⟨lr,trivial⟩ r r r)<|aR r (fV (cs:=[aO,aI,aI,aB]) aU4 r)<|jK (v:=.agg [aO,aI,aI,aB]) (n:=0) (cs:=[aO,aI,aI,aB]) (σ':=[[aO,aI,aI,aB]]) r r r r r<|sV (v:=aE) r<|aG (fr':=[(2,aE)]) r r<|bK ?_
 obtain rfl:=sy h2
 exact bJ (rs':=[.tmp 2]) r<|bS (v:=aE) r<|bI<|aOF (off:=0) (j:=0) r r r r r (eG nO aD)
noncomputable def gH (cV:aX):Option Int :=
 cond (!cV.made_) (some 1) (some cV.err_)
theorem iB {cV:aX}{z:Int} (h:gH cV=some z):cQ Tryz.prog 29 [.box 0 0] [AV.cs (eV cV)] (ci z) [AV.cs (eV cV)]:=by
 unfold gH at h
 refine dF (fn:=Tryz.f29) [0,2,11] (by kernel_rfl) Tryz.func29 r (by kernel_rfl) (by kernel_rfl)<|aH<|sI r<|aG (fr':=[(0,aE)]) r r<|aZ<|aH<|mV (v:=aE) r<|aR r (aJb aTI r r)<|mB r<|oE r r r<|mV (v:=aE) r<|oE r r r<|aR r (jM r)<|oE r r r<|aR r (bD aRt r)<|oE r r r<|aR r (aK (v:=aB) tv4 r r r)<|oE r r r<|aR r (fE r)<|aR r (wL r r r)<|aG (fr':=[(0,aE),(11,aB)]) r r<|cG h r (fun b1 h1=>?_) (fun b1 h1=>?_)
 ·
  refine aH<|sI r<|aG (fr':=[(2,aI)]) r r<|bK<|aP ?_
  obtain rfl:=sy h1
  exact bJ (rs':=[.tmp 2]) r<|bS (v:=aI) r<|bI<|aN [] r r r lr (bR r aD)
 ·
  refine bF<|cZ<|aH<|mV (v:=aE) r<|aR r (jM r)<|aR r (bD aEW r)<|aR r (aK (v:=aI) aF1 r r r)<|sI r<|aG (fr':=[(2,aI)]) r r<|bK ?_
  obtain rfl:=sy h1
  exact bJ (rs':=[.tmp 2]) r<|bS (v:=aI) r<|bI<|aN [] r r r lr (bR r aD)
noncomputable def qL (cV:aX):Option Bool :=
 some (cond (!cV.made_) true (!decide (cV.err_=0)))
theorem aAg {cV:aX}{z:Bool} (h:qL cV=some z):cQ Tryz.prog 79 [.box 0 0] [AV.cs (eV cV)] (.c (.bool z)) [AV.cs (eV cV)]:=by
 unfold qL at h
 refine dF (fn:=Tryz.f79) [0,2] (by kernel_rfl) Tryz.func79 r (by kernel_rfl) (by kernel_rfl)<|aH<|sB r<|aG (fr':=[(0,aE)]) r r<|aH<|mV (v:=aE) r<|aR r (aJb aTI r r)<|mB r<|oE r r r<|mV (v:=aE) r<|oE r r r<|aR r (jM r)<|oE r r r<|aR r (bD aRt r)<|oE r r r<|aR r (aK (v:=aB) tv4 r r r)<|oE r r r<|aR r (fE r)<|aR r (wL r r r)<|mB r<|og r r r (fun u=>(bN (v:=aE) r))<|og r r r (fun u=>(jM (gx r u)))<|og r r r (fun u=>(bD aEW (gx r u)))<|og r r r (fun u=>(aK (v:=aI) aF1 (gx r u) r r))<|og r r r (fun u=>(iS (gx r u) r))<|aR r (cN r r r (fun e=>fJ e))<|sB r<|aG (fr':=[(2,aB)]) r r<|bK ?_
 obtain rfl:=sy h
 exact bJ (rs':=[.tmp 2]) r<|bS (v:=aB) r<|bI<|aN [] r r r lr (bR r aD)
noncomputable def wH (cV:aX) (nL:Int) (kW:Int) (s10:(Int × Int)):Option (dU (Int × Int) (Fl (Int × aX) Unit)) :=
 cond (decide (s10.2<10)) (cond (decide ((((List.drop (Int.toNat cV.at_) cV.b_)).length:Int)≤s10.2)) (some (dU.out (Fl.done (0,(aX.mk cV.b_ cV.at_ 4 cV.made_))))) ((nG (List.drop (Int.toNat cV.at_) cV.b_) s10.2).bind fun x16=>(nn (IntKind.wrap .i64 (7*s10.2))).bind fun x18=>cond (decide (128≤((x16).toNat:Int))) (some (dU.next ((mU .or .u64 s10.1 (IntKind.wrap .u64 ((IntKind.wrap .u64 (mU .and .u8 ((x16).toNat:Int) 127))*2 ^ (min (Int.toNat (IntKind.wrap .i64 (7*s10.2))) (IntKind.bits .u64))))),(IntKind.wrap .i64 (s10.2+1))))) (cond (cond (cond (decide (0<s10.2)) (decide (((x16).toNat:Int)=0)) false) true (cond (decide (s10.2=9)) (decide (1<((x16).toNat:Int))) false)) (some (dU.out (Fl.done (0,(aX.mk cV.b_ cV.at_ 3 cV.made_))))) (cond (cond (decide ((mU .xor .i64 (IntKind.wrap .i64 (Int.fdiv (mU .or .u64 s10.1 (IntKind.wrap .u64 ((IntKind.wrap .u64 (mU .and .u8 ((x16).toNat:Int) 127))*2 ^ (min (Int.toNat (IntKind.wrap .i64 (7*s10.2))) (IntKind.bits .u64))))) (2 ^ (min (Int.toNat 1) (IntKind.bits .u64))))) (IntKind.wrap .i64 (0 - (IntKind.wrap .i64 (mU .and .u64 (mU .or .u64 s10.1 (IntKind.wrap .u64 ((IntKind.wrap .u64 (mU .and .u8 ((x16).toNat:Int) 127))*2 ^ (min (Int.toNat (IntKind.wrap .i64 (7*s10.2))) (IntKind.bits .u64))))) 1)))))<nL)) true (decide (kW<(mU .xor .i64 (IntKind.wrap .i64 (Int.fdiv (mU .or .u64 s10.1 (IntKind.wrap .u64 ((IntKind.wrap .u64 (mU .and .u8 ((x16).toNat:Int) 127))*2 ^ (min (Int.toNat (IntKind.wrap .i64 (7*s10.2))) (IntKind.bits .u64))))) (2 ^ (min (Int.toNat 1) (IntKind.bits .u64))))) (IntKind.wrap .i64 (0 - (IntKind.wrap .i64 (mU .and .u64 (mU .or .u64 s10.1 (IntKind.wrap .u64 ((IntKind.wrap .u64 (mU .and .u8 ((x16).toNat:Int) 127))*2 ^ (min (Int.toNat (IntKind.wrap .i64 (7*s10.2))) (IntKind.bits .u64))))) 1)))))))) (some (dU.out (Fl.done (0,(aX.mk cV.b_ (IntKind.wrap .i64 (cV.at_+(IntKind.wrap .i64 (s10.2+1)))) 14 cV.made_))))) (some (dU.out (Fl.done ((mU .xor .i64 (IntKind.wrap .i64 (Int.fdiv (mU .or .u64 s10.1 (IntKind.wrap .u64 ((IntKind.wrap .u64 (mU .and .u8 ((x16).toNat:Int) 127))*2 ^ (min (Int.toNat (IntKind.wrap .i64 (7*s10.2))) (IntKind.bits .u64))))) (2 ^ (min (Int.toNat 1) (IntKind.bits .u64))))) (IntKind.wrap .i64 (0 - (IntKind.wrap .i64 (mU .and .u64 (mU .or .u64 s10.1 (IntKind.wrap .u64 ((IntKind.wrap .u64 (mU .and .u8 ((x16).toNat:Int) 127))*2 ^ (min (Int.toNat (IntKind.wrap .i64 (7*s10.2))) (IntKind.bits .u64))))) 1))))),(aX.mk cV.b_ (IntKind.wrap .i64 (cV.at_+(IntKind.wrap .i64 (s10.2+1)))) cV.err_ cV.made_))))))))) (some (dU.out (Fl.go ())))
noncomputable def fF (nL:Int) (kW:Int) (cV:aX):Option (Int × aX) :=
 (qL cV).bind fun x1=>cond x1 (some (0,cV)) ((aM3 cV.b_ cV.at_).bind fun x5=>(fK (wH cV nL kW) ((0,0))).bind fun x7=>Fl.next x7 (fun j9=>(some (0,(aX.mk cV.b_ cV.at_ 3 cV.made_)))))
theorem jR {nL:Int}{kW:Int}{cV:aX}{z:(Int × aX)} (h:fF nL kW cV=some z):cQ Tryz.prog 64 [.box 0 0,ci nL,ci kW] [AV.cs (eV cV)] (ci z.1) [AV.cs (eV z.2)]:=by
 unfold fF at h
 refine dF (fn:=Tryz.f64) [0,1,2,6,7,8,9,10,11,13,23,24,29,46,60,88] (by kernel_rfl) Tryz.func64 r (by kernel_rfl) (by kernel_rfl)<|aH<|sI r<|aG (fr':=[(0,aE),(1,aI),(2,aI)]) r r<|aZ<|aH<|mV (v:=aE) r<|bx h fun x1 y1 h2=>cP (v:=aB) (σ':=[dG]) [0] r (aAg y1) r r ⟨lr,trivial⟩ (eG nO aD) r r r<|aG (fr':=[(0,aE),(1,aI),(2,aI),(13,aB)]) r r<|cG h2 r (fun b3 h3=>?_) (fun b3 h3=>?_)
 ·
  refine aH<|sI r<|aG (fr':=[(6,aI)]) r r<|bK<|aP ?_
  obtain rfl:=sy h3
  exact bJ (rs':=[.tmp 6]) r<|bS (v:=aI) r<|bI<|aN [] r r r lr (eG nO aD)
 ·
  refine bF<|cZ<|aZ<|kV [.q 0,.q 1,.q 2,.q 3,.q 4,.q 5,.q 6,.q 7,.q 8,.n 9 []] [(some 14,[0]),(some 15,[14]),(some 16,[15]),(some 17,[16]),(some 18,[0]),(some 19,[18]),(some 20,[19]),(some 21,[20]),(some 22,[17,21]),(some 7,[22])] [0,1,3,7,0,16,48,112,255,511] (by kernel_rfl)<|dq r r (bN (v:=aE) r)<|dq r r (jM r)<|dq r r (bD aLD r)<|dq r r (aK (v:=aL) aFZ r r r)<|dq r r (bN (v:=aE) r)<|dq r r (jM r)<|dq r r (bD aD0 r)<|dq r r (aK (v:=aI) fM r r r)<|bx h3 fun x5 y5 h6=>dq r r (aN4 aRw aEq (eK r) r (aBg y5).1)<|d_n r ?_ r
  refine sL r<|uK<|⟨lJ,?_⟩
  refine aAq (fr':=[(0,aE),(1,aI),(2,aI),(7,aL)]) r r<|aH<|sI r<|aG (fr':=[(0,aE),(1,aI),(2,aI),(7,aL),(8,aI)]) r r<|aZ<|aH<|mI r<|aG (fr':=[(0,aE),(1,aI),(2,aI),(7,aL),(8,aI),(23,aI)]) r r<|bx h6 fun x7 y7 h8=>gZ lB (fun j9=>x7=Fl.go j9) (fun (j9:Unit)=>([(0,aE)]:Fr)) (fun (j9:Unit)=>([[.c (PV.ls 1 iT cV.b_),ci cV.at_,ci cV.err_,.c (.bool cV.made_)]]:St)) ?_ ?_
  ·
   refine cH<|gV _ (fun (s10:(Int × Int))=>([(0,aE),(1,ci nL),(2,ci kW),(7,.c (PV.ls 1 iT (List.drop (Int.toNat cV.at_) cV.b_))),(8,.c (.int .u64 s10.1)),(23,ci s10.2)]:Fr)) (fun (s10:(Int × Int))=>([[.c (PV.ls 1 iT cV.b_),ci cV.at_,ci cV.err_,.c (.bool cV.made_)]]:St)) y7 (bC [] 1 r r r r kL6 (bR r aD)) ?_
   intro s10 st10 hs10 ho10
   unfold wH at hs10
   refine aH<|aR r (gI r r)<|aG (fr':=[(0,aE),(1,aI),(2,aI),(7,aL),(8,aI),(23,aI),(24,aB)]) r r<|aZ<|cG hs10 r (fun b11 h11=>?_) (fun b11 h11=>?_)
   ·
    refine bF<|cZ<|aZ<|cH<|aH<|mI r<|sI r<|aG (fr':=[(0,aE),(1,aI),(2,aI),(7,aL),(8,aI),(9,aI),(23,aI)]) r r<|aZ<|aH<|mI r<|mL r<|aR r (hZ aGM (eK r))<|aR r (oI r r)<|aG (fr':=[(0,aE),(1,aI),(2,aI),(7,aL),(8,aI),(9,aI),(23,aI),(29,aB)]) r r<|cG h11 r (fun b12 h12=>?_) (fun b12 h12=>?_)
    ·
     refine aH<|mV (v:=aE) r<|aR r (jM r)<|aR r (bD aEW r)<|bM (v:=aI) (us:=[aI]) (cs:=dG) (σ':=[dG]) r aF1 r r r r r r r r<|aG (fr':=[]) r r<|aH<|sI r<|aG (fr':=[(6,aI)]) r r<|bK<|aP<|bO<|aP<|aP<|bO<|aP<|aP ?_
     have h13:=eR h12 ho10
     have h14:=fL h13 h8
     obtain rfl:=sy h14
     exact bJ (rs':=[.tmp 6]) r<|bS (v:=aI) r<|bI<|aN [] r r r lr (eG nO aD)
    ·
     refine bF<|cZ<|aH<|mL r<|mI r<|bx h12 fun x16 y16 h17=>aR r (lF (cs:=[PV.int _ _]) aEq (eK r) r y16 r)<|aR r (gP (p:=PV.int _ _) tv5 r r)<|sI r<|aG (fr':=[(0,aE),(1,aI),(2,aI),(7,aL),(8,aI),(9,aI),(10,aI),(23,aI)]) r r<|aH<|mI r<|mI r<|aR r (aSW r r)<|aR r (aCv tk5 aGN r)<|mI r<|aR r (aQ5 r r)<|bx h17 fun x18 y18 h19=>aR r (aSY r r (aR9 y18).1)<|aR r (aT8 r r)<|sI r<|aG (fr':=[(0,aE),(1,aI),(2,aI),(7,aL),(8,aI),(9,aI),(10,aI),(23,aI)]) r r<|aZ<|aH<|mI r<|aR r (oI r r)<|aG (fr':=[(0,aE),(1,aI),(2,aI),(7,aL),(8,aI),(9,aI),(10,aI),(23,aI),(46,aB)]) r r<|cG h19 r (fun b20 h20=>?_) (fun b20 h20=>?_)
     ·
      exact hG<|cY<|fP<|cZ<|bB<|aR r (gC r r)<|mI r<|dM (fr':=[(0,aE),(1,aI),(2,aI),(7,aL),(8,aI),(9,aI),(10,aI),(23,aI),(46,aB)]) r<|zO _ (sy h20) (bC [] 1 r r r r kL6 (bR r aD))
     ·
      refine bF<|cZ<|aZ<|aH<|mI r<|aR r (qW r r)<|mB r<|og r r r (fun u=>(bN (v:=aI) r))<|og r r r (fun u=>(bU (gx r u) r))<|aR r (bV r r r (fun e=>fJ e))<|mB r<|og r r r (fun u=>(bN (v:=aI) r))<|og r r r (fun u=>(bU (gx r u) r))<|og r r r (fun u=>(bN (v:=aB) (gx r u)))<|fD r r (fun u=>fS r (bN (v:=aI) r))<|fD r r (fun u=>fS r (qW (gx r u) r))<|og r r r (fun u=>(bV (gx r u) r r (fun e=>pX u (fJ e))))<|aR r (cN r r r (fun e=>fJ e))<|aG (fr':=[(0,aE),(1,aI),(2,aI),(8,aI),(9,aI),(60,aB)]) r r<|cG h20 r (fun b21 h21=>?_) (fun b21 h21=>?_)
      ·
       refine aH<|mV (v:=aE) r<|aR r (jM r)<|aR r (bD aEW r)<|bM (v:=aI) (us:=[aI]) (cs:=dG) (σ':=[dG]) r aF1 r r r r r r r r<|aG (fr':=[]) r r<|aH<|sI r<|aG (fr':=[(6,aI)]) r r<|bK<|aP<|bO<|aP<|aP<|bO<|aP<|aP ?_
       have h22:=eR h21 ho10
       have h23:=fL h22 h8
       obtain rfl:=sy h23
       exact bJ (rs':=[.tmp 6]) r<|bS (v:=aI) r<|bI<|aN [] r r r lr (eG nO aD)
      ·
       refine bF<|cZ<|aH<|mV (v:=aE) r<|aR r (jM r)<|aR r (bD aD0 r)<|aR r (aK (v:=aI) fM r r r)<|mI r<|aR r (gC r r)<|aR r (gC r r)<|aR r (jM r)<|aR r (bD aD0 r)<|bM (v:=aI) (us:=[aI]) (cs:=dG) (σ':=[dG]) r fM r r r r r r r r<|aG (fr':=[(0,aE),(1,aI),(2,aI),(8,aI)]) r r<|aH<|mI r<|aR r (aQ9 r r (by decide))<|aR r (aCv aGN tk3 r)<|mI r<|aR r (aSW r r)<|aR r (aCv aGN tk3 r)<|aR r (aON r)<|aR r (aS0 r r)<|sI r<|aG (fr':=[(0,aE),(1,aI),(2,aI),(11,aI)]) r r<|aZ<|aH<|mI r<|mI r<|aR r (gI r r)<|mB r<|og r r r (fun u=>(bN (v:=aI) r))<|og r r r (fun u=>(bN (v:=aI) r))<|og r r r (fun u=>(qW (gx r u) (gx r u)))<|aR r (cN r r r (fun e=>fJ e))<|aG (fr':=[(0,aE),(11,aI),(88,aB)]) r r<|cG h21 r (fun b25 h25=>?_) (fun b25 h25=>?_)
       ·
        refine aH<|mV (v:=aE) r<|aR r (jM r)<|aR r (bD aEW r)<|bM (v:=aI) (us:=[aI]) (cs:=dG) (σ':=[dG]) r aF1 r r r r r r r r<|aG (fr':=[]) r r<|aH<|sI r<|aG (fr':=[(6,aI)]) r r<|bK<|aP<|bO<|aP<|aP<|bO<|aP<|aP ?_
        have h26:=eR h25 ho10
        have h27:=fL h26 h8
        obtain rfl:=sy h27
        exact bJ (rs':=[.tmp 6]) r<|bS (v:=aI) r<|bI<|aN [] r r r lr (eG nO aD)
       ·
        refine bF<|cZ<|aH<|mI r<|sI r<|aG (fr':=[(6,aI)]) r r<|bK<|bO<|aP<|aP<|bO<|aP<|aP ?_
        have h29:=eR h25 ho10
        have h30:=fL h29 h8
        obtain rfl:=sy h30
        exact bJ (rs':=[.tmp 6]) r<|bS (v:=aI) r<|bI<|aN [] r r r lr (eG nO aD)
   ·
    refine hG<|cY<|cY<|fP ?_
    have h32:=eR h11 ho10
    exact iQ _ (sy h32) (bC [] 1 r r r r ⟨lr,trivial⟩ (bR r aD))
  ·
   intro j9 hj33
   have h33:=lV hj33 h8
   refine cZ<|aH<|mV (v:=aE) r<|aR r (jM r)<|aR r (bD aEW r)<|bM (v:=aI) (us:=[aI]) (cs:=dG) (σ':=[dG]) r aF1 r r r r r r r r<|aG (fr':=[]) r r<|aH<|sI r<|aG (fr':=[(6,aI)]) r r<|bK ?_
   obtain rfl:=sy h33
   exact bJ (rs':=[.tmp 6]) r<|bS (v:=aI) r<|bI<|aN [] r r r lr (eG nO aD)
noncomputable def iF (sD:Int) (cV:aX):Option ((List UInt8) × aX) :=
 (fF 0 sD cV).bind fun x1=>(qL x1.2).bind fun x3=>cond x3 (some (([]:List UInt8),x1.2)) (cond (decide ((IntKind.wrap .i64 (((x1.2.b_).length:Int) - x1.2.at_))<x1.1)) (some (([]:List UInt8),(aX.mk x1.2.b_ x1.2.at_ 4 x1.2.made_))) ((aSk x1.2.b_ x1.2.at_ (IntKind.wrap .i64 (x1.2.at_+x1.1))).bind fun x9=>some ((List.drop (Int.toNat x1.2.at_) (List.take (Int.toNat (IntKind.wrap .i64 (x1.2.at_+x1.1))) x1.2.b_)),(aX.mk x1.2.b_ (IntKind.wrap .i64 (x1.2.at_+x1.1)) x1.2.err_ x1.2.made_))))
theorem mG {sD:Int}{cV:aX}{z:((List UInt8) × aX)} (h:iF sD cV=some z):cQ Tryz.prog 71 [.box 0 0,ci sD] [AV.cs (eV cV)] (.c (.str z.1)) [AV.cs (eV z.2)]:=by
 unfold iF at h
 refine dF (fn:=Tryz.f71) [0,1,4,5,6,11,23] (by kernel_rfl) Tryz.func71 r (by kernel_rfl) (by kernel_rfl)<|aH<|sS r<|aG (fr':=[(0,aE),(1,aI)]) r r<|aH<|mV (v:=aE) r<|mI r<|bx h fun x1 y1 h2=>cP (v:=aI) (σ':=[dG]) [0] r (jR y1) r r kA (eG nO aD) r r r<|sI r<|aG (fr':=[(0,aE),(5,aI)]) r r<|aZ<|aH<|mV (v:=aE) r<|bx h2 fun x3 y3 h4=>cP (v:=aB) (σ':=[dG]) [0] r (aAg y3) r r ⟨lr,trivial⟩ (eG nO aD) r r r<|aG (fr':=[(0,aE),(5,aI),(11,aB)]) r r<|cG h4 r (fun b5 h5=>?_) (fun b5 h5=>?_)
 ·
  refine aH<|sS r<|aG (fr':=[(4,aS)]) r r<|bK<|aP ?_
  obtain rfl:=sy h5
  exact bJ (rs':=[.tmp 4]) r<|bS (v:=aS) r<|bI<|aN [] r r r lr (eG nO aD)
 ·
  refine bF<|cZ<|aZ<|aZ<|kV [.q 0,.q 1,.q 2,.q 3,.q 4,.q 5,.q 6,.q 7,.q 8,.q 9,.q 10,.q 11] [(some 12,[5]),(some 13,[0]),(some 14,[13]),(some 15,[14]),(some 16,[15]),(some 17,[16]),(some 18,[0]),(some 19,[18]),(some 20,[19]),(some 21,[20]),(some 22,[17,21]),(some 23,[12,22])] [0,0,2,6,14,30,0,64,192,448,1022,2047] (by kernel_rfl)<|dq r r (bN (v:=aI) r)<|dq r r (bN (v:=aE) r)<|dq r r (jM r)<|dq r r (bD aLD r)<|dq r r (aK (v:=aL) aFZ r r r)<|dq r r (hZ aGM (eK r))<|dq r r (bN (v:=aE) r)<|dq r r (jM r)<|dq r r (bD aD0 r)<|dq r r (aK (v:=aI) fM r r r)<|dq r r (aFA r r)<|dq r r (qW r r)<|aAq (fr':=[(0,aE),(5,aI),(23,aB)]) r r<|cG h5 r (fun b7 h7=>?_) (fun b7 h7=>?_)
  ·
   refine aH<|mV (v:=aE) r<|aR r (jM r)<|aR r (bD aEW r)<|bM (v:=aI) (us:=[aI]) (cs:=dG) (σ':=[dG]) r aF1 r r r r r r r r<|aG (fr':=[]) r r<|aH<|sS r<|aG (fr':=[(4,aS)]) r r<|bK<|aP ?_
   obtain rfl:=sy h7
   exact bJ (rs':=[.tmp 4]) r<|bS (v:=aS) r<|bI<|aN [] r r r lr (eG nO aD)
  ·
   refine bF<|cZ<|aZ<|kV [.q 0,.q 1,.q 2,.q 3,.q 4,.q 5,.q 6,.q 7,.q 8,.q 9,.q 10,.q 11,.q 12,.q 13,.q 14,.q 15,.n 16 []] [(some 27,[0]),(some 28,[27]),(some 29,[28]),(some 30,[29]),(some 31,[0]),(some 32,[31]),(some 33,[32]),(some 34,[33]),(some 35,[0]),(some 36,[35]),(some 37,[36]),(some 38,[37]),(some 39,[5]),(some 40,[38,39]),(some 41,[30,34,40]),(some 42,[41]),(some 6,[42])] [0,1,3,7,0,16,48,112,0,256,768,1792,0,7936,16383,32767,65535] (by kernel_rfl)<|dq r r (bN (v:=aE) r)<|dq r r (jM r)<|dq r r (bD aLD r)<|dq r r (aK (v:=aL) aFZ r r r)<|dq r r (bN (v:=aE) r)<|dq r r (jM r)<|dq r r (bD aD0 r)<|dq r r (aK (v:=aI) fM r r r)<|dq r r (bN (v:=aE) r)<|dq r r (jM r)<|dq r r (bD aD0 r)<|dq r r (aK (v:=aI) fM r r r)<|dq r r (bN (v:=aI) r)<|dq r r (gC r r)<|bx h7 fun x9 y9 h10=>dq r r (aTx aRw aEq (eK r) r r (aPW y9).1)<|dq r r (aGx aOQ uU (eK r))<|d_n r ?_ r
   refine sS r<|uK<|⟨lJ,?_⟩
   refine aAq (fr':=[(0,aE),(5,aI),(6,aS)]) r r<|aH<|mV (v:=aE) r<|aR r (jM r)<|aR r (bD aD0 r)<|aR r (aK (v:=aI) fM r r r)<|mI r<|aR r (gC r r)<|aR r (jM r)<|aR r (bD aD0 r)<|bM (v:=aI) (us:=[aI]) (cs:=dG) (σ':=[dG]) r fM r r r r r r r r<|aG (fr':=[(6,aS)]) r r<|aH<|mS r<|sS r<|aG (fr':=[(4,aS)]) r r<|bK ?_
   obtain rfl:=sy h10
   exact bJ (rs':=[.tmp 4]) r<|bS (v:=aS) r<|bI<|aN [] r r r lr (eG nO aD)
noncomputable def jS (p1e:Int) (cV:aX):Option aX :=
 (qL cV).bind fun x1=>cond (!x1) (some (aX.mk cV.b_ cV.at_ p1e cV.made_)) (some cV)
theorem oO {p1e:Int}{cV:aX}{z:aX} (h:jS p1e cV=some z):cQ Tryz.prog 74 [.box 0 0,ci p1e] [AV.cs (eV cV)] (.any) [AV.cs (eV z)]:=by
 unfold jS at h
 refine dF (fn:=Tryz.f74) [0,1,6] (by kernel_rfl) Tryz.func74 r (by kernel_rfl) (by kernel_rfl)<|aH<|mV (v:=aE) r<|bx h fun x1 y1 h2=>cP (v:=aB) (σ':=[dG]) [0] r (aAg y1) r r ⟨lr,trivial⟩ (eG nO aD) r r r<|aR r (fE r)<|aG (fr':=[(0,aE),(1,aI),(6,aB)]) r r<|cG h2 r (fun b3 h3=>?_) (fun b3 h3=>?_)
 ·
  refine bB<|mV (v:=aE) r<|mI r<|aR r (jM r)<|aR r (bD aEW r)<|bM (v:=aI) (us:=[aI]) (cs:=dG) (σ':=[dG]) r aF1 r r r r r r r r<|dM (fr':=[(0,aE),(1,aI),(6,aB)]) r ?_
  obtain rfl:=sy h3
  exact aIQ (rs':=[]) r<|bI<|aN [] r r r (AV.le_any _) (eG nO aD)
 ·
  refine bF ?_
  obtain rfl:=sy h3
  exact aIQ (rs':=[]) r<|bI<|aN [] r r r (AV.le_any _) (eG nO aD)
noncomputable def kZ (aCY:Bool) (eD:Int) (jQ:aX):Option (Bool × aX) :=
 (((gH jQ).bind fun x4=>cond (cond (decide (x4=0)) (!aCY) false) ((jS 3 jQ).bind fun x7=>some x7) (some jQ)):Option aX).bind fun x1=>((gH x1).bind fun x10=>some ((decide (x10=0)),x1))
theorem qK {aCY:Bool}{eD:Int}{jQ:aX}{z:(Bool × aX)} (h:kZ aCY eD jQ=some z):cQ Tryz.prog 183 [.box 0 0,.c (.bool aCY)] [[.box 1 0,ci eD],AV.cs (eV jQ)] (.c (.bool z.1)) [[.box 1 0,ci eD],AV.cs (eV z.2)]:=by
 unfold kZ at h
 refine dF (fn:=Tryz.f183) [0,1,4,14] (by kernel_rfl) Tryz.func183 r (by kernel_rfl) (by kernel_rfl)<|aH<|sB r<|aG (fr':=[(0,aE),(1,aB)]) r r<|bx h fun x1 y1 h2=>hH (fun j3=>x1=j3) (fun (j3:aX)=>([(0,aE)]:Fr)) (fun (j3:aX)=>([[aU,ci eD],[.c (PV.ls 1 iT j3.b_),ci j3.at_,ci j3.err_,.c (.bool j3.made_)]]:St)) ?_ ?_
 ·
  refine aH<|mV (v:=aE) r<|aR r (jM r)<|aR r (bD aBq r)<|aR r (aK (v:=aU) aJ8 r r r)<|bx y1 fun x4 y4 h5=>cP (v:=aI) (σ':=[[aU,aI],dG]) [1] r (iB y4) r r ⟨lr,trivial⟩ (eG nO aD) r r r<|aR r (bU r r)<|mB r<|og r r r (fun u=>(bN (v:=aB) r))<|og r r r (fun u=>(fE (gx r u)))<|aR r (bV r r r (fun e=>fJ e))<|aG (fr':=[(0,aE),(14,aB)]) r r<|cG h5 r (fun b6 h6=>?_) (fun b6 h6=>?_)
  ·
   exact bB<|mV (v:=aE) r<|aR r (jM r)<|aR r (bD aBq r)<|aR r (aK (v:=aU) aJ8 r r r)<|bx h6 fun x7 y7 h8=>cP (v:=_) (σ':=[[aU,aI],dG]) [1] r (oO y7) r r jN (eG nO aD) r r r<|dM (fr':=[(0,aE),(14,aB)]) r<|iQ _ (sy h8) (bC [] 2 r r r r ⟨lr,trivial⟩ (bR r (bR r aD)))
  ·
   exact bF<|iQ _ (sy h6) (bC [] 2 r r r r ⟨lr,trivial⟩ (bR r (bR r aD)))
 ·
  intro j3 hj9
  subst hj9
  refine aH<|mV (v:=aE) r<|aR r (jM r)<|aR r (bD aBq r)<|aR r (aK (v:=aU) aJ8 r r r)<|bx h2 fun x10 y10 h11=>cP (v:=aI) (σ':=[[aU,aI],dG]) [1] r (iB y10) r r ⟨lr,trivial⟩ (eG nO aD) r r r<|aR r (bU r r)<|sB r<|aG (fr':=[(4,aB)]) r r<|bK ?_
  obtain rfl:=sy h11
  exact bJ (rs':=[.tmp 4]) r<|bS (v:=aB) r<|bI<|aN [] r r r lr (bR r (eG nO aD))
