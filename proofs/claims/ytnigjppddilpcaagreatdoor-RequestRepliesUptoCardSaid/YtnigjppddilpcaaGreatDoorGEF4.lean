import Derived.Test.YtnigjppddilpcaaGreatDoorGETy
import Derived.Test.YtnigjppddilpcaaGreatDoorGEF0
import Derived.Test.YtnigjppddilpcaaGreatDoorGEF1
import Derived.Test.YtnigjppddilpcaaGreatDoorGEF2
import Derived.Test.YtnigjppddilpcaaGreatDoorGEF3
namespace Go.Proofs.YtnigjppddilpcaaGreatDoor
open Go Abs
set_option maxRecDepth 100000
set_option linter.unusedVariables false
set_option linter.unusedSimpArgs false
noncomputable def uL (p0e:dP):Option Bool :=
 cond (decide (p0e.Kind=1)) ((rY p0e.Name).bind fun x2=>(gd (x2==true) (nY p0e.Key)).bind fun x4=>(gd ((cond x2 x4 false)==true) (lN p0e.N 0 4294967295)).bind fun x6=>(gd ((cond (cond x2 x4 false) x6 false)==true) (aBm p0e.Data)).bind fun x8=>some (cond (cond (cond x2 x4 false) x6 false) x8 false)) (cond (decide (p0e.Kind=2)) (some (decide (1≤p0e.N))) (cond (decide (p0e.Kind=5)) ((lN p0e.Code 1 30).bind fun x14=>some x14) (cond (decide (p0e.Kind=8)) ((lN p0e.N 1 1000).bind fun x18=>some x18) (cond (decide (p0e.Kind=11)) ((lN p0e.Code 1 4).bind fun x22=>some x22) (((cond (decide (p0e.Kind=10)) (some (decide (p0e.Kind=10))) (cond (decide (p0e.Kind=22)) (some (decide (p0e.Kind=22))) (some (decide (p0e.Kind=25))))):Option Bool).bind fun x25=>(cond x25 (some (decide (((p0e.Name).length:Int)≤4096))) (cond (decide (p0e.Kind=33)) (some (decide (((p0e.Name).length:Int)≤64))) (cond (decide (p0e.Kind=17)) ((rY p0e.Name).bind fun x36=>(gd (x36==true) (nY p0e.Key)).bind fun x38=>some (cond x36 x38 false)) (cond (decide (p0e.Kind=26)) ((nY p0e.Key).bind fun x42=>some x42) (cond (decide (p0e.Kind=20)) ((aAh p0e.Key).bind fun x46=>some x46.2) (some true)))))))))))
theorem aGc {p0e:dP}{z:Bool} (h:uL p0e=some z):cR Tryz.prog 141 [.agg (AV.cs (eU p0e))] [] (.c (.bool z)) []:=by
 unfold uL at h
 refine dQ (fn:=Tryz.f141) [0,1,2,4,6,7,27,32,37,42,47,55,61,71,76] (by kernel_rfl) Tryz.func141 r (by kernel_rfl) (by kernel_rfl)<|aH<|iR (v:=.agg aT) (n:=0) (cs:=aT) (σ':=[aT]) r r r r r<|sB r<|aG (fr':=[(1,aD)]) r r<|aU<|aH<|aN r (bE aAJ r)<|aN r (aJ (v:=aI) gA r r r)<|aG (fr':=[(1,aD),(6,aI)]) r r<|cE<|aH<|aN r (cC r r)<|sB r<|aG (fr':=[(1,aD),(6,aI),(7,aB)]) r r<|cN h r (fun b1 h1=>?_) (fun b1 h1=>?_)
 ·
  refine aH<|aN r (bE xZ r)<|aN r (aJ (v:=aS) mG r r r)<|bx h1 fun x2 y2 h3=>kB (bC (v:=aB) r (vV y2) ⟨lr,trivial⟩ r r r)<|mB r<|og r r r (fun u=>(bE yA r))<|og r r r (fun u=>(aJ (v:=aS) mG (gx r u) r r))<|bx h3 fun x4 y4 h5=>uP r r (fun u=>bC (v:=aB) r (aAe (cZ y4 u)) ⟨(fH (gx r u) lr),trivial⟩ (gO (by repeat (first | exact fC | refine aZ r ?_ | refine aZ (rG r) ?_ | refine aZ rF ?_))) r r) ?_
  refine aN r (cB r r r (fun e=>fU e))<|mB r<|og r r r (fun u=>(bE aAd r))<|og r r r (fun u=>(aJ (v:=aI) gA (gx r u) r r))<|bx h5 fun x6 y6 h7=>uP r r (fun u=>bC (v:=aB) r (mN (cZ y6 u)) ⟨(fH (gx r u) lr),lr,lr,trivial⟩ (gO (by repeat (first | exact fC | refine aZ r ?_ | refine aZ (rG r) ?_ | refine aZ rF ?_))) r r) ?_
  refine aN r (cB r r r (fun e=>fU e))<|mB r<|og r r r (fun u=>(bE aA5 r))<|og r r r (fun u=>(dN (us:=cH) jC (gx r u) r r r))<|bx h7 fun x8 y8 h9=>uP r r (fun u=>bC (v:=aB) r (aKZ (cZ y8 u)) ⟨(fH (gx r u) (bQ r zA)),trivial⟩ (gO (by repeat (first | exact fC | refine aZ r ?_ | refine aZ (rG r) ?_ | refine aZ rF ?_))) r r) ?_
  refine aN r (cB r r r (fun e=>fU e))<|sB r<|aG (fr':=[(2,aB)]) r r<|bJ<|bM<|aQ ?_
  obtain rfl:=sy h9
  exact bI (rs':=[.tmp 2]) r<|bX (v:=aB) r<|bG<|aP [] r r r lr aC
 ·
  refine aH<|aN r (cC r r)<|sB r<|aG (fr':=[(1,aD),(6,aI),(27,aB)]) r r<|cN h1 r (fun b11 h11=>?_) (fun b11 h11=>?_)
  ·
   refine aH<|aN r (bE aAd r)<|aN r (aJ (v:=aI) gA r r r)<|aN r (qR r r)<|sB r<|aG (fr':=[(2,aB)]) r r<|bJ<|bM<|aQ ?_
   obtain rfl:=sy h11
   exact bI (rs':=[.tmp 2]) r<|bX (v:=aB) r<|bG<|aP [] r r r lr aC
  ·
   refine aH<|aN r (cC r r)<|sB r<|aG (fr':=[(1,aD),(6,aI),(32,aB)]) r r<|cN h11 r (fun b13 h13=>?_) (fun b13 h13=>?_)
   ·
    refine aH<|aN r (bE aBH r)<|aN r (aJ (v:=aI) gA r r r)<|bx h13 fun x14 y14 h15=>kB (bC (v:=aB) r (mN y14) lG r r r)<|sB r<|aG (fr':=[(2,aB)]) r r<|bJ<|bM<|aQ ?_
    obtain rfl:=sy h15
    exact bI (rs':=[.tmp 2]) r<|bX (v:=aB) r<|bG<|aP [] r r r lr aC
   ·
    refine aH<|aN r (cC r r)<|sB r<|aG (fr':=[(1,aD),(6,aI),(37,aB)]) r r<|cN h13 r (fun b17 h17=>?_) (fun b17 h17=>?_)
    ·
     refine aH<|aN r (bE aAd r)<|aN r (aJ (v:=aI) gA r r r)<|bx h17 fun x18 y18 h19=>kB (bC (v:=aB) r (mN y18) lG r r r)<|sB r<|aG (fr':=[(2,aB)]) r r<|bJ<|bM<|aQ ?_
     obtain rfl:=sy h19
     exact bI (rs':=[.tmp 2]) r<|bX (v:=aB) r<|bG<|aP [] r r r lr aC
    ·
     refine aH<|aN r (cC r r)<|sB r<|aG (fr':=[(1,aD),(6,aI),(42,aB)]) r r<|cN h17 r (fun b21 h21=>?_) (fun b21 h21=>?_)
     ·
      refine aH<|aN r (bE aBH r)<|aN r (aJ (v:=aI) gA r r r)<|bx h21 fun x22 y22 h23=>kB (bC (v:=aB) r (mN y22) lG r r r)<|sB r<|aG (fr':=[(2,aB)]) r r<|bJ<|bM<|aQ ?_
      obtain rfl:=sy h23
      exact bI (rs':=[.tmp 2]) r<|bX (v:=aB) r<|bG<|aP [] r r r lr aC
     ·
      obtain ⟨x25,y25,h26⟩:=lB h21
      refine jR (fun j27=>x25=j27) (fun (j27:Bool)=>([(1,aD),(6,ci p0e.Kind),(47,.c (.bool j27))]:Fr)) (fun (j27:Bool)=>([[ci p0e.ID,ci p0e.Kind,ci p0e.Time,ci p0e.Seq,ci p0e.Ref,ci p0e.N,ci p0e.Code,.c (.str p0e.Name),.c (.str p0e.Key),ci p0e.Data.Kind,ci p0e.Data.Int,.c (.str p0e.Data.Text),.c (PV.ls 5 bO p0e.Data.Items),.c (PV.ls 1 fZ p0e.Data.Keys),.c (.str p0e.Opts.Queue),ci p0e.Opts.ToStart,ci p0e.Opts.ToClose,ci p0e.Opts.Total,ci p0e.Opts.Beat,ci p0e.Opts.First,ci p0e.Opts.Coef,ci p0e.Opts.Most,ci p0e.Opts.Attempts,.c (PV.ls 1 fZ p0e.Opts.Fatal)]]:St)) ?_ ?_
      ·
       refine aH<|aN r (cC r r)<|sB r<|aG (fr':=[(1,aD),(6,aI),(47,aB)]) r r<|cN y25 r (fun b28 h28=>?_) (fun b28 h28=>?_)
       ·
        exact bL<|kI _ (sy h28) (bH [] 1 r r r r lG (cV r aC))
       ·
        refine aH<|aN r (cC r r)<|sB r<|aG (fr':=[(1,aD),(6,aI),(47,aB)]) r r<|cN h28 r (fun b29 h29=>?_) (fun b29 h29=>?_)
        ·
         exact bL<|kI _ (sy h29) (bH [] 1 r r r r lG (cV r aC))
        ·
         exact bA<|aN r (cC r r)<|sB r<|dT (fr':=[(1,aD),(6,aI),(47,aB)]) r<|kI _ (sy h29) (bH [] 1 r r r r lG (cV r aC))
      ·
       intro j27 hj30
       subst hj30
       refine cN h26 r (fun b31 h31=>?_) (fun b31 h31=>?_)
       ·
        refine aH<|aN r (bE xZ r)<|aN r (aJ (v:=aS) mG r r r)<|aN r (kV uD r)<|aN r (qH r r)<|sB r<|aG (fr':=[(2,aB)]) r r<|bJ<|bM<|aQ ?_
        obtain rfl:=sy h31
        exact bI (rs':=[.tmp 2]) r<|bX (v:=aB) r<|bG<|aP [] r r r lr aC
       ·
        refine aH<|aN r (cC r r)<|sB r<|aG (fr':=[(1,aD),(6,aI),(55,aB)]) r r<|cN h31 r (fun b33 h33=>?_) (fun b33 h33=>?_)
        ·
         refine aH<|aN r (bE xZ r)<|aN r (aJ (v:=aS) mG r r r)<|aN r (kV uD r)<|aN r (qH r r)<|sB r<|aG (fr':=[(2,aB)]) r r<|bJ<|bM<|aQ ?_
         obtain rfl:=sy h33
         exact bI (rs':=[.tmp 2]) r<|bX (v:=aB) r<|bG<|aP [] r r r lr aC
        ·
         refine aH<|aN r (cC r r)<|sB r<|aG (fr':=[(1,aD),(6,aI),(61,aB)]) r r<|cN h33 r (fun b35 h35=>?_) (fun b35 h35=>?_)
         ·
          refine aH<|aN r (bE xZ r)<|aN r (aJ (v:=aS) mG r r r)<|bx h35 fun x36 y36 h37=>kB (bC (v:=aB) r (vV y36) ⟨lr,trivial⟩ r r r)<|mB r<|og r r r (fun u=>(bE yA r))<|og r r r (fun u=>(aJ (v:=aS) mG (gx r u) r r))<|bx h37 fun x38 y38 h39=>uP r r (fun u=>bC (v:=aB) r (aAe (cZ y38 u)) ⟨(fH (gx r u) lr),trivial⟩ (gO (by repeat (first | exact fC | refine aZ r ?_ | refine aZ (rG r) ?_ | refine aZ rF ?_))) r r) ?_
          refine aN r (cB r r r (fun e=>fU e))<|sB r<|aG (fr':=[(2,aB)]) r r<|bJ<|bM<|aQ ?_
          obtain rfl:=sy h39
          exact bI (rs':=[.tmp 2]) r<|bX (v:=aB) r<|bG<|aP [] r r r lr aC
         ·
          refine aH<|aN r (cC r r)<|sB r<|aG (fr':=[(1,aD),(6,aI),(71,aB)]) r r<|cN h35 r (fun b41 h41=>?_) (fun b41 h41=>?_)
          ·
           refine aH<|aN r (bE yA r)<|aN r (aJ (v:=aS) mG r r r)<|bx h41 fun x42 y42 h43=>kB (bC (v:=aB) r (aAe y42) ⟨lr,trivial⟩ r r r)<|sB r<|aG (fr':=[(2,aB)]) r r<|bJ<|bM<|aQ ?_
           obtain rfl:=sy h43
           exact bI (rs':=[.tmp 2]) r<|bX (v:=aB) r<|bG<|aP [] r r r lr aC
          ·
           refine aH<|aN r (cC r r)<|sB r<|aG (fr':=[(1,aD),(76,aB)]) r r<|cN h41 r (fun b45 h45=>?_) (fun b45 h45=>?_)
           ·
            refine aH<|aN r (bE yA r)<|aN r (aJ (v:=aS) mG r r r)<|bx h45 fun x46 y46 h47=>kB (bC (v:=.tup [aI,aB]) r (aFG y46) ⟨lr,trivial⟩ r r r)<|mV (v:=.tup [aI,aB]) r<|aN r (aAu (v:=aI) r r)<|aN r (aAu (v:=aB) r r)<|sI r<|sB r<|aG (fr':=[(4,aB)]) r r<|aH<|mB r<|sB r<|aG (fr':=[(2,aB)]) r r<|bJ<|bM<|aQ ?_
            obtain rfl:=sy h47
            exact bI (rs':=[.tmp 2]) r<|bX (v:=aB) r<|bG<|aP [] r r r lr aC
           ·
            refine bL<|dH<|cY<|aH<|sB r<|aG (fr':=[(2,aB)]) r r<|bJ ?_
            obtain rfl:=sy h45
            exact bI (rs':=[.tmp 2]) r<|bX (v:=aB) r<|bG<|aP [] r r r lr aC
noncomputable def xJ (p0e:dP):Option Bool :=
 (lN p0e.Kind 1 35).bind fun x1=>(gd ((!x1)==false) (lN p0e.ID 0 2000)).bind fun x3=>(gd ((cond (!x1) true (!x3))==false) (lN p0e.Time 0 1099511627776)).bind fun x5=>(gd ((cond (cond (!x1) true (!x3)) true (!x5))==false) (vF p0e.Data)).bind fun x7=>cond (cond (cond (cond (!x1) true (!x3)) true (!x5)) true (!x7)) (some false) ((wB p0e.Kind).bind fun x11=>cond (!decide (x11=0)) ((wC p0e x11).bind fun x14=>some x14) ((aB6 p0e.Kind).bind fun x17=>(uM x17 p0e).bind fun x19=>(gd (((!x19)==false)&&(x17.seq_==true)) (lN p0e.Seq 1 2000)).bind fun x21=>(gd (((cond (!x19) true (cond x17.seq_ (!x21) false))==false)&&(x17.ref_==true)) (lN p0e.Ref 1 2000)).bind fun x23=>cond (cond (cond (!x19) true (cond x17.seq_ (!x21) false)) true (cond x17.ref_ (!x23) false)) (some false) ((uL p0e).bind fun x27=>some x27)))
theorem aFF {p0e:dP}{z:Bool} (h:xJ p0e=some z):cR Tryz.prog 61 [.agg (AV.cs (eU p0e))] [] (.c (.bool z)) []:=by
 unfold xJ at h
 refine dQ (fn:=Tryz.f61) [0,1,2,3,4,26,31,61] (by kernel_rfl) Tryz.func61 r (by kernel_rfl) (by kernel_rfl)<|aH<|iR (v:=.agg aT) (n:=0) (cs:=aT) (σ':=[aT]) r r r r r<|sB r<|aG (fr':=[(1,aD)]) r r<|aU<|aH<|aN r (bE aAJ r)<|aN r (aJ (v:=aI) gA r r r)<|bx h fun x1 y1 h2=>kB (bC (v:=aB) r (mN y1) lG r r r)<|aN r (fP r)<|mB r<|og r r r (fun u=>(bE aF5 r))<|og r r r (fun u=>(aJ (v:=aI) gA (gx r u) r r))<|bx h2 fun x3 y3 h4=>uP r r (fun u=>bC (v:=aB) r (mN (cZ y3 u)) ⟨(fH (gx r u) lr),lr,lr,trivial⟩ (gO (by repeat (first | exact fC | refine aZ r ?_ | refine aZ (rG r) ?_ | refine aZ rF ?_))) r r) ?_
 refine og r r r (fun u=>(fP (gx r u)))<|aN r (cM r r r (fun e=>fU e))<|mB r<|og r r r (fun u=>(bE aF6 r))<|og r r r (fun u=>(aJ (v:=aI) gA (gx r u) r r))<|bx h4 fun x5 y5 h6=>uP r r (fun u=>bC (v:=aB) r (mN (cZ y5 u)) ⟨(fH (gx r u) lr),lr,lr,trivial⟩ (gO (by repeat (first | exact fC | refine aZ r ?_ | refine aZ (rG r) ?_ | refine aZ rF ?_))) r r) ?_
 refine og r r r (fun u=>(fP (gx r u)))<|aN r (cM r r r (fun e=>fU e))<|mB r<|og r r r (fun u=>(bE aA5 r))<|og r r r (fun u=>(dN (us:=cH) jC (gx r u) r r r))<|bx h6 fun x7 y7 h8=>uP r r (fun u=>bC (v:=aB) r (aBi (cZ y7 u)) ⟨(fH (gx r u) (bQ r zA)),trivial⟩ (gO (by repeat (first | exact fC | refine aZ r ?_ | refine aZ (rG r) ?_ | refine aZ rF ?_))) r r) ?_
 refine og r r r (fun u=>(fP (gx r u)))<|aN r (cM r r r (fun e=>fU e))<|aG (fr':=[(1,aD),(26,aB)]) r r<|cN h8 r (fun b9 h9=>?_) (fun b9 h9=>?_)
 ·
  refine aH<|sB r<|aG (fr':=[(2,aB)]) r r<|bJ<|aQ ?_
  obtain rfl:=sy h9
  exact bI (rs':=[.tmp 2]) r<|bX (v:=aB) r<|bG<|aP [] r r r lr aC
 ·
  refine bL<|cY<|aU<|aH<|aN r (bE aAJ r)<|aN r (aJ (v:=aI) gA r r r)<|bx h9 fun x11 y11 h12=>kB (bC (v:=aI) r (aHb y11) ⟨lr,trivial⟩ r r r)<|sI r<|aG (fr':=[(1,aD),(3,aI)]) r r<|aH<|mI r<|aN r (iY r r)<|aG (fr':=[(1,aD),(3,aI),(31,aB)]) r r<|cN h12 r (fun b13 h13=>?_) (fun b13 h13=>?_)
  ·
   refine aH<|aN r (dN (us:=aT) aDp r r r r)<|mI r<|bx h13 fun x14 y14 h15=>kB (bC (v:=aB) r (aHc y14) ⟨(bQ r aGD),lr,trivial⟩ r r r)<|sB r<|aG (fr':=[(2,aB)]) r r<|bJ<|aQ ?_
   obtain rfl:=sy h15
   exact bI (rs':=[.tmp 2]) r<|bX (v:=aB) r<|bG<|aP [] r r r lr aC
  ·
   refine bL<|cY<|aH<|aN r (bE aAJ r)<|aN r (aJ (v:=aI) gA r r r)<|bx h13 fun x17 y17 h18=>kB (bC (v:=.agg cU) r (aMv y17) ⟨lr,trivial⟩ r r r)<|jT (n:=1) (cs:=cU) (σ':=[aT,cU]) aSL r r r<|cD (v:=.agg cU) (us:=cU) (cs:=cU) (σ':=[aT,cU]) r rR r r r r r r r r<|aG (fr':=[(1,aD),(4,bK)]) r r<|aU<|aH<|aN r (dN (us:=cU) rR r r r r)<|aN r (dN (us:=aT) aDp r r r r)<|bx h18 fun x19 y19 h20=>kB (bC (v:=aB) r (aGd y19) ⟨(bQ r kR7),(bQ r aGD),trivial⟩ r r r)<|aN r (fP r)<|mB r<|og r r r (fun u=>(bE aP5 r))<|og r r r (fun u=>(aJ (v:=aB) tv4 (gx r u) r r))<|og r r r (fun u=>(bS (v:=aB) (gx r u)))<|fI r r (fun u=>fT r (bE aCr r))<|fI r r (fun u=>fT r (aJ (v:=aI) gA (gx r u) r r))<|bx h20 fun x21 y21 h22=>fI r r (fun u=>bC (v:=aB) r (mN (cZ y21 u)) ⟨(fH (gx r u) lr),lr,lr,trivial⟩ (gO (by repeat (first | exact fC | refine aZ r ?_ | refine aZ (rG r) ?_ | refine aZ rF ?_))) r r) ?_
   refine fI r r (fun u=>fT r (fP (gx r u)))<|og r r r (fun u=>(cB (gx r u) r r (fun e=>qC u (fU e))))<|aN r (cM r r r (fun e=>fU e))<|mB r<|og r r r (fun u=>(bE aP6 r))<|og r r r (fun u=>(aJ (v:=aB) tv4 (gx r u) r r))<|og r r r (fun u=>(bS (v:=aB) (gx r u)))<|fI r r (fun u=>fT r (bE aCs r))<|fI r r (fun u=>fT r (aJ (v:=aI) gA (gx r u) r r))<|bx h22 fun x23 y23 h24=>fI r r (fun u=>bC (v:=aB) r (mN (cZ y23 u)) ⟨(fH (gx r u) lr),lr,lr,trivial⟩ (gO (by repeat (first | exact fC | refine aZ r ?_ | refine aZ (rG r) ?_ | refine aZ rF ?_))) r r) ?_
   refine fI r r (fun u=>fT r (fP (gx r u)))<|og r r r (fun u=>(cB (gx r u) r r (fun e=>qC u (fU e))))<|aN r (cM r r r (fun e=>fU e))<|aG (fr':=[(1,aD),(61,aB)]) r r<|cN h24 r (fun b25 h25=>?_) (fun b25 h25=>?_)
   ·
    refine aH<|sB r<|aG (fr':=[(2,aB)]) r r<|bJ<|aQ ?_
    obtain rfl:=sy h25
    exact bI (rs':=[.tmp 2]) r<|bX (v:=aB) r<|bG<|aP [] r r r lr aC
   ·
    refine bL<|cY<|aH<|aN r (dN (us:=aT) aDp r r r r)<|bx h25 fun x27 y27 h28=>kB (bC (v:=aB) r (aGc y27) ⟨(bQ r aGD),trivial⟩ r r r)<|sB r<|aG (fr':=[(2,aB)]) r r<|bJ ?_
    obtain rfl:=sy h28
    exact bI (rs':=[.tmp 2]) r<|bX (v:=aB) r<|bG<|aP [] r r r lr aC
noncomputable def aA7 (p0b:(List UInt8)):Option aX :=
 (jW p0b).bind fun x1=>some (aX.mk x1 0 0 true)
theorem aIr {p0b:(List UInt8)}{z:aX} (h:aA7 p0b=some z):cR Tryz.prog 25 [.c (PV.ls 1 hF p0b)] [] (.box 0 0) [AV.cs (eS z)]:=by
 unfold aA7 at h
 refine dQ (fn:=Tryz.f25) [0,2] (by kernel_rfl) Tryz.func25 r (by kernel_rfl) (by kernel_rfl)<|aH<|sV (v:=.nilptr) r<|aG (fr':=[(0,aL)]) r r<|aH<|mL r<|bx h fun x1 y1 h2=>kB (bC (v:=aO) r (nO y1) ⟨lr,trivial⟩ r r r)<|aN r (gD (cs:=[aO,aI,aI,aB]) aWr r)<|iR (v:=.agg [aO,aI,aI,aB]) (n:=0) (cs:=[aO,aI,aI,aB]) (σ':=[[aO,aI,aI,aB]]) r r r r r<|sV (v:=aD) r<|aG (fr':=[(2,aD)]) r r<|bJ ?_
 obtain rfl:=sy h2
 exact bI (rs':=[.tmp 2]) r<|bX (v:=aD) r<|bG<|aTa (off:=0) (j:=0) r r r r r (hU mZ aC)
noncomputable def gN (eK:aX):Option Int :=
 cond (!eK.made_) (some 1) (some eK.err_)
theorem hS {eK:aX}{z:Int} (h:gN eK=some z):cR Tryz.prog 29 [.box 0 0] [AV.cs (eS eK)] (ci z) [AV.cs (eS eK)]:=by
 unfold gN at h
 refine dQ (fn:=Tryz.f29) [0,2,11] (by kernel_rfl) Tryz.func29 r (by kernel_rfl) (by kernel_rfl)<|aH<|sI r<|aG (fr':=[(0,aD)]) r r<|aU<|aH<|mV (v:=aD) r<|aN r (aO5 aU8 r r)<|mB r<|yT r r r<|mV (v:=aD) r<|yT r r r<|aN r (kJ r)<|yT r r r<|aN r (bE aSH r)<|yT r r r<|aN r (aJ (v:=aB) tv4 r r r)<|yT r r r<|aN r (fP r)<|aN r (aDh r r r)<|aG (fr':=[(0,aD),(11,aB)]) r r<|cN h r (fun b1 h1=>?_) (fun b1 h1=>?_)
 ·
  refine aH<|sI r<|aG (fr':=[(2,aI)]) r r<|bJ<|aQ ?_
  obtain rfl:=sy h1
  exact bI (rs':=[.tmp 2]) r<|bX (v:=aI) r<|bG<|aP [] r r r lr (cV r aC)
 ·
  refine bL<|cY<|aH<|mV (v:=aD) r<|aN r (kJ r)<|aN r (bE aEO r)<|aN r (aJ (v:=aI) aG7 r r r)<|sI r<|aG (fr':=[(2,aI)]) r r<|bJ ?_
  obtain rfl:=sy h1
  exact bI (rs':=[.tmp 2]) r<|bX (v:=aI) r<|bG<|aP [] r r r lr (cV r aC)
noncomputable def pO (eK:aX):Option Bool :=
 some (cond (!eK.made_) true (!decide (eK.err_=0)))
theorem aAf {eK:aX}{z:Bool} (h:pO eK=some z):cR Tryz.prog 79 [.box 0 0] [AV.cs (eS eK)] (.c (.bool z)) [AV.cs (eS eK)]:=by
 unfold pO at h
 refine dQ (fn:=Tryz.f79) [0,2] (by kernel_rfl) Tryz.func79 r (by kernel_rfl) (by kernel_rfl)<|aH<|sB r<|aG (fr':=[(0,aD)]) r r<|aH<|mV (v:=aD) r<|aN r (aO5 aU8 r r)<|mB r<|yT r r r<|mV (v:=aD) r<|yT r r r<|aN r (kJ r)<|yT r r r<|aN r (bE aSH r)<|yT r r r<|aN r (aJ (v:=aB) tv4 r r r)<|yT r r r<|aN r (fP r)<|aN r (aDh r r r)<|mB r<|og r r r (fun u=>(bS (v:=aD) r))<|og r r r (fun u=>(kJ (gx r u)))<|og r r r (fun u=>(bE aEO (gx r u)))<|og r r r (fun u=>(aJ (v:=aI) aG7 (gx r u) r r))<|og r r r (fun u=>(iY (gx r u) r))<|aN r (cM r r r (fun e=>fU e))<|sB r<|aG (fr':=[(2,aB)]) r r<|bJ ?_
 obtain rfl:=sy h
 exact bI (rs':=[.tmp 2]) r<|bX (v:=aB) r<|bG<|aP [] r r r lr (cV r aC)
noncomputable def vZ (eK:aX) (oK:Int) (lO:Int) (s10:(Int × Int)):Option (dU (Int × Int) (Fl (Int × aX) Unit)) :=
 cond (decide (s10.2<10)) (cond (decide ((((List.drop (Int.toNat eK.at_) eK.b_)).length:Int)≤s10.2)) (some (dU.out (Fl.done (0,(aX.mk eK.b_ eK.at_ 4 eK.made_))))) ((mP (List.drop (Int.toNat eK.at_) eK.b_) s10.2).bind fun x16=>(nn (IntKind.wrap .i64 (7*s10.2))).bind fun x18=>cond (decide (128≤((x16).toNat:Int))) (some (dU.next ((lR .or .u64 s10.1 (IntKind.wrap .u64 ((IntKind.wrap .u64 (lR .and .u8 ((x16).toNat:Int) 127))*2 ^ (min (Int.toNat (IntKind.wrap .i64 (7*s10.2))) (IntKind.bits .u64))))),(IntKind.wrap .i64 (s10.2+1))))) (cond (cond (cond (decide (0<s10.2)) (decide (((x16).toNat:Int)=0)) false) true (cond (decide (s10.2=9)) (decide (1<((x16).toNat:Int))) false)) (some (dU.out (Fl.done (0,(aX.mk eK.b_ eK.at_ 3 eK.made_))))) (cond (cond (decide ((lR .xor .i64 (IntKind.wrap .i64 (Int.fdiv (lR .or .u64 s10.1 (IntKind.wrap .u64 ((IntKind.wrap .u64 (lR .and .u8 ((x16).toNat:Int) 127))*2 ^ (min (Int.toNat (IntKind.wrap .i64 (7*s10.2))) (IntKind.bits .u64))))) (2 ^ (min (Int.toNat 1) (IntKind.bits .u64))))) (IntKind.wrap .i64 (0 - (IntKind.wrap .i64 (lR .and .u64 (lR .or .u64 s10.1 (IntKind.wrap .u64 ((IntKind.wrap .u64 (lR .and .u8 ((x16).toNat:Int) 127))*2 ^ (min (Int.toNat (IntKind.wrap .i64 (7*s10.2))) (IntKind.bits .u64))))) 1)))))<oK)) true (decide (lO<(lR .xor .i64 (IntKind.wrap .i64 (Int.fdiv (lR .or .u64 s10.1 (IntKind.wrap .u64 ((IntKind.wrap .u64 (lR .and .u8 ((x16).toNat:Int) 127))*2 ^ (min (Int.toNat (IntKind.wrap .i64 (7*s10.2))) (IntKind.bits .u64))))) (2 ^ (min (Int.toNat 1) (IntKind.bits .u64))))) (IntKind.wrap .i64 (0 - (IntKind.wrap .i64 (lR .and .u64 (lR .or .u64 s10.1 (IntKind.wrap .u64 ((IntKind.wrap .u64 (lR .and .u8 ((x16).toNat:Int) 127))*2 ^ (min (Int.toNat (IntKind.wrap .i64 (7*s10.2))) (IntKind.bits .u64))))) 1)))))))) (some (dU.out (Fl.done (0,(aX.mk eK.b_ (IntKind.wrap .i64 (eK.at_+(IntKind.wrap .i64 (s10.2+1)))) 14 eK.made_))))) (some (dU.out (Fl.done ((lR .xor .i64 (IntKind.wrap .i64 (Int.fdiv (lR .or .u64 s10.1 (IntKind.wrap .u64 ((IntKind.wrap .u64 (lR .and .u8 ((x16).toNat:Int) 127))*2 ^ (min (Int.toNat (IntKind.wrap .i64 (7*s10.2))) (IntKind.bits .u64))))) (2 ^ (min (Int.toNat 1) (IntKind.bits .u64))))) (IntKind.wrap .i64 (0 - (IntKind.wrap .i64 (lR .and .u64 (lR .or .u64 s10.1 (IntKind.wrap .u64 ((IntKind.wrap .u64 (lR .and .u8 ((x16).toNat:Int) 127))*2 ^ (min (Int.toNat (IntKind.wrap .i64 (7*s10.2))) (IntKind.bits .u64))))) 1))))),(aX.mk eK.b_ (IntKind.wrap .i64 (eK.at_+(IntKind.wrap .i64 (s10.2+1)))) eK.err_ eK.made_))))))))) (some (dU.out (Fl.go ())))
noncomputable def fN (oK:Int) (lO:Int) (eK:aX):Option (Int × aX) :=
 (pO eK).bind fun x1=>cond x1 (some (0,eK)) ((aPk eK.b_ eK.at_).bind fun x5=>(gL (vZ eK oK lO) ((0,0))).bind fun x7=>Fl.next x7 (fun j9=>(some (0,(aX.mk eK.b_ eK.at_ 3 eK.made_)))))
theorem jE {oK:Int}{lO:Int}{eK:aX}{z:(Int × aX)} (h:fN oK lO eK=some z):cR Tryz.prog 64 [.box 0 0,ci oK,ci lO] [AV.cs (eS eK)] (ci z.1) [AV.cs (eS z.2)]:=by
 unfold fN at h
 refine dQ (fn:=Tryz.f64) [0,1,2,6,7,8,9,10,11,13,23,24,29,46,60,88] (by kernel_rfl) Tryz.func64 r (by kernel_rfl) (by kernel_rfl)<|aH<|sI r<|aG (fr':=[(0,aD),(1,aI),(2,aI)]) r r<|aU<|aH<|mV (v:=aD) r<|bx h fun x1 y1 h2=>eW (v:=aB) (σ':=[dD]) [0] r (aAf y1) r r ⟨lr,trivial⟩ (hU mZ aC) r r r<|aG (fr':=[(0,aD),(1,aI),(2,aI),(13,aB)]) r r<|cN h2 r (fun b3 h3=>?_) (fun b3 h3=>?_)
 ·
  refine aH<|sI r<|aG (fr':=[(6,aI)]) r r<|bJ<|aQ ?_
  obtain rfl:=sy h3
  exact bI (rs':=[.tmp 6]) r<|bX (v:=aI) r<|bG<|aP [] r r r lr (hU mZ aC)
 ·
  refine bL<|cY<|aU<|mW [.q 0,.q 1,.q 2,.q 3,.q 4,.q 5,.q 6,.q 7,.q 8,.n 9 []] [(some 14,[0]),(some 15,[14]),(some 16,[15]),(some 17,[16]),(some 18,[0]),(some 19,[18]),(some 20,[19]),(some 21,[20]),(some 22,[17,21]),(some 7,[22])] [0,1,3,7,0,16,48,112,255,511] (by kernel_rfl)<|dq r r (bS (v:=aD) r)<|dq r r (kJ r)<|dq r r (bE aMq r)<|dq r r (aJ (v:=aL) aTV r r r)<|dq r r (bS (v:=aD) r)<|dq r r (kJ r)<|dq r r (bE aDQ r)<|dq r r (aJ (v:=aI) gA r r r)<|bx h3 fun x5 y5 h6=>dq r r (aUU aVR aCu (eD r) r (aHL y5).1)<|d_n r ?_ r
  refine sL r<|aEx<|⟨xN,?_⟩
  refine aBl (fr':=[(0,aD),(1,aI),(2,aI),(7,aL)]) r r<|aH<|sI r<|aG (fr':=[(0,aD),(1,aI),(2,aI),(7,aL),(8,aI)]) r r<|aU<|aH<|mI r<|aG (fr':=[(0,aD),(1,aI),(2,aI),(7,aL),(8,aI),(23,aI)]) r r<|bx h6 fun x7 y7 h8=>gY kS (fun j9=>x7=Fl.go j9) (fun (j9:Unit)=>([(0,aD)]:Fr)) (fun (j9:Unit)=>([[.c (PV.ls 1 hF eK.b_),ci eK.at_,ci eK.err_,.c (.bool eK.made_)]]:St)) ?_ ?_
  ·
   refine cE<|gU _ (fun (s10:(Int × Int))=>([(0,aD),(1,ci oK),(2,ci lO),(7,.c (PV.ls 1 hF (List.drop (Int.toNat eK.at_) eK.b_))),(8,.c (.int .u64 s10.1)),(23,ci s10.2)]:Fr)) (fun (s10:(Int × Int))=>([[.c (PV.ls 1 hF eK.b_),ci eK.at_,ci eK.err_,.c (.bool eK.made_)]]:St)) y7 (bH [] 1 r r r r kL6 (cV r aC)) ?_
   intro s10 st10 hs10 ho10
   unfold vZ at hs10
   refine aH<|aN r (gC r r)<|aG (fr':=[(0,aD),(1,aI),(2,aI),(7,aL),(8,aI),(23,aI),(24,aB)]) r r<|aU<|cN hs10 r (fun b11 h11=>?_) (fun b11 h11=>?_)
   ·
    refine bL<|cY<|aU<|cE<|aH<|mI r<|sI r<|aG (fr':=[(0,aD),(1,aI),(2,aI),(7,aL),(8,aI),(9,aI),(23,aI)]) r r<|aU<|aH<|mI r<|mL r<|aN r (gQ aFi (eD r))<|aN r (qR r r)<|aG (fr':=[(0,aD),(1,aI),(2,aI),(7,aL),(8,aI),(9,aI),(23,aI),(29,aB)]) r r<|cN h11 r (fun b12 h12=>?_) (fun b12 h12=>?_)
    ·
     refine aH<|mV (v:=aD) r<|aN r (kJ r)<|aN r (bE aEO r)<|cD (v:=aI) (us:=[aI]) (cs:=dD) (σ':=[dD]) r aG7 r r r r r r r r<|aG (fr':=[]) r r<|aH<|sI r<|aG (fr':=[(6,aI)]) r r<|bJ<|aQ<|bM<|aQ<|aQ<|bM<|aQ<|aQ ?_
     have h13:=eZ h12 ho10
     have h14:=gT h13 h8
     obtain rfl:=sy h14
     exact bI (rs':=[.tmp 6]) r<|bX (v:=aI) r<|bG<|aP [] r r r lr (hU mZ aC)
    ·
     refine bL<|cY<|aH<|mL r<|mI r<|bx h12 fun x16 y16 h17=>aN r (lT (cs:=[PV.int _ _]) aCu (eD r) r y16 r)<|aN r (iO (p:=PV.int _ _) tv5 r r)<|sI r<|aG (fr':=[(0,aD),(1,aI),(2,aI),(7,aL),(8,aI),(9,aI),(10,aI),(23,aI)]) r r<|aH<|mI r<|mI r<|aN r (aUi r r)<|aN r (aAZ tk5 aEP r)<|mI r<|aN r (aPQ r r)<|bx h17 fun x18 y18 h19=>aN r (aUl r r (aTl y18).1)<|aN r (aVt r r)<|sI r<|aG (fr':=[(0,aD),(1,aI),(2,aI),(7,aL),(8,aI),(9,aI),(10,aI),(23,aI)]) r r<|aU<|aH<|mI r<|aN r (qR r r)<|aG (fr':=[(0,aD),(1,aI),(2,aI),(7,aL),(8,aI),(9,aI),(10,aI),(23,aI),(46,aB)]) r r<|cN h19 r (fun b20 h20=>?_) (fun b20 h20=>?_)
     ·
      exact iA<|cX<|fS<|cY<|bA<|aN r (fY r r)<|mI r<|dT (fr':=[(0,aD),(1,aI),(2,aI),(7,aL),(8,aI),(9,aI),(10,aI),(23,aI),(46,aB)]) r<|e_l _ (sy h20) (bH [] 1 r r r r kL6 (cV r aC))
     ·
      refine bL<|cY<|aU<|aH<|mI r<|aN r (sP r r)<|mB r<|og r r r (fun u=>(bS (v:=aI) r))<|og r r r (fun u=>(cC (gx r u) r))<|aN r (cB r r r (fun e=>fU e))<|mB r<|og r r r (fun u=>(bS (v:=aI) r))<|og r r r (fun u=>(cC (gx r u) r))<|og r r r (fun u=>(bS (v:=aB) (gx r u)))<|fI r r (fun u=>fT r (bS (v:=aI) r))<|fI r r (fun u=>fT r (sP (gx r u) r))<|og r r r (fun u=>(cB (gx r u) r r (fun e=>qC u (fU e))))<|aN r (cM r r r (fun e=>fU e))<|aG (fr':=[(0,aD),(1,aI),(2,aI),(8,aI),(9,aI),(60,aB)]) r r<|cN h20 r (fun b21 h21=>?_) (fun b21 h21=>?_)
      ·
       refine aH<|mV (v:=aD) r<|aN r (kJ r)<|aN r (bE aEO r)<|cD (v:=aI) (us:=[aI]) (cs:=dD) (σ':=[dD]) r aG7 r r r r r r r r<|aG (fr':=[]) r r<|aH<|sI r<|aG (fr':=[(6,aI)]) r r<|bJ<|aQ<|bM<|aQ<|aQ<|bM<|aQ<|aQ ?_
       have h22:=eZ h21 ho10
       have h23:=gT h22 h8
       obtain rfl:=sy h23
       exact bI (rs':=[.tmp 6]) r<|bX (v:=aI) r<|bG<|aP [] r r r lr (hU mZ aC)
      ·
       refine bL<|cY<|aH<|mV (v:=aD) r<|aN r (kJ r)<|aN r (bE aDQ r)<|aN r (aJ (v:=aI) gA r r r)<|mI r<|aN r (fY r r)<|aN r (fY r r)<|aN r (kJ r)<|aN r (bE aDQ r)<|cD (v:=aI) (us:=[aI]) (cs:=dD) (σ':=[dD]) r gA r r r r r r r r<|aG (fr':=[(0,aD),(1,aI),(2,aI),(8,aI)]) r r<|aH<|mI r<|aN r (aSk r r (by decide))<|aN r (aAZ aEP tk3 r)<|mI r<|aN r (aUi r r)<|aN r (aAZ aEP tk3 r)<|aN r (aPR r)<|aN r (aUn r r)<|sI r<|aG (fr':=[(0,aD),(1,aI),(2,aI),(11,aI)]) r r<|aU<|aH<|mI r<|mI r<|aN r (gC r r)<|mB r<|og r r r (fun u=>(bS (v:=aI) r))<|og r r r (fun u=>(bS (v:=aI) r))<|og r r r (fun u=>(sP (gx r u) (gx r u)))<|aN r (cM r r r (fun e=>fU e))<|aG (fr':=[(0,aD),(11,aI),(88,aB)]) r r<|cN h21 r (fun b25 h25=>?_) (fun b25 h25=>?_)
       ·
        refine aH<|mV (v:=aD) r<|aN r (kJ r)<|aN r (bE aEO r)<|cD (v:=aI) (us:=[aI]) (cs:=dD) (σ':=[dD]) r aG7 r r r r r r r r<|aG (fr':=[]) r r<|aH<|sI r<|aG (fr':=[(6,aI)]) r r<|bJ<|aQ<|bM<|aQ<|aQ<|bM<|aQ<|aQ ?_
        have h26:=eZ h25 ho10
        have h27:=gT h26 h8
        obtain rfl:=sy h27
        exact bI (rs':=[.tmp 6]) r<|bX (v:=aI) r<|bG<|aP [] r r r lr (hU mZ aC)
       ·
        refine bL<|cY<|aH<|mI r<|sI r<|aG (fr':=[(6,aI)]) r r<|bJ<|bM<|aQ<|aQ<|bM<|aQ<|aQ ?_
        have h29:=eZ h25 ho10
        have h30:=gT h29 h8
        obtain rfl:=sy h30
        exact bI (rs':=[.tmp 6]) r<|bX (v:=aI) r<|bG<|aP [] r r r lr (hU mZ aC)
   ·
    refine iA<|cX<|cX<|fS ?_
    have h32:=eZ h11 ho10
    exact kI _ (sy h32) (bH [] 1 r r r r ⟨lr,trivial⟩ (cV r aC))
  ·
   intro j9 hj33
   have h33:=mY hj33 h8
   refine cY<|aH<|mV (v:=aD) r<|aN r (kJ r)<|aN r (bE aEO r)<|cD (v:=aI) (us:=[aI]) (cs:=dD) (σ':=[dD]) r aG7 r r r r r r r r<|aG (fr':=[]) r r<|aH<|sI r<|aG (fr':=[(6,aI)]) r r<|bJ ?_
   obtain rfl:=sy h33
   exact bI (rs':=[.tmp 6]) r<|bX (v:=aI) r<|bG<|aP [] r r r lr (hU mZ aC)
noncomputable def jM (aAt:Int) (eK:aX):Option ((List UInt8) × aX) :=
 (fN 0 aAt eK).bind fun x1=>(pO x1.2).bind fun x3=>cond x3 (some (([]:List UInt8),x1.2)) (cond (decide ((IntKind.wrap .i64 (((x1.2.b_).length:Int) - x1.2.at_))<x1.1)) (some (([]:List UInt8),(aX.mk x1.2.b_ x1.2.at_ 4 x1.2.made_))) ((aTy x1.2.b_ x1.2.at_ (IntKind.wrap .i64 (x1.2.at_+x1.1))).bind fun x9=>some ((List.drop (Int.toNat x1.2.at_) (List.take (Int.toNat (IntKind.wrap .i64 (x1.2.at_+x1.1))) x1.2.b_)),(aX.mk x1.2.b_ (IntKind.wrap .i64 (x1.2.at_+x1.1)) x1.2.err_ x1.2.made_))))
theorem lQ {aAt:Int}{eK:aX}{z:((List UInt8) × aX)} (h:jM aAt eK=some z):cR Tryz.prog 71 [.box 0 0,ci aAt] [AV.cs (eS eK)] (.c (.str z.1)) [AV.cs (eS z.2)]:=by
 unfold jM at h
 refine dQ (fn:=Tryz.f71) [0,1,4,5,6,11,23] (by kernel_rfl) Tryz.func71 r (by kernel_rfl) (by kernel_rfl)<|aH<|sS r<|aG (fr':=[(0,aD),(1,aI)]) r r<|aH<|mV (v:=aD) r<|mI r<|bx h fun x1 y1 h2=>eW (v:=aI) (σ':=[dD]) [0] r (jE y1) r r lG (hU mZ aC) r r r<|sI r<|aG (fr':=[(0,aD),(5,aI)]) r r<|aU<|aH<|mV (v:=aD) r<|bx h2 fun x3 y3 h4=>eW (v:=aB) (σ':=[dD]) [0] r (aAf y3) r r ⟨lr,trivial⟩ (hU mZ aC) r r r<|aG (fr':=[(0,aD),(5,aI),(11,aB)]) r r<|cN h4 r (fun b5 h5=>?_) (fun b5 h5=>?_)
 ·
  refine aH<|sS r<|aG (fr':=[(4,aS)]) r r<|bJ<|aQ ?_
  obtain rfl:=sy h5
  exact bI (rs':=[.tmp 4]) r<|bX (v:=aS) r<|bG<|aP [] r r r lr (hU mZ aC)
 ·
  refine bL<|cY<|aU<|aU<|mW [.q 0,.q 1,.q 2,.q 3,.q 4,.q 5,.q 6,.q 7,.q 8,.q 9,.q 10,.q 11] [(some 12,[5]),(some 13,[0]),(some 14,[13]),(some 15,[14]),(some 16,[15]),(some 17,[16]),(some 18,[0]),(some 19,[18]),(some 20,[19]),(some 21,[20]),(some 22,[17,21]),(some 23,[12,22])] [0,0,2,6,14,30,0,64,192,448,1022,2047] (by kernel_rfl)<|dq r r (bS (v:=aI) r)<|dq r r (bS (v:=aD) r)<|dq r r (kJ r)<|dq r r (bE aMq r)<|dq r r (aJ (v:=aL) aTV r r r)<|dq r r (gQ aFi (eD r))<|dq r r (bS (v:=aD) r)<|dq r r (kJ r)<|dq r r (bE aDQ r)<|dq r r (aJ (v:=aI) gA r r r)<|dq r r (aNA r r)<|dq r r (sP r r)<|aBl (fr':=[(0,aD),(5,aI),(23,aB)]) r r<|cN h5 r (fun b7 h7=>?_) (fun b7 h7=>?_)
  ·
   refine aH<|mV (v:=aD) r<|aN r (kJ r)<|aN r (bE aEO r)<|cD (v:=aI) (us:=[aI]) (cs:=dD) (σ':=[dD]) r aG7 r r r r r r r r<|aG (fr':=[]) r r<|aH<|sS r<|aG (fr':=[(4,aS)]) r r<|bJ<|aQ ?_
   obtain rfl:=sy h7
   exact bI (rs':=[.tmp 4]) r<|bX (v:=aS) r<|bG<|aP [] r r r lr (hU mZ aC)
  ·
   refine bL<|cY<|aU<|mW [.q 0,.q 1,.q 2,.q 3,.q 4,.q 5,.q 6,.q 7,.q 8,.q 9,.q 10,.q 11,.q 12,.q 13,.q 14,.q 15,.n 16 []] [(some 27,[0]),(some 28,[27]),(some 29,[28]),(some 30,[29]),(some 31,[0]),(some 32,[31]),(some 33,[32]),(some 34,[33]),(some 35,[0]),(some 36,[35]),(some 37,[36]),(some 38,[37]),(some 39,[5]),(some 40,[38,39]),(some 41,[30,34,40]),(some 42,[41]),(some 6,[42])] [0,1,3,7,0,16,48,112,0,256,768,1792,0,7936,16383,32767,65535] (by kernel_rfl)<|dq r r (bS (v:=aD) r)<|dq r r (kJ r)<|dq r r (bE aMq r)<|dq r r (aJ (v:=aL) aTV r r r)<|dq r r (bS (v:=aD) r)<|dq r r (kJ r)<|dq r r (bE aDQ r)<|dq r r (aJ (v:=aI) gA r r r)<|dq r r (bS (v:=aD) r)<|dq r r (kJ r)<|dq r r (bE aDQ r)<|dq r r (aJ (v:=aI) gA r r r)<|dq r r (bS (v:=aI) r)<|dq r r (fY r r)<|bx h7 fun x9 y9 h10=>dq r r (aUT aVR aCu (eD r) r r (aQ5 y9).1)<|dq r r (aEA aN2 uD (eD r))<|d_n r ?_ r
   refine sS r<|aEx<|⟨xN,?_⟩
   refine aBl (fr':=[(0,aD),(5,aI),(6,aS)]) r r<|aH<|mV (v:=aD) r<|aN r (kJ r)<|aN r (bE aDQ r)<|aN r (aJ (v:=aI) gA r r r)<|mI r<|aN r (fY r r)<|aN r (kJ r)<|aN r (bE aDQ r)<|cD (v:=aI) (us:=[aI]) (cs:=dD) (σ':=[dD]) r gA r r r r r r r r<|aG (fr':=[(6,aS)]) r r<|aH<|mS r<|sS r<|aG (fr':=[(4,aS)]) r r<|bJ ?_
   obtain rfl:=sy h10
   exact bI (rs':=[.tmp 4]) r<|bX (v:=aS) r<|bG<|aP [] r r r lr (hU mZ aC)
noncomputable def lF (p1e:Int) (eK:aX):Option aX :=
 (pO eK).bind fun x1=>cond (!x1) (some (aX.mk eK.b_ eK.at_ p1e eK.made_)) (some eK)
theorem nW {p1e:Int}{eK:aX}{z:aX} (h:lF p1e eK=some z):cR Tryz.prog 74 [.box 0 0,ci p1e] [AV.cs (eS eK)] (.any) [AV.cs (eS z)]:=by
 unfold lF at h
 refine dQ (fn:=Tryz.f74) [0,1,6] (by kernel_rfl) Tryz.func74 r (by kernel_rfl) (by kernel_rfl)<|aH<|mV (v:=aD) r<|bx h fun x1 y1 h2=>eW (v:=aB) (σ':=[dD]) [0] r (aAf y1) r r ⟨lr,trivial⟩ (hU mZ aC) r r r<|aN r (fP r)<|aG (fr':=[(0,aD),(1,aI),(6,aB)]) r r<|cN h2 r (fun b3 h3=>?_) (fun b3 h3=>?_)
 ·
  refine bA<|mV (v:=aD) r<|mI r<|aN r (kJ r)<|aN r (bE aEO r)<|cD (v:=aI) (us:=[aI]) (cs:=dD) (σ':=[dD]) r aG7 r r r r r r r r<|dT (fr':=[(0,aD),(1,aI),(6,aB)]) r ?_
  obtain rfl:=sy h3
  exact aT9 (rs':=[]) r<|bG<|aP [] r r r (AV.le_any _) (hU mZ aC)
 ·
  refine bL ?_
  obtain rfl:=sy h3
  exact aT9 (rs':=[]) r<|bG<|aP [] r r r (AV.le_any _) (hU mZ aC)
noncomputable def lW (aCM:Bool) (jA:Int) (tI:aX):Option (Bool × aX) :=
 (((gN tI).bind fun x4=>cond (cond (decide (x4=0)) (!aCM) false) ((lF 3 tI).bind fun x7=>some x7) (some tI)):Option aX).bind fun x1=>((gN x1).bind fun x10=>some ((decide (x10=0)),x1))
theorem pN {aCM:Bool}{jA:Int}{tI:aX}{z:(Bool × aX)} (h:lW aCM jA tI=some z):cR Tryz.prog 183 [.box 0 0,.c (.bool aCM)] [[.box 1 0,ci jA],AV.cs (eS tI)] (.c (.bool z.1)) [[.box 1 0,ci jA],AV.cs (eS z.2)]:=by
 unfold lW at h
 refine dQ (fn:=Tryz.f183) [0,1,4,14] (by kernel_rfl) Tryz.func183 r (by kernel_rfl) (by kernel_rfl)<|aH<|sB r<|aG (fr':=[(0,aD),(1,aB)]) r r<|bx h fun x1 y1 h2=>jR (fun j3=>x1=j3) (fun (j3:aX)=>([(0,aD)]:Fr)) (fun (j3:aX)=>([[bK,ci jA],[.c (PV.ls 1 hF j3.b_),ci j3.at_,ci j3.err_,.c (.bool j3.made_)]]:St)) ?_ ?_
 ·
  refine aH<|mV (v:=aD) r<|aN r (kJ r)<|aN r (bE aBe r)<|aN r (aJ (v:=bK) aKU r r r)<|bx y1 fun x4 y4 h5=>eW (v:=aI) (σ':=[[bK,aI],dD]) [1] r (hS y4) r r ⟨lr,trivial⟩ (hU mZ aC) r r r<|aN r (cC r r)<|mB r<|og r r r (fun u=>(bS (v:=aB) r))<|og r r r (fun u=>(fP (gx r u)))<|aN r (cB r r r (fun e=>fU e))<|aG (fr':=[(0,aD),(14,aB)]) r r<|cN h5 r (fun b6 h6=>?_) (fun b6 h6=>?_)
  ·
   exact bA<|mV (v:=aD) r<|aN r (kJ r)<|aN r (bE aBe r)<|aN r (aJ (v:=bK) aKU r r r)<|bx h6 fun x7 y7 h8=>eW (v:=_) (σ':=[[bK,aI],dD]) [1] r (nW y7) r r kU (hU mZ aC) r r r<|dT (fr':=[(0,aD),(14,aB)]) r<|kI _ (sy h8) (bH [] 2 r r r r ⟨lr,trivial⟩ (cV r (cV r aC)))
  ·
   exact bL<|kI _ (sy h6) (bH [] 2 r r r r ⟨lr,trivial⟩ (cV r (cV r aC)))
 ·
  intro j3 hj9
  subst hj9
  refine aH<|mV (v:=aD) r<|aN r (kJ r)<|aN r (bE aBe r)<|aN r (aJ (v:=bK) aKU r r r)<|bx h2 fun x10 y10 h11=>eW (v:=aI) (σ':=[[bK,aI],dD]) [1] r (hS y10) r r ⟨lr,trivial⟩ (hU mZ aC) r r r<|aN r (cC r r)<|sB r<|aG (fr':=[(4,aB)]) r r<|bJ ?_
  obtain rfl:=sy h11
  exact bI (rs':=[.tmp 4]) r<|bX (v:=aB) r<|bG<|aP [] r r r lr (cV r (hU mZ aC))
