import Derived.Test.YtnigjppddilpcaaGreatDoorGETy
import Derived.Test.YtnigjppddilpcaaGreatDoorGEF0
import Derived.Test.YtnigjppddilpcaaGreatDoorGEF1
import Derived.Test.YtnigjppddilpcaaGreatDoorGEF2
import Derived.Test.YtnigjppddilpcaaGreatDoorGEF3
namespace Go.Proofs.YtnigjppddilpcaaGreatDoor
open Go Abs
set_option maxRecDepth 100000
set_option linter.unusedVariables false
set_option linter.unusedSimpArgs false
noncomputable def uR (p0e:bW):Option Bool :=
 cond (decide (p0e.Kind=1)) ((tX p0e.Name).bind fun x2=>(gd (x2==true) (oM p0e.Key)).bind fun x4=>(gd ((cond x2 x4 false)==true) (mD p0e.N 0 4294967295)).bind fun x6=>(gd ((cond (cond x2 x4 false) x6 false)==true) (aBa p0e.Data)).bind fun x8=>some (cond (cond (cond x2 x4 false) x6 false) x8 false)) (cond (decide (p0e.Kind=2)) (some (decide (1≤p0e.N))) (cond (decide (p0e.Kind=5)) ((mD p0e.Code 1 30).bind fun x14=>some x14) (cond (decide (p0e.Kind=8)) ((mD p0e.N 1 1000).bind fun x18=>some x18) (cond (decide (p0e.Kind=11)) ((mD p0e.Code 1 4).bind fun x22=>some x22) (((cond (decide (p0e.Kind=10)) (some (decide (p0e.Kind=10))) (cond (decide (p0e.Kind=22)) (some (decide (p0e.Kind=22))) (some (decide (p0e.Kind=25))))):Option Bool).bind fun x25=>(cond x25 (some (decide (((p0e.Name).length:Int)≤4096))) (cond (decide (p0e.Kind=33)) (some (decide (((p0e.Name).length:Int)≤64))) (cond (decide (p0e.Kind=17)) ((tX p0e.Name).bind fun x36=>(gd (x36==true) (oM p0e.Key)).bind fun x38=>some (cond x36 x38 false)) (cond (decide (p0e.Kind=26)) ((oM p0e.Key).bind fun x42=>some x42) (cond (decide (p0e.Kind=20)) ((aBe p0e.Key).bind fun x46=>some x46.2) (some true)))))))))))
theorem aFK {p0e:bW}{res:Bool} (h:uR p0e=some res):cX Tryz.prog 141 [.agg (AV.cs (eM p0e))] [] (.c (.bool res)) []:=by
 unfold uR at h
 refine dR (fn:=Tryz.f141) [0,1,2,4,6,7,27,32,37,42,47,55,61,71,76] (by kernel_rfl) Tryz.func141 r (by kernel_rfl) (by kernel_rfl)<|aJ<|kP (v:=.agg aG) (n:=0) (cs:=aG) (σ':=[aG]) r r r r r<|sB r<|aH (fr':=[(1,aD)]) r r<|aX<|aJ<|aU r (bU aAU r)<|aU r (aR (v:=aI) hU r r r)<|aH (fr':=[(1,aD),(6,aI)]) r r<|cP<|aJ<|aU r (cQ r r)<|sB r<|aH (fr':=[(1,aD),(6,aI),(7,aB)]) r r<|cU h r (fun hb1 h1=>?_) (fun hb1 h1=>?_)
 ·
  refine aJ<|aU r (bU xP r)<|aU r (aR (v:=aS) rZ r r r)<|bx h1 fun x2 hx2 h3=>oN (cA (v:=aB) r (yB hx2) ⟨lr,trivial⟩ r r r)<|mB r<|og r r r (fun hc=>(bU xQ r))<|og r r r (fun hc=>(aR (v:=aS) rZ (gx r hc) r r))<|bx h3 fun x4 hx4 h5=>zG r r (fun hc=>cA (v:=aB) r (zK (dM hx4 hc)) ⟨(iA (gx r hc) lr),trivial⟩ (iO (by repeat (first | exact fU | refine bG r ?_ | refine bG (vD r) ?_ | refine bG vC ?_))) r r) ?_
  refine aU r (cS r r r (fun e=>hH e))<|mB r<|og r r r (fun hc=>(bU aAC r))<|og r r r (fun hc=>(aR (v:=aI) hU (gx r hc) r r))<|bx h5 fun x6 hx6 h7=>zG r r (fun hc=>cA (v:=aB) r (nF (dM hx6 hc)) ⟨(iA (gx r hc) lr),lr,lr,trivial⟩ (iO (by repeat (first | exact fU | refine bG r ?_ | refine bG (vD r) ?_ | refine bG vC ?_))) r r) ?_
  refine aU r (cS r r r (fun e=>hH e))<|mB r<|og r r r (fun hc=>(bU aAV r))<|og r r r (fun hc=>(eL (us:=cJ) jC (gx r hc) r r r))<|bx h7 fun x8 hx8 h9=>zG r r (fun hc=>cA (v:=aB) r (aJ7 (dM hx8 hc)) ⟨(iA (gx r hc) (cM r kR5)),trivial⟩ (iO (by repeat (first | exact fU | refine bG r ?_ | refine bG (vD r) ?_ | refine bG vC ?_))) r r) ?_
  refine aU r (cS r r r (fun e=>hH e))<|sB r<|aH (fr':=[(2,aB)]) r r<|bO<|bT<|aN ?_
  obtain rfl:=sy h9
  exact bN (rs':=[.tmp 2]) r<|cE (v:=aB) r<|bM<|aP [] r r r lr aC
 ·
  refine aJ<|aU r (cQ r r)<|sB r<|aH (fr':=[(1,aD),(6,aI),(27,aB)]) r r<|cU h1 r (fun hb11 h11=>?_) (fun hb11 h11=>?_)
  ·
   refine aJ<|aU r (bU aAC r)<|aU r (aR (v:=aI) hU r r r)<|aU r (uE r r)<|sB r<|aH (fr':=[(2,aB)]) r r<|bO<|bT<|aN ?_
   obtain rfl:=sy h11
   exact bN (rs':=[.tmp 2]) r<|cE (v:=aB) r<|bM<|aP [] r r r lr aC
  ·
   refine aJ<|aU r (cQ r r)<|sB r<|aH (fr':=[(1,aD),(6,aI),(32,aB)]) r r<|cU h11 r (fun hb13 h13=>?_) (fun hb13 h13=>?_)
   ·
    refine aJ<|aU r (bU aB7 r)<|aU r (aR (v:=aI) hU r r r)<|bx h13 fun x14 hx14 h15=>oN (cA (v:=aB) r (nF hx14) nW r r r)<|sB r<|aH (fr':=[(2,aB)]) r r<|bO<|bT<|aN ?_
    obtain rfl:=sy h15
    exact bN (rs':=[.tmp 2]) r<|cE (v:=aB) r<|bM<|aP [] r r r lr aC
   ·
    refine aJ<|aU r (cQ r r)<|sB r<|aH (fr':=[(1,aD),(6,aI),(37,aB)]) r r<|cU h13 r (fun hb17 h17=>?_) (fun hb17 h17=>?_)
    ·
     refine aJ<|aU r (bU aAC r)<|aU r (aR (v:=aI) hU r r r)<|bx h17 fun x18 hx18 h19=>oN (cA (v:=aB) r (nF hx18) nW r r r)<|sB r<|aH (fr':=[(2,aB)]) r r<|bO<|bT<|aN ?_
     obtain rfl:=sy h19
     exact bN (rs':=[.tmp 2]) r<|cE (v:=aB) r<|bM<|aP [] r r r lr aC
    ·
     refine aJ<|aU r (cQ r r)<|sB r<|aH (fr':=[(1,aD),(6,aI),(42,aB)]) r r<|cU h17 r (fun hb21 h21=>?_) (fun hb21 h21=>?_)
     ·
      refine aJ<|aU r (bU aB7 r)<|aU r (aR (v:=aI) hU r r r)<|bx h21 fun x22 hx22 h23=>oN (cA (v:=aB) r (nF hx22) nW r r r)<|sB r<|aH (fr':=[(2,aB)]) r r<|bO<|bT<|aN ?_
      obtain rfl:=sy h23
      exact bN (rs':=[.tmp 2]) r<|cE (v:=aB) r<|bM<|aP [] r r r lr aC
     ·
      obtain ⟨x25,hx25,h26⟩:=eF h21
      refine kF (fun j27=>x25=j27) (fun (j27:Bool)=>([(1,aD),(6,ci p0e.Kind),(47,.c (.bool j27))]:Fr)) (fun (j27:Bool)=>([[ci p0e.ID,ci p0e.Kind,ci p0e.Time,ci p0e.Seq,ci p0e.Ref,ci p0e.N,ci p0e.Code,.c (.str p0e.Name),.c (.str p0e.Key),ci p0e.Data.Kind,ci p0e.Data.Int,.c (.str p0e.Data.Text),.c (PV.ls 5 cF p0e.Data.Items),.c (PV.ls 1 iF p0e.Data.Keys),.c (.str p0e.Opts.Queue),ci p0e.Opts.ToStart,ci p0e.Opts.ToClose,ci p0e.Opts.Total,ci p0e.Opts.Beat,ci p0e.Opts.First,ci p0e.Opts.Coef,ci p0e.Opts.Most,ci p0e.Opts.Attempts,.c (PV.ls 1 iF p0e.Opts.Fatal)]]:St)) ?_ ?_
      ·
       refine aJ<|aU r (cQ r r)<|sB r<|aH (fr':=[(1,aD),(6,aI),(47,aB)]) r r<|cU hx25 r (fun hb28 h28=>?_) (fun hb28 h28=>?_)
       ·
        exact bI<|lB _ (sy h28) (bJ [] 1 r r r r nW (cO r aC))
       ·
        refine aJ<|aU r (cQ r r)<|sB r<|aH (fr':=[(1,aD),(6,aI),(47,aB)]) r r<|cU h28 r (fun hb29 h29=>?_) (fun hb29 h29=>?_)
        ·
         exact bI<|lB _ (sy h29) (bJ [] 1 r r r r nW (cO r aC))
        ·
         exact bA<|aU r (cQ r r)<|sB r<|dQ (fr':=[(1,aD),(6,aI),(47,aB)]) r<|lB _ (sy h29) (bJ [] 1 r r r r nW (cO r aC))
      ·
       intro j27 hj30
       subst hj30
       refine cU h26 r (fun hb31 h31=>?_) (fun hb31 h31=>?_)
       ·
        refine aJ<|aU r (bU xP r)<|aU r (aR (v:=aS) rZ r r r)<|aU r (nR zZ r)<|aU r (rU r r)<|sB r<|aH (fr':=[(2,aB)]) r r<|bO<|bT<|aN ?_
        obtain rfl:=sy h31
        exact bN (rs':=[.tmp 2]) r<|cE (v:=aB) r<|bM<|aP [] r r r lr aC
       ·
        refine aJ<|aU r (cQ r r)<|sB r<|aH (fr':=[(1,aD),(6,aI),(55,aB)]) r r<|cU h31 r (fun hb33 h33=>?_) (fun hb33 h33=>?_)
        ·
         refine aJ<|aU r (bU xP r)<|aU r (aR (v:=aS) rZ r r r)<|aU r (nR zZ r)<|aU r (rU r r)<|sB r<|aH (fr':=[(2,aB)]) r r<|bO<|bT<|aN ?_
         obtain rfl:=sy h33
         exact bN (rs':=[.tmp 2]) r<|cE (v:=aB) r<|bM<|aP [] r r r lr aC
        ·
         refine aJ<|aU r (cQ r r)<|sB r<|aH (fr':=[(1,aD),(6,aI),(61,aB)]) r r<|cU h33 r (fun hb35 h35=>?_) (fun hb35 h35=>?_)
         ·
          refine aJ<|aU r (bU xP r)<|aU r (aR (v:=aS) rZ r r r)<|bx h35 fun x36 hx36 h37=>oN (cA (v:=aB) r (yB hx36) ⟨lr,trivial⟩ r r r)<|mB r<|og r r r (fun hc=>(bU xQ r))<|og r r r (fun hc=>(aR (v:=aS) rZ (gx r hc) r r))<|bx h37 fun x38 hx38 h39=>zG r r (fun hc=>cA (v:=aB) r (zK (dM hx38 hc)) ⟨(iA (gx r hc) lr),trivial⟩ (iO (by repeat (first | exact fU | refine bG r ?_ | refine bG (vD r) ?_ | refine bG vC ?_))) r r) ?_
          refine aU r (cS r r r (fun e=>hH e))<|sB r<|aH (fr':=[(2,aB)]) r r<|bO<|bT<|aN ?_
          obtain rfl:=sy h39
          exact bN (rs':=[.tmp 2]) r<|cE (v:=aB) r<|bM<|aP [] r r r lr aC
         ·
          refine aJ<|aU r (cQ r r)<|sB r<|aH (fr':=[(1,aD),(6,aI),(71,aB)]) r r<|cU h35 r (fun hb41 h41=>?_) (fun hb41 h41=>?_)
          ·
           refine aJ<|aU r (bU xQ r)<|aU r (aR (v:=aS) rZ r r r)<|bx h41 fun x42 hx42 h43=>oN (cA (v:=aB) r (zK hx42) ⟨lr,trivial⟩ r r r)<|sB r<|aH (fr':=[(2,aB)]) r r<|bO<|bT<|aN ?_
           obtain rfl:=sy h43
           exact bN (rs':=[.tmp 2]) r<|cE (v:=aB) r<|bM<|aP [] r r r lr aC
          ·
           refine aJ<|aU r (cQ r r)<|sB r<|aH (fr':=[(1,aD),(76,aB)]) r r<|cU h41 r (fun hb45 h45=>?_) (fun hb45 h45=>?_)
           ·
            refine aJ<|aU r (bU xQ r)<|aU r (aR (v:=aS) rZ r r r)<|bx h45 fun x46 hx46 h47=>oN (cA (v:=.tup [aI,aB]) r (aJ9 hx46) ⟨lr,trivial⟩ r r r)<|mV (v:=.tup [aI,aB]) r<|aU r (aCe (v:=aI) r r)<|aU r (aCe (v:=aB) r r)<|sI r<|sB r<|aH (fr':=[(4,aB)]) r r<|aJ<|mB r<|sB r<|aH (fr':=[(2,aB)]) r r<|bO<|bT<|aN ?_
            obtain rfl:=sy h47
            exact bN (rs':=[.tmp 2]) r<|cE (v:=aB) r<|bM<|aP [] r r r lr aC
           ·
            refine bI<|dI<|dB<|aJ<|sB r<|aH (fr':=[(2,aB)]) r r<|bO ?_
            obtain rfl:=sy h45
            exact bN (rs':=[.tmp 2]) r<|cE (v:=aB) r<|bM<|aP [] r r r lr aC
noncomputable def xD (p0e:bW):Option Bool :=
 (mD p0e.Kind 1 35).bind fun x1=>(gd ((!x1)==false) (mD p0e.ID 0 2000)).bind fun x3=>(gd ((cond (!x1) true (!x3))==false) (mD p0e.Time 0 1099511627776)).bind fun x5=>(gd ((cond (cond (!x1) true (!x3)) true (!x5))==false) (zS p0e.Data)).bind fun x7=>cond (cond (cond (cond (!x1) true (!x3)) true (!x5)) true (!x7)) (some false) ((vX p0e.Kind).bind fun x11=>cond (!decide (x11=0)) ((vY p0e x11).bind fun x14=>some x14) ((aBR p0e.Kind).bind fun x17=>(uS x17 p0e).bind fun x19=>(gd (((!x19)==false)&&(x17.seq_==true)) (mD p0e.Seq 1 2000)).bind fun x21=>(gd (((cond (!x19) true (cond x17.seq_ (!x21) false))==false)&&(x17.ref_==true)) (mD p0e.Ref 1 2000)).bind fun x23=>cond (cond (cond (!x19) true (cond x17.seq_ (!x21) false)) true (cond x17.ref_ (!x23) false)) (some false) ((uR p0e).bind fun x27=>some x27)))
theorem aFg {p0e:bW}{res:Bool} (h:xD p0e=some res):cX Tryz.prog 61 [.agg (AV.cs (eM p0e))] [] (.c (.bool res)) []:=by
 unfold xD at h
 refine dR (fn:=Tryz.f61) [0,1,2,3,4,26,31,61] (by kernel_rfl) Tryz.func61 r (by kernel_rfl) (by kernel_rfl)<|aJ<|kP (v:=.agg aG) (n:=0) (cs:=aG) (σ':=[aG]) r r r r r<|sB r<|aH (fr':=[(1,aD)]) r r<|aX<|aJ<|aU r (bU aAU r)<|aU r (aR (v:=aI) hU r r r)<|bx h fun x1 hx1 h2=>oN (cA (v:=aB) r (nF hx1) nW r r r)<|aU r (gX r)<|mB r<|og r r r (fun hc=>(bU aG5 r))<|og r r r (fun hc=>(aR (v:=aI) hU (gx r hc) r r))<|bx h2 fun x3 hx3 h4=>zG r r (fun hc=>cA (v:=aB) r (nF (dM hx3 hc)) ⟨(iA (gx r hc) lr),lr,lr,trivial⟩ (iO (by repeat (first | exact fU | refine bG r ?_ | refine bG (vD r) ?_ | refine bG vC ?_))) r r) ?_
 refine og r r r (fun hc=>(gX (gx r hc)))<|aU r (dK r r r (fun e=>hH e))<|mB r<|og r r r (fun hc=>(bU aG6 r))<|og r r r (fun hc=>(aR (v:=aI) hU (gx r hc) r r))<|bx h4 fun x5 hx5 h6=>zG r r (fun hc=>cA (v:=aB) r (nF (dM hx5 hc)) ⟨(iA (gx r hc) lr),lr,lr,trivial⟩ (iO (by repeat (first | exact fU | refine bG r ?_ | refine bG (vD r) ?_ | refine bG vC ?_))) r r) ?_
 refine og r r r (fun hc=>(gX (gx r hc)))<|aU r (dK r r r (fun e=>hH e))<|mB r<|og r r r (fun hc=>(bU aAV r))<|og r r r (fun hc=>(eL (us:=cJ) jC (gx r hc) r r r))<|bx h6 fun x7 hx7 h8=>zG r r (fun hc=>cA (v:=aB) r (aFh (dM hx7 hc)) ⟨(iA (gx r hc) (cM r kR5)),trivial⟩ (iO (by repeat (first | exact fU | refine bG r ?_ | refine bG (vD r) ?_ | refine bG vC ?_))) r r) ?_
 refine og r r r (fun hc=>(gX (gx r hc)))<|aU r (dK r r r (fun e=>hH e))<|aH (fr':=[(1,aD),(26,aB)]) r r<|cU h8 r (fun hb9 h9=>?_) (fun hb9 h9=>?_)
 ·
  refine aJ<|sB r<|aH (fr':=[(2,aB)]) r r<|bO<|aN ?_
  obtain rfl:=sy h9
  exact bN (rs':=[.tmp 2]) r<|cE (v:=aB) r<|bM<|aP [] r r r lr aC
 ·
  refine bI<|dB<|aX<|aJ<|aU r (bU aAU r)<|aU r (aR (v:=aI) hU r r r)<|bx h9 fun x11 hx11 h12=>oN (cA (v:=aI) r (aGv hx11) ⟨lr,trivial⟩ r r r)<|sI r<|aH (fr':=[(1,aD),(3,aI)]) r r<|aJ<|mI r<|aU r (iZ r r)<|aH (fr':=[(1,aD),(3,aI),(31,aB)]) r r<|cU h12 r (fun hb13 h13=>?_) (fun hb13 h13=>?_)
  ·
   refine aJ<|aU r (eL (us:=aG) zJ r r r r)<|mI r<|bx h13 fun x14 hx14 h15=>oN (cA (v:=aB) r (aGw hx14) ⟨(cM r aEg),lr,trivial⟩ r r r)<|sB r<|aH (fr':=[(2,aB)]) r r<|bO<|aN ?_
   obtain rfl:=sy h15
   exact bN (rs':=[.tmp 2]) r<|cE (v:=aB) r<|bM<|aP [] r r r lr aC
  ·
   refine bI<|dB<|aJ<|aU r (bU aAU r)<|aU r (aR (v:=aI) hU r r r)<|bx h13 fun x17 hx17 h18=>oN (cA (v:=.agg cW) r (aLG hx17) ⟨lr,trivial⟩ r r r)<|jV (n:=1) (cs:=cW) (σ':=[aG,cW]) aRX r r r<|cN (v:=.agg cW) (us:=cW) (cs:=cW) (σ':=[aG,cW]) r rY r r r r r r r r<|aH (fr':=[(1,aD),(4,bD)]) r r<|aX<|aJ<|aU r (eL (us:=cW) rY r r r r)<|aU r (eL (us:=aG) zJ r r r r)<|bx h18 fun x19 hx19 h20=>oN (cA (v:=aB) r (aFL hx19) ⟨(cM r kR7),(cM r aEg),trivial⟩ r r r)<|aU r (gX r)<|mB r<|og r r r (fun hc=>(bU aPl r))<|og r r r (fun hc=>(aR (v:=aB) tv4 (gx r hc) r r))<|og r r r (fun hc=>(bK (v:=aB) (gx r hc)))<|hZ r r (fun hc=>iI r (bU aCA r))<|hZ r r (fun hc=>iI r (aR (v:=aI) hU (gx r hc) r r))<|bx h20 fun x21 hx21 h22=>hZ r r (fun hc=>cA (v:=aB) r (nF (dM hx21 hc)) ⟨(iA (gx r hc) lr),lr,lr,trivial⟩ (iO (by repeat (first | exact fU | refine bG r ?_ | refine bG (vD r) ?_ | refine bG vC ?_))) r r) ?_
   refine hZ r r (fun hc=>iI r (gX (gx r hc)))<|og r r r (fun hc=>(cS (gx r hc) r r (fun e=>vF hc (hH e))))<|aU r (dK r r r (fun e=>hH e))<|mB r<|og r r r (fun hc=>(bU aPm r))<|og r r r (fun hc=>(aR (v:=aB) tv4 (gx r hc) r r))<|og r r r (fun hc=>(bK (v:=aB) (gx r hc)))<|hZ r r (fun hc=>iI r (bU aCB r))<|hZ r r (fun hc=>iI r (aR (v:=aI) hU (gx r hc) r r))<|bx h22 fun x23 hx23 h24=>hZ r r (fun hc=>cA (v:=aB) r (nF (dM hx23 hc)) ⟨(iA (gx r hc) lr),lr,lr,trivial⟩ (iO (by repeat (first | exact fU | refine bG r ?_ | refine bG (vD r) ?_ | refine bG vC ?_))) r r) ?_
   refine hZ r r (fun hc=>iI r (gX (gx r hc)))<|og r r r (fun hc=>(cS (gx r hc) r r (fun e=>vF hc (hH e))))<|aU r (dK r r r (fun e=>hH e))<|aH (fr':=[(1,aD),(61,aB)]) r r<|cU h24 r (fun hb25 h25=>?_) (fun hb25 h25=>?_)
   ·
    refine aJ<|sB r<|aH (fr':=[(2,aB)]) r r<|bO<|aN ?_
    obtain rfl:=sy h25
    exact bN (rs':=[.tmp 2]) r<|cE (v:=aB) r<|bM<|aP [] r r r lr aC
   ·
    refine bI<|dB<|aJ<|aU r (eL (us:=aG) zJ r r r r)<|bx h25 fun x27 hx27 h28=>oN (cA (v:=aB) r (aFK hx27) ⟨(cM r aEg),trivial⟩ r r r)<|sB r<|aH (fr':=[(2,aB)]) r r<|bO ?_
    obtain rfl:=sy h28
    exact bN (rs':=[.tmp 2]) r<|cE (v:=aB) r<|bM<|aP [] r r r lr aC
noncomputable def vE  (s11:(Int × Int)):Option (dN (Int × Int) Int) :=
 cond (decide (s11.2<8)) (some (dN.next ((kL .xor .u32 (Int.fdiv s11.1 (2 ^ (min (Int.toNat 1) (IntKind.bits .u32)))) (IntKind.wrap .u32 (3988292384*(kL .and .u32 s11.1 1)))),(IntKind.wrap .i64 (s11.2+1))))) (some (dN.out s11.1))
noncomputable def aCj (p0b:(List UInt8)) (s4:(Int × Int)):Option (dN (Int × Int) Int) :=
 cond (decide (s4.2<((p0b).length:Int))) ((lO p0b s4.2).bind fun x6=>(fI (vE) (((kL .xor .u32 s4.1 (IntKind.wrap .u32 ((x6).toNat:Int))),0))).bind fun x8=>(some (dN.next (x8,(IntKind.wrap .i64 (s4.2+1)))))) (some (dN.out s4.1))
noncomputable def aEf (p0b:(List UInt8)):Option Int :=
 (fI (aCj p0b) ((4294967295,0))).bind fun x1=>(some (IntKind.wrap .i64 (kL .xor .u32 4294967295 x1)))
theorem aOM {p0b:(List UInt8)}{res:Int} (h:aEf p0b=some res):cX Tryz.prog 142 [.c (PV.ls 1 gW p0b)] [] (ci res) []:=by
 unfold aEf at h
 refine dR (fn:=Tryz.f142) [0,2,3,5,6,7,8,9,10,17,18] (by kernel_rfl) Tryz.func142 r (by kernel_rfl) (by kernel_rfl)<|aJ<|sI r<|aH (fr':=[(0,aL)]) r r<|aJ<|sI r<|aH (fr':=[(0,aL),(3,aI)]) r r<|aX<|aJ<|mL r<|aU r (gT aAM (eA r))<|mI r<|aH (fr':=[(3,aI),(7,aL),(8,aI),(9,aI)]) r r<|bx h fun x1 hx1 h2=>hF lP (fun j3=>x1=j3) (fun (j3:Int)=>([(3,.c (.int .u32 j3))]:Fr)) (fun (j3:Int)=>([]:St)) ?_ ?_
 ·
  refine cP<|gY _ (fun (s4:(Int × Int))=>([(3,.c (.int .u32 s4.1)),(7,.c (PV.ls 1 gW p0b)),(8,ci ((p0b).length:Int)),(9,ci s4.2)]:Fr)) (fun (s4:(Int × Int))=>([]:St)) hx1 (bJ [] 0 r r r r kL4 aC) ?_
  intro s4 st4 hs4 ho4
  unfold aCj at hs4
  refine aJ<|aU r (fY r r)<|aH (fr':=[(3,aI),(7,aL),(8,aI),(9,aI),(10,aB)]) r r<|aX<|cU hs4 r (fun hb5 h5=>?_) (fun hb5 h5=>?_)
  ·
   refine bI<|dB<|aX<|cP<|aX<|bA<|bx h5 fun x6 hx6 h7=>aU r (lC (cs:=[PV.int _ _]) yW (eA r) r hx6 r)<|aU r (fO (p:=PV.int _ _) tv5 r r)<|sI r<|aH (fr':=[(3,aI),(5,aI),(7,aL),(8,aI),(9,aI)]) r r<|aJ<|mI r<|mI r<|aU r (uV tk5 aPs r)<|aU r (aKE r r)<|sI r<|aH (fr':=[(3,aI),(7,aL),(8,aI),(9,aI)]) r r<|aX<|bA<|mI r<|aH (fr':=[(3,aI),(7,aL),(8,aI),(9,aI),(17,aI)]) r r<|bx h7 fun x8 hx8 h9=>hF (aU3 lP) (fun j10=>x8=j10) (fun (j10:Int)=>([(3,.c (.int .u32 j10)),(7,.c (PV.ls 1 gW p0b)),(8,ci ((p0b).length:Int)),(9,ci s4.2)]:Fr)) (fun (j10:Int)=>([]:St)) ?_ ?_
   ·
    refine cP<|gY _ (fun (s11:(Int × Int))=>([(3,.c (.int .u32 s11.1)),(7,.c (PV.ls 1 gW p0b)),(8,ci ((p0b).length:Int)),(9,ci s4.2),(17,ci s11.2)]:Fr)) (fun (s11:(Int × Int))=>([]:St)) hx8 (bJ [] 0 r r r r kL5 aC) ?_
    intro s11 st11 hs11 ho11
    unfold vE at hs11
    refine aJ<|aU r (fY r r)<|aH (fr':=[(3,aI),(7,aL),(8,aI),(9,aI),(17,aI),(18,aB)]) r r<|aX<|cU hs11 r (fun hb12 h12=>?_) (fun hb12 h12=>?_)
    ·
     exact bI<|dB<|aX<|cP<|aJ<|mI r<|aU r (aRx r r)<|sI r<|aH (fr':=[(3,aI),(6,aI),(7,aL),(8,aI),(9,aI),(17,aI)]) r r<|bA<|mI r<|aU r (aIV r r (by decide))<|mI r<|aU r (aMP r r)<|aU r (aKE r r)<|sI r<|dQ (fr':=[(3,aI),(6,aI),(7,aL),(8,aI),(9,aI),(17,aI)]) r<|dI<|dB<|bA<|aU r (fX r r)<|mI r<|dQ (fr':=[(3,aI),(6,aI),(7,aL),(8,aI),(9,aI),(17,aI)]) r<|zY _ (sy h12) (bJ [] 0 r r r r kL5 aC)
    ·
     refine iE<|cZ<|cZ<|fT ?_
     have h13:=eS h12 ho11
     exact lB _ (sy h13) (bJ [] 0 r r r r kL4 aC)
   ·
    intro j10 hj14
    subst hj14
    exact dI<|dB<|bA<|aU r (fX r r)<|mI r<|dQ (fr':=[(3,aI),(7,aL),(8,aI),(9,aI)]) r<|zY _ (sy h9) (bJ [] 0 r r r r kL4 aC)
  ·
   refine iE<|cZ<|cZ<|fT ?_
   have h15:=eS h5 ho4
   exact lB _ (sy h15) (bJ [] 0 r r r r ⟨lr,trivial⟩ aC)
 ·
  intro j3 hj16
  subst hj16
  refine dB<|aJ<|mI r<|aU r (aPf (m:=4294967295) r r)<|aU r (uV aPs tk3 r)<|sI r<|aH (fr':=[(2,aI)]) r r<|bO ?_
  obtain rfl:=sy h2
  exact bN (rs':=[.tmp 2]) r<|cE (v:=aI) r<|bM<|aP [] r r r lr aC
noncomputable def pQ (p0b:(List UInt8)):Option aFi :=
 (aEf p0b).bind fun x1=>some (aFi.mk (IntKind.wrap .u8 (Int.fdiv x1 (2 ^ (min (Int.toNat 24) (IntKind.bits .i64))))) (IntKind.wrap .u8 (Int.fdiv x1 (2 ^ (min (Int.toNat 16) (IntKind.bits .i64))))) (IntKind.wrap .u8 (Int.fdiv x1 (2 ^ (min (Int.toNat 8) (IntKind.bits .i64))))) (IntKind.wrap .u8 x1))
theorem aBn {p0b:(List UInt8)}{res:aFi} (h:pQ p0b=some res):cX Tryz.prog 62 [.c (PV.ls 1 gW p0b)] [] (.agg (AV.cs (aQo res))) []:=by
 unfold pQ at h
 refine dR (fn:=Tryz.f62) [0,2,3] (by kernel_rfl) Tryz.func62 r (by kernel_rfl) (by kernel_rfl)<|aJ<|jV (n:=0) (cs:=aAb) (σ':=[aAb]) aUP r r r<|aH (fr':=[(0,aL),(2,aD)]) r r<|aJ<|mL r<|bx h fun x1 hx1 h2=>oN (cA (v:=aI) r (aOM hx1) ⟨lr,trivial⟩ r r r)<|sI r<|aH (fr':=[(2,aD),(3,aI)]) r r<|aJ<|mI r<|aU r (aIV r r (by decide))<|aU r (uV tk3 tk5 r)<|mI r<|aU r (aIV r r (by decide))<|aU r (uV tk3 tk5 r)<|mI r<|aU r (aIV r r (by decide))<|aU r (uV tk3 tk5 r)<|mI r<|aU r (uV tk3 tk5 r)<|aU r (aUv (cs:=aAb) (rows:=[[_],[_],[_],[_]]) [0] aUN aUP r r r)<|cN (v:=.agg aAb) (us:=aAb) (cs:=aAb) (σ':=[aAb]) r aRW r r r r r r r r<|aH (fr':=[(2,aD)]) r r<|bO ?_
 obtain rfl:=sy h2
 exact bN (rs':=[.cell 2 81]) r<|eX (us:=aAb) (cs:=aAb) aRW r r r r<|bM<|aP [] r r r (cM r sG) aC
noncomputable def vI (p0l:(List bW)) (s8:((List UInt8) × Int)):Option (dN ((List UInt8) × Int) (Fl ((List UInt8) × Int) (List UInt8))) :=
 cond (decide (s8.2<((p0l).length:Int))) ((lO p0l s8.2).bind fun x10=>(xD x10).bind fun x12=>cond (!x12) (some (dN.out (Fl.done (([]:(List UInt8)),11)))) ((uT ([]:List UInt8) x10).bind fun x18=>(app 1 s8.1 x18).bind fun x20=>some (dN.next (x20,(IntKind.wrap .i64 (s8.2+1)))))) (some (dN.out (Fl.go s8.1)))
noncomputable def oF (p0l:(List bW)):Option ((List UInt8) × Int) :=
 cond (decide (2000<((p0l).length:Int))) (some (([]:(List UInt8)),6)) ((kN ([]:List UInt8) ((p0l).length:Int)).bind fun x3=>(fI (vI p0l) ((x3,0))).bind fun x5=>Fl.next x5 (fun j7=>((pQ j7).bind fun x24=>(vG x24.E0).bind fun x26=>(vG x24.E1).bind fun x28=>(vG x24.E2).bind fun x30=>(vG x24.E3).bind fun x32=>(app 1 j7 ([x26,x28,x30,x32]:List UInt8)).bind fun x34=>some (x34,0))))
theorem wX {p0l:(List bW)}{res:((List UInt8) × Int)} (h:oF p0l=some res):cX Tryz.prog 20 [.c (PV.ls 24 eM p0l)] [] (.tup [AV.os 0 1 gW res.1,ci res.2]) []:=by
 unfold oF at h
 refine dR (fn:=Tryz.f20) [0,2,3,4,6,7,10,14,15,16,17,22] (by kernel_rfl) Tryz.func20 r (by kernel_rfl) (by kernel_rfl)<|aJ<|sV (v:=AV.nil) r<|sI r<|aH (fr':=[(0,aL)]) r r<|aX<|aJ<|mL r<|aU r (gT aLC (eA r))<|aU r (qW r r)<|aH (fr':=[(0,aL),(10,aB)]) r r<|cU h r (fun hb1 h1=>?_) (fun hb1 h1=>?_)
 ·
  refine aJ<|sV (v:=AV.nil) r<|sI r<|aH (fr':=[(2,AV.nil),(3,aI)]) r r<|bO<|aN ?_
  obtain rfl:=sy h1
  exact bN (rs':=[.tmp 2,.tmp 3]) r<|cE (v:=AV.nil) r<|cE (v:=aI) r<|bM<|aP [1000000] r r r (tL r ⟨(wK r),lr,trivial⟩) aC
 ·
  refine bI<|dB<|aJ<|mL r<|aU r (gT aLC (eA r))<|bx h1 fun x3 hx3 h4=>oN (cA (v:=aO) r (lE hx3) ⟨aAh,lr,trivial⟩ r r r)<|sV (v:=aO) r<|aH (fr':=[(0,aL),(4,aO)]) r r<|aX<|aJ<|mL r<|aU r (gT aLC (eA r))<|mI r<|aH (fr':=[(4,aO),(14,aL),(15,aI),(16,aI)]) r r<|bx h4 fun x5 hx5 h6=>hF lP (fun j7=>x5=Fl.go j7) (fun (j7:(List UInt8))=>([(4,AV.os 0 1 gW j7)]:Fr)) (fun (j7:(List UInt8))=>([]:St)) ?_ ?_
  ·
   refine cP<|gY _ (fun (s8:((List UInt8) × Int))=>([(4,AV.os 0 1 gW s8.1),(14,.c (PV.ls 24 eM p0l)),(15,ci ((p0l).length:Int)),(16,ci s8.2)]:Fr)) (fun (s8:((List UInt8) × Int))=>([]:St)) hx5 (bJ [208] 0 r r r r kL4 aC) ?_
   intro s8 st8 hs8 ho8
   unfold vI at hs8
   refine aJ<|aU r (fY r r)<|aH (fr':=[(4,aO),(14,aL),(15,aI),(16,aI),(17,aB)]) r r<|aX<|cU hs8 r (fun hb9 h9=>?_) (fun hb9 h9=>?_)
   ·
    refine bI<|dB<|aX<|cP<|aX<|bA<|bx h9 fun x10 hx10 h11=>aU r (lC (cs:=[PV.int _ _,PV.int _ _,PV.int _ _,PV.int _ _,PV.int _ _,PV.int _ _,PV.int _ _,PV.str _,PV.str _,PV.int _ _,PV.int _ _,PV.str _,PV.ls _ _ _,PV.ls _ _ _,PV.str _,PV.int _ _,PV.int _ _,PV.int _ _,PV.int _ _,PV.int _ _,PV.int _ _,PV.int _ _,PV.int _ _,PV.ls _ _ _]) aJ1 (eA r) r hx10 r)<|aU r (nL (us:=[PV.int _ _,PV.int _ _,PV.int _ _,PV.int _ _,PV.int _ _,PV.int _ _,PV.int _ _,PV.str _,PV.str _,PV.int _ _,PV.int _ _,PV.str _,PV.ls _ _ _,PV.ls _ _ _,PV.str _,PV.int _ _,PV.int _ _,PV.int _ _,PV.int _ _,PV.int _ _,PV.int _ _,PV.int _ _,PV.int _ _,PV.ls _ _ _]) zJ r r r)<|jV (n:=0) (cs:=aE) (σ':=[aE]) aLE r r r<|cN (v:=.agg aG) (us:=aG) (cs:=aE) (σ':=[aG]) r zJ r r r r r r r r<|aH (fr':=[(4,aO),(6,aD),(14,aL),(15,aI),(16,aI)]) r r<|aX<|aJ<|aU r (eL (us:=aG) zJ r r r r)<|bx h11 fun x12 hx12 h13=>oN (cA (v:=aB) r (aFg hx12) ⟨(cM r aEg),trivial⟩ r r r)<|aU r (gX r)<|aH (fr':=[(4,aO),(6,aD),(14,aL),(15,aI),(16,aI),(22,aB)]) r r<|cU h13 r (fun hb14 h14=>?_) (fun hb14 h14=>?_)
    ·
     refine aJ<|sV (v:=AV.nil) r<|sI r<|aH (fr':=[(2,AV.nil),(3,aI)]) r r<|bO<|aN<|bT<|aN<|aN<|bT<|aN<|aN ?_
     have h15:=eS h14 ho8
     have h16:=gI h15 h6
     obtain rfl:=sy h16
     exact bN (rs':=[.tmp 2,.tmp 3]) r<|cE (v:=AV.nil) r<|cE (v:=aI) r<|bM<|aP [1000000] r r r (tL r ⟨(wK r),lr,trivial⟩) aC
    ·
     exact bI<|dB<|bA<|mV (v:=aO) r<|aU r (eL (us:=aG) zJ r r r r)<|bx h14 fun x18 hx18 h19=>oN (cA (v:=aO) r (aFM hx18) ⟨aAh,(cM r aEg),trivial⟩ r r r)<|bx h19 fun x20 hx20 h21=>aCn (row:=gW) yW r aAM r (nB r) (fun _=>r) hx20<|sV (v:=aO) r<|dQ (fr':=[(4,aO),(6,aD),(14,aL),(15,aI),(16,aI),(22,aB)]) r<|dI<|dB<|bA<|aU r (fX r r)<|mI r<|dQ (fr':=[(4,aO),(6,aD),(14,aL),(15,aI),(16,aI),(22,aB)]) r<|zY _ (sy h21) (bJ [416] 0 r r r r kL4 aC)
   ·
    refine iE<|cZ<|cZ<|fT ?_
    have h22:=eS h9 ho8
    exact lB _ (sy h22) (bJ [0] 0 r r r r ⟨lr,trivial⟩ aC)
  ·
   intro j7 hj23
   have h23:=nY hj23 h6
   refine dB<|aJ<|mV (v:=aO) r<|bx h23 fun x24 hx24 h25=>oN (cA (v:=.agg aAb) r (aBn hx24) ⟨lr,trivial⟩ r r r)<|jV (n:=0) (cs:=aAb) (σ':=[aAb]) aUP r r r<|cN (v:=.agg aAb) (us:=aAb) (cs:=aAb) (σ':=[aAb]) r aRW r r r r r r r r<|aH (fr':=[(4,aO),(7,aD)]) r r<|aJ<|mV (v:=aO) r<|aU r (aUB aUN r) ?_
   obtain ⟨x26,hx26,h27⟩:=eF h25
   obtain ⟨x28,hx28,h29⟩:=eF h27
   obtain ⟨x30,hx30,h31⟩:=eF h29
   obtain ⟨x32,hx32,h33⟩:=eF h31
   obtain ⟨x34,hx34,h35⟩:=eF h33
   refine aUq (row:=gW) (ys:=([x26,x28,x30,x32]:List UInt8)) (cs:=aAb) (us:=aAb) yW r aAM r r r r r (aPx hx26 (aPx hx28 (aPx hx30 (aPx hx32 aUV)))) (fun _=>r) hx34<|sV (v:=aO) r<|sI r<|aH (fr':=[(2,aO),(3,aI)]) r r<|bO ?_
   obtain rfl:=sy h35
   exact bN (rs':=[.tmp 2,.tmp 3]) r<|cE (v:=aO) r<|cE (v:=aI) r<|bM<|aP [512] r r r (tL r kR) aC
noncomputable def yC (p0b:(List UInt8)):Option aM :=
 (lA p0b).bind fun x1=>some (aM.mk x1 0 0 true)
theorem aHt {p0b:(List UInt8)}{res:aM} (h:yC p0b=some res):cX Tryz.prog 25 [.c (PV.ls 1 gW p0b)] [] (.box 0 0) [AV.cs (fL res)]:=by
 unfold yC at h
 refine dR (fn:=Tryz.f25) [0,2] (by kernel_rfl) Tryz.func25 r (by kernel_rfl) (by kernel_rfl)<|aJ<|sV (v:=.nilptr) r<|aH (fr':=[(0,aL)]) r r<|aJ<|mL r<|bx h fun x1 hx1 h2=>oN (cA (v:=aO) r (qG hx1) ⟨lr,trivial⟩ r r r)<|aU r (fM (cs:=[aO,aI,aI,aB]) aWK r)<|kP (v:=.agg [aO,aI,aI,aB]) (n:=0) (cs:=[aO,aI,aI,aB]) (σ':=[[aO,aI,aI,aB]]) r r r r r<|sV (v:=aD) r<|aH (fr':=[(2,aD)]) r r<|bO ?_
 obtain rfl:=sy h2
 exact bN (rs':=[.tmp 2]) r<|cE (v:=aD) r<|bM<|aO4 (off:=0) (j:=0) r r r r r (fE sG aC)
noncomputable def gP (dA:aM):Option Int :=
 cond (!dA.made_) (some 1) (some dA.err_)
theorem jF {dA:aM}{res:Int} (h:gP dA=some res):cX Tryz.prog 29 [.box 0 0] [AV.cs (fL dA)] (ci res) [AV.cs (fL dA)]:=by
 unfold gP at h
 refine dR (fn:=Tryz.f29) [0,2,11] (by kernel_rfl) Tryz.func29 r (by kernel_rfl) (by kernel_rfl)<|aJ<|sI r<|aH (fr':=[(0,aD)]) r r<|aX<|aJ<|mV (v:=aD) r<|aU r (aGW aTt r r)<|mB r<|nK r r r<|mV (v:=aD) r<|nK r r r<|aU r (iV r)<|nK r r r<|aU r (bU aRT r)<|nK r r r<|aU r (aR (v:=aB) tv4 r r r)<|nK r r r<|aU r (gX r)<|aU r (sN r r r)<|aH (fr':=[(0,aD),(11,aB)]) r r<|cU h r (fun hb1 h1=>?_) (fun hb1 h1=>?_)
 ·
  refine aJ<|sI r<|aH (fr':=[(2,aI)]) r r<|bO<|aN ?_
  obtain rfl:=sy h1
  exact bN (rs':=[.tmp 2]) r<|cE (v:=aI) r<|bM<|aP [] r r r lr (cO r aC)
 ·
  refine bI<|dB<|aJ<|mV (v:=aD) r<|aU r (iV r)<|aU r (bU aEt r)<|aU r (aR (v:=aI) aJm r r r)<|sI r<|aH (fr':=[(2,aI)]) r r<|bO ?_
  obtain rfl:=sy h1
  exact bN (rs':=[.tmp 2]) r<|cE (v:=aI) r<|bM<|aP [] r r r lr (cO r aC)
noncomputable def oO (dA:aM):Option Bool :=
 some (cond (!dA.made_) true (!decide (dA.err_=0)))
theorem vU {dA:aM}{res:Bool} (h:oO dA=some res):cX Tryz.prog 79 [.box 0 0] [AV.cs (fL dA)] (.c (.bool res)) [AV.cs (fL dA)]:=by
 unfold oO at h
 refine dR (fn:=Tryz.f79) [0,2] (by kernel_rfl) Tryz.func79 r (by kernel_rfl) (by kernel_rfl)<|aJ<|sB r<|aH (fr':=[(0,aD)]) r r<|aJ<|mV (v:=aD) r<|aU r (aGW aTt r r)<|mB r<|nK r r r<|mV (v:=aD) r<|nK r r r<|aU r (iV r)<|nK r r r<|aU r (bU aRT r)<|nK r r r<|aU r (aR (v:=aB) tv4 r r r)<|nK r r r<|aU r (gX r)<|aU r (sN r r r)<|mB r<|og r r r (fun hc=>(bK (v:=aD) r))<|og r r r (fun hc=>(iV (gx r hc)))<|og r r r (fun hc=>(bU aEt (gx r hc)))<|og r r r (fun hc=>(aR (v:=aI) aJm (gx r hc) r r))<|og r r r (fun hc=>(iZ (gx r hc) r))<|aU r (dK r r r (fun e=>hH e))<|sB r<|aH (fr':=[(2,aB)]) r r<|bO ?_
 obtain rfl:=sy h
 exact bN (rs':=[.tmp 2]) r<|cE (v:=aB) r<|bM<|aP [] r r r lr (cO r aC)
noncomputable def vV (dA:aM) (qO:Int) (nC:Int) (s10:(Int × Int)):Option (dN (Int × Int) (Fl (Int × aM) Unit)) :=
 cond (decide (s10.2<10)) (cond (decide ((((List.drop (Int.toNat dA.at_) dA.b_)).length:Int)≤s10.2)) (some (dN.out (Fl.done (0,(aM.mk dA.b_ dA.at_ 4 dA.made_))))) ((lO (List.drop (Int.toNat dA.at_) dA.b_) s10.2).bind fun x16=>(nn (IntKind.wrap .i64 (7*s10.2))).bind fun x18=>cond (decide (128≤((x16).toNat:Int))) (some (dN.next ((kL .or .u64 s10.1 (IntKind.wrap .u64 ((IntKind.wrap .u64 (kL .and .u8 ((x16).toNat:Int) 127))*2 ^ (min (Int.toNat (IntKind.wrap .i64 (7*s10.2))) (IntKind.bits .u64))))),(IntKind.wrap .i64 (s10.2+1))))) (cond (cond (cond (decide (0<s10.2)) (decide (((x16).toNat:Int)=0)) false) true (cond (decide (s10.2=9)) (decide (1<((x16).toNat:Int))) false)) (some (dN.out (Fl.done (0,(aM.mk dA.b_ dA.at_ 3 dA.made_))))) (cond (cond (decide ((kL .xor .i64 (IntKind.wrap .i64 (Int.fdiv (kL .or .u64 s10.1 (IntKind.wrap .u64 ((IntKind.wrap .u64 (kL .and .u8 ((x16).toNat:Int) 127))*2 ^ (min (Int.toNat (IntKind.wrap .i64 (7*s10.2))) (IntKind.bits .u64))))) (2 ^ (min (Int.toNat 1) (IntKind.bits .u64))))) (IntKind.wrap .i64 (0 - (IntKind.wrap .i64 (kL .and .u64 (kL .or .u64 s10.1 (IntKind.wrap .u64 ((IntKind.wrap .u64 (kL .and .u8 ((x16).toNat:Int) 127))*2 ^ (min (Int.toNat (IntKind.wrap .i64 (7*s10.2))) (IntKind.bits .u64))))) 1)))))<qO)) true (decide (nC<(kL .xor .i64 (IntKind.wrap .i64 (Int.fdiv (kL .or .u64 s10.1 (IntKind.wrap .u64 ((IntKind.wrap .u64 (kL .and .u8 ((x16).toNat:Int) 127))*2 ^ (min (Int.toNat (IntKind.wrap .i64 (7*s10.2))) (IntKind.bits .u64))))) (2 ^ (min (Int.toNat 1) (IntKind.bits .u64))))) (IntKind.wrap .i64 (0 - (IntKind.wrap .i64 (kL .and .u64 (kL .or .u64 s10.1 (IntKind.wrap .u64 ((IntKind.wrap .u64 (kL .and .u8 ((x16).toNat:Int) 127))*2 ^ (min (Int.toNat (IntKind.wrap .i64 (7*s10.2))) (IntKind.bits .u64))))) 1)))))))) (some (dN.out (Fl.done (0,(aM.mk dA.b_ (IntKind.wrap .i64 (dA.at_+(IntKind.wrap .i64 (s10.2+1)))) 14 dA.made_))))) (some (dN.out (Fl.done ((kL .xor .i64 (IntKind.wrap .i64 (Int.fdiv (kL .or .u64 s10.1 (IntKind.wrap .u64 ((IntKind.wrap .u64 (kL .and .u8 ((x16).toNat:Int) 127))*2 ^ (min (Int.toNat (IntKind.wrap .i64 (7*s10.2))) (IntKind.bits .u64))))) (2 ^ (min (Int.toNat 1) (IntKind.bits .u64))))) (IntKind.wrap .i64 (0 - (IntKind.wrap .i64 (kL .and .u64 (kL .or .u64 s10.1 (IntKind.wrap .u64 ((IntKind.wrap .u64 (kL .and .u8 ((x16).toNat:Int) 127))*2 ^ (min (Int.toNat (IntKind.wrap .i64 (7*s10.2))) (IntKind.bits .u64))))) 1))))),(aM.mk dA.b_ (IntKind.wrap .i64 (dA.at_+(IntKind.wrap .i64 (s10.2+1)))) dA.err_ dA.made_))))))))) (some (dN.out (Fl.go ())))
noncomputable def eC (qO:Int) (nC:Int) (dA:aM):Option (Int × aM) :=
 (oO dA).bind fun x1=>cond x1 (some (0,dA)) ((aNf dA.b_ dA.at_).bind fun x5=>(fI (vV dA qO nC) ((0,0))).bind fun x7=>Fl.next x7 (fun j9=>(some (0,(aM.mk dA.b_ dA.at_ 3 dA.made_)))))
theorem jG {qO:Int}{nC:Int}{dA:aM}{res:(Int × aM)} (h:eC qO nC dA=some res):cX Tryz.prog 64 [.box 0 0,ci qO,ci nC] [AV.cs (fL dA)] (ci res.1) [AV.cs (fL res.2)]:=by
 unfold eC at h
 refine dR (fn:=Tryz.f64) [0,1,2,6,7,8,9,10,11,13,23,24,29,46,60,88] (by kernel_rfl) Tryz.func64 r (by kernel_rfl) (by kernel_rfl)<|aJ<|sI r<|aH (fr':=[(0,aD),(1,aI),(2,aI)]) r r<|aX<|aJ<|mV (v:=aD) r<|bx h fun x1 hx1 h2=>dP (v:=aB) (σ':=[eG]) [0] r (vU hx1) r r ⟨lr,trivial⟩ (fE sG aC) r r r<|aH (fr':=[(0,aD),(1,aI),(2,aI),(13,aB)]) r r<|cU h2 r (fun hb3 h3=>?_) (fun hb3 h3=>?_)
 ·
  refine aJ<|sI r<|aH (fr':=[(6,aI)]) r r<|bO<|aN ?_
  obtain rfl:=sy h3
  exact bN (rs':=[.tmp 6]) r<|cE (v:=aI) r<|bM<|aP [] r r r lr (fE sG aC)
 ·
  refine bI<|dB<|aX<|lJ [.q 0,.q 1,.q 2,.q 3,.q 4,.q 5,.q 6,.q 7,.q 8,.n 9 []] [(some 14,[0]),(some 15,[14]),(some 16,[15]),(some 17,[16]),(some 18,[0]),(some 19,[18]),(some 20,[19]),(some 21,[20]),(some 22,[17,21]),(some 7,[22])] [0,1,3,7,0,16,48,112,255,511] (by kernel_rfl)<|dq r r (bK (v:=aD) r)<|dq r r (iV r)<|dq r r (bU aJi r)<|dq r r (aR (v:=aL) aEu r r r)<|dq r r (bK (v:=aD) r)<|dq r r (iV r)<|dq r r (bU aCC r)<|dq r r (aR (v:=aI) hU r r r)<|bx h3 fun x5 hx5 h6=>dq r r (aIX aJl yW (eA r) r (aCZ hx5).1)<|d_n r ?_ r
  refine sL r<|aAL<|⟨pI,?_⟩
  refine aAe (fr':=[(0,aD),(1,aI),(2,aI),(7,aL)]) r r<|aJ<|sI r<|aH (fr':=[(0,aD),(1,aI),(2,aI),(7,aL),(8,aI)]) r r<|aX<|aJ<|mI r<|aH (fr':=[(0,aD),(1,aI),(2,aI),(7,aL),(8,aI),(23,aI)]) r r<|bx h6 fun x7 hx7 h8=>hF lP (fun j9=>x7=Fl.go j9) (fun (j9:Unit)=>([(0,aD)]:Fr)) (fun (j9:Unit)=>([[.c (PV.ls 1 gW dA.b_),ci dA.at_,ci dA.err_,.c (.bool dA.made_)]]:St)) ?_ ?_
  ·
   refine cP<|gY _ (fun (s10:(Int × Int))=>([(0,aD),(1,ci qO),(2,ci nC),(7,.c (PV.ls 1 gW (List.drop (Int.toNat dA.at_) dA.b_))),(8,.c (.int .u64 s10.1)),(23,ci s10.2)]:Fr)) (fun (s10:(Int × Int))=>([[.c (PV.ls 1 gW dA.b_),ci dA.at_,ci dA.err_,.c (.bool dA.made_)]]:St)) hx7 (bJ [] 1 r r r r kL6 (cO r aC)) ?_
   intro s10 st10 hs10 ho10
   unfold vV at hs10
   refine aJ<|aU r (fY r r)<|aH (fr':=[(0,aD),(1,aI),(2,aI),(7,aL),(8,aI),(23,aI),(24,aB)]) r r<|aX<|cU hs10 r (fun hb11 h11=>?_) (fun hb11 h11=>?_)
   ·
    refine bI<|dB<|aX<|cP<|aJ<|mI r<|sI r<|aH (fr':=[(0,aD),(1,aI),(2,aI),(7,aL),(8,aI),(9,aI),(23,aI)]) r r<|aX<|aJ<|mI r<|mL r<|aU r (gT aAM (eA r))<|aU r (uE r r)<|aH (fr':=[(0,aD),(1,aI),(2,aI),(7,aL),(8,aI),(9,aI),(23,aI),(29,aB)]) r r<|cU h11 r (fun hb12 h12=>?_) (fun hb12 h12=>?_)
    ·
     refine aJ<|mV (v:=aD) r<|aU r (iV r)<|aU r (bU aEt r)<|cN (v:=aI) (us:=[aI]) (cs:=eG) (σ':=[eG]) r aJm r r r r r r r r<|aH (fr':=[]) r r<|aJ<|sI r<|aH (fr':=[(6,aI)]) r r<|bO<|aN<|bT<|aN<|aN<|bT<|aN<|aN ?_
     have h13:=eS h12 ho10
     have h14:=gI h13 h8
     obtain rfl:=sy h14
     exact bN (rs':=[.tmp 6]) r<|cE (v:=aI) r<|bM<|aP [] r r r lr (fE sG aC)
    ·
     refine bI<|dB<|aJ<|mL r<|mI r<|bx h12 fun x16 hx16 h17=>aU r (lC (cs:=[PV.int _ _]) yW (eA r) r hx16 r)<|aU r (fO (p:=PV.int _ _) tv5 r r)<|sI r<|aH (fr':=[(0,aD),(1,aI),(2,aI),(7,aL),(8,aI),(9,aI),(10,aI),(23,aI)]) r r<|aJ<|mI r<|mI r<|aU r (aRx r r)<|aU r (uV tk5 aGr r)<|mI r<|aU r (aMP r r)<|bx h17 fun x18 hx18 h19=>aU r (aTT r r (aS1 hx18).1)<|aU r (aVG r r)<|sI r<|aH (fr':=[(0,aD),(1,aI),(2,aI),(7,aL),(8,aI),(9,aI),(10,aI),(23,aI)]) r r<|aX<|aJ<|mI r<|aU r (uE r r)<|aH (fr':=[(0,aD),(1,aI),(2,aI),(7,aL),(8,aI),(9,aI),(10,aI),(23,aI),(46,aB)]) r r<|cU h19 r (fun hb20 h20=>?_) (fun hb20 h20=>?_)
     ·
      exact iE<|cZ<|fT<|dB<|bA<|aU r (fX r r)<|mI r<|dQ (fr':=[(0,aD),(1,aI),(2,aI),(7,aL),(8,aI),(9,aI),(10,aI),(23,aI),(46,aB)]) r<|zY _ (sy h20) (bJ [] 1 r r r r kL6 (cO r aC))
     ·
      refine bI<|dB<|aX<|aJ<|mI r<|aU r (qW r r)<|mB r<|og r r r (fun hc=>(bK (v:=aI) r))<|og r r r (fun hc=>(cQ (gx r hc) r))<|aU r (cS r r r (fun e=>hH e))<|mB r<|og r r r (fun hc=>(bK (v:=aI) r))<|og r r r (fun hc=>(cQ (gx r hc) r))<|og r r r (fun hc=>(bK (v:=aB) (gx r hc)))<|hZ r r (fun hc=>iI r (bK (v:=aI) r))<|hZ r r (fun hc=>iI r (qW (gx r hc) r))<|og r r r (fun hc=>(cS (gx r hc) r r (fun e=>vF hc (hH e))))<|aU r (dK r r r (fun e=>hH e))<|aH (fr':=[(0,aD),(1,aI),(2,aI),(8,aI),(9,aI),(60,aB)]) r r<|cU h20 r (fun hb21 h21=>?_) (fun hb21 h21=>?_)
      ·
       refine aJ<|mV (v:=aD) r<|aU r (iV r)<|aU r (bU aEt r)<|cN (v:=aI) (us:=[aI]) (cs:=eG) (σ':=[eG]) r aJm r r r r r r r r<|aH (fr':=[]) r r<|aJ<|sI r<|aH (fr':=[(6,aI)]) r r<|bO<|aN<|bT<|aN<|aN<|bT<|aN<|aN ?_
       have h22:=eS h21 ho10
       have h23:=gI h22 h8
       obtain rfl:=sy h23
       exact bN (rs':=[.tmp 6]) r<|cE (v:=aI) r<|bM<|aP [] r r r lr (fE sG aC)
      ·
       refine bI<|dB<|aJ<|mV (v:=aD) r<|aU r (iV r)<|aU r (bU aCC r)<|aU r (aR (v:=aI) hU r r r)<|mI r<|aU r (fX r r)<|aU r (fX r r)<|aU r (iV r)<|aU r (bU aCC r)<|cN (v:=aI) (us:=[aI]) (cs:=eG) (σ':=[eG]) r hU r r r r r r r r<|aH (fr':=[(0,aD),(1,aI),(2,aI),(8,aI)]) r r<|aJ<|mI r<|aU r (aIV r r (by decide))<|aU r (uV aGr tk3 r)<|mI r<|aU r (aRx r r)<|aU r (uV aGr tk3 r)<|aU r (aPg r)<|aU r (aKE r r)<|sI r<|aH (fr':=[(0,aD),(1,aI),(2,aI),(11,aI)]) r r<|aX<|aJ<|mI r<|mI r<|aU r (fY r r)<|mB r<|og r r r (fun hc=>(bK (v:=aI) r))<|og r r r (fun hc=>(bK (v:=aI) r))<|og r r r (fun hc=>(qW (gx r hc) (gx r hc)))<|aU r (dK r r r (fun e=>hH e))<|aH (fr':=[(0,aD),(11,aI),(88,aB)]) r r<|cU h21 r (fun hb25 h25=>?_) (fun hb25 h25=>?_)
       ·
        refine aJ<|mV (v:=aD) r<|aU r (iV r)<|aU r (bU aEt r)<|cN (v:=aI) (us:=[aI]) (cs:=eG) (σ':=[eG]) r aJm r r r r r r r r<|aH (fr':=[]) r r<|aJ<|sI r<|aH (fr':=[(6,aI)]) r r<|bO<|aN<|bT<|aN<|aN<|bT<|aN<|aN ?_
        have h26:=eS h25 ho10
        have h27:=gI h26 h8
        obtain rfl:=sy h27
        exact bN (rs':=[.tmp 6]) r<|cE (v:=aI) r<|bM<|aP [] r r r lr (fE sG aC)
       ·
        refine bI<|dB<|aJ<|mI r<|sI r<|aH (fr':=[(6,aI)]) r r<|bO<|bT<|aN<|aN<|bT<|aN<|aN ?_
        have h29:=eS h25 ho10
        have h30:=gI h29 h8
        obtain rfl:=sy h30
        exact bN (rs':=[.tmp 6]) r<|cE (v:=aI) r<|bM<|aP [] r r r lr (fE sG aC)
   ·
    refine iE<|cZ<|cZ<|fT ?_
    have h32:=eS h11 ho10
    exact lB _ (sy h32) (bJ [] 1 r r r r ⟨lr,trivial⟩ (cO r aC))
  ·
   intro j9 hj33
   have h33:=nY hj33 h8
   refine dB<|aJ<|mV (v:=aD) r<|aU r (iV r)<|aU r (bU aEt r)<|cN (v:=aI) (us:=[aI]) (cs:=eG) (σ':=[eG]) r aJm r r r r r r r r<|aH (fr':=[]) r r<|aJ<|sI r<|aH (fr':=[(6,aI)]) r r<|bO ?_
   obtain rfl:=sy h33
   exact bN (rs':=[.tmp 6]) r<|cE (v:=aI) r<|bM<|aP [] r r r lr (fE sG aC)
noncomputable def hG (aDq:Int) (dA:aM):Option ((List UInt8) × aM) :=
 (eC 0 aDq dA).bind fun x1=>(oO x1.2).bind fun x3=>cond x3 (some (([]:List UInt8),x1.2)) (cond (decide ((IntKind.wrap .i64 (((x1.2.b_).length:Int) - x1.2.at_))<x1.1)) (some (([]:List UInt8),(aM.mk x1.2.b_ x1.2.at_ 4 x1.2.made_))) ((aTd x1.2.b_ x1.2.at_ (IntKind.wrap .i64 (x1.2.at_+x1.1))).bind fun x9=>some ((List.drop (Int.toNat x1.2.at_) (List.take (Int.toNat (IntKind.wrap .i64 (x1.2.at_+x1.1))) x1.2.b_)),(aM.mk x1.2.b_ (IntKind.wrap .i64 (x1.2.at_+x1.1)) x1.2.err_ x1.2.made_))))
theorem pY {aDq:Int}{dA:aM}{res:((List UInt8) × aM)} (h:hG aDq dA=some res):cX Tryz.prog 71 [.box 0 0,ci aDq] [AV.cs (fL dA)] (.c (.str res.1)) [AV.cs (fL res.2)]:=by
 unfold hG at h
 refine dR (fn:=Tryz.f71) [0,1,4,5,6,11,23] (by kernel_rfl) Tryz.func71 r (by kernel_rfl) (by kernel_rfl)<|aJ<|sS r<|aH (fr':=[(0,aD),(1,aI)]) r r<|aJ<|mV (v:=aD) r<|mI r<|bx h fun x1 hx1 h2=>dP (v:=aI) (σ':=[eG]) [0] r (jG hx1) r r nW (fE sG aC) r r r<|sI r<|aH (fr':=[(0,aD),(5,aI)]) r r<|aX<|aJ<|mV (v:=aD) r<|bx h2 fun x3 hx3 h4=>dP (v:=aB) (σ':=[eG]) [0] r (vU hx3) r r ⟨lr,trivial⟩ (fE sG aC) r r r<|aH (fr':=[(0,aD),(5,aI),(11,aB)]) r r<|cU h4 r (fun hb5 h5=>?_) (fun hb5 h5=>?_)
 ·
  refine aJ<|sS r<|aH (fr':=[(4,aS)]) r r<|bO<|aN ?_
  obtain rfl:=sy h5
  exact bN (rs':=[.tmp 4]) r<|cE (v:=aS) r<|bM<|aP [] r r r lr (fE sG aC)
 ·
  refine bI<|dB<|aX<|aX<|lJ [.q 0,.q 1,.q 2,.q 3,.q 4,.q 5,.q 6,.q 7,.q 8,.q 9,.q 10,.q 11] [(some 12,[5]),(some 13,[0]),(some 14,[13]),(some 15,[14]),(some 16,[15]),(some 17,[16]),(some 18,[0]),(some 19,[18]),(some 20,[19]),(some 21,[20]),(some 22,[17,21]),(some 23,[12,22])] [0,0,2,6,14,30,0,64,192,448,1022,2047] (by kernel_rfl)<|dq r r (bK (v:=aI) r)<|dq r r (bK (v:=aD) r)<|dq r r (iV r)<|dq r r (bU aJi r)<|dq r r (aR (v:=aL) aEu r r r)<|dq r r (gT aAM (eA r))<|dq r r (bK (v:=aD) r)<|dq r r (iV r)<|dq r r (bU aCC r)<|dq r r (aR (v:=aI) hU r r r)<|dq r r (aCQ r r)<|dq r r (qW r r)<|aAe (fr':=[(0,aD),(5,aI),(23,aB)]) r r<|cU h5 r (fun hb7 h7=>?_) (fun hb7 h7=>?_)
  ·
   refine aJ<|mV (v:=aD) r<|aU r (iV r)<|aU r (bU aEt r)<|cN (v:=aI) (us:=[aI]) (cs:=eG) (σ':=[eG]) r aJm r r r r r r r r<|aH (fr':=[]) r r<|aJ<|sS r<|aH (fr':=[(4,aS)]) r r<|bO<|aN ?_
   obtain rfl:=sy h7
   exact bN (rs':=[.tmp 4]) r<|cE (v:=aS) r<|bM<|aP [] r r r lr (fE sG aC)
  ·
   refine bI<|dB<|aX<|lJ [.q 0,.q 1,.q 2,.q 3,.q 4,.q 5,.q 6,.q 7,.q 8,.q 9,.q 10,.q 11,.q 12,.q 13,.q 14,.q 15,.n 16 []] [(some 27,[0]),(some 28,[27]),(some 29,[28]),(some 30,[29]),(some 31,[0]),(some 32,[31]),(some 33,[32]),(some 34,[33]),(some 35,[0]),(some 36,[35]),(some 37,[36]),(some 38,[37]),(some 39,[5]),(some 40,[38,39]),(some 41,[30,34,40]),(some 42,[41]),(some 6,[42])] [0,1,3,7,0,16,48,112,0,256,768,1792,0,7936,16383,32767,65535] (by kernel_rfl)<|dq r r (bK (v:=aD) r)<|dq r r (iV r)<|dq r r (bU aJi r)<|dq r r (aR (v:=aL) aEu r r r)<|dq r r (bK (v:=aD) r)<|dq r r (iV r)<|dq r r (bU aCC r)<|dq r r (aR (v:=aI) hU r r r)<|dq r r (bK (v:=aD) r)<|dq r r (iV r)<|dq r r (bU aCC r)<|dq r r (aR (v:=aI) hU r r r)<|dq r r (bK (v:=aI) r)<|dq r r (fX r r)<|bx h7 fun x9 hx9 h10=>dq r r (aUz aJl yW (eA r) r r (aQv hx9).1)<|dq r r (aIU aRS zZ (eA r))<|d_n r ?_ r
   refine sS r<|aAL<|⟨pI,?_⟩
   refine aAe (fr':=[(0,aD),(5,aI),(6,aS)]) r r<|aJ<|mV (v:=aD) r<|aU r (iV r)<|aU r (bU aCC r)<|aU r (aR (v:=aI) hU r r r)<|mI r<|aU r (fX r r)<|aU r (iV r)<|aU r (bU aCC r)<|cN (v:=aI) (us:=[aI]) (cs:=eG) (σ':=[eG]) r hU r r r r r r r r<|aH (fr':=[(6,aS)]) r r<|aJ<|mS r<|sS r<|aH (fr':=[(4,aS)]) r r<|bO ?_
   obtain rfl:=sy h10
   exact bN (rs':=[.tmp 4]) r<|cE (v:=aS) r<|bM<|aP [] r r r lr (fE sG aC)
noncomputable def lN (p1e:Int) (dA:aM):Option aM :=
 (oO dA).bind fun x1=>cond (!x1) (some (aM.mk dA.b_ dA.at_ p1e dA.made_)) (some dA)
theorem vT {p1e:Int}{dA:aM}{res:aM} (h:lN p1e dA=some res):cX Tryz.prog 74 [.box 0 0,ci p1e] [AV.cs (fL dA)] (.any) [AV.cs (fL res)]:=by
 unfold lN at h
 refine dR (fn:=Tryz.f74) [0,1,6] (by kernel_rfl) Tryz.func74 r (by kernel_rfl) (by kernel_rfl)<|aJ<|mV (v:=aD) r<|bx h fun x1 hx1 h2=>dP (v:=aB) (σ':=[eG]) [0] r (vU hx1) r r ⟨lr,trivial⟩ (fE sG aC) r r r<|aU r (gX r)<|aH (fr':=[(0,aD),(1,aI),(6,aB)]) r r<|cU h2 r (fun hb3 h3=>?_) (fun hb3 h3=>?_)
 ·
  refine bA<|mV (v:=aD) r<|mI r<|aU r (iV r)<|aU r (bU aEt r)<|cN (v:=aI) (us:=[aI]) (cs:=eG) (σ':=[eG]) r aJm r r r r r r r r<|dQ (fr':=[(0,aD),(1,aI),(6,aB)]) r ?_
  obtain rfl:=sy h3
  exact aIu (rs':=[]) r<|bM<|aP [] r r r (AV.le_any _) (fE sG aC)
 ·
  refine bI ?_
  obtain rfl:=sy h3
  exact aIu (rs':=[]) r<|bM<|aP [] r r r (AV.le_any _) (fE sG aC)
noncomputable def jY (aCp:Bool) (dU:Int) (jE:aM):Option (Bool × aM) :=
 (((gP jE).bind fun x4=>cond (cond (decide (x4=0)) (!aCp) false) ((lN 3 jE).bind fun x7=>some x7) (some jE)):Option aM).bind fun x1=>((gP x1).bind fun x10=>some ((decide (x10=0)),x1))
theorem pX {aCp:Bool}{dU:Int}{jE:aM}{res:(Bool × aM)} (h:jY aCp dU jE=some res):cX Tryz.prog 183 [.box 0 0,.c (.bool aCp)] [[.box 1 0,ci dU],AV.cs (fL jE)] (.c (.bool res.1)) [[.box 1 0,ci dU],AV.cs (fL res.2)]:=by
 unfold jY at h
 refine dR (fn:=Tryz.f183) [0,1,4,14] (by kernel_rfl) Tryz.func183 r (by kernel_rfl) (by kernel_rfl)<|aJ<|sB r<|aH (fr':=[(0,aD),(1,aB)]) r r<|bx h fun x1 hx1 h2=>kF (fun j3=>x1=j3) (fun (j3:aM)=>([(0,aD)]:Fr)) (fun (j3:aM)=>([[bD,ci dU],[.c (PV.ls 1 gW j3.b_),ci j3.at_,ci j3.err_,.c (.bool j3.made_)]]:St)) ?_ ?_
 ·
  refine aJ<|mV (v:=aD) r<|aU r (iV r)<|aU r (bU aA4 r)<|aU r (aR (v:=bD) aJ2 r r r)<|bx hx1 fun x4 hx4 h5=>dP (v:=aI) (σ':=[[bD,aI],eG]) [1] r (jF hx4) r r ⟨lr,trivial⟩ (fE sG aC) r r r<|aU r (cQ r r)<|mB r<|og r r r (fun hc=>(bK (v:=aB) r))<|og r r r (fun hc=>(gX (gx r hc)))<|aU r (cS r r r (fun e=>hH e))<|aH (fr':=[(0,aD),(14,aB)]) r r<|cU h5 r (fun hb6 h6=>?_) (fun hb6 h6=>?_)
  ·
   exact bA<|mV (v:=aD) r<|aU r (iV r)<|aU r (bU aA4 r)<|aU r (aR (v:=bD) aJ2 r r r)<|bx h6 fun x7 hx7 h8=>dP (v:=_) (σ':=[[bD,aI],eG]) [1] r (vT hx7) r r kR (fE sG aC) r r r<|dQ (fr':=[(0,aD),(14,aB)]) r<|lB _ (sy h8) (bJ [] 2 r r r r ⟨lr,trivial⟩ (cO r (cO r aC)))
  ·
   exact bI<|lB _ (sy h6) (bJ [] 2 r r r r ⟨lr,trivial⟩ (cO r (cO r aC)))
 ·
  intro j3 hj9
  subst hj9
  refine aJ<|mV (v:=aD) r<|aU r (iV r)<|aU r (bU aA4 r)<|aU r (aR (v:=bD) aJ2 r r r)<|bx h2 fun x10 hx10 h11=>dP (v:=aI) (σ':=[[bD,aI],eG]) [1] r (jF hx10) r r ⟨lr,trivial⟩ (fE sG aC) r r r<|aU r (cQ r r)<|sB r<|aH (fr':=[(4,aB)]) r r<|bO ?_
  obtain rfl:=sy h11
  exact bN (rs':=[.tmp 4]) r<|cE (v:=aB) r<|bM<|aP [] r r r lr (cO r (fE sG aC))
