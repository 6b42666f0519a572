import Derived.Test.YtnigjppddilpcaaGreatDoorGETy
import Derived.Test.YtnigjppddilpcaaGreatDoorGEF0
import Derived.Test.YtnigjppddilpcaaGreatDoorGEF1
import Derived.Test.YtnigjppddilpcaaGreatDoorGEF2
import Derived.Test.YtnigjppddilpcaaGreatDoorGEF3
namespace Go.Proofs.YtnigjppddilpcaaGreatDoor
open Go Abs
set_option maxRecDepth 100000
set_option linter.unusedVariables false
set_option linter.unusedSimpArgs false
noncomputable def nA (p0e:bI):Option Bool :=
 cond (decide (p0e.Kind=(1:Int))) ((mG p0e.Name).bind fun x2=>(gd (x2==true) (iN p0e.Key)).bind fun x4=>(gd ((cond x2 x4 false)==true) (gQ p0e.N (0:Int) (4294967295:Int))).bind fun x6=>(gd ((cond (cond x2 x4 false) x6 false)==true) (vB p0e.Data)).bind fun x8=>some (cond (cond (cond x2 x4 false) x6 false) x8 false)) (cond (decide (p0e.Kind=(2:Int))) (some (decide ((1:Int)≤p0e.N))) (cond (decide (p0e.Kind=(5:Int))) ((gQ p0e.Code (1:Int) (30:Int)).bind fun x14=>some x14) (cond (decide (p0e.Kind=(8:Int))) ((gQ p0e.N (1:Int) (1000:Int)).bind fun x18=>some x18) (cond (decide (p0e.Kind=(11:Int))) ((gQ p0e.Code (1:Int) (4:Int)).bind fun x22=>some x22) (((cond (decide (p0e.Kind=(10:Int))) (some (decide (p0e.Kind=(10:Int)))) (cond (decide (p0e.Kind=(22:Int))) (some (decide (p0e.Kind=(22:Int)))) (some (decide (p0e.Kind=(25:Int)))))):Option Bool).bind fun x25=>(cond x25 (some (decide (((p0e.Name).length:Int)≤(4096:Int)))) (cond (decide (p0e.Kind=(33:Int))) (some (decide (((p0e.Name).length:Int)≤(64:Int)))) (cond (decide (p0e.Kind=(17:Int))) ((mG p0e.Name).bind fun x36=>(gd (x36==true) (iN p0e.Key)).bind fun x38=>some (cond x36 x38 false)) (cond (decide (p0e.Kind=(26:Int))) ((iN p0e.Key).bind fun x42=>some x42) (cond (decide (p0e.Kind=(20:Int))) ((vD p0e.Key).bind fun x46=>some x46.2) (some true)))))))))))
theorem aCk {p0e:bI}{res:Bool} (h:nA p0e=some res):bS Tryz.prog 141 [.agg (AV.cs (cD p0e))] [] (.c (.bool res)) []:=by
 unfold nA at h
 refine cJ (fn:=Tryz.f141) [0,1,2,4,6,7,27,32,37,42,47,55,61,71,76] (by kernel_rfl) Tryz.func141 r (by kernel_rfl) (by kernel_rfl)<|aH<|fS (v:=.agg aD) (n:=0) (cs:=aD) (σ':=[aD]) r r r r r<|sB r<|aF (fr':=[(1,.box 0 0)]) r r<|aP<|aH<|aM r (bD tU r)<|aM r (aK (v:=aI) eP r r r)<|aF (fr':=[(1,.box 0 0),(6,aI)]) r r<|bJ ?_
 refine aH<|aM r (bM r r)<|sB r<|aF (fr':=[(1,.box 0 0),(6,aI),(7,aB)]) r r<|bP h r (fun hb1 h1=>?_) (fun hb1 h1=>?_)
 ·
  refine aH<|aM r (bD oW r)<|aM r (aK (v:=aS) kD r r r) ?_
  obtain ⟨x2,hx2,h3⟩:=aE h1
  refine gV (aX (v:=aB) r (qT hx2) ⟨lr,trivial⟩ r r r)<|mB r<|og r r r (fun hc=>(bD oX r))<|og r r r (fun hc=>(aK (v:=aS) kD (gx r hc) r r)) ?_
  obtain ⟨x4,hx4,h5⟩:=aE h3
  refine sM r r (fun hc=>aX (v:=aB) r (sE (cA hx4 hc)) ⟨(eH (gx r hc) lr),trivial⟩ (fA (by repeat (first | exact dX | refine aY r ?_ | refine aY (oS r) ?_ | refine aY oR ?_))) r r) ?_
  refine aM r (bO r r r (fun e=>eO e))<|mB r<|og r r r (fun hc=>(bD sC r))<|og r r r (fun hc=>(aK (v:=aI) eP (gx r hc) r r)) ?_
  obtain ⟨x6,hx6,h7⟩:=aE h5
  refine sM r r (fun hc=>aX (v:=aB) r (hY (cA hx6 hc)) ⟨(eH (gx r hc) lr),lr,lr,trivial⟩ (fA (by repeat (first | exact dX | refine aY r ?_ | refine aY (oS r) ?_ | refine aY oR ?_))) r r) ?_
  refine aM r (bO r r r (fun e=>eO e))<|mB r<|og r r r (fun hc=>(bD tV r))<|og r r r (fun hc=>(cN (us:=bL) fM (gx r hc) r r r)) ?_
  obtain ⟨x8,hx8,h9⟩:=aE h7
  refine sM r r (fun hc=>aX (v:=aB) r (aGD (cA hx8 hc)) ⟨(eH (gx r hc) (bK r ⟨r,r,r,r,r,trivial⟩)),trivial⟩ (fA (by repeat (first | exact dX | refine aY r ?_ | refine aY (oS r) ?_ | refine aY oR ?_))) r r) ?_
  refine aM r (bO r r r (fun e=>eO e))<|sB r<|aF (fr':=[(2,aB)]) r r<|bC<|bA<|aJ ?_
  obtain rfl:=sy h9
  exact bB (rs':=[.tmp 2]) r<|bH (v:=aB) r<|aZ<|aN [] r r r lr aA
 ·
  refine aH<|aM r (bM r r)<|sB r<|aF (fr':=[(1,.box 0 0),(6,aI),(27,aB)]) r r<|bP h1 r (fun hb11 h11=>?_) (fun hb11 h11=>?_)
  ·
   refine aH<|aM r (bD sC r)<|aM r (aK (v:=aI) eP r r r)<|aM r (nM r r)<|sB r<|aF (fr':=[(2,aB)]) r r<|bC<|bA<|aJ ?_
   obtain rfl:=sy h11
   exact bB (rs':=[.tmp 2]) r<|bH (v:=aB) r<|aZ<|aN [] r r r lr aA
  ·
   refine aH<|aM r (bM r r)<|sB r<|aF (fr':=[(1,.box 0 0),(6,aI),(32,aB)]) r r<|bP h11 r (fun hb13 h13=>?_) (fun hb13 h13=>?_)
   ·
    refine aH<|aM r (bD vU r)<|aM r (aK (v:=aI) eP r r r) ?_
    obtain ⟨x14,hx14,h15⟩:=aE h13
    refine gV (aX (v:=aB) r (hY hx14) ⟨lr,lr,lr,trivial⟩ r r r)<|sB r<|aF (fr':=[(2,aB)]) r r<|bC<|bA<|aJ ?_
    obtain rfl:=sy h15
    exact bB (rs':=[.tmp 2]) r<|bH (v:=aB) r<|aZ<|aN [] r r r lr aA
   ·
    refine aH<|aM r (bM r r)<|sB r<|aF (fr':=[(1,.box 0 0),(6,aI),(37,aB)]) r r<|bP h13 r (fun hb17 h17=>?_) (fun hb17 h17=>?_)
    ·
     refine aH<|aM r (bD sC r)<|aM r (aK (v:=aI) eP r r r) ?_
     obtain ⟨x18,hx18,h19⟩:=aE h17
     refine gV (aX (v:=aB) r (hY hx18) ⟨lr,lr,lr,trivial⟩ r r r)<|sB r<|aF (fr':=[(2,aB)]) r r<|bC<|bA<|aJ ?_
     obtain rfl:=sy h19
     exact bB (rs':=[.tmp 2]) r<|bH (v:=aB) r<|aZ<|aN [] r r r lr aA
    ·
     refine aH<|aM r (bM r r)<|sB r<|aF (fr':=[(1,.box 0 0),(6,aI),(42,aB)]) r r<|bP h17 r (fun hb21 h21=>?_) (fun hb21 h21=>?_)
     ·
      refine aH<|aM r (bD vU r)<|aM r (aK (v:=aI) eP r r r) ?_
      obtain ⟨x22,hx22,h23⟩:=aE h21
      refine gV (aX (v:=aB) r (hY hx22) ⟨lr,lr,lr,trivial⟩ r r r)<|sB r<|aF (fr':=[(2,aB)]) r r<|bC<|bA<|aJ ?_
      obtain rfl:=sy h23
      exact bB (rs':=[.tmp 2]) r<|bH (v:=aB) r<|aZ<|aN [] r r r lr aA
     ·
      obtain ⟨x25,hx25,h26⟩:=aE h21
      refine fY (fun j27=>x25=j27) (fun (j27:Bool)=>([(1,.box 0 0),(6,ci p0e.Kind),(47,.c (.bool j27))]:Fr)) (fun (j27:Bool)=>([[ci p0e.ID,ci p0e.Kind,ci p0e.Time,ci p0e.Seq,ci p0e.Ref,ci p0e.N,ci p0e.Code,.c (.str p0e.Name),.c (.str p0e.Key),ci p0e.Data.Kind,ci p0e.Data.Int,.c (.str p0e.Data.Text),.c (PV.ls 5 bF p0e.Data.Items),.c (PV.ls 1 eA p0e.Data.Keys),.c (.str p0e.Opts.Queue),ci p0e.Opts.ToStart,ci p0e.Opts.ToClose,ci p0e.Opts.Total,ci p0e.Opts.Beat,ci p0e.Opts.First,ci p0e.Opts.Coef,ci p0e.Opts.Most,ci p0e.Opts.Attempts,.c (PV.ls 1 eA p0e.Opts.Fatal)]]:St)) ?_ ?_
      ·
       refine aH<|aM r (bM r r)<|sB r<|aF (fr':=[(1,.box 0 0),(6,aI),(47,aB)]) r r<|bP hx25 r (fun hb28 h28=>?_) (fun hb28 h28=>?_)
       ·
        exact aW<|gD _ (sy h28) (aU [] 1 r r r r ⟨lr,lr,lr,trivial⟩ (bW r aA))
       ·
        refine aH<|aM r (bM r r)<|sB r<|aF (fr':=[(1,.box 0 0),(6,aI),(47,aB)]) r r<|bP h28 r (fun hb29 h29=>?_) (fun hb29 h29=>?_)
        ·
         exact aW<|gD _ (sy h29) (aU [] 1 r r r r ⟨lr,lr,lr,trivial⟩ (bW r aA))
        ·
         exact aQ<|aM r (bM r r)<|sB r<|cB (fr':=[(1,.box 0 0),(6,aI),(47,aB)]) r<|gD _ (sy h29) (aU [] 1 r r r r ⟨lr,lr,lr,trivial⟩ (bW r aA))
      ·
       intro j27 hj30
       subst hj30
       refine bP h26 r (fun hb31 h31=>?_) (fun hb31 h31=>?_)
       ·
        refine aH<|aM r (bD oW r)<|aM r (aK (v:=aS) kD r r r)<|aM r (gL pJ r)<|aM r (nD r r)<|sB r<|aF (fr':=[(2,aB)]) r r<|bC<|bA<|aJ ?_
        obtain rfl:=sy h31
        exact bB (rs':=[.tmp 2]) r<|bH (v:=aB) r<|aZ<|aN [] r r r lr aA
       ·
        refine aH<|aM r (bM r r)<|sB r<|aF (fr':=[(1,.box 0 0),(6,aI),(55,aB)]) r r<|bP h31 r (fun hb33 h33=>?_) (fun hb33 h33=>?_)
        ·
         refine aH<|aM r (bD oW r)<|aM r (aK (v:=aS) kD r r r)<|aM r (gL pJ r)<|aM r (nD r r)<|sB r<|aF (fr':=[(2,aB)]) r r<|bC<|bA<|aJ ?_
         obtain rfl:=sy h33
         exact bB (rs':=[.tmp 2]) r<|bH (v:=aB) r<|aZ<|aN [] r r r lr aA
        ·
         refine aH<|aM r (bM r r)<|sB r<|aF (fr':=[(1,.box 0 0),(6,aI),(61,aB)]) r r<|bP h33 r (fun hb35 h35=>?_) (fun hb35 h35=>?_)
         ·
          refine aH<|aM r (bD oW r)<|aM r (aK (v:=aS) kD r r r) ?_
          obtain ⟨x36,hx36,h37⟩:=aE h35
          refine gV (aX (v:=aB) r (qT hx36) ⟨lr,trivial⟩ r r r)<|mB r<|og r r r (fun hc=>(bD oX r))<|og r r r (fun hc=>(aK (v:=aS) kD (gx r hc) r r)) ?_
          obtain ⟨x38,hx38,h39⟩:=aE h37
          refine sM r r (fun hc=>aX (v:=aB) r (sE (cA hx38 hc)) ⟨(eH (gx r hc) lr),trivial⟩ (fA (by repeat (first | exact dX | refine aY r ?_ | refine aY (oS r) ?_ | refine aY oR ?_))) r r) ?_
          refine aM r (bO r r r (fun e=>eO e))<|sB r<|aF (fr':=[(2,aB)]) r r<|bC<|bA<|aJ ?_
          obtain rfl:=sy h39
          exact bB (rs':=[.tmp 2]) r<|bH (v:=aB) r<|aZ<|aN [] r r r lr aA
         ·
          refine aH<|aM r (bM r r)<|sB r<|aF (fr':=[(1,.box 0 0),(6,aI),(71,aB)]) r r<|bP h35 r (fun hb41 h41=>?_) (fun hb41 h41=>?_)
          ·
           refine aH<|aM r (bD oX r)<|aM r (aK (v:=aS) kD r r r) ?_
           obtain ⟨x42,hx42,h43⟩:=aE h41
           refine gV (aX (v:=aB) r (sE hx42) ⟨lr,trivial⟩ r r r)<|sB r<|aF (fr':=[(2,aB)]) r r<|bC<|bA<|aJ ?_
           obtain rfl:=sy h43
           exact bB (rs':=[.tmp 2]) r<|bH (v:=aB) r<|aZ<|aN [] r r r lr aA
          ·
           refine aH<|aM r (bM r r)<|sB r<|aF (fr':=[(1,.box 0 0),(76,aB)]) r r<|bP h41 r (fun hb45 h45=>?_) (fun hb45 h45=>?_)
           ·
            refine aH<|aM r (bD oX r)<|aM r (aK (v:=aS) kD r r r) ?_
            obtain ⟨x46,hx46,h47⟩:=aE h45
            refine gV (aX (v:=.tup [aI,aB]) r (aGE hx46) ⟨lr,trivial⟩ r r r)<|mV (v:=.tup [aI,aB]) r<|aM r (yO (v:=aI) r r)<|aM r (yO (v:=aB) r r)<|sI r<|sB r<|aF (fr':=[(4,aB)]) r r<|aH<|mB r<|sB r<|aF (fr':=[(2,aB)]) r r<|bC ?_
            refine bA<|aJ ?_
            obtain rfl:=sy h47
            exact bB (rs':=[.tmp 2]) r<|bH (v:=aB) r<|aZ<|aN [] r r r lr aA
           ·
            refine aW<|bX<|bV<|aH<|sB r<|aF (fr':=[(2,aB)]) r r<|bC ?_
            obtain rfl:=sy h45
            exact bB (rs':=[.tmp 2]) r<|bH (v:=aB) r<|aZ<|aN [] r r r lr aA
noncomputable def pP (p0e:bI):Option Bool :=
 (gQ p0e.Kind (1:Int) (35:Int)).bind fun x1=>(gd ((!x1)==false) (gQ p0e.ID (0:Int) (2000:Int))).bind fun x3=>(gd ((cond (!x1) true (!x3))==false) (gQ p0e.Time (0:Int) (1099511627776:Int))).bind fun x5=>(gd ((cond (cond (!x1) true (!x3)) true (!x5))==false) (sO p0e.Data)).bind fun x7=>cond (cond (cond (cond (!x1) true (!x3)) true (!x5)) true (!x7)) (some false) ((oE p0e.Kind).bind fun x11=>cond (!decide (x11=(0:Int))) ((oF p0e x11).bind fun x14=>some x14) ((wQ p0e.Kind).bind fun x17=>(nB x17 p0e).bind fun x19=>(gd (((!x19)==false)&&(x17.seq_==true)) (gQ p0e.Seq (1:Int) (2000:Int))).bind fun x21=>(gd (((cond (!x19) true (cond x17.seq_ (!x21) false))==false)&&(x17.ref_==true)) (gQ p0e.Ref (1:Int) (2000:Int))).bind fun x23=>cond (cond (cond (!x19) true (cond x17.seq_ (!x21) false)) true (cond x17.ref_ (!x23) false)) (some false) ((nA p0e).bind fun x27=>some x27)))
theorem aBK {p0e:bI}{res:Bool} (h:pP p0e=some res):bS Tryz.prog 61 [.agg (AV.cs (cD p0e))] [] (.c (.bool res)) []:=by
 unfold pP at h
 refine cJ (fn:=Tryz.f61) [0,1,2,3,4,26,31,61] (by kernel_rfl) Tryz.func61 r (by kernel_rfl) (by kernel_rfl)<|aH<|fS (v:=.agg aD) (n:=0) (cs:=aD) (σ':=[aD]) r r r r r<|sB r<|aF (fr':=[(1,.box 0 0)]) r r<|aP<|aH<|aM r (bD tU r)<|aM r (aK (v:=aI) eP r r r) ?_
 obtain ⟨x1,hx1,h2⟩:=aE h
 refine gV (aX (v:=aB) r (hY hx1) ⟨lr,lr,lr,trivial⟩ r r r)<|aM r (eI r)<|mB r<|og r r r (fun hc=>(bD aCg r))<|og r r r (fun hc=>(aK (v:=aI) eP (gx r hc) r r)) ?_
 obtain ⟨x3,hx3,h4⟩:=aE h2
 refine sM r r (fun hc=>aX (v:=aB) r (hY (cA hx3 hc)) ⟨(eH (gx r hc) lr),lr,lr,trivial⟩ (fA (by repeat (first | exact dX | refine aY r ?_ | refine aY (oS r) ?_ | refine aY oR ?_))) r r) ?_
 refine og r r r (fun hc=>(eI (gx r hc)))<|aM r (bY r r r (fun e=>eO e))<|mB r<|og r r r (fun hc=>(bD aCh r))<|og r r r (fun hc=>(aK (v:=aI) eP (gx r hc) r r)) ?_
 obtain ⟨x5,hx5,h6⟩:=aE h4
 refine sM r r (fun hc=>aX (v:=aB) r (hY (cA hx5 hc)) ⟨(eH (gx r hc) lr),lr,lr,trivial⟩ (fA (by repeat (first | exact dX | refine aY r ?_ | refine aY (oS r) ?_ | refine aY oR ?_))) r r) ?_
 refine og r r r (fun hc=>(eI (gx r hc)))<|aM r (bY r r r (fun e=>eO e))<|mB r<|og r r r (fun hc=>(bD tV r))<|og r r r (fun hc=>(cN (us:=bL) fM (gx r hc) r r r)) ?_
 obtain ⟨x7,hx7,h8⟩:=aE h6
 refine sM r r (fun hc=>aX (v:=aB) r (aBN (cA hx7 hc)) ⟨(eH (gx r hc) (bK r ⟨r,r,r,r,r,trivial⟩)),trivial⟩ (fA (by repeat (first | exact dX | refine aY r ?_ | refine aY (oS r) ?_ | refine aY oR ?_))) r r) ?_
 refine og r r r (fun hc=>(eI (gx r hc)))<|aM r (bY r r r (fun e=>eO e))<|aF (fr':=[(1,.box 0 0),(26,aB)]) r r<|bP h8 r (fun hb9 h9=>?_) (fun hb9 h9=>?_)
 ·
  refine aH<|sB r<|aF (fr':=[(2,aB)]) r r<|bC<|aJ ?_
  obtain rfl:=sy h9
  exact bB (rs':=[.tmp 2]) r<|bH (v:=aB) r<|aZ<|aN [] r r r lr aA
 ·
  refine aW<|bV<|aP<|aH<|aM r (bD tU r)<|aM r (aK (v:=aI) eP r r r) ?_
  obtain ⟨x11,hx11,h12⟩:=aE h9
  refine gV (aX (v:=aI) r (aCZ hx11) ⟨lr,trivial⟩ r r r)<|sI r<|aF (fr':=[(1,.box 0 0),(3,aI)]) r r<|aH<|mI r<|aM r (fI r r)<|aF (fr':=[(1,.box 0 0),(3,aI),(31,aB)]) r r<|bP h12 r (fun hb13 h13=>?_) (fun hb13 h13=>?_)
  ·
   refine aH<|aM r (cN (us:=aD) qF r r r r)<|mI r ?_
   obtain ⟨x14,hx14,h15⟩:=aE h13
   refine gV (aX (v:=aB) r (aC0 hx14) ⟨(bK r ⟨r,r,r,r,r,r,r,r,r,r,r,r,r,r,r,r,r,r,r,r,r,r,r,r,trivial⟩),lr,trivial⟩ r r r)<|sB r<|aF (fr':=[(2,aB)]) r r<|bC<|aJ ?_
   obtain rfl:=sy h15
   exact bB (rs':=[.tmp 2]) r<|bH (v:=aB) r<|aZ<|aN [] r r r lr aA
  ·
   refine aW<|bV<|aH<|aM r (bD tU r)<|aM r (aK (v:=aI) eP r r r) ?_
   obtain ⟨x17,hx17,h18⟩:=aE h13
   refine gV (aX (v:=.agg bQ) r (aIb hx17) ⟨lr,trivial⟩ r r r)<|gC (n:=1) (cs:=bQ) (σ':=[aD,bQ]) aNM r r r<|bU (v:=.agg bQ) (us:=bQ) (cs:=bQ) (σ':=[aD,bQ]) r kX r r r r r r r r<|aF (fr':=[(1,.box 0 0),(4,.box 1 0)]) r r<|aP<|aH<|aM r (cN (us:=bQ) kX r r r r)<|aM r (cN (us:=aD) qF r r r r) ?_
   obtain ⟨x19,hx19,h20⟩:=aE h18
   refine gV (aX (v:=aB) r (aCl hx19) ⟨(bK r ⟨r,r,r,r,r,r,r,trivial⟩),(bK r ⟨r,r,r,r,r,r,r,r,r,r,r,r,r,r,r,r,r,r,r,r,r,r,r,r,trivial⟩),trivial⟩ r r r)<|aM r (eI r)<|mB r<|og r r r (fun hc=>(bD aLi r))<|og r r r (fun hc=>(aK (v:=aB) tv4 (gx r hc) r r))<|og r r r (fun hc=>(bE (v:=aB) (gx r hc)))<|eL r r (fun hc=>eS r (bD xE r))<|eL r r (fun hc=>eS r (aK (v:=aI) eP (gx r hc) r r)) ?_
   obtain ⟨x21,hx21,h22⟩:=aE h20
   refine eL r r (fun hc=>aX (v:=aB) r (hY (cA hx21 hc)) ⟨(eH (gx r hc) lr),lr,lr,trivial⟩ (fA (by repeat (first | exact dX | refine aY r ?_ | refine aY (oS r) ?_ | refine aY oR ?_))) r r) ?_
   refine eL r r (fun hc=>eS r (eI (gx r hc)))<|og r r r (fun hc=>(bO (gx r hc) r r (fun e=>oC hc (eO e))))<|aM r (bY r r r (fun e=>eO e))<|mB r<|og r r r (fun hc=>(bD aLj r))<|og r r r (fun hc=>(aK (v:=aB) tv4 (gx r hc) r r))<|og r r r (fun hc=>(bE (v:=aB) (gx r hc)))<|eL r r (fun hc=>eS r (bD xF r))<|eL r r (fun hc=>eS r (aK (v:=aI) eP (gx r hc) r r)) ?_
   obtain ⟨x23,hx23,h24⟩:=aE h22
   refine eL r r (fun hc=>aX (v:=aB) r (hY (cA hx23 hc)) ⟨(eH (gx r hc) lr),lr,lr,trivial⟩ (fA (by repeat (first | exact dX | refine aY r ?_ | refine aY (oS r) ?_ | refine aY oR ?_))) r r) ?_
   refine eL r r (fun hc=>eS r (eI (gx r hc)))<|og r r r (fun hc=>(bO (gx r hc) r r (fun e=>oC hc (eO e))))<|aM r (bY r r r (fun e=>eO e))<|aF (fr':=[(1,.box 0 0),(61,aB)]) r r<|bP h24 r (fun hb25 h25=>?_) (fun hb25 h25=>?_)
   ·
    refine aH<|sB r<|aF (fr':=[(2,aB)]) r r<|bC<|aJ ?_
    obtain rfl:=sy h25
    exact bB (rs':=[.tmp 2]) r<|bH (v:=aB) r<|aZ<|aN [] r r r lr aA
   ·
    refine aW<|bV<|aH<|aM r (cN (us:=aD) qF r r r r) ?_
    obtain ⟨x27,hx27,h28⟩:=aE h25
    refine gV (aX (v:=aB) r (aCk hx27) ⟨(bK r ⟨r,r,r,r,r,r,r,r,r,r,r,r,r,r,r,r,r,r,r,r,r,r,r,r,trivial⟩),trivial⟩ r r r)<|sB r<|aF (fr':=[(2,aB)]) r r<|bC ?_
    obtain rfl:=sy h28
    exact bB (rs':=[.tmp 2]) r<|bH (v:=aB) r<|aZ<|aN [] r r r lr aA
noncomputable def nK  (s11:(Int × Int)):Option (cI (Int × Int) Int) :=
 cond (decide (s11.2<(8:Int))) (some (cI.next ((fV .xor .u32 (Int.fdiv s11.1 (2 ^ (min (Int.toNat (1:Int)) (IntKind.bits .u32)))) (IntKind.wrap .u32 ((3988292384:Int)*(fV .and .u32 s11.1 (1:Int))))),(IntKind.wrap .i64 (s11.2+(1:Int)))))) (some (cI.out s11.1))
noncomputable def xR (p0b:(List UInt8)) (s4:(Int × Int)):Option (cI (Int × Int) Int) :=
 cond (decide (s4.2<((p0b).length:Int))) ((hG p0b s4.2).bind fun x6=>((dR (nK) (((fV .xor .u32 s4.1 (IntKind.wrap .u32 ((x6).toNat:Int))),(0:Int)))):Option Int).bind fun x8=>(some (cI.next (x8,(IntKind.wrap .i64 (s4.2+(1:Int))))))) (some (cI.out s4.1))
noncomputable def aAF (p0b:(List UInt8)):Option Int :=
 ((dR (xR p0b) (((4294967295:Int),(0:Int)))):Option Int).bind fun x1=>(some (IntKind.wrap .i64 (fV .xor .u32 (4294967295:Int) x1)))
theorem aKL {p0b:(List UInt8)}{res:Int} (h:aAF p0b=some res):bS Tryz.prog 142 [.c (PV.ls 1 dF p0b)] [] (ci res) []:=by
 unfold aAF at h
 refine cJ (fn:=Tryz.f142) [0,2,3,5,6,7,8,9,10,17,18] (by kernel_rfl) Tryz.func142 r (by kernel_rfl) (by kernel_rfl)<|aH<|sI r<|aF (fr':=[(0,aL)]) r r<|aH<|sI r<|aF (fr':=[(0,aL),(3,aI)]) r r<|aP<|aH<|mL r ?_
 refine aM r (dI sD (cC r))<|mI r<|aF (fr':=[(3,aI),(7,aL),(8,aI),(9,aI)]) r r ?_
 obtain ⟨x1,hx1,h2⟩:=aE h
 refine eB gF (fun j3=>x1=j3) (fun (j3:Int)=>([(3,.c (.int .u32 j3))]:Fr)) (fun (j3:Int)=>([]:St)) ?_ ?_
 ·
  refine bJ<|dV _ (fun (s4:(Int × Int))=>([(3,.c (.int .u32 s4.1)),(7,.c (PV.ls 1 dF p0b)),(8,ci ((p0b).length:Int)),(9,ci s4.2)]:Fr)) (fun (s4:(Int × Int))=>([]:St)) hx1 (aU [] 0 r r r r ⟨lr,lr,lr,lr,trivial⟩ aA) ?_
  intro s4 st4 hs4 ho4
  unfold xR at hs4
  refine aH<|aM r (dJ r r)<|aF (fr':=[(3,aI),(7,aL),(8,aI),(9,aI),(10,aB)]) r r<|aP<|bP hs4 r (fun hb5 h5=>?_) (fun hb5 h5=>?_)
  ·
   refine aW<|bV<|aP<|bJ<|aP<|aQ ?_
   obtain ⟨x6,hx6,h7⟩:=aE h5
   refine aM r (gR (cs:=[PV.int _ _]) pK (cC r) r hx6 r)<|aM r (eG (p:=PV.int _ _) tv5 r r)<|sI r<|aF (fr':=[(3,aI),(5,aI),(7,aL),(8,aI),(9,aI)]) r r<|aH<|mI r<|mI r<|aM r (kL tk5 aLp r)<|aM r (aG8 r r)<|sI r<|aF (fr':=[(3,aI),(7,aL),(8,aI),(9,aI)]) r r<|aP ?_
   refine aQ<|mI r<|aF (fr':=[(3,aI),(7,aL),(8,aI),(9,aI),(17,aI)]) r r ?_
   obtain ⟨x8,hx8,h9⟩:=aE h7
   refine eB (aOw gF) (fun j10=>x8=j10) (fun (j10:Int)=>([(3,.c (.int .u32 j10)),(7,.c (PV.ls 1 dF p0b)),(8,ci ((p0b).length:Int)),(9,ci s4.2)]:Fr)) (fun (j10:Int)=>([]:St)) ?_ ?_
   ·
    refine bJ<|dV _ (fun (s11:(Int × Int))=>([(3,.c (.int .u32 s11.1)),(7,.c (PV.ls 1 dF p0b)),(8,ci ((p0b).length:Int)),(9,ci s4.2),(17,ci s11.2)]:Fr)) (fun (s11:(Int × Int))=>([]:St)) hx8 (aU [] 0 r r r r ⟨lr,lr,lr,lr,lr,trivial⟩ aA) ?_
    intro s11 st11 hs11 ho11
    unfold nK at hs11
    refine aH<|aM r (dJ r r)<|aF (fr':=[(3,aI),(7,aL),(8,aI),(9,aI),(17,aI),(18,aB)]) r r<|aP<|bP hs11 r (fun hb12 h12=>?_) (fun hb12 h12=>?_)
    ·
     refine aW<|bV<|aP<|bJ<|aH<|mI r<|aM r (aNh r r)<|sI r<|aF (fr':=[(3,aI),(6,aI),(7,aL),(8,aI),(9,aI),(17,aI)]) r r<|aQ<|mI r<|aM r (aFq r r (by decide)) ?_
     exact mI r<|aM r (aI9 r r)<|aM r (aG8 r r)<|sI r<|cB (fr':=[(3,aI),(6,aI),(7,aL),(8,aI),(9,aI),(17,aI)]) r<|bX<|bV<|aQ<|aM r (dB r r)<|mI r<|cB (fr':=[(3,aI),(6,aI),(7,aL),(8,aI),(9,aI),(17,aI)]) r<|rX _ (sy h12) (aU [] 0 r r r r ⟨lr,lr,lr,lr,lr,trivial⟩ aA)
    ·
     refine eK<|bR<|bR<|dC ?_
     have h13:=cS h12 ho11
     exact gD _ (sy h13) (aU [] 0 r r r r ⟨lr,lr,lr,lr,trivial⟩ aA)
   ·
    intro j10 hj14
    subst hj14
    exact bX<|bV<|aQ<|aM r (dB r r)<|mI r<|cB (fr':=[(3,aI),(7,aL),(8,aI),(9,aI)]) r<|rX _ (sy h9) (aU [] 0 r r r r ⟨lr,lr,lr,lr,trivial⟩ aA)
  ·
   refine eK<|bR<|bR<|dC ?_
   have h15:=cS h5 ho4
   exact gD _ (sy h15) (aU [] 0 r r r r ⟨lr,trivial⟩ aA)
 ·
  intro j3 hj16
  subst hj16
  refine bV<|aH<|mI r<|aM r (aLd (m:=4294967295) r r)<|aM r (kL aLp tk3 r)<|sI r<|aF (fr':=[(2,aI)]) r r<|bC ?_
  obtain rfl:=sy h2
  exact bB (rs':=[.tmp 2]) r<|bH (v:=aI) r<|aZ<|aN [] r r r lr aA
noncomputable def jH (p0b:(List UInt8)):Option aBO :=
 (aAF p0b).bind fun x1=>some (aBO.mk (IntKind.wrap .u8 (Int.fdiv x1 (2 ^ (min (Int.toNat (24:Int)) (IntKind.bits .i64))))) (IntKind.wrap .u8 (Int.fdiv x1 (2 ^ (min (Int.toNat (16:Int)) (IntKind.bits .i64))))) (IntKind.wrap .u8 (Int.fdiv x1 (2 ^ (min (Int.toNat (8:Int)) (IntKind.bits .i64))))) (IntKind.wrap .u8 x1))
theorem vQ {p0b:(List UInt8)}{res:aBO} (h:jH p0b=some res):bS Tryz.prog 62 [.c (PV.ls 1 dF p0b)] [] (.agg (AV.cs (aMc res))) []:=by
 unfold jH at h
 refine cJ (fn:=Tryz.f62) [0,2,3] (by kernel_rfl) Tryz.func62 r (by kernel_rfl) (by kernel_rfl)<|aH<|gC (n:=0) (cs:=sP) (σ':=[sP]) aQx r r r<|aF (fr':=[(0,aL),(2,.box 0 0)]) r r<|aH<|mL r ?_
 obtain ⟨x1,hx1,h2⟩:=aE h
 refine gV (aX (v:=aI) r (aKL hx1) ⟨lr,trivial⟩ r r r)<|sI r<|aF (fr':=[(2,.box 0 0),(3,aI)]) r r<|aH<|mI r<|aM r (aFq r r (by decide))<|aM r (kL tk3 tk5 r)<|mI r<|aM r (aFq r r (by decide))<|aM r (kL tk3 tk5 r)<|mI r<|aM r (aFq r r (by decide)) ?_
 refine aM r (kL tk3 tk5 r)<|mI r<|aM r (kL tk3 tk5 r)<|aM r (aQe (cs:=sP) (rows:=[[_],[_],[_],[_]]) [0] aQu aQx r r r)<|bU (v:=.agg sP) (us:=sP) (cs:=sP) (σ':=[sP]) r aNK r r r r r r r r<|aF (fr':=[(2,.box 0 0)]) r r<|bC ?_
 obtain rfl:=sy h2
 exact bB (rs':=[.cell 2 81]) r<|cZ (us:=sP) (cs:=sP) aNK r r r r<|aZ<|aN [] r r r (bK r ⟨r,r,r,r,trivial⟩) aA
noncomputable def nP (p0l:(List bI)) (s8:((List UInt8) × Int)):Option (cI ((List UInt8) × Int) (Fl ((List UInt8) × Int) (List UInt8))) :=
 cond (decide (s8.2<((p0l).length:Int))) ((hG p0l s8.2).bind fun x10=>(pP x10).bind fun x12=>cond (!x12) (some (cI.out (Fl.done (([]:(List UInt8)),(11:Int))))) ((jG ([]:List UInt8) x10).bind fun x18=>(app 1 s8.1 x18).bind fun x20=>some (cI.next (x20,(IntKind.wrap .i64 (s8.2+(1:Int))))))) (some (cI.out (Fl.go s8.1)))
noncomputable def iX (p0l:(List bI)):Option ((List UInt8) × Int) :=
 cond (decide ((2000:Int)<((p0l).length:Int))) (some (([]:(List UInt8)),(6:Int))) ((fW ([]:List UInt8) ((p0l).length:Int)).bind fun x3=>((dR (nP p0l) ((x3,(0:Int)))):Option (Fl ((List UInt8) × Int) (List UInt8))).bind fun x5=>Fl.next x5 (fun j7=>((jH j7).bind fun x24=>(lF x24.E0).bind fun x26=>(lF x24.E1).bind fun x28=>(lF x24.E2).bind fun x30=>(lF x24.E3).bind fun x32=>(app 1 j7 ([x26,x28,x30,x32]:List UInt8)).bind fun x34=>some (x34,(0:Int)))))
theorem pG {p0l:(List bI)}{res:((List UInt8) × Int)} (h:iX p0l=some res):bS Tryz.prog 20 [.c (PV.ls 24 cD p0l)] [] (.tup [AV.os 0 1 dF res.1,ci res.2]) []:=by
 unfold iX at h
 refine cJ (fn:=Tryz.f20) [0,2,3,4,6,7,10,14,15,16,17,22] (by kernel_rfl) Tryz.func20 r (by kernel_rfl) (by kernel_rfl)<|aH<|sV (v:=AV.nil) r<|sI r<|aF (fr':=[(0,aL)]) r r<|aP<|aH<|mL r<|aM r (dI aDz (cC r))<|aM r (kA r r)<|aF (fr':=[(0,aL),(10,aB)]) r r ?_
 refine bP h r (fun hb1 h1=>?_) (fun hb1 h1=>?_)
 ·
  refine aH<|sV (v:=AV.nil) r<|sI r<|aF (fr':=[(2,AV.nil),(3,aI)]) r r<|bC<|aJ ?_
  obtain rfl:=sy h1
  exact bB (rs':=[.tmp 2,.tmp 3]) r<|bH (v:=AV.nil) r<|bH (v:=aI) r<|aZ<|aN [1000000] r r r (rO r ⟨(vR r),lr,trivial⟩) aA
 ·
  refine aW<|bV<|aH<|mL r<|aM r (dI aDz (cC r)) ?_
  obtain ⟨x3,hx3,h4⟩:=aE h1
  refine gV (aX (v:=aO) r (gB hx3) ⟨aAG,lr,trivial⟩ r r r)<|sV (v:=aO) r<|aF (fr':=[(0,aL),(4,aO)]) r r<|aP<|aH<|mL r<|aM r (dI aDz (cC r))<|mI r<|aF (fr':=[(4,aO),(14,aL),(15,aI),(16,aI)]) r r ?_
  obtain ⟨x5,hx5,h6⟩:=aE h4
  refine eB gF (fun j7=>x5=Fl.go j7) (fun (j7:(List UInt8))=>([(4,AV.os 0 1 dF j7)]:Fr)) (fun (j7:(List UInt8))=>([]:St)) ?_ ?_
  ·
   refine bJ<|dV _ (fun (s8:((List UInt8) × Int))=>([(4,AV.os 0 1 dF s8.1),(14,.c (PV.ls 24 cD p0l)),(15,ci ((p0l).length:Int)),(16,ci s8.2)]:Fr)) (fun (s8:((List UInt8) × Int))=>([]:St)) hx5 (aU [208] 0 r r r r ⟨lr,lr,lr,lr,trivial⟩ aA) ?_
   intro s8 st8 hs8 ho8
   unfold nP at hs8
   refine aH<|aM r (dJ r r)<|aF (fr':=[(4,aO),(14,aL),(15,aI),(16,aI),(17,aB)]) r r<|aP<|bP hs8 r (fun hb9 h9=>?_) (fun hb9 h9=>?_)
   ·
    refine aW<|bV<|aP<|bJ<|aP<|aQ ?_
    obtain ⟨x10,hx10,h11⟩:=aE h9
    refine aM r (gR (cs:=[PV.int _ _,PV.int _ _,PV.int _ _,PV.int _ _,PV.int _ _,PV.int _ _,PV.int _ _,PV.str _,PV.str _,PV.int _ _,PV.int _ _,PV.str _,PV.ls _ _ _,PV.ls _ _ _,PV.str _,PV.int _ _,PV.int _ _,PV.int _ _,PV.int _ _,PV.int _ _,PV.int _ _,PV.int _ _,PV.int _ _,PV.ls _ _ _]) aEe (cC r) r hx10 r)<|aM r (gM (us:=[PV.int _ _,PV.int _ _,PV.int _ _,PV.int _ _,PV.int _ _,PV.int _ _,PV.int _ _,PV.str _,PV.str _,PV.int _ _,PV.int _ _,PV.str _,PV.ls _ _ _,PV.ls _ _ _,PV.str _,PV.int _ _,PV.int _ _,PV.int _ _,PV.int _ _,PV.int _ _,PV.int _ _,PV.int _ _,PV.int _ _,PV.ls _ _ _]) qF r r r)<|gC (n:=0) (cs:=aG) (σ':=[aG]) aJB r r r<|bU (v:=.agg aD) (us:=aD) (cs:=aG) (σ':=[aD]) r qF r r r r r r r r<|aF (fr':=[(4,aO),(6,.box 0 0),(14,aL),(15,aI),(16,aI)]) r r<|aP<|aH<|aM r (cN (us:=aD) qF r r r r) ?_
    obtain ⟨x12,hx12,h13⟩:=aE h11
    refine gV (aX (v:=aB) r (aBK hx12) ⟨(bK r ⟨r,r,r,r,r,r,r,r,r,r,r,r,r,r,r,r,r,r,r,r,r,r,r,r,trivial⟩),trivial⟩ r r r)<|aM r (eI r)<|aF (fr':=[(4,aO),(6,.box 0 0),(14,aL),(15,aI),(16,aI),(22,aB)]) r r<|bP h13 r (fun hb14 h14=>?_) (fun hb14 h14=>?_)
    ·
     refine aH<|sV (v:=AV.nil) r<|sI r<|aF (fr':=[(2,AV.nil),(3,aI)]) r r<|bC<|aJ<|bA<|aJ<|aJ<|bA<|aJ<|aJ ?_
     have h15:=cS h14 ho8
     have h16:=dQ h15 h6
     obtain rfl:=sy h16
     exact bB (rs':=[.tmp 2,.tmp 3]) r<|bH (v:=AV.nil) r<|bH (v:=aI) r<|aZ<|aN [1000000] r r r (rO r ⟨(vR r),lr,trivial⟩) aA
    ·
     refine aW<|bV<|aQ<|mV (v:=aO) r<|aM r (cN (us:=aD) qF r r r r) ?_
     obtain ⟨x18,hx18,h19⟩:=aE h14
     refine gV (aX (v:=aO) r (sF hx18) ⟨aAG,(bK r ⟨r,r,r,r,r,r,r,r,r,r,r,r,r,r,r,r,r,r,r,r,r,r,r,r,trivial⟩),trivial⟩ r r r) ?_
     obtain ⟨x20,hx20,h21⟩:=aE h19
     exact wX (row:=dF) pK r sD r (lG r) (fun _=>r) hx20<|sV (v:=aO) r<|cB (fr':=[(4,aO),(6,.box 0 0),(14,aL),(15,aI),(16,aI),(22,aB)]) r<|bX<|bV<|aQ<|aM r (dB r r)<|mI r<|cB (fr':=[(4,aO),(6,.box 0 0),(14,aL),(15,aI),(16,aI),(22,aB)]) r<|rX _ (sy h21) (aU [416] 0 r r r r ⟨lr,lr,lr,lr,trivial⟩ aA)
   ·
    refine eK<|bR<|bR<|dC ?_
    have h22:=cS h9 ho8
    exact gD _ (sy h22) (aU [0] 0 r r r r ⟨lr,trivial⟩ aA)
  ·
   intro j7 hj23
   have h23:=iC hj23 h6
   refine bV<|aH<|mV (v:=aO) r ?_
   obtain ⟨x24,hx24,h25⟩:=aE h23
   refine gV (aX (v:=.agg sP) r (vQ hx24) ⟨lr,trivial⟩ r r r)<|gC (n:=0) (cs:=sP) (σ':=[sP]) aQx r r r<|bU (v:=.agg sP) (us:=sP) (cs:=sP) (σ':=[sP]) r aNK r r r r r r r r<|aF (fr':=[(4,aO),(7,.box 0 0)]) r r<|aH<|mV (v:=aO) r<|aM r (aQj aQu r) ?_
   obtain ⟨x26,hx26,h27⟩:=aE h25
   obtain ⟨x28,hx28,h29⟩:=aE h27
   obtain ⟨x30,hx30,h31⟩:=aE h29
   obtain ⟨x32,hx32,h33⟩:=aE h31
   obtain ⟨x34,hx34,h35⟩:=aE h33
   refine aP9 (row:=dF) (ys:=([x26,x28,x30,x32]:List UInt8)) (cs:=sP) (us:=sP) pK r sD r r r r r (aLt hx26 (aLt hx28 (aLt hx30 (aLt hx32 aQA)))) (fun _=>r) hx34<|sV (v:=aO) r<|sI r<|aF (fr':=[(2,aO),(3,aI)]) r r<|bC ?_
   obtain rfl:=sy h35
   exact bB (rs':=[.tmp 2,.tmp 3]) r<|bH (v:=aO) r<|bH (v:=aI) r<|aZ<|aN [512] r r r (rO r ⟨lr,lr,trivial⟩) aA
noncomputable def uM (p0b:(List UInt8)):Option aT :=
 (gA p0b).bind fun x1=>some (aT.mk x1 (0:Int) (0:Int) true)
theorem aDZ {p0b:(List UInt8)}{res:aT} (h:uM p0b=some res):bS Tryz.prog 25 [.c (PV.ls 1 dF p0b)] [] (.box 0 0) [AV.cs (cY res)]:=by
 unfold uM at h
 refine cJ (fn:=Tryz.f25) [0,2] (by kernel_rfl) Tryz.func25 r (by kernel_rfl) (by kernel_rfl)<|aH<|sV (v:=.nilptr) r<|aF (fr':=[(0,aL)]) r r<|aH<|mL r ?_
 obtain ⟨x1,hx1,h2⟩:=aE h
 refine gV (aX (v:=aO) r (jQ hx1) ⟨lr,trivial⟩ r r r)<|aM r (dK (cs:=[aO,aI,aI,aB]) aSm r)<|fS (v:=.agg [aO,aI,aI,aB]) (n:=0) (cs:=[aO,aI,aI,aB]) (σ':=[[aO,aI,aI,aB]]) r r r r r<|sV (v:=.box 0 0) r<|aF (fr':=[(2,.box 0 0)]) r r<|bC ?_
 obtain rfl:=sy h2
 exact bB (rs':=[.tmp 2]) r<|bH (v:=.box 0 0) r<|aZ<|aOF (off:=0) (j:=0) r r r r r (fO ⟨r,r,r,r,trivial⟩ aA)
noncomputable def eV (dA:aT):Option Int :=
 cond (!dA.made_) (some (1:Int)) (some dA.err_)
theorem fC {dA:aT}{res:Int} (h:eV dA=some res):bS Tryz.prog 29 [.box 0 0] [AV.cs (cY dA)] (ci res) [AV.cs (cY dA)]:=by
 unfold eV at h
 refine cJ (fn:=Tryz.f29) [0,2,11] (by kernel_rfl) Tryz.func29 r (by kernel_rfl) (by kernel_rfl)<|aH<|sI r<|aF (fr':=[(0,.box 0 0)]) r r<|aP<|aH<|mV (v:=.box 0 0) r<|aM r (aHT aPm r r)<|mB r<|kG r r r<|mV (v:=.box 0 0) r ?_
 refine kG r r r<|aM r (fX r)<|kG r r r<|aM r (bD aNH r)<|kG r r r<|aM r (aK (v:=aB) tv4 r r r)<|kG r r r<|aM r (eI r)<|aM r (nE r r r)<|aF (fr':=[(0,.box 0 0),(11,aB)]) r r<|bP h r (fun hb1 h1=>?_) (fun hb1 h1=>?_)
 ·
  refine aH<|sI r<|aF (fr':=[(2,aI)]) r r<|bC<|aJ ?_
  obtain rfl:=sy h1
  exact bB (rs':=[.tmp 2]) r<|bH (v:=aI) r<|aZ<|aN [] r r r lr (bW r aA)
 ·
  refine aW<|bV<|aH<|mV (v:=.box 0 0) r<|aM r (fX r)<|aM r (bD aAX r)<|aM r (aK (v:=aI) aJA r r r)<|sI r<|aF (fr':=[(2,aI)]) r r<|bC ?_
  obtain rfl:=sy h1
  exact bB (rs':=[.tmp 2]) r<|bH (v:=aI) r<|aZ<|aN [] r r r lr (bW r aA)
noncomputable def iP (dA:aT):Option Bool :=
 some (cond (!dA.made_) true (!decide (dA.err_=(0:Int))))
theorem oA {dA:aT}{res:Bool} (h:iP dA=some res):bS Tryz.prog 79 [.box 0 0] [AV.cs (cY dA)] (.c (.bool res)) [AV.cs (cY dA)]:=by
 unfold iP at h
 refine cJ (fn:=Tryz.f79) [0,2] (by kernel_rfl) Tryz.func79 r (by kernel_rfl) (by kernel_rfl)<|aH<|sB r<|aF (fr':=[(0,.box 0 0)]) r r<|aH<|mV (v:=.box 0 0) r<|aM r (aHT aPm r r)<|mB r<|kG r r r<|mV (v:=.box 0 0) r<|kG r r r ?_
 refine aM r (fX r)<|kG r r r<|aM r (bD aNH r)<|kG r r r<|aM r (aK (v:=aB) tv4 r r r)<|kG r r r<|aM r (eI r)<|aM r (nE r r r)<|mB r<|og r r r (fun hc=>(bE (v:=.box 0 0) r))<|og r r r (fun hc=>(fX (gx r hc)))<|og r r r (fun hc=>(bD aAX (gx r hc)))<|og r r r (fun hc=>(aK (v:=aI) aJA (gx r hc) r r)) ?_
 refine og r r r (fun hc=>(fI (gx r hc) r))<|aM r (bY r r r (fun e=>eO e))<|sB r<|aF (fr':=[(2,aB)]) r r<|bC ?_
 obtain rfl:=sy h
 exact bB (rs':=[.tmp 2]) r<|bH (v:=aB) r<|aZ<|aN [] r r r lr (bW r aA)
noncomputable def oB (dA:aT) (nC:Int) (jK:Int) (s10:(Int × Int)):Option (cI (Int × Int) (Fl (Int × aT) Unit)) :=
 cond (decide (s10.2<(10:Int))) (cond (decide ((((List.drop (Int.toNat dA.at_) dA.b_)).length:Int)≤s10.2)) (some (cI.out (Fl.done ((0:Int),(aT.mk dA.b_ dA.at_ (4:Int) dA.made_))))) ((hG (List.drop (Int.toNat dA.at_) dA.b_) s10.2).bind fun x16=>(nn (IntKind.wrap .i64 ((7:Int)*s10.2))).bind fun x18=>cond (decide ((128:Int)≤((x16).toNat:Int))) (some (cI.next ((fV .or .u64 s10.1 (IntKind.wrap .u64 ((IntKind.wrap .u64 (fV .and .u8 ((x16).toNat:Int) (127:Int)))*2 ^ (min (Int.toNat (IntKind.wrap .i64 ((7:Int)*s10.2))) (IntKind.bits .u64))))),(IntKind.wrap .i64 (s10.2+(1:Int)))))) (cond (cond (cond (decide ((0:Int)<s10.2)) (decide (((x16).toNat:Int)=(0:Int))) false) true (cond (decide (s10.2=(9:Int))) (decide ((1:Int)<((x16).toNat:Int))) false)) (some (cI.out (Fl.done ((0:Int),(aT.mk dA.b_ dA.at_ (3:Int) dA.made_))))) (cond (cond (decide ((fV .xor .i64 (IntKind.wrap .i64 (Int.fdiv (fV .or .u64 s10.1 (IntKind.wrap .u64 ((IntKind.wrap .u64 (fV .and .u8 ((x16).toNat:Int) (127:Int)))*2 ^ (min (Int.toNat (IntKind.wrap .i64 ((7:Int)*s10.2))) (IntKind.bits .u64))))) (2 ^ (min (Int.toNat (1:Int)) (IntKind.bits .u64))))) (IntKind.wrap .i64 (0 - (IntKind.wrap .i64 (fV .and .u64 (fV .or .u64 s10.1 (IntKind.wrap .u64 ((IntKind.wrap .u64 (fV .and .u8 ((x16).toNat:Int) (127:Int)))*2 ^ (min (Int.toNat (IntKind.wrap .i64 ((7:Int)*s10.2))) (IntKind.bits .u64))))) (1:Int))))))<nC)) true (decide (jK<(fV .xor .i64 (IntKind.wrap .i64 (Int.fdiv (fV .or .u64 s10.1 (IntKind.wrap .u64 ((IntKind.wrap .u64 (fV .and .u8 ((x16).toNat:Int) (127:Int)))*2 ^ (min (Int.toNat (IntKind.wrap .i64 ((7:Int)*s10.2))) (IntKind.bits .u64))))) (2 ^ (min (Int.toNat (1:Int)) (IntKind.bits .u64))))) (IntKind.wrap .i64 (0 - (IntKind.wrap .i64 (fV .and .u64 (fV .or .u64 s10.1 (IntKind.wrap .u64 ((IntKind.wrap .u64 (fV .and .u8 ((x16).toNat:Int) (127:Int)))*2 ^ (min (Int.toNat (IntKind.wrap .i64 ((7:Int)*s10.2))) (IntKind.bits .u64))))) (1:Int))))))))) (some (cI.out (Fl.done ((0:Int),(aT.mk dA.b_ (IntKind.wrap .i64 (dA.at_+(IntKind.wrap .i64 (s10.2+(1:Int))))) (14:Int) dA.made_))))) (some (cI.out (Fl.done ((fV .xor .i64 (IntKind.wrap .i64 (Int.fdiv (fV .or .u64 s10.1 (IntKind.wrap .u64 ((IntKind.wrap .u64 (fV .and .u8 ((x16).toNat:Int) (127:Int)))*2 ^ (min (Int.toNat (IntKind.wrap .i64 ((7:Int)*s10.2))) (IntKind.bits .u64))))) (2 ^ (min (Int.toNat (1:Int)) (IntKind.bits .u64))))) (IntKind.wrap .i64 (0 - (IntKind.wrap .i64 (fV .and .u64 (fV .or .u64 s10.1 (IntKind.wrap .u64 ((IntKind.wrap .u64 (fV .and .u8 ((x16).toNat:Int) (127:Int)))*2 ^ (min (Int.toNat (IntKind.wrap .i64 ((7:Int)*s10.2))) (IntKind.bits .u64))))) (1:Int)))))),(aT.mk dA.b_ (IntKind.wrap .i64 (dA.at_+(IntKind.wrap .i64 (s10.2+(1:Int))))) dA.err_ dA.made_))))))))) (some (cI.out (Fl.go ())))
noncomputable def eQ (nC:Int) (jK:Int) (dA:aT):Option (Int × aT) :=
 (iP dA).bind fun x1=>cond x1 (some ((0:Int),dA)) ((aND dA.b_ dA.at_).bind fun x5=>((dR (oB dA nC jK) (((0:Int),(0:Int)))):Option (Fl (Int × aT) Unit)).bind fun x7=>Fl.next x7 (fun j9=>(some ((0:Int),(aT.mk dA.b_ dA.at_ (3:Int) dA.made_)))))
theorem fD {nC:Int}{jK:Int}{dA:aT}{res:(Int × aT)} (h:eQ nC jK dA=some res):bS Tryz.prog 64 [.box 0 0,ci nC,ci jK] [AV.cs (cY dA)] (ci res.1) [AV.cs (cY res.2)]:=by
 unfold eQ at h
 refine cJ (fn:=Tryz.f64) [0,1,2,6,7,8,9,10,11,13,23,24,29,46,60,88] (by kernel_rfl) Tryz.func64 r (by kernel_rfl) (by kernel_rfl)<|aH<|sI r<|aF (fr':=[(0,.box 0 0),(1,aI),(2,aI)]) r r<|aP<|aH<|mV (v:=.box 0 0) r ?_
 obtain ⟨x1,hx1,h2⟩:=aE h
 refine eD (v:=aB) (σ':=[cP]) [0] r (oA hx1) r r ⟨lr,trivial⟩ (fO ⟨r,r,r,r,trivial⟩ aA) r r r<|aF (fr':=[(0,.box 0 0),(1,aI),(2,aI),(13,aB)]) r r<|bP h2 r (fun hb3 h3=>?_) (fun hb3 h3=>?_)
 ·
  refine aH<|sI r<|aF (fr':=[(6,aI)]) r r<|bC<|aJ ?_
  obtain rfl:=sy h3
  exact bB (rs':=[.tmp 6]) r<|bH (v:=aI) r<|aZ<|aN [] r r r lr (fO ⟨r,r,r,r,trivial⟩ aA)
 ·
  refine aW<|bV<|aP<|hF [.q 0,.q 1,.q 2,.q 3,.q 4,.q 5,.q 6,.q 7,.q 8,.n 9 []] [(some 14,[0]),(some 15,[14]),(some 16,[15]),(some 17,[16]),(some 18,[0]),(some 19,[18]),(some 20,[19]),(some 21,[20]),(some 22,[17,21]),(some 7,[22])] [0,1,3,7,0,16,48,112,255,511] (by kernel_rfl)<|dq r r (bE (v:=.box 0 0) r)<|dq r r (fX r)<|dq r r (bD aFQ r)<|dq r r (aK (v:=aL) aNJ r r r)<|dq r r (bE (v:=.box 0 0) r)<|dq r r (fX r)<|dq r r (bD yE r)<|dq r r (aK (v:=aI) eP r r r) ?_
  obtain ⟨x5,hx5,h6⟩:=aE h3
  refine dq r r (aNl aNI pK (cC r) r (aHi hx5).1)<|d_n r ?_ r
  refine sL r<|aCI<|⟨tD,?_⟩
  refine uE (fr':=[(0,.box 0 0),(1,aI),(2,aI),(7,aL)]) r r<|aH<|sI r<|aF (fr':=[(0,.box 0 0),(1,aI),(2,aI),(7,aL),(8,aI)]) r r<|aP<|aH<|mI r<|aF (fr':=[(0,.box 0 0),(1,aI),(2,aI),(7,aL),(8,aI),(23,aI)]) r r ?_
  obtain ⟨x7,hx7,h8⟩:=aE h6
  refine eB gF (fun j9=>x7=Fl.go j9) (fun (j9:Unit)=>([(0,.box 0 0)]:Fr)) (fun (j9:Unit)=>([[.c (PV.ls 1 dF dA.b_),ci dA.at_,ci dA.err_,.c (.bool dA.made_)]]:St)) ?_ ?_
  ·
   refine bJ<|dV _ (fun (s10:(Int × Int))=>([(0,.box 0 0),(1,ci nC),(2,ci jK),(7,.c (PV.ls 1 dF (List.drop (Int.toNat dA.at_) dA.b_))),(8,.c (.int .u64 s10.1)),(23,ci s10.2)]:Fr)) (fun (s10:(Int × Int))=>([[.c (PV.ls 1 dF dA.b_),ci dA.at_,ci dA.err_,.c (.bool dA.made_)]]:St)) hx7 (aU [] 1 r r r r ⟨lr,lr,lr,lr,lr,lr,trivial⟩ (bW r aA)) ?_
   intro s10 st10 hs10 ho10
   unfold oB at hs10
   refine aH<|aM r (dJ r r)<|aF (fr':=[(0,.box 0 0),(1,aI),(2,aI),(7,aL),(8,aI),(23,aI),(24,aB)]) r r<|aP<|bP hs10 r (fun hb11 h11=>?_) (fun hb11 h11=>?_)
   ·
    refine aW<|bV<|aP<|bJ<|aH<|mI r<|sI r<|aF (fr':=[(0,.box 0 0),(1,aI),(2,aI),(7,aL),(8,aI),(9,aI),(23,aI)]) r r<|aP<|aH<|mI r ?_
    refine mL r<|aM r (dI sD (cC r))<|aM r (nM r r)<|aF (fr':=[(0,.box 0 0),(1,aI),(2,aI),(7,aL),(8,aI),(9,aI),(23,aI),(29,aB)]) r r<|bP h11 r (fun hb12 h12=>?_) (fun hb12 h12=>?_)
    ·
     refine aH<|mV (v:=.box 0 0) r<|aM r (fX r)<|aM r (bD aAX r)<|bU (v:=aI) (us:=[aI]) (cs:=cP) (σ':=[cP]) r aJA r r r r r r r r<|aF (fr':=[]) r r<|aH<|sI r<|aF (fr':=[(6,aI)]) r r<|bC<|aJ ?_
     refine bA<|aJ<|aJ<|bA<|aJ<|aJ ?_
     have h13:=cS h12 ho10
     have h14:=dQ h13 h8
     obtain rfl:=sy h14
     exact bB (rs':=[.tmp 6]) r<|bH (v:=aI) r<|aZ<|aN [] r r r lr (fO ⟨r,r,r,r,trivial⟩ aA)
    ·
     refine aW<|bV<|aH<|mL r<|mI r ?_
     obtain ⟨x16,hx16,h17⟩:=aE h12
     refine aM r (gR (cs:=[PV.int _ _]) pK (cC r) r hx16 r)<|aM r (eG (p:=PV.int _ _) tv5 r r)<|sI r<|aF (fr':=[(0,.box 0 0),(1,aI),(2,aI),(7,aL),(8,aI),(9,aI),(10,aI),(23,aI)]) r r<|aH<|mI r<|mI r<|aM r (aNh r r)<|aM r (kL tk5 aAY r)<|mI r<|aM r (aI9 r r) ?_
     obtain ⟨x18,hx18,h19⟩:=aE h17
     refine aM r (aPE r r (aOQ hx18).1)<|aM r (aRm r r)<|sI r<|aF (fr':=[(0,.box 0 0),(1,aI),(2,aI),(7,aL),(8,aI),(9,aI),(10,aI),(23,aI)]) r r<|aP<|aH<|mI r<|aM r (nM r r)<|aF (fr':=[(0,.box 0 0),(1,aI),(2,aI),(7,aL),(8,aI),(9,aI),(10,aI),(23,aI),(46,aB)]) r r<|bP h19 r (fun hb20 h20=>?_) (fun hb20 h20=>?_)
     ·
      exact eK<|bR<|dC<|bV<|aQ<|aM r (dB r r)<|mI r<|cB (fr':=[(0,.box 0 0),(1,aI),(2,aI),(7,aL),(8,aI),(9,aI),(10,aI),(23,aI),(46,aB)]) r<|rX _ (sy h20) (aU [] 1 r r r r ⟨lr,lr,lr,lr,lr,lr,trivial⟩ (bW r aA))
     ·
      refine aW<|bV<|aP<|aH<|mI r<|aM r (kA r r)<|mB r<|og r r r (fun hc=>(bE (v:=aI) r))<|og r r r (fun hc=>(bM (gx r hc) r))<|aM r (bO r r r (fun e=>eO e))<|mB r<|og r r r (fun hc=>(bE (v:=aI) r)) ?_
      refine og r r r (fun hc=>(bM (gx r hc) r))<|og r r r (fun hc=>(bE (v:=aB) (gx r hc)))<|eL r r (fun hc=>eS r (bE (v:=aI) r))<|eL r r (fun hc=>eS r (kA (gx r hc) r))<|og r r r (fun hc=>(bO (gx r hc) r r (fun e=>oC hc (eO e))))<|aM r (bY r r r (fun e=>eO e))<|aF (fr':=[(0,.box 0 0),(1,aI),(2,aI),(8,aI),(9,aI),(60,aB)]) r r<|bP h20 r (fun hb21 h21=>?_) (fun hb21 h21=>?_)
      ·
       refine aH<|mV (v:=.box 0 0) r<|aM r (fX r)<|aM r (bD aAX r)<|bU (v:=aI) (us:=[aI]) (cs:=cP) (σ':=[cP]) r aJA r r r r r r r r<|aF (fr':=[]) r r<|aH<|sI r<|aF (fr':=[(6,aI)]) r r<|bC<|aJ ?_
       refine bA<|aJ<|aJ<|bA<|aJ<|aJ ?_
       have h22:=cS h21 ho10
       have h23:=dQ h22 h8
       obtain rfl:=sy h23
       exact bB (rs':=[.tmp 6]) r<|bH (v:=aI) r<|aZ<|aN [] r r r lr (fO ⟨r,r,r,r,trivial⟩ aA)
      ·
       refine aW<|bV<|aH<|mV (v:=.box 0 0) r<|aM r (fX r)<|aM r (bD yE r)<|aM r (aK (v:=aI) eP r r r)<|mI r<|aM r (dB r r)<|aM r (dB r r)<|aM r (fX r)<|aM r (bD yE r) ?_
       refine bU (v:=aI) (us:=[aI]) (cs:=cP) (σ':=[cP]) r eP r r r r r r r r<|aF (fr':=[(0,.box 0 0),(1,aI),(2,aI),(8,aI)]) r r<|aH<|mI r<|aM r (aFq r r (by decide))<|aM r (kL aAY tk3 r)<|mI r<|aM r (aNh r r)<|aM r (kL aAY tk3 r)<|aM r (aLe r)<|aM r (aG8 r r)<|sI r ?_
       refine aF (fr':=[(0,.box 0 0),(1,aI),(2,aI),(11,aI)]) r r<|aP<|aH<|mI r<|mI r<|aM r (dJ r r)<|mB r<|og r r r (fun hc=>(bE (v:=aI) r))<|og r r r (fun hc=>(bE (v:=aI) r))<|og r r r (fun hc=>(kA (gx r hc) (gx r hc)))<|aM r (bY r r r (fun e=>eO e))<|aF (fr':=[(0,.box 0 0),(11,aI),(88,aB)]) r r ?_
       refine bP h21 r (fun hb25 h25=>?_) (fun hb25 h25=>?_)
       ·
        refine aH<|mV (v:=.box 0 0) r<|aM r (fX r)<|aM r (bD aAX r)<|bU (v:=aI) (us:=[aI]) (cs:=cP) (σ':=[cP]) r aJA r r r r r r r r<|aF (fr':=[]) r r<|aH<|sI r<|aF (fr':=[(6,aI)]) r r<|bC<|aJ ?_
        refine bA<|aJ<|aJ<|bA<|aJ<|aJ ?_
        have h26:=cS h25 ho10
        have h27:=dQ h26 h8
        obtain rfl:=sy h27
        exact bB (rs':=[.tmp 6]) r<|bH (v:=aI) r<|aZ<|aN [] r r r lr (fO ⟨r,r,r,r,trivial⟩ aA)
       ·
        refine aW<|bV<|aH<|mI r<|sI r<|aF (fr':=[(6,aI)]) r r<|bC<|bA<|aJ<|aJ<|bA<|aJ ?_
        refine aJ ?_
        have h29:=cS h25 ho10
        have h30:=dQ h29 h8
        obtain rfl:=sy h30
        exact bB (rs':=[.tmp 6]) r<|bH (v:=aI) r<|aZ<|aN [] r r r lr (fO ⟨r,r,r,r,trivial⟩ aA)
   ·
    refine eK<|bR<|bR<|dC ?_
    have h32:=cS h11 ho10
    exact gD _ (sy h32) (aU [] 1 r r r r ⟨lr,trivial⟩ (bW r aA))
  ·
   intro j9 hj33
   have h33:=iC hj33 h8
   refine bV<|aH<|mV (v:=.box 0 0) r<|aM r (fX r)<|aM r (bD aAX r)<|bU (v:=aI) (us:=[aI]) (cs:=cP) (σ':=[cP]) r aJA r r r r r r r r<|aF (fr':=[]) r r<|aH<|sI r<|aF (fr':=[(6,aI)]) r r<|bC ?_
   obtain rfl:=sy h33
   exact bB (rs':=[.tmp 6]) r<|bH (v:=aI) r<|aZ<|aN [] r r r lr (fO ⟨r,r,r,r,trivial⟩ aA)
noncomputable def gI (aHR:Int) (dA:aT):Option ((List UInt8) × aT) :=
 (eQ (0:Int) aHR dA).bind fun x1=>(iP x1.2).bind fun x3=>cond x3 (some (([]:List UInt8),x1.2)) (cond (decide ((IntKind.wrap .i64 (((x1.2.b_).length:Int) - x1.2.at_))<x1.1)) (some (([]:List UInt8),(aT.mk x1.2.b_ x1.2.at_ (4:Int) x1.2.made_))) ((aO4 x1.2.b_ x1.2.at_ (IntKind.wrap .i64 (x1.2.at_+x1.1))).bind fun x9=>some ((List.drop (Int.toNat x1.2.at_) (List.take (Int.toNat (IntKind.wrap .i64 (x1.2.at_+x1.1))) x1.2.b_)),(aT.mk x1.2.b_ (IntKind.wrap .i64 (x1.2.at_+x1.1)) x1.2.err_ x1.2.made_))))
theorem jN {aHR:Int}{dA:aT}{res:((List UInt8) × aT)} (h:gI aHR dA=some res):bS Tryz.prog 71 [.box 0 0,ci aHR] [AV.cs (cY dA)] (.c (.str res.1)) [AV.cs (cY res.2)]:=by
 unfold gI at h
 refine cJ (fn:=Tryz.f71) [0,1,4,5,6,11,23] (by kernel_rfl) Tryz.func71 r (by kernel_rfl) (by kernel_rfl)<|aH<|sS r<|aF (fr':=[(0,.box 0 0),(1,aI)]) r r<|aH<|mV (v:=.box 0 0) r<|mI r ?_
 obtain ⟨x1,hx1,h2⟩:=aE h
 refine eD (v:=aI) (σ':=[cP]) [0] r (fD hx1) r r ⟨lr,lr,lr,trivial⟩ (fO ⟨r,r,r,r,trivial⟩ aA) r r r<|sI r<|aF (fr':=[(0,.box 0 0),(5,aI)]) r r<|aP<|aH<|mV (v:=.box 0 0) r ?_
 obtain ⟨x3,hx3,h4⟩:=aE h2
 refine eD (v:=aB) (σ':=[cP]) [0] r (oA hx3) r r ⟨lr,trivial⟩ (fO ⟨r,r,r,r,trivial⟩ aA) r r r<|aF (fr':=[(0,.box 0 0),(5,aI),(11,aB)]) r r<|bP h4 r (fun hb5 h5=>?_) (fun hb5 h5=>?_)
 ·
  refine aH<|sS r<|aF (fr':=[(4,aS)]) r r<|bC<|aJ ?_
  obtain rfl:=sy h5
  exact bB (rs':=[.tmp 4]) r<|bH (v:=aS) r<|aZ<|aN [] r r r lr (fO ⟨r,r,r,r,trivial⟩ aA)
 ·
  refine aW<|bV<|aP<|aP<|hF [.q 0,.q 1,.q 2,.q 3,.q 4,.q 5,.q 6,.q 7,.q 8,.q 9,.q 10,.q 11] [(some 12,[5]),(some 13,[0]),(some 14,[13]),(some 15,[14]),(some 16,[15]),(some 17,[16]),(some 18,[0]),(some 19,[18]),(some 20,[19]),(some 21,[20]),(some 22,[17,21]),(some 23,[12,22])] [0,0,2,6,14,30,0,64,192,448,1022,2047] (by kernel_rfl)<|dq r r (bE (v:=aI) r)<|dq r r (bE (v:=.box 0 0) r)<|dq r r (fX r)<|dq r r (bD aFQ r)<|dq r r (aK (v:=aL) aNJ r r r)<|dq r r (dI sD (cC r))<|dq r r (bE (v:=.box 0 0) r)<|dq r r (fX r) ?_
  refine dq r r (bD yE r)<|dq r r (aK (v:=aI) eP r r r)<|dq r r (aFr r r)<|dq r r (kA r r)<|uE (fr':=[(0,.box 0 0),(5,aI),(23,aB)]) r r<|bP h5 r (fun hb7 h7=>?_) (fun hb7 h7=>?_)
  ·
   refine aH<|mV (v:=.box 0 0) r<|aM r (fX r)<|aM r (bD aAX r)<|bU (v:=aI) (us:=[aI]) (cs:=cP) (σ':=[cP]) r aJA r r r r r r r r<|aF (fr':=[]) r r<|aH<|sS r<|aF (fr':=[(4,aS)]) r r<|bC<|aJ ?_
   obtain rfl:=sy h7
   exact bB (rs':=[.tmp 4]) r<|bH (v:=aS) r<|aZ<|aN [] r r r lr (fO ⟨r,r,r,r,trivial⟩ aA)
  ·
   refine aW<|bV<|aP<|hF [.q 0,.q 1,.q 2,.q 3,.q 4,.q 5,.q 6,.q 7,.q 8,.q 9,.q 10,.q 11,.q 12,.q 13,.q 14,.q 15,.n 16 []] [(some 27,[0]),(some 28,[27]),(some 29,[28]),(some 30,[29]),(some 31,[0]),(some 32,[31]),(some 33,[32]),(some 34,[33]),(some 35,[0]),(some 36,[35]),(some 37,[36]),(some 38,[37]),(some 39,[5]),(some 40,[38,39]),(some 41,[30,34,40]),(some 42,[41]),(some 6,[42])] [0,1,3,7,0,16,48,112,0,256,768,1792,0,7936,16383,32767,65535] (by kernel_rfl)<|dq r r (bE (v:=.box 0 0) r)<|dq r r (fX r)<|dq r r (bD aFQ r)<|dq r r (aK (v:=aL) aNJ r r r)<|dq r r (bE (v:=.box 0 0) r)<|dq r r (fX r)<|dq r r (bD yE r)<|dq r r (aK (v:=aI) eP r r r)<|dq r r (bE (v:=.box 0 0) r) ?_
   refine dq r r (fX r)<|dq r r (bD yE r)<|dq r r (aK (v:=aI) eP r r r)<|dq r r (bE (v:=aI) r)<|dq r r (dB r r) ?_
   obtain ⟨x9,hx9,h10⟩:=aE h7
   refine dq r r (aQi aNI pK (cC r) r r (aMk hx9).1)<|dq r r (aI8 aPH pJ (cC r))<|d_n r ?_ r
   refine sS r<|aCI<|⟨tD,?_⟩
   refine uE (fr':=[(0,.box 0 0),(5,aI),(6,aS)]) r r<|aH<|mV (v:=.box 0 0) r<|aM r (fX r)<|aM r (bD yE r)<|aM r (aK (v:=aI) eP r r r)<|mI r<|aM r (dB r r)<|aM r (fX r)<|aM r (bD yE r)<|bU (v:=aI) (us:=[aI]) (cs:=cP) (σ':=[cP]) r eP r r r r r r r r<|aF (fr':=[(6,aS)]) r r ?_
   refine aH<|mS r<|sS r<|aF (fr':=[(4,aS)]) r r<|bC ?_
   obtain rfl:=sy h10
   exact bB (rs':=[.tmp 4]) r<|bH (v:=aS) r<|aZ<|aN [] r r r lr (fO ⟨r,r,r,r,trivial⟩ aA)
noncomputable def lD (p1e:Int) (dA:aT):Option aT :=
 (iP dA).bind fun x1=>cond (!x1) (some (aT.mk dA.b_ dA.at_ p1e dA.made_)) (some dA)
theorem nZ {p1e:Int}{dA:aT}{res:aT} (h:lD p1e dA=some res):bS Tryz.prog 74 [.box 0 0,ci p1e] [AV.cs (cY dA)] (.any) [AV.cs (cY res)]:=by
 unfold lD at h
 refine cJ (fn:=Tryz.f74) [0,1,6] (by kernel_rfl) Tryz.func74 r (by kernel_rfl) (by kernel_rfl)<|aH<|mV (v:=.box 0 0) r ?_
 obtain ⟨x1,hx1,h2⟩:=aE h
 refine eD (v:=aB) (σ':=[cP]) [0] r (oA hx1) r r ⟨lr,trivial⟩ (fO ⟨r,r,r,r,trivial⟩ aA) r r r<|aM r (eI r)<|aF (fr':=[(0,.box 0 0),(1,aI),(6,aB)]) r r<|bP h2 r (fun hb3 h3=>?_) (fun hb3 h3=>?_)
 ·
  refine aQ<|mV (v:=.box 0 0) r<|mI r<|aM r (fX r)<|aM r (bD aAX r)<|bU (v:=aI) (us:=[aI]) (cs:=cP) (σ':=[cP]) r aJA r r r r r r r r<|cB (fr':=[(0,.box 0 0),(1,aI),(6,aB)]) r ?_
  obtain rfl:=sy h3
  exact aPy (rs':=[]) r<|aZ<|aN [] r r r (AV.le_any _) (fO ⟨r,r,r,r,trivial⟩ aA)
 ·
  refine aW ?_
  obtain rfl:=sy h3
  exact aPy (rs':=[]) r<|aZ<|aN [] r r r (AV.le_any _) (fO ⟨r,r,r,r,trivial⟩ aA)
noncomputable def gX (xU:Bool) (fB:Int) (lZ:aT):Option (Bool × aT) :=
 (((eV lZ).bind fun x4=>cond (cond (decide (x4=(0:Int))) (!xU) false) ((lD (3:Int) lZ).bind fun x7=>some x7) (some lZ)):Option aT).bind fun x1=>((eV x1).bind fun x10=>some ((decide (x10=(0:Int))),x1))
theorem jM {xU:Bool}{fB:Int}{lZ:aT}{res:(Bool × aT)} (h:gX xU fB lZ=some res):bS Tryz.prog 183 [.box 0 0,.c (.bool xU)] [[.box 1 0,ci fB],AV.cs (cY lZ)] (.c (.bool res.1)) [[.box 1 0,ci fB],AV.cs (cY res.2)]:=by
 unfold gX at h
 refine cJ (fn:=Tryz.f183) [0,1,4,14] (by kernel_rfl) Tryz.func183 r (by kernel_rfl) (by kernel_rfl)<|aH<|sB r<|aF (fr':=[(0,.box 0 0),(1,aB)]) r r ?_
 obtain ⟨x1,hx1,h2⟩:=aE h
 refine fY (fun j3=>x1=j3) (fun (j3:aT)=>([(0,.box 0 0)]:Fr)) (fun (j3:aT)=>([[.box 1 0,ci fB],[.c (PV.ls 1 dF j3.b_),ci j3.at_,ci j3.err_,.c (.bool j3.made_)]]:St)) ?_ ?_
 ·
  refine aH<|mV (v:=.box 0 0) r<|aM r (fX r)<|aM r (bD uX r)<|aM r (aK (v:=.box 1 0) aGx r r r) ?_
  obtain ⟨x4,hx4,h5⟩:=aE hx1
  refine eD (v:=aI) (σ':=[[.box 1 0,aI],cP]) [1] r (fC hx4) r r ⟨lr,trivial⟩ (fO ⟨r,r,r,r,trivial⟩ aA) r r r<|aM r (bM r r)<|mB r<|og r r r (fun hc=>(bE (v:=aB) r))<|og r r r (fun hc=>(eI (gx r hc)))<|aM r (bO r r r (fun e=>eO e))<|aF (fr':=[(0,.box 0 0),(14,aB)]) r r<|bP h5 r (fun hb6 h6=>?_) (fun hb6 h6=>?_)
  ·
   refine aQ<|mV (v:=.box 0 0) r<|aM r (fX r)<|aM r (bD uX r)<|aM r (aK (v:=.box 1 0) aGx r r r) ?_
   obtain ⟨x7,hx7,h8⟩:=aE h6
   exact eD (v:=_) (σ':=[[.box 1 0,aI],cP]) [1] r (nZ hx7) r r ⟨lr,lr,trivial⟩ (fO ⟨r,r,r,r,trivial⟩ aA) r r r<|cB (fr':=[(0,.box 0 0),(14,aB)]) r<|gD _ (sy h8) (aU [] 2 r r r r ⟨lr,trivial⟩ (bW r (bW r aA)))
  ·
   exact aW<|gD _ (sy h6) (aU [] 2 r r r r ⟨lr,trivial⟩ (bW r (bW r aA)))
 ·
  intro j3 hj9
  subst hj9
  refine aH<|mV (v:=.box 0 0) r<|aM r (fX r)<|aM r (bD uX r)<|aM r (aK (v:=.box 1 0) aGx r r r) ?_
  obtain ⟨x10,hx10,h11⟩:=aE h2
  refine eD (v:=aI) (σ':=[[.box 1 0,aI],cP]) [1] r (fC hx10) r r ⟨lr,trivial⟩ (fO ⟨r,r,r,r,trivial⟩ aA) r r r<|aM r (bM r r)<|sB r<|aF (fr':=[(4,aB)]) r r<|bC ?_
  obtain rfl:=sy h11
  exact bB (rs':=[.tmp 4]) r<|bH (v:=aB) r<|aZ<|aN [] r r r lr (bW r (fO ⟨r,r,r,r,trivial⟩ aA))
end Go.Proofs.YtnigjppddilpcaaGreatDoor
