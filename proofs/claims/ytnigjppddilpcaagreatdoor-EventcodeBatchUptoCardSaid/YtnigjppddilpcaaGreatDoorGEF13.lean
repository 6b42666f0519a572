import Derived.Test.YtnigjppddilpcaaGreatDoorGETy
import Derived.Test.YtnigjppddilpcaaGreatDoorGEF0
import Derived.Test.YtnigjppddilpcaaGreatDoorGEF1
import Derived.Test.YtnigjppddilpcaaGreatDoorGEF2
import Derived.Test.YtnigjppddilpcaaGreatDoorGEF3
import Derived.Test.YtnigjppddilpcaaGreatDoorGEF4
import Derived.Test.YtnigjppddilpcaaGreatDoorGEF6
import Derived.Test.YtnigjppddilpcaaGreatDoorGEF10
import Derived.Test.YtnigjppddilpcaaGreatDoorGEF12
namespace Go.Proofs.YtnigjppddilpcaaGreatDoor
open Go Abs
set_option maxRecDepth 100000
set_option linter.unusedVariables false
set_option linter.unusedSimpArgs false
noncomputable def jY (p0e:bI) (aB0:(List UInt8)):Option Bool :=
 ((cond (decide ((50:Int)<((aB0).length:Int))) ((iH).bind fun x5=>some (Fl.done x5)) ((nL ([p0e]:List bI)).bind fun x9=>cond x9 ((iH).bind fun x12=>some (Fl.done x12)) ((qC p0e).bind fun x16=>cond (!x16) ((iH).bind fun x19=>some (Fl.done x19)) (some (Fl.go ()))))):Option (Fl Bool Unit)).bind fun x1=>Fl.next x1 (fun j3=>((jG ([]:List UInt8) p0e).bind fun x24=>(app 1 x24 aB0).bind fun x26=>(uM x26).bind fun x28=>(lC x28).bind fun x30=>(qD p0e x30.1).bind fun x32=>cond x32 ((eV x30.2).bind fun x35=>cond (decide (x35=(0:Int))) ((lE x30.2).bind fun x38=>cond (decide (x38=((aB0).length:Int))) ((iH).bind fun x41=>some x41) (some false)) (some false)) (some false)))
theorem aAe {p0e:bI}{aB0:(List UInt8)}{res:Bool} (h:jY p0e aB0=some res):bS Tryz.prog 8 [.agg (AV.cs (cD p0e)),.c (PV.ls 1 dF aB0)] [] (.c (.bool res)) []:=by
 unfold jY at h
 refine cJ (fn:=Tryz.f8) [0,1,2,4,5,6,7,20,30] (by kernel_rfl) Tryz.func8 r (by kernel_rfl) (by kernel_rfl)<|aH<|fS (v:=.agg aD) (n:=0) (cs:=aD) (σ':=[aD]) r r r r r<|sB r<|aF (fr':=[(1,aL),(2,.box 0 0)]) r r ?_
 obtain ⟨x1,hx1,h2⟩:=aE h
 refine fY (fun j3=>x1=Fl.go j3) (fun (j3:Unit)=>([(1,.c (PV.ls 1 dF aB0)),(2,.box 0 0)]:Fr)) (fun (j3:Unit)=>([[ci p0e.ID,ci p0e.Kind,ci p0e.Time,ci p0e.Seq,ci p0e.Ref,ci p0e.N,ci p0e.Code,.c (.str p0e.Name),.c (.str p0e.Key),ci p0e.Data.Kind,ci p0e.Data.Int,.c (.str p0e.Data.Text),.c (PV.ls 5 bF p0e.Data.Items),.c (PV.ls 1 eA p0e.Data.Keys),.c (.str p0e.Opts.Queue),ci p0e.Opts.ToStart,ci p0e.Opts.ToClose,ci p0e.Opts.Total,ci p0e.Opts.Beat,ci p0e.Opts.First,ci p0e.Opts.Coef,ci p0e.Opts.Most,ci p0e.Opts.Attempts,.c (PV.ls 1 eA p0e.Opts.Fatal)]]:St)) ?_ ?_
 ·
  refine aH<|mL r<|aM r (dI sD (cC r))<|aM r (kA r r)<|mB r<|aKt hx1 (fun hb4 h4=>?_) (fun hb4 h4=>?_)
  ·
   refine rZ r r hb4<|rZ r r hb4<|rZ r r hb4<|aM r (vI r hb4 r)<|mB r<|rZ r r r<|rZ r r r<|rZ r r r<|aM r (vI r r r)<|aF (fr':=[(1,aL),(2,.box 0 0),(20,aB)]) r r<|fL r<|aP<|aQ ?_
   obtain ⟨x5,hx5,h6⟩:=aE h4
   refine gV (aX (v:=aB) r (iQ hx5) trivial r r r)<|sB r<|aF (fr':=[(4,aB)]) r r<|bC<|aJ ?_
   have h7:=dQ h6 h2
   obtain rfl:=sy h7
   exact bB (rs':=[.tmp 4]) r<|bH (v:=aB) r<|aZ<|aN [] r r r lr aA
  ·
   refine kG r r hb4<|aM r (cN (us:=aD) qF r r r r)<|kG r r hb4<|kT (row:=cD) (xs:=([p0e]:List bI)) (rows:=[[_,_,_,_,_,_,_,_,_,_,_,_,_,_,_,_,_,_,_,_,_,_,_,_]]) (σ':=[aD]) [0,0,0,0,0,0,0,0,0,0,0,0,5,1,0,0,0,0,0,0,0,0,0,1] aEe r r r (cM r gY) r r<|kG r r hb4 ?_
   obtain ⟨x9,hx9,h10⟩:=aE h4
   refine gV (aX (v:=aB) r (yF hx9) ⟨lr,trivial⟩ r r r)<|aM r (nE r hb4 r)<|mB r<|aKt h10 (fun hb11 h11=>?_) (fun hb11 h11=>?_)
   ·
    refine rZ r r hb11<|rZ r r hb11<|rZ r r hb11<|aM r (vI r hb11 r)<|aF (fr':=[(1,aL),(2,.box 0 0),(20,aB)]) r r<|fL r<|aP<|aQ ?_
    obtain ⟨x12,hx12,h13⟩:=aE h11
    refine gV (aX (v:=aB) r (iQ hx12) trivial r r r)<|sB r<|aF (fr':=[(4,aB)]) r r<|bC<|aJ ?_
    have h14:=dQ h13 h2
    obtain rfl:=sy h14
    exact bB (rs':=[.tmp 4]) r<|bH (v:=aB) r<|aZ<|aN [] r r r lr aA
   ·
    refine kG r r hb11<|aM r (cN (us:=aD) qF r r r r)<|kG r r hb11 ?_
    obtain ⟨x16,hx16,h17⟩:=aE h11
    refine gV (aX (v:=aB) r (aBM hx16) ⟨(bK r ⟨r,r,r,r,r,r,r,r,r,r,r,r,r,r,r,r,r,r,r,r,r,r,r,r,trivial⟩),trivial⟩ r r r)<|kG r r hb11<|aM r (eI r)<|aM r (nE r hb11 r)<|aF (fr':=[(1,aL),(2,.box 0 0),(20,aB)]) r r<|bP h17 r (fun hb18 h18=>?_) (fun hb18 h18=>?_)
    ·
     refine aP<|aQ ?_
     obtain ⟨x19,hx19,h20⟩:=aE h18
     refine gV (aX (v:=aB) r (iQ hx19) trivial r r r)<|sB r<|aF (fr':=[(4,aB)]) r r<|bC<|aJ ?_
     have h21:=dQ h20 h2
     obtain rfl:=sy h21
     exact bB (rs':=[.tmp 4]) r<|bH (v:=aB) r<|aZ<|aN [] r r r lr aA
    ·
     exact aW<|gD _ (sy h18) (aU [] 1 r r r r ⟨lr,lr,trivial⟩ (bW r aA))
 ·
  intro j3 hj23
  have h23:=iC hj23 h2
  refine aH<|aM r (cN (us:=aD) qF r r r r) ?_
  obtain ⟨x24,hx24,h25⟩:=aE h23
  refine gV (aX (v:=aO) r (sF hx24) ⟨aAG,(bK r ⟨r,r,r,r,r,r,r,r,r,r,r,r,r,r,r,r,r,r,r,r,r,r,r,r,trivial⟩),trivial⟩ r r r)<|sV (v:=aO) r<|aF (fr':=[(1,aL),(2,.box 0 0),(5,aO)]) r r<|aH<|mV (v:=aO) r<|mL r ?_
  obtain ⟨x26,hx26,h27⟩:=aE h25
  refine wX (row:=dF) pK r sD r (cC r) (fun _=>r) hx26<|sV (v:=aO) r<|aF (fr':=[(1,aL),(2,.box 0 0),(5,aO)]) r r<|aH<|mV (v:=aO) r ?_
  obtain ⟨x28,hx28,h29⟩:=aE h27
  refine eD (v:=.box 1 0) (σ':=[aD,cP]) [] r (aDZ hx28) r r ⟨lr,trivial⟩ aA r r r<|sV (v:=.box 1 0) r<|aF (fr':=[(1,aL),(2,.box 0 0),(6,.box 1 0)]) r r<|aP<|aH<|mV (v:=.box 1 0) r<|aM r (aHT aPm r r)<|aF (fr':=[(1,aL),(2,.box 0 0),(6,.box 1 0),(30,aB)]) r r<|yX r<|aW<|bV<|aP ?_
  refine aQ<|mV (v:=.box 1 0) r ?_
  obtain ⟨x30,hx30,h31⟩:=aE h29
  refine eD (v:=.agg aD) (σ':=[aD,cP]) [1] r (xK hx30) r r ⟨lr,trivial⟩ (fO ⟨r,r,r,r,trivial⟩ aA) r r r<|gC (n:=2) (cs:=aG) (σ':=[aD,cP,aG]) aJB r r r<|bU (v:=.agg aD) (us:=aD) (cs:=aG) (σ':=[aD,cP,aD]) r qF r r r r r r r r<|aF (fr':=[(1,aL),(2,.box 0 0),(6,.box 1 0),(7,.box 2 0)]) r r<|aH<|aM r (cN (us:=aD) qF r r r r)<|aM r (cN (us:=aD) qF r r r r) ?_
  obtain ⟨x32,hx32,h33⟩:=aE h31
  refine gV (aX (v:=aB) r (aAf hx32) ⟨(bK r ⟨r,r,r,r,r,r,r,r,r,r,r,r,r,r,r,r,r,r,r,r,r,r,r,r,trivial⟩),(bK r ⟨r,r,r,r,r,r,r,r,r,r,r,r,r,r,r,r,r,r,r,r,r,r,r,r,trivial⟩),trivial⟩ r r r)<|mB r<|aKt h33 (fun hb34 h34=>?_) (fun hb34 h34=>?_)
  ·
   refine kG r r hb34<|mV (v:=.box 1 0) r<|kG r r hb34 ?_
   obtain ⟨x35,hx35,h36⟩:=aE h34
   refine eD (v:=aI) (σ':=[aD,cP,aD]) [1] r (fC hx35) r r ⟨lr,trivial⟩ (fO ⟨r,r,r,r,trivial⟩ aA) r r r<|kG r r hb34<|aM r (bM r r)<|aM r (vI r hb34 r)<|mB r<|aKt h36 (fun hb37 h37=>?_) (fun hb37 h37=>?_)
   ·
    refine kG r r hb37<|mV (v:=.box 1 0) r<|kG r r hb37 ?_
    obtain ⟨x38,hx38,h39⟩:=aE h37
    refine eD (v:=aI) (σ':=[aD,cP,aD]) [1] r (aCm hx38) r r ⟨lr,trivial⟩ (fO ⟨r,r,r,r,trivial⟩ aA) r r r<|kG r r hb37<|mL r<|kG r r hb37<|aM r (dI sD (cC r))<|kG r r hb37<|aM r (bM r r)<|aM r (vI r hb37 r)<|mB r<|aKt h39 (fun hb40 h40=>?_) (fun hb40 h40=>?_)
    ·
     refine kG r r hb40 ?_
     obtain ⟨x41,hx41,h42⟩:=aE h40
     refine gV (aX (v:=aB) r (iQ hx41) trivial r r r)<|aM r (vI r hb40 r)<|sB r<|aF (fr':=[(4,aB)]) r r<|bC ?_
     obtain rfl:=sy h42
     exact bB (rs':=[.tmp 4]) r<|bH (v:=aB) r<|aZ<|aN [] r r r lr aA
    ·
     refine rZ r r hb40<|aM r (nE r hb40 r)<|sB r<|aF (fr':=[(4,aB)]) r r<|bC ?_
     obtain rfl:=sy h40
     exact bB (rs':=[.tmp 4]) r<|bH (v:=aB) r<|aZ<|aN [] r r r lr aA
   ·
    refine rZ r r hb37<|rZ r r hb37<|rZ r r hb37<|rZ r r hb37<|rZ r r hb37<|aM r (nE r hb37 r)<|mB r<|rZ r r r<|aM r (nE r r r)<|sB r<|aF (fr':=[(4,aB)]) r r<|bC ?_
    obtain rfl:=sy h37
    exact bB (rs':=[.tmp 4]) r<|bH (v:=aB) r<|aZ<|aN [] r r r lr aA
  ·
   refine rZ r r hb34<|rZ r r hb34<|rZ r r hb34<|aM r (nE r hb34 r)<|mB r<|rZ r r r<|rZ r r r<|rZ r r r<|rZ r r r<|rZ r r r<|aM r (nE r r r)<|mB r<|rZ r r r ?_
   refine aM r (nE r r r)<|sB r<|aF (fr':=[(4,aB)]) r r<|bC ?_
   obtain rfl:=sy h34
   exact bB (rs':=[.tmp 4]) r<|bH (v:=aB) r<|aZ<|aN [] r r r lr aA
end Go.Proofs.YtnigjppddilpcaaGreatDoor
