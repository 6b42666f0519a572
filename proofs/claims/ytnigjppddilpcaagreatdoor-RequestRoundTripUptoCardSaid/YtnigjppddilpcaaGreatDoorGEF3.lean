import Derived.Test.YtnigjppddilpcaaGreatDoorGETy
import Derived.Test.YtnigjppddilpcaaGreatDoorGEF0
import Derived.Test.YtnigjppddilpcaaGreatDoorGEF1
import Derived.Test.YtnigjppddilpcaaGreatDoorGEF2
namespace Go.Proofs.YtnigjppddilpcaaGreatDoor
open Go Abs
set_option maxRecDepth 100000
set_option linter.unusedVariables false
set_option linter.unusedSimpArgs false
noncomputable def dP (p0s:(List aC)) (s4:Int):Option (bS Int (Fl Int Unit)) :=
 cond (decide (s4<((p0s).length:Int))) ((jV p0s s4).bind fun x6=>(nR x6).bind fun x8=>cond x8 (some (bS.out (Fl.done s4))) (some (bS.next (IntKind.wrap .i64 (s4+(1:Int)))))) (some (bS.out (Fl.go ())))
noncomputable def eM (p0s:(List aC)):Option Int :=
 ((dL (dP p0s) ((0:Int))):Option (Fl Int Unit)).bind fun x1=>Fl.next x1 (fun j3=>(some (-1:Int)))
theorem kS {p0s:(List aC)}{res:Int} (h:eM p0s=some res):cC Tryz.prog 205 [.c (PV.ls 5 bM p0s),.fn 216 []] [] (ci res) []:=by
 unfold eM at h
 refine cY (fn:=Tryz.f205) [0,1,4,5,7,8,9,16] (by kernel_rfl) Tryz.func205 r (by kernel_rfl) (by kernel_rfl)<|aK<|sI r<|aH (fr':=[(0,aL),(1,.fn _ [])]) r r<|aU<|aK<|mL r<|aT r (gN aAE (eO r))<|mI r<|aH (fr':=[(0,aL),(1,.fn _ []),(7,aI),(8,aI)]) r r ?_
 obtain ⟨x1,hx1,h2⟩:=aG h
 refine gZ mO (fun j3=>x1=Fl.go j3) (fun (j3:Unit)=>([]:Fr)) (fun (j3:Unit)=>([]:St)) ?_ ?_
 ·
  refine bZ<|gU _ (fun (s4:Int)=>([(0,.c (PV.ls 5 bM p0s)),(1,.fn 216 []),(7,ci ((p0s).length:Int)),(8,ci s4)]:Fr)) (fun (s4:Int)=>([]:St)) hx1 (bT [] 0 r r r r ⟨lr,lr,lr,lr,trivial⟩ aF) ?_
  intro s4 st4 hs4 ho4
  unfold dP at hs4
  refine aK<|aT r (fM r r)<|aH (fr':=[(0,aL),(1,.fn _ []),(7,aI),(8,aI),(9,aB)]) r r<|aU<|cV hs4 r (fun hb5 h5=>?_) (fun hb5 h5=>?_)
  ·
   refine bJ<|cM<|aU<|bZ<|aK<|mI r<|sI r<|aH (fr':=[(0,aL),(1,.fn _ []),(5,aI),(7,aI),(8,aI)]) r r<|aK<|mV (v:=.fn _ []) r<|mL r ?_
   refine mI r ?_
   obtain ⟨x6,hx6,h7⟩:=aG h5
   refine aT r (oV (cs:=[PV.int _ _,PV.int _ _,PV.str _,PV.ls _ _ _,PV.ls _ _ _]) aBE (eO r) r hx6 (eT _))<|aT r (lW (us:=[PV.int _ _,PV.int _ _,PV.str _,PV.ls _ _ _,PV.ls _ _ _]) gV r r r) ?_
   obtain ⟨x8,hx8,h9⟩:=aG h7
   refine lM (bC (v:=aB) r (aC3 hx8) ⟨(bO r ⟨r,r,r,r,r,trivial⟩),trivial⟩ r r r)<|aH (fr':=[(0,aL),(1,.fn _ []),(5,aI),(7,aI),(8,aI),(16,aB)]) r r<|cV h9 r (fun hb10 h10=>?_) (fun hb10 h10=>?_)
   ·
    refine aK<|mI r<|sI r<|aH (fr':=[(4,aI)]) r r<|bI<|bN<|aN<|aN<|bN<|aN<|aN ?_
    have h11:=eY h10 ho4
    have h12:=fI h11 h2
    obtain rfl:=sy h12
    exact bH (rs':=[.tmp 4]) r<|bP (v:=aI) r<|bG<|aQ [] r r r lr aF
   ·
    exact bJ<|dH<|cM<|aX<|aT r (fL r r)<|mI r<|dT (fr':=[(0,aL),(1,.fn _ []),(5,aI),(7,aI),(8,aI),(16,aB)]) r<|e_l _ (sy h10) (bT [] 0 r r r r ⟨lr,lr,lr,lr,trivial⟩ aF)
  ·
   refine hH<|cX<|cX<|fU ?_
   have h14:=eY h5 ho4
   exact pG _ (sy h14) (bT [] 0 r r r r trivial aF)
 ·
  intro j3 hj15
  have h15:=nG hj15 h2
  refine cM<|aK<|sI r<|aH (fr':=[(4,aI)]) r r<|bI ?_
  obtain rfl:=sy h15
  exact bH (rs':=[.tmp 4]) r<|bP (v:=aI) r<|bG<|aQ [] r r r lr aF
noncomputable def dN (p0s:(List aC)):Option Bool :=
 (eM p0s).bind fun x1=>some (decide ((0:Int)≤x1))
theorem kD {p0s:(List aC)}{res:Bool} (h:dN p0s=some res):cC Tryz.prog 176 [.c (PV.ls 5 bM p0s),.fn 216 []] [] (.c (.bool res)) []:=by
 unfold dN at h
 refine cY (fn:=Tryz.f176) [0,1,4] (by kernel_rfl) Tryz.func176 r (by kernel_rfl) (by kernel_rfl)<|aK<|sB r<|aH (fr':=[(0,aL),(1,.fn _ [])]) r r<|aK<|mL r<|mV (v:=.fn _ []) r ?_
 obtain ⟨x1,hx1,h2⟩:=aG h
 refine lM (bC (v:=aI) r (kS hx1) ⟨lr,lr,trivial⟩ r r r)<|aT r (rP r r)<|sB r<|aH (fr':=[(4,aB)]) r r<|bI ?_
 obtain rfl:=sy h2
 exact bH (rs':=[.tmp 4]) r<|bP (v:=aB) r<|bG<|aQ [] r r r lr aF
noncomputable def pY (p0v:aC):Option Bool :=
 (gd ((cond (!decide (p0v.Kind=(4:Int))) true (!decide (((p0v.Items).length:Int)=(2:Int))))==false) (jV p0v.Items (1:Int))).bind fun x1=>cond (cond (cond (!decide (p0v.Kind=(4:Int))) true (!decide (((p0v.Items).length:Int)=(2:Int)))) true (!decide (x1.Kind=(4:Int)))) (some false) ((jV p0v.Items (1:Int)).bind fun x5=>(dN x5.Items).bind fun x7=>some (!x7))
theorem aEH {p0v:aC}{res:Bool} (h:pY p0v=some res):cC Tryz.prog 200 [.agg (AV.cs (eF p0v))] [] (.c (.bool res)) []:=by
 unfold pY at h
 refine cY (fn:=Tryz.f200) [0,1,2,19] (by kernel_rfl) Tryz.func200 r (by kernel_rfl) (by kernel_rfl)<|aK<|iH (v:=.agg bQ) (n:=0) (cs:=bQ) (σ':=[bQ]) r r r r r<|sB r<|aH (fr':=[(1,.box 0 0)]) r r<|aU<|aK<|aT r (bD oC r)<|aT r (aJ (v:=aI) fY r r r)<|aT r (gQ r r)<|mB r ?_
 refine og r r r (fun hc=>(bD kY r))<|og r r r (fun hc=>(aJ (v:=aL) vM (gx r hc) r r))<|og r r r (fun hc=>(gN aAE (eO (gx r hc))))<|og r r r (fun hc=>(gQ (gx r hc) r))<|aT r (cB r r r (fun e=>fW e))<|mB r<|og r r r (fun hc=>(bD kY r))<|og r r r (fun hc=>(aJ (v:=aL) vM (gx r hc) r r)) ?_
 obtain ⟨x1,hx1,h2⟩:=aG h
 refine og r r r (fun hc=>(oV (cs:=[PV.int _ _,PV.int _ _,PV.str _,PV.ls _ _ _,PV.ls _ _ _]) aBE (eO (gx r hc)) r (dW hx1 hc) (eT _)))<|og r r r (fun hc=>(aK7 oC (gx r hc)))<|og r r r (fun hc=>(jW (p:=PV.int _ _) fY (gx r hc) r))<|og r r r (fun hc=>(gQ (gx r hc) r))<|aT r (cB r r r (fun e=>fW e))<|aH (fr':=[(1,.box 0 0),(19,aB)]) r r<|cV h2 r (fun hb3 h3=>?_) (fun hb3 h3=>?_)
 ·
  refine aK<|sB r<|aH (fr':=[(2,aB)]) r r<|bI<|aN ?_
  obtain rfl:=sy h3
  exact bH (rs':=[.tmp 2]) r<|bP (v:=aB) r<|bG<|aQ [] r r r lr aF
 ·
  refine bJ<|cM<|aK<|aT r (bD kY r)<|aT r (aJ (v:=aL) vM r r r) ?_
  obtain ⟨x5,hx5,h6⟩:=aG h3
  refine aT r (oV (cs:=[PV.int _ _,PV.int _ _,PV.str _,PV.ls _ _ _,PV.ls _ _ _]) aBE (eO r) r hx5 (eT _))<|aT r (aK7 kY r)<|aT r (jW (p:=PV.ls _ _ _) vM r r) ?_
  obtain ⟨x7,hx7,h8⟩:=aG h6
  refine lM (bC (v:=aB) r (kD hx7) ⟨lr,lr,trivial⟩ r r r)<|aT r (fH r)<|sB r<|aH (fr':=[(2,aB)]) r r<|bI ?_
  obtain rfl:=sy h8
  exact bH (rs':=[.tmp 2]) r<|bP (v:=aB) r<|bG<|aQ [] r r r lr aF
noncomputable def oQ (p0c:aP):Option Bool :=
 cond (decide (p0c.Kind=(3:Int))) ((iD p0c.N (1:Int) (1099511627776:Int)).bind fun x2=>some x2) (cond (decide (p0c.Kind=(5:Int))) ((iD p0c.N (0:Int) (2:Int)).bind fun x6=>some x6) (cond (decide (p0c.Kind=(9:Int))) ((iD p0c.N (0:Int) (1:Int)).bind fun x10=>some x10) (cond (decide (p0c.Kind=(7:Int))) ((gd ((decide (p0c.N=(-1:Int)))==false) (iD p0c.N (0:Int) (2147483647:Int))).bind fun x14=>some (cond (decide (p0c.N=(-1:Int))) true (cond x14 (decide (p0c.Data.Kind=(0:Int))) false))) (cond (decide (p0c.Kind=(10:Int))) (some (decide (p0c.Data.Kind=(5:Int)))) (cond (decide (p0c.Kind=(14:Int))) ((pY p0c.Data).bind fun x20=>some x20) (some true))))))
theorem aDR {p0c:aP}{res:Bool} (h:oQ p0c=some res):cC Tryz.prog 168 [.agg (AV.cs (cH p0c))] [] (.c (.bool res)) []:=by
 unfold oQ at h
 refine cY (fn:=Tryz.f168) [0,1,2,4,5,10,15,20,36,42] (by kernel_rfl) Tryz.func168 r (by kernel_rfl) (by kernel_rfl)<|aK<|iH (v:=.agg aW) (n:=0) (cs:=aW) (σ':=[aW]) r r r r r<|sB r<|aH (fr':=[(1,.box 0 0)]) r r<|aU<|aK<|aT r (bD vJ r)<|aT r (aJ (v:=aI) fY r r r)<|aH (fr':=[(1,.box 0 0),(4,aI)]) r r<|bZ ?_
 refine aK<|aT r (dG r r)<|sB r<|aH (fr':=[(1,.box 0 0),(4,aI),(5,aB)]) r r<|cV h r (fun hb1 h1=>?_) (fun hb1 h1=>?_)
 ·
  refine aK<|aT r (bD tN r)<|aT r (aJ (v:=aI) fY r r r) ?_
  obtain ⟨x2,hx2,h3⟩:=aG h1
  refine lM (bC (v:=aB) r (jC hx2) ⟨lr,lr,lr,trivial⟩ r r r)<|sB r<|aH (fr':=[(2,aB)]) r r<|bI<|bN<|aN ?_
  obtain rfl:=sy h3
  exact bH (rs':=[.tmp 2]) r<|bP (v:=aB) r<|bG<|aQ [] r r r lr aF
 ·
  refine aK<|aT r (dG r r)<|sB r<|aH (fr':=[(1,.box 0 0),(4,aI),(10,aB)]) r r<|cV h1 r (fun hb5 h5=>?_) (fun hb5 h5=>?_)
  ·
   refine aK<|aT r (bD tN r)<|aT r (aJ (v:=aI) fY r r r) ?_
   obtain ⟨x6,hx6,h7⟩:=aG h5
   refine lM (bC (v:=aB) r (jC hx6) ⟨lr,lr,lr,trivial⟩ r r r)<|sB r<|aH (fr':=[(2,aB)]) r r<|bI<|bN<|aN ?_
   obtain rfl:=sy h7
   exact bH (rs':=[.tmp 2]) r<|bP (v:=aB) r<|bG<|aQ [] r r r lr aF
  ·
   refine aK<|aT r (dG r r)<|sB r<|aH (fr':=[(1,.box 0 0),(4,aI),(15,aB)]) r r<|cV h5 r (fun hb9 h9=>?_) (fun hb9 h9=>?_)
   ·
    refine aK<|aT r (bD tN r)<|aT r (aJ (v:=aI) fY r r r) ?_
    obtain ⟨x10,hx10,h11⟩:=aG h9
    refine lM (bC (v:=aB) r (jC hx10) ⟨lr,lr,lr,trivial⟩ r r r)<|sB r<|aH (fr':=[(2,aB)]) r r<|bI<|bN<|aN ?_
    obtain rfl:=sy h11
    exact bH (rs':=[.tmp 2]) r<|bP (v:=aB) r<|bG<|aQ [] r r r lr aF
   ·
    refine aK<|aT r (dG r r)<|sB r<|aH (fr':=[(1,.box 0 0),(4,aI),(20,aB)]) r r<|cV h9 r (fun hb13 h13=>?_) (fun hb13 h13=>?_)
    ·
     refine aK<|aT r (bD tN r)<|aT r (aJ (v:=aI) fY r r r)<|aT r (dG r r)<|mB r<|og r r r (fun hc=>(bD tN r))<|og r r r (fun hc=>(aJ (v:=aI) fY (gx r hc) r r)) ?_
     obtain ⟨x14,hx14,h15⟩:=aG h13
     refine yS r r (fun hc=>bC (v:=aB) r (jC (dW hx14 hc)) ⟨(fK (gx r hc) lr),lr,lr,trivial⟩ (gJ (by repeat (first | exact fF | refine aZ r ?_ | refine aZ (uH r) ?_ | refine aZ uG ?_))) r r) ?_
     refine og r r r (fun hc=>(bA (v:=aB) (gx r hc)))<|eX r r (fun hc=>fJ r (bD vK r))<|eX r r (fun hc=>fJ r (bD oC (gx r hc)))<|eX r r (fun hc=>fJ r (aJ (v:=aI) fY (gx r hc) r r))<|eX r r (fun hc=>fJ r (dG (gx r hc) r))<|og r r r (fun hc=>(cE (gx r hc) r r (fun e=>rF hc (fW e))))<|aT r (cB r r r (fun e=>fW e))<|sB r<|aH (fr':=[(2,aB)]) r r<|bI<|bN<|aN ?_
     obtain rfl:=sy h15
     exact bH (rs':=[.tmp 2]) r<|bP (v:=aB) r<|bG<|aQ [] r r r lr aF
    ·
     refine aK<|aT r (dG r r)<|sB r<|aH (fr':=[(1,.box 0 0),(4,aI),(36,aB)]) r r<|cV h13 r (fun hb17 h17=>?_) (fun hb17 h17=>?_)
     ·
      refine aK<|aT r (bD vK r)<|aT r (bD oC r)<|aT r (aJ (v:=aI) fY r r r)<|aT r (dG r r)<|sB r<|aH (fr':=[(2,aB)]) r r<|bI<|bN<|aN ?_
      obtain rfl:=sy h17
      exact bH (rs':=[.tmp 2]) r<|bP (v:=aB) r<|bG<|aQ [] r r r lr aF
     ·
      refine aK<|aT r (dG r r)<|sB r<|aH (fr':=[(1,.box 0 0),(42,aB)]) r r<|cV h17 r (fun hb19 h19=>?_) (fun hb19 h19=>?_)
      ·
       refine aK<|aT r (bD vK r)<|aT r (dJ (us:=bQ) gV r r r r) ?_
       obtain ⟨x20,hx20,h21⟩:=aG h19
       refine lM (bC (v:=aB) r (aEH hx20) ⟨(bO r ⟨r,r,r,r,r,trivial⟩),trivial⟩ r r r)<|sB r<|aH (fr':=[(2,aB)]) r r<|bI<|bN<|aN ?_
       obtain rfl:=sy h21
       exact bH (rs':=[.tmp 2]) r<|bP (v:=aB) r<|bG<|aQ [] r r r lr aF
      ·
       refine bJ<|dH<|cM<|aK<|sB r<|aH (fr':=[(2,aB)]) r r<|bI ?_
       obtain rfl:=sy h19
       exact bH (rs':=[.tmp 2]) r<|bP (v:=aB) r<|bG<|aQ [] r r r lr aF
noncomputable def mE (p0c:aP):Option Bool :=
 (oP p0c.Kind).bind fun x1=>(iD p0c.Kind (1:Int) (14:Int)).bind fun x3=>(gd ((!x3)==false) (rJ p0c x1)).bind fun x5=>(gd ((cond (!x3) true (!x5))==false) (rC p0c.Data)).bind fun x7=>(gd ((cond (cond (!x3) true (!x5)) true (!x7))==false) (iC p0c.Opts)).bind fun x9=>cond (cond (cond (cond (!x3) true (!x5)) true (!x7)) true (!x9)) (some false) ((gd (x1.seq_==true) (iD p0c.Seq (1:Int) (2000:Int))).bind fun x13=>(gd (((cond x1.seq_ (!x13) false)==false)&&(x1.key_==true)) (nV p0c.Key)).bind fun x15=>cond (cond (cond x1.seq_ (!x13) false) true (cond x1.key_ (!x15) false)) (some false) ((gd (((x1.name_==true)&&((cond (decide (p0c.Kind=(12:Int))) (decide ((4096:Int)<((p0c.Name).length:Int))) false)==false))&&((!decide (p0c.Kind=(12:Int)))==true)) (oS p0c.Name)).bind fun x19=>cond (cond x1.name_ (cond (cond (decide (p0c.Kind=(12:Int))) (decide ((4096:Int)<((p0c.Name).length:Int))) false) true (cond (!decide (p0c.Kind=(12:Int))) (!x19) false)) false) (some false) ((oQ p0c).bind fun x23=>some x23)))
theorem uW {p0c:aP}{res:Bool} (h:mE p0c=some res):cC Tryz.prog 106 [.agg (AV.cs (cH p0c))] [] (.c (.bool res)) []:=by
 unfold mE at h
 refine cY (fn:=Tryz.f106) [0,1,2,3,28,46,70] (by kernel_rfl) Tryz.func106 r (by kernel_rfl) (by kernel_rfl)<|aK<|iH (v:=.agg aW) (n:=0) (cs:=aW) (σ':=[aW]) r r r r r<|sB r<|aH (fr':=[(1,.box 0 0)]) r r<|aK<|aT r (bD vJ r)<|aT r (aJ (v:=aI) fY r r r) ?_
 obtain ⟨x1,hx1,h2⟩:=aG h
 refine lM (bC (v:=.agg cG) r (aDQ hx1) ⟨lr,trivial⟩ r r r)<|iG (n:=1) (cs:=cG) (σ':=[aW,cG]) aNV r r r<|bU (v:=.agg cG) (us:=cG) (cs:=cG) (σ':=[aW,cG]) r pQ r r r r r r r r<|aH (fr':=[(1,.box 0 0),(3,.box 1 0)]) r r<|aU<|aK<|aT r (bD vJ r)<|aT r (aJ (v:=aI) fY r r r) ?_
 obtain ⟨x3,hx3,h4⟩:=aG h2
 refine lM (bC (v:=aB) r (jC hx3) ⟨lr,lr,lr,trivial⟩ r r r)<|aT r (fH r)<|mB r<|og r r r (fun hc=>(dJ (us:=aW) vA r r r r))<|og r r r (fun hc=>(dJ (us:=cG) pQ r r r r)) ?_
 obtain ⟨x5,hx5,h6⟩:=aG h4
 refine yS r r (fun hc=>bC (v:=aB) r (aGi (dW hx5 hc)) ⟨(fK (gx r hc) (bO r ⟨r,r,r,r,r,r,r,r,r,r,r,r,r,r,r,r,r,r,r,r,trivial⟩)),(fK (gx r hc) (bO r ⟨r,r,r,r,r,r,trivial⟩)),trivial⟩ (gJ (by repeat (first | exact fF | refine aZ r ?_ | refine aZ (uH r) ?_ | refine aZ uG ?_))) r r) ?_
 refine og r r r (fun hc=>(fH (gx r hc)))<|aT r (cB r r r (fun e=>fW e))<|mB r<|og r r r (fun hc=>(bD vK r))<|og r r r (fun hc=>(dJ (us:=bQ) gV (gx r hc) r r r)) ?_
 obtain ⟨x7,hx7,h8⟩:=aG h6
 refine yS r r (fun hc=>bC (v:=aB) r (aBW (dW hx7 hc)) ⟨(fK (gx r hc) (bO r ⟨r,r,r,r,r,trivial⟩)),trivial⟩ (gJ (by repeat (first | exact fF | refine aZ r ?_ | refine aZ (uH r) ?_ | refine aZ uG ?_))) r r) ?_
 refine og r r r (fun hc=>(fH (gx r hc)))<|aT r (cB r r r (fun e=>fW e))<|mB r<|og r r r (fun hc=>(bD aAc r))<|og r r r (fun hc=>(dJ (us:=cI) aBF (gx r hc) r r r)) ?_
 obtain ⟨x9,hx9,h10⟩:=aG h8
 refine yS r r (fun hc=>bC (v:=aB) r (sM (dW hx9 hc)) ⟨(fK (gx r hc) (bO r ⟨r,r,r,r,r,r,r,r,r,r,trivial⟩)),trivial⟩ (gJ (by repeat (first | exact fF | refine aZ r ?_ | refine aZ (uH r) ?_ | refine aZ uG ?_))) r r) ?_
 refine og r r r (fun hc=>(fH (gx r hc)))<|aT r (cB r r r (fun e=>fW e))<|aH (fr':=[(1,.box 0 0),(3,.box 1 0),(28,aB)]) r r<|cV h10 r (fun hb11 h11=>?_) (fun hb11 h11=>?_)
 ·
  refine aK<|sB r<|aH (fr':=[(2,aB)]) r r<|bI<|aN ?_
  obtain rfl:=sy h11
  exact bH (rs':=[.tmp 2]) r<|bP (v:=aB) r<|bG<|aQ [] r r r lr aF
 ·
  refine bJ<|cM<|aU<|aK<|aT r (bD aLl r)<|aT r (aJ (v:=aB) tv4 r r r)<|mB r<|og r r r (fun hc=>(bD aBy r))<|og r r r (fun hc=>(aJ (v:=aI) fY (gx r hc) r r)) ?_
  obtain ⟨x13,hx13,h14⟩:=aG h11
  refine yS r r (fun hc=>bC (v:=aB) r (jC (dW hx13 hc)) ⟨(fK (gx r hc) lr),lr,lr,trivial⟩ (gJ (by repeat (first | exact fF | refine aZ r ?_ | refine aZ (uH r) ?_ | refine aZ uG ?_))) r r) ?_
  refine og r r r (fun hc=>(fH (gx r hc)))<|aT r (cE r r r (fun e=>fW e))<|mB r<|og r r r (fun hc=>(bD aLn r))<|og r r r (fun hc=>(aJ (v:=aB) tv4 (gx r hc) r r))<|og r r r (fun hc=>(bA (v:=aB) (gx r hc)))<|eX r r (fun hc=>fJ r (bD aBz r))<|eX r r (fun hc=>fJ r (aJ (v:=aS) nE (gx r hc) r r)) ?_
  obtain ⟨x15,hx15,h16⟩:=aG h14
  refine eX r r (fun hc=>bC (v:=aB) r (aEG (dW hx15 hc)) ⟨(fK (gx r hc) lr),trivial⟩ (gJ (by repeat (first | exact fF | refine aZ r ?_ | refine aZ (uH r) ?_ | refine aZ uG ?_))) r r) ?_
  refine eX r r (fun hc=>fJ r (fH (gx r hc)))<|og r r r (fun hc=>(cE (gx r hc) r r (fun e=>rF hc (fW e))))<|aT r (cB r r r (fun e=>fW e))<|aH (fr':=[(1,.box 0 0),(3,.box 1 0),(46,aB)]) r r<|cV h16 r (fun hb17 h17=>?_) (fun hb17 h17=>?_)
  ·
   refine aK<|sB r<|aH (fr':=[(2,aB)]) r r<|bI<|aN ?_
   obtain rfl:=sy h17
   exact bH (rs':=[.tmp 2]) r<|bP (v:=aB) r<|bG<|aQ [] r r r lr aF
  ·
   refine bJ<|cM<|aU<|aK<|aT r (bD aLm r)<|aT r (aJ (v:=aB) tv4 r r r)<|mB r<|og r r r (fun hc=>(bD vJ r))<|og r r r (fun hc=>(aJ (v:=aI) fY (gx r hc) r r))<|og r r r (fun hc=>(dG (gx r hc) r))<|og r r r (fun hc=>(bA (v:=aB) (gx r hc)))<|eX r r (fun hc=>fJ r (bD aAb r)) ?_
   refine eX r r (fun hc=>fJ r (aJ (v:=aS) nE (gx r hc) r r))<|eX r r (fun hc=>fJ r (nI wT (gx r hc)))<|eX r r (fun hc=>fJ r (sJ (gx r hc) r))<|og r r r (fun hc=>(cE (gx r hc) r r (fun e=>rF hc (fW e))))<|og r r r (fun hc=>(bA (v:=aB) (gx r hc)))<|eX r r (fun hc=>fJ r (bD vJ r))<|eX r r (fun hc=>fJ r (aJ (v:=aI) fY (gx r hc) r r))<|eX r r (fun hc=>fJ r (gQ (gx r hc) r))<|eX r r (fun hc=>fJ r (bA (v:=aB) (gx r hc)))<|eX r r (fun hc=>fJ r (bD aAb r))<|eX r r (fun hc=>fJ r (aJ (v:=aS) nE (gx r hc) r r)) ?_
   obtain ⟨x19,hx19,h20⟩:=aG h17
   refine eX r r (fun hc=>bC (v:=aB) r (vO (dW hx19 hc)) ⟨(fK (gx r hc) lr),trivial⟩ (gJ (by repeat (first | exact fF | refine aZ r ?_ | refine aZ (uH r) ?_ | refine aZ uG ?_))) r r) ?_
   refine eX r r (fun hc=>fJ r (fH (gx r hc)))<|eX r r (fun hc=>fJ r (cE (gx r hc) r r (fun e=>rF hc (fW e))))<|og r r r (fun hc=>(cB (gx r hc) r r (fun e=>rF hc (fW e))))<|aT r (cE r r r (fun e=>fW e))<|aH (fr':=[(1,.box 0 0),(70,aB)]) r r<|cV h20 r (fun hb21 h21=>?_) (fun hb21 h21=>?_)
   ·
    refine aK<|sB r<|aH (fr':=[(2,aB)]) r r<|bI<|aN ?_
    obtain rfl:=sy h21
    exact bH (rs':=[.tmp 2]) r<|bP (v:=aB) r<|bG<|aQ [] r r r lr aF
   ·
    refine bJ<|cM<|aK<|aT r (dJ (us:=aW) vA r r r r) ?_
    obtain ⟨x23,hx23,h24⟩:=aG h21
    refine lM (bC (v:=aB) r (aDR hx23) ⟨(bO r ⟨r,r,r,r,r,r,r,r,r,r,r,r,r,r,r,r,r,r,r,r,trivial⟩),trivial⟩ r r r)<|sB r<|aH (fr':=[(2,aB)]) r r<|bI ?_
    obtain rfl:=sy h24
    exact bH (rs':=[.tmp 2]) r<|bP (v:=aB) r<|bG<|aQ [] r r r lr aF
noncomputable def tX (aAs:(List UInt8)):Option (Int × Bool) :=
 if aAs.length≤140737488355328 then some (qL aAs) else none
theorem aGN {aAs:(List UInt8)}{res:(Int × Bool)} (h:tX aAs=some res):cC Tryz.prog 161 [.c (.str aAs)] [] (.tup [ci res.1,.c (.bool res.2)]) []:=by
 unfold tX at h
 obtain ⟨hl,rfl⟩:=aNi h
 refine aBX (by kernel_rfl) fun g w vs hv hI hg=>?_
 rw [aPR hv]
 refine (aHN hl w hI hg).mono fun e w'=>?_
 rintro ⟨rfl,hb⟩
 exact ⟨_,r,hb,fun g'=>aNH (.c (.int _ _)) (.c (.bool _))⟩
end Go.Proofs.YtnigjppddilpcaaGreatDoor
