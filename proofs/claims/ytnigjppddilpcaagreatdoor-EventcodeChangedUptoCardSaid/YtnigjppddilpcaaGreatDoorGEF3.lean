import Derived.Test.YtnigjppddilpcaaGreatDoorGETy
import Derived.Test.YtnigjppddilpcaaGreatDoorGEF0
import Derived.Test.YtnigjppddilpcaaGreatDoorGEF1
import Derived.Test.YtnigjppddilpcaaGreatDoorGEF2
namespace Go.Proofs.YtnigjppddilpcaaGreatDoor
open Go Abs
set_option maxRecDepth 100000
set_option linter.unusedVariables false
set_option linter.unusedSimpArgs false
noncomputable def cT (p0s:(List aD)) (s4:Int):Option (cD Int (Fl Int Unit)) :=
 cond (decide (s4<((p0s).length:Int))) ((gR p0s s4).bind fun x6=>(lG x6).bind fun x8=>cond x8 (some (cD.out (Fl.done s4))) (some (cD.next (IntKind.wrap .i64 (s4+(1:Int)))))) (some (cD.out (Fl.go ())))
noncomputable def dL (p0s:(List aD)):Option Int :=
 ((dO (cT p0s) ((0:Int))):Option (Fl Int Unit)).bind fun x1=>Fl.next x1 (fun j3=>(some (-1:Int)))
theorem iI {p0s:(List aD)}{res:Int} (h:dL p0s=some res):bR Tryz.prog 205 [.c (PV.ls 5 aZ p0s),.fn 216 []] [] (ci res) []:=by
 unfold dL at h
 refine cP (fn:=Tryz.f205) [0,1,4,5,7,8,9,16] (by kernel_rfl) Tryz.func205 r (by kernel_rfl) (by kernel_rfl)<|aJ<|sI r<|aF (fr':=[(0,aL),(1,.fn _ [])]) r r<|aN<|aJ<|mL r<|aQ r (eX sJ (cZ r))<|mI r<|aF (fr':=[(0,aL),(1,.fn _ []),(7,aI),(8,aI)]) r r ?_
 obtain ⟨x1,hx1,h2⟩:=aE h
 refine fI iV (fun j3=>x1=Fl.go j3) (fun (j3:Unit)=>([]:Fr)) (fun (j3:Unit)=>([]:St)) ?_ ?_
 ·
  refine bK<|fB _ (fun (s4:Int)=>([(0,.c (PV.ls 5 aZ p0s)),(1,.fn 216 []),(7,ci ((p0s).length:Int)),(8,ci s4)]:Fr)) (fun (s4:Int)=>([]:St)) hx1 (bJ [] 0 r r r r ⟨lr,lr,lr,lr,trivial⟩ aC) ?_
  intro s4 st4 hs4 ho4
  unfold cT at hs4
  refine aJ<|aQ r (dU r r)<|aF (fr':=[(0,aL),(1,.fn _ []),(7,aI),(8,aI),(9,aB)]) r r<|aN<|cC hs4 r (fun hb5 h5=>?_) (fun hb5 h5=>?_)
  ·
   refine bA<|bT<|aN<|bK<|aJ<|mI r<|sI r<|aF (fr':=[(0,aL),(1,.fn _ []),(5,aI),(7,aI),(8,aI)]) r r<|aJ<|mV (v:=.fn _ []) r<|mL r ?_
   refine mI r ?_
   obtain ⟨x6,hx6,h7⟩:=aE h5
   refine aQ r (jS (cs:=[PV.int _ _,PV.int _ _,PV.str _,PV.ls _ _ _,PV.ls _ _ _]) sK (cZ r) r hx6 (dA _))<|aQ r (iL (us:=[PV.int _ _,PV.int _ _,PV.str _,PV.ls _ _ _,PV.ls _ _ _]) fQ r r r) ?_
   obtain ⟨x8,hx8,h9⟩:=aE h7
   refine jZ (bG (v:=aB) r (aAr hx8) ⟨(bM r ⟨r,r,r,r,r,trivial⟩),trivial⟩ r r r)<|aF (fr':=[(0,aL),(1,.fn _ []),(5,aI),(7,aI),(8,aI),(16,aB)]) r r<|cC h9 r (fun hb10 h10=>?_) (fun hb10 h10=>?_)
   ·
    refine aJ<|mI r<|sI r<|aF (fr':=[(4,aI)]) r r<|bE<|bB<|aK<|aK<|bB<|aK<|aK ?_
    have h11:=dN h10 ho4
    have h12:=eA h11 h2
    obtain rfl:=sy h12
    exact bD (rs':=[.tmp 4]) r<|bL (v:=aI) r<|bC<|aR [] r r r lr aC
   ·
    exact bA<|cA<|bT<|aT<|aQ r (dR r r)<|mI r<|cI (fr':=[(0,aL),(1,.fn _ []),(5,aI),(7,aI),(8,aI),(16,aB)]) r<|xG _ (sy h10) (bJ [] 0 r r r r ⟨lr,lr,lr,lr,trivial⟩ aC)
  ·
   refine fJ<|bY<|bY<|eC ?_
   have h14:=dN h5 ho4
   exact lF _ (sy h14) (bJ [] 0 r r r r trivial aC)
 ·
  intro j3 hj15
  have h15:=kN hj15 h2
  refine bT<|aJ<|sI r<|aF (fr':=[(4,aI)]) r r<|bE ?_
  obtain rfl:=sy h15
  exact bD (rs':=[.tmp 4]) r<|bL (v:=aI) r<|bC<|aR [] r r r lr aC
noncomputable def cR (p0s:(List aD)):Option Bool :=
 (dL p0s).bind fun x1=>some (decide ((0:Int)≤x1))
theorem hH {p0s:(List aD)}{res:Bool} (h:cR p0s=some res):bR Tryz.prog 176 [.c (PV.ls 5 aZ p0s),.fn 216 []] [] (.c (.bool res)) []:=by
 unfold cR at h
 refine cP (fn:=Tryz.f176) [0,1,4] (by kernel_rfl) Tryz.func176 r (by kernel_rfl) (by kernel_rfl)<|aJ<|sB r<|aF (fr':=[(0,aL),(1,.fn _ [])]) r r<|aJ<|mL r<|mV (v:=.fn _ []) r ?_
 obtain ⟨x1,hx1,h2⟩:=aE h
 refine jZ (bG (v:=aI) r (iI hx1) ⟨lr,lr,trivial⟩ r r r)<|aQ r (qJ r r)<|sB r<|aF (fr':=[(4,aB)]) r r<|bE ?_
 obtain rfl:=sy h2
 exact bD (rs':=[.tmp 4]) r<|bL (v:=aB) r<|bC<|aR [] r r r lr aC
noncomputable def nL (p0v:aD):Option Bool :=
 (gd ((cond (!decide (p0v.Kind=(4:Int))) true (!decide (((p0v.Items).length:Int)=(2:Int))))==false) (gR p0v.Items (1:Int))).bind fun x1=>cond (cond (cond (!decide (p0v.Kind=(4:Int))) true (!decide (((p0v.Items).length:Int)=(2:Int)))) true (!decide (x1.Kind=(4:Int)))) (some false) ((gR p0v.Items (1:Int)).bind fun x5=>(cR x5.Items).bind fun x7=>some (!x7))
theorem aBx {p0v:aD}{res:Bool} (h:nL p0v=some res):bR Tryz.prog 200 [.agg (AV.cs (dD p0v))] [] (.c (.bool res)) []:=by
 unfold nL at h
 refine cP (fn:=Tryz.f200) [0,1,2,19] (by kernel_rfl) Tryz.func200 r (by kernel_rfl) (by kernel_rfl)<|aJ<|gH (v:=.agg bI) (n:=0) (cs:=bI) (σ':=[bI]) r r r r r<|sB r<|aF (fr':=[(1,.box 0 0)]) r r<|aN<|aJ<|aQ r (bF jE r)<|aQ r (aP (v:=aI) fC r r r)<|aQ r (fU r r)<|mB r ?_
 refine og r r r (fun hc=>(bF gG r))<|og r r r (fun hc=>(aP (v:=aL) nR (gx r hc) r r))<|og r r r (fun hc=>(eX sJ (cZ (gx r hc))))<|og r r r (fun hc=>(fU (gx r hc) r))<|aQ r (cB r r r (fun e=>fG e))<|mB r<|og r r r (fun hc=>(bF gG r))<|og r r r (fun hc=>(aP (v:=aL) nR (gx r hc) r r)) ?_
 obtain ⟨x1,hx1,h2⟩:=aE h
 refine og r r r (fun hc=>(jS (cs:=[PV.int _ _,PV.int _ _,PV.str _,PV.ls _ _ _,PV.ls _ _ _]) sK (cZ (gx r hc)) r (cV hx1 hc) (dA _)))<|og r r r (fun hc=>(aBe jE (gx r hc)))<|og r r r (fun hc=>(fV (p:=PV.int _ _) fC (gx r hc) r))<|og r r r (fun hc=>(fU (gx r hc) r))<|aQ r (cB r r r (fun e=>fG e))<|aF (fr':=[(1,.box 0 0),(19,aB)]) r r<|cC h2 r (fun hb3 h3=>?_) (fun hb3 h3=>?_)
 ·
  refine aJ<|sB r<|aF (fr':=[(2,aB)]) r r<|bE<|aK ?_
  obtain rfl:=sy h3
  exact bD (rs':=[.tmp 2]) r<|bL (v:=aB) r<|bC<|aR [] r r r lr aC
 ·
  refine bA<|bT<|aJ<|aQ r (bF gG r)<|aQ r (aP (v:=aL) nR r r r) ?_
  obtain ⟨x5,hx5,h6⟩:=aE h3
  refine aQ r (jS (cs:=[PV.int _ _,PV.int _ _,PV.str _,PV.ls _ _ _,PV.ls _ _ _]) sK (cZ r) r hx5 (dA _))<|aQ r (aBe gG r)<|aQ r (fV (p:=PV.ls _ _ _) nR r r) ?_
  obtain ⟨x7,hx7,h8⟩:=aE h6
  refine jZ (bG (v:=aB) r (hH hx7) ⟨lr,lr,trivial⟩ r r r)<|aQ r (eU r)<|sB r<|aF (fr':=[(2,aB)]) r r<|bE ?_
  obtain rfl:=sy h8
  exact bD (rs':=[.tmp 2]) r<|bL (v:=aB) r<|bC<|aR [] r r r lr aC
noncomputable def mF (p0c:fL):Option Bool :=
 cond (decide (p0c.Kind=(3:Int))) ((gD p0c.N (1:Int) (1099511627776:Int)).bind fun x2=>some x2) (cond (decide (p0c.Kind=(5:Int))) ((gD p0c.N (0:Int) (2:Int)).bind fun x6=>some x6) (cond (decide (p0c.Kind=(9:Int))) ((gD p0c.N (0:Int) (1:Int)).bind fun x10=>some x10) (cond (decide (p0c.Kind=(7:Int))) ((gd ((decide (p0c.N=(-1:Int)))==false) (gD p0c.N (0:Int) (2147483647:Int))).bind fun x14=>some (cond (decide (p0c.N=(-1:Int))) true (cond x14 (decide (p0c.Data.Kind=(0:Int))) false))) (cond (decide (p0c.Kind=(10:Int))) (some (decide (p0c.Data.Kind=(5:Int)))) (cond (decide (p0c.Kind=(14:Int))) ((nL p0c.Data).bind fun x20=>some x20) (some true))))))
theorem aAW {p0c:fL}{res:Bool} (h:mF p0c=some res):bR Tryz.prog 168 [.agg (AV.cs (tG p0c))] [] (.c (.bool res)) []:=by
 unfold mF at h
 refine cP (fn:=Tryz.f168) [0,1,2,4,5,10,15,20,36,42] (by kernel_rfl) Tryz.func168 r (by kernel_rfl) (by kernel_rfl)<|aJ<|gH (v:=.agg cG) (n:=0) (cs:=cG) (σ':=[cG]) r r r r r<|sB r<|aF (fr':=[(1,.box 0 0)]) r r<|aN<|aJ<|aQ r (bF aAk r)<|aQ r (aP (v:=aI) fC r r r)<|aF (fr':=[(1,.box 0 0),(4,aI)]) r r<|bK ?_
 refine aJ<|aQ r (bX r r)<|sB r<|aF (fr':=[(1,.box 0 0),(4,aI),(5,aB)]) r r<|cC h r (fun hb1 h1=>?_) (fun hb1 h1=>?_)
 ·
  refine aJ<|aQ r (bF xO r)<|aQ r (aP (v:=aI) fC r r r) ?_
  obtain ⟨x2,hx2,h3⟩:=aE h1
  refine jZ (bG (v:=aB) r (gL hx2) ⟨lr,lr,lr,trivial⟩ r r r)<|sB r<|aF (fr':=[(2,aB)]) r r<|bE<|bB<|aK ?_
  obtain rfl:=sy h3
  exact bD (rs':=[.tmp 2]) r<|bL (v:=aB) r<|bC<|aR [] r r r lr aC
 ·
  refine aJ<|aQ r (bX r r)<|sB r<|aF (fr':=[(1,.box 0 0),(4,aI),(10,aB)]) r r<|cC h1 r (fun hb5 h5=>?_) (fun hb5 h5=>?_)
  ·
   refine aJ<|aQ r (bF xO r)<|aQ r (aP (v:=aI) fC r r r) ?_
   obtain ⟨x6,hx6,h7⟩:=aE h5
   refine jZ (bG (v:=aB) r (gL hx6) ⟨lr,lr,lr,trivial⟩ r r r)<|sB r<|aF (fr':=[(2,aB)]) r r<|bE<|bB<|aK ?_
   obtain rfl:=sy h7
   exact bD (rs':=[.tmp 2]) r<|bL (v:=aB) r<|bC<|aR [] r r r lr aC
  ·
   refine aJ<|aQ r (bX r r)<|sB r<|aF (fr':=[(1,.box 0 0),(4,aI),(15,aB)]) r r<|cC h5 r (fun hb9 h9=>?_) (fun hb9 h9=>?_)
   ·
    refine aJ<|aQ r (bF xO r)<|aQ r (aP (v:=aI) fC r r r) ?_
    obtain ⟨x10,hx10,h11⟩:=aE h9
    refine jZ (bG (v:=aB) r (gL hx10) ⟨lr,lr,lr,trivial⟩ r r r)<|sB r<|aF (fr':=[(2,aB)]) r r<|bE<|bB<|aK ?_
    obtain rfl:=sy h11
    exact bD (rs':=[.tmp 2]) r<|bL (v:=aB) r<|bC<|aR [] r r r lr aC
   ·
    refine aJ<|aQ r (bX r r)<|sB r<|aF (fr':=[(1,.box 0 0),(4,aI),(20,aB)]) r r<|cC h9 r (fun hb13 h13=>?_) (fun hb13 h13=>?_)
    ·
     refine aJ<|aQ r (bF xO r)<|aQ r (aP (v:=aI) fC r r r)<|aQ r (bX r r)<|mB r<|og r r r (fun hc=>(bF xO r))<|og r r r (fun hc=>(aP (v:=aI) fC (gx r hc) r r)) ?_
     obtain ⟨x14,hx14,h15⟩:=aE h13
     refine vQ r r (fun hc=>bG (v:=aB) r (gL (cV hx14 hc)) ⟨(fK (gx r hc) lr),lr,lr,trivial⟩ (fT (by repeat (first | exact eK | refine aY r ?_ | refine aY (rI r) ?_ | refine aY rH ?_))) r r) ?_
     refine og r r r (fun hc=>(aU (v:=aB) (gx r hc)))<|eJ r r (fun hc=>eW r (bF aAl r))<|eJ r r (fun hc=>eW r (bF jE (gx r hc)))<|eJ r r (fun hc=>eW r (aP (v:=aI) fC (gx r hc) r r))<|eJ r r (fun hc=>eW r (bX (gx r hc) r))<|og r r r (fun hc=>(bS (gx r hc) r r (fun e=>qB hc (fG e))))<|aQ r (cB r r r (fun e=>fG e))<|sB r<|aF (fr':=[(2,aB)]) r r<|bE<|bB<|aK ?_
     obtain rfl:=sy h15
     exact bD (rs':=[.tmp 2]) r<|bL (v:=aB) r<|bC<|aR [] r r r lr aC
    ·
     refine aJ<|aQ r (bX r r)<|sB r<|aF (fr':=[(1,.box 0 0),(4,aI),(36,aB)]) r r<|cC h13 r (fun hb17 h17=>?_) (fun hb17 h17=>?_)
     ·
      refine aJ<|aQ r (bF aAl r)<|aQ r (bF jE r)<|aQ r (aP (v:=aI) fC r r r)<|aQ r (bX r r)<|sB r<|aF (fr':=[(2,aB)]) r r<|bE<|bB<|aK ?_
      obtain rfl:=sy h17
      exact bD (rs':=[.tmp 2]) r<|bL (v:=aB) r<|bC<|aR [] r r r lr aC
     ·
      refine aJ<|aQ r (bX r r)<|sB r<|aF (fr':=[(1,.box 0 0),(42,aB)]) r r<|cC h17 r (fun hb19 h19=>?_) (fun hb19 h19=>?_)
      ·
       refine aJ<|aQ r (bF aAl r)<|aQ r (dF (us:=bI) fQ r r r r) ?_
       obtain ⟨x20,hx20,h21⟩:=aE h19
       refine jZ (bG (v:=aB) r (aBx hx20) ⟨(bM r ⟨r,r,r,r,r,trivial⟩),trivial⟩ r r r)<|sB r<|aF (fr':=[(2,aB)]) r r<|bE<|bB<|aK ?_
       obtain rfl:=sy h21
       exact bD (rs':=[.tmp 2]) r<|bL (v:=aB) r<|bC<|aR [] r r r lr aC
      ·
       refine bA<|cA<|bT<|aJ<|sB r<|aF (fr':=[(2,aB)]) r r<|bE ?_
       obtain rfl:=sy h19
       exact bD (rs':=[.tmp 2]) r<|bL (v:=aB) r<|bC<|aR [] r r r lr aC
noncomputable def nJ (p0c:fL):Option Bool :=
 (mE p0c.Kind).bind fun x1=>(gD p0c.Kind (1:Int) (14:Int)).bind fun x3=>(gd ((!x3)==false) (oK p0c x1)).bind fun x5=>(gd ((cond (!x3) true (!x5))==false) (oD p0c.Data)).bind fun x7=>(gd ((cond (cond (!x3) true (!x5)) true (!x7))==false) (gC p0c.Opts)).bind fun x9=>cond (cond (cond (cond (!x3) true (!x5)) true (!x7)) true (!x9)) (some false) ((gd (x1.seq_==true) (gD p0c.Seq (1:Int) (2000:Int))).bind fun x13=>(gd (((cond x1.seq_ (!x13) false)==false)&&(x1.key_==true)) (lP p0c.Key)).bind fun x15=>cond (cond (cond x1.seq_ (!x13) false) true (cond x1.key_ (!x15) false)) (some false) ((gd (((x1.name_==true)&&((cond (decide (p0c.Kind=(12:Int))) (decide ((4096:Int)<((p0c.Name).length:Int))) false)==false))&&((!decide (p0c.Kind=(12:Int)))==true)) (jQ p0c.Name)).bind fun x19=>cond (cond x1.name_ (cond (cond (decide (p0c.Kind=(12:Int))) (decide ((4096:Int)<((p0c.Name).length:Int))) false) true (cond (!decide (p0c.Kind=(12:Int))) (!x19) false)) false) (some false) ((mF p0c).bind fun x23=>some x23)))
theorem aBv {p0c:fL}{res:Bool} (h:nJ p0c=some res):bR Tryz.prog 106 [.agg (AV.cs (tG p0c))] [] (.c (.bool res)) []:=by
 unfold nJ at h
 refine cP (fn:=Tryz.f106) [0,1,2,3,28,46,70] (by kernel_rfl) Tryz.func106 r (by kernel_rfl) (by kernel_rfl)<|aJ<|gH (v:=.agg cG) (n:=0) (cs:=cG) (σ':=[cG]) r r r r r<|sB r<|aF (fr':=[(1,.box 0 0)]) r r<|aJ<|aQ r (bF aAk r)<|aQ r (aP (v:=aI) fC r r r) ?_
 obtain ⟨x1,hx1,h2⟩:=aE h
 refine jZ (bG (v:=.agg bW) r (aAV hx1) ⟨lr,trivial⟩ r r r)<|fZ (n:=1) (cs:=bW) (σ':=[cG,bW]) aKp r r r<|bO (v:=.agg bW) (us:=bW) (cs:=bW) (σ':=[cG,bW]) r nC r r r r r r r r<|aF (fr':=[(1,.box 0 0),(3,.box 1 0)]) r r<|aN<|aJ<|aQ r (bF aAk r)<|aQ r (aP (v:=aI) fC r r r) ?_
 obtain ⟨x3,hx3,h4⟩:=aE h2
 refine jZ (bG (v:=aB) r (gL hx3) ⟨lr,lr,lr,trivial⟩ r r r)<|aQ r (eU r)<|mB r<|og r r r (fun hc=>(dF (us:=cG) aHT r r r r))<|og r r r (fun hc=>(dF (us:=bW) nC r r r r)) ?_
 obtain ⟨x5,hx5,h6⟩:=aE h4
 refine vQ r r (fun hc=>bG (v:=aB) r (aCX (cV hx5 hc)) ⟨(fK (gx r hc) (bM r ⟨r,r,r,r,r,r,r,r,r,r,r,r,r,r,r,r,r,r,r,r,trivial⟩)),(fK (gx r hc) (bM r ⟨r,r,r,r,r,r,trivial⟩)),trivial⟩ (fT (by repeat (first | exact eK | refine aY r ?_ | refine aY (rI r) ?_ | refine aY rH ?_))) r r) ?_
 refine og r r r (fun hc=>(eU (gx r hc)))<|aQ r (cB r r r (fun e=>fG e))<|mB r<|og r r r (fun hc=>(bF aAl r))<|og r r r (fun hc=>(dF (us:=bI) fQ (gx r hc) r r r)) ?_
 obtain ⟨x7,hx7,h8⟩:=aE h6
 refine vQ r r (fun hc=>bG (v:=aB) r (yF (cV hx7 hc)) ⟨(fK (gx r hc) (bM r ⟨r,r,r,r,r,trivial⟩)),trivial⟩ (fT (by repeat (first | exact eK | refine aY r ?_ | refine aY (rI r) ?_ | refine aY rH ?_))) r r) ?_
 refine og r r r (fun hc=>(eU (gx r hc)))<|aQ r (cB r r r (fun e=>fG e))<|mB r<|og r r r (fun hc=>(bF aHN r))<|og r r r (fun hc=>(dF (us:=bU) xQ (gx r hc) r r r)) ?_
 obtain ⟨x9,hx9,h10⟩:=aE h8
 refine vQ r r (fun hc=>bG (v:=aB) r (lV (cV hx9 hc)) ⟨(fK (gx r hc) (bM r ⟨r,r,r,r,r,r,r,r,r,r,trivial⟩)),trivial⟩ (fT (by repeat (first | exact eK | refine aY r ?_ | refine aY (rI r) ?_ | refine aY rH ?_))) r r) ?_
 refine og r r r (fun hc=>(eU (gx r hc)))<|aQ r (cB r r r (fun e=>fG e))<|aF (fr':=[(1,.box 0 0),(3,.box 1 0),(28,aB)]) r r<|cC h10 r (fun hb11 h11=>?_) (fun hb11 h11=>?_)
 ·
  refine aJ<|sB r<|aF (fr':=[(2,aB)]) r r<|bE<|aK ?_
  obtain rfl:=sy h11
  exact bD (rs':=[.tmp 2]) r<|bL (v:=aB) r<|bC<|aR [] r r r lr aC
 ·
  refine bA<|bT<|aN<|aJ<|aQ r (bF aHQ r)<|aQ r (aP (v:=aB) tv4 r r r)<|mB r<|og r r r (fun hc=>(bF aHL r))<|og r r r (fun hc=>(aP (v:=aI) fC (gx r hc) r r)) ?_
  obtain ⟨x13,hx13,h14⟩:=aE h11
  refine vQ r r (fun hc=>bG (v:=aB) r (gL (cV hx13 hc)) ⟨(fK (gx r hc) lr),lr,lr,trivial⟩ (fT (by repeat (first | exact eK | refine aY r ?_ | refine aY (rI r) ?_ | refine aY rH ?_))) r r) ?_
  refine og r r r (fun hc=>(eU (gx r hc)))<|aQ r (bS r r r (fun e=>fG e))<|mB r<|og r r r (fun hc=>(bF aHS r))<|og r r r (fun hc=>(aP (v:=aB) tv4 (gx r hc) r r))<|og r r r (fun hc=>(aU (v:=aB) (gx r hc)))<|eJ r r (fun hc=>eW r (bF aHM r))<|eJ r r (fun hc=>eW r (aP (v:=aS) nV (gx r hc) r r)) ?_
  obtain ⟨x15,hx15,h16⟩:=aE h14
  refine eJ r r (fun hc=>bG (v:=aB) r (aBw (cV hx15 hc)) ⟨(fK (gx r hc) lr),trivial⟩ (fT (by repeat (first | exact eK | refine aY r ?_ | refine aY (rI r) ?_ | refine aY rH ?_))) r r) ?_
  refine eJ r r (fun hc=>eW r (eU (gx r hc)))<|og r r r (fun hc=>(bS (gx r hc) r r (fun e=>qB hc (fG e))))<|aQ r (cB r r r (fun e=>fG e))<|aF (fr':=[(1,.box 0 0),(3,.box 1 0),(46,aB)]) r r<|cC h16 r (fun hb17 h17=>?_) (fun hb17 h17=>?_)
  ·
   refine aJ<|sB r<|aF (fr':=[(2,aB)]) r r<|bE<|aK ?_
   obtain rfl:=sy h17
   exact bD (rs':=[.tmp 2]) r<|bL (v:=aB) r<|bC<|aR [] r r r lr aC
  ·
   refine bA<|bT<|aN<|aJ<|aQ r (bF aHR r)<|aQ r (aP (v:=aB) tv4 r r r)<|mB r<|og r r r (fun hc=>(bF aAk r))<|og r r r (fun hc=>(aP (v:=aI) fC (gx r hc) r r))<|og r r r (fun hc=>(bX (gx r hc) r))<|og r r r (fun hc=>(aU (v:=aB) (gx r hc)))<|eJ r r (fun hc=>eW r (bF aEL r)) ?_
   refine eJ r r (fun hc=>eW r (aP (v:=aS) nV (gx r hc) r r))<|eJ r r (fun hc=>eW r (jT tT (gx r hc)))<|eJ r r (fun hc=>eW r (nO (gx r hc) r))<|og r r r (fun hc=>(bS (gx r hc) r r (fun e=>qB hc (fG e))))<|og r r r (fun hc=>(aU (v:=aB) (gx r hc)))<|eJ r r (fun hc=>eW r (bF aAk r))<|eJ r r (fun hc=>eW r (aP (v:=aI) fC (gx r hc) r r))<|eJ r r (fun hc=>eW r (fU (gx r hc) r))<|eJ r r (fun hc=>eW r (aU (v:=aB) (gx r hc)))<|eJ r r (fun hc=>eW r (bF aEL r))<|eJ r r (fun hc=>eW r (aP (v:=aS) nV (gx r hc) r r)) ?_
   obtain ⟨x19,hx19,h20⟩:=aE h17
   refine eJ r r (fun hc=>bG (v:=aB) r (nB (cV hx19 hc)) ⟨(fK (gx r hc) lr),trivial⟩ (fT (by repeat (first | exact eK | refine aY r ?_ | refine aY (rI r) ?_ | refine aY rH ?_))) r r) ?_
   refine eJ r r (fun hc=>eW r (eU (gx r hc)))<|eJ r r (fun hc=>eW r (bS (gx r hc) r r (fun e=>qB hc (fG e))))<|og r r r (fun hc=>(cB (gx r hc) r r (fun e=>qB hc (fG e))))<|aQ r (bS r r r (fun e=>fG e))<|aF (fr':=[(1,.box 0 0),(70,aB)]) r r<|cC h20 r (fun hb21 h21=>?_) (fun hb21 h21=>?_)
   ·
    refine aJ<|sB r<|aF (fr':=[(2,aB)]) r r<|bE<|aK ?_
    obtain rfl:=sy h21
    exact bD (rs':=[.tmp 2]) r<|bL (v:=aB) r<|bC<|aR [] r r r lr aC
   ·
    refine bA<|bT<|aJ<|aQ r (dF (us:=cG) aHT r r r r) ?_
    obtain ⟨x23,hx23,h24⟩:=aE h21
    refine jZ (bG (v:=aB) r (aAW hx23) ⟨(bM r ⟨r,r,r,r,r,r,r,r,r,r,r,r,r,r,r,r,r,r,r,r,trivial⟩),trivial⟩ r r r)<|sB r<|aF (fr':=[(2,aB)]) r r<|bE ?_
    obtain rfl:=sy h24
    exact bD (rs':=[.tmp 2]) r<|bL (v:=aB) r<|bC<|aR [] r r r lr aC
noncomputable def lI (p0e:aV) (oQ:Int):Option Bool :=
 (gd (((decide (p0e.Code=(0:Int)))==true)&&((cond (decide (oQ=(2:Int))) true (decide (oQ=(4:Int))))==true)) (fN p0e.Ref (1:Int) (2000:Int))).bind fun x1=>(gd ((cond (decide (p0e.Code=(0:Int))) (cond (cond (cond (decide (oQ=(2:Int))) true (decide (oQ=(4:Int)))) x1 false) true (cond (!(cond (decide (oQ=(2:Int))) true (decide (oQ=(4:Int))))) (decide (p0e.Ref=(0:Int))) false)) false)==true) (nJ (fL.mk oQ p0e.Seq p0e.Name p0e.Key p0e.N p0e.Data p0e.Opts))).bind fun x3=>some (cond (cond (decide (p0e.Code=(0:Int))) (cond (cond (cond (decide (oQ=(2:Int))) true (decide (oQ=(4:Int)))) x1 false) true (cond (!(cond (decide (oQ=(2:Int))) true (decide (oQ=(4:Int))))) (decide (p0e.Ref=(0:Int))) false)) false) x3 false)
theorem aAt {p0e:aV}{oQ:Int}{res:Bool} (h:lI p0e oQ=some res):bR Tryz.prog 138 [.agg (AV.cs (bZ p0e)),ci oQ] [] (.c (.bool res)) []:=by
 unfold lI at h
 refine cP (fn:=Tryz.f138) [0,1,2,4,5,6] (by kernel_rfl) Tryz.func138 r (by kernel_rfl) (by kernel_rfl)<|aJ<|gH (v:=.agg aH) (n:=0) (cs:=aH) (σ':=[aH]) r r r r r<|sB r<|aF (fr':=[(1,aI),(2,.box 0 0)]) r r<|aJ<|mI r<|aQ r (bF yV r)<|aQ r (aP (v:=aI) fC r r r)<|aQ r (bF rX r)<|aQ r (aP (v:=aS) nV r r r) ?_
 refine aQ r (bF rY r)<|aQ r (aP (v:=aS) nV r r r)<|aQ r (bF uS r)<|aQ r (aP (v:=aI) fC r r r)<|aQ r (bF uT r)<|aQ r (dF (us:=bI) fQ r r r r)<|aQ r (bF rB r)<|aQ r (dF (us:=bU) xQ r r r r)<|aQ r (rS (c0:=iW) (cs:=cG) aNt r (kJ (v:=aI) (us:=[_]) (cs':=u20) r r r r r r (kJ (v:=aI) (us:=[_]) (cs':=u20) r r r r r r (kJ (v:=aS) (us:=[_]) (cs':=u20) r r r r r r (kJ (v:=aS) (us:=[_]) (cs':=u20) r r r r r r (kJ (v:=aI) (us:=[_]) (cs':=u20) r r r r r r (kJ (v:=.agg bI) (us:=u5) (cs':=u20) r r r r r r (kJ (v:=.agg bU) (us:=u10) (cs':=u20) r r r r r r rK))))))))<|fZ (n:=1) (cs:=iW) (σ':=[aH,iW]) aLY r r r<|bO (v:=.agg cG) (us:=cG) (cs:=iW) (σ':=[aH,cG]) r aHT r r r r r r r r<|aF (fr':=[(1,aI),(2,.box 0 0),(5,.box 1 0)]) r r<|aN ?_
 refine aT<|mI r<|aQ r (bX r r)<|mB r<|og r r r (fun hc=>(aU (v:=aI) r))<|og r r r (fun hc=>(bX (gx r hc) r))<|aQ r (cB r r r (fun e=>fG e))<|sB r<|aF (fr':=[(2,.box 0 0),(5,.box 1 0),(6,aB)]) r r<|aJ<|aQ r (bF wR r)<|aQ r (aP (v:=aI) fC r r r) ?_
 refine aQ r (bX r r)<|mB r<|og r r r (fun hc=>(aU (v:=aB) r))<|og r r r (fun hc=>(aU (v:=aB) (gx r hc)))<|eJ r r (fun hc=>eW r (bF wQ r))<|eJ r r (fun hc=>eW r (aP (v:=aI) fC (gx r hc) r r)) ?_
 obtain ⟨x1,hx1,h2⟩:=aE h
 refine eJ r r (fun hc=>bG (v:=aB) r (fY (cV hx1 hc)) ⟨(fK (gx r hc) lr),lr,lr,trivial⟩ (fT (by repeat (first | exact eK | refine aY r ?_ | refine aY (rI r) ?_ | refine aY rH ?_))) r r) ?_
 refine og r r r (fun hc=>(bS (gx r hc) r r (fun e=>qB hc (fG e))))<|og r r r (fun hc=>(aU (v:=aB) (gx r hc)))<|eJ r r (fun hc=>eW r (aU (v:=aB) r))<|eJ r r (fun hc=>eW r (eU (gx r hc)))<|eJ r r (fun hc=>eW r (aU (v:=aB) (gx r hc)))<|eJ r r (fun hc=>eW r (bF wQ r))<|eJ r r (fun hc=>eW r (aP (v:=aI) fC (gx r hc) r r))<|eJ r r (fun hc=>eW r (bX (gx r hc) r))<|eJ r r (fun hc=>eW r (bS (gx r hc) r r (fun e=>qB hc (fG e))))<|og r r r (fun hc=>(cB (gx r hc) r r (fun e=>qB hc (fG e))))<|aQ r (bS r r r (fun e=>fG e))<|mB r<|og r r r (fun hc=>(dF (us:=cG) aHT r r r r)) ?_
 obtain ⟨x3,hx3,h4⟩:=aE h2
 refine vQ r r (fun hc=>bG (v:=aB) r (aBv (cV hx3 hc)) ⟨(fK (gx r hc) (bM r ⟨r,r,r,r,r,r,r,r,r,r,r,r,r,r,r,r,r,r,r,r,trivial⟩)),trivial⟩ (fT (by repeat (first | exact eK | refine aY r ?_ | refine aY (rI r) ?_ | refine aY rH ?_))) r r) ?_
 refine aQ r (bS r r r (fun e=>fG e))<|sB r<|aF (fr':=[(4,aB)]) r r<|bE ?_
 obtain rfl:=sy h4
 exact bD (rs':=[.tmp 4]) r<|bL (v:=aB) r<|bC<|aR [] r r r lr aC
noncomputable def rJ (dH:Int):Option eS :=
 cond (decide (dH=(1:Int))) (some (eS.mk false false true false true true true)) (cond (decide (dH=(2:Int))) (some (eS.mk false false true false false false false)) (((cond (decide (dH=(3:Int))) (some (decide (dH=(3:Int)))) (cond (decide (dH=(4:Int))) (some (decide (dH=(4:Int)))) (some (decide (dH=(6:Int)))))):Option Bool).bind fun x5=>(cond x5 (some (eS.mk false true false false false false false)) (cond (decide (dH=(5:Int))) (some (eS.mk false true false true false false false)) (cond (decide (dH=(8:Int))) (some (eS.mk true true true false false false false)) (((cond (decide (dH=(9:Int))) (some (decide (dH=(9:Int)))) (cond (decide (dH=(13:Int))) (some (decide (dH=(13:Int)))) (some (decide (dH=(21:Int)))))):Option Bool).bind fun x17=>(cond x17 (some (eS.mk true true false false false false true)) (((cond (decide (dH=(10:Int))) (some (decide (dH=(10:Int)))) (some (decide (dH=(22:Int))))):Option Bool).bind fun x25=>(cond x25 (some (eS.mk true true false false true false true)) (cond (decide (dH=(11:Int))) (some (eS.mk true true false true false false false)) (((cond (decide (dH=(15:Int))) (some (decide (dH=(15:Int)))) (some (decide (dH=(24:Int))))):Option Bool).bind fun x34=>(cond x34 (some (eS.mk true true false false false false false)) (cond (decide (dH=(17:Int))) (some (eS.mk false false false false true true true)) (cond (decide (dH=(20:Int))) (some (eS.mk true true false false false true false)) (cond (decide (dH=(25:Int))) (some (eS.mk true true false false true false false)) (cond (decide (dH=(26:Int))) (some (eS.mk false false false false false true false)) (cond (decide (dH=(33:Int))) (some (eS.mk false false false false true false false)) (some (eS.mk false false false false false false false)))))))))))))))))))
theorem aES {dH:Int}{res:eS} (h:rJ dH=some res):bR Tryz.prog 139 [ci dH] [] (.agg (AV.cs (aAg res))) []:=by
 unfold rJ at h
 refine cP (fn:=Tryz.f139) [0,2,3,4,7,10,15,18,21,26,30,33,37,40,43,46,49] (by kernel_rfl) Tryz.func139 r (by kernel_rfl) (by kernel_rfl)<|aJ<|fZ (n:=0) (cs:=aW) (σ':=[aW]) aKo r r r<|aF (fr':=[(0,aI),(2,.box 0 0)]) r r<|aN<|aJ<|mI r<|aF (fr':=[(2,.box 0 0),(3,aI)]) r r<|bK<|aN<|aT ?_
 refine aQ r (bX r r)<|sB r<|aF (fr':=[(2,.box 0 0),(3,aI),(4,aB)]) r r<|cC h r (fun hb1 h1=>?_) (fun hb1 h1=>?_)
 ·
  refine aJ<|aQ r (eI (cs:=aW) rW r)<|bO (v:=.agg aW) (us:=aW) (cs:=aW) (σ':=[aW]) r iR r r r r r r r r<|aF (fr':=[(2,.box 0 0)]) r r<|bE<|bB<|aK ?_
  obtain rfl:=sy h1
  exact bD (rs':=[.cell 2 139]) r<|dX (us:=aW) (cs:=aW) iR r r r r<|bC<|aR [] r r r (bM r ⟨r,r,r,r,r,r,r,trivial⟩) aC
 ·
  refine aJ<|aQ r (bX r r)<|sB r<|aF (fr':=[(2,.box 0 0),(3,aI),(7,aB)]) r r<|cC h1 r (fun hb3 h3=>?_) (fun hb3 h3=>?_)
  ·
   refine aJ<|aQ r (eI (cs:=aW) rW r)<|bO (v:=.agg aW) (us:=aW) (cs:=aW) (σ':=[aW]) r iR r r r r r r r r<|aF (fr':=[(2,.box 0 0)]) r r<|bE<|bB<|aK ?_
   obtain rfl:=sy h3
   exact bD (rs':=[.cell 2 139]) r<|dX (us:=aW) (cs:=aW) iR r r r r<|bC<|aR [] r r r (bM r ⟨r,r,r,r,r,r,r,trivial⟩) aC
  ·
   obtain ⟨x5,hx5,h6⟩:=aE h3
   refine jX (fun j7=>x5=j7) (fun (j7:Bool)=>([(2,.box 0 0),(3,ci dH),(10,.c (.bool j7))]:Fr)) (fun (j7:Bool)=>([[.c (.bool false),.c (.bool false),.c (.bool false),.c (.bool false),.c (.bool false),.c (.bool false),.c (.bool false)]]:St)) ?_ ?_
   ·
    refine aJ<|aQ r (bX r r)<|sB r<|aF (fr':=[(2,.box 0 0),(3,aI),(10,aB)]) r r<|cC hx5 r (fun hb8 h8=>?_) (fun hb8 h8=>?_)
    ·
     exact bA<|lF _ (sy h8) (bJ [] 1 r r r r ⟨lr,lr,lr,trivial⟩ (cK r aC))
    ·
     refine aJ<|aQ r (bX r r)<|sB r<|aF (fr':=[(2,.box 0 0),(3,aI),(10,aB)]) r r<|cC h8 r (fun hb9 h9=>?_) (fun hb9 h9=>?_)
     ·
      exact bA<|lF _ (sy h9) (bJ [] 1 r r r r ⟨lr,lr,lr,trivial⟩ (cK r aC))
     ·
      exact aT<|aQ r (bX r r)<|sB r<|cI (fr':=[(2,.box 0 0),(3,aI),(10,aB)]) r<|lF _ (sy h9) (bJ [] 1 r r r r ⟨lr,lr,lr,trivial⟩ (cK r aC))
   ·
    intro j7 hj10
    subst hj10
    refine cC h6 r (fun hb11 h11=>?_) (fun hb11 h11=>?_)
    ·
     refine aJ<|aQ r (eI (cs:=aW) rW r)<|bO (v:=.agg aW) (us:=aW) (cs:=aW) (σ':=[aW]) r iR r r r r r r r r<|aF (fr':=[(2,.box 0 0)]) r r<|bE<|bB<|aK ?_
     obtain rfl:=sy h11
     exact bD (rs':=[.cell 2 139]) r<|dX (us:=aW) (cs:=aW) iR r r r r<|bC<|aR [] r r r (bM r ⟨r,r,r,r,r,r,r,trivial⟩) aC
    ·
     refine aJ<|aQ r (bX r r)<|sB r<|aF (fr':=[(2,.box 0 0),(3,aI),(15,aB)]) r r<|cC h11 r (fun hb13 h13=>?_) (fun hb13 h13=>?_)
     ·
      refine aJ<|aQ r (eI (cs:=aW) rW r)<|bO (v:=.agg aW) (us:=aW) (cs:=aW) (σ':=[aW]) r iR r r r r r r r r<|aF (fr':=[(2,.box 0 0)]) r r<|bE<|bB<|aK ?_
      obtain rfl:=sy h13
      exact bD (rs':=[.cell 2 139]) r<|dX (us:=aW) (cs:=aW) iR r r r r<|bC<|aR [] r r r (bM r ⟨r,r,r,r,r,r,r,trivial⟩) aC
     ·
      refine aJ<|aQ r (bX r r)<|sB r<|aF (fr':=[(2,.box 0 0),(3,aI),(18,aB)]) r r<|cC h13 r (fun hb15 h15=>?_) (fun hb15 h15=>?_)
      ·
       refine aJ<|aQ r (eI (cs:=aW) rW r)<|bO (v:=.agg aW) (us:=aW) (cs:=aW) (σ':=[aW]) r iR r r r r r r r r<|aF (fr':=[(2,.box 0 0)]) r r<|bE<|bB<|aK ?_
       obtain rfl:=sy h15
       exact bD (rs':=[.cell 2 139]) r<|dX (us:=aW) (cs:=aW) iR r r r r<|bC<|aR [] r r r (bM r ⟨r,r,r,r,r,r,r,trivial⟩) aC
      ·
       obtain ⟨x17,hx17,h18⟩:=aE h15
       refine jX (fun j19=>x17=j19) (fun (j19:Bool)=>([(2,.box 0 0),(3,ci dH),(21,.c (.bool j19))]:Fr)) (fun (j19:Bool)=>([[.c (.bool false),.c (.bool false),.c (.bool false),.c (.bool false),.c (.bool false),.c (.bool false),.c (.bool false)]]:St)) ?_ ?_
       ·
        refine aJ<|aQ r (bX r r)<|sB r<|aF (fr':=[(2,.box 0 0),(3,aI),(21,aB)]) r r<|cC hx17 r (fun hb20 h20=>?_) (fun hb20 h20=>?_)
        ·
         exact bA<|lF _ (sy h20) (bJ [] 1 r r r r ⟨lr,lr,lr,trivial⟩ (cK r aC))
        ·
         refine aJ<|aQ r (bX r r)<|sB r<|aF (fr':=[(2,.box 0 0),(3,aI),(21,aB)]) r r<|cC h20 r (fun hb21 h21=>?_) (fun hb21 h21=>?_)
         ·
          exact bA<|lF _ (sy h21) (bJ [] 1 r r r r ⟨lr,lr,lr,trivial⟩ (cK r aC))
         ·
          exact aT<|aQ r (bX r r)<|sB r<|cI (fr':=[(2,.box 0 0),(3,aI),(21,aB)]) r<|lF _ (sy h21) (bJ [] 1 r r r r ⟨lr,lr,lr,trivial⟩ (cK r aC))
       ·
        intro j19 hj22
        subst hj22
        refine cC h18 r (fun hb23 h23=>?_) (fun hb23 h23=>?_)
        ·
         refine aJ<|aQ r (eI (cs:=aW) rW r)<|bO (v:=.agg aW) (us:=aW) (cs:=aW) (σ':=[aW]) r iR r r r r r r r r<|aF (fr':=[(2,.box 0 0)]) r r<|bE<|bB<|aK ?_
         obtain rfl:=sy h23
         exact bD (rs':=[.cell 2 139]) r<|dX (us:=aW) (cs:=aW) iR r r r r<|bC<|aR [] r r r (bM r ⟨r,r,r,r,r,r,r,trivial⟩) aC
        ·
         obtain ⟨x25,hx25,h26⟩:=aE h23
         refine jX (fun j27=>x25=j27) (fun (j27:Bool)=>([(2,.box 0 0),(3,ci dH),(26,.c (.bool j27))]:Fr)) (fun (j27:Bool)=>([[.c (.bool false),.c (.bool false),.c (.bool false),.c (.bool false),.c (.bool false),.c (.bool false),.c (.bool false)]]:St)) ?_ ?_
         ·
          refine aJ<|aQ r (bX r r)<|sB r<|aF (fr':=[(2,.box 0 0),(3,aI),(26,aB)]) r r<|cC hx25 r (fun hb28 h28=>?_) (fun hb28 h28=>?_)
          ·
           exact bA<|lF _ (sy h28) (bJ [] 1 r r r r ⟨lr,lr,lr,trivial⟩ (cK r aC))
          ·
           exact aT<|aQ r (bX r r)<|sB r<|cI (fr':=[(2,.box 0 0),(3,aI),(26,aB)]) r<|lF _ (sy h28) (bJ [] 1 r r r r ⟨lr,lr,lr,trivial⟩ (cK r aC))
         ·
          intro j27 hj29
          subst hj29
          refine cC h26 r (fun hb30 h30=>?_) (fun hb30 h30=>?_)
          ·
           refine aJ<|aQ r (eI (cs:=aW) rW r)<|bO (v:=.agg aW) (us:=aW) (cs:=aW) (σ':=[aW]) r iR r r r r r r r r<|aF (fr':=[(2,.box 0 0)]) r r<|bE<|bB<|aK ?_
           obtain rfl:=sy h30
           exact bD (rs':=[.cell 2 139]) r<|dX (us:=aW) (cs:=aW) iR r r r r<|bC<|aR [] r r r (bM r ⟨r,r,r,r,r,r,r,trivial⟩) aC
          ·
           refine aJ<|aQ r (bX r r)<|sB r<|aF (fr':=[(2,.box 0 0),(3,aI),(30,aB)]) r r<|cC h30 r (fun hb32 h32=>?_) (fun hb32 h32=>?_)
           ·
            refine aJ<|aQ r (eI (cs:=aW) rW r)<|bO (v:=.agg aW) (us:=aW) (cs:=aW) (σ':=[aW]) r iR r r r r r r r r<|aF (fr':=[(2,.box 0 0)]) r r<|bE<|bB<|aK ?_
            obtain rfl:=sy h32
            exact bD (rs':=[.cell 2 139]) r<|dX (us:=aW) (cs:=aW) iR r r r r<|bC<|aR [] r r r (bM r ⟨r,r,r,r,r,r,r,trivial⟩) aC
           ·
            obtain ⟨x34,hx34,h35⟩:=aE h32
            refine jX (fun j36=>x34=j36) (fun (j36:Bool)=>([(2,.box 0 0),(3,ci dH),(33,.c (.bool j36))]:Fr)) (fun (j36:Bool)=>([[.c (.bool false),.c (.bool false),.c (.bool false),.c (.bool false),.c (.bool false),.c (.bool false),.c (.bool false)]]:St)) ?_ ?_
            ·
             refine aJ<|aQ r (bX r r)<|sB r<|aF (fr':=[(2,.box 0 0),(3,aI),(33,aB)]) r r<|cC hx34 r (fun hb37 h37=>?_) (fun hb37 h37=>?_)
             ·
              exact bA<|lF _ (sy h37) (bJ [] 1 r r r r ⟨lr,lr,lr,trivial⟩ (cK r aC))
             ·
              exact aT<|aQ r (bX r r)<|sB r<|cI (fr':=[(2,.box 0 0),(3,aI),(33,aB)]) r<|lF _ (sy h37) (bJ [] 1 r r r r ⟨lr,lr,lr,trivial⟩ (cK r aC))
            ·
             intro j36 hj38
             subst hj38
             refine cC h35 r (fun hb39 h39=>?_) (fun hb39 h39=>?_)
             ·
              refine aJ<|aQ r (eI (cs:=aW) rW r)<|bO (v:=.agg aW) (us:=aW) (cs:=aW) (σ':=[aW]) r iR r r r r r r r r<|aF (fr':=[(2,.box 0 0)]) r r<|bE<|bB<|aK ?_
              obtain rfl:=sy h39
              exact bD (rs':=[.cell 2 139]) r<|dX (us:=aW) (cs:=aW) iR r r r r<|bC<|aR [] r r r (bM r ⟨r,r,r,r,r,r,r,trivial⟩) aC
             ·
              refine aJ<|aQ r (bX r r)<|sB r<|aF (fr':=[(2,.box 0 0),(3,aI),(37,aB)]) r r<|cC h39 r (fun hb41 h41=>?_) (fun hb41 h41=>?_)
              ·
               refine aJ<|aQ r (eI (cs:=aW) rW r)<|bO (v:=.agg aW) (us:=aW) (cs:=aW) (σ':=[aW]) r iR r r r r r r r r<|aF (fr':=[(2,.box 0 0)]) r r<|bE<|bB<|aK ?_
               obtain rfl:=sy h41
               exact bD (rs':=[.cell 2 139]) r<|dX (us:=aW) (cs:=aW) iR r r r r<|bC<|aR [] r r r (bM r ⟨r,r,r,r,r,r,r,trivial⟩) aC
              ·
               refine aJ<|aQ r (bX r r)<|sB r<|aF (fr':=[(2,.box 0 0),(3,aI),(40,aB)]) r r<|cC h41 r (fun hb43 h43=>?_) (fun hb43 h43=>?_)
               ·
                refine aJ<|aQ r (eI (cs:=aW) rW r)<|bO (v:=.agg aW) (us:=aW) (cs:=aW) (σ':=[aW]) r iR r r r r r r r r<|aF (fr':=[(2,.box 0 0)]) r r<|bE<|bB<|aK ?_
                obtain rfl:=sy h43
                exact bD (rs':=[.cell 2 139]) r<|dX (us:=aW) (cs:=aW) iR r r r r<|bC<|aR [] r r r (bM r ⟨r,r,r,r,r,r,r,trivial⟩) aC
               ·
                refine aJ<|aQ r (bX r r)<|sB r<|aF (fr':=[(2,.box 0 0),(3,aI),(43,aB)]) r r<|cC h43 r (fun hb45 h45=>?_) (fun hb45 h45=>?_)
                ·
                 refine aJ<|aQ r (eI (cs:=aW) rW r)<|bO (v:=.agg aW) (us:=aW) (cs:=aW) (σ':=[aW]) r iR r r r r r r r r<|aF (fr':=[(2,.box 0 0)]) r r<|bE<|bB<|aK ?_
                 obtain rfl:=sy h45
                 exact bD (rs':=[.cell 2 139]) r<|dX (us:=aW) (cs:=aW) iR r r r r<|bC<|aR [] r r r (bM r ⟨r,r,r,r,r,r,r,trivial⟩) aC
                ·
                 refine aJ<|aQ r (bX r r)<|sB r<|aF (fr':=[(2,.box 0 0),(3,aI),(46,aB)]) r r<|cC h45 r (fun hb47 h47=>?_) (fun hb47 h47=>?_)
                 ·
                  refine aJ<|aQ r (eI (cs:=aW) rW r)<|bO (v:=.agg aW) (us:=aW) (cs:=aW) (σ':=[aW]) r iR r r r r r r r r<|aF (fr':=[(2,.box 0 0)]) r r<|bE<|bB<|aK ?_
                  obtain rfl:=sy h47
                  exact bD (rs':=[.cell 2 139]) r<|dX (us:=aW) (cs:=aW) iR r r r r<|bC<|aR [] r r r (bM r ⟨r,r,r,r,r,r,r,trivial⟩) aC
                 ·
                  refine aJ<|aQ r (bX r r)<|sB r<|aF (fr':=[(2,.box 0 0),(49,aB)]) r r<|cC h47 r (fun hb49 h49=>?_) (fun hb49 h49=>?_)
                  ·
                   refine aJ<|aQ r (eI (cs:=aW) rW r)<|bO (v:=.agg aW) (us:=aW) (cs:=aW) (σ':=[aW]) r iR r r r r r r r r<|aF (fr':=[(2,.box 0 0)]) r r<|bE<|bB<|aK ?_
                   obtain rfl:=sy h49
                   exact bD (rs':=[.cell 2 139]) r<|dX (us:=aW) (cs:=aW) iR r r r r<|bC<|aR [] r r r (bM r ⟨r,r,r,r,r,r,r,trivial⟩) aC
                  ·
                   refine bA<|cA<|bT<|aJ<|aQ r (eI (cs:=aW) rW r)<|bO (v:=.agg aW) (us:=aW) (cs:=aW) (σ':=[aW]) r iR r r r r r r r r<|aF (fr':=[(2,.box 0 0)]) r r<|bE ?_
                   obtain rfl:=sy h49
                   exact bD (rs':=[.cell 2 139]) r<|dX (us:=aW) (cs:=aW) iR r r r r<|bC<|aR [] r r r (bM r ⟨r,r,r,r,r,r,r,trivial⟩) aC
noncomputable def kG (p0u:eS) (p1e:aV):Option Bool :=
 (gd (((cond (cond (cond (cond (cond (cond p0u.seq_ true (decide (p1e.Seq=(0:Int)))) (cond p0u.ref_ true (decide (p1e.Ref=(0:Int)))) false) (cond p0u.n_ true (decide (p1e.N=(0:Int)))) false) (cond p0u.code_ true (decide (p1e.Code=(0:Int)))) false) (cond p0u.name_ true (decide (p1e.Name=([]:List UInt8)))) false) (cond p0u.key_ true (decide (p1e.Key=([]:List UInt8)))) false)==true)&&(p0u.data_==false)) (uZ p1e.Data (aD.mk (0:Int) (0:Int) ([]:List UInt8) ([]:(List aD)) ([]:(List (List UInt8)))))).bind fun x1=>(gd ((cond (cond (cond (cond (cond (cond (cond p0u.seq_ true (decide (p1e.Seq=(0:Int)))) (cond p0u.ref_ true (decide (p1e.Ref=(0:Int)))) false) (cond p0u.n_ true (decide (p1e.N=(0:Int)))) false) (cond p0u.code_ true (decide (p1e.Code=(0:Int)))) false) (cond p0u.name_ true (decide (p1e.Name=([]:List UInt8)))) false) (cond p0u.key_ true (decide (p1e.Key=([]:List UInt8)))) false) (cond p0u.data_ true x1) false)==true) (gS p1e.Opts (bP.mk ([]:List UInt8) (0:Int) (0:Int) (0:Int) (0:Int) (0:Int) (0:Int) (0:Int) (0:Int) ([]:(List (List UInt8)))))).bind fun x3=>some (cond (cond (cond (cond (cond (cond (cond (cond p0u.seq_ true (decide (p1e.Seq=(0:Int)))) (cond p0u.ref_ true (decide (p1e.Ref=(0:Int)))) false) (cond p0u.n_ true (decide (p1e.N=(0:Int)))) false) (cond p0u.code_ true (decide (p1e.Code=(0:Int)))) false) (cond p0u.name_ true (decide (p1e.Name=([]:List UInt8)))) false) (cond p0u.key_ true (decide (p1e.Key=([]:List UInt8)))) false) (cond p0u.data_ true x1) false) x3 false)
theorem zA {p0u:eS}{p1e:aV}{res:Bool} (h:kG p0u p1e=some res):bR Tryz.prog 140 [.agg (AV.cs (aAg p0u)),.agg (AV.cs (bZ p1e))] [] (.c (.bool res)) []:=by
 unfold kG at h
 refine cP (fn:=Tryz.f140) [0,1,2,3,4] (by kernel_rfl) Tryz.func140 r (by kernel_rfl) (by kernel_rfl)<|aJ<|gH (v:=.agg aW) (n:=0) (cs:=aW) (σ':=[aW]) r r r r r<|gH (v:=.agg aH) (n:=1) (cs:=aH) (σ':=[aW,aH]) r r r r r<|sB r<|aF (fr':=[(2,.box 0 0),(3,.box 1 0)]) r r<|aJ<|aQ r (bF aHO r)<|aQ r (aP (v:=aB) tv4 r r r)<|mB r<|og r r r (fun hc=>(bF yV r)) ?_
 refine og r r r (fun hc=>(aP (v:=aI) fC (gx r hc) r r))<|og r r r (fun hc=>(bX (gx r hc) r))<|aQ r (cB r r r (fun e=>fG e))<|mB r<|og r r r (fun hc=>(bF aHP r))<|og r r r (fun hc=>(aP (v:=aB) tv4 (gx r hc) r r))<|og r r r (fun hc=>(aU (v:=aB) (gx r hc)))<|eJ r r (fun hc=>eW r (bF wQ r))<|eJ r r (fun hc=>eW r (aP (v:=aI) fC (gx r hc) r r))<|eJ r r (fun hc=>eW r (bX (gx r hc) r))<|og r r r (fun hc=>(cB (gx r hc) r r (fun e=>qB hc (fG e))))<|aQ r (bS r r r (fun e=>fG e))<|mB r ?_
 refine og r r r (fun hc=>(bF aLp r))<|og r r r (fun hc=>(aP (v:=aB) tv4 (gx r hc) r r))<|og r r r (fun hc=>(aU (v:=aB) (gx r hc)))<|eJ r r (fun hc=>eW r (bF uS r))<|eJ r r (fun hc=>eW r (aP (v:=aI) fC (gx r hc) r r))<|eJ r r (fun hc=>eW r (bX (gx r hc) r))<|og r r r (fun hc=>(cB (gx r hc) r r (fun e=>qB hc (fG e))))<|aQ r (bS r r r (fun e=>fG e))<|mB r<|og r r r (fun hc=>(bF aLq r))<|og r r r (fun hc=>(aP (v:=aB) tv4 (gx r hc) r r))<|og r r r (fun hc=>(aU (v:=aB) (gx r hc)))<|eJ r r (fun hc=>eW r (bF wR r)) ?_
 refine eJ r r (fun hc=>eW r (aP (v:=aI) fC (gx r hc) r r))<|eJ r r (fun hc=>eW r (bX (gx r hc) r))<|og r r r (fun hc=>(cB (gx r hc) r r (fun e=>qB hc (fG e))))<|aQ r (bS r r r (fun e=>fG e))<|mB r<|og r r r (fun hc=>(bF aLr r))<|og r r r (fun hc=>(aP (v:=aB) tv4 (gx r hc) r r))<|og r r r (fun hc=>(aU (v:=aB) (gx r hc)))<|eJ r r (fun hc=>eW r (bF rX r))<|eJ r r (fun hc=>eW r (aP (v:=aS) nV (gx r hc) r r))<|eJ r r (fun hc=>eW r (uJ (gx r hc) r))<|og r r r (fun hc=>(cB (gx r hc) r r (fun e=>qB hc (fG e))))<|aQ r (bS r r r (fun e=>fG e)) ?_
 refine mB r<|og r r r (fun hc=>(bF aLs r))<|og r r r (fun hc=>(aP (v:=aB) tv4 (gx r hc) r r))<|og r r r (fun hc=>(aU (v:=aB) (gx r hc)))<|eJ r r (fun hc=>eW r (bF rY r))<|eJ r r (fun hc=>eW r (aP (v:=aS) nV (gx r hc) r r))<|eJ r r (fun hc=>eW r (uJ (gx r hc) r))<|og r r r (fun hc=>(cB (gx r hc) r r (fun e=>qB hc (fG e))))<|aQ r (bS r r r (fun e=>fG e))<|mB r<|og r r r (fun hc=>(bF aLt r))<|og r r r (fun hc=>(aP (v:=aB) tv4 (gx r hc) r r))<|og r r r (fun hc=>(aU (v:=aB) (gx r hc))) ?_
 refine eJ r r (fun hc=>eW r (bF uT r))<|eJ r r (fun hc=>eW r (dF (us:=bI) fQ (gx r hc) r r r))<|eJ r r (fun hc=>eW r (eI (cs:=bH) aDl r)) ?_
 obtain ⟨x1,hx1,h2⟩:=aE h
 refine eJ r r (fun hc=>bG (v:=aB) r (aAu (cV hx1 hc)) ⟨(fK (gx r hc) (bM r ⟨r,r,r,r,r,trivial⟩)),(fK (gx r hc) (bM r ⟨r,r,r,⟨_,r⟩,⟨_,r⟩,trivial⟩)),trivial⟩ (fT (by repeat (first | exact eK | refine aY r ?_ | refine aY (rI r) ?_ | refine aY rH ?_))) r r) ?_
 refine og r r r (fun hc=>(cB (gx r hc) r r (fun e=>qB hc (fG e))))<|aQ r (bS r r r (fun e=>fG e))<|mB r<|og r r r (fun hc=>(bF rB r))<|og r r r (fun hc=>(dF (us:=bU) xQ (gx r hc) r r r))<|og r r r (fun hc=>(rS (c0:=aX) (cs:=aX) aML r rK)) ?_
 obtain ⟨x3,hx3,h4⟩:=aE h2
 refine vQ r r (fun hc=>bG (v:=aB) r (qK (cV hx3 hc)) ⟨(fK (gx r hc) (bM r ⟨r,r,r,r,r,r,r,r,r,r,trivial⟩)),(fK (gx r hc) (bM r ⟨r,r,r,r,r,r,r,r,r,⟨_,r⟩,trivial⟩)),trivial⟩ (fT (by repeat (first | exact eK | refine aY r ?_ | refine aY (rI r) ?_ | refine aY rH ?_))) r r) ?_
 refine aQ r (bS r r r (fun e=>fG e))<|sB r<|aF (fr':=[(4,aB)]) r r<|bE ?_
 obtain rfl:=sy h4
 exact bD (rs':=[.tmp 4]) r<|bL (v:=aB) r<|bC<|aR [] r r r lr aC
noncomputable def qG (aFO:(List UInt8)):Option (Int × Bool) :=
 if aFO.length≤140737488355328 then some (xL aFO) else none
theorem aDt {aFO:(List UInt8)}{res:(Int × Bool)} (h:qG aFO=some res):bR Tryz.prog 161 [.c (.str aFO)] [] (.tup [ci res.1,.c (.bool res.2)]) []:=by
 unfold qG at h
 obtain ⟨hl,rfl⟩:=aJE h
 refine aGm (by kernel_rfl) fun g w vs hv hI hg=>?_
 rw [aMA hv]
 refine (aEB hl w hI hg).mono fun e w'=>?_
 rintro ⟨rfl,hb⟩
 exact ⟨_,r,hb,fun g'=>aJ4 (.c (.int _ _)) (.c (.bool _))⟩
noncomputable def qT (p0s:(List UInt8)) (s4:Int):Option (cD Int (Fl Bool Unit)) :=
 cond (decide (s4<((p0s).length:Int))) ((gR p0s s4).bind fun x6=>(gd ((decide (((x6).toNat:Int)<(33:Int)))==false) (gR p0s s4)).bind fun x8=>(gd ((cond (decide (((x6).toNat:Int)<(33:Int))) true (decide ((126:Int)<((x8).toNat:Int))))==false) (gR p0s s4)).bind fun x10=>(gd ((cond (cond (decide (((x6).toNat:Int)<(33:Int))) true (decide ((126:Int)<((x8).toNat:Int)))) true (decide (((x10).toNat:Int)=(47:Int))))==false) (gR p0s s4)).bind fun x12=>cond (cond (cond (cond (decide (((x6).toNat:Int)<(33:Int))) true (decide ((126:Int)<((x8).toNat:Int)))) true (decide (((x10).toNat:Int)=(47:Int)))) true (decide (((x12).toNat:Int)=(34:Int)))) (some (cD.out (Fl.done false))) (some (cD.next (IntKind.wrap .i64 (s4+(1:Int)))))) (some (cD.out (Fl.go ())))
noncomputable def gT (p0s:(List UInt8)):Option Bool :=
 ((dO (qT p0s) ((0:Int))):Option (Fl Bool Unit)).bind fun x1=>Fl.next x1 (fun j3=>((fN ((p0s).length:Int) (1:Int) (64:Int)).bind fun x20=>some x20))
theorem nW {p0s:(List UInt8)}{res:Bool} (h:gT p0s=some res):bR Tryz.prog 181 [.c (.str p0s)] [] (.c (.bool res)) []:=by
 unfold gT at h
 refine cP (fn:=Tryz.f181) [0,2,3,5,6,7,30] (by kernel_rfl) Tryz.func181 r (by kernel_rfl) (by kernel_rfl)<|aJ<|sB r<|aF (fr':=[(0,aS)]) r r<|aN<|aJ<|mS r<|aQ r (jT tT r)<|mI r<|aF (fr':=[(0,aS),(5,aI),(6,aI)]) r r ?_
 obtain ⟨x1,hx1,h2⟩:=aE h
 refine fI iV (fun j3=>x1=Fl.go j3) (fun (j3:Unit)=>([(0,.c (.str p0s))]:Fr)) (fun (j3:Unit)=>([]:St)) ?_ ?_
 ·
  refine bK<|fB _ (fun (s4:Int)=>([(0,.c (.str p0s)),(5,ci ((p0s).length:Int)),(6,ci s4)]:Fr)) (fun (s4:Int)=>([]:St)) hx1 (bJ [] 0 r r r r ⟨lr,lr,lr,trivial⟩ aC) ?_
  intro s4 st4 hs4 ho4
  unfold qT at hs4
  refine aJ<|aQ r (dU r r)<|aF (fr':=[(0,aS),(5,aI),(6,aI),(7,aB)]) r r<|aN<|cC hs4 r (fun hb5 h5=>?_) (fun hb5 h5=>?_)
  ·
   refine bA<|bT<|aN<|bK<|aJ<|mI r<|sI r<|aF (fr':=[(0,aS),(3,aI),(5,aI),(6,aI)]) r r<|aJ<|mS r<|mI r ?_
   obtain ⟨x6,hx6,h7⟩:=aE h5
   refine aQ r (aCr tT r r hx6)<|aQ r (dU r r)<|mB r<|og r r r (fun hc=>(aU (v:=aS) r))<|og r r r (fun hc=>(aU (v:=aI) r)) ?_
   obtain ⟨x8,hx8,h9⟩:=aE h7
   refine og r r r (fun hc=>(aCr tT (gx r hc) (gx r hc) (cV hx8 hc)))<|og r r r (fun hc=>(nO (gx r hc) r))<|aQ r (cB r r r (fun e=>fG e))<|mB r<|og r r r (fun hc=>(aU (v:=aS) r))<|og r r r (fun hc=>(aU (v:=aI) r)) ?_
   obtain ⟨x10,hx10,h11⟩:=aE h9
   refine og r r r (fun hc=>(aCr tT (gx r hc) (gx r hc) (cV hx10 hc)))<|og r r r (fun hc=>(bX (gx r hc) r))<|aQ r (cB r r r (fun e=>fG e))<|mB r<|og r r r (fun hc=>(aU (v:=aS) r))<|og r r r (fun hc=>(aU (v:=aI) r)) ?_
   obtain ⟨x12,hx12,h13⟩:=aE h11
   refine og r r r (fun hc=>(aCr tT (gx r hc) (gx r hc) (cV hx12 hc)))<|og r r r (fun hc=>(bX (gx r hc) r))<|aQ r (cB r r r (fun e=>fG e))<|aF (fr':=[(0,aS),(5,aI),(6,aI),(30,aB)]) r r<|cC h13 r (fun hb14 h14=>?_) (fun hb14 h14=>?_)
   ·
    refine aJ<|sB r<|aF (fr':=[(2,aB)]) r r<|bE<|bB<|aK<|aK<|bB<|aK<|aK ?_
    have h15:=dN h14 ho4
    have h16:=eA h15 h2
    obtain rfl:=sy h16
    exact bD (rs':=[.tmp 2]) r<|bL (v:=aB) r<|bC<|aR [] r r r lr aC
   ·
    exact bA<|cA<|bT<|aT<|aQ r (dR r r)<|mI r<|cI (fr':=[(0,aS),(5,aI),(6,aI),(30,aB)]) r<|xG _ (sy h14) (bJ [] 0 r r r r ⟨lr,lr,lr,trivial⟩ aC)
  ·
   refine fJ<|bY<|bY<|eC ?_
   have h18:=dN h5 ho4
   exact lF _ (sy h18) (bJ [] 0 r r r r ⟨lr,trivial⟩ aC)
 ·
  intro j3 hj19
  have h19:=kN hj19 h2
  refine bT<|aJ<|mS r<|aQ r (jT tT r) ?_
  obtain ⟨x20,hx20,h21⟩:=aE h19
  refine jZ (bG (v:=aB) r (fY hx20) ⟨lr,lr,lr,trivial⟩ r r r)<|sB r<|aF (fr':=[(2,aB)]) r r<|bE ?_
  obtain rfl:=sy h21
  exact bD (rs':=[.tmp 2]) r<|bL (v:=aB) r<|bC<|aR [] r r r lr aC
noncomputable def mJ (x5:aD) (s10:Int):Option (cD Int (Fl Bool Unit)) :=
 cond (decide (s10<((x5.Items).length:Int))) ((gR x5.Items s10).bind fun x12=>(gd ((cond (!decide (x12.Kind=(4:Int))) true (!decide (((x12.Items).length:Int)=(2:Int))))==false) (gR x12.Items (0:Int))).bind fun x14=>(gd ((cond (cond (!decide (x12.Kind=(4:Int))) true (!decide (((x12.Items).length:Int)=(2:Int)))) true (!decide (x14.Kind=(3:Int))))==false) (gR x12.Items (0:Int))).bind fun x16=>(gd ((cond (cond (!decide (x12.Kind=(4:Int))) true (!decide (((x12.Items).length:Int)=(2:Int)))) true (!decide (x14.Kind=(3:Int))))==false) (jQ x16.Text)).bind fun x18=>cond (cond (cond (cond (!decide (x12.Kind=(4:Int))) true (!decide (((x12.Items).length:Int)=(2:Int)))) true (!decide (x14.Kind=(3:Int)))) true (!x18)) (some (cD.out (Fl.done false))) (some (cD.next (IntKind.wrap .i64 (s10+(1:Int)))))) (some (cD.out (Fl.go ())))
noncomputable def qC (p0v:aD):Option Bool :=
 (gd ((cond (!decide (p0v.Kind=(4:Int))) true (!decide (((p0v.Items).length:Int)=(2:Int))))==false) (gR p0v.Items (1:Int))).bind fun x1=>cond (cond (cond (!decide (p0v.Kind=(4:Int))) true (!decide (((p0v.Items).length:Int)=(2:Int)))) true (!decide (x1.Kind=(4:Int)))) (some false) ((gR p0v.Items (1:Int)).bind fun x5=>((dO (mJ x5) ((0:Int))):Option (Fl Bool Unit)).bind fun x7=>Fl.next x7 (fun j9=>(some true)))
theorem aDr {p0v:aD}{res:Bool} (h:qC p0v=some res):bR Tryz.prog 182 [.agg (AV.cs (dD p0v))] [] (.c (.bool res)) []:=by
 unfold qC at h
 refine cP (fn:=Tryz.f182) [0,1,2,4,21,26,27,28,29,57] (by kernel_rfl) Tryz.func182 r (by kernel_rfl) (by kernel_rfl)<|aJ<|gH (v:=.agg bI) (n:=0) (cs:=bI) (σ':=[bI]) r r r r r<|sB r<|aF (fr':=[(1,.box 0 0)]) r r<|aN<|aJ<|aQ r (bF jE r)<|aQ r (aP (v:=aI) fC r r r)<|aQ r (fU r r)<|mB r ?_
 refine og r r r (fun hc=>(bF gG r))<|og r r r (fun hc=>(aP (v:=aL) nR (gx r hc) r r))<|og r r r (fun hc=>(eX sJ (cZ (gx r hc))))<|og r r r (fun hc=>(fU (gx r hc) r))<|aQ r (cB r r r (fun e=>fG e))<|mB r<|og r r r (fun hc=>(bF gG r))<|og r r r (fun hc=>(aP (v:=aL) nR (gx r hc) r r)) ?_
 obtain ⟨x1,hx1,h2⟩:=aE h
 refine og r r r (fun hc=>(jS (cs:=[PV.int _ _,PV.int _ _,PV.str _,PV.ls _ _ _,PV.ls _ _ _]) sK (cZ (gx r hc)) r (cV hx1 hc) (dA _)))<|og r r r (fun hc=>(aBe jE (gx r hc)))<|og r r r (fun hc=>(fV (p:=PV.int _ _) fC (gx r hc) r))<|og r r r (fun hc=>(fU (gx r hc) r))<|aQ r (cB r r r (fun e=>fG e))<|aF (fr':=[(1,.box 0 0),(21,aB)]) r r<|cC h2 r (fun hb3 h3=>?_) (fun hb3 h3=>?_)
 ·
  refine aJ<|sB r<|aF (fr':=[(2,aB)]) r r<|bE<|aK ?_
  obtain rfl:=sy h3
  exact bD (rs':=[.tmp 2]) r<|bL (v:=aB) r<|bC<|aR [] r r r lr aC
 ·
  refine bA<|bT<|aN<|aJ<|aQ r (bF gG r)<|aQ r (aP (v:=aL) nR r r r) ?_
  obtain ⟨x5,hx5,h6⟩:=aE h3
  refine aQ r (jS (cs:=[PV.int _ _,PV.int _ _,PV.str _,PV.ls _ _ _,PV.ls _ _ _]) sK (cZ r) r hx5 (dA _))<|aQ r (aBe gG r)<|aQ r (fV (p:=PV.ls _ _ _) nR r r)<|aQ r (eX sJ (cZ r))<|mI r<|aF (fr':=[(26,aL),(27,aI),(28,aI)]) r r ?_
  obtain ⟨x7,hx7,h8⟩:=aE h6
  refine fI iV (fun j9=>x7=Fl.go j9) (fun (j9:Unit)=>([]:Fr)) (fun (j9:Unit)=>([[ci p0v.Kind,ci p0v.Int,.c (.str p0v.Text),.c (PV.ls 5 aZ p0v.Items),.c (PV.ls 1 fD p0v.Keys)]]:St)) ?_ ?_
  ·
   refine bK<|fB _ (fun (s10:Int)=>([(26,.c (PV.ls 5 aZ x5.Items)),(27,ci ((x5.Items).length:Int)),(28,ci s10)]:Fr)) (fun (s10:Int)=>([[ci p0v.Kind,ci p0v.Int,.c (.str p0v.Text),.c (PV.ls 5 aZ p0v.Items),.c (PV.ls 1 fD p0v.Keys)]]:St)) hx7 (bJ [] 1 r r r r ⟨lr,lr,lr,trivial⟩ (cK r aC)) ?_
   intro s10 st10 hs10 ho10
   unfold mJ at hs10
   refine aJ<|aQ r (dU r r)<|aF (fr':=[(26,aL),(27,aI),(28,aI),(29,aB)]) r r<|aN<|cC hs10 r (fun hb11 h11=>?_) (fun hb11 h11=>?_)
   ·
    refine bA<|bT<|aN<|bK<|aN<|aT ?_
    obtain ⟨x12,hx12,h13⟩:=aE h11
    refine aQ r (jS (cs:=[PV.int _ _,PV.int _ _,PV.str _,PV.ls _ _ _,PV.ls _ _ _]) sK (cZ r) r hx12 (dA _))<|aQ r (iL (us:=[PV.int _ _,PV.int _ _,PV.str _,PV.ls _ _ _,PV.ls _ _ _]) fQ r r r)<|fZ (n:=1) (cs:=bH) (σ':=[bI,bH]) aAm r r r<|bO (v:=.agg bI) (us:=bI) (cs:=bH) (σ':=[bI,bI]) r fQ r r r r r r r r<|aF (fr':=[(4,.box 1 0),(26,aL),(27,aI),(28,aI)]) r r<|aJ<|aQ r (bF jE r)<|aQ r (aP (v:=aI) fC r r r)<|aQ r (fU r r)<|mB r<|og r r r (fun hc=>(bF gG r))<|og r r r (fun hc=>(aP (v:=aL) nR (gx r hc) r r)) ?_
    refine og r r r (fun hc=>(eX sJ (cZ (gx r hc))))<|og r r r (fun hc=>(fU (gx r hc) r))<|aQ r (cB r r r (fun e=>fG e))<|mB r<|og r r r (fun hc=>(bF gG r))<|og r r r (fun hc=>(aP (v:=aL) nR (gx r hc) r r)) ?_
    obtain ⟨x14,hx14,h15⟩:=aE h13
    refine og r r r (fun hc=>(jS (cs:=[PV.int _ _,PV.int _ _,PV.str _,PV.ls _ _ _,PV.ls _ _ _]) sK (cZ (gx r hc)) r (cV hx14 hc) (dA _)))<|og r r r (fun hc=>(aBe jE (gx r hc)))<|og r r r (fun hc=>(fV (p:=PV.int _ _) fC (gx r hc) r))<|og r r r (fun hc=>(fU (gx r hc) r))<|aQ r (cB r r r (fun e=>fG e))<|mB r<|og r r r (fun hc=>(bF gG r))<|og r r r (fun hc=>(aP (v:=aL) nR (gx r hc) r r)) ?_
    obtain ⟨x16,hx16,h17⟩:=aE h15
    refine og r r r (fun hc=>(jS (cs:=[PV.int _ _,PV.int _ _,PV.str _,PV.ls _ _ _,PV.ls _ _ _]) sK (cZ (gx r hc)) r (cV hx16 hc) (dA _)))<|og r r r (fun hc=>(aBe qR (gx r hc)))<|og r r r (fun hc=>(fV (p:=PV.str _) nV (gx r hc) r)) ?_
    obtain ⟨x18,hx18,h19⟩:=aE h17
    refine vQ r r (fun hc=>bG (v:=aB) r (nB (cV hx18 hc)) ⟨(fK (gx r hc) lr),trivial⟩ (fT (by repeat (first | exact eK | refine aY r ?_ | refine aY (rI r) ?_ | refine aY rH ?_))) r r) ?_
    refine og r r r (fun hc=>(eU (gx r hc)))<|aQ r (cB r r r (fun e=>fG e))<|aF (fr':=[(26,aL),(27,aI),(28,aI),(57,aB)]) r r<|cC h19 r (fun hb20 h20=>?_) (fun hb20 h20=>?_)
    ·
     refine aJ<|sB r<|aF (fr':=[(2,aB)]) r r<|bE<|bB<|aK<|aK<|bB<|aK<|aK ?_
     have h21:=dN h20 ho10
     have h22:=eA h21 h8
     obtain rfl:=sy h22
     exact bD (rs':=[.tmp 2]) r<|bL (v:=aB) r<|bC<|aR [] r r r lr aC
    ·
     exact bA<|cA<|bT<|aT<|aQ r (dR r r)<|mI r<|cI (fr':=[(26,aL),(27,aI),(28,aI),(57,aB)]) r<|xG _ (sy h20) (bJ [] 1 r r r r ⟨lr,lr,lr,trivial⟩ (cK r aC))
   ·
    refine fJ<|bY<|bY<|eC ?_
    have h24:=dN h11 ho10
    exact lF _ (sy h24) (bJ [] 1 r r r r trivial (cK r aC))
  ·
   intro j9 hj25
   have h25:=kN hj25 h8
   refine bT<|aJ<|sB r<|aF (fr':=[(2,aB)]) r r<|bE ?_
   obtain rfl:=sy h25
   exact bD (rs':=[.tmp 2]) r<|bL (v:=aB) r<|bC<|aR [] r r r lr aC
end Go.Proofs.YtnigjppddilpcaaGreatDoor
