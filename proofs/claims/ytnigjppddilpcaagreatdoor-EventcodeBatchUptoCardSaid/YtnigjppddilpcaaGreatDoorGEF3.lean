import Derived.Test.YtnigjppddilpcaaGreatDoorGETy
import Derived.Test.YtnigjppddilpcaaGreatDoorGEF0
import Derived.Test.YtnigjppddilpcaaGreatDoorGEF1
import Derived.Test.YtnigjppddilpcaaGreatDoorGEF2
namespace Go.Proofs.YtnigjppddilpcaaGreatDoor
open Go Abs
set_option maxRecDepth 100000
set_option linter.unusedVariables false
set_option linter.unusedSimpArgs false
noncomputable def dN (p0s:(List aC)) (s4:Int):Option (cI Int (Fl Int Unit)) :=
 cond (decide (s4<((p0s).length:Int))) ((hG p0s s4).bind fun x6=>(oD x6).bind fun x8=>cond x8 (some (cI.out (Fl.done s4))) (some (cI.next (IntKind.wrap .i64 (s4+(1:Int)))))) (some (cI.out (Fl.go ())))
noncomputable def eT (p0s:(List aC)):Option Int :=
 ((dR (dN p0s) ((0:Int))):Option (Fl Int Unit)).bind fun x1=>Fl.next x1 (fun j3=>(some (-1:Int)))
theorem kN {p0s:(List aC)}{res:Int} (h:eT p0s=some res):bS Tryz.prog 205 [.c (PV.ls 5 bF p0s),.fn 216 []] [] (ci res) []:=by
 unfold eT at h
 refine cJ (fn:=Tryz.f205) [0,1,4,5,7,8,9,16] (by kernel_rfl) Tryz.func205 r (by kernel_rfl) (by kernel_rfl)<|aH<|sI r<|aF (fr':=[(0,aL),(1,.fn _ [])]) r r<|aP<|aH<|mL r<|aM r (dI nH (cC r))<|mI r<|aF (fr':=[(0,aL),(1,.fn _ []),(7,aI),(8,aI)]) r r ?_
 obtain ⟨x1,hx1,h2⟩:=aE h
 refine eB gF (fun j3=>x1=Fl.go j3) (fun (j3:Unit)=>([]:Fr)) (fun (j3:Unit)=>([]:St)) ?_ ?_
 ·
  refine bJ<|dV _ (fun (s4:Int)=>([(0,.c (PV.ls 5 bF p0s)),(1,.fn 216 []),(7,ci ((p0s).length:Int)),(8,ci s4)]:Fr)) (fun (s4:Int)=>([]:St)) hx1 (aU [] 0 r r r r ⟨lr,lr,lr,lr,trivial⟩ aA) ?_
  intro s4 st4 hs4 ho4
  unfold dN at hs4
  refine aH<|aM r (dJ r r)<|aF (fr':=[(0,aL),(1,.fn _ []),(7,aI),(8,aI),(9,aB)]) r r<|aP<|bP hs4 r (fun hb5 h5=>?_) (fun hb5 h5=>?_)
  ·
   refine aW<|bV<|aP<|bJ<|aH<|mI r<|sI r<|aF (fr':=[(0,aL),(1,.fn _ []),(5,aI),(7,aI),(8,aI)]) r r<|aH<|mV (v:=.fn _ []) r<|mL r ?_
   refine mI r ?_
   obtain ⟨x6,hx6,h7⟩:=aE h5
   refine aM r (gR (cs:=[PV.int _ _,PV.int _ _,PV.str _,PV.ls _ _ _,PV.ls _ _ _]) mP (cC r) r hx6 (cE _))<|aM r (gM (us:=[PV.int _ _,PV.int _ _,PV.str _,PV.ls _ _ _,PV.ls _ _ _]) fM r r r) ?_
   obtain ⟨x8,hx8,h9⟩:=aE h7
   refine gV (aX (v:=aB) r (aCY hx8) ⟨(bK r ⟨r,r,r,r,r,trivial⟩),trivial⟩ r r r)<|aF (fr':=[(0,aL),(1,.fn _ []),(5,aI),(7,aI),(8,aI),(16,aB)]) r r<|bP h9 r (fun hb10 h10=>?_) (fun hb10 h10=>?_)
   ·
    refine aH<|mI r<|sI r<|aF (fr':=[(4,aI)]) r r<|bC<|bA<|aJ<|aJ<|bA<|aJ<|aJ ?_
    have h11:=cS h10 ho4
    have h12:=dQ h11 h2
    obtain rfl:=sy h12
    exact bB (rs':=[.tmp 4]) r<|bH (v:=aI) r<|aZ<|aN [] r r r lr aA
   ·
    exact aW<|bX<|bV<|aQ<|aM r (dB r r)<|mI r<|cB (fr':=[(0,aL),(1,.fn _ []),(5,aI),(7,aI),(8,aI),(16,aB)]) r<|rX _ (sy h10) (aU [] 0 r r r r ⟨lr,lr,lr,lr,trivial⟩ aA)
  ·
   refine eK<|bR<|bR<|dC ?_
   have h14:=cS h5 ho4
   exact gD _ (sy h14) (aU [] 0 r r r r trivial aA)
 ·
  intro j3 hj15
  have h15:=iC hj15 h2
  refine bV<|aH<|sI r<|aF (fr':=[(4,aI)]) r r<|bC ?_
  obtain rfl:=sy h15
  exact bB (rs':=[.tmp 4]) r<|bH (v:=aI) r<|aZ<|aN [] r r r lr aA
noncomputable def dL (p0s:(List aC)):Option Bool :=
 (eT p0s).bind fun x1=>some (decide ((0:Int)≤x1))
theorem jR {p0s:(List aC)}{res:Bool} (h:dL p0s=some res):bS Tryz.prog 176 [.c (PV.ls 5 bF p0s),.fn 216 []] [] (.c (.bool res)) []:=by
 unfold dL at h
 refine cJ (fn:=Tryz.f176) [0,1,4] (by kernel_rfl) Tryz.func176 r (by kernel_rfl) (by kernel_rfl)<|aH<|sB r<|aF (fr':=[(0,aL),(1,.fn _ [])]) r r<|aH<|mL r<|mV (v:=.fn _ []) r ?_
 obtain ⟨x1,hx1,h2⟩:=aE h
 refine gV (aX (v:=aI) r (kN hx1) ⟨lr,lr,trivial⟩ r r r)<|aM r (nM r r)<|sB r<|aF (fr':=[(4,aB)]) r r<|bC ?_
 obtain rfl:=sy h2
 exact bB (rs':=[.tmp 4]) r<|bH (v:=aB) r<|aZ<|aN [] r r r lr aA
noncomputable def rH (p0v:aC):Option Bool :=
 (gd ((cond (!decide (p0v.Kind=(4:Int))) true (!decide (((p0v.Items).length:Int)=(2:Int))))==false) (hG p0v.Items (1:Int))).bind fun x1=>cond (cond (cond (!decide (p0v.Kind=(4:Int))) true (!decide (((p0v.Items).length:Int)=(2:Int)))) true (!decide (x1.Kind=(4:Int)))) (some false) ((hG p0v.Items (1:Int)).bind fun x5=>(dL x5.Items).bind fun x7=>some (!x7))
theorem aEn {p0v:aC}{res:Bool} (h:rH p0v=some res):bS Tryz.prog 200 [.agg (AV.cs (cQ p0v))] [] (.c (.bool res)) []:=by
 unfold rH at h
 refine cJ (fn:=Tryz.f200) [0,1,2,19] (by kernel_rfl) Tryz.func200 r (by kernel_rfl) (by kernel_rfl)<|aH<|fS (v:=.agg bL) (n:=0) (cs:=bL) (σ':=[bL]) r r r r r<|sB r<|aF (fr':=[(1,.box 0 0)]) r r<|aP<|aH<|aM r (bD gW r)<|aM r (aK (v:=aI) eP r r r)<|aM r (fI r r)<|mB r ?_
 refine og r r r (fun hc=>(bD eJ r))<|og r r r (fun hc=>(aK (v:=aL) iF (gx r hc) r r))<|og r r r (fun hc=>(dI nH (cC (gx r hc))))<|og r r r (fun hc=>(fI (gx r hc) r))<|aM r (bY r r r (fun e=>eO e))<|mB r<|og r r r (fun hc=>(bD eJ r))<|og r r r (fun hc=>(aK (v:=aL) iF (gx r hc) r r)) ?_
 obtain ⟨x1,hx1,h2⟩:=aE h
 refine og r r r (fun hc=>(gR (cs:=[PV.int _ _,PV.int _ _,PV.str _,PV.ls _ _ _,PV.ls _ _ _]) mP (cC (gx r hc)) r (cA hx1 hc) (cE _)))<|og r r r (fun hc=>(rJ gW (gx r hc)))<|og r r r (fun hc=>(eG (p:=PV.int _ _) eP (gx r hc) r))<|og r r r (fun hc=>(fI (gx r hc) r))<|aM r (bY r r r (fun e=>eO e))<|aF (fr':=[(1,.box 0 0),(19,aB)]) r r<|bP h2 r (fun hb3 h3=>?_) (fun hb3 h3=>?_)
 ·
  refine aH<|sB r<|aF (fr':=[(2,aB)]) r r<|bC<|aJ ?_
  obtain rfl:=sy h3
  exact bB (rs':=[.tmp 2]) r<|bH (v:=aB) r<|aZ<|aN [] r r r lr aA
 ·
  refine aW<|bV<|aH<|aM r (bD eJ r)<|aM r (aK (v:=aL) iF r r r) ?_
  obtain ⟨x5,hx5,h6⟩:=aE h3
  refine aM r (gR (cs:=[PV.int _ _,PV.int _ _,PV.str _,PV.ls _ _ _,PV.ls _ _ _]) mP (cC r) r hx5 (cE _))<|aM r (rJ eJ r)<|aM r (eG (p:=PV.ls _ _ _) iF r r) ?_
  obtain ⟨x7,hx7,h8⟩:=aE h6
  refine gV (aX (v:=aB) r (jR hx7) ⟨lr,lr,trivial⟩ r r r)<|aM r (eI r)<|sB r<|aF (fr':=[(2,aB)]) r r<|bC ?_
  obtain rfl:=sy h8
  exact bB (rs':=[.tmp 2]) r<|bH (v:=aB) r<|aZ<|aN [] r r r lr aA
noncomputable def pN (p0c:cW):Option Bool :=
 cond (decide (p0c.Kind=(3:Int))) ((iE p0c.N (1:Int) (1099511627776:Int)).bind fun x2=>some x2) (cond (decide (p0c.Kind=(5:Int))) ((iE p0c.N (0:Int) (2:Int)).bind fun x6=>some x6) (cond (decide (p0c.Kind=(9:Int))) ((iE p0c.N (0:Int) (1:Int)).bind fun x10=>some x10) (cond (decide (p0c.Kind=(7:Int))) ((gd ((decide (p0c.N=(-1:Int)))==false) (iE p0c.N (0:Int) (2147483647:Int))).bind fun x14=>some (cond (decide (p0c.N=(-1:Int))) true (cond x14 (decide (p0c.Data.Kind=(0:Int))) false))) (cond (decide (p0c.Kind=(10:Int))) (some (decide (p0c.Data.Kind=(5:Int)))) (cond (decide (p0c.Kind=(14:Int))) ((rH p0c.Data).bind fun x20=>some x20) (some true))))))
theorem aDC {p0c:cW}{res:Bool} (h:pN p0c=some res):bS Tryz.prog 168 [.agg (AV.cs (jO p0c))] [] (.c (.bool res)) []:=by
 unfold pN at h
 refine cJ (fn:=Tryz.f168) [0,1,2,4,5,10,15,20,36,42] (by kernel_rfl) Tryz.func168 r (by kernel_rfl) (by kernel_rfl)<|aH<|fS (v:=.agg aV) (n:=0) (cs:=aV) (σ':=[aV]) r r r r r<|sB r<|aF (fr':=[(1,.box 0 0)]) r r<|aP<|aH<|aM r (bD mW r)<|aM r (aK (v:=aI) eP r r r)<|aF (fr':=[(1,.box 0 0),(4,aI)]) r r<|bJ ?_
 refine aH<|aM r (bM r r)<|sB r<|aF (fr':=[(1,.box 0 0),(4,aI),(5,aB)]) r r<|bP h r (fun hb1 h1=>?_) (fun hb1 h1=>?_)
 ·
  refine aH<|aM r (bD pF r)<|aM r (aK (v:=aI) eP r r r) ?_
  obtain ⟨x2,hx2,h3⟩:=aE h1
  refine gV (aX (v:=aB) r (iT hx2) ⟨lr,lr,lr,trivial⟩ r r r)<|sB r<|aF (fr':=[(2,aB)]) r r<|bC<|bA<|aJ ?_
  obtain rfl:=sy h3
  exact bB (rs':=[.tmp 2]) r<|bH (v:=aB) r<|aZ<|aN [] r r r lr aA
 ·
  refine aH<|aM r (bM r r)<|sB r<|aF (fr':=[(1,.box 0 0),(4,aI),(10,aB)]) r r<|bP h1 r (fun hb5 h5=>?_) (fun hb5 h5=>?_)
  ·
   refine aH<|aM r (bD pF r)<|aM r (aK (v:=aI) eP r r r) ?_
   obtain ⟨x6,hx6,h7⟩:=aE h5
   refine gV (aX (v:=aB) r (iT hx6) ⟨lr,lr,lr,trivial⟩ r r r)<|sB r<|aF (fr':=[(2,aB)]) r r<|bC<|bA<|aJ ?_
   obtain rfl:=sy h7
   exact bB (rs':=[.tmp 2]) r<|bH (v:=aB) r<|aZ<|aN [] r r r lr aA
  ·
   refine aH<|aM r (bM r r)<|sB r<|aF (fr':=[(1,.box 0 0),(4,aI),(15,aB)]) r r<|bP h5 r (fun hb9 h9=>?_) (fun hb9 h9=>?_)
   ·
    refine aH<|aM r (bD pF r)<|aM r (aK (v:=aI) eP r r r) ?_
    obtain ⟨x10,hx10,h11⟩:=aE h9
    refine gV (aX (v:=aB) r (iT hx10) ⟨lr,lr,lr,trivial⟩ r r r)<|sB r<|aF (fr':=[(2,aB)]) r r<|bC<|bA<|aJ ?_
    obtain rfl:=sy h11
    exact bB (rs':=[.tmp 2]) r<|bH (v:=aB) r<|aZ<|aN [] r r r lr aA
   ·
    refine aH<|aM r (bM r r)<|sB r<|aF (fr':=[(1,.box 0 0),(4,aI),(20,aB)]) r r<|bP h9 r (fun hb13 h13=>?_) (fun hb13 h13=>?_)
    ·
     refine aH<|aM r (bD pF r)<|aM r (aK (v:=aI) eP r r r)<|aM r (bM r r)<|mB r<|og r r r (fun hc=>(bD pF r))<|og r r r (fun hc=>(aK (v:=aI) eP (gx r hc) r r)) ?_
     obtain ⟨x14,hx14,h15⟩:=aE h13
     refine sM r r (fun hc=>aX (v:=aB) r (iT (cA hx14 hc)) ⟨(eH (gx r hc) lr),lr,lr,trivial⟩ (fA (by repeat (first | exact dX | refine aY r ?_ | refine aY (oS r) ?_ | refine aY oR ?_))) r r) ?_
     refine og r r r (fun hc=>(bE (v:=aB) (gx r hc)))<|eL r r (fun hc=>eS r (bD rV r))<|eL r r (fun hc=>eS r (bD gW (gx r hc)))<|eL r r (fun hc=>eS r (aK (v:=aI) eP (gx r hc) r r))<|eL r r (fun hc=>eS r (bM (gx r hc) r))<|og r r r (fun hc=>(bO (gx r hc) r r (fun e=>oC hc (eO e))))<|aM r (bY r r r (fun e=>eO e))<|sB r<|aF (fr':=[(2,aB)]) r r<|bC<|bA<|aJ ?_
     obtain rfl:=sy h15
     exact bB (rs':=[.tmp 2]) r<|bH (v:=aB) r<|aZ<|aN [] r r r lr aA
    ·
     refine aH<|aM r (bM r r)<|sB r<|aF (fr':=[(1,.box 0 0),(4,aI),(36,aB)]) r r<|bP h13 r (fun hb17 h17=>?_) (fun hb17 h17=>?_)
     ·
      refine aH<|aM r (bD rV r)<|aM r (bD gW r)<|aM r (aK (v:=aI) eP r r r)<|aM r (bM r r)<|sB r<|aF (fr':=[(2,aB)]) r r<|bC<|bA<|aJ ?_
      obtain rfl:=sy h17
      exact bB (rs':=[.tmp 2]) r<|bH (v:=aB) r<|aZ<|aN [] r r r lr aA
     ·
      refine aH<|aM r (bM r r)<|sB r<|aF (fr':=[(1,.box 0 0),(42,aB)]) r r<|bP h17 r (fun hb19 h19=>?_) (fun hb19 h19=>?_)
      ·
       refine aH<|aM r (bD rV r)<|aM r (cN (us:=bL) fM r r r r) ?_
       obtain ⟨x20,hx20,h21⟩:=aE h19
       refine gV (aX (v:=aB) r (aEn hx20) ⟨(bK r ⟨r,r,r,r,r,trivial⟩),trivial⟩ r r r)<|sB r<|aF (fr':=[(2,aB)]) r r<|bC<|bA<|aJ ?_
       obtain rfl:=sy h21
       exact bB (rs':=[.tmp 2]) r<|bH (v:=aB) r<|aZ<|aN [] r r r lr aA
      ·
       refine aW<|bX<|bV<|aH<|sB r<|aF (fr':=[(2,aB)]) r r<|bC ?_
       obtain rfl:=sy h19
       exact bB (rs':=[.tmp 2]) r<|bH (v:=aB) r<|aZ<|aN [] r r r lr aA
noncomputable def rF (p0c:cW):Option Bool :=
 (pM p0c.Kind).bind fun x1=>(iE p0c.Kind (1:Int) (14:Int)).bind fun x3=>(gd ((!x3)==false) (sT p0c x1)).bind fun x5=>(gd ((cond (!x3) true (!x5))==false) (sO p0c.Data)).bind fun x7=>(gd ((cond (cond (!x3) true (!x5)) true (!x7))==false) (iD p0c.Opts)).bind fun x9=>cond (cond (cond (cond (!x3) true (!x5)) true (!x7)) true (!x9)) (some false) ((gd (x1.seq_==true) (iE p0c.Seq (1:Int) (2000:Int))).bind fun x13=>(gd (((cond x1.seq_ (!x13) false)==false)&&(x1.key_==true)) (oN p0c.Key)).bind fun x15=>cond (cond (cond x1.seq_ (!x13) false) true (cond x1.key_ (!x15) false)) (some false) ((gd (((x1.name_==true)&&((cond (decide (p0c.Kind=(12:Int))) (decide ((4096:Int)<((p0c.Name).length:Int))) false)==false))&&((!decide (p0c.Kind=(12:Int)))==true)) (mG p0c.Name)).bind fun x19=>cond (cond x1.name_ (cond (cond (decide (p0c.Kind=(12:Int))) (decide ((4096:Int)<((p0c.Name).length:Int))) false) true (cond (!decide (p0c.Kind=(12:Int))) (!x19) false)) false) (some false) ((pN p0c).bind fun x23=>some x23)))
theorem aEl {p0c:cW}{res:Bool} (h:rF p0c=some res):bS Tryz.prog 106 [.agg (AV.cs (jO p0c))] [] (.c (.bool res)) []:=by
 unfold rF at h
 refine cJ (fn:=Tryz.f106) [0,1,2,3,28,46,70] (by kernel_rfl) Tryz.func106 r (by kernel_rfl) (by kernel_rfl)<|aH<|fS (v:=.agg aV) (n:=0) (cs:=aV) (σ':=[aV]) r r r r r<|sB r<|aF (fr':=[(1,.box 0 0)]) r r<|aH<|aM r (bD mW r)<|aM r (aK (v:=aI) eP r r r) ?_
 obtain ⟨x1,hx1,h2⟩:=aE h
 refine gV (aX (v:=.agg cR) r (aDB hx1) ⟨lr,trivial⟩ r r r)<|gC (n:=1) (cs:=cR) (σ':=[aV,cR]) aNO r r r<|bU (v:=.agg cR) (us:=cR) (cs:=cR) (σ':=[aV,cR]) r qV r r r r r r r r<|aF (fr':=[(1,.box 0 0),(3,.box 1 0)]) r r<|aP<|aH<|aM r (bD mW r)<|aM r (aK (v:=aI) eP r r r) ?_
 obtain ⟨x3,hx3,h4⟩:=aE h2
 refine gV (aX (v:=aB) r (iT hx3) ⟨lr,lr,lr,trivial⟩ r r r)<|aM r (eI r)<|mB r<|og r r r (fun hc=>(cN (us:=aV) yU r r r r))<|og r r r (fun hc=>(cN (us:=cR) qV r r r r)) ?_
 obtain ⟨x5,hx5,h6⟩:=aE h4
 refine sM r r (fun hc=>aX (v:=aB) r (aF0 (cA hx5 hc)) ⟨(eH (gx r hc) (bK r ⟨r,r,r,r,r,r,r,r,r,r,r,r,r,r,r,r,r,r,r,r,trivial⟩)),(eH (gx r hc) (bK r ⟨r,r,r,r,r,r,trivial⟩)),trivial⟩ (fA (by repeat (first | exact dX | refine aY r ?_ | refine aY (oS r) ?_ | refine aY oR ?_))) r r) ?_
 refine og r r r (fun hc=>(eI (gx r hc)))<|aM r (bY r r r (fun e=>eO e))<|mB r<|og r r r (fun hc=>(bD rV r))<|og r r r (fun hc=>(cN (us:=bL) fM (gx r hc) r r r)) ?_
 obtain ⟨x7,hx7,h8⟩:=aE h6
 refine sM r r (fun hc=>aX (v:=aB) r (aBN (cA hx7 hc)) ⟨(eH (gx r hc) (bK r ⟨r,r,r,r,r,trivial⟩)),trivial⟩ (fA (by repeat (first | exact dX | refine aY r ?_ | refine aY (oS r) ?_ | refine aY oR ?_))) r r) ?_
 refine og r r r (fun hc=>(eI (gx r hc)))<|aM r (bY r r r (fun e=>eO e))<|mB r<|og r r r (fun hc=>(bD aBn r))<|og r r r (fun hc=>(cN (us:=bZ) wH (gx r hc) r r r)) ?_
 obtain ⟨x9,hx9,h10⟩:=aE h8
 refine sM r r (fun hc=>aX (v:=aB) r (oY (cA hx9 hc)) ⟨(eH (gx r hc) (bK r ⟨r,r,r,r,r,r,r,r,r,r,trivial⟩)),trivial⟩ (fA (by repeat (first | exact dX | refine aY r ?_ | refine aY (oS r) ?_ | refine aY oR ?_))) r r) ?_
 refine og r r r (fun hc=>(eI (gx r hc)))<|aM r (bY r r r (fun e=>eO e))<|aF (fr':=[(1,.box 0 0),(3,.box 1 0),(28,aB)]) r r<|bP h10 r (fun hb11 h11=>?_) (fun hb11 h11=>?_)
 ·
  refine aH<|sB r<|aF (fr':=[(2,aB)]) r r<|bC<|aJ ?_
  obtain rfl:=sy h11
  exact bB (rs':=[.tmp 2]) r<|bH (v:=aB) r<|aZ<|aN [] r r r lr aA
 ·
  refine aW<|bV<|aP<|aH<|aM r (bD aLm r)<|aM r (aK (v:=aB) tv4 r r r)<|mB r<|og r r r (fun hc=>(bD aBl r))<|og r r r (fun hc=>(aK (v:=aI) eP (gx r hc) r r)) ?_
  obtain ⟨x13,hx13,h14⟩:=aE h11
  refine sM r r (fun hc=>aX (v:=aB) r (iT (cA hx13 hc)) ⟨(eH (gx r hc) lr),lr,lr,trivial⟩ (fA (by repeat (first | exact dX | refine aY r ?_ | refine aY (oS r) ?_ | refine aY oR ?_))) r r) ?_
  refine og r r r (fun hc=>(eI (gx r hc)))<|aM r (bO r r r (fun e=>eO e))<|mB r<|og r r r (fun hc=>(bD aLo r))<|og r r r (fun hc=>(aK (v:=aB) tv4 (gx r hc) r r))<|og r r r (fun hc=>(bE (v:=aB) (gx r hc)))<|eL r r (fun hc=>eS r (bD aBm r))<|eL r r (fun hc=>eS r (aK (v:=aS) kD (gx r hc) r r)) ?_
  obtain ⟨x15,hx15,h16⟩:=aE h14
  refine eL r r (fun hc=>aX (v:=aB) r (aEm (cA hx15 hc)) ⟨(eH (gx r hc) lr),trivial⟩ (fA (by repeat (first | exact dX | refine aY r ?_ | refine aY (oS r) ?_ | refine aY oR ?_))) r r) ?_
  refine eL r r (fun hc=>eS r (eI (gx r hc)))<|og r r r (fun hc=>(bO (gx r hc) r r (fun e=>oC hc (eO e))))<|aM r (bY r r r (fun e=>eO e))<|aF (fr':=[(1,.box 0 0),(3,.box 1 0),(46,aB)]) r r<|bP h16 r (fun hb17 h17=>?_) (fun hb17 h17=>?_)
  ·
   refine aH<|sB r<|aF (fr':=[(2,aB)]) r r<|bC<|aJ ?_
   obtain rfl:=sy h17
   exact bB (rs':=[.tmp 2]) r<|bH (v:=aB) r<|aZ<|aN [] r r r lr aA
  ·
   refine aW<|bV<|aP<|aH<|aM r (bD aLn r)<|aM r (aK (v:=aB) tv4 r r r)<|mB r<|og r r r (fun hc=>(bD mW r))<|og r r r (fun hc=>(aK (v:=aI) eP (gx r hc) r r))<|og r r r (fun hc=>(bM (gx r hc) r))<|og r r r (fun hc=>(bE (v:=aB) (gx r hc)))<|eL r r (fun hc=>eS r (bD xY r)) ?_
   refine eL r r (fun hc=>eS r (aK (v:=aS) kD (gx r hc) r r))<|eL r r (fun hc=>eS r (gL pJ (gx r hc)))<|eL r r (fun hc=>eS r (kA (gx r hc) r))<|og r r r (fun hc=>(bO (gx r hc) r r (fun e=>oC hc (eO e))))<|og r r r (fun hc=>(bE (v:=aB) (gx r hc)))<|eL r r (fun hc=>eS r (bD mW r))<|eL r r (fun hc=>eS r (aK (v:=aI) eP (gx r hc) r r))<|eL r r (fun hc=>eS r (fI (gx r hc) r))<|eL r r (fun hc=>eS r (bE (v:=aB) (gx r hc)))<|eL r r (fun hc=>eS r (bD xY r))<|eL r r (fun hc=>eS r (aK (v:=aS) kD (gx r hc) r r)) ?_
   obtain ⟨x19,hx19,h20⟩:=aE h17
   refine eL r r (fun hc=>aX (v:=aB) r (qT (cA hx19 hc)) ⟨(eH (gx r hc) lr),trivial⟩ (fA (by repeat (first | exact dX | refine aY r ?_ | refine aY (oS r) ?_ | refine aY oR ?_))) r r) ?_
   refine eL r r (fun hc=>eS r (eI (gx r hc)))<|eL r r (fun hc=>eS r (bO (gx r hc) r r (fun e=>oC hc (eO e))))<|og r r r (fun hc=>(bY (gx r hc) r r (fun e=>oC hc (eO e))))<|aM r (bO r r r (fun e=>eO e))<|aF (fr':=[(1,.box 0 0),(70,aB)]) r r<|bP h20 r (fun hb21 h21=>?_) (fun hb21 h21=>?_)
   ·
    refine aH<|sB r<|aF (fr':=[(2,aB)]) r r<|bC<|aJ ?_
    obtain rfl:=sy h21
    exact bB (rs':=[.tmp 2]) r<|bH (v:=aB) r<|aZ<|aN [] r r r lr aA
   ·
    refine aW<|bV<|aH<|aM r (cN (us:=aV) yU r r r r) ?_
    obtain ⟨x23,hx23,h24⟩:=aE h21
    refine gV (aX (v:=aB) r (aDC hx23) ⟨(bK r ⟨r,r,r,r,r,r,r,r,r,r,r,r,r,r,r,r,r,r,r,r,trivial⟩),trivial⟩ r r r)<|sB r<|aF (fr':=[(2,aB)]) r r<|bC ?_
    obtain rfl:=sy h24
    exact bB (rs':=[.tmp 2]) r<|bH (v:=aB) r<|aZ<|aN [] r r r lr aA
noncomputable def oF (p0e:bI) (tC:Int):Option Bool :=
 (gd (((decide (p0e.Code=(0:Int)))==true)&&((cond (decide (tC=(2:Int))) true (decide (tC=(4:Int))))==true)) (gQ p0e.Ref (1:Int) (2000:Int))).bind fun x1=>(gd ((cond (decide (p0e.Code=(0:Int))) (cond (cond (cond (decide (tC=(2:Int))) true (decide (tC=(4:Int)))) x1 false) true (cond (!(cond (decide (tC=(2:Int))) true (decide (tC=(4:Int))))) (decide (p0e.Ref=(0:Int))) false)) false)==true) (rF (cW.mk tC p0e.Seq p0e.Name p0e.Key p0e.N p0e.Data p0e.Opts))).bind fun x3=>some (cond (cond (decide (p0e.Code=(0:Int))) (cond (cond (cond (decide (tC=(2:Int))) true (decide (tC=(4:Int)))) x1 false) true (cond (!(cond (decide (tC=(2:Int))) true (decide (tC=(4:Int))))) (decide (p0e.Ref=(0:Int))) false)) false) x3 false)
theorem aC0 {p0e:bI}{tC:Int}{res:Bool} (h:oF p0e tC=some res):bS Tryz.prog 138 [.agg (AV.cs (cD p0e)),ci tC] [] (.c (.bool res)) []:=by
 unfold oF at h
 refine cJ (fn:=Tryz.f138) [0,1,2,4,5,6] (by kernel_rfl) Tryz.func138 r (by kernel_rfl) (by kernel_rfl)<|aH<|fS (v:=.agg aD) (n:=0) (cs:=aD) (σ':=[aD]) r r r r r<|sB r<|aF (fr':=[(1,aI),(2,.box 0 0)]) r r<|aH<|mI r<|aM r (bD xE r)<|aM r (aK (v:=aI) eP r r r)<|aM r (bD oW r)<|aM r (aK (v:=aS) kD r r r) ?_
 refine aM r (bD oX r)<|aM r (aK (v:=aS) kD r r r)<|aM r (bD sC r)<|aM r (aK (v:=aI) eP r r r)<|aM r (bD tV r)<|aM r (cN (us:=bL) fM r r r r)<|aM r (bD rW r)<|aM r (cN (us:=bZ) wH r r r r)<|aM r (pU (c0:=cT) (cs:=aV) aNF r (iA (v:=aI) (us:=[_]) (cs':=u20) r r r r r r (iA (v:=aI) (us:=[_]) (cs':=u20) r r r r r r (iA (v:=aS) (us:=[_]) (cs':=u20) r r r r r r (iA (v:=aS) (us:=[_]) (cs':=u20) r r r r r r (iA (v:=aI) (us:=[_]) (cs':=u20) r r r r r r (iA (v:=.agg bL) (us:=u5) (cs':=u20) r r r r r r (iA (v:=.agg bZ) (us:=u10) (cs':=u20) r r r r r r pR))))))))<|gC (n:=1) (cs:=cT) (σ':=[aD,cT]) aLr r r r<|bU (v:=.agg aV) (us:=aV) (cs:=cT) (σ':=[aD,aV]) r yU r r r r r r r r<|aF (fr':=[(1,aI),(2,.box 0 0),(5,.box 1 0)]) r r<|aP ?_
 refine aQ<|mI r<|aM r (bM r r)<|mB r<|og r r r (fun hc=>(bE (v:=aI) r))<|og r r r (fun hc=>(bM (gx r hc) r))<|aM r (bY r r r (fun e=>eO e))<|sB r<|aF (fr':=[(2,.box 0 0),(5,.box 1 0),(6,aB)]) r r<|aH<|aM r (bD vU r)<|aM r (aK (v:=aI) eP r r r) ?_
 refine aM r (bM r r)<|mB r<|og r r r (fun hc=>(bE (v:=aB) r))<|og r r r (fun hc=>(bE (v:=aB) (gx r hc)))<|eL r r (fun hc=>eS r (bD xF r))<|eL r r (fun hc=>eS r (aK (v:=aI) eP (gx r hc) r r)) ?_
 obtain ⟨x1,hx1,h2⟩:=aE h
 refine eL r r (fun hc=>aX (v:=aB) r (hY (cA hx1 hc)) ⟨(eH (gx r hc) lr),lr,lr,trivial⟩ (fA (by repeat (first | exact dX | refine aY r ?_ | refine aY (oS r) ?_ | refine aY oR ?_))) r r) ?_
 refine og r r r (fun hc=>(bO (gx r hc) r r (fun e=>oC hc (eO e))))<|og r r r (fun hc=>(bE (v:=aB) (gx r hc)))<|eL r r (fun hc=>eS r (bE (v:=aB) r))<|eL r r (fun hc=>eS r (eI (gx r hc)))<|eL r r (fun hc=>eS r (bE (v:=aB) (gx r hc)))<|eL r r (fun hc=>eS r (bD xF r))<|eL r r (fun hc=>eS r (aK (v:=aI) eP (gx r hc) r r))<|eL r r (fun hc=>eS r (bM (gx r hc) r))<|eL r r (fun hc=>eS r (bO (gx r hc) r r (fun e=>oC hc (eO e))))<|og r r r (fun hc=>(bY (gx r hc) r r (fun e=>oC hc (eO e))))<|aM r (bO r r r (fun e=>eO e))<|mB r<|og r r r (fun hc=>(cN (us:=aV) yU r r r r)) ?_
 obtain ⟨x3,hx3,h4⟩:=aE h2
 refine sM r r (fun hc=>aX (v:=aB) r (aEl (cA hx3 hc)) ⟨(eH (gx r hc) (bK r ⟨r,r,r,r,r,r,r,r,r,r,r,r,r,r,r,r,r,r,r,r,trivial⟩)),trivial⟩ (fA (by repeat (first | exact dX | refine aY r ?_ | refine aY (oS r) ?_ | refine aY oR ?_))) r r) ?_
 refine aM r (bO r r r (fun e=>eO e))<|sB r<|aF (fr':=[(4,aB)]) r r<|bC ?_
 obtain rfl:=sy h4
 exact bB (rs':=[.tmp 4]) r<|bH (v:=aB) r<|aZ<|aN [] r r r lr aA
noncomputable def wQ (cF:Int):Option fZ :=
 cond (decide (cF=(1:Int))) (some (fZ.mk false false true false true true true)) (cond (decide (cF=(2:Int))) (some (fZ.mk false false true false false false false)) (((cond (decide (cF=(3:Int))) (some (decide (cF=(3:Int)))) (cond (decide (cF=(4:Int))) (some (decide (cF=(4:Int)))) (some (decide (cF=(6:Int)))))):Option Bool).bind fun x5=>(cond x5 (some (fZ.mk false true false false false false false)) (cond (decide (cF=(5:Int))) (some (fZ.mk false true false true false false false)) (cond (decide (cF=(8:Int))) (some (fZ.mk true true true false false false false)) (((cond (decide (cF=(9:Int))) (some (decide (cF=(9:Int)))) (cond (decide (cF=(13:Int))) (some (decide (cF=(13:Int)))) (some (decide (cF=(21:Int)))))):Option Bool).bind fun x17=>(cond x17 (some (fZ.mk true true false false false false true)) (((cond (decide (cF=(10:Int))) (some (decide (cF=(10:Int)))) (some (decide (cF=(22:Int))))):Option Bool).bind fun x25=>(cond x25 (some (fZ.mk true true false false true false true)) (cond (decide (cF=(11:Int))) (some (fZ.mk true true false true false false false)) (((cond (decide (cF=(15:Int))) (some (decide (cF=(15:Int)))) (some (decide (cF=(24:Int))))):Option Bool).bind fun x34=>(cond x34 (some (fZ.mk true true false false false false false)) (cond (decide (cF=(17:Int))) (some (fZ.mk false false false false true true true)) (cond (decide (cF=(20:Int))) (some (fZ.mk true true false false false true false)) (cond (decide (cF=(25:Int))) (some (fZ.mk true true false false true false false)) (cond (decide (cF=(26:Int))) (some (fZ.mk false false false false false true false)) (cond (decide (cF=(33:Int))) (some (fZ.mk false false false false true false false)) (some (fZ.mk false false false false false false false)))))))))))))))))))
theorem aIb {cF:Int}{res:fZ} (h:wQ cF=some res):bS Tryz.prog 139 [ci cF] [] (.agg (AV.cs (aCQ res))) []:=by
 unfold wQ at h
 refine cJ (fn:=Tryz.f139) [0,2,3,4,7,10,15,18,21,26,30,33,37,40,43,46,49] (by kernel_rfl) Tryz.func139 r (by kernel_rfl) (by kernel_rfl)<|aH<|gC (n:=0) (cs:=bQ) (σ':=[bQ]) aNM r r r<|aF (fr':=[(0,aI),(2,.box 0 0)]) r r<|aP<|aH<|mI r<|aF (fr':=[(2,.box 0 0),(3,aI)]) r r<|bJ<|aP<|aQ ?_
 refine aM r (bM r r)<|sB r<|aF (fr':=[(2,.box 0 0),(3,aI),(4,aB)]) r r<|bP h r (fun hb1 h1=>?_) (fun hb1 h1=>?_)
 ·
  refine aH<|aM r (dK (cs:=bQ) xD r)<|bU (v:=.agg bQ) (us:=bQ) (cs:=bQ) (σ':=[bQ]) r kX r r r r r r r r<|aF (fr':=[(2,.box 0 0)]) r r<|bC<|bA<|aJ ?_
  obtain rfl:=sy h1
  exact bB (rs':=[.cell 2 139]) r<|cZ (us:=bQ) (cs:=bQ) kX r r r r<|aZ<|aN [] r r r (bK r ⟨r,r,r,r,r,r,r,trivial⟩) aA
 ·
  refine aH<|aM r (bM r r)<|sB r<|aF (fr':=[(2,.box 0 0),(3,aI),(7,aB)]) r r<|bP h1 r (fun hb3 h3=>?_) (fun hb3 h3=>?_)
  ·
   refine aH<|aM r (dK (cs:=bQ) xD r)<|bU (v:=.agg bQ) (us:=bQ) (cs:=bQ) (σ':=[bQ]) r kX r r r r r r r r<|aF (fr':=[(2,.box 0 0)]) r r<|bC<|bA<|aJ ?_
   obtain rfl:=sy h3
   exact bB (rs':=[.cell 2 139]) r<|cZ (us:=bQ) (cs:=bQ) kX r r r r<|aZ<|aN [] r r r (bK r ⟨r,r,r,r,r,r,r,trivial⟩) aA
  ·
   obtain ⟨x5,hx5,h6⟩:=aE h3
   refine fY (fun j7=>x5=j7) (fun (j7:Bool)=>([(2,.box 0 0),(3,ci cF),(10,.c (.bool j7))]:Fr)) (fun (j7:Bool)=>([[.c (.bool false),.c (.bool false),.c (.bool false),.c (.bool false),.c (.bool false),.c (.bool false),.c (.bool false)]]:St)) ?_ ?_
   ·
    refine aH<|aM r (bM r r)<|sB r<|aF (fr':=[(2,.box 0 0),(3,aI),(10,aB)]) r r<|bP hx5 r (fun hb8 h8=>?_) (fun hb8 h8=>?_)
    ·
     exact aW<|gD _ (sy h8) (aU [] 1 r r r r ⟨lr,lr,lr,trivial⟩ (bW r aA))
    ·
     refine aH<|aM r (bM r r)<|sB r<|aF (fr':=[(2,.box 0 0),(3,aI),(10,aB)]) r r<|bP h8 r (fun hb9 h9=>?_) (fun hb9 h9=>?_)
     ·
      exact aW<|gD _ (sy h9) (aU [] 1 r r r r ⟨lr,lr,lr,trivial⟩ (bW r aA))
     ·
      exact aQ<|aM r (bM r r)<|sB r<|cB (fr':=[(2,.box 0 0),(3,aI),(10,aB)]) r<|gD _ (sy h9) (aU [] 1 r r r r ⟨lr,lr,lr,trivial⟩ (bW r aA))
   ·
    intro j7 hj10
    subst hj10
    refine bP h6 r (fun hb11 h11=>?_) (fun hb11 h11=>?_)
    ·
     refine aH<|aM r (dK (cs:=bQ) xD r)<|bU (v:=.agg bQ) (us:=bQ) (cs:=bQ) (σ':=[bQ]) r kX r r r r r r r r<|aF (fr':=[(2,.box 0 0)]) r r<|bC<|bA<|aJ ?_
     obtain rfl:=sy h11
     exact bB (rs':=[.cell 2 139]) r<|cZ (us:=bQ) (cs:=bQ) kX r r r r<|aZ<|aN [] r r r (bK r ⟨r,r,r,r,r,r,r,trivial⟩) aA
    ·
     refine aH<|aM r (bM r r)<|sB r<|aF (fr':=[(2,.box 0 0),(3,aI),(15,aB)]) r r<|bP h11 r (fun hb13 h13=>?_) (fun hb13 h13=>?_)
     ·
      refine aH<|aM r (dK (cs:=bQ) xD r)<|bU (v:=.agg bQ) (us:=bQ) (cs:=bQ) (σ':=[bQ]) r kX r r r r r r r r<|aF (fr':=[(2,.box 0 0)]) r r<|bC<|bA<|aJ ?_
      obtain rfl:=sy h13
      exact bB (rs':=[.cell 2 139]) r<|cZ (us:=bQ) (cs:=bQ) kX r r r r<|aZ<|aN [] r r r (bK r ⟨r,r,r,r,r,r,r,trivial⟩) aA
     ·
      refine aH<|aM r (bM r r)<|sB r<|aF (fr':=[(2,.box 0 0),(3,aI),(18,aB)]) r r<|bP h13 r (fun hb15 h15=>?_) (fun hb15 h15=>?_)
      ·
       refine aH<|aM r (dK (cs:=bQ) xD r)<|bU (v:=.agg bQ) (us:=bQ) (cs:=bQ) (σ':=[bQ]) r kX r r r r r r r r<|aF (fr':=[(2,.box 0 0)]) r r<|bC<|bA<|aJ ?_
       obtain rfl:=sy h15
       exact bB (rs':=[.cell 2 139]) r<|cZ (us:=bQ) (cs:=bQ) kX r r r r<|aZ<|aN [] r r r (bK r ⟨r,r,r,r,r,r,r,trivial⟩) aA
      ·
       obtain ⟨x17,hx17,h18⟩:=aE h15
       refine fY (fun j19=>x17=j19) (fun (j19:Bool)=>([(2,.box 0 0),(3,ci cF),(21,.c (.bool j19))]:Fr)) (fun (j19:Bool)=>([[.c (.bool false),.c (.bool false),.c (.bool false),.c (.bool false),.c (.bool false),.c (.bool false),.c (.bool false)]]:St)) ?_ ?_
       ·
        refine aH<|aM r (bM r r)<|sB r<|aF (fr':=[(2,.box 0 0),(3,aI),(21,aB)]) r r<|bP hx17 r (fun hb20 h20=>?_) (fun hb20 h20=>?_)
        ·
         exact aW<|gD _ (sy h20) (aU [] 1 r r r r ⟨lr,lr,lr,trivial⟩ (bW r aA))
        ·
         refine aH<|aM r (bM r r)<|sB r<|aF (fr':=[(2,.box 0 0),(3,aI),(21,aB)]) r r<|bP h20 r (fun hb21 h21=>?_) (fun hb21 h21=>?_)
         ·
          exact aW<|gD _ (sy h21) (aU [] 1 r r r r ⟨lr,lr,lr,trivial⟩ (bW r aA))
         ·
          exact aQ<|aM r (bM r r)<|sB r<|cB (fr':=[(2,.box 0 0),(3,aI),(21,aB)]) r<|gD _ (sy h21) (aU [] 1 r r r r ⟨lr,lr,lr,trivial⟩ (bW r aA))
       ·
        intro j19 hj22
        subst hj22
        refine bP h18 r (fun hb23 h23=>?_) (fun hb23 h23=>?_)
        ·
         refine aH<|aM r (dK (cs:=bQ) xD r)<|bU (v:=.agg bQ) (us:=bQ) (cs:=bQ) (σ':=[bQ]) r kX r r r r r r r r<|aF (fr':=[(2,.box 0 0)]) r r<|bC<|bA<|aJ ?_
         obtain rfl:=sy h23
         exact bB (rs':=[.cell 2 139]) r<|cZ (us:=bQ) (cs:=bQ) kX r r r r<|aZ<|aN [] r r r (bK r ⟨r,r,r,r,r,r,r,trivial⟩) aA
        ·
         obtain ⟨x25,hx25,h26⟩:=aE h23
         refine fY (fun j27=>x25=j27) (fun (j27:Bool)=>([(2,.box 0 0),(3,ci cF),(26,.c (.bool j27))]:Fr)) (fun (j27:Bool)=>([[.c (.bool false),.c (.bool false),.c (.bool false),.c (.bool false),.c (.bool false),.c (.bool false),.c (.bool false)]]:St)) ?_ ?_
         ·
          refine aH<|aM r (bM r r)<|sB r<|aF (fr':=[(2,.box 0 0),(3,aI),(26,aB)]) r r<|bP hx25 r (fun hb28 h28=>?_) (fun hb28 h28=>?_)
          ·
           exact aW<|gD _ (sy h28) (aU [] 1 r r r r ⟨lr,lr,lr,trivial⟩ (bW r aA))
          ·
           exact aQ<|aM r (bM r r)<|sB r<|cB (fr':=[(2,.box 0 0),(3,aI),(26,aB)]) r<|gD _ (sy h28) (aU [] 1 r r r r ⟨lr,lr,lr,trivial⟩ (bW r aA))
         ·
          intro j27 hj29
          subst hj29
          refine bP h26 r (fun hb30 h30=>?_) (fun hb30 h30=>?_)
          ·
           refine aH<|aM r (dK (cs:=bQ) xD r)<|bU (v:=.agg bQ) (us:=bQ) (cs:=bQ) (σ':=[bQ]) r kX r r r r r r r r<|aF (fr':=[(2,.box 0 0)]) r r<|bC<|bA<|aJ ?_
           obtain rfl:=sy h30
           exact bB (rs':=[.cell 2 139]) r<|cZ (us:=bQ) (cs:=bQ) kX r r r r<|aZ<|aN [] r r r (bK r ⟨r,r,r,r,r,r,r,trivial⟩) aA
          ·
           refine aH<|aM r (bM r r)<|sB r<|aF (fr':=[(2,.box 0 0),(3,aI),(30,aB)]) r r<|bP h30 r (fun hb32 h32=>?_) (fun hb32 h32=>?_)
           ·
            refine aH<|aM r (dK (cs:=bQ) xD r)<|bU (v:=.agg bQ) (us:=bQ) (cs:=bQ) (σ':=[bQ]) r kX r r r r r r r r<|aF (fr':=[(2,.box 0 0)]) r r<|bC<|bA<|aJ ?_
            obtain rfl:=sy h32
            exact bB (rs':=[.cell 2 139]) r<|cZ (us:=bQ) (cs:=bQ) kX r r r r<|aZ<|aN [] r r r (bK r ⟨r,r,r,r,r,r,r,trivial⟩) aA
           ·
            obtain ⟨x34,hx34,h35⟩:=aE h32
            refine fY (fun j36=>x34=j36) (fun (j36:Bool)=>([(2,.box 0 0),(3,ci cF),(33,.c (.bool j36))]:Fr)) (fun (j36:Bool)=>([[.c (.bool false),.c (.bool false),.c (.bool false),.c (.bool false),.c (.bool false),.c (.bool false),.c (.bool false)]]:St)) ?_ ?_
            ·
             refine aH<|aM r (bM r r)<|sB r<|aF (fr':=[(2,.box 0 0),(3,aI),(33,aB)]) r r<|bP hx34 r (fun hb37 h37=>?_) (fun hb37 h37=>?_)
             ·
              exact aW<|gD _ (sy h37) (aU [] 1 r r r r ⟨lr,lr,lr,trivial⟩ (bW r aA))
             ·
              exact aQ<|aM r (bM r r)<|sB r<|cB (fr':=[(2,.box 0 0),(3,aI),(33,aB)]) r<|gD _ (sy h37) (aU [] 1 r r r r ⟨lr,lr,lr,trivial⟩ (bW r aA))
            ·
             intro j36 hj38
             subst hj38
             refine bP h35 r (fun hb39 h39=>?_) (fun hb39 h39=>?_)
             ·
              refine aH<|aM r (dK (cs:=bQ) xD r)<|bU (v:=.agg bQ) (us:=bQ) (cs:=bQ) (σ':=[bQ]) r kX r r r r r r r r<|aF (fr':=[(2,.box 0 0)]) r r<|bC<|bA<|aJ ?_
              obtain rfl:=sy h39
              exact bB (rs':=[.cell 2 139]) r<|cZ (us:=bQ) (cs:=bQ) kX r r r r<|aZ<|aN [] r r r (bK r ⟨r,r,r,r,r,r,r,trivial⟩) aA
             ·
              refine aH<|aM r (bM r r)<|sB r<|aF (fr':=[(2,.box 0 0),(3,aI),(37,aB)]) r r<|bP h39 r (fun hb41 h41=>?_) (fun hb41 h41=>?_)
              ·
               refine aH<|aM r (dK (cs:=bQ) xD r)<|bU (v:=.agg bQ) (us:=bQ) (cs:=bQ) (σ':=[bQ]) r kX r r r r r r r r<|aF (fr':=[(2,.box 0 0)]) r r<|bC<|bA<|aJ ?_
               obtain rfl:=sy h41
               exact bB (rs':=[.cell 2 139]) r<|cZ (us:=bQ) (cs:=bQ) kX r r r r<|aZ<|aN [] r r r (bK r ⟨r,r,r,r,r,r,r,trivial⟩) aA
              ·
               refine aH<|aM r (bM r r)<|sB r<|aF (fr':=[(2,.box 0 0),(3,aI),(40,aB)]) r r<|bP h41 r (fun hb43 h43=>?_) (fun hb43 h43=>?_)
               ·
                refine aH<|aM r (dK (cs:=bQ) xD r)<|bU (v:=.agg bQ) (us:=bQ) (cs:=bQ) (σ':=[bQ]) r kX r r r r r r r r<|aF (fr':=[(2,.box 0 0)]) r r<|bC<|bA<|aJ ?_
                obtain rfl:=sy h43
                exact bB (rs':=[.cell 2 139]) r<|cZ (us:=bQ) (cs:=bQ) kX r r r r<|aZ<|aN [] r r r (bK r ⟨r,r,r,r,r,r,r,trivial⟩) aA
               ·
                refine aH<|aM r (bM r r)<|sB r<|aF (fr':=[(2,.box 0 0),(3,aI),(43,aB)]) r r<|bP h43 r (fun hb45 h45=>?_) (fun hb45 h45=>?_)
                ·
                 refine aH<|aM r (dK (cs:=bQ) xD r)<|bU (v:=.agg bQ) (us:=bQ) (cs:=bQ) (σ':=[bQ]) r kX r r r r r r r r<|aF (fr':=[(2,.box 0 0)]) r r<|bC<|bA<|aJ ?_
                 obtain rfl:=sy h45
                 exact bB (rs':=[.cell 2 139]) r<|cZ (us:=bQ) (cs:=bQ) kX r r r r<|aZ<|aN [] r r r (bK r ⟨r,r,r,r,r,r,r,trivial⟩) aA
                ·
                 refine aH<|aM r (bM r r)<|sB r<|aF (fr':=[(2,.box 0 0),(3,aI),(46,aB)]) r r<|bP h45 r (fun hb47 h47=>?_) (fun hb47 h47=>?_)
                 ·
                  refine aH<|aM r (dK (cs:=bQ) xD r)<|bU (v:=.agg bQ) (us:=bQ) (cs:=bQ) (σ':=[bQ]) r kX r r r r r r r r<|aF (fr':=[(2,.box 0 0)]) r r<|bC<|bA<|aJ ?_
                  obtain rfl:=sy h47
                  exact bB (rs':=[.cell 2 139]) r<|cZ (us:=bQ) (cs:=bQ) kX r r r r<|aZ<|aN [] r r r (bK r ⟨r,r,r,r,r,r,r,trivial⟩) aA
                 ·
                  refine aH<|aM r (bM r r)<|sB r<|aF (fr':=[(2,.box 0 0),(49,aB)]) r r<|bP h47 r (fun hb49 h49=>?_) (fun hb49 h49=>?_)
                  ·
                   refine aH<|aM r (dK (cs:=bQ) xD r)<|bU (v:=.agg bQ) (us:=bQ) (cs:=bQ) (σ':=[bQ]) r kX r r r r r r r r<|aF (fr':=[(2,.box 0 0)]) r r<|bC<|bA<|aJ ?_
                   obtain rfl:=sy h49
                   exact bB (rs':=[.cell 2 139]) r<|cZ (us:=bQ) (cs:=bQ) kX r r r r<|aZ<|aN [] r r r (bK r ⟨r,r,r,r,r,r,r,trivial⟩) aA
                  ·
                   refine aW<|bX<|bV<|aH<|aM r (dK (cs:=bQ) xD r)<|bU (v:=.agg bQ) (us:=bQ) (cs:=bQ) (σ':=[bQ]) r kX r r r r r r r r<|aF (fr':=[(2,.box 0 0)]) r r<|bC ?_
                   obtain rfl:=sy h49
                   exact bB (rs':=[.cell 2 139]) r<|cZ (us:=bQ) (cs:=bQ) kX r r r r<|aZ<|aN [] r r r (bK r ⟨r,r,r,r,r,r,r,trivial⟩) aA
noncomputable def nB (p0u:fZ) (p1e:bI):Option Bool :=
 (gd (((cond (cond (cond (cond (cond (cond p0u.seq_ true (decide (p1e.Seq=(0:Int)))) (cond p0u.ref_ true (decide (p1e.Ref=(0:Int)))) false) (cond p0u.n_ true (decide (p1e.N=(0:Int)))) false) (cond p0u.code_ true (decide (p1e.Code=(0:Int)))) false) (cond p0u.name_ true (decide (p1e.Name=([]:List UInt8)))) false) (cond p0u.key_ true (decide (p1e.Key=([]:List UInt8)))) false)==true)&&(p0u.data_==false)) (zY p1e.Data (aC.mk (0:Int) (0:Int) ([]:List UInt8) ([]:(List aC)) ([]:(List (List UInt8)))))).bind fun x1=>(gd ((cond (cond (cond (cond (cond (cond (cond p0u.seq_ true (decide (p1e.Seq=(0:Int)))) (cond p0u.ref_ true (decide (p1e.Ref=(0:Int)))) false) (cond p0u.n_ true (decide (p1e.N=(0:Int)))) false) (cond p0u.code_ true (decide (p1e.Code=(0:Int)))) false) (cond p0u.name_ true (decide (p1e.Name=([]:List UInt8)))) false) (cond p0u.key_ true (decide (p1e.Key=([]:List UInt8)))) false) (cond p0u.data_ true x1) false)==true) (jF p1e.Opts (bG.mk ([]:List UInt8) (0:Int) (0:Int) (0:Int) (0:Int) (0:Int) (0:Int) (0:Int) (0:Int) ([]:(List (List UInt8)))))).bind fun x3=>some (cond (cond (cond (cond (cond (cond (cond (cond p0u.seq_ true (decide (p1e.Seq=(0:Int)))) (cond p0u.ref_ true (decide (p1e.Ref=(0:Int)))) false) (cond p0u.n_ true (decide (p1e.N=(0:Int)))) false) (cond p0u.code_ true (decide (p1e.Code=(0:Int)))) false) (cond p0u.name_ true (decide (p1e.Name=([]:List UInt8)))) false) (cond p0u.key_ true (decide (p1e.Key=([]:List UInt8)))) false) (cond p0u.data_ true x1) false) x3 false)
theorem aCl {p0u:fZ}{p1e:bI}{res:Bool} (h:nB p0u p1e=some res):bS Tryz.prog 140 [.agg (AV.cs (aCQ p0u)),.agg (AV.cs (cD p1e))] [] (.c (.bool res)) []:=by
 unfold nB at h
 refine cJ (fn:=Tryz.f140) [0,1,2,3,4] (by kernel_rfl) Tryz.func140 r (by kernel_rfl) (by kernel_rfl)<|aH<|fS (v:=.agg bQ) (n:=0) (cs:=bQ) (σ':=[bQ]) r r r r r<|fS (v:=.agg aD) (n:=1) (cs:=aD) (σ':=[bQ,aD]) r r r r r<|sB r<|aF (fr':=[(2,.box 0 0),(3,.box 1 0)]) r r<|aH<|aM r (bD aLi r)<|aM r (aK (v:=aB) tv4 r r r)<|mB r<|og r r r (fun hc=>(bD xE r)) ?_
 refine og r r r (fun hc=>(aK (v:=aI) eP (gx r hc) r r))<|og r r r (fun hc=>(bM (gx r hc) r))<|aM r (bY r r r (fun e=>eO e))<|mB r<|og r r r (fun hc=>(bD aLj r))<|og r r r (fun hc=>(aK (v:=aB) tv4 (gx r hc) r r))<|og r r r (fun hc=>(bE (v:=aB) (gx r hc)))<|eL r r (fun hc=>eS r (bD xF r))<|eL r r (fun hc=>eS r (aK (v:=aI) eP (gx r hc) r r))<|eL r r (fun hc=>eS r (bM (gx r hc) r))<|og r r r (fun hc=>(bY (gx r hc) r r (fun e=>oC hc (eO e))))<|aM r (bO r r r (fun e=>eO e))<|mB r ?_
 refine og r r r (fun hc=>(bD aO8 r))<|og r r r (fun hc=>(aK (v:=aB) tv4 (gx r hc) r r))<|og r r r (fun hc=>(bE (v:=aB) (gx r hc)))<|eL r r (fun hc=>eS r (bD sC r))<|eL r r (fun hc=>eS r (aK (v:=aI) eP (gx r hc) r r))<|eL r r (fun hc=>eS r (bM (gx r hc) r))<|og r r r (fun hc=>(bY (gx r hc) r r (fun e=>oC hc (eO e))))<|aM r (bO r r r (fun e=>eO e))<|mB r<|og r r r (fun hc=>(bD aO9 r))<|og r r r (fun hc=>(aK (v:=aB) tv4 (gx r hc) r r))<|og r r r (fun hc=>(bE (v:=aB) (gx r hc)))<|eL r r (fun hc=>eS r (bD vU r)) ?_
 refine eL r r (fun hc=>eS r (aK (v:=aI) eP (gx r hc) r r))<|eL r r (fun hc=>eS r (bM (gx r hc) r))<|og r r r (fun hc=>(bY (gx r hc) r r (fun e=>oC hc (eO e))))<|aM r (bO r r r (fun e=>eO e))<|mB r<|og r r r (fun hc=>(bD aPa r))<|og r r r (fun hc=>(aK (v:=aB) tv4 (gx r hc) r r))<|og r r r (fun hc=>(bE (v:=aB) (gx r hc)))<|eL r r (fun hc=>eS r (bD oW r))<|eL r r (fun hc=>eS r (aK (v:=aS) kD (gx r hc) r r))<|eL r r (fun hc=>eS r (oU (gx r hc) r))<|og r r r (fun hc=>(bY (gx r hc) r r (fun e=>oC hc (eO e))))<|aM r (bO r r r (fun e=>eO e)) ?_
 refine mB r<|og r r r (fun hc=>(bD aPb r))<|og r r r (fun hc=>(aK (v:=aB) tv4 (gx r hc) r r))<|og r r r (fun hc=>(bE (v:=aB) (gx r hc)))<|eL r r (fun hc=>eS r (bD oX r))<|eL r r (fun hc=>eS r (aK (v:=aS) kD (gx r hc) r r))<|eL r r (fun hc=>eS r (oU (gx r hc) r))<|og r r r (fun hc=>(bY (gx r hc) r r (fun e=>oC hc (eO e))))<|aM r (bO r r r (fun e=>eO e))<|mB r<|og r r r (fun hc=>(bD aPc r))<|og r r r (fun hc=>(aK (v:=aB) tv4 (gx r hc) r r))<|og r r r (fun hc=>(bE (v:=aB) (gx r hc))) ?_
 refine eL r r (fun hc=>eS r (bD tV r))<|eL r r (fun hc=>eS r (cN (us:=bL) fM (gx r hc) r r r))<|eL r r (fun hc=>eS r (dK (cs:=bT) aFP r)) ?_
 obtain ⟨x1,hx1,h2⟩:=aE h
 refine eL r r (fun hc=>aX (v:=aB) r (aC4 (cA hx1 hc)) ⟨(eH (gx r hc) (bK r ⟨r,r,r,r,r,trivial⟩)),(eH (gx r hc) (bK r ⟨r,r,r,⟨_,r⟩,⟨_,r⟩,trivial⟩)),trivial⟩ (fA (by repeat (first | exact dX | refine aY r ?_ | refine aY (oS r) ?_ | refine aY oR ?_))) r r) ?_
 refine og r r r (fun hc=>(bY (gx r hc) r r (fun e=>oC hc (eO e))))<|aM r (bO r r r (fun e=>eO e))<|mB r<|og r r r (fun hc=>(bD rW r))<|og r r r (fun hc=>(cN (us:=bZ) wH (gx r hc) r r r))<|og r r r (fun hc=>(pU (c0:=bN) (cs:=bN) aNG r pR)) ?_
 obtain ⟨x3,hx3,h4⟩:=aE h2
 refine sM r r (fun hc=>aX (v:=aB) r (vP (cA hx3 hc)) ⟨(eH (gx r hc) (bK r ⟨r,r,r,r,r,r,r,r,r,r,trivial⟩)),(eH (gx r hc) (bK r ⟨r,r,r,r,r,r,r,r,r,⟨_,r⟩,trivial⟩)),trivial⟩ (fA (by repeat (first | exact dX | refine aY r ?_ | refine aY (oS r) ?_ | refine aY oR ?_))) r r) ?_
 refine aM r (bO r r r (fun e=>eO e))<|sB r<|aF (fr':=[(4,aB)]) r r<|bC ?_
 obtain rfl:=sy h4
 exact bB (rs':=[.tmp 4]) r<|bH (v:=aB) r<|aZ<|aN [] r r r lr aA
noncomputable def vD (vH:(List UInt8)):Option (Int × Bool) :=
 if vH.length≤140737488355328 then some (qL vH) else none
theorem aGE {vH:(List UInt8)}{res:(Int × Bool)} (h:vD vH=some res):bS Tryz.prog 161 [.c (.str vH)] [] (.tup [ci res.1,.c (.bool res.2)]) []:=by
 unfold vD at h
 obtain ⟨hl,rfl⟩:=aM6 h
 refine aJQ (by kernel_rfl) fun g w vs hv hI hg=>?_
 rw [aQk hv]
 refine (aHQ hl w hI hg).mono fun e w'=>?_
 rintro ⟨rfl,hb⟩
 exact ⟨_,r,hb,fun g'=>aNs (.c (.int _ _)) (.c (.bool _))⟩
noncomputable def vX (p0s:(List UInt8)) (s4:Int):Option (cI Int (Fl Bool Unit)) :=
 cond (decide (s4<((p0s).length:Int))) ((hG p0s s4).bind fun x6=>(gd ((decide (((x6).toNat:Int)<(33:Int)))==false) (hG p0s s4)).bind fun x8=>(gd ((cond (decide (((x6).toNat:Int)<(33:Int))) true (decide ((126:Int)<((x8).toNat:Int))))==false) (hG p0s s4)).bind fun x10=>(gd ((cond (cond (decide (((x6).toNat:Int)<(33:Int))) true (decide ((126:Int)<((x8).toNat:Int)))) true (decide (((x10).toNat:Int)=(47:Int))))==false) (hG p0s s4)).bind fun x12=>cond (cond (cond (cond (decide (((x6).toNat:Int)<(33:Int))) true (decide ((126:Int)<((x8).toNat:Int)))) true (decide (((x10).toNat:Int)=(47:Int)))) true (decide (((x12).toNat:Int)=(34:Int)))) (some (cI.out (Fl.done false))) (some (cI.next (IntKind.wrap .i64 (s4+(1:Int)))))) (some (cI.out (Fl.go ())))
noncomputable def iN (p0s:(List UInt8)):Option Bool :=
 ((dR (vX p0s) ((0:Int))):Option (Fl Bool Unit)).bind fun x1=>Fl.next x1 (fun j3=>((gQ ((p0s).length:Int) (1:Int) (64:Int)).bind fun x20=>some x20))
theorem sE {p0s:(List UInt8)}{res:Bool} (h:iN p0s=some res):bS Tryz.prog 181 [.c (.str p0s)] [] (.c (.bool res)) []:=by
 unfold iN at h
 refine cJ (fn:=Tryz.f181) [0,2,3,5,6,7,30] (by kernel_rfl) Tryz.func181 r (by kernel_rfl) (by kernel_rfl)<|aH<|sB r<|aF (fr':=[(0,aS)]) r r<|aP<|aH<|mS r<|aM r (gL pJ r)<|mI r<|aF (fr':=[(0,aS),(5,aI),(6,aI)]) r r ?_
 obtain ⟨x1,hx1,h2⟩:=aE h
 refine eB gF (fun j3=>x1=Fl.go j3) (fun (j3:Unit)=>([(0,.c (.str p0s))]:Fr)) (fun (j3:Unit)=>([]:St)) ?_ ?_
 ·
  refine bJ<|dV _ (fun (s4:Int)=>([(0,.c (.str p0s)),(5,ci ((p0s).length:Int)),(6,ci s4)]:Fr)) (fun (s4:Int)=>([]:St)) hx1 (aU [] 0 r r r r ⟨lr,lr,lr,trivial⟩ aA) ?_
  intro s4 st4 hs4 ho4
  unfold vX at hs4
  refine aH<|aM r (dJ r r)<|aF (fr':=[(0,aS),(5,aI),(6,aI),(7,aB)]) r r<|aP<|bP hs4 r (fun hb5 h5=>?_) (fun hb5 h5=>?_)
  ·
   refine aW<|bV<|aP<|bJ<|aH<|mI r<|sI r<|aF (fr':=[(0,aS),(3,aI),(5,aI),(6,aI)]) r r<|aH<|mS r<|mI r ?_
   obtain ⟨x6,hx6,h7⟩:=aE h5
   refine aM r (wE pJ r r hx6)<|aM r (dJ r r)<|mB r<|og r r r (fun hc=>(bE (v:=aS) r))<|og r r r (fun hc=>(bE (v:=aI) r)) ?_
   obtain ⟨x8,hx8,h9⟩:=aE h7
   refine og r r r (fun hc=>(wE pJ (gx r hc) (gx r hc) (cA hx8 hc)))<|og r r r (fun hc=>(kA (gx r hc) r))<|aM r (bY r r r (fun e=>eO e))<|mB r<|og r r r (fun hc=>(bE (v:=aS) r))<|og r r r (fun hc=>(bE (v:=aI) r)) ?_
   obtain ⟨x10,hx10,h11⟩:=aE h9
   refine og r r r (fun hc=>(wE pJ (gx r hc) (gx r hc) (cA hx10 hc)))<|og r r r (fun hc=>(bM (gx r hc) r))<|aM r (bY r r r (fun e=>eO e))<|mB r<|og r r r (fun hc=>(bE (v:=aS) r))<|og r r r (fun hc=>(bE (v:=aI) r)) ?_
   obtain ⟨x12,hx12,h13⟩:=aE h11
   refine og r r r (fun hc=>(wE pJ (gx r hc) (gx r hc) (cA hx12 hc)))<|og r r r (fun hc=>(bM (gx r hc) r))<|aM r (bY r r r (fun e=>eO e))<|aF (fr':=[(0,aS),(5,aI),(6,aI),(30,aB)]) r r<|bP h13 r (fun hb14 h14=>?_) (fun hb14 h14=>?_)
   ·
    refine aH<|sB r<|aF (fr':=[(2,aB)]) r r<|bC<|bA<|aJ<|aJ<|bA<|aJ<|aJ ?_
    have h15:=cS h14 ho4
    have h16:=dQ h15 h2
    obtain rfl:=sy h16
    exact bB (rs':=[.tmp 2]) r<|bH (v:=aB) r<|aZ<|aN [] r r r lr aA
   ·
    exact aW<|bX<|bV<|aQ<|aM r (dB r r)<|mI r<|cB (fr':=[(0,aS),(5,aI),(6,aI),(30,aB)]) r<|rX _ (sy h14) (aU [] 0 r r r r ⟨lr,lr,lr,trivial⟩ aA)
  ·
   refine eK<|bR<|bR<|dC ?_
   have h18:=cS h5 ho4
   exact gD _ (sy h18) (aU [] 0 r r r r ⟨lr,trivial⟩ aA)
 ·
  intro j3 hj19
  have h19:=iC hj19 h2
  refine bV<|aH<|mS r<|aM r (gL pJ r) ?_
  obtain ⟨x20,hx20,h21⟩:=aE h19
  refine gV (aX (v:=aB) r (hY hx20) ⟨lr,lr,lr,trivial⟩ r r r)<|sB r<|aF (fr':=[(2,aB)]) r r<|bC ?_
  obtain rfl:=sy h21
  exact bB (rs':=[.tmp 2]) r<|bH (v:=aB) r<|aZ<|aN [] r r r lr aA
noncomputable def pQ (x5:aC) (s10:Int):Option (cI Int (Fl Bool Unit)) :=
 cond (decide (s10<((x5.Items).length:Int))) ((hG x5.Items s10).bind fun x12=>(gd ((cond (!decide (x12.Kind=(4:Int))) true (!decide (((x12.Items).length:Int)=(2:Int))))==false) (hG x12.Items (0:Int))).bind fun x14=>(gd ((cond (cond (!decide (x12.Kind=(4:Int))) true (!decide (((x12.Items).length:Int)=(2:Int)))) true (!decide (x14.Kind=(3:Int))))==false) (hG x12.Items (0:Int))).bind fun x16=>(gd ((cond (cond (!decide (x12.Kind=(4:Int))) true (!decide (((x12.Items).length:Int)=(2:Int)))) true (!decide (x14.Kind=(3:Int))))==false) (mG x16.Text)).bind fun x18=>cond (cond (cond (cond (!decide (x12.Kind=(4:Int))) true (!decide (((x12.Items).length:Int)=(2:Int)))) true (!decide (x14.Kind=(3:Int)))) true (!x18)) (some (cI.out (Fl.done false))) (some (cI.next (IntKind.wrap .i64 (s10+(1:Int)))))) (some (cI.out (Fl.go ())))
noncomputable def vB (p0v:aC):Option Bool :=
 (gd ((cond (!decide (p0v.Kind=(4:Int))) true (!decide (((p0v.Items).length:Int)=(2:Int))))==false) (hG p0v.Items (1:Int))).bind fun x1=>cond (cond (cond (!decide (p0v.Kind=(4:Int))) true (!decide (((p0v.Items).length:Int)=(2:Int)))) true (!decide (x1.Kind=(4:Int)))) (some false) ((hG p0v.Items (1:Int)).bind fun x5=>((dR (pQ x5) ((0:Int))):Option (Fl Bool Unit)).bind fun x7=>Fl.next x7 (fun j9=>(some true)))
theorem aGD {p0v:aC}{res:Bool} (h:vB p0v=some res):bS Tryz.prog 182 [.agg (AV.cs (cQ p0v))] [] (.c (.bool res)) []:=by
 unfold vB at h
 refine cJ (fn:=Tryz.f182) [0,1,2,4,21,26,27,28,29,57] (by kernel_rfl) Tryz.func182 r (by kernel_rfl) (by kernel_rfl)<|aH<|fS (v:=.agg bL) (n:=0) (cs:=bL) (σ':=[bL]) r r r r r<|sB r<|aF (fr':=[(1,.box 0 0)]) r r<|aP<|aH<|aM r (bD gW r)<|aM r (aK (v:=aI) eP r r r)<|aM r (fI r r)<|mB r ?_
 refine og r r r (fun hc=>(bD eJ r))<|og r r r (fun hc=>(aK (v:=aL) iF (gx r hc) r r))<|og r r r (fun hc=>(dI nH (cC (gx r hc))))<|og r r r (fun hc=>(fI (gx r hc) r))<|aM r (bY r r r (fun e=>eO e))<|mB r<|og r r r (fun hc=>(bD eJ r))<|og r r r (fun hc=>(aK (v:=aL) iF (gx r hc) r r)) ?_
 obtain ⟨x1,hx1,h2⟩:=aE h
 refine og r r r (fun hc=>(gR (cs:=[PV.int _ _,PV.int _ _,PV.str _,PV.ls _ _ _,PV.ls _ _ _]) mP (cC (gx r hc)) r (cA hx1 hc) (cE _)))<|og r r r (fun hc=>(rJ gW (gx r hc)))<|og r r r (fun hc=>(eG (p:=PV.int _ _) eP (gx r hc) r))<|og r r r (fun hc=>(fI (gx r hc) r))<|aM r (bY r r r (fun e=>eO e))<|aF (fr':=[(1,.box 0 0),(21,aB)]) r r<|bP h2 r (fun hb3 h3=>?_) (fun hb3 h3=>?_)
 ·
  refine aH<|sB r<|aF (fr':=[(2,aB)]) r r<|bC<|aJ ?_
  obtain rfl:=sy h3
  exact bB (rs':=[.tmp 2]) r<|bH (v:=aB) r<|aZ<|aN [] r r r lr aA
 ·
  refine aW<|bV<|aP<|aH<|aM r (bD eJ r)<|aM r (aK (v:=aL) iF r r r) ?_
  obtain ⟨x5,hx5,h6⟩:=aE h3
  refine aM r (gR (cs:=[PV.int _ _,PV.int _ _,PV.str _,PV.ls _ _ _,PV.ls _ _ _]) mP (cC r) r hx5 (cE _))<|aM r (rJ eJ r)<|aM r (eG (p:=PV.ls _ _ _) iF r r)<|aM r (dI nH (cC r))<|mI r<|aF (fr':=[(26,aL),(27,aI),(28,aI)]) r r ?_
  obtain ⟨x7,hx7,h8⟩:=aE h6
  refine eB gF (fun j9=>x7=Fl.go j9) (fun (j9:Unit)=>([]:Fr)) (fun (j9:Unit)=>([[ci p0v.Kind,ci p0v.Int,.c (.str p0v.Text),.c (PV.ls 5 bF p0v.Items),.c (PV.ls 1 eA p0v.Keys)]]:St)) ?_ ?_
  ·
   refine bJ<|dV _ (fun (s10:Int)=>([(26,.c (PV.ls 5 bF x5.Items)),(27,ci ((x5.Items).length:Int)),(28,ci s10)]:Fr)) (fun (s10:Int)=>([[ci p0v.Kind,ci p0v.Int,.c (.str p0v.Text),.c (PV.ls 5 bF p0v.Items),.c (PV.ls 1 eA p0v.Keys)]]:St)) hx7 (aU [] 1 r r r r ⟨lr,lr,lr,trivial⟩ (bW r aA)) ?_
   intro s10 st10 hs10 ho10
   unfold pQ at hs10
   refine aH<|aM r (dJ r r)<|aF (fr':=[(26,aL),(27,aI),(28,aI),(29,aB)]) r r<|aP<|bP hs10 r (fun hb11 h11=>?_) (fun hb11 h11=>?_)
   ·
    refine aW<|bV<|aP<|bJ<|aP<|aQ ?_
    obtain ⟨x12,hx12,h13⟩:=aE h11
    refine aM r (gR (cs:=[PV.int _ _,PV.int _ _,PV.str _,PV.ls _ _ _,PV.ls _ _ _]) mP (cC r) r hx12 (cE _))<|aM r (gM (us:=[PV.int _ _,PV.int _ _,PV.str _,PV.ls _ _ _,PV.ls _ _ _]) fM r r r)<|gC (n:=1) (cs:=bT) (σ':=[bL,bT]) aCi r r r<|bU (v:=.agg bL) (us:=bL) (cs:=bT) (σ':=[bL,bL]) r fM r r r r r r r r<|aF (fr':=[(4,.box 1 0),(26,aL),(27,aI),(28,aI)]) r r<|aH<|aM r (bD gW r)<|aM r (aK (v:=aI) eP r r r)<|aM r (fI r r)<|mB r<|og r r r (fun hc=>(bD eJ r))<|og r r r (fun hc=>(aK (v:=aL) iF (gx r hc) r r)) ?_
    refine og r r r (fun hc=>(dI nH (cC (gx r hc))))<|og r r r (fun hc=>(fI (gx r hc) r))<|aM r (bY r r r (fun e=>eO e))<|mB r<|og r r r (fun hc=>(bD eJ r))<|og r r r (fun hc=>(aK (v:=aL) iF (gx r hc) r r)) ?_
    obtain ⟨x14,hx14,h15⟩:=aE h13
    refine og r r r (fun hc=>(gR (cs:=[PV.int _ _,PV.int _ _,PV.str _,PV.ls _ _ _,PV.ls _ _ _]) mP (cC (gx r hc)) r (cA hx14 hc) (cE _)))<|og r r r (fun hc=>(rJ gW (gx r hc)))<|og r r r (fun hc=>(eG (p:=PV.int _ _) eP (gx r hc) r))<|og r r r (fun hc=>(fI (gx r hc) r))<|aM r (bY r r r (fun e=>eO e))<|mB r<|og r r r (fun hc=>(bD eJ r))<|og r r r (fun hc=>(aK (v:=aL) iF (gx r hc) r r)) ?_
    obtain ⟨x16,hx16,h17⟩:=aE h15
    refine og r r r (fun hc=>(gR (cs:=[PV.int _ _,PV.int _ _,PV.str _,PV.ls _ _ _,PV.ls _ _ _]) mP (cC (gx r hc)) r (cA hx16 hc) (cE _)))<|og r r r (fun hc=>(rJ lT (gx r hc)))<|og r r r (fun hc=>(eG (p:=PV.str _) kD (gx r hc) r)) ?_
    obtain ⟨x18,hx18,h19⟩:=aE h17
    refine sM r r (fun hc=>aX (v:=aB) r (qT (cA hx18 hc)) ⟨(eH (gx r hc) lr),trivial⟩ (fA (by repeat (first | exact dX | refine aY r ?_ | refine aY (oS r) ?_ | refine aY oR ?_))) r r) ?_
    refine og r r r (fun hc=>(eI (gx r hc)))<|aM r (bY r r r (fun e=>eO e))<|aF (fr':=[(26,aL),(27,aI),(28,aI),(57,aB)]) r r<|bP h19 r (fun hb20 h20=>?_) (fun hb20 h20=>?_)
    ·
     refine aH<|sB r<|aF (fr':=[(2,aB)]) r r<|bC<|bA<|aJ<|aJ<|bA<|aJ<|aJ ?_
     have h21:=cS h20 ho10
     have h22:=dQ h21 h8
     obtain rfl:=sy h22
     exact bB (rs':=[.tmp 2]) r<|bH (v:=aB) r<|aZ<|aN [] r r r lr aA
    ·
     exact aW<|bX<|bV<|aQ<|aM r (dB r r)<|mI r<|cB (fr':=[(26,aL),(27,aI),(28,aI),(57,aB)]) r<|rX _ (sy h20) (aU [] 1 r r r r ⟨lr,lr,lr,trivial⟩ (bW r aA))
   ·
    refine eK<|bR<|bR<|dC ?_
    have h24:=cS h11 ho10
    exact gD _ (sy h24) (aU [] 1 r r r r trivial (bW r aA))
  ·
   intro j9 hj25
   have h25:=iC hj25 h8
   refine bV<|aH<|sB r<|aF (fr':=[(2,aB)]) r r<|bC ?_
   obtain rfl:=sy h25
   exact bB (rs':=[.tmp 2]) r<|bH (v:=aB) r<|aZ<|aN [] r r r lr aA
end Go.Proofs.YtnigjppddilpcaaGreatDoor
