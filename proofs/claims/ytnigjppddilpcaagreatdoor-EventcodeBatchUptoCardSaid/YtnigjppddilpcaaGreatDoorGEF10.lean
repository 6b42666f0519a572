import Derived.Test.YtnigjppddilpcaaGreatDoorGETy
import Derived.Test.YtnigjppddilpcaaGreatDoorGEF0
import Derived.Test.YtnigjppddilpcaaGreatDoorGEF4
import Derived.Test.YtnigjppddilpcaaGreatDoorGEF6
import Derived.Test.YtnigjppddilpcaaGreatDoorGEF7
import Derived.Test.YtnigjppddilpcaaGreatDoorGEF8
import Derived.Test.YtnigjppddilpcaaGreatDoorGEF9
namespace Go.Proofs.YtnigjppddilpcaaGreatDoor
open Go Abs
set_option maxRecDepth 100000
set_option linter.unusedVariables false
set_option linter.unusedSimpArgs false
noncomputable def rU (p0e:bI):Option cW :=
 (oO p0e.Kind).bind fun x1=>some (cW.mk x1 p0e.Seq p0e.Name p0e.Key p0e.N p0e.Data p0e.Opts)
theorem aC3 {p0e:bI}{res:cW} (h:rU p0e=some res):bS Tryz.prog 85 [.agg (AV.cs (cD p0e))] [] (.agg (AV.cs (jO res))) []:=by
 unfold rU at h
 refine cJ (fn:=Tryz.f85) [0,1,2] (by kernel_rfl) Tryz.func85 r (by kernel_rfl) (by kernel_rfl)<|aH<|fS (v:=.agg aD) (n:=0) (cs:=aD) (σ':=[aD]) r r r r r<|gC (n:=1) (cs:=cT) (σ':=[aD,cT]) aLr r r r<|aF (fr':=[(1,.box 0 0),(2,.box 1 0)]) r r<|aP<|hF [.q 0,.q 1,.q 2,.q 3,.q 4,.q 5,.q 6,.q 7,.q 8,.q 9,.q 10,.q 11,.q 12,.q 13,.q 14,.q 15,.n 16 []] [(some 3,[1]),(some 4,[3]),(some 5,[4]),(some 6,[1]),(some 7,[6]),(some 8,[1]),(some 9,[8]),(some 10,[1]),(some 11,[10]),(some 12,[1]),(some 13,[12]),(some 14,[1]),(some 15,[14]),(some 16,[1]),(some 17,[16]),(some 18,[5,7,9,11,13,15,17]),(none,[2,18])] [0,1,3,0,8,0,32,0,128,0,512,0,2048,0,8192,32767,65535] (by kernel_rfl)<|dq r r (bD tU r)<|dq r r (aK (v:=aI) eP r r r) ?_
 obtain ⟨x1,hx1,h2⟩:=aE h
 refine d_q r (pD (v:=aI) r (aAn hx1) ⟨lr,trivial⟩ r)<|dq r r (bD xE r)<|dq r r (aK (v:=aI) eP r r r)<|dq r r (bD oW r)<|dq r r (aK (v:=aS) kD r r r)<|dq r r (bD oX r)<|dq r r (aK (v:=aS) kD r r r)<|dq r r (bD sC r)<|dq r r (aK (v:=aI) eP r r r)<|dq r r (bD tV r)<|dq r r (cN (us:=bL) fM r r r r)<|dq r r (bD rW r)<|dq r r (cN (us:=bZ) wH r r r r) ?_
 refine dq r r (pU (c0:=cT) (cs:=aV) aNF r (iA (v:=aI) (us:=[_]) (cs':=u20) r r r r r r (iA (v:=aI) (us:=[_]) (cs':=u20) r r r r r r (iA (v:=aS) (us:=[_]) (cs':=u20) r r r r r r (iA (v:=aS) (us:=[_]) (cs':=u20) r r r r r r (iA (v:=aI) (us:=[_]) (cs':=u20) r r r r r r (iA (v:=.agg bL) (us:=u5) (cs':=u20) r r r r r r (iA (v:=.agg bZ) (us:=u10) (cs':=u20) r r r r r r pR))))))))<|d_n r ?_ r
 refine bU (v:=.agg aV) (us:=aV) (cs:=cT) (σ':=[aD,aV]) r yU r r r r r r r r<|aCI<|⟨tD,?_⟩
 refine uE (fr':=[(2,.box 1 0)]) r r<|bC ?_
 obtain rfl:=sy h2
 exact bB (rs':=[.cell 2 103]) r<|cZ (us:=aV) (cs:=aV) yU r r r r<|aZ<|aN [] r r r (bK r ⟨r,r,r,r,r,r,r,r,r,r,r,r,r,r,r,r,r,r,r,r,trivial⟩) aA
noncomputable def aAP (p0s:(List UInt8)) (s4:Int):Option (cI Int (Fl Bool Unit)) :=
 cond (decide (s4<((p0s).length:Int))) ((hG p0s s4).bind fun x6=>(gd ((decide (((x6).toNat:Int)<(33:Int)))==false) (hG p0s s4)).bind fun x8=>(gd ((cond (decide (((x6).toNat:Int)<(33:Int))) true (decide ((126:Int)<((x8).toNat:Int))))==false) (hG p0s s4)).bind fun x10=>(gd ((cond (cond (decide (((x6).toNat:Int)<(33:Int))) true (decide ((126:Int)<((x8).toNat:Int)))) true (decide (((x10).toNat:Int)=(47:Int))))==false) (hG p0s s4)).bind fun x12=>cond (cond (cond (cond (decide (((x6).toNat:Int)<(33:Int))) true (decide ((126:Int)<((x8).toNat:Int)))) true (decide (((x10).toNat:Int)=(47:Int)))) true (decide (((x12).toNat:Int)=(34:Int)))) (some (cI.out (Fl.done false))) (some (cI.next (IntKind.wrap .i64 (s4+(1:Int)))))) (some (cI.out (Fl.go ())))
noncomputable def pZ (p0s:(List UInt8)):Option Bool :=
 ((dR (aAP p0s) ((0:Int))):Option (Fl Bool Unit)).bind fun x1=>Fl.next x1 (fun j3=>(some (cond (decide ((1:Int)≤((p0s).length:Int))) (decide (((p0s).length:Int)≤(64:Int))) false)))
theorem yH {p0s:(List UInt8)}{res:Bool} (h:pZ p0s=some res):bS Tryz.prog 87 [.c (.str p0s)] [] (.c (.bool res)) []:=by
 unfold pZ at h
 refine cJ (fn:=Tryz.f87) [0,2,3,7,31] (by kernel_rfl) Tryz.func87 r (by kernel_rfl) (by kernel_rfl)<|aH<|sB r<|aF (fr':=[(0,aS)]) r r<|aP<|aH<|sI r<|aF (fr':=[(0,aS),(3,aI)]) r r ?_
 obtain ⟨x1,hx1,h2⟩:=aE h
 refine eB gF (fun j3=>x1=Fl.go j3) (fun (j3:Unit)=>([(0,.c (.str p0s))]:Fr)) (fun (j3:Unit)=>([]:St)) ?_ ?_
 ·
  refine bJ<|dV _ (fun (s4:Int)=>([(0,.c (.str p0s)),(3,ci s4)]:Fr)) (fun (s4:Int)=>([]:St)) hx1 (aU [] 0 r r r r ⟨lr,lr,trivial⟩ aA) ?_
  intro s4 st4 hs4 ho4
  unfold aAP at hs4
  refine aP<|aH<|mI r<|mS r<|aM r (gL pJ r)<|aM r (dJ r r)<|aF (fr':=[(0,aS),(3,aI),(7,aB)]) r r<|bP hs4 r (fun hb5 h5=>?_) (fun hb5 h5=>?_)
  ·
   refine aW<|bV<|aP<|bJ<|aH<|mS r<|mI r ?_
   obtain ⟨x6,hx6,h7⟩:=aE h5
   refine aM r (wE pJ r r hx6)<|aM r (dJ r r)<|mB r<|og r r r (fun hc=>(bE (v:=aS) r))<|og r r r (fun hc=>(bE (v:=aI) r)) ?_
   obtain ⟨x8,hx8,h9⟩:=aE h7
   refine og r r r (fun hc=>(wE pJ (gx r hc) (gx r hc) (cA hx8 hc)))<|og r r r (fun hc=>(kA (gx r hc) r))<|aM r (bY r r r (fun e=>eO e))<|mB r<|og r r r (fun hc=>(bE (v:=aS) r))<|og r r r (fun hc=>(bE (v:=aI) r)) ?_
   obtain ⟨x10,hx10,h11⟩:=aE h9
   refine og r r r (fun hc=>(wE pJ (gx r hc) (gx r hc) (cA hx10 hc)))<|og r r r (fun hc=>(bM (gx r hc) r))<|aM r (bY r r r (fun e=>eO e))<|mB r<|og r r r (fun hc=>(bE (v:=aS) r))<|og r r r (fun hc=>(bE (v:=aI) r)) ?_
   obtain ⟨x12,hx12,h13⟩:=aE h11
   refine og r r r (fun hc=>(wE pJ (gx r hc) (gx r hc) (cA hx12 hc)))<|og r r r (fun hc=>(bM (gx r hc) r))<|aM r (bY r r r (fun e=>eO e))<|aF (fr':=[(0,aS),(3,aI),(31,aB)]) r r<|bP h13 r (fun hb14 h14=>?_) (fun hb14 h14=>?_)
   ·
    refine aH<|sB r<|aF (fr':=[(2,aB)]) r r<|bC<|bA<|aJ<|aJ<|bA<|aJ<|aJ ?_
    have h15:=cS h14 ho4
    have h16:=dQ h15 h2
    obtain rfl:=sy h16
    exact bB (rs':=[.tmp 2]) r<|bH (v:=aB) r<|aZ<|aN [] r r r lr aA
   ·
    exact aW<|bX<|bV<|aQ<|mI r<|aM r (dB r r)<|sI r<|cB (fr':=[(0,aS),(3,aI),(31,aB)]) r<|rX _ (sy h14) (aU [] 0 r r r r ⟨lr,lr,trivial⟩ aA)
  ·
   refine eK<|bR<|bR<|dC ?_
   have h18:=cS h5 ho4
   exact gD _ (sy h18) (aU [] 0 r r r r ⟨lr,trivial⟩ aA)
 ·
  intro j3 hj19
  have h19:=iC hj19 h2
  refine bV<|aH<|mS r<|aM r (gL pJ r)<|aM r (nM r r)<|mB r<|og r r r (fun hc=>(bE (v:=aS) r))<|og r r r (fun hc=>(gL pJ (gx r hc)))<|og r r r (fun hc=>(nD (gx r hc) r))<|aM r (bO r r r (fun e=>eO e))<|sB r<|aF (fr':=[(2,aB)]) r r ?_
  refine bC ?_
  obtain rfl:=sy h19
  exact bB (rs':=[.tmp 2]) r<|bH (v:=aB) r<|aZ<|aN [] r r r lr aA
noncomputable def qB (x7:aC) (s12:Int):Option (cI Int (Fl Bool Unit)) :=
 cond (decide (s12<((x7.Items).length:Int))) ((hG x7.Items s12).bind fun x14=>(gd ((!decide (x14.Kind=(4:Int)))==false) (hG x7.Items s12)).bind fun x16=>(gd ((cond (!decide (x14.Kind=(4:Int))) true (!decide (((x16.Items).length:Int)=(2:Int))))==false) (hG x7.Items s12)).bind fun x18=>(gd ((cond (!decide (x14.Kind=(4:Int))) true (!decide (((x16.Items).length:Int)=(2:Int))))==false) (hG x18.Items (0:Int))).bind fun x20=>(gd ((cond (cond (!decide (x14.Kind=(4:Int))) true (!decide (((x16.Items).length:Int)=(2:Int)))) true (!decide (x20.Kind=(3:Int))))==false) (hG x7.Items s12)).bind fun x22=>(gd ((cond (cond (!decide (x14.Kind=(4:Int))) true (!decide (((x16.Items).length:Int)=(2:Int)))) true (!decide (x20.Kind=(3:Int))))==false) (hG x22.Items (0:Int))).bind fun x24=>(gd ((cond (cond (!decide (x14.Kind=(4:Int))) true (!decide (((x16.Items).length:Int)=(2:Int)))) true (!decide (x20.Kind=(3:Int))))==false) (kV x24.Text)).bind fun x26=>cond (cond (cond (cond (!decide (x14.Kind=(4:Int))) true (!decide (((x16.Items).length:Int)=(2:Int)))) true (!decide (x20.Kind=(3:Int)))) true (!x26)) (some (cI.out (Fl.done false))) (some (cI.next (IntKind.wrap .i64 (s12+(1:Int)))))) (some (cI.out (Fl.go ())))
noncomputable def vN (p0v:aC):Option Bool :=
 (pV p0v).bind fun x1=>(gd ((cond (cond (!x1) true (!decide (p0v.Kind=(4:Int)))) true (!decide (((p0v.Items).length:Int)=(2:Int))))==false) (hG p0v.Items (1:Int))).bind fun x3=>cond (cond (cond (cond (!x1) true (!decide (p0v.Kind=(4:Int)))) true (!decide (((p0v.Items).length:Int)=(2:Int)))) true (!decide (x3.Kind=(4:Int)))) (some false) ((hG p0v.Items (1:Int)).bind fun x7=>((dR (qB x7) ((0:Int))):Option (Fl Bool Unit)).bind fun x9=>Fl.next x9 (fun j11=>(some true)))
theorem aGL {p0v:aC}{res:Bool} (h:vN p0v=some res):bS Tryz.prog 88 [.agg (AV.cs (cQ p0v))] [] (.c (.bool res)) []:=by
 unfold vN at h
 refine cJ (fn:=Tryz.f88) [0,1,2,3,4,26,35,75] (by kernel_rfl) Tryz.func88 r (by kernel_rfl) (by kernel_rfl)<|aH<|fS (v:=.agg bL) (n:=0) (cs:=bL) (σ':=[bL]) r r r r r<|sB r<|aF (fr':=[(1,.box 0 0)]) r r<|aP<|aH<|aM r (cN (us:=bL) fM r r r r) ?_
 obtain ⟨x1,hx1,h2⟩:=aE h
 refine gV (aX (v:=aB) r (yG hx1) ⟨(bK r ⟨r,r,r,r,r,trivial⟩),trivial⟩ r r r)<|aM r (eI r)<|mB r<|og r r r (fun hc=>(bD gW r))<|og r r r (fun hc=>(aK (v:=aI) eP (gx r hc) r r))<|og r r r (fun hc=>(fI (gx r hc) r))<|aM r (bY r r r (fun e=>eO e))<|mB r<|og r r r (fun hc=>(bD eJ r))<|og r r r (fun hc=>(aK (v:=aL) iF (gx r hc) r r))<|og r r r (fun hc=>(dI nH (cC (gx r hc))))<|og r r r (fun hc=>(fI (gx r hc) r))<|aM r (bY r r r (fun e=>eO e)) ?_
 refine mB r<|og r r r (fun hc=>(bD eJ r))<|og r r r (fun hc=>(aK (v:=aL) iF (gx r hc) r r)) ?_
 obtain ⟨x3,hx3,h4⟩:=aE h2
 refine og r r r (fun hc=>(gR (cs:=[PV.int _ _,PV.int _ _,PV.str _,PV.ls _ _ _,PV.ls _ _ _]) mP (cC (gx r hc)) r (cA hx3 hc) (cE _)))<|og r r r (fun hc=>(rJ gW (gx r hc)))<|og r r r (fun hc=>(eG (p:=PV.int _ _) eP (gx r hc) r))<|og r r r (fun hc=>(fI (gx r hc) r))<|aM r (bY r r r (fun e=>eO e))<|aF (fr':=[(1,.box 0 0),(26,aB)]) r r<|bP h4 r (fun hb5 h5=>?_) (fun hb5 h5=>?_)
 ·
  refine aH<|sB r<|aF (fr':=[(2,aB)]) r r<|bC<|aJ ?_
  obtain rfl:=sy h5
  exact bB (rs':=[.tmp 2]) r<|bH (v:=aB) r<|aZ<|aN [] r r r lr aA
 ·
  refine aW<|bV<|aH<|aM r (bD eJ r)<|aM r (aK (v:=aL) iF r r r) ?_
  obtain ⟨x7,hx7,h8⟩:=aE h5
  refine aM r (gR (cs:=[PV.int _ _,PV.int _ _,PV.str _,PV.ls _ _ _,PV.ls _ _ _]) mP (cC r) r hx7 (cE _))<|aM r (rJ eJ r)<|aM r (eG (p:=PV.ls _ _ _) iF r r)<|sL r<|aF (fr':=[(3,aL)]) r r<|aP<|aH<|sI r<|aF (fr':=[(3,aL),(4,aI)]) r r ?_
  obtain ⟨x9,hx9,h10⟩:=aE h8
  refine eB gF (fun j11=>x9=Fl.go j11) (fun (j11:Unit)=>([]:Fr)) (fun (j11:Unit)=>([[ci p0v.Kind,ci p0v.Int,.c (.str p0v.Text),.c (PV.ls 5 bF p0v.Items),.c (PV.ls 1 eA p0v.Keys)]]:St)) ?_ ?_
  ·
   refine bJ<|dV _ (fun (s12:Int)=>([(3,.c (PV.ls 5 bF x7.Items)),(4,ci s12)]:Fr)) (fun (s12:Int)=>([[ci p0v.Kind,ci p0v.Int,.c (.str p0v.Text),.c (PV.ls 5 bF p0v.Items),.c (PV.ls 1 eA p0v.Keys)]]:St)) hx9 (aU [] 1 r r r r ⟨lr,lr,trivial⟩ (bW r aA)) ?_
   intro s12 st12 hs12 ho12
   unfold qB at hs12
   refine aP<|aH<|mI r<|mL r<|aM r (dI nH (cC r))<|aM r (dJ r r)<|aF (fr':=[(3,aL),(4,aI),(35,aB)]) r r<|bP hs12 r (fun hb13 h13=>?_) (fun hb13 h13=>?_)
   ·
    refine aW<|bV<|aP<|bJ<|aH<|mL r<|mI r ?_
    obtain ⟨x14,hx14,h15⟩:=aE h13
    refine aM r (gR (cs:=[PV.int _ _,PV.int _ _,PV.str _,PV.ls _ _ _,PV.ls _ _ _]) mP (cC r) r hx14 (cE _))<|aM r (rJ gW r)<|aM r (eG (p:=PV.int _ _) eP r r)<|aM r (fI r r)<|mB r<|og r r r (fun hc=>(bE (v:=aL) r))<|og r r r (fun hc=>(bE (v:=aI) r)) ?_
    obtain ⟨x16,hx16,h17⟩:=aE h15
    refine og r r r (fun hc=>(gR (cs:=[PV.int _ _,PV.int _ _,PV.str _,PV.ls _ _ _,PV.ls _ _ _]) mP (cC (gx r hc)) (gx r hc) (cA hx16 hc) (cE _)))<|og r r r (fun hc=>(rJ eJ (gx r hc)))<|og r r r (fun hc=>(eG (p:=PV.ls _ _ _) iF (gx r hc) r))<|og r r r (fun hc=>(dI nH (cC (gx r hc))))<|og r r r (fun hc=>(fI (gx r hc) r))<|aM r (bY r r r (fun e=>eO e))<|mB r<|og r r r (fun hc=>(bE (v:=aL) r))<|og r r r (fun hc=>(bE (v:=aI) r)) ?_
    obtain ⟨x18,hx18,h19⟩:=aE h17
    refine og r r r (fun hc=>(gR (cs:=[PV.int _ _,PV.int _ _,PV.str _,PV.ls _ _ _,PV.ls _ _ _]) mP (cC (gx r hc)) (gx r hc) (cA hx18 hc) (cE _)))<|og r r r (fun hc=>(rJ eJ (gx r hc)))<|og r r r (fun hc=>(eG (p:=PV.ls _ _ _) iF (gx r hc) r)) ?_
    obtain ⟨x20,hx20,h21⟩:=aE h19
    refine og r r r (fun hc=>(gR (cs:=[PV.int _ _,PV.int _ _,PV.str _,PV.ls _ _ _,PV.ls _ _ _]) mP (cC (gx r hc)) r (cA hx20 hc) (cE _)))<|og r r r (fun hc=>(rJ gW (gx r hc)))<|og r r r (fun hc=>(eG (p:=PV.int _ _) eP (gx r hc) r))<|og r r r (fun hc=>(fI (gx r hc) r))<|aM r (bY r r r (fun e=>eO e))<|mB r<|og r r r (fun hc=>(bE (v:=aL) r))<|og r r r (fun hc=>(bE (v:=aI) r)) ?_
    obtain ⟨x22,hx22,h23⟩:=aE h21
    refine og r r r (fun hc=>(gR (cs:=[PV.int _ _,PV.int _ _,PV.str _,PV.ls _ _ _,PV.ls _ _ _]) mP (cC (gx r hc)) (gx r hc) (cA hx22 hc) (cE _)))<|og r r r (fun hc=>(rJ eJ (gx r hc)))<|og r r r (fun hc=>(eG (p:=PV.ls _ _ _) iF (gx r hc) r)) ?_
    obtain ⟨x24,hx24,h25⟩:=aE h23
    refine og r r r (fun hc=>(gR (cs:=[PV.int _ _,PV.int _ _,PV.str _,PV.ls _ _ _,PV.ls _ _ _]) mP (cC (gx r hc)) r (cA hx24 hc) (cE _)))<|og r r r (fun hc=>(rJ lT (gx r hc)))<|og r r r (fun hc=>(eG (p:=PV.str _) kD (gx r hc) r)) ?_
    obtain ⟨x26,hx26,h27⟩:=aE h25
    refine sM r r (fun hc=>aX (v:=aB) r (oP (cA hx26 hc)) ⟨(eH (gx r hc) lr),trivial⟩ (fA (by repeat (first | exact dX | refine aY r ?_ | refine aY (oS r) ?_ | refine aY oR ?_))) r r) ?_
    refine og r r r (fun hc=>(eI (gx r hc)))<|aM r (bY r r r (fun e=>eO e))<|aF (fr':=[(3,aL),(4,aI),(75,aB)]) r r<|bP h27 r (fun hb28 h28=>?_) (fun hb28 h28=>?_)
    ·
     refine aH<|sB r<|aF (fr':=[(2,aB)]) r r<|bC<|bA<|aJ<|aJ<|bA<|aJ<|aJ ?_
     have h29:=cS h28 ho12
     have h30:=dQ h29 h10
     obtain rfl:=sy h30
     exact bB (rs':=[.tmp 2]) r<|bH (v:=aB) r<|aZ<|aN [] r r r lr aA
    ·
     exact aW<|bX<|bV<|aQ<|mI r<|aM r (dB r r)<|sI r<|cB (fr':=[(3,aL),(4,aI),(75,aB)]) r<|rX _ (sy h28) (aU [] 1 r r r r ⟨lr,lr,trivial⟩ (bW r aA))
   ·
    refine eK<|bR<|bR<|dC ?_
    have h32:=cS h13 ho12
    exact gD _ (sy h32) (aU [] 1 r r r r trivial (bW r aA))
  ·
   intro j11 hj33
   have h33:=iC hj33 h10
   refine bV<|aH<|sB r<|aF (fr':=[(2,aB)]) r r<|bC ?_
   obtain rfl:=sy h33
   exact bB (rs':=[.tmp 2]) r<|bH (v:=aB) r<|aZ<|aN [] r r r lr aA
noncomputable def gK:Nat→Int→Option (List UInt8)
 | 0,_=>none
 | n+1,p0n =>
  (lF (IntKind.wrap .u8 (IntKind.wrap .i64 ((48:Int)+(IntKind.wrap .i64 (0 - (Int.tmod p0n (10:Int)))))))).bind fun x1=>cond (decide ((-10:Int)<p0n)) (some ([x1]:List UInt8)) (((gK n) (IntKind.wrap .i64 (Int.tdiv p0n (10:Int)))).bind fun x5=>(cat x5 ([x1]:List UInt8)).bind fun x7=>some (x5++([x1]:List UInt8)))
theorem aEj:∀ n:Nat,(∀ {p0n:Int}{res:(List UInt8)},gK n p0n=some res→bS Tryz.prog 207 [ci p0n] [] (.c (.str res)) []):=by
 intro n
 induction n with
 | zero=>exact fun {p0n res} h=>absurd h (by simp [gK])
 | succ n ih =>
  have ih_ref03xdigits:=@ih
  intro p0n res h
  rw [gK] at h
  refine cJ (fn:=Tryz.f207) [0,2,3,4,14] (by kernel_rfl) Tryz.func207 r (by kernel_rfl) (by kernel_rfl)<|aH<|sS r<|aF (fr':=[(0,aI)]) r r<|aH<|mI r<|aM r (aG7 r r (by decide))<|aM r (aLe r)<|sI r<|aF (fr':=[(0,aI),(3,aI)]) r r<|aP ?_
  refine aQ<|mI r<|aM r (dB r r)<|aM r (kL tk3 tk5 r) ?_
  obtain ⟨x1,hx1,h2⟩:=aE h
  refine kT (row:=dF) (xs:=([x1]:List UInt8)) (rows:=[[_]]) (σ':=[]) [0] pK r r r (cM (uN hx1) gY) r r<|aM r (aI8 aPH pJ (lG r))<|sS r<|aF (fr':=[(0,aI),(4,aS)]) r r<|aP<|aH<|mI r<|aM r (kA r r)<|aF (fr':=[(0,aI),(4,aS),(14,aB)]) r r<|bP h2 r (fun hb3 h3=>?_) (fun hb3 h3=>?_)
  ·
   refine aH<|mS r<|sS r<|aF (fr':=[(2,aS)]) r r<|bC<|aJ ?_
   obtain rfl:=sy h3
   exact bB (rs':=[.tmp 2]) r<|bH (v:=aS) r<|aZ<|aN [] r r r lr aA
  ·
   refine aW<|bV<|aH<|mI r<|aM r (aDW r r (by decide)) ?_
   obtain ⟨x5,hx5,h6⟩:=aE h3
   refine gV (aX (v:=aS) r (ih_ref03xdigits hx5) ⟨lr,trivial⟩ r r r)<|mS r ?_
   obtain ⟨x7,hx7,h8⟩:=aE h6
   refine aM r (aKq r r (aEV hx7).1)<|sS r<|aF (fr':=[(2,aS)]) r r<|bC ?_
   obtain rfl:=sy h8
   exact bB (rs':=[.tmp 2]) r<|bH (v:=aS) r<|aZ<|aN [] r r r lr aA
noncomputable def qQ (p0n:Int):Option (List UInt8):=lim fun n=>gK n p0n
theorem aA6 {p0n:Int}{res:(List UInt8)} (h:qQ p0n=some res):bS Tryz.prog 207 [ci p0n] [] (.c (.str res)) []:=by
 obtain ⟨n,hn⟩:=jZ h
 exact (aEj n) hn
noncomputable def uW (p0n:Int):Option (List UInt8) :=
 cond (decide (p0n<(0:Int))) ((qQ p0n).bind fun x2=>(cat ([45]:List UInt8) x2).bind fun x4=>some (([45]:List UInt8)++x2)) ((qQ (IntKind.wrap .i64 (0 - p0n))).bind fun x7=>some x7)
theorem aEo {p0n:Int}{res:(List UInt8)} (h:uW p0n=some res):bS Tryz.prog 190 [ci p0n] [] (.c (.str res)) []:=by
 unfold uW at h
 refine cJ (fn:=Tryz.f190) [0,2,4] (by kernel_rfl) Tryz.func190 r (by kernel_rfl) (by kernel_rfl)<|aH<|sS r<|aF (fr':=[(0,aI)]) r r<|aP<|aH<|mI r<|aM r (dJ r r)<|aF (fr':=[(0,aI),(4,aB)]) r r<|bP h r (fun hb1 h1=>?_) (fun hb1 h1=>?_)
 ·
  refine aH<|mI r ?_
  obtain ⟨x2,hx2,h3⟩:=aE h1
  refine gV (aX (v:=aS) r (aA6 hx2) ⟨lr,trivial⟩ r r r) ?_
  obtain ⟨x4,hx4,h5⟩:=aE h3
  refine aM r (aKq r r (aEV hx4).1)<|sS r<|aF (fr':=[(2,aS)]) r r<|bC<|aJ ?_
  obtain rfl:=sy h5
  exact bB (rs':=[.tmp 2]) r<|bH (v:=aS) r<|aZ<|aN [] r r r lr aA
 ·
  refine aW<|bV<|aH<|mI r<|aM r (aLe r) ?_
  obtain ⟨x7,hx7,h8⟩:=aE h1
  refine gV (aX (v:=aS) r (aA6 hx7) ⟨lr,trivial⟩ r r r)<|sS r<|aF (fr':=[(2,aS)]) r r<|bC ?_
  obtain rfl:=sy h8
  exact bB (rs':=[.tmp 2]) r<|bH (v:=aS) r<|aZ<|aN [] r r r lr aA
noncomputable def yR (p0n:Int):Option (List UInt8) :=
 cond (decide (p0n<(1:Int))) (some ([]:List UInt8)) ((uW p0n).bind fun x3=>(cat ([114]:List UInt8) x3).bind fun x5=>some (([114]:List UInt8)++x3))
theorem aJJ {p0n:Int}{res:(List UInt8)} (h:yR p0n=some res):bS Tryz.prog 159 [ci p0n] [] (.c (.str res)) []:=by
 unfold yR at h
 refine cJ (fn:=Tryz.f159) [0,2,4] (by kernel_rfl) Tryz.func159 r (by kernel_rfl) (by kernel_rfl)<|aH<|sS r<|aF (fr':=[(0,aI)]) r r<|aP<|aH<|mI r<|aM r (dJ r r)<|aF (fr':=[(0,aI),(4,aB)]) r r<|bP h r (fun hb1 h1=>?_) (fun hb1 h1=>?_)
 ·
  refine aH<|sS r<|aF (fr':=[(2,aS)]) r r<|bC<|aJ ?_
  obtain rfl:=sy h1
  exact bB (rs':=[.tmp 2]) r<|bH (v:=aS) r<|aZ<|aN [] r r r lr aA
 ·
  refine aW<|bV<|aH<|mI r ?_
  obtain ⟨x3,hx3,h4⟩:=aE h1
  refine gV (aX (v:=aS) r (aEo hx3) ⟨lr,trivial⟩ r r r) ?_
  obtain ⟨x5,hx5,h6⟩:=aE h4
  refine aM r (aKq r r (aEV hx5).1)<|sS r<|aF (fr':=[(2,aS)]) r r<|bC ?_
  obtain rfl:=sy h6
  exact bB (rs':=[.tmp 2]) r<|bH (v:=aS) r<|aZ<|aN [] r r r lr aA
noncomputable def rT (vH:(List UInt8)) (s4:(Int × Int)):Option (cI (Int × Int) Int) :=
 cond (cond (decide (s4.2<((vH).length:Int))) (decide (((vH).length:Int)≤(20:Int))) false) ((hG vH s4.2).bind fun x6=>some (cI.next ((IntKind.wrap .i64 ((IntKind.wrap .i64 ((IntKind.wrap .i64 ((10:Int)*s4.1))+(IntKind.wrap .i64 ((x6).toNat:Int)))) - (48:Int))),(IntKind.wrap .i64 (s4.2+(1:Int)))))) (some (cI.out s4.1))
noncomputable def tL (vH:(List UInt8)):Option (Int × Bool) :=
 ((dR (rT vH) (((0:Int),(1:Int)))):Option Int).bind fun x1=>((gd ((decide (x1<(1:Int)))==false) (yR x1)).bind fun x10=>cond (cond (decide (x1<(1:Int))) true (!decide (x10=vH))) (some ((0:Int),false)) (some (x1,true)))
theorem aF6 {vH:(List UInt8)}{res:(Int × Bool)} (h:tL vH=some res):bS Tryz.prog 89 [.c (.str vH)] [] (.tup [ci res.1,.c (.bool res.2)]) []:=by
 unfold tL at h
 refine cJ (fn:=Tryz.f89) [0,2,3,4,5,14,32] (by kernel_rfl) Tryz.func89 r (by kernel_rfl) (by kernel_rfl)<|aH<|sI r<|sB r<|aF (fr':=[(0,aS)]) r r<|aH<|sI r<|aF (fr':=[(0,aS),(4,aI)]) r r<|aP<|aP<|aQ ?_
 refine sI r<|aF (fr':=[(0,aS),(4,aI),(5,aI)]) r r ?_
 obtain ⟨x1,hx1,h2⟩:=aE h
 refine eB gF (fun j3=>x1=j3) (fun (j3:Int)=>([(0,.c (.str vH)),(4,ci j3)]:Fr)) (fun (j3:Int)=>([]:St)) ?_ ?_
 ·
  refine bJ<|dV _ (fun (s4:(Int × Int))=>([(0,.c (.str vH)),(4,ci s4.1),(5,ci s4.2)]:Fr)) (fun (s4:(Int × Int))=>([]:St)) hx1 (aU [] 0 r r r r ⟨lr,lr,lr,trivial⟩ aA) ?_
  intro s4 st4 hs4 ho4
  unfold rT at hs4
  refine aP<|aH<|mI r<|mS r<|aM r (gL pJ r)<|aM r (dJ r r)<|mB r<|og r r r (fun hc=>(bE (v:=aS) r))<|og r r r (fun hc=>(gL pJ (gx r hc)))<|og r r r (fun hc=>(nD (gx r hc) r))<|aM r (bO r r r (fun e=>eO e))<|aF (fr':=[(0,aS),(4,aI),(5,aI),(14,aB)]) r r ?_
  refine bP hs4 r (fun hb5 h5=>?_) (fun hb5 h5=>?_)
  ·
   refine aW<|bV<|aP<|bJ<|aQ<|mI r<|aM r (aI9 r r)<|mS r<|mI r ?_
   obtain ⟨x6,hx6,h7⟩:=aE h5
   refine aM r (wE pJ r r hx6)<|aM r (kL tk5 tk3 r)<|aM r (dB r r)<|aM r (aFr r r)<|sI r<|cB (fr':=[(0,aS),(4,aI),(5,aI),(14,aB)]) r<|bX<|bV<|aQ<|mI r<|aM r (dB r r)<|sI r<|cB (fr':=[(0,aS),(4,aI),(5,aI),(14,aB)]) r ?_
   exact rX _ (sy h7) (aU [] 0 r r r r ⟨lr,lr,lr,trivial⟩ aA)
  ·
   refine eK<|bR<|bR<|dC ?_
   have h8:=cS h5 ho4
   exact gD _ (sy h8) (aU [] 0 r r r r ⟨lr,lr,trivial⟩ aA)
 ·
  intro j3 hj9
  subst hj9
  refine bV<|aP<|aH<|mI r<|aM r (dJ r r)<|mB r<|og r r r (fun hc=>(bE (v:=aI) r)) ?_
  obtain ⟨x10,hx10,h11⟩:=aE h2
  refine sM r r (fun hc=>aX (v:=aS) r (aJJ (cA hx10 hc)) ⟨(eH (gx r hc) lr),trivial⟩ (fA (by repeat (first | exact dX | refine aY r ?_ | refine aY (oS r) ?_ | refine aY oR ?_))) r r) ?_
  refine og r r r (fun hc=>(bE (v:=aS) r))<|og r r r (fun hc=>(yC (gx r hc) (gx r hc)))<|aM r (bY r r r (fun e=>eO e))<|aF (fr':=[(4,aI),(32,aB)]) r r<|bP h11 r (fun hb12 h12=>?_) (fun hb12 h12=>?_)
  ·
   refine aH<|sI r<|sB r<|aF (fr':=[(2,aI),(3,aB)]) r r<|bC<|aJ ?_
   obtain rfl:=sy h12
   exact bB (rs':=[.tmp 2,.tmp 3]) r<|bH (v:=aI) r<|bH (v:=aB) r<|aZ<|aN [] r r r (rO r ⟨lr,lr,trivial⟩) aA
  ·
   refine aW<|bV<|aH<|mI r<|sI r<|sB r<|aF (fr':=[(2,aI),(3,aB)]) r r<|bC ?_
   obtain rfl:=sy h12
   exact bB (rs':=[.tmp 2,.tmp 3]) r<|bH (v:=aI) r<|bH (v:=aB) r<|aZ<|aN [] r r r (rO r ⟨lr,lr,trivial⟩) aA
noncomputable def qC (p0e:bI):Option Bool :=
 (nG p0e.Kind (1:Int) (35:Int)).bind fun x1=>(gd ((!x1)==false) (nG p0e.ID (0:Int) (2000:Int))).bind fun x3=>(gd ((cond (!x1) true (!x3))==false) (nG p0e.Time (0:Int) (1099511627776:Int))).bind fun x5=>(gd ((cond (cond (!x1) true (!x3)) true (!x5))==false) (xB p0e)).bind fun x7=>cond (cond (cond (cond (!x1) true (!x3)) true (!x5)) true (!x7)) (some false) ((oI p0e.Kind).bind fun x11=>cond x11 ((rU p0e).bind fun x14=>(vM x14).bind fun x16=>some x16) (cond (decide (p0e.Kind=(1:Int))) ((kV p0e.Name).bind fun x20=>(gd (x20==true) (pZ p0e.Key)).bind fun x22=>(gd ((cond x20 x22 false)==true) (vN p0e.Data)).bind fun x24=>(gd ((cond (cond x20 x22 false) x24 false)==true) (nG p0e.N (0:Int) (4294967295:Int))).bind fun x26=>some (cond (cond (cond x20 x22 false) x24 false) x26 false)) (cond (decide (p0e.Kind=(2:Int))) (some (decide ((1:Int)≤p0e.N))) (cond (decide (p0e.Kind=(5:Int))) ((nG p0e.Code (1:Int) (30:Int)).bind fun x32=>some x32) (cond (decide (p0e.Kind=(8:Int))) ((nG p0e.N (1:Int) (1000:Int)).bind fun x36=>some x36) (cond (decide (p0e.Kind=(11:Int))) ((nG p0e.Code (1:Int) (4:Int)).bind fun x40=>some x40) (((cond (decide (p0e.Kind=(10:Int))) (some (decide (p0e.Kind=(10:Int)))) (cond (decide (p0e.Kind=(22:Int))) (some (decide (p0e.Kind=(22:Int)))) (some (decide (p0e.Kind=(25:Int)))))):Option Bool).bind fun x43=>(cond x43 (some (decide (((p0e.Name).length:Int)≤(4096:Int)))) (cond (decide (p0e.Kind=(17:Int))) ((kV p0e.Name).bind fun x52=>(gd (x52==true) (pZ p0e.Key)).bind fun x54=>some (cond x52 x54 false)) (cond (decide (p0e.Kind=(20:Int))) ((tL p0e.Key).bind fun x58=>some x58.2) (cond (decide (p0e.Kind=(26:Int))) ((pZ p0e.Key).bind fun x62=>some x62) (cond (decide (p0e.Kind=(33:Int))) (some (decide (((p0e.Name).length:Int)≤(64:Int)))) (some true)))))))))))))
theorem aBM {p0e:bI}{res:Bool} (h:qC p0e=some res):bS Tryz.prog 33 [.agg (AV.cs (cD p0e))] [] (.c (.bool res)) []:=by
 unfold qC at h
 refine cJ (fn:=Tryz.f33) [0,1,2,4,25,28,33,34,54,59,64,69,74,82,92,101,106] (by kernel_rfl) Tryz.func33 r (by kernel_rfl) (by kernel_rfl)<|aH<|fS (v:=.agg aD) (n:=0) (cs:=aD) (σ':=[aD]) r r r r r<|sB r<|aF (fr':=[(1,.box 0 0)]) r r<|aP<|aH<|aM r (bD tU r)<|aM r (aK (v:=aI) eP r r r) ?_
 obtain ⟨x1,hx1,h2⟩:=aE h
 refine gV (aX (v:=aB) r (nY hx1) ⟨lr,lr,lr,trivial⟩ r r r)<|aM r (eI r)<|mB r<|og r r r (fun hc=>(bD aCg r))<|og r r r (fun hc=>(aK (v:=aI) eP (gx r hc) r r)) ?_
 obtain ⟨x3,hx3,h4⟩:=aE h2
 refine sM r r (fun hc=>aX (v:=aB) r (nY (cA hx3 hc)) ⟨(eH (gx r hc) lr),lr,lr,trivial⟩ (fA (by repeat (first | exact dX | refine aY r ?_ | refine aY (oS r) ?_ | refine aY oR ?_))) r r) ?_
 refine og r r r (fun hc=>(eI (gx r hc)))<|aM r (bY r r r (fun e=>eO e))<|mB r<|og r r r (fun hc=>(bD aCh r))<|og r r r (fun hc=>(aK (v:=aI) eP (gx r hc) r r)) ?_
 obtain ⟨x5,hx5,h6⟩:=aE h4
 refine sM r r (fun hc=>aX (v:=aB) r (nY (cA hx5 hc)) ⟨(eH (gx r hc) lr),lr,lr,trivial⟩ (fA (by repeat (first | exact dX | refine aY r ?_ | refine aY (oS r) ?_ | refine aY oR ?_))) r r) ?_
 refine og r r r (fun hc=>(eI (gx r hc)))<|aM r (bY r r r (fun e=>eO e))<|mB r<|og r r r (fun hc=>(cN (us:=aD) qF r r r r)) ?_
 obtain ⟨x7,hx7,h8⟩:=aE h6
 refine sM r r (fun hc=>aX (v:=aB) r (aIg (cA hx7 hc)) ⟨(eH (gx r hc) (bK r ⟨r,r,r,r,r,r,r,r,r,r,r,r,r,r,r,r,r,r,r,r,r,r,r,r,trivial⟩)),trivial⟩ (fA (by repeat (first | exact dX | refine aY r ?_ | refine aY (oS r) ?_ | refine aY oR ?_))) r r) ?_
 refine og r r r (fun hc=>(eI (gx r hc)))<|aM r (bY r r r (fun e=>eO e))<|aF (fr':=[(1,.box 0 0),(25,aB)]) r r<|bP h8 r (fun hb9 h9=>?_) (fun hb9 h9=>?_)
 ·
  refine aH<|sB r<|aF (fr':=[(2,aB)]) r r<|bC<|aJ ?_
  obtain rfl:=sy h9
  exact bB (rs':=[.tmp 2]) r<|bH (v:=aB) r<|aZ<|aN [] r r r lr aA
 ·
  refine aW<|bV<|aP<|aH<|aM r (bD tU r)<|aM r (aK (v:=aI) eP r r r) ?_
  obtain ⟨x11,hx11,h12⟩:=aE h9
  refine gV (aX (v:=aB) r (aC2 hx11) ⟨lr,trivial⟩ r r r)<|aF (fr':=[(1,.box 0 0),(28,aB)]) r r<|bP h12 r (fun hb13 h13=>?_) (fun hb13 h13=>?_)
  ·
   refine aH<|aM r (cN (us:=aD) qF r r r r) ?_
   obtain ⟨x14,hx14,h15⟩:=aE h13
   refine gV (aX (v:=.agg aV) r (aC3 hx14) ⟨(bK r ⟨r,r,r,r,r,r,r,r,r,r,r,r,r,r,r,r,r,r,r,r,r,r,r,r,trivial⟩),trivial⟩ r r r) ?_
   obtain ⟨x16,hx16,h17⟩:=aE h15
   refine gV (aX (v:=aB) r (aGK hx16) ⟨(bK r ⟨r,r,r,r,r,r,r,r,r,r,r,r,r,r,r,r,r,r,r,r,trivial⟩),trivial⟩ r r r)<|sB r<|aF (fr':=[(2,aB)]) r r<|bC<|aJ ?_
   obtain rfl:=sy h17
   exact bB (rs':=[.tmp 2]) r<|bH (v:=aB) r<|aZ<|aN [] r r r lr aA
  ·
   refine aW<|bV<|aP<|aH<|aM r (bD tU r)<|aM r (aK (v:=aI) eP r r r)<|aF (fr':=[(1,.box 0 0),(33,aI)]) r r<|bJ<|aH<|aM r (bM r r)<|sB r ?_
   refine aF (fr':=[(1,.box 0 0),(33,aI),(34,aB)]) r r<|bP h13 r (fun hb19 h19=>?_) (fun hb19 h19=>?_)
   ·
    refine aH<|aM r (bD oW r)<|aM r (aK (v:=aS) kD r r r) ?_
    obtain ⟨x20,hx20,h21⟩:=aE h19
    refine gV (aX (v:=aB) r (oP hx20) ⟨lr,trivial⟩ r r r)<|mB r<|og r r r (fun hc=>(bD oX r))<|og r r r (fun hc=>(aK (v:=aS) kD (gx r hc) r r)) ?_
    obtain ⟨x22,hx22,h23⟩:=aE h21
    refine sM r r (fun hc=>aX (v:=aB) r (yH (cA hx22 hc)) ⟨(eH (gx r hc) lr),trivial⟩ (fA (by repeat (first | exact dX | refine aY r ?_ | refine aY (oS r) ?_ | refine aY oR ?_))) r r) ?_
    refine aM r (bO r r r (fun e=>eO e))<|mB r<|og r r r (fun hc=>(bD tV r))<|og r r r (fun hc=>(cN (us:=bL) fM (gx r hc) r r r)) ?_
    obtain ⟨x24,hx24,h25⟩:=aE h23
    refine sM r r (fun hc=>aX (v:=aB) r (aGL (cA hx24 hc)) ⟨(eH (gx r hc) (bK r ⟨r,r,r,r,r,trivial⟩)),trivial⟩ (fA (by repeat (first | exact dX | refine aY r ?_ | refine aY (oS r) ?_ | refine aY oR ?_))) r r) ?_
    refine aM r (bO r r r (fun e=>eO e))<|mB r<|og r r r (fun hc=>(bD sC r))<|og r r r (fun hc=>(aK (v:=aI) eP (gx r hc) r r)) ?_
    obtain ⟨x26,hx26,h27⟩:=aE h25
    refine sM r r (fun hc=>aX (v:=aB) r (nY (cA hx26 hc)) ⟨(eH (gx r hc) lr),lr,lr,trivial⟩ (fA (by repeat (first | exact dX | refine aY r ?_ | refine aY (oS r) ?_ | refine aY oR ?_))) r r) ?_
    refine aM r (bO r r r (fun e=>eO e))<|sB r<|aF (fr':=[(2,aB)]) r r<|bC<|bA<|aJ ?_
    obtain rfl:=sy h27
    exact bB (rs':=[.tmp 2]) r<|bH (v:=aB) r<|aZ<|aN [] r r r lr aA
   ·
    refine aH<|aM r (bM r r)<|sB r<|aF (fr':=[(1,.box 0 0),(33,aI),(54,aB)]) r r<|bP h19 r (fun hb29 h29=>?_) (fun hb29 h29=>?_)
    ·
     refine aH<|aM r (bD sC r)<|aM r (aK (v:=aI) eP r r r)<|aM r (nM r r)<|sB r<|aF (fr':=[(2,aB)]) r r<|bC<|bA<|aJ ?_
     obtain rfl:=sy h29
     exact bB (rs':=[.tmp 2]) r<|bH (v:=aB) r<|aZ<|aN [] r r r lr aA
    ·
     refine aH<|aM r (bM r r)<|sB r<|aF (fr':=[(1,.box 0 0),(33,aI),(59,aB)]) r r<|bP h29 r (fun hb31 h31=>?_) (fun hb31 h31=>?_)
     ·
      refine aH<|aM r (bD vU r)<|aM r (aK (v:=aI) eP r r r) ?_
      obtain ⟨x32,hx32,h33⟩:=aE h31
      refine gV (aX (v:=aB) r (nY hx32) ⟨lr,lr,lr,trivial⟩ r r r)<|sB r<|aF (fr':=[(2,aB)]) r r<|bC<|bA<|aJ ?_
      obtain rfl:=sy h33
      exact bB (rs':=[.tmp 2]) r<|bH (v:=aB) r<|aZ<|aN [] r r r lr aA
     ·
      refine aH<|aM r (bM r r)<|sB r<|aF (fr':=[(1,.box 0 0),(33,aI),(64,aB)]) r r<|bP h31 r (fun hb35 h35=>?_) (fun hb35 h35=>?_)
      ·
       refine aH<|aM r (bD sC r)<|aM r (aK (v:=aI) eP r r r) ?_
       obtain ⟨x36,hx36,h37⟩:=aE h35
       refine gV (aX (v:=aB) r (nY hx36) ⟨lr,lr,lr,trivial⟩ r r r)<|sB r<|aF (fr':=[(2,aB)]) r r<|bC<|bA<|aJ ?_
       obtain rfl:=sy h37
       exact bB (rs':=[.tmp 2]) r<|bH (v:=aB) r<|aZ<|aN [] r r r lr aA
      ·
       refine aH<|aM r (bM r r)<|sB r<|aF (fr':=[(1,.box 0 0),(33,aI),(69,aB)]) r r<|bP h35 r (fun hb39 h39=>?_) (fun hb39 h39=>?_)
       ·
        refine aH<|aM r (bD vU r)<|aM r (aK (v:=aI) eP r r r) ?_
        obtain ⟨x40,hx40,h41⟩:=aE h39
        refine gV (aX (v:=aB) r (nY hx40) ⟨lr,lr,lr,trivial⟩ r r r)<|sB r<|aF (fr':=[(2,aB)]) r r<|bC<|bA<|aJ ?_
        obtain rfl:=sy h41
        exact bB (rs':=[.tmp 2]) r<|bH (v:=aB) r<|aZ<|aN [] r r r lr aA
       ·
        obtain ⟨x43,hx43,h44⟩:=aE h39
        refine fY (fun j45=>x43=j45) (fun (j45:Bool)=>([(1,.box 0 0),(33,ci p0e.Kind),(74,.c (.bool j45))]:Fr)) (fun (j45:Bool)=>([[ci p0e.ID,ci p0e.Kind,ci p0e.Time,ci p0e.Seq,ci p0e.Ref,ci p0e.N,ci p0e.Code,.c (.str p0e.Name),.c (.str p0e.Key),ci p0e.Data.Kind,ci p0e.Data.Int,.c (.str p0e.Data.Text),.c (PV.ls 5 bF p0e.Data.Items),.c (PV.ls 1 eA p0e.Data.Keys),.c (.str p0e.Opts.Queue),ci p0e.Opts.ToStart,ci p0e.Opts.ToClose,ci p0e.Opts.Total,ci p0e.Opts.Beat,ci p0e.Opts.First,ci p0e.Opts.Coef,ci p0e.Opts.Most,ci p0e.Opts.Attempts,.c (PV.ls 1 eA p0e.Opts.Fatal)]]:St)) ?_ ?_
        ·
         refine aH<|aM r (bM r r)<|sB r<|aF (fr':=[(1,.box 0 0),(33,aI),(74,aB)]) r r<|bP hx43 r (fun hb46 h46=>?_) (fun hb46 h46=>?_)
         ·
          exact aW<|gD _ (sy h46) (aU [] 1 r r r r ⟨lr,lr,lr,trivial⟩ (bW r aA))
         ·
          refine aH<|aM r (bM r r)<|sB r<|aF (fr':=[(1,.box 0 0),(33,aI),(74,aB)]) r r<|bP h46 r (fun hb47 h47=>?_) (fun hb47 h47=>?_)
          ·
           exact aW<|gD _ (sy h47) (aU [] 1 r r r r ⟨lr,lr,lr,trivial⟩ (bW r aA))
          ·
           exact aQ<|aM r (bM r r)<|sB r<|cB (fr':=[(1,.box 0 0),(33,aI),(74,aB)]) r<|gD _ (sy h47) (aU [] 1 r r r r ⟨lr,lr,lr,trivial⟩ (bW r aA))
        ·
         intro j45 hj48
         subst hj48
         refine bP h44 r (fun hb49 h49=>?_) (fun hb49 h49=>?_)
         ·
          refine aH<|aM r (bD oW r)<|aM r (aK (v:=aS) kD r r r)<|aM r (gL pJ r)<|aM r (nD r r)<|sB r<|aF (fr':=[(2,aB)]) r r<|bC<|bA<|aJ ?_
          obtain rfl:=sy h49
          exact bB (rs':=[.tmp 2]) r<|bH (v:=aB) r<|aZ<|aN [] r r r lr aA
         ·
          refine aH<|aM r (bM r r)<|sB r<|aF (fr':=[(1,.box 0 0),(33,aI),(82,aB)]) r r<|bP h49 r (fun hb51 h51=>?_) (fun hb51 h51=>?_)
          ·
           refine aH<|aM r (bD oW r)<|aM r (aK (v:=aS) kD r r r) ?_
           obtain ⟨x52,hx52,h53⟩:=aE h51
           refine gV (aX (v:=aB) r (oP hx52) ⟨lr,trivial⟩ r r r)<|mB r<|og r r r (fun hc=>(bD oX r))<|og r r r (fun hc=>(aK (v:=aS) kD (gx r hc) r r)) ?_
           obtain ⟨x54,hx54,h55⟩:=aE h53
           refine sM r r (fun hc=>aX (v:=aB) r (yH (cA hx54 hc)) ⟨(eH (gx r hc) lr),trivial⟩ (fA (by repeat (first | exact dX | refine aY r ?_ | refine aY (oS r) ?_ | refine aY oR ?_))) r r) ?_
           refine aM r (bO r r r (fun e=>eO e))<|sB r<|aF (fr':=[(2,aB)]) r r<|bC<|bA<|aJ ?_
           obtain rfl:=sy h55
           exact bB (rs':=[.tmp 2]) r<|bH (v:=aB) r<|aZ<|aN [] r r r lr aA
          ·
           refine aH<|aM r (bM r r)<|sB r<|aF (fr':=[(1,.box 0 0),(33,aI),(92,aB)]) r r<|bP h51 r (fun hb57 h57=>?_) (fun hb57 h57=>?_)
           ·
            refine aH<|aM r (bD oX r)<|aM r (aK (v:=aS) kD r r r) ?_
            obtain ⟨x58,hx58,h59⟩:=aE h57
            refine gV (aX (v:=.tup [aI,aB]) r (aF6 hx58) ⟨lr,trivial⟩ r r r)<|mV (v:=.tup [aI,aB]) r<|aM r (yO (v:=aI) r r)<|aM r (yO (v:=aB) r r)<|sI r<|sB r<|aF (fr':=[(4,aB)]) r r<|aH<|mB r<|sB r<|aF (fr':=[(2,aB)]) r r<|bC ?_
            refine bA<|aJ ?_
            obtain rfl:=sy h59
            exact bB (rs':=[.tmp 2]) r<|bH (v:=aB) r<|aZ<|aN [] r r r lr aA
           ·
            refine aH<|aM r (bM r r)<|sB r<|aF (fr':=[(1,.box 0 0),(33,aI),(101,aB)]) r r<|bP h57 r (fun hb61 h61=>?_) (fun hb61 h61=>?_)
            ·
             refine aH<|aM r (bD oX r)<|aM r (aK (v:=aS) kD r r r) ?_
             obtain ⟨x62,hx62,h63⟩:=aE h61
             refine gV (aX (v:=aB) r (yH hx62) ⟨lr,trivial⟩ r r r)<|sB r<|aF (fr':=[(2,aB)]) r r<|bC<|bA<|aJ ?_
             obtain rfl:=sy h63
             exact bB (rs':=[.tmp 2]) r<|bH (v:=aB) r<|aZ<|aN [] r r r lr aA
            ·
             refine aH<|aM r (bM r r)<|sB r<|aF (fr':=[(1,.box 0 0),(106,aB)]) r r<|bP h61 r (fun hb65 h65=>?_) (fun hb65 h65=>?_)
             ·
              refine aH<|aM r (bD oW r)<|aM r (aK (v:=aS) kD r r r)<|aM r (gL pJ r)<|aM r (nD r r)<|sB r<|aF (fr':=[(2,aB)]) r r<|bC<|bA<|aJ ?_
              obtain rfl:=sy h65
              exact bB (rs':=[.tmp 2]) r<|bH (v:=aB) r<|aZ<|aN [] r r r lr aA
             ·
              refine aW<|bX<|bV<|aH<|sB r<|aF (fr':=[(2,aB)]) r r<|bC ?_
              obtain rfl:=sy h65
              exact bB (rs':=[.tmp 2]) r<|bH (v:=aB) r<|aZ<|aN [] r r r lr aA
noncomputable def mC  (s11:(Int × Int)):Option (cI (Int × Int) Int) :=
 cond (decide (s11.2<(8:Int))) (cond (decide ((Int.tmod s11.1 (2:Int))=(1:Int))) (some (cI.next ((fV .xor .u32 (IntKind.wrap .u32 (Int.tdiv s11.1 (2:Int))) (3988292384:Int)),(IntKind.wrap .i64 (s11.2+(1:Int)))))) (some (cI.next ((IntKind.wrap .u32 (Int.tdiv s11.1 (2:Int))),(IntKind.wrap .i64 (s11.2+(1:Int))))))) (some (cI.out s11.1))
noncomputable def wF (p0b:(List UInt8)) (s4:(Int × Int)):Option (cI (Int × Int) Int) :=
 cond (decide (s4.2<((p0b).length:Int))) ((hG p0b s4.2).bind fun x6=>((dR (mC) (((fV .xor .u32 s4.1 (IntKind.wrap .u32 ((x6).toNat:Int))),(0:Int)))):Option Int).bind fun x8=>(some (cI.next (x8,(IntKind.wrap .i64 (s4.2+(1:Int))))))) (some (cI.out s4.1))
noncomputable def yQ (p0b:(List UInt8)):Option Int :=
 ((dR (wF p0b) (((4294967295:Int),(0:Int)))):Option Int).bind fun x1=>(some (IntKind.wrap .i64 (fV .xor .u32 (4294967295:Int) x1)))
theorem aJI {p0b:(List UInt8)}{res:Int} (h:yQ p0b=some res):bS Tryz.prog 63 [.c (PV.ls 1 dF p0b)] [] (ci res) []:=by
 unfold yQ at h
 refine cJ (fn:=Tryz.f63) [0,2,3,5,6,7,8,9,10,11,19,27] (by kernel_rfl) Tryz.func63 r (by kernel_rfl) (by kernel_rfl)<|aH<|sI r<|aF (fr':=[(0,aL)]) r r<|aH<|sI r<|aF (fr':=[(0,aL),(3,aI)]) r r<|aP<|aH<|mL r ?_
 refine aM r (dI sD (cC r))<|mI r<|aF (fr':=[(3,aI),(8,aL),(9,aI),(10,aI)]) r r ?_
 obtain ⟨x1,hx1,h2⟩:=aE h
 refine eB gF (fun j3=>x1=j3) (fun (j3:Int)=>([(3,.c (.int .u32 j3))]:Fr)) (fun (j3:Int)=>([]:St)) ?_ ?_
 ·
  refine bJ<|dV _ (fun (s4:(Int × Int))=>([(3,.c (.int .u32 s4.1)),(8,.c (PV.ls 1 dF p0b)),(9,ci ((p0b).length:Int)),(10,ci s4.2)]:Fr)) (fun (s4:(Int × Int))=>([]:St)) hx1 (aU [] 0 r r r r ⟨lr,lr,lr,lr,trivial⟩ aA) ?_
  intro s4 st4 hs4 ho4
  unfold wF at hs4
  refine aH<|aM r (dJ r r)<|aF (fr':=[(3,aI),(8,aL),(9,aI),(10,aI),(11,aB)]) r r<|aP<|bP hs4 r (fun hb5 h5=>?_) (fun hb5 h5=>?_)
  ·
   refine aW<|bV<|aP<|bJ<|aP<|aQ ?_
   obtain ⟨x6,hx6,h7⟩:=aE h5
   refine aM r (gR (cs:=[PV.int _ _]) pK (cC r) r hx6 r)<|aM r (eG (p:=PV.int _ _) tv5 r r)<|sI r<|aF (fr':=[(3,aI),(5,aI),(8,aL),(9,aI),(10,aI)]) r r<|aH<|mI r<|mI r<|aM r (kL tk5 aLp r)<|aM r (aG8 r r)<|sI r<|aF (fr':=[(3,aI),(8,aL),(9,aI),(10,aI)]) r r<|aP ?_
   refine aQ<|sI r<|aF (fr':=[(3,aI),(6,aI),(8,aL),(9,aI),(10,aI)]) r r ?_
   obtain ⟨x8,hx8,h9⟩:=aE h7
   refine eB (aOw gF) (fun j10=>x8=j10) (fun (j10:Int)=>([(3,.c (.int .u32 j10)),(8,.c (PV.ls 1 dF p0b)),(9,ci ((p0b).length:Int)),(10,ci s4.2)]:Fr)) (fun (j10:Int)=>([]:St)) ?_ ?_
   ·
    refine bJ<|dV _ (fun (s11:(Int × Int))=>([(3,.c (.int .u32 s11.1)),(6,ci s11.2),(8,.c (PV.ls 1 dF p0b)),(9,ci ((p0b).length:Int)),(10,ci s4.2)]:Fr)) (fun (s11:(Int × Int))=>([]:St)) hx8 (aU [] 0 r r r r ⟨lr,lr,lr,lr,lr,trivial⟩ aA) ?_
    intro s11 st11 hs11 ho11
    unfold mC at hs11
    refine aP<|aH<|mI r<|aM r (dJ r r)<|aF (fr':=[(3,aI),(6,aI),(8,aL),(9,aI),(10,aI),(19,aB)]) r r<|bP hs11 r (fun hb12 h12=>?_) (fun hb12 h12=>?_)
    ·
     refine aW<|bV<|aP<|bJ<|aH<|mI r<|aM r (aG7 r r (by decide))<|sI r<|aF (fr':=[(3,aI),(6,aI),(7,aI),(8,aL),(9,aI),(10,aI)]) r r<|aH<|mI r ?_
     refine aM r (aDW r r (by decide))<|sI r<|aF (fr':=[(3,aI),(6,aI),(7,aI),(8,aL),(9,aI),(10,aI)]) r r<|aH<|mI r<|aM r (bM r r)<|aF (fr':=[(3,aI),(6,aI),(8,aL),(9,aI),(10,aI),(27,aB)]) r r<|bP h12 r (fun hb13 h13=>?_) (fun hb13 h13=>?_)
     ·
      exact aQ<|mI r<|aM r (aG8 r r)<|sI r<|cB (fr':=[(3,aI),(6,aI),(8,aL),(9,aI),(10,aI),(27,aB)]) r<|bX<|bV<|aQ<|mI r<|aM r (dB r r)<|sI r<|cB (fr':=[(3,aI),(6,aI),(8,aL),(9,aI),(10,aI),(27,aB)]) r<|rX _ (sy h13) (aU [] 0 r r r r ⟨lr,lr,lr,lr,lr,trivial⟩ aA)
     ·
      exact aW<|bX<|bV<|aQ<|mI r<|aM r (dB r r)<|sI r<|cB (fr':=[(3,aI),(6,aI),(8,aL),(9,aI),(10,aI),(27,aB)]) r<|rX _ (sy h13) (aU [] 0 r r r r ⟨lr,lr,lr,lr,lr,trivial⟩ aA)
    ·
     refine eK<|bR<|bR<|dC ?_
     have h14:=cS h12 ho11
     exact gD _ (sy h14) (aU [] 0 r r r r ⟨lr,lr,lr,lr,trivial⟩ aA)
   ·
    intro j10 hj15
    subst hj15
    exact bX<|bV<|aQ<|aM r (dB r r)<|mI r<|cB (fr':=[(3,aI),(8,aL),(9,aI),(10,aI)]) r<|rX _ (sy h9) (aU [] 0 r r r r ⟨lr,lr,lr,lr,trivial⟩ aA)
  ·
   refine eK<|bR<|bR<|dC ?_
   have h16:=cS h5 ho4
   exact gD _ (sy h16) (aU [] 0 r r r r ⟨lr,trivial⟩ aA)
 ·
  intro j3 hj17
  subst hj17
  refine bV<|aH<|mI r<|aM r (aLd (m:=4294967295) r r)<|aM r (kL aLp tk3 r)<|sI r<|aF (fr':=[(2,aI)]) r r<|bC ?_
  obtain rfl:=sy h2
  exact bB (rs':=[.tmp 2]) r<|bH (v:=aI) r<|aZ<|aN [] r r r lr aA
noncomputable def tQ (p0l:(List bI)) (s8:((List UInt8) × Int)):Option (cI ((List UInt8) × Int) (Fl ((List UInt8) × Int) (List UInt8))) :=
 cond (decide (s8.2<((p0l).length:Int))) ((hG p0l s8.2).bind fun x10=>(qC x10).bind fun x12=>cond (!x12) (some (cI.out (Fl.done (([]:(List UInt8)),(11:Int))))) ((qS s8.1 x10).bind fun x18=>some (cI.next (x18,(IntKind.wrap .i64 (s8.2+(1:Int))))))) (some (cI.out (Fl.go s8.1)))
noncomputable def vO (p0l:(List bI)):Option ((List UInt8) × Int) :=
 cond (decide ((2000:Int)<((p0l).length:Int))) (some (([]:(List UInt8)),(6:Int))) ((iL ([]:List UInt8) ((p0l).length:Int)).bind fun x3=>((dR (tQ p0l) ((x3,(0:Int)))):Option (Fl ((List UInt8) × Int) (List UInt8))).bind fun x5=>Fl.next x5 (fun j7=>((yQ j7).bind fun x22=>(lF (IntKind.wrap .u8 (IntKind.wrap .i64 (Int.tdiv x22 (16777216:Int))))).bind fun x24=>(lF (IntKind.wrap .u8 (Int.tmod (IntKind.wrap .i64 (Int.tdiv x22 (65536:Int))) (256:Int)))).bind fun x26=>(lF (IntKind.wrap .u8 (Int.tmod (IntKind.wrap .i64 (Int.tdiv x22 (256:Int))) (256:Int)))).bind fun x28=>(lF (IntKind.wrap .u8 (Int.tmod x22 (256:Int)))).bind fun x30=>(app 1 j7 ([x24,x26,x28,x30]:List UInt8)).bind fun x32=>some (x32,(0:Int)))))
theorem aGM {p0l:(List bI)}{res:((List UInt8) × Int)} (h:vO p0l=some res):bS Tryz.prog 21 [.c (PV.ls 24 cD p0l)] [] (.tup [AV.os 0 1 dF res.1,ci res.2]) []:=by
 unfold vO at h
 refine cJ (fn:=Tryz.f21) [0,2,3,4,6,7,10,14,15,16,17,22] (by kernel_rfl) Tryz.func21 r (by kernel_rfl) (by kernel_rfl)<|aH<|sV (v:=AV.nil) r<|sI r<|aF (fr':=[(0,aL)]) r r<|aP<|aH<|mL r<|aM r (dI aDz (cC r))<|aM r (kA r r)<|aF (fr':=[(0,aL),(10,aB)]) r r ?_
 refine bP h r (fun hb1 h1=>?_) (fun hb1 h1=>?_)
 ·
  refine aH<|sV (v:=AV.nil) r<|sI r<|aF (fr':=[(2,AV.nil),(3,aI)]) r r<|bC<|aJ ?_
  obtain rfl:=sy h1
  exact bB (rs':=[.tmp 2,.tmp 3]) r<|bH (v:=AV.nil) r<|bH (v:=aI) r<|aZ<|aN [1000000] r r r (rO r ⟨(vR r),lr,trivial⟩) aA
 ·
  refine aW<|bV<|aH<|mL r<|aM r (dI aDz (cC r)) ?_
  obtain ⟨x3,hx3,h4⟩:=aE h1
  refine gV (aX (v:=aO) r (lJ hx3) ⟨aAG,lr,trivial⟩ r r r)<|sV (v:=aO) r<|aF (fr':=[(0,aL),(4,aO)]) r r<|aP<|aH<|mL r<|aM r (dI aDz (cC r))<|mI r<|aF (fr':=[(4,aO),(14,aL),(15,aI),(16,aI)]) r r ?_
  obtain ⟨x5,hx5,h6⟩:=aE h4
  refine eB gF (fun j7=>x5=Fl.go j7) (fun (j7:(List UInt8))=>([(4,AV.os 0 1 dF j7)]:Fr)) (fun (j7:(List UInt8))=>([]:St)) ?_ ?_
  ·
   refine bJ<|dV _ (fun (s8:((List UInt8) × Int))=>([(4,AV.os 0 1 dF s8.1),(14,.c (PV.ls 24 cD p0l)),(15,ci ((p0l).length:Int)),(16,ci s8.2)]:Fr)) (fun (s8:((List UInt8) × Int))=>([]:St)) hx5 (aU [208] 0 r r r r ⟨lr,lr,lr,lr,trivial⟩ aA) ?_
   intro s8 st8 hs8 ho8
   unfold tQ at hs8
   refine aH<|aM r (dJ r r)<|aF (fr':=[(4,aO),(14,aL),(15,aI),(16,aI),(17,aB)]) r r<|aP<|bP hs8 r (fun hb9 h9=>?_) (fun hb9 h9=>?_)
   ·
    refine aW<|bV<|aP<|bJ<|aP<|aQ ?_
    obtain ⟨x10,hx10,h11⟩:=aE h9
    refine aM r (gR (cs:=[PV.int _ _,PV.int _ _,PV.int _ _,PV.int _ _,PV.int _ _,PV.int _ _,PV.int _ _,PV.str _,PV.str _,PV.int _ _,PV.int _ _,PV.str _,PV.ls _ _ _,PV.ls _ _ _,PV.str _,PV.int _ _,PV.int _ _,PV.int _ _,PV.int _ _,PV.int _ _,PV.int _ _,PV.int _ _,PV.int _ _,PV.ls _ _ _]) aEe (cC r) r hx10 r)<|aM r (gM (us:=[PV.int _ _,PV.int _ _,PV.int _ _,PV.int _ _,PV.int _ _,PV.int _ _,PV.int _ _,PV.str _,PV.str _,PV.int _ _,PV.int _ _,PV.str _,PV.ls _ _ _,PV.ls _ _ _,PV.str _,PV.int _ _,PV.int _ _,PV.int _ _,PV.int _ _,PV.int _ _,PV.int _ _,PV.int _ _,PV.int _ _,PV.ls _ _ _]) qF r r r)<|gC (n:=0) (cs:=aG) (σ':=[aG]) aJB r r r<|bU (v:=.agg aD) (us:=aD) (cs:=aG) (σ':=[aD]) r qF r r r r r r r r<|aF (fr':=[(4,aO),(6,.box 0 0),(14,aL),(15,aI),(16,aI)]) r r<|aP<|aH<|aM r (cN (us:=aD) qF r r r r) ?_
    obtain ⟨x12,hx12,h13⟩:=aE h11
    refine gV (aX (v:=aB) r (aBM hx12) ⟨(bK r ⟨r,r,r,r,r,r,r,r,r,r,r,r,r,r,r,r,r,r,r,r,r,r,r,r,trivial⟩),trivial⟩ r r r)<|aM r (eI r)<|aF (fr':=[(4,aO),(6,.box 0 0),(14,aL),(15,aI),(16,aI),(22,aB)]) r r<|bP h13 r (fun hb14 h14=>?_) (fun hb14 h14=>?_)
    ·
     refine aH<|sV (v:=AV.nil) r<|sI r<|aF (fr':=[(2,AV.nil),(3,aI)]) r r<|bC<|aJ<|bA<|aJ<|aJ<|bA<|aJ<|aJ ?_
     have h15:=cS h14 ho8
     have h16:=dQ h15 h6
     obtain rfl:=sy h16
     exact bB (rs':=[.tmp 2,.tmp 3]) r<|bH (v:=AV.nil) r<|bH (v:=aI) r<|aZ<|aN [1000000] r r r (rO r ⟨(vR r),lr,trivial⟩) aA
    ·
     refine aW<|bV<|aQ<|mV (v:=aO) r<|aM r (cN (us:=aD) qF r r r r) ?_
     obtain ⟨x18,hx18,h19⟩:=aE h14
     exact gV (aX (v:=aO) r (aA8 hx18) ⟨lr,(bK r ⟨r,r,r,r,r,r,r,r,r,r,r,r,r,r,r,r,r,r,r,r,r,r,r,r,trivial⟩),trivial⟩ r r r)<|sV (v:=aO) r<|cB (fr':=[(4,aO),(6,.box 0 0),(14,aL),(15,aI),(16,aI),(22,aB)]) r<|bX<|bV<|aQ<|aM r (dB r r)<|mI r<|cB (fr':=[(4,aO),(6,.box 0 0),(14,aL),(15,aI),(16,aI),(22,aB)]) r<|rX _ (sy h19) (aU [400] 0 r r r r ⟨lr,lr,lr,lr,trivial⟩ aA)
   ·
    refine eK<|bR<|bR<|dC ?_
    have h20:=cS h9 ho8
    exact gD _ (sy h20) (aU [0] 0 r r r r ⟨lr,trivial⟩ aA)
  ·
   intro j7 hj21
   have h21:=iC hj21 h6
   refine bV<|aH<|mV (v:=aO) r ?_
   obtain ⟨x22,hx22,h23⟩:=aE h21
   refine gV (aX (v:=aI) r (aJI hx22) ⟨lr,trivial⟩ r r r)<|sI r<|aF (fr':=[(4,aO),(7,aI)]) r r<|aH<|mV (v:=aO) r<|mI r<|aM r (aDW r r (by decide))<|aM r (kL tk3 tk5 r)<|mI r<|aM r (aDW r r (by decide))<|aM r (aG7 r r (by decide))<|aM r (kL tk3 tk5 r) ?_
   refine mI r<|aM r (aDW r r (by decide))<|aM r (aG7 r r (by decide))<|aM r (kL tk3 tk5 r)<|mI r<|aM r (aG7 r r (by decide))<|aM r (kL tk3 tk5 r) ?_
   obtain ⟨x24,hx24,h25⟩:=aE h23
   obtain ⟨x26,hx26,h27⟩:=aE h25
   obtain ⟨x28,hx28,h29⟩:=aE h27
   obtain ⟨x30,hx30,h31⟩:=aE h29
   refine kT (row:=dF) (xs:=([x24,x26,x28,x30]:List UInt8)) (rows:=[[_],[_],[_],[_]]) (σ':=[]) [0] pK r r r (cM (uN hx24) (cM (uN hx26) (cM (uN hx28) (cM (uN hx30) gY)))) r r ?_
   obtain ⟨x32,hx32,h33⟩:=aE h31
   refine wX (row:=dF) pK r sD r (lG r) (fun _=>r) hx32<|sV (v:=aO) r<|aF (fr':=[(4,aO)]) r r<|aH<|mV (v:=aO) r<|sV (v:=aO) r<|sI r<|aF (fr':=[(2,aO),(3,aI)]) r r<|bC ?_
   obtain rfl:=sy h33
   exact bB (rs':=[.tmp 2,.tmp 3]) r<|bH (v:=aO) r<|bH (v:=aI) r<|aZ<|aN [720] r r r (rO r ⟨lr,lr,trivial⟩) aA
noncomputable def iO (p0l:(List bI)) (x19:((List bI) × Int)) (s26:Int):Option (cI Int (Fl Bool Unit)) :=
 cond (decide (s26<((p0l).length:Int))) ((hG p0l s26).bind fun x28=>(hG x19.1 s26).bind fun x30=>(qD x28 x30).bind fun x32=>cond (!x32) (some (cI.out (Fl.done false))) (some (cI.next (IntKind.wrap .i64 (s26+(1:Int)))))) (some (cI.out (Fl.go ())))
noncomputable def jX (p0l:(List bI)):Option Bool :=
 (nL p0l).bind fun x1=>cond x1 ((iH).bind fun x4=>some x4) ((iX p0l).bind fun x7=>(vO p0l).bind fun x9=>(gd ((!decide (x7.2=x9.2))==false) (sJ x7.1 x9.1)).bind fun x11=>cond (cond (!decide (x7.2=x9.2)) true (!x11)) (some false) (cond (!decide (x7.2=(0:Int))) ((iH).bind fun x16=>some x16) ((gZ x7.1).bind fun x19=>cond (cond (!decide (x19.2=(0:Int))) true (!decide (((x19.1).length:Int)=((p0l).length:Int)))) (some false) (((dR (iO p0l x19) ((0:Int))):Option (Fl Bool Unit)).bind fun x23=>Fl.next x23 (fun j25=>((iH).bind fun x40=>some x40))))))
theorem aAd {p0l:(List bI)}{res:Bool} (h:jX p0l=some res):bS Tryz.prog 4 [.c (PV.ls 24 cD p0l)] [] (.c (.bool res)) []:=by
 unfold jX at h
 refine cJ (fn:=Tryz.f4) [0,2,3,4,5,6,7,8,10,30,32,47,49,50,51,62] (by kernel_rfl) Tryz.func4 r (by kernel_rfl) (by kernel_rfl)<|aH<|sB r<|aF (fr':=[(0,aL)]) r r<|aP<|aH<|mL r ?_
 obtain ⟨x1,hx1,h2⟩:=aE h
 refine gV (aX (v:=aB) r (yF hx1) ⟨lr,trivial⟩ r r r)<|aF (fr':=[(0,aL),(10,aB)]) r r<|bP h2 r (fun hb3 h3=>?_) (fun hb3 h3=>?_)
 ·
  refine aP<|aQ ?_
  obtain ⟨x4,hx4,h5⟩:=aE h3
  refine gV (aX (v:=aB) r (iQ hx4) trivial r r r)<|sB r<|aF (fr':=[(2,aB)]) r r<|bC<|aJ ?_
  obtain rfl:=sy h5
  exact bB (rs':=[.tmp 2]) r<|bH (v:=aB) r<|aZ<|aN [] r r r lr aA
 ·
  refine aW<|bV<|aH<|mL r ?_
  obtain ⟨x7,hx7,h8⟩:=aE h3
  refine gV (aX (v:=.tup [aO,aI]) r (pG hx7) ⟨lr,trivial⟩ r r r)<|mV (v:=.tup [aO,aI]) r<|aM r (yO (v:=aO) r r)<|aM r (yO (v:=aI) r r)<|sV (v:=aO) r<|sI r<|aF (fr':=[(0,aL),(3,aO),(4,aI)]) r r<|aH<|mL r ?_
  obtain ⟨x9,hx9,h10⟩:=aE h8
  refine gV (aX (v:=.tup [aO,aI]) r (aGM hx9) ⟨lr,trivial⟩ r r r)<|mV (v:=.tup [aO,aI]) r<|aM r (yO (v:=aO) r r)<|aM r (yO (v:=aI) r r)<|sV (v:=aO) r<|sI r<|aF (fr':=[(0,aL),(3,aO),(4,aI),(5,aO),(6,aI)]) r r<|aP<|aH<|mI r<|mI r<|aM r (fI r r) ?_
  refine mB r<|og r r r (fun hc=>(bE (v:=aO) r))<|og r r r (fun hc=>(bE (v:=aO) r)) ?_
  obtain ⟨x11,hx11,h12⟩:=aE h10
  refine sM r r (fun hc=>aX (v:=aB) r (aBL (cA hx11 hc)) ⟨(eH (gx r hc) lr),(eH (gx r hc) lr),trivial⟩ (fA (by repeat (first | exact dX | refine aY r ?_ | refine aY (oS r) ?_ | refine aY oR ?_))) r r) ?_
  refine og r r r (fun hc=>(eI (gx r hc)))<|aM r (bY r r r (fun e=>eO e))<|aF (fr':=[(0,aL),(3,aO),(4,aI),(30,aB)]) r r<|bP h12 r (fun hb13 h13=>?_) (fun hb13 h13=>?_)
  ·
   refine aH<|sB r<|aF (fr':=[(2,aB)]) r r<|bC<|aJ ?_
   obtain rfl:=sy h13
   exact bB (rs':=[.tmp 2]) r<|bH (v:=aB) r<|aZ<|aN [] r r r lr aA
  ·
   refine aW<|bV<|aP<|aH<|mI r<|aM r (fI r r)<|aF (fr':=[(0,aL),(3,aO),(32,aB)]) r r<|bP h13 r (fun hb15 h15=>?_) (fun hb15 h15=>?_)
   ·
    refine aP<|aQ ?_
    obtain ⟨x16,hx16,h17⟩:=aE h15
    refine gV (aX (v:=aB) r (iQ hx16) trivial r r r)<|sB r<|aF (fr':=[(2,aB)]) r r<|bC<|aJ ?_
    obtain rfl:=sy h17
    exact bB (rs':=[.tmp 2]) r<|bH (v:=aB) r<|aZ<|aN [] r r r lr aA
   ·
    refine aW<|bV<|aH<|mV (v:=aO) r ?_
    obtain ⟨x19,hx19,h20⟩:=aE h15
    refine gV (aX (v:=.tup [aO,aI]) r (rA hx19) ⟨lr,trivial⟩ r r r)<|mV (v:=.tup [aO,aI]) r<|aM r (yO (v:=aO) r r)<|aM r (yO (v:=aI) r r)<|sV (v:=aO) r<|sI r<|aF (fr':=[(0,aL),(4,aI),(7,aO)]) r r<|aP<|aH<|mI r<|aM r (fI r r)<|mB r ?_
    refine og r r r (fun hc=>(bE (v:=aO) r))<|og r r r (fun hc=>(dI aDz (lG (gx r hc))))<|og r r r (fun hc=>(bE (v:=aL) r))<|og r r r (fun hc=>(dI aDz (cC (gx r hc))))<|og r r r (fun hc=>(fI (gx r hc) (gx r hc)))<|aM r (bY r r r (fun e=>eO e))<|aF (fr':=[(0,aL),(7,aO),(47,aB)]) r r<|bP h20 r (fun hb21 h21=>?_) (fun hb21 h21=>?_)
    ·
     refine aH<|sB r<|aF (fr':=[(2,aB)]) r r<|bC<|aJ ?_
     obtain rfl:=sy h21
     exact bB (rs':=[.tmp 2]) r<|bH (v:=aB) r<|aZ<|aN [] r r r lr aA
    ·
     refine aW<|bV<|aP<|aH<|mL r<|aM r (dI aDz (cC r))<|mI r<|aF (fr':=[(0,aL),(7,aO),(49,aI),(50,aI)]) r r ?_
     obtain ⟨x23,hx23,h24⟩:=aE h21
     refine eB gF (fun j25=>x23=Fl.go j25) (fun (j25:Unit)=>([]:Fr)) (fun (j25:Unit)=>([]:St)) ?_ ?_
     ·
      refine bJ<|dV _ (fun (s26:Int)=>([(0,.c (PV.ls 24 cD p0l)),(7,AV.os 0 24 cD x19.1),(49,ci ((p0l).length:Int)),(50,ci s26)]:Fr)) (fun (s26:Int)=>([]:St)) hx23 (aU [576] 0 r r r r ⟨lr,lr,lr,lr,trivial⟩ aA) ?_
      intro s26 st26 hs26 ho26
      unfold iO at hs26
      refine aH<|aM r (dJ r r)<|aF (fr':=[(0,aL),(7,aO),(49,aI),(50,aI),(51,aB)]) r r<|aP<|bP hs26 r (fun hb27 h27=>?_) (fun hb27 h27=>?_)
      ·
       refine aW<|bV<|aP<|bJ<|aH<|mI r<|sI r<|aF (fr':=[(0,aL),(7,aO),(8,aI),(49,aI),(50,aI)]) r r<|aP<|hF [.q 0,.q 1,.q 2,.q 3,.q 4,.q 5,.q 6,.q 7,.q 8,.q 9] [(some 53,[0]),(some 54,[8]),(some 55,[53,54]),(some 56,[55]),(some 57,[7]),(some 58,[8]),(some 59,[57,58]),(some 60,[59]),(some 61,[56,60]),(some 62,[61])] [0,0,3,7,0,0,48,112,255,511] (by kernel_rfl)<|dq r r (bE (v:=aL) r)<|dq r r (bE (v:=aI) r) ?_
       obtain ⟨x28,hx28,h29⟩:=aE h27
       refine dq r r (gR (cs:=[PV.int _ _,PV.int _ _,PV.int _ _,PV.int _ _,PV.int _ _,PV.int _ _,PV.int _ _,PV.str _,PV.str _,PV.int _ _,PV.int _ _,PV.str _,PV.ls _ _ _,PV.ls _ _ _,PV.str _,PV.int _ _,PV.int _ _,PV.int _ _,PV.int _ _,PV.int _ _,PV.int _ _,PV.int _ _,PV.int _ _,PV.ls _ _ _]) aEe (cC r) r hx28 r)<|dq r r (gM (us:=[PV.int _ _,PV.int _ _,PV.int _ _,PV.int _ _,PV.int _ _,PV.int _ _,PV.int _ _,PV.str _,PV.str _,PV.int _ _,PV.int _ _,PV.str _,PV.ls _ _ _,PV.ls _ _ _,PV.str _,PV.int _ _,PV.int _ _,PV.int _ _,PV.int _ _,PV.int _ _,PV.int _ _,PV.int _ _,PV.int _ _,PV.ls _ _ _]) qF r r r)<|dq r r (bE (v:=aO) r)<|dq r r (bE (v:=aI) r) ?_
       obtain ⟨x30,hx30,h31⟩:=aE h29
       refine dq r r (gR (cs:=[PV.int _ _,PV.int _ _,PV.int _ _,PV.int _ _,PV.int _ _,PV.int _ _,PV.int _ _,PV.str _,PV.str _,PV.int _ _,PV.int _ _,PV.str _,PV.ls _ _ _,PV.ls _ _ _,PV.str _,PV.int _ _,PV.int _ _,PV.int _ _,PV.int _ _,PV.int _ _,PV.int _ _,PV.int _ _,PV.int _ _,PV.ls _ _ _]) aEe (lG r) r hx30 r)<|dq r r (gM (us:=[PV.int _ _,PV.int _ _,PV.int _ _,PV.int _ _,PV.int _ _,PV.int _ _,PV.int _ _,PV.str _,PV.str _,PV.int _ _,PV.int _ _,PV.str _,PV.ls _ _ _,PV.ls _ _ _,PV.str _,PV.int _ _,PV.int _ _,PV.int _ _,PV.int _ _,PV.int _ _,PV.int _ _,PV.int _ _,PV.int _ _,PV.ls _ _ _]) qF r r r) ?_
       obtain ⟨x32,hx32,h33⟩:=aE h31
       refine d_q r (pD (v:=aB) r (aAf hx32) ⟨(bK r ⟨r,r,r,r,r,r,r,r,r,r,r,r,r,r,r,r,r,r,r,r,r,r,r,r,trivial⟩),(bK r ⟨r,r,r,r,r,r,r,r,r,r,r,r,r,r,r,r,r,r,r,r,r,r,r,r,trivial⟩),trivial⟩ r)<|dq r r (eI r)<|uE (fr':=[(0,aL),(7,aO),(49,aI),(50,aI),(62,aB)]) r r<|bP h33 r (fun hb34 h34=>?_) (fun hb34 h34=>?_)
       ·
        refine aH<|sB r<|aF (fr':=[(2,aB)]) r r<|bC<|bA<|aJ<|aJ<|bA<|aJ<|aJ ?_
        have h35:=cS h34 ho26
        have h36:=dQ h35 h24
        obtain rfl:=sy h36
        exact bB (rs':=[.tmp 2]) r<|bH (v:=aB) r<|aZ<|aN [] r r r lr aA
       ·
        exact aW<|bX<|bV<|aQ<|aM r (dB r r)<|mI r<|cB (fr':=[(0,aL),(7,aO),(49,aI),(50,aI),(62,aB)]) r<|rX _ (sy h34) (aU [0] 0 r r r r ⟨lr,lr,lr,lr,trivial⟩ aA)
      ·
       refine eK<|bR<|bR<|dC ?_
       have h38:=cS h27 ho26
       exact gD _ (sy h38) (aU [] 0 r r r r trivial aA)
     ·
      intro j25 hj39
      have h39:=iC hj39 h24
      refine bV<|aP<|aQ ?_
      obtain ⟨x40,hx40,h41⟩:=aE h39
      refine gV (aX (v:=aB) r (iQ hx40) trivial r r r)<|sB r<|aF (fr':=[(2,aB)]) r r<|bC ?_
      obtain rfl:=sy h41
      exact bB (rs':=[.tmp 2]) r<|bH (v:=aB) r<|aZ<|aN [] r r r lr aA
end Go.Proofs.YtnigjppddilpcaaGreatDoor
