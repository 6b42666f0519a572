import Derived.Test.YtnigjppddilpcaaGreatDoorGETy
import Derived.Test.YtnigjppddilpcaaGreatDoorGEF0
namespace Go.Proofs.YtnigjppddilpcaaGreatDoor
open Go Abs
set_option maxRecDepth 100000
set_option linter.unusedVariables false
set_option linter.unusedSimpArgs false
noncomputable def dQ (p0s:(List (List UInt8))) (s4:Int):Option (bS Int (Fl Int Unit)) :=
 cond (decide (s4<((p0s).length:Int))) ((jV p0s s4).bind fun x6=>(lJ x6).bind fun x8=>cond x8 (some (bS.out (Fl.done s4))) (some (bS.next (IntKind.wrap .i64 (s4+(1:Int)))))) (some (bS.out (Fl.go ())))
noncomputable def eN (p0s:(List (List UInt8))):Option Int :=
 ((dL (dQ p0s) ((0:Int))):Option (Fl Int Unit)).bind fun x1=>Fl.next x1 (fun j3=>(some (-1:Int)))
theorem kT {p0s:(List (List UInt8))}{res:Int} (h:eN p0s=some res):cC Tryz.prog 206 [.c (PV.ls 1 gL p0s),.fn 179 []] [] (ci res) []:=by
 unfold eN at h
 refine cY (fn:=Tryz.f206) [0,1,4,5,7,8,9,16] (by kernel_rfl) Tryz.func206 r (by kernel_rfl) (by kernel_rfl)<|aK<|sI r<|aH (fr':=[(0,aL),(1,.fn _ [])]) r r<|aU<|aK<|mL r<|aT r (gN yQ (eO r))<|mI r<|aH (fr':=[(0,aL),(1,.fn _ []),(7,aI),(8,aI)]) r r ?_
 obtain ⟨x1,hx1,h2⟩:=aG h
 refine gZ mO (fun j3=>x1=Fl.go j3) (fun (j3:Unit)=>([]:Fr)) (fun (j3:Unit)=>([]:St)) ?_ ?_
 ·
  refine bZ<|gU _ (fun (s4:Int)=>([(0,.c (PV.ls 1 gL p0s)),(1,.fn 179 []),(7,ci ((p0s).length:Int)),(8,ci s4)]:Fr)) (fun (s4:Int)=>([]:St)) hx1 (bT [] 0 r r r r ⟨lr,lr,lr,lr,trivial⟩ aF) ?_
  intro s4 st4 hs4 ho4
  unfold dQ at hs4
  refine aK<|aT r (fM r r)<|aH (fr':=[(0,aL),(1,.fn _ []),(7,aI),(8,aI),(9,aB)]) r r<|aU<|cV hs4 r (fun hb5 h5=>?_) (fun hb5 h5=>?_)
  ·
   refine bJ<|cM<|aU<|bZ<|aK<|mI r<|sI r<|aH (fr':=[(0,aL),(1,.fn _ []),(5,aI),(7,aI),(8,aI)]) r r<|aK<|mV (v:=.fn _ []) r<|mL r ?_
   refine mI r ?_
   obtain ⟨x6,hx6,h7⟩:=aG h5
   refine aT r (oV (cs:=[PV.str _]) aAe (eO r) r hx6 r)<|aT r (jW (p:=PV.str _) nE r r) ?_
   obtain ⟨x8,hx8,h9⟩:=aG h7
   refine lM (bC (v:=aB) r (yR hx8) ⟨lr,trivial⟩ r r r)<|aH (fr':=[(0,aL),(1,.fn _ []),(5,aI),(7,aI),(8,aI),(16,aB)]) r r<|cV h9 r (fun hb10 h10=>?_) (fun hb10 h10=>?_)
   ·
    refine aK<|mI r<|sI r<|aH (fr':=[(4,aI)]) r r<|bI<|bN<|aN<|aN<|bN<|aN<|aN ?_
    have h11:=eY h10 ho4
    have h12:=fI h11 h2
    obtain rfl:=sy h12
    exact bH (rs':=[.tmp 4]) r<|bP (v:=aI) r<|bG<|aQ [] r r r lr aF
   ·
    exact bJ<|dH<|cM<|aX<|aT r (fL r r)<|mI r<|dT (fr':=[(0,aL),(1,.fn _ []),(5,aI),(7,aI),(8,aI),(16,aB)]) r<|e_l _ (sy h10) (bT [] 0 r r r r ⟨lr,lr,lr,lr,trivial⟩ aF)
  ·
   refine hH<|cX<|cX<|fU ?_
   have h14:=eY h5 ho4
   exact pG _ (sy h14) (bT [] 0 r r r r trivial aF)
 ·
  intro j3 hj15
  have h15:=nG hj15 h2
  refine cM<|aK<|sI r<|aH (fr':=[(4,aI)]) r r<|bI ?_
  obtain rfl:=sy h15
  exact bH (rs':=[.tmp 4]) r<|bP (v:=aI) r<|bG<|aQ [] r r r lr aF
noncomputable def dO (p0s:(List (List UInt8))):Option Bool :=
 (eN p0s).bind fun x1=>some (decide ((0:Int)≤x1))
theorem kE {p0s:(List (List UInt8))}{res:Bool} (h:dO p0s=some res):cC Tryz.prog 178 [.c (PV.ls 1 gL p0s),.fn 179 []] [] (.c (.bool res)) []:=by
 unfold dO at h
 refine cY (fn:=Tryz.f178) [0,1,4] (by kernel_rfl) Tryz.func178 r (by kernel_rfl) (by kernel_rfl)<|aK<|sB r<|aH (fr':=[(0,aL),(1,.fn _ [])]) r r<|aK<|mL r<|mV (v:=.fn _ []) r ?_
 obtain ⟨x1,hx1,h2⟩:=aG h
 refine lM (bC (v:=aI) r (kT hx1) ⟨lr,lr,trivial⟩ r r r)<|aT r (rP r r)<|sB r<|aH (fr':=[(4,aB)]) r r<|bI ?_
 obtain rfl:=sy h2
 exact bH (rs':=[.tmp 4]) r<|bP (v:=aB) r<|bG<|aQ [] r r r lr aF
noncomputable def kW (p0o:bL) (s8:Int):Option (bS Int (Fl Bool Unit)) :=
 cond (decide (s8<((([p0o.ToStart,p0o.ToClose,p0o.Total,p0o.Beat,p0o.First,p0o.Most]:List Int)).length:Int))) ((jV ([p0o.ToStart,p0o.ToClose,p0o.Total,p0o.Beat,p0o.First,p0o.Most]:List Int) s8).bind fun x10=>(iD x10 (0:Int) (1099511627776:Int)).bind fun x12=>cond (!x12) (some (bS.out (Fl.done false))) (some (bS.next (IntKind.wrap .i64 (s8+(1:Int)))))) (some (bS.out (Fl.go ())))
noncomputable def iC (p0o:bL):Option Bool :=
 (gd ((!decide (p0o.Queue=([]:List UInt8)))==true) (oS p0o.Queue)).bind fun x1=>cond (cond (cond (!decide (p0o.Queue=([]:List UInt8))) (!x1) false) true (decide ((64:Int)<((p0o.Fatal).length:Int)))) (some false) (((dL (kW p0o) ((0:Int))):Option (Fl Bool Unit)).bind fun x5=>Fl.next x5 (fun j7=>((iD p0o.Coef (0:Int) (10000:Int)).bind fun x20=>(gd (x20==true) (iD p0o.Attempts (0:Int) (1000:Int))).bind fun x22=>(gd ((cond x20 x22 false)==true) (dO p0o.Fatal)).bind fun x24=>some (cond (cond x20 x22 false) (!x24) false))))
theorem sM {p0o:bL}{res:Bool} (h:iC p0o=some res):cC Tryz.prog 130 [.agg (AV.cs (jX p0o))] [] (.c (.bool res)) []:=by
 unfold iC at h
 refine cY (fn:=Tryz.f130) [0,1,2,4,19,32,33,34,35,40] (by kernel_rfl) Tryz.func130 r (by kernel_rfl) (by kernel_rfl)<|aK<|iH (v:=.agg cI) (n:=0) (cs:=cI) (σ':=[cI]) r r r r r<|sB r<|aH (fr':=[(1,.box 0 0)]) r r<|aU<|aK<|aT r (bD aBa r)<|aT r (aJ (v:=aS) nE r r r)<|aT r (rQ r r)<|mB r ?_
 refine og r r r (fun hc=>(bD aBa r))<|og r r r (fun hc=>(aJ (v:=aS) nE (gx r hc) r r)) ?_
 obtain ⟨x1,hx1,h2⟩:=aG h
 refine yS r r (fun hc=>bC (v:=aB) r (vO (dW hx1 hc)) ⟨(fK (gx r hc) lr),trivial⟩ (gJ (by repeat (first | exact fF | refine aZ r ?_ | refine aZ (uH r) ?_ | refine aZ uG ?_))) r r) ?_
 refine og r r r (fun hc=>(fH (gx r hc)))<|aT r (cE r r r (fun e=>fW e))<|mB r<|og r r r (fun hc=>(bD qV r))<|og r r r (fun hc=>(aJ (v:=aL) rG (gx r hc) r r))<|og r r r (fun hc=>(gN yQ (eO (gx r hc))))<|og r r r (fun hc=>(sJ (gx r hc) r))<|aT r (cB r r r (fun e=>fW e))<|aH (fr':=[(1,.box 0 0),(19,aB)]) r r<|cV h2 r (fun hb3 h3=>?_) (fun hb3 h3=>?_)
 ·
  refine aK<|sB r<|aH (fr':=[(2,aB)]) r r<|bI<|aN ?_
  obtain rfl:=sy h3
  exact bH (rs':=[.tmp 2]) r<|bP (v:=aB) r<|bG<|aQ [] r r r lr aF
 ·
  refine bJ<|cM<|aU<|aK<|aT r (bD aF0 r)<|aT r (aJ (v:=aI) fY r r r)<|aT r (bD aF1 r)<|aT r (aJ (v:=aI) fY r r r)<|aT r (bD aF2 r)<|aT r (aJ (v:=aI) fY r r r)<|aT r (bD aF3 r)<|aT r (aJ (v:=aI) fY r r r) ?_
  refine aT r (bD aF4 r)<|aT r (aJ (v:=aI) fY r r r)<|aT r (bD aF6 r)<|aT r (aJ (v:=aI) fY r r r)<|xX (row:=(aOw .i64)) (xs:=([p0o.ToStart,p0o.ToClose,p0o.Total,p0o.Beat,p0o.First,p0o.Most]:List Int)) (rows:=[[_],[_],[_],[_],[_],[_]]) (σ':=[cI]) [0] aOP r r r (gX r (gX r (gX r (gX r (gX r (gX r pX)))))) r r<|aT r (gN aQM (tW r))<|mI r<|aH (fr':=[(1,.box 0 0),(32,aO),(33,aI),(34,aI)]) r r ?_
  obtain ⟨x5,hx5,h6⟩:=aG h3
  refine gZ mO (fun j7=>x5=Fl.go j7) (fun (j7:Unit)=>([(1,.box 0 0)]:Fr)) (fun (j7:Unit)=>([[.c (.str p0o.Queue),ci p0o.ToStart,ci p0o.ToClose,ci p0o.Total,ci p0o.Beat,ci p0o.First,ci p0o.Coef,ci p0o.Most,ci p0o.Attempts,.c (PV.ls 1 gL p0o.Fatal)]]:St)) ?_ ?_
  ·
   refine bZ<|gU _ (fun (s8:Int)=>([(1,.box 0 0),(32,AV.os 0 1 (aOw .i64) ([p0o.ToStart,p0o.ToClose,p0o.Total,p0o.Beat,p0o.First,p0o.Most]:List Int)),(33,ci ((([p0o.ToStart,p0o.ToClose,p0o.Total,p0o.Beat,p0o.First,p0o.Most]:List Int)).length:Int)),(34,ci s8)]:Fr)) (fun (s8:Int)=>([[.c (.str p0o.Queue),ci p0o.ToStart,ci p0o.ToClose,ci p0o.Total,ci p0o.Beat,ci p0o.First,ci p0o.Coef,ci p0o.Most,ci p0o.Attempts,.c (PV.ls 1 gL p0o.Fatal)]]:St)) hx5 (bT [512] 1 r r r r ⟨lr,lr,lr,lr,trivial⟩ (cZ r aF)) ?_
   intro s8 st8 hs8 ho8
   unfold kW at hs8
   refine aK<|aT r (fM r r)<|aH (fr':=[(1,.box 0 0),(32,aO),(33,aI),(34,aI),(35,aB)]) r r<|aU<|cV hs8 r (fun hb9 h9=>?_) (fun hb9 h9=>?_)
   ·
    refine bJ<|cM<|aU<|bZ<|aU<|aX ?_
    obtain ⟨x10,hx10,h11⟩:=aG h9
    refine aT r (oV (cs:=[PV.int _ _]) aOP (tW r) r hx10 r)<|aT r (jW (p:=PV.int _ _) fY r r)<|sI r<|aH (fr':=[(1,.box 0 0),(4,aI),(32,aO),(33,aI),(34,aI)]) r r<|aK<|mI r ?_
    obtain ⟨x12,hx12,h13⟩:=aG h11
    refine lM (bC (v:=aB) r (jC hx12) ⟨lr,lr,lr,trivial⟩ r r r)<|aT r (fH r)<|aH (fr':=[(1,.box 0 0),(32,aO),(33,aI),(34,aI),(40,aB)]) r r<|cV h13 r (fun hb14 h14=>?_) (fun hb14 h14=>?_)
    ·
     refine aK<|sB r<|aH (fr':=[(2,aB)]) r r<|bI<|bN<|aN<|aN<|bN<|aN<|aN ?_
     have h15:=eY h14 ho8
     have h16:=fI h15 h6
     obtain rfl:=sy h16
     exact bH (rs':=[.tmp 2]) r<|bP (v:=aB) r<|bG<|aQ [] r r r lr aF
    ·
     exact bJ<|dH<|cM<|aX<|aT r (fL r r)<|mI r<|dT (fr':=[(1,.box 0 0),(32,aO),(33,aI),(34,aI),(40,aB)]) r<|e_l _ (sy h14) (bT [0] 1 r r r r ⟨lr,lr,lr,lr,trivial⟩ (cZ r aF))
   ·
    refine hH<|cX<|cX<|fU ?_
    have h18:=eY h9 ho8
    exact pG _ (sy h18) (bT [] 1 r r r r ⟨lr,trivial⟩ (cZ r aF))
  ·
   intro j7 hj19
   have h19:=nG hj19 h6
   refine cM<|aK<|aT r (bD aF5 r)<|aT r (aJ (v:=aI) fY r r r) ?_
   obtain ⟨x20,hx20,h21⟩:=aG h19
   refine lM (bC (v:=aB) r (jC hx20) ⟨lr,lr,lr,trivial⟩ r r r)<|mB r<|og r r r (fun hc=>(bD aF7 r))<|og r r r (fun hc=>(aJ (v:=aI) fY (gx r hc) r r)) ?_
   obtain ⟨x22,hx22,h23⟩:=aG h21
   refine yS r r (fun hc=>bC (v:=aB) r (jC (dW hx22 hc)) ⟨(fK (gx r hc) lr),lr,lr,trivial⟩ (gJ (by repeat (first | exact fF | refine aZ r ?_ | refine aZ (uH r) ?_ | refine aZ uG ?_))) r r) ?_
   refine aT r (cE r r r (fun e=>fW e))<|mB r<|og r r r (fun hc=>(bD qV r))<|og r r r (fun hc=>(aJ (v:=aL) rG (gx r hc) r r)) ?_
   obtain ⟨x24,hx24,h25⟩:=aG h23
   refine yS r r (fun hc=>bC (v:=aB) r (kE (dW hx24 hc)) ⟨(fK (gx r hc) lr),lr,trivial⟩ (gJ (by repeat (first | exact fF | refine aZ r ?_ | refine aZ (uH r) ?_ | refine aZ uG ?_))) r r) ?_
   refine og r r r (fun hc=>(fH (gx r hc)))<|aT r (cE r r r (fun e=>fW e))<|sB r<|aH (fr':=[(2,aB)]) r r<|bI ?_
   obtain rfl:=sy h25
   exact bH (rs':=[.tmp 2]) r<|bP (v:=aB) r<|bG<|aQ [] r r r lr aF
noncomputable def kQ (bV:bL):Option Unit :=
 some ()
theorem sG {bV:bL}{res:Unit} (h:kQ bV=some res):cC Tryz.prog 146 [.box 0 0] [AV.cs (jX bV)] (.ptrs [(0,1),(0,2),(0,3),(0,4),(0,5),(0,6),(0,7),(0,8)]) [AV.cs (jX bV)]:=by
 unfold kQ at h
 refine cY (fn:=Tryz.f146) [0,2] (by kernel_rfl) Tryz.func146 r (by kernel_rfl) (by kernel_rfl)<|aK<|sV (v:=AV.nil) r<|aH (fr':=[(0,.box 0 0)]) r r<|aU<|jD [.q 0,.q 1,.q 2,.q 3,.q 4,.q 5,.q 6,.q 7,.q 8,.q 9,.q 10,.q 11,.q 12,.q 13,.q 14,.q 15,.q 16,.q 17,.q 18,.q 19,.q 20,.q 21,.q 22,.q 23,.n 24 [],.n 25 []] [(some 3,[0]),(some 4,[3]),(some 5,[4]),(some 6,[0]),(some 7,[6]),(some 8,[7]),(some 9,[0]),(some 10,[9]),(some 11,[10]),(some 12,[0]),(some 13,[12]),(some 14,[13]),(some 15,[0]),(some 16,[15]),(some 17,[16]),(some 18,[0]),(some 19,[18]),(some 20,[19]),(some 21,[0]),(some 22,[21]),(some 23,[22]),(some 24,[0]),(some 25,[24]),(some 26,[25]),(some 27,[5,8,11,14,17,20,23,26]),(some 2,[27])] [0,1,3,0,8,24,0,64,192,0,512,1536,0,4096,12288,0,32768,98304,0,262144,786432,0,2097152,6291456,16777215,33554431] (by kernel_rfl)<|dq r r (bA (v:=.box 0 0) r)<|dq r r (gB r)<|dq r r (bD aF0 r)<|dq r r (bA (v:=.box 0 0) r)<|dq r r (gB r)<|dq r r (bD aF1 r) ?_
 refine dq r r (bA (v:=.box 0 0) r)<|dq r r (gB r)<|dq r r (bD aF2 r)<|dq r r (bA (v:=.box 0 0) r)<|dq r r (gB r)<|dq r r (bD aF3 r)<|dq r r (bA (v:=.box 0 0) r)<|dq r r (gB r)<|dq r r (bD aF4 r)<|dq r r (bA (v:=.box 0 0) r)<|dq r r (gB r)<|dq r r (bD aF5 r)<|dq r r (bA (v:=.box 0 0) r) ?_
 refine dq r r (gB r)<|dq r r (bD aF6 r)<|dq r r (bA (v:=.box 0 0) r)<|dq r r (gB r)<|dq r r (bD aF7 r)<|d_n r ?_ r
 refine aNr (l:=[(0,1),(0,2),(0,3),(0,4),(0,5),(0,6),(0,7),(0,8)]) pO r r r r<|aBD<|⟨pS,?_⟩
 refine d_n r ?_ r
 refine sV (v:=.ptrs [(0,1),(0,2),(0,3),(0,4),(0,5),(0,6),(0,7),(0,8)]) r<|aBD<|⟨pS,?_⟩
 refine xA (fr':=[(2,.ptrs [(0,1),(0,2),(0,3),(0,4),(0,5),(0,6),(0,7),(0,8)])]) r r<|bI ?_
 obtain rfl:=sy h
 exact bH (rs':=[.tmp 2]) r<|bP (v:=.ptrs [(0,1),(0,2),(0,3),(0,4),(0,5),(0,6),(0,7),(0,8)]) r<|bG<|aK1 [] r r r lr (cZ r aF)
noncomputable def oE (p1o:bL) (s31:((List UInt8) × Int)):Option (bS ((List UInt8) × Int) (List UInt8)) :=
 cond (decide (s31.2<((p1o.Fatal).length:Int))) ((jV p1o.Fatal s31.2).bind fun x33=>(hU s31.1 x33).bind fun x35=>some (bS.next (x35,(IntKind.wrap .i64 (s31.2+(1:Int)))))) (some (bS.out s31.1))
noncomputable def oR (p0b:(List UInt8)) (p1o:bL):Option (List UInt8) :=
 (hU p0b p1o.Queue).bind fun x1=>(kQ p1o).bind fun x3=>(eR x1 p1o.ToStart).bind fun x6=>(eR x6 p1o.ToClose).bind fun x8=>(eR x8 p1o.Total).bind fun x11=>(eR x11 p1o.Beat).bind fun x13=>(eR x13 p1o.First).bind fun x16=>(eR x16 p1o.Coef).bind fun x18=>(eR x18 p1o.Most).bind fun x21=>(eR x21 p1o.Attempts).bind fun x23=>(eR x23 ((p1o.Fatal).length:Int)).bind fun x26=>((dL (oE p1o) ((x26,(0:Int)))):Option (List UInt8)).bind fun x28=>(some x28)
theorem aDS {p0b:(List UInt8)}{p1o:bL}{res:(List UInt8)} (h:oR p0b p1o=some res):cC Tryz.prog 131 [.c (PV.ls 1 gA p0b),.agg (AV.cs (jX p1o))] [] (AV.os 0 1 gA res) []:=by
 unfold oR at h
 refine cY (fn:=Tryz.f131) [0,1,3,4,6,8,13,14,15,16,31,32,33,34] (by kernel_rfl) Tryz.func131 r (by kernel_rfl) (by kernel_rfl)<|aK<|iH (v:=.agg cI) (n:=0) (cs:=cI) (σ':=[cI]) r r r r r<|sV (v:=AV.nil) r<|aH (fr':=[(0,aL),(3,.box 0 0)]) r r<|aK<|mL r<|aT r (bD aBa r)<|aT r (aJ (v:=aS) nE r r r) ?_
 obtain ⟨x1,hx1,h2⟩:=aG h
 refine lM (bC (v:=aO) r (kI hx1) ⟨lr,lr,trivial⟩ r r r)<|sV (v:=aO) r<|aH (fr':=[(0,aO),(3,.box 0 0)]) r r<|aU<|aU<|aX ?_
 obtain ⟨x3,hx3,h4⟩:=aG h2
 refine xI (v:=.ptrs [(0,1),(0,2),(0,3),(0,4),(0,5),(0,6),(0,7),(0,8)]) (σ':=[cI]) 13 [0] [] r (sG hx3) r r r ⟨lr,trivial⟩ (eW ⟨r,r,r,r,r,r,r,r,r,r,trivial⟩ aF) r r r<|aT r (aKp aP2 r)<|mI r<|aH (fr':=[(0,aO),(3,.box 0 0),(13,.ptrs [(0,1),(0,2),(0,3),(0,4),(0,5),(0,6),(0,7),(0,8)]),(14,aI),(15,aI)]) r r<|bZ<|aNZ 64<|sU<|aK<|aT r (uL (fM r r) (show _=.bool true from r))<|aH (fr':=[(0,aO),(3,.box 0 0),(13,.ptrs [(0,1),(0,2),(0,3),(0,4),(0,5),(0,6),(0,7),(0,8)]),(14,aI),(15,aI),(16,aB)]) r r<|aU<|gT r ?_
 refine bJ<|cM<|aU<|bZ<|aK<|aT r (lB (p:=(0,1)) pO r r r)<|aT r (gE qG r)<|sV (v:=.box 0 1) r<|aH (fr':=[(0,aO),(3,.box 0 0),(6,.box 0 1),(13,.ptrs [(0,1),(0,2),(0,3),(0,4),(0,5),(0,6),(0,7),(0,8)]),(14,aI),(15,aI)]) r r<|aX<|mV (v:=aO) r<|mV (v:=.box 0 1) r ?_
 refine aT r (gB r)<|aT r (aJ (v:=aI) fY r r r) ?_
 obtain ⟨x6,hx6,h7⟩:=aG h4
 refine lM (bC (v:=aO) r (eS hx6) ⟨lr,lr,trivial⟩ r r r)<|sV (v:=aO) r<|dT (fr':=[(0,aO),(3,.box 0 0),(6,.box 0 1),(13,.ptrs [(0,1),(0,2),(0,3),(0,4),(0,5),(0,6),(0,7),(0,8)]),(14,aI),(15,aI)]) r<|dH<|cM<|aX<|aT r (uL (fL r r) (show _=.int .i64 (1:Int) from r))<|mI r<|dT (fr':=[(0,aO),(3,.box 0 0),(6,.box 0 1),(13,.ptrs [(0,1),(0,2),(0,3),(0,4),(0,5),(0,6),(0,7),(0,8)]),(14,aI),(15,aI)]) r<|iV<|sU<|aU<|aX ?_
 refine aT r (uL (fM r r) (show _=.bool true from r))<|aH (fr':=[(0,aO),(3,.box 0 0),(13,.ptrs [(0,1),(0,2),(0,3),(0,4),(0,5),(0,6),(0,7),(0,8)]),(14,aI),(15,aI),(16,aB)]) r r<|aU<|gT r<|bJ<|cM<|aU<|bZ<|aK<|aT r (lB (p:=(0,2)) pO r r r)<|aT r (gE qG r)<|sV (v:=.box 0 2) r ?_
 refine aH (fr':=[(0,aO),(3,.box 0 0),(6,.box 0 2),(13,.ptrs [(0,1),(0,2),(0,3),(0,4),(0,5),(0,6),(0,7),(0,8)]),(14,aI),(15,aI)]) r r<|aX<|mV (v:=aO) r<|mV (v:=.box 0 2) r<|aT r (gB r)<|aT r (aJ (v:=aI) fY r r r) ?_
 obtain ⟨x8,hx8,h9⟩:=aG h7
 refine xI (v:=aO) (σ':=[cI]) 50010 [] [] r (eS hx8) r r r ⟨lr,lr,trivial⟩ aF r r r<|sV (v:=aO) r<|dT (fr':=[(0,aO),(3,.box 0 0),(6,.box 0 2),(13,.ptrs [(0,1),(0,2),(0,3),(0,4),(0,5),(0,6),(0,7),(0,8)]),(14,aI),(15,aI)]) r<|dH<|cM<|aX<|aT r (uL (fL r r) (show _=.int .i64 (2:Int) from r))<|mI r<|dT (fr':=[(0,aO),(3,.box 0 0),(6,.box 0 2),(13,.ptrs [(0,1),(0,2),(0,3),(0,4),(0,5),(0,6),(0,7),(0,8)]),(14,aI),(15,aI)]) r<|iV<|sU<|aU<|aX ?_
 refine aT r (uL (fM r r) (show _=.bool true from r))<|aH (fr':=[(0,aO),(3,.box 0 0),(13,.ptrs [(0,1),(0,2),(0,3),(0,4),(0,5),(0,6),(0,7),(0,8)]),(14,aI),(15,aI),(16,aB)]) r r<|aU<|gT r<|bJ<|cM<|aU<|bZ<|aK<|aT r (lB (p:=(0,3)) pO r r r)<|aT r (gE qG r)<|sV (v:=.box 0 3) r ?_
 refine aH (fr':=[(0,aO),(3,.box 0 0),(6,.box 0 3),(13,.ptrs [(0,1),(0,2),(0,3),(0,4),(0,5),(0,6),(0,7),(0,8)]),(14,aI),(15,aI)]) r r<|aX<|mV (v:=aO) r<|mV (v:=.box 0 3) r<|aT r (gB r)<|aT r (aJ (v:=aI) fY r r r) ?_
 obtain ⟨x11,hx11,h12⟩:=aG h9
 refine lM (bC (v:=aO) r (eS hx11) ⟨lr,lr,trivial⟩ r r r)<|sV (v:=aO) r<|dT (fr':=[(0,aO),(3,.box 0 0),(6,.box 0 3),(13,.ptrs [(0,1),(0,2),(0,3),(0,4),(0,5),(0,6),(0,7),(0,8)]),(14,aI),(15,aI)]) r<|dH<|cM<|aX<|aT r (uL (fL r r) (show _=.int .i64 (3:Int) from r))<|mI r<|dT (fr':=[(0,aO),(3,.box 0 0),(6,.box 0 3),(13,.ptrs [(0,1),(0,2),(0,3),(0,4),(0,5),(0,6),(0,7),(0,8)]),(14,aI),(15,aI)]) r<|iV<|sU<|aU<|aX ?_
 refine aT r (uL (fM r r) (show _=.bool true from r))<|aH (fr':=[(0,aO),(3,.box 0 0),(13,.ptrs [(0,1),(0,2),(0,3),(0,4),(0,5),(0,6),(0,7),(0,8)]),(14,aI),(15,aI),(16,aB)]) r r<|aU<|gT r<|bJ<|cM<|aU<|bZ<|aK<|aT r (lB (p:=(0,4)) pO r r r)<|aT r (gE qG r)<|sV (v:=.box 0 4) r ?_
 refine aH (fr':=[(0,aO),(3,.box 0 0),(6,.box 0 4),(13,.ptrs [(0,1),(0,2),(0,3),(0,4),(0,5),(0,6),(0,7),(0,8)]),(14,aI),(15,aI)]) r r<|aX<|mV (v:=aO) r<|mV (v:=.box 0 4) r<|aT r (gB r)<|aT r (aJ (v:=aI) fY r r r) ?_
 obtain ⟨x13,hx13,h14⟩:=aG h12
 refine xI (v:=aO) (σ':=[cI]) 50015 [] [] r (eS hx13) r r r ⟨lr,lr,trivial⟩ aF r r r<|sV (v:=aO) r<|dT (fr':=[(0,aO),(3,.box 0 0),(6,.box 0 4),(13,.ptrs [(0,1),(0,2),(0,3),(0,4),(0,5),(0,6),(0,7),(0,8)]),(14,aI),(15,aI)]) r<|dH<|cM<|aX<|aT r (uL (fL r r) (show _=.int .i64 (4:Int) from r))<|mI r<|dT (fr':=[(0,aO),(3,.box 0 0),(6,.box 0 4),(13,.ptrs [(0,1),(0,2),(0,3),(0,4),(0,5),(0,6),(0,7),(0,8)]),(14,aI),(15,aI)]) r<|iV<|sU<|aU<|aX ?_
 refine aT r (uL (fM r r) (show _=.bool true from r))<|aH (fr':=[(0,aO),(3,.box 0 0),(13,.ptrs [(0,1),(0,2),(0,3),(0,4),(0,5),(0,6),(0,7),(0,8)]),(14,aI),(15,aI),(16,aB)]) r r<|aU<|gT r<|bJ<|cM<|aU<|bZ<|aK<|aT r (lB (p:=(0,5)) pO r r r)<|aT r (gE qG r)<|sV (v:=.box 0 5) r ?_
 refine aH (fr':=[(0,aO),(3,.box 0 0),(6,.box 0 5),(13,.ptrs [(0,1),(0,2),(0,3),(0,4),(0,5),(0,6),(0,7),(0,8)]),(14,aI),(15,aI)]) r r<|aX<|mV (v:=aO) r<|mV (v:=.box 0 5) r<|aT r (gB r)<|aT r (aJ (v:=aI) fY r r r) ?_
 obtain ⟨x16,hx16,h17⟩:=aG h14
 refine lM (bC (v:=aO) r (eS hx16) ⟨lr,lr,trivial⟩ r r r)<|sV (v:=aO) r<|dT (fr':=[(0,aO),(3,.box 0 0),(6,.box 0 5),(13,.ptrs [(0,1),(0,2),(0,3),(0,4),(0,5),(0,6),(0,7),(0,8)]),(14,aI),(15,aI)]) r<|dH<|cM<|aX<|aT r (uL (fL r r) (show _=.int .i64 (5:Int) from r))<|mI r<|dT (fr':=[(0,aO),(3,.box 0 0),(6,.box 0 5),(13,.ptrs [(0,1),(0,2),(0,3),(0,4),(0,5),(0,6),(0,7),(0,8)]),(14,aI),(15,aI)]) r<|iV<|sU<|aU<|aX ?_
 refine aT r (uL (fM r r) (show _=.bool true from r))<|aH (fr':=[(0,aO),(3,.box 0 0),(13,.ptrs [(0,1),(0,2),(0,3),(0,4),(0,5),(0,6),(0,7),(0,8)]),(14,aI),(15,aI),(16,aB)]) r r<|aU<|gT r<|bJ<|cM<|aU<|bZ<|aK<|aT r (lB (p:=(0,6)) pO r r r)<|aT r (gE qG r)<|sV (v:=.box 0 6) r ?_
 refine aH (fr':=[(0,aO),(3,.box 0 0),(6,.box 0 6),(13,.ptrs [(0,1),(0,2),(0,3),(0,4),(0,5),(0,6),(0,7),(0,8)]),(14,aI),(15,aI)]) r r<|aX<|mV (v:=aO) r<|mV (v:=.box 0 6) r<|aT r (gB r)<|aT r (aJ (v:=aI) fY r r r) ?_
 obtain ⟨x18,hx18,h19⟩:=aG h17
 refine xI (v:=aO) (σ':=[cI]) 50020 [] [] r (eS hx18) r r r ⟨lr,lr,trivial⟩ aF r r r<|sV (v:=aO) r<|dT (fr':=[(0,aO),(3,.box 0 0),(6,.box 0 6),(13,.ptrs [(0,1),(0,2),(0,3),(0,4),(0,5),(0,6),(0,7),(0,8)]),(14,aI),(15,aI)]) r<|dH<|cM<|aX<|aT r (uL (fL r r) (show _=.int .i64 (6:Int) from r))<|mI r<|dT (fr':=[(0,aO),(3,.box 0 0),(6,.box 0 6),(13,.ptrs [(0,1),(0,2),(0,3),(0,4),(0,5),(0,6),(0,7),(0,8)]),(14,aI),(15,aI)]) r<|iV<|sU<|aU<|aX ?_
 refine aT r (uL (fM r r) (show _=.bool true from r))<|aH (fr':=[(0,aO),(3,.box 0 0),(13,.ptrs [(0,1),(0,2),(0,3),(0,4),(0,5),(0,6),(0,7),(0,8)]),(14,aI),(15,aI),(16,aB)]) r r<|aU<|gT r<|bJ<|cM<|aU<|bZ<|aK<|aT r (lB (p:=(0,7)) pO r r r)<|aT r (gE qG r)<|sV (v:=.box 0 7) r ?_
 refine aH (fr':=[(0,aO),(3,.box 0 0),(6,.box 0 7),(13,.ptrs [(0,1),(0,2),(0,3),(0,4),(0,5),(0,6),(0,7),(0,8)]),(14,aI),(15,aI)]) r r<|aX<|mV (v:=aO) r<|mV (v:=.box 0 7) r<|aT r (gB r)<|aT r (aJ (v:=aI) fY r r r) ?_
 obtain ⟨x21,hx21,h22⟩:=aG h19
 refine lM (bC (v:=aO) r (eS hx21) ⟨lr,lr,trivial⟩ r r r)<|sV (v:=aO) r<|dT (fr':=[(0,aO),(3,.box 0 0),(6,.box 0 7),(13,.ptrs [(0,1),(0,2),(0,3),(0,4),(0,5),(0,6),(0,7),(0,8)]),(14,aI),(15,aI)]) r<|dH<|cM<|aX<|aT r (uL (fL r r) (show _=.int .i64 (7:Int) from r))<|mI r<|dT (fr':=[(0,aO),(3,.box 0 0),(6,.box 0 7),(13,.ptrs [(0,1),(0,2),(0,3),(0,4),(0,5),(0,6),(0,7),(0,8)]),(14,aI),(15,aI)]) r<|iV<|sU<|aU<|aX ?_
 refine aT r (uL (fM r r) (show _=.bool true from r))<|aH (fr':=[(0,aO),(3,.box 0 0),(13,.ptrs [(0,1),(0,2),(0,3),(0,4),(0,5),(0,6),(0,7),(0,8)]),(14,aI),(15,aI),(16,aB)]) r r<|aU<|gT r<|bJ<|cM<|aU<|bZ<|aK<|aT r (lB (p:=(0,8)) pO r r r)<|aT r (gE qG r)<|sV (v:=.box 0 8) r ?_
 refine aH (fr':=[(0,aO),(3,.box 0 0),(6,.box 0 8),(13,.ptrs [(0,1),(0,2),(0,3),(0,4),(0,5),(0,6),(0,7),(0,8)]),(14,aI),(15,aI)]) r r<|aX<|mV (v:=aO) r<|mV (v:=.box 0 8) r<|aT r (gB r)<|aT r (aJ (v:=aI) fY r r r) ?_
 obtain ⟨x23,hx23,h24⟩:=aG h22
 refine xI (v:=aO) (σ':=[cI]) 50025 [] [] r (eS hx23) r r r ⟨lr,lr,trivial⟩ aF r r r<|sV (v:=aO) r<|dT (fr':=[(0,aO),(3,.box 0 0),(6,.box 0 8),(13,.ptrs [(0,1),(0,2),(0,3),(0,4),(0,5),(0,6),(0,7),(0,8)]),(14,aI),(15,aI)]) r<|dH<|cM<|aX<|aT r (uL (fL r r) (show _=.int .i64 (8:Int) from r))<|mI r<|dT (fr':=[(0,aO),(3,.box 0 0),(6,.box 0 8),(13,.ptrs [(0,1),(0,2),(0,3),(0,4),(0,5),(0,6),(0,7),(0,8)]),(14,aI),(15,aI)]) r<|iV<|sU<|aU<|aX ?_
 refine aT r (uL (fM r r) (show _=.bool false from r))<|aH (fr':=[(0,aO),(3,.box 0 0),(13,.ptrs [(0,1),(0,2),(0,3),(0,4),(0,5),(0,6),(0,7),(0,8)]),(14,aI),(15,aI),(16,aB)]) r r<|aU<|aBh r<|hH<|cX<|cX<|fU<|cM<|aK<|mV (v:=aO) r<|aT r (bD qV r) ?_
 refine aT r (aJ (v:=aL) rG r r r)<|aT r (gN yQ (eO r)) ?_
 obtain ⟨x26,hx26,h27⟩:=aG h24
 refine lM (bC (v:=aO) r (eS hx26) ⟨lr,lr,trivial⟩ r r r)<|sV (v:=aO) r<|aH (fr':=[(0,aO),(3,.box 0 0)]) r r<|aU<|aK<|aT r (bD qV r)<|aT r (aJ (v:=aL) rG r r r)<|aT r (gN yQ (eO r))<|mI r<|aH (fr':=[(0,aO),(31,aL),(32,aI),(33,aI)]) r r ?_
 obtain ⟨x28,hx28,h29⟩:=aG h27
 refine gZ mO (fun j30=>x28=j30) (fun (j30:(List UInt8))=>([(0,AV.os 0 1 gA j30)]:Fr)) (fun (j30:(List UInt8))=>([[.c (.str p1o.Queue),ci p1o.ToStart,ci p1o.ToClose,ci p1o.Total,ci p1o.Beat,ci p1o.First,ci p1o.Coef,ci p1o.Most,ci p1o.Attempts,.c (PV.ls 1 gL p1o.Fatal)]]:St)) ?_ ?_
 ·
  refine bZ<|gU _ (fun (s31:((List UInt8) × Int))=>([(0,AV.os 0 1 gA s31.1),(31,.c (PV.ls 1 gL p1o.Fatal)),(32,ci ((p1o.Fatal).length:Int)),(33,ci s31.2)]:Fr)) (fun (s31:((List UInt8) × Int))=>([[.c (.str p1o.Queue),ci p1o.ToStart,ci p1o.ToClose,ci p1o.Total,ci p1o.Beat,ci p1o.First,ci p1o.Coef,ci p1o.Most,ci p1o.Attempts,.c (PV.ls 1 gL p1o.Fatal)]]:St)) hx28 (bT [464] 1 r r r r ⟨lr,lr,lr,lr,trivial⟩ (cZ r aF)) ?_
  intro s31 st31 hs31 ho31
  unfold oE at hs31
  refine aK<|aT r (fM r r)<|aH (fr':=[(0,aO),(31,aL),(32,aI),(33,aI),(34,aB)]) r r<|aU<|cV hs31 r (fun hb32 h32=>?_) (fun hb32 h32=>?_)
  ·
   refine bJ<|cM<|aU<|bZ<|aU<|aX ?_
   obtain ⟨x33,hx33,h34⟩:=aG h32
   refine aT r (oV (cs:=[PV.str _]) aAe (eO r) r hx33 r)<|aT r (jW (p:=PV.str _) nE r r)<|sS r<|aH (fr':=[(0,aO),(8,aS),(31,aL),(32,aI),(33,aI)]) r r<|aX<|mV (v:=aO) r<|mS r ?_
   obtain ⟨x35,hx35,h36⟩:=aG h34
   exact lM (bC (v:=aO) r (kI hx35) ⟨lr,lr,trivial⟩ r r r)<|sV (v:=aO) r<|dT (fr':=[(0,aO),(8,aS),(31,aL),(32,aI),(33,aI)]) r<|dH<|cM<|aX<|aT r (fL r r)<|mI r<|dT (fr':=[(0,aO),(8,aS),(31,aL),(32,aI),(33,aI)]) r<|e_l _ (sy h36) (bT [624] 1 r r r r ⟨lr,lr,lr,lr,trivial⟩ (cZ r aF))
  ·
   refine hH<|cX<|cX<|fU ?_
   have h37:=eY h32 ho31
   exact pG _ (sy h37) (bT [0] 1 r r r r ⟨lr,trivial⟩ (cZ r aF))
 ·
  intro j30 hj38
  subst hj38
  refine cM<|aK<|mV (v:=aO) r<|sV (v:=aO) r<|aH (fr':=[(4,aO)]) r r<|bI ?_
  obtain rfl:=sy h29
  exact bH (rs':=[.tmp 4]) r<|bP (v:=aO) r<|bG<|aQ [0] r r r lr aF
noncomputable def sD (aEy:aC→Option Int) (p0v:aC) (s4:(Int × Int)):Option (bS (Int × Int) Int) :=
 cond (decide (s4.2<((p0v.Items).length:Int))) ((jV p0v.Items s4.2).bind fun x6=>(aEy x6).bind fun x8=>some (bS.next ((if x8 > s4.1 then x8 else s4.1),(IntKind.wrap .i64 (s4.2+(1:Int)))))) (some (bS.out s4.1))
noncomputable def nN:Nat→aC→Option Int
 | 0,_=>none
 | n+1,p0v =>
  ((dL (sD (nN n) p0v) (((0:Int),(0:Int)))):Option Int).bind fun x1=>(some (IntKind.wrap .i64 (x1+(1:Int))))
theorem aGh:∀ n:Nat,(∀ {p0v:aC}{res:Int},nN n p0v=some res→cC Tryz.prog 191 [.agg (AV.cs (eF p0v))] [] (ci res) []):=by
 intro n
 induction n with
 | zero=>exact fun {p0v res} h=>absurd h (by simp [nN])
 | succ n ih =>
  have ih_value_Depth:=@ih
  intro p0v res h
  rw [nN] at h
  refine cY (fn:=Tryz.f191) [0,1,2,3,5,7,8,9,10] (by kernel_rfl) Tryz.func191 r (by kernel_rfl) (by kernel_rfl)<|aK<|iH (v:=.agg bQ) (n:=0) (cs:=bQ) (σ':=[bQ]) r r r r r<|sI r<|aH (fr':=[(1,.box 0 0)]) r r<|aK<|sI r<|aH (fr':=[(1,.box 0 0),(3,aI)]) r r<|aU<|aU<|aX ?_
  refine aT r (bD kY r)<|aT r (aJ (v:=aL) vM r r r)<|aT r (gN aAE (eO r))<|mI r<|aH (fr':=[(3,aI),(7,aL),(8,aI),(9,aI)]) r r ?_
  obtain ⟨x1,hx1,h2⟩:=aG h
  refine gZ mO (fun j3=>x1=j3) (fun (j3:Int)=>([(3,ci j3)]:Fr)) (fun (j3:Int)=>([[ci p0v.Kind,ci p0v.Int,.c (.str p0v.Text),.c (PV.ls 5 bM p0v.Items),.c (PV.ls 1 gL p0v.Keys)]]:St)) ?_ ?_
  ·
   refine bZ<|gU _ (fun (s4:(Int × Int))=>([(3,ci s4.1),(7,.c (PV.ls 5 bM p0v.Items)),(8,ci ((p0v.Items).length:Int)),(9,ci s4.2)]:Fr)) (fun (s4:(Int × Int))=>([[ci p0v.Kind,ci p0v.Int,.c (.str p0v.Text),.c (PV.ls 5 bM p0v.Items),.c (PV.ls 1 gL p0v.Keys)]]:St)) hx1 (bT [] 1 r r r r ⟨lr,lr,lr,lr,trivial⟩ (cZ r aF)) ?_
   intro s4 st4 hs4 ho4
   unfold sD at hs4
   refine aK<|aT r (fM r r)<|aH (fr':=[(3,aI),(7,aL),(8,aI),(9,aI),(10,aB)]) r r<|aU<|cV hs4 r (fun hb5 h5=>?_) (fun hb5 h5=>?_)
   ·
    refine bJ<|cM<|aU<|bZ<|aU<|aX ?_
    obtain ⟨x6,hx6,h7⟩:=aG h5
    refine aT r (oV (cs:=[PV.int _ _,PV.int _ _,PV.str _,PV.ls _ _ _,PV.ls _ _ _]) aBE (eO r) r hx6 (eT _))<|aT r (lW (us:=[PV.int _ _,PV.int _ _,PV.str _,PV.ls _ _ _,PV.ls _ _ _]) gV r r r)<|iG (n:=1) (cs:=bK) (σ':=[bQ,bK]) aED r r r<|bU (v:=.agg bQ) (us:=bQ) (cs:=bK) (σ':=[bQ,bQ]) r gV r r r r r r r r<|aH (fr':=[(3,aI),(5,.box 1 0),(7,aL),(8,aI),(9,aI)]) r r<|aX<|mI r<|aT r (dJ (us:=bQ) gV r r r r) ?_
    obtain ⟨x8,hx8,h9⟩:=aG h7
    exact lM (bC (v:=aI) r (ih_value_Depth hx8) ⟨(bO r ⟨r,r,r,r,r,trivial⟩),trivial⟩ r r r)<|aT r (aQo r r)<|sI r<|dT (fr':=[(3,aI),(5,.box 1 0),(7,aL),(8,aI),(9,aI)]) r<|dH<|cM<|aX<|aT r (fL r r)<|mI r<|dT (fr':=[(3,aI),(5,.box 1 0),(7,aL),(8,aI),(9,aI)]) r<|e_l _ (sy h9) (bT [] 1 r r r r ⟨lr,lr,lr,lr,trivial⟩ (cZ r aF))
   ·
    refine hH<|cX<|cX<|fU ?_
    have h10:=eY h5 ho4
    exact pG _ (sy h10) (bT [] 1 r r r r ⟨lr,trivial⟩ (cZ r aF))
  ·
   intro j3 hj11
   subst hj11
   refine cM<|aK<|mI r<|aT r (fL r r)<|sI r<|aH (fr':=[(2,aI)]) r r<|bI ?_
   obtain rfl:=sy h2
   exact bH (rs':=[.tmp 2]) r<|bP (v:=aI) r<|bG<|aQ [] r r r lr aF
noncomputable def aBd (p0v:aC):Option Int:=lim fun n=>nN n p0v
theorem aGQ {p0v:aC}{res:Int} (h:aBd p0v=some res):cC Tryz.prog 191 [.agg (AV.cs (eF p0v))] [] (ci res) []:=by
 obtain ⟨n,hn⟩:=pZ h
 exact (aGh n) hn
noncomputable def tP (aFQ:aC→Option Int) (p0v:aC) (s4:(Int × Int)):Option (bS (Int × Int) Int) :=
 cond (decide (s4.2<((p0v.Items).length:Int))) ((jV p0v.Items s4.2).bind fun x6=>(aFQ x6).bind fun x8=>some (bS.next ((IntKind.wrap .i64 (s4.1+x8)),(IntKind.wrap .i64 (s4.2+(1:Int)))))) (some (bS.out s4.1))
noncomputable def pE:Nat→aC→Option Int
 | 0,_=>none
 | n+1,p0v =>
  ((dL (tP (pE n) p0v) (((1:Int),(0:Int)))):Option Int).bind fun x1=>(some x1)
theorem aGM:∀ n:Nat,(∀ {p0v:aC}{res:Int},pE n p0v=some res→cC Tryz.prog 192 [.agg (AV.cs (eF p0v))] [] (ci res) []):=by
 intro n
 induction n with
 | zero=>exact fun {p0v res} h=>absurd h (by simp [pE])
 | succ n ih =>
  have ih_value_Size:=@ih
  intro p0v res h
  rw [pE] at h
  refine cY (fn:=Tryz.f192) [0,1,2,3,5,7,8,9,10] (by kernel_rfl) Tryz.func192 r (by kernel_rfl) (by kernel_rfl)<|aK<|iH (v:=.agg bQ) (n:=0) (cs:=bQ) (σ':=[bQ]) r r r r r<|sI r<|aH (fr':=[(1,.box 0 0)]) r r<|aK<|sI r<|aH (fr':=[(1,.box 0 0),(3,aI)]) r r<|aU<|aU<|aX ?_
  refine aT r (bD kY r)<|aT r (aJ (v:=aL) vM r r r)<|aT r (gN aAE (eO r))<|mI r<|aH (fr':=[(3,aI),(7,aL),(8,aI),(9,aI)]) r r ?_
  obtain ⟨x1,hx1,h2⟩:=aG h
  refine gZ mO (fun j3=>x1=j3) (fun (j3:Int)=>([(3,ci j3)]:Fr)) (fun (j3:Int)=>([[ci p0v.Kind,ci p0v.Int,.c (.str p0v.Text),.c (PV.ls 5 bM p0v.Items),.c (PV.ls 1 gL p0v.Keys)]]:St)) ?_ ?_
  ·
   refine bZ<|gU _ (fun (s4:(Int × Int))=>([(3,ci s4.1),(7,.c (PV.ls 5 bM p0v.Items)),(8,ci ((p0v.Items).length:Int)),(9,ci s4.2)]:Fr)) (fun (s4:(Int × Int))=>([[ci p0v.Kind,ci p0v.Int,.c (.str p0v.Text),.c (PV.ls 5 bM p0v.Items),.c (PV.ls 1 gL p0v.Keys)]]:St)) hx1 (bT [] 1 r r r r ⟨lr,lr,lr,lr,trivial⟩ (cZ r aF)) ?_
   intro s4 st4 hs4 ho4
   unfold tP at hs4
   refine aK<|aT r (fM r r)<|aH (fr':=[(3,aI),(7,aL),(8,aI),(9,aI),(10,aB)]) r r<|aU<|cV hs4 r (fun hb5 h5=>?_) (fun hb5 h5=>?_)
   ·
    refine bJ<|cM<|aU<|bZ<|aU<|aX ?_
    obtain ⟨x6,hx6,h7⟩:=aG h5
    refine aT r (oV (cs:=[PV.int _ _,PV.int _ _,PV.str _,PV.ls _ _ _,PV.ls _ _ _]) aBE (eO r) r hx6 (eT _))<|aT r (lW (us:=[PV.int _ _,PV.int _ _,PV.str _,PV.ls _ _ _,PV.ls _ _ _]) gV r r r)<|iG (n:=1) (cs:=bK) (σ':=[bQ,bK]) aED r r r<|bU (v:=.agg bQ) (us:=bQ) (cs:=bK) (σ':=[bQ,bQ]) r gV r r r r r r r r<|aH (fr':=[(3,aI),(5,.box 1 0),(7,aL),(8,aI),(9,aI)]) r r<|aX<|mI r<|aT r (dJ (us:=bQ) gV r r r r) ?_
    obtain ⟨x8,hx8,h9⟩:=aG h7
    exact lM (bC (v:=aI) r (ih_value_Size hx8) ⟨(bO r ⟨r,r,r,r,r,trivial⟩),trivial⟩ r r r)<|aT r (fL r r)<|sI r<|dT (fr':=[(3,aI),(5,.box 1 0),(7,aL),(8,aI),(9,aI)]) r<|dH<|cM<|aX<|aT r (fL r r)<|mI r<|dT (fr':=[(3,aI),(5,.box 1 0),(7,aL),(8,aI),(9,aI)]) r<|e_l _ (sy h9) (bT [] 1 r r r r ⟨lr,lr,lr,lr,trivial⟩ (cZ r aF))
   ·
    refine hH<|cX<|cX<|fU ?_
    have h10:=eY h5 ho4
    exact pG _ (sy h10) (bT [] 1 r r r r ⟨lr,trivial⟩ (cZ r aF))
  ·
   intro j3 hj11
   subst hj11
   refine cM<|aK<|mI r<|sI r<|aH (fr':=[(2,aI)]) r r<|bI ?_
   obtain rfl:=sy h2
   exact bH (rs':=[.tmp 2]) r<|bP (v:=aI) r<|bG<|aQ [] r r r lr aF
noncomputable def aCk (p0v:aC):Option Int:=lim fun n=>pE n p0v
theorem aH9 {p0v:aC}{res:Int} (h:aCk p0v=some res):cC Tryz.prog 192 [.agg (AV.cs (eF p0v))] [] (ci res) []:=by
 obtain ⟨n,hn⟩:=pZ h
 exact (aGM n) hn
noncomputable def tQ (p0k:(List UInt8)):Option Bool :=
 some (decide ((4096:Int)<((p0k).length:Int)))
theorem aEJ {p0k:(List UInt8)}{res:Bool} (h:tQ p0k=some res):cC Tryz.prog 208 [.c (.str p0k)] [] (.c (.bool res)) []:=by
 unfold tQ at h
 refine cY (fn:=Tryz.f208) [0,2] (by kernel_rfl) Tryz.func208 r (by kernel_rfl) (by kernel_rfl)<|aK<|sB r<|aH (fr':=[(0,aS)]) r r<|aK<|mS r<|aT r (nI wT r)<|aT r (sJ r r)<|sB r<|aH (fr':=[(2,aB)]) r r<|bI ?_
 obtain rfl:=sy h
 exact bH (rs':=[.tmp 2]) r<|bP (v:=aB) r<|bG<|aQ [] r r r lr aF
noncomputable def eK (p0s:(List (List UInt8))) (s4:Int):Option (bS Int (Fl Int Unit)) :=
 cond (decide (s4<((p0s).length:Int))) ((jV p0s s4).bind fun x6=>(tQ x6).bind fun x8=>cond x8 (some (bS.out (Fl.done s4))) (some (bS.next (IntKind.wrap .i64 (s4+(1:Int)))))) (some (bS.out (Fl.go ())))
noncomputable def fC (p0s:(List (List UInt8))):Option Int :=
 ((dL (eK p0s) ((0:Int))):Option (Fl Int Unit)).bind fun x1=>Fl.next x1 (fun j3=>(some (-1:Int)))
theorem mN {p0s:(List (List UInt8))}{res:Int} (h:fC p0s=some res):cC Tryz.prog 206 [.c (PV.ls 1 gL p0s),.fn 208 []] [] (ci res) []:=by
 unfold fC at h
 refine cY (fn:=Tryz.f206) [0,1,4,5,7,8,9,16] (by kernel_rfl) Tryz.func206 r (by kernel_rfl) (by kernel_rfl)<|aK<|sI r<|aH (fr':=[(0,aL),(1,.fn _ [])]) r r<|aU<|aK<|mL r<|aT r (gN yQ (eO r))<|mI r<|aH (fr':=[(0,aL),(1,.fn _ []),(7,aI),(8,aI)]) r r ?_
 obtain ⟨x1,hx1,h2⟩:=aG h
 refine gZ mO (fun j3=>x1=Fl.go j3) (fun (j3:Unit)=>([]:Fr)) (fun (j3:Unit)=>([]:St)) ?_ ?_
 ·
  refine bZ<|gU _ (fun (s4:Int)=>([(0,.c (PV.ls 1 gL p0s)),(1,.fn 208 []),(7,ci ((p0s).length:Int)),(8,ci s4)]:Fr)) (fun (s4:Int)=>([]:St)) hx1 (bT [] 0 r r r r ⟨lr,lr,lr,lr,trivial⟩ aF) ?_
  intro s4 st4 hs4 ho4
  unfold eK at hs4
  refine aK<|aT r (fM r r)<|aH (fr':=[(0,aL),(1,.fn _ []),(7,aI),(8,aI),(9,aB)]) r r<|aU<|cV hs4 r (fun hb5 h5=>?_) (fun hb5 h5=>?_)
  ·
   refine bJ<|cM<|aU<|bZ<|aK<|mI r<|sI r<|aH (fr':=[(0,aL),(1,.fn _ []),(5,aI),(7,aI),(8,aI)]) r r<|aK<|mV (v:=.fn _ []) r<|mL r ?_
   refine mI r ?_
   obtain ⟨x6,hx6,h7⟩:=aG h5
   refine aT r (oV (cs:=[PV.str _]) aAe (eO r) r hx6 r)<|aT r (jW (p:=PV.str _) nE r r) ?_
   obtain ⟨x8,hx8,h9⟩:=aG h7
   refine lM (bC (v:=aB) r (aEJ hx8) ⟨lr,trivial⟩ r r r)<|aH (fr':=[(0,aL),(1,.fn _ []),(5,aI),(7,aI),(8,aI),(16,aB)]) r r<|cV h9 r (fun hb10 h10=>?_) (fun hb10 h10=>?_)
   ·
    refine aK<|mI r<|sI r<|aH (fr':=[(4,aI)]) r r<|bI<|bN<|aN<|aN<|bN<|aN<|aN ?_
    have h11:=eY h10 ho4
    have h12:=fI h11 h2
    obtain rfl:=sy h12
    exact bH (rs':=[.tmp 4]) r<|bP (v:=aI) r<|bG<|aQ [] r r r lr aF
   ·
    exact bJ<|dH<|cM<|aX<|aT r (fL r r)<|mI r<|dT (fr':=[(0,aL),(1,.fn _ []),(5,aI),(7,aI),(8,aI),(16,aB)]) r<|e_l _ (sy h10) (bT [] 0 r r r r ⟨lr,lr,lr,lr,trivial⟩ aF)
  ·
   refine hH<|cX<|cX<|fU ?_
   have h14:=eY h5 ho4
   exact pG _ (sy h14) (bT [] 0 r r r r trivial aF)
 ·
  intro j3 hj15
  have h15:=nG hj15 h2
  refine cM<|aK<|sI r<|aH (fr':=[(4,aI)]) r r<|bI ?_
  obtain rfl:=sy h15
  exact bH (rs':=[.tmp 4]) r<|bP (v:=aI) r<|bG<|aQ [] r r r lr aF
noncomputable def eI (p0s:(List (List UInt8))):Option Bool :=
 (fC p0s).bind fun x1=>some (decide ((0:Int)≤x1))
theorem lO {p0s:(List (List UInt8))}{res:Bool} (h:eI p0s=some res):cC Tryz.prog 178 [.c (PV.ls 1 gL p0s),.fn 208 []] [] (.c (.bool res)) []:=by
 unfold eI at h
 refine cY (fn:=Tryz.f178) [0,1,4] (by kernel_rfl) Tryz.func178 r (by kernel_rfl) (by kernel_rfl)<|aK<|sB r<|aH (fr':=[(0,aL),(1,.fn _ [])]) r r<|aK<|mL r<|mV (v:=.fn _ []) r ?_
 obtain ⟨x1,hx1,h2⟩:=aG h
 refine lM (bC (v:=aI) r (mN hx1) ⟨lr,lr,trivial⟩ r r r)<|aT r (rP r r)<|sB r<|aH (fr':=[(4,aB)]) r r<|bI ?_
 obtain rfl:=sy h2
 exact bH (rs':=[.tmp 4]) r<|bP (v:=aB) r<|bG<|aQ [] r r r lr aF
noncomputable def dU (aCM:aC→Option Bool) (p0s:(List aC)) (s4:Int):Option (bS Int (Fl Int Unit)) :=
 cond (decide (s4<((p0s).length:Int))) ((jV p0s s4).bind fun x6=>(aCM x6).bind fun x8=>cond x8 (some (bS.out (Fl.done s4))) (some (bS.next (IntKind.wrap .i64 (s4+(1:Int)))))) (some (bS.out (Fl.go ())))
mutual
noncomputable def cU:Nat→(List aC)→Option Bool
 | 0,_=>none
 | n+1,p0s =>
  ((eB n) p0s).bind fun x1=>some (decide ((0:Int)≤x1))
noncomputable def eB:Nat→(List aC)→Option Int
 | 0,_=>none
 | n+1,p0s =>
  ((dL (dU (mZ n) p0s) ((0:Int))):Option (Fl Int Unit)).bind fun x1=>Fl.next x1 (fun j3=>(some (-1:Int)))
noncomputable def nP:Nat→aC→Option Bool
 | 0,_=>none
 | n+1,p0v =>
  (gd ((decide ((4096:Int)<((p0v.Text).length:Int)))==false) (eI p0v.Keys)).bind fun x1=>cond (cond (decide ((4096:Int)<((p0v.Text).length:Int))) true x1) (some false) (((cU n) p0v.Items).bind fun x5=>some (!x5))
noncomputable def mZ:Nat→aC→Option Bool
 | 0,_=>none
 | n+1,p0x =>
  ((nP n) p0x).bind fun x1=>some (!x1)
end
theorem kH:∀ n:Nat,(∀ {p0s:(List aC)}{res:Bool},cU n p0s=some res→cC Tryz.prog 176 [.c (PV.ls 5 bM p0s),.fn 209 []] [] (.c (.bool res)) [])∧(∀ {p0s:(List aC)}{res:Int},eB n p0s=some res→cC Tryz.prog 205 [.c (PV.ls 5 bM p0s),.fn 209 []] [] (ci res) [])∧(∀ {p0v:aC}{res:Bool},nP n p0v=some res→cC Tryz.prog 193 [.agg (AV.cs (eF p0v))] [] (.c (.bool res)) [])∧(∀ {p0x:aC}{res:Bool},mZ n p0x=some res→cC Tryz.prog 209 [.agg (AV.cs (eF p0x))] [] (.c (.bool res)) []):=by
 intro n
 induction n with
 | zero=>exact ⟨fun {p0s res} h=>absurd h (by simp [cU]),fun {p0s res} h=>absurd h (by simp [eB]),fun {p0v res} h=>absurd h (by simp [nP]),fun {p0x res} h=>absurd h (by simp [mZ])⟩
 | succ n ih =>
  obtain ⟨ih_slices_ContainsFunc_api_Value_api_Value_value_short_2,ih_slices_IndexFunc_api_Value_api_Value_value_short_2,ih_value_short,ih_value_short_2⟩:=ih
  refine ⟨?_,?_,?_,?_⟩
  ·
   intro p0s res h
   rw [cU] at h
   refine cY (fn:=Tryz.f176) [0,1,4] (by kernel_rfl) Tryz.func176 r (by kernel_rfl) (by kernel_rfl)<|aK<|sB r<|aH (fr':=[(0,aL),(1,.fn _ [])]) r r<|aK<|mL r<|mV (v:=.fn _ []) r ?_
   obtain ⟨x1,hx1,h2⟩:=aG h
   refine lM (bC (v:=aI) r (ih_slices_IndexFunc_api_Value_api_Value_value_short_2 hx1) ⟨lr,lr,trivial⟩ r r r)<|aT r (rP r r)<|sB r<|aH (fr':=[(4,aB)]) r r<|bI ?_
   obtain rfl:=sy h2
   exact bH (rs':=[.tmp 4]) r<|bP (v:=aB) r<|bG<|aQ [] r r r lr aF
  ·
   intro p0s res h
   rw [eB] at h
   refine cY (fn:=Tryz.f205) [0,1,4,5,7,8,9,16] (by kernel_rfl) Tryz.func205 r (by kernel_rfl) (by kernel_rfl)<|aK<|sI r<|aH (fr':=[(0,aL),(1,.fn _ [])]) r r<|aU<|aK<|mL r<|aT r (gN aAE (eO r))<|mI r<|aH (fr':=[(0,aL),(1,.fn _ []),(7,aI),(8,aI)]) r r ?_
   obtain ⟨x1,hx1,h2⟩:=aG h
   refine gZ mO (fun j3=>x1=Fl.go j3) (fun (j3:Unit)=>([]:Fr)) (fun (j3:Unit)=>([]:St)) ?_ ?_
   ·
    refine bZ<|gU _ (fun (s4:Int)=>([(0,.c (PV.ls 5 bM p0s)),(1,.fn 209 []),(7,ci ((p0s).length:Int)),(8,ci s4)]:Fr)) (fun (s4:Int)=>([]:St)) hx1 (bT [] 0 r r r r ⟨lr,lr,lr,lr,trivial⟩ aF) ?_
    intro s4 st4 hs4 ho4
    unfold dU at hs4
    refine aK<|aT r (fM r r)<|aH (fr':=[(0,aL),(1,.fn _ []),(7,aI),(8,aI),(9,aB)]) r r<|aU<|cV hs4 r (fun hb5 h5=>?_) (fun hb5 h5=>?_)
    ·
     refine bJ<|cM<|aU<|bZ<|aK<|mI r<|sI r<|aH (fr':=[(0,aL),(1,.fn _ []),(5,aI),(7,aI),(8,aI)]) r r<|aK<|mV (v:=.fn _ []) r<|mL r ?_
     refine mI r ?_
     obtain ⟨x6,hx6,h7⟩:=aG h5
     refine aT r (oV (cs:=[PV.int _ _,PV.int _ _,PV.str _,PV.ls _ _ _,PV.ls _ _ _]) aBE (eO r) r hx6 (eT _))<|aT r (lW (us:=[PV.int _ _,PV.int _ _,PV.str _,PV.ls _ _ _,PV.ls _ _ _]) gV r r r) ?_
     obtain ⟨x8,hx8,h9⟩:=aG h7
     refine lM (bC (v:=aB) r (ih_value_short_2 hx8) ⟨(bO r ⟨r,r,r,r,r,trivial⟩),trivial⟩ r r r)<|aH (fr':=[(0,aL),(1,.fn _ []),(5,aI),(7,aI),(8,aI),(16,aB)]) r r<|cV h9 r (fun hb10 h10=>?_) (fun hb10 h10=>?_)
     ·
      refine aK<|mI r<|sI r<|aH (fr':=[(4,aI)]) r r<|bI<|bN<|aN<|aN<|bN<|aN<|aN ?_
      have h11:=eY h10 ho4
      have h12:=fI h11 h2
      obtain rfl:=sy h12
      exact bH (rs':=[.tmp 4]) r<|bP (v:=aI) r<|bG<|aQ [] r r r lr aF
     ·
      exact bJ<|dH<|cM<|aX<|aT r (fL r r)<|mI r<|dT (fr':=[(0,aL),(1,.fn _ []),(5,aI),(7,aI),(8,aI),(16,aB)]) r<|e_l _ (sy h10) (bT [] 0 r r r r ⟨lr,lr,lr,lr,trivial⟩ aF)
    ·
     refine hH<|cX<|cX<|fU ?_
     have h14:=eY h5 ho4
     exact pG _ (sy h14) (bT [] 0 r r r r trivial aF)
   ·
    intro j3 hj15
    have h15:=nG hj15 h2
    refine cM<|aK<|sI r<|aH (fr':=[(4,aI)]) r r<|bI ?_
    obtain rfl:=sy h15
    exact bH (rs':=[.tmp 4]) r<|bP (v:=aI) r<|bG<|aQ [] r r r lr aF
  ·
   intro p0v res h
   rw [nP] at h
   refine cY (fn:=Tryz.f193) [0,1,2,11] (by kernel_rfl) Tryz.func193 r (by kernel_rfl) (by kernel_rfl)<|aK<|iH (v:=.agg bQ) (n:=0) (cs:=bQ) (σ':=[bQ]) r r r r r<|sB r<|aH (fr':=[(1,.box 0 0)]) r r<|aU<|aK<|aT r (bD yB r)<|aT r (aJ (v:=aS) nE r r r)<|aT r (nI wT r)<|aT r (sJ r r) ?_
   refine mB r<|og r r r (fun hc=>(bD qU r))<|og r r r (fun hc=>(aJ (v:=aL) rG (gx r hc) r r)) ?_
   obtain ⟨x1,hx1,h2⟩:=aG h
   refine yS r r (fun hc=>bC (v:=aB) r (lO (dW hx1 hc)) ⟨(fK (gx r hc) lr),lr,trivial⟩ (gJ (by repeat (first | exact fF | refine aZ r ?_ | refine aZ (uH r) ?_ | refine aZ uG ?_))) r r) ?_
   refine aT r (cB r r r (fun e=>fW e))<|aH (fr':=[(1,.box 0 0),(11,aB)]) r r<|cV h2 r (fun hb3 h3=>?_) (fun hb3 h3=>?_)
   ·
    refine aK<|sB r<|aH (fr':=[(2,aB)]) r r<|bI<|aN ?_
    obtain rfl:=sy h3
    exact bH (rs':=[.tmp 2]) r<|bP (v:=aB) r<|bG<|aQ [] r r r lr aF
   ·
    refine bJ<|cM<|aK<|aT r (bD kY r)<|aT r (aJ (v:=aL) vM r r r) ?_
    obtain ⟨x5,hx5,h6⟩:=aG h3
    refine lM (bC (v:=aB) r (ih_slices_ContainsFunc_api_Value_api_Value_value_short_2 hx5) ⟨lr,lr,trivial⟩ r r r)<|aT r (fH r)<|sB r<|aH (fr':=[(2,aB)]) r r<|bI ?_
    obtain rfl:=sy h6
    exact bH (rs':=[.tmp 2]) r<|bP (v:=aB) r<|bG<|aQ [] r r r lr aF
  ·
   intro p0x res h
   rw [mZ] at h
   refine cY (fn:=Tryz.f209) [0,1,2] (by kernel_rfl) Tryz.func209 r (by kernel_rfl) (by kernel_rfl)<|aK<|iH (v:=.agg bQ) (n:=0) (cs:=bQ) (σ':=[bQ]) r r r r r<|sB r<|aH (fr':=[(1,.box 0 0)]) r r<|aK<|aT r (dJ (us:=bQ) gV r r r r) ?_
   obtain ⟨x1,hx1,h2⟩:=aG h
   refine lM (bC (v:=aB) r (ih_value_short hx1) ⟨(bO r ⟨r,r,r,r,r,trivial⟩),trivial⟩ r r r)<|aT r (fH r)<|sB r<|aH (fr':=[(2,aB)]) r r<|bI ?_
   obtain rfl:=sy h2
   exact bH (rs':=[.tmp 2]) r<|bP (v:=aB) r<|bG<|aQ [] r r r lr aF
noncomputable def aBf (p0v:aC):Option Bool:=lim fun n=>nP n p0v
theorem aGR {p0v:aC}{res:Bool} (h:aBf p0v=some res):cC Tryz.prog 193 [.agg (AV.cs (eF p0v))] [] (.c (.bool res)) []:=by
 obtain ⟨n,hn⟩:=pZ h
 exact (kH n).2.2.1 hn
noncomputable def sE (p0v:aC):Option Bool :=
 (aBd p0v).bind fun x1=>(gd ((decide (x1≤(16:Int)))==true) (aCk p0v)).bind fun x3=>(gd ((cond (decide (x1≤(16:Int))) (decide (x3≤(1000:Int))) false)==true) (aBf p0v)).bind fun x5=>some (cond (cond (decide (x1≤(16:Int))) (decide (x3≤(1000:Int))) false) x5 false)
theorem aGl {p0v:aC}{res:Bool} (h:sE p0v=some res):cC Tryz.prog 160 [.agg (AV.cs (eF p0v))] [] (.c (.bool res)) []:=by
 unfold sE at h
 refine cY (fn:=Tryz.f160) [0,1,2] (by kernel_rfl) Tryz.func160 r (by kernel_rfl) (by kernel_rfl)<|aK<|iH (v:=.agg bQ) (n:=0) (cs:=bQ) (σ':=[bQ]) r r r r r<|sB r<|aH (fr':=[(1,.box 0 0)]) r r<|aK<|aT r (dJ (us:=bQ) gV r r r r) ?_
 obtain ⟨x1,hx1,h2⟩:=aG h
 refine lM (bC (v:=aI) r (aGQ hx1) ⟨(bO r ⟨r,r,r,r,r,trivial⟩),trivial⟩ r r r)<|aT r (wI r r)<|mB r<|og r r r (fun hc=>(dJ (us:=bQ) gV r r r r)) ?_
 obtain ⟨x3,hx3,h4⟩:=aG h2
 refine yS r r (fun hc=>bC (v:=aI) r (aH9 (dW hx3 hc)) ⟨(fK (gx r hc) (bO r ⟨r,r,r,r,r,trivial⟩)),trivial⟩ (gJ (by repeat (first | exact fF | refine aZ r ?_ | refine aZ (uH r) ?_ | refine aZ uG ?_))) r r) ?_
 refine og r r r (fun hc=>(wI (gx r hc) r))<|aT r (cE r r r (fun e=>fW e))<|mB r<|og r r r (fun hc=>(dJ (us:=bQ) gV r r r r)) ?_
 obtain ⟨x5,hx5,h6⟩:=aG h4
 refine yS r r (fun hc=>bC (v:=aB) r (aGR (dW hx5 hc)) ⟨(fK (gx r hc) (bO r ⟨r,r,r,r,r,trivial⟩)),trivial⟩ (gJ (by repeat (first | exact fF | refine aZ r ?_ | refine aZ (uH r) ?_ | refine aZ uG ?_))) r r) ?_
 refine aT r (cE r r r (fun e=>fW e))<|sB r<|aH (fr':=[(2,aB)]) r r<|bI ?_
 obtain rfl:=sy h6
 exact bH (rs':=[.tmp 2]) r<|bP (v:=aB) r<|bG<|aQ [] r r r lr aF
noncomputable def rC (p0v:aC):Option Bool :=
 (sE p0v).bind fun x1=>(gd (x1==true) (vN p0v false)).bind fun x3=>some (cond x1 x3 false)
theorem aBW {p0v:aC}{res:Bool} (h:rC p0v=some res):cC Tryz.prog 100 [.agg (AV.cs (eF p0v))] [] (.c (.bool res)) []:=by
 unfold rC at h
 refine cY (fn:=Tryz.f100) [0,1,2] (by kernel_rfl) Tryz.func100 r (by kernel_rfl) (by kernel_rfl)<|aK<|iH (v:=.agg bQ) (n:=0) (cs:=bQ) (σ':=[bQ]) r r r r r<|sB r<|aH (fr':=[(1,.box 0 0)]) r r<|aK<|aT r (dJ (us:=bQ) gV r r r r) ?_
 obtain ⟨x1,hx1,h2⟩:=aG h
 refine lM (bC (v:=aB) r (aGl hx1) ⟨(bO r ⟨r,r,r,r,r,trivial⟩),trivial⟩ r r r)<|mB r<|og r r r (fun hc=>(dJ (us:=bQ) gV r r r r)) ?_
 obtain ⟨x3,hx3,h4⟩:=aG h2
 refine yS r r (fun hc=>bC (v:=aB) r (aBl (dW hx3 hc)) ⟨(fK (gx r hc) (bO r ⟨r,r,r,r,r,trivial⟩)),lr,trivial⟩ (gJ (by repeat (first | exact fF | refine aZ r ?_ | refine aZ (uH r) ?_ | refine aZ uG ?_))) r r) ?_
 refine aT r (cE r r r (fun e=>fW e))<|sB r<|aH (fr':=[(2,aB)]) r r<|bI ?_
 obtain rfl:=sy h4
 exact bH (rs':=[.tmp 2]) r<|bP (v:=aB) r<|bG<|aQ [] r r r lr aF
end Go.Proofs.YtnigjppddilpcaaGreatDoor
