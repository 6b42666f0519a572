import Derived.Test.YtnigjppddilpcaaGreatDoorGETy
import Derived.Test.YtnigjppddilpcaaGreatDoorGEF0
namespace Go.Proofs.YtnigjppddilpcaaGreatDoor
open Go Abs
set_option maxRecDepth 100000
set_option linter.unusedVariables false
set_option linter.unusedSimpArgs false
noncomputable def dO (p0s:(List (List UInt8))) (s4:Int):Option (cM Int (Fl Int Unit)) :=
 cond (decide (s4<((p0s).length:Int))) ((jT p0s s4).bind fun x6=>(lQ x6).bind fun x8=>cond x8 (some (cM.out (Fl.done s4))) (some (cM.next (IntKind.wrap .i64 (s4+(1:Int)))))) (some (cM.out (Fl.go ())))
noncomputable def eT (p0s:(List (List UInt8))):Option Int :=
 ((eQ (dO p0s) ((0:Int))):Option (Fl Int Unit)).bind fun x1=>Fl.next x1 (fun j3=>(some (-1:Int)))
theorem kO {p0s:(List (List UInt8))}{res:Int} (h:eT p0s=some res):bT Tryz.prog 206 [.c (PV.ls 1 dD p0s),.fn 179 []] [] (ci res) []:=by
 unfold eT at h
 refine cJ (fn:=Tryz.f206) [0,1,4,5,7,8,9,16] (by kernel_rfl) Tryz.func206 r (by kernel_rfl) (by kernel_rfl)<|aH<|sI r<|aF (fr':=[(0,aL),(1,.fn _ [])]) r r<|aR<|aH<|mL r<|aK r (eC pU (cR r))<|mI r<|aF (fr':=[(0,aL),(1,.fn _ []),(7,aI),(8,aI)]) r r ?_
 obtain ⟨x1,hx1,h2⟩:=aE h
 refine eR gX (fun j3=>x1=Fl.go j3) (fun (j3:Unit)=>([]:Fr)) (fun (j3:Unit)=>([]:St)) ?_ ?_
 ·
  refine bL<|eK _ (fun (s4:Int)=>([(0,.c (PV.ls 1 dD p0s)),(1,.fn 179 []),(7,ci ((p0s).length:Int)),(8,ci s4)]:Fr)) (fun (s4:Int)=>([]:St)) hx1 (aU [] 0 r r r r ⟨lr,lr,lr,lr,trivial⟩ aC) ?_
  intro s4 st4 hs4 ho4
  unfold dO at hs4
  refine aH<|aK r (eA r r)<|aF (fr':=[(0,aL),(1,.fn _ []),(7,aI),(8,aI),(9,aB)]) r r<|aR<|bS hs4 r (fun hb5 h5=>?_) (fun hb5 h5=>?_)
  ·
   refine aW<|bZ<|aR<|bL<|aH<|mI r<|sI r<|aF (fr':=[(0,aL),(1,.fn _ []),(5,aI),(7,aI),(8,aI)]) r r<|aH<|mV (v:=.fn _ []) r<|mL r ?_
   refine mI r ?_
   obtain ⟨x6,hx6,h7⟩:=aE h5
   refine aK r (iL (cs:=[PV.str _]) rV (cR r) r hx6 r)<|aK r (fU (p:=PV.str _) iE r r) ?_
   obtain ⟨x8,hx8,h9⟩:=aE h7
   refine gW (aY (v:=aB) r (yO hx8) ⟨lr,trivial⟩ r r r)<|aF (fr':=[(0,aL),(1,.fn _ []),(5,aI),(7,aI),(8,aI),(16,aB)]) r r<|bS h9 r (fun hb10 h10=>?_) (fun hb10 h10=>?_)
   ·
    refine aH<|mI r<|sI r<|aF (fr':=[(4,aI)]) r r<|bF<|bH<|aM<|aM<|bH<|aM<|aM ?_
    have h11:=dB h10 ho4
    have h12:=eH h11 h2
    obtain rfl:=sy h12
    exact bE (rs':=[.tmp 4]) r<|bG (v:=aI) r<|bD<|aN [] r r r lr aC
   ·
    exact aW<|bW<|bZ<|aT<|aK r (dZ r r)<|mI r<|cD (fr':=[(0,aL),(1,.fn _ []),(5,aI),(7,aI),(8,aI),(16,aB)]) r<|tU _ (sy h10) (aU [] 0 r r r r ⟨lr,lr,lr,lr,trivial⟩ aC)
  ·
   refine eZ<|bY<|bY<|dX ?_
   have h14:=dB h5 ho4
   exact fS _ (sy h14) (aU [] 0 r r r r trivial aC)
 ·
  intro j3 hj15
  have h15:=iS hj15 h2
  refine bZ<|aH<|sI r<|aF (fr':=[(4,aI)]) r r<|bF ?_
  obtain rfl:=sy h15
  exact bE (rs':=[.tmp 4]) r<|bG (v:=aI) r<|bD<|aN [] r r r lr aC
noncomputable def dM (p0s:(List (List UInt8))):Option Bool :=
 (eT p0s).bind fun x1=>some (decide ((0:Int)≤x1))
theorem jP {p0s:(List (List UInt8))}{res:Bool} (h:dM p0s=some res):bT Tryz.prog 178 [.c (PV.ls 1 dD p0s),.fn 179 []] [] (.c (.bool res)) []:=by
 unfold dM at h
 refine cJ (fn:=Tryz.f178) [0,1,4] (by kernel_rfl) Tryz.func178 r (by kernel_rfl) (by kernel_rfl)<|aH<|sB r<|aF (fr':=[(0,aL),(1,.fn _ [])]) r r<|aH<|mL r<|mV (v:=.fn _ []) r ?_
 obtain ⟨x1,hx1,h2⟩:=aE h
 refine gW (aY (v:=aI) r (kO hx1) ⟨lr,lr,trivial⟩ r r r)<|aK r (lC r r)<|sB r<|aF (fr':=[(4,aB)]) r r<|bF ?_
 obtain rfl:=sy h2
 exact bE (rs':=[.tmp 4]) r<|bG (v:=aB) r<|bD<|aN [] r r r lr aC
noncomputable def kV (p0o:cE) (s8:Int):Option (cM Int (Fl Bool Unit)) :=
 cond (decide (s8<((([p0o.ToStart,p0o.ToClose,p0o.Total,p0o.Beat,p0o.First,p0o.Most]:List Int)).length:Int))) ((jT ([p0o.ToStart,p0o.ToClose,p0o.Total,p0o.Beat,p0o.First,p0o.Most]:List Int) s8).bind fun x10=>(hY x10 (0:Int) (1099511627776:Int)).bind fun x12=>cond (!x12) (some (cM.out (Fl.done false))) (some (cM.next (IntKind.wrap .i64 (s8+(1:Int)))))) (some (cM.out (Fl.go ())))
noncomputable def iV (p0o:cE):Option Bool :=
 (gd ((!decide (p0o.Queue=([]:List UInt8)))==true) (pK p0o.Queue)).bind fun x1=>cond (cond (cond (!decide (p0o.Queue=([]:List UInt8))) (!x1) false) true (decide ((64:Int)<((p0o.Fatal).length:Int)))) (some false) (((eQ (kV p0o) ((0:Int))):Option (Fl Bool Unit)).bind fun x5=>Fl.next x5 (fun j7=>((hY p0o.Coef (0:Int) (10000:Int)).bind fun x20=>(gd (x20==true) (hY p0o.Attempts (0:Int) (1000:Int))).bind fun x22=>(gd ((cond x20 x22 false)==true) (dM p0o.Fatal)).bind fun x24=>some (cond (cond x20 x22 false) (!x24) false))))
theorem tP {p0o:cE}{res:Bool} (h:iV p0o=some res):bT Tryz.prog 130 [.agg (AV.cs (iG p0o))] [] (.c (.bool res)) []:=by
 unfold iV at h
 refine cJ (fn:=Tryz.f130) [0,1,2,4,19,32,33,34,35,40] (by kernel_rfl) Tryz.func130 r (by kernel_rfl) (by kernel_rfl)<|aH<|fW (v:=.agg cI) (n:=0) (cs:=cI) (σ':=[cI]) r r r r r<|sB r<|aF (fr':=[(1,.box 0 0)]) r r<|aR<|aH<|aK r (aZ wZ r)<|aK r (aJ (v:=aS) iE r r r)<|aK r (rR r r)<|mB r ?_
 refine og r r r (fun hc=>(aZ wZ r))<|og r r r (fun hc=>(aJ (v:=aS) iE (gx r hc) r r)) ?_
 obtain ⟨x1,hx1,h2⟩:=aE h
 refine rZ r r (fun hc=>aY (v:=aB) r (wC (cG hx1 hc)) ⟨(dW (gx r hc) lr),trivial⟩ (fC (by repeat (first | exact dT | refine aX r ?_ | refine aX (oQ r) ?_ | refine aX oP ?_))) r r) ?_
 refine og r r r (fun hc=>(eD (gx r hc)))<|aK r (bM r r r (fun e=>eI e))<|mB r<|og r r r (fun hc=>(aZ mZ r))<|og r r r (fun hc=>(aJ (v:=aL) lN (gx r hc) r r))<|og r r r (fun hc=>(eC pU (cR (gx r hc))))<|og r r r (fun hc=>(mG (gx r hc) r))<|aK r (bX r r r (fun e=>eI e))<|aF (fr':=[(1,.box 0 0),(19,aB)]) r r<|bS h2 r (fun hb3 h3=>?_) (fun hb3 h3=>?_)
 ·
  refine aH<|sB r<|aF (fr':=[(2,aB)]) r r<|bF<|aM ?_
  obtain rfl:=sy h3
  exact bE (rs':=[.tmp 2]) r<|bG (v:=aB) r<|bD<|aN [] r r r lr aC
 ·
  refine aW<|bZ<|aR<|aH<|aK r (aZ aB3 r)<|aK r (aJ (v:=aI) eB r r r)<|aK r (aZ aB4 r)<|aK r (aJ (v:=aI) eB r r r)<|aK r (aZ aB5 r)<|aK r (aJ (v:=aI) eB r r r)<|aK r (aZ aB6 r)<|aK r (aJ (v:=aI) eB r r r) ?_
  refine aK r (aZ aB7 r)<|aK r (aJ (v:=aI) eB r r r)<|aK r (aZ aB9 r)<|aK r (aJ (v:=aI) eB r r r)<|mT (row:=(aGq .i64)) (xs:=([p0o.ToStart,p0o.ToClose,p0o.Total,p0o.Beat,p0o.First,p0o.Most]:List Int)) (rows:=[[_],[_],[_],[_],[_],[_]]) (σ':=[cI]) [0] aGs r r r (cB r (cB r (cB r (cB r (cB r (cB r iC)))))) r r<|aK r (eC aNn (kQ r))<|mI r<|aF (fr':=[(1,.box 0 0),(32,aO),(33,aI),(34,aI)]) r r ?_
  obtain ⟨x5,hx5,h6⟩:=aE h3
  refine eR gX (fun j7=>x5=Fl.go j7) (fun (j7:Unit)=>([(1,.box 0 0)]:Fr)) (fun (j7:Unit)=>([[.c (.str p0o.Queue),ci p0o.ToStart,ci p0o.ToClose,ci p0o.Total,ci p0o.Beat,ci p0o.First,ci p0o.Coef,ci p0o.Most,ci p0o.Attempts,.c (PV.ls 1 dD p0o.Fatal)]]:St)) ?_ ?_
  ·
   refine bL<|eK _ (fun (s8:Int)=>([(1,.box 0 0),(32,AV.os 0 1 (aGq .i64) ([p0o.ToStart,p0o.ToClose,p0o.Total,p0o.Beat,p0o.First,p0o.Most]:List Int)),(33,ci ((([p0o.ToStart,p0o.ToClose,p0o.Total,p0o.Beat,p0o.First,p0o.Most]:List Int)).length:Int)),(34,ci s8)]:Fr)) (fun (s8:Int)=>([[.c (.str p0o.Queue),ci p0o.ToStart,ci p0o.ToClose,ci p0o.Total,ci p0o.Beat,ci p0o.First,ci p0o.Coef,ci p0o.Most,ci p0o.Attempts,.c (PV.ls 1 dD p0o.Fatal)]]:St)) hx5 (aU [512] 1 r r r r ⟨lr,lr,lr,lr,trivial⟩ (bJ r aC)) ?_
   intro s8 st8 hs8 ho8
   unfold kV at hs8
   refine aH<|aK r (eA r r)<|aF (fr':=[(1,.box 0 0),(32,aO),(33,aI),(34,aI),(35,aB)]) r r<|aR<|bS hs8 r (fun hb9 h9=>?_) (fun hb9 h9=>?_)
   ·
    refine aW<|bZ<|aR<|bL<|aR<|aT ?_
    obtain ⟨x10,hx10,h11⟩:=aE h9
    refine aK r (iL (cs:=[PV.int _ _]) aGs (kQ r) r hx10 r)<|aK r (fU (p:=PV.int _ _) eB r r)<|sI r<|aF (fr':=[(1,.box 0 0),(4,aI),(32,aO),(33,aI),(34,aI)]) r r<|aH<|mI r ?_
    obtain ⟨x12,hx12,h13⟩:=aE h11
    refine gW (aY (v:=aB) r (iT hx12) ⟨lr,lr,lr,trivial⟩ r r r)<|aK r (eD r)<|aF (fr':=[(1,.box 0 0),(32,aO),(33,aI),(34,aI),(40,aB)]) r r<|bS h13 r (fun hb14 h14=>?_) (fun hb14 h14=>?_)
    ·
     refine aH<|sB r<|aF (fr':=[(2,aB)]) r r<|bF<|bH<|aM<|aM<|bH<|aM<|aM ?_
     have h15:=dB h14 ho8
     have h16:=eH h15 h6
     obtain rfl:=sy h16
     exact bE (rs':=[.tmp 2]) r<|bG (v:=aB) r<|bD<|aN [] r r r lr aC
    ·
     exact aW<|bW<|bZ<|aT<|aK r (dZ r r)<|mI r<|cD (fr':=[(1,.box 0 0),(32,aO),(33,aI),(34,aI),(40,aB)]) r<|tU _ (sy h14) (aU [0] 1 r r r r ⟨lr,lr,lr,lr,trivial⟩ (bJ r aC))
   ·
    refine eZ<|bY<|bY<|dX ?_
    have h18:=dB h9 ho8
    exact fS _ (sy h18) (aU [] 1 r r r r ⟨lr,trivial⟩ (bJ r aC))
  ·
   intro j7 hj19
   have h19:=iS hj19 h6
   refine bZ<|aH<|aK r (aZ aB8 r)<|aK r (aJ (v:=aI) eB r r r) ?_
   obtain ⟨x20,hx20,h21⟩:=aE h19
   refine gW (aY (v:=aB) r (iT hx20) ⟨lr,lr,lr,trivial⟩ r r r)<|mB r<|og r r r (fun hc=>(aZ aCa r))<|og r r r (fun hc=>(aJ (v:=aI) eB (gx r hc) r r)) ?_
   obtain ⟨x22,hx22,h23⟩:=aE h21
   refine rZ r r (fun hc=>aY (v:=aB) r (iT (cG hx22 hc)) ⟨(dW (gx r hc) lr),lr,lr,trivial⟩ (fC (by repeat (first | exact dT | refine aX r ?_ | refine aX (oQ r) ?_ | refine aX oP ?_))) r r) ?_
   refine aK r (bM r r r (fun e=>eI e))<|mB r<|og r r r (fun hc=>(aZ mZ r))<|og r r r (fun hc=>(aJ (v:=aL) lN (gx r hc) r r)) ?_
   obtain ⟨x24,hx24,h25⟩:=aE h23
   refine rZ r r (fun hc=>aY (v:=aB) r (jP (cG hx24 hc)) ⟨(dW (gx r hc) lr),lr,trivial⟩ (fC (by repeat (first | exact dT | refine aX r ?_ | refine aX (oQ r) ?_ | refine aX oP ?_))) r r) ?_
   refine og r r r (fun hc=>(eD (gx r hc)))<|aK r (bM r r r (fun e=>eI e))<|sB r<|aF (fr':=[(2,aB)]) r r<|bF ?_
   obtain rfl:=sy h25
   exact bE (rs':=[.tmp 2]) r<|bG (v:=aB) r<|bD<|aN [] r r r lr aC
noncomputable def kK (cQ:cE):Option Unit :=
 some ()
theorem tL {cQ:cE}{res:Unit} (h:kK cQ=some res):bT Tryz.prog 146 [.box 0 0] [AV.cs (iG cQ)] (.ptrs [(0,1),(0,2),(0,3),(0,4),(0,5),(0,6),(0,7),(0,8)]) [AV.cs (iG cQ)]:=by
 unfold kK at h
 refine cJ (fn:=Tryz.f146) [0,2] (by kernel_rfl) Tryz.func146 r (by kernel_rfl) (by kernel_rfl)<|aH<|sV (v:=AV.nil) r<|aF (fr':=[(0,.box 0 0)]) r r<|aR<|hF [.q 0,.q 1,.q 2,.q 3,.q 4,.q 5,.q 6,.q 7,.q 8,.q 9,.q 10,.q 11,.q 12,.q 13,.q 14,.q 15,.q 16,.q 17,.q 18,.q 19,.q 20,.q 21,.q 22,.q 23,.n 24 [],.n 25 []] [(some 3,[0]),(some 4,[3]),(some 5,[4]),(some 6,[0]),(some 7,[6]),(some 8,[7]),(some 9,[0]),(some 10,[9]),(some 11,[10]),(some 12,[0]),(some 13,[12]),(some 14,[13]),(some 15,[0]),(some 16,[15]),(some 17,[16]),(some 18,[0]),(some 19,[18]),(some 20,[19]),(some 21,[0]),(some 22,[21]),(some 23,[22]),(some 24,[0]),(some 25,[24]),(some 26,[25]),(some 27,[5,8,11,14,17,20,23,26]),(some 2,[27])] [0,1,3,0,8,24,0,64,192,0,512,1536,0,4096,12288,0,32768,98304,0,262144,786432,0,2097152,6291456,16777215,33554431] (by kernel_rfl)<|dq r r (bC (v:=.box 0 0) r)<|dq r r (gE r)<|dq r r (aZ aB3 r)<|dq r r (bC (v:=.box 0 0) r)<|dq r r (gE r)<|dq r r (aZ aB4 r) ?_
 refine dq r r (bC (v:=.box 0 0) r)<|dq r r (gE r)<|dq r r (aZ aB5 r)<|dq r r (bC (v:=.box 0 0) r)<|dq r r (gE r)<|dq r r (aZ aB6 r)<|dq r r (bC (v:=.box 0 0) r)<|dq r r (gE r)<|dq r r (aZ aB7 r)<|dq r r (bC (v:=.box 0 0) r)<|dq r r (gE r)<|dq r r (aZ aB8 r)<|dq r r (bC (v:=.box 0 0) r) ?_
 refine dq r r (gE r)<|dq r r (aZ aB9 r)<|dq r r (bC (v:=.box 0 0) r)<|dq r r (gE r)<|dq r r (aZ aCa r)<|d_n r ?_ r
 refine aMU (l:=[(0,1),(0,2),(0,3),(0,4),(0,5),(0,6),(0,7),(0,8)]) qN r r r r<|yD<|⟨nH,?_⟩
 refine d_n r ?_ r
 refine sV (v:=.ptrs [(0,1),(0,2),(0,3),(0,4),(0,5),(0,6),(0,7),(0,8)]) r<|yD<|⟨nH,?_⟩
 refine tS (fr':=[(2,.ptrs [(0,1),(0,2),(0,3),(0,4),(0,5),(0,6),(0,7),(0,8)])]) r r<|bF ?_
 obtain rfl:=sy h
 exact bE (rs':=[.tmp 2]) r<|bG (v:=.ptrs [(0,1),(0,2),(0,3),(0,4),(0,5),(0,6),(0,7),(0,8)]) r<|bD<|aKH [] r r r lr (bJ r aC)
noncomputable def oV (p1o:cE) (s31:((List UInt8) × Int)):Option (cM ((List UInt8) × Int) (List UInt8)) :=
 cond (decide (s31.2<((p1o.Fatal).length:Int))) ((jT p1o.Fatal s31.2).bind fun x33=>(hU s31.1 x33).bind fun x35=>some (cM.next (x35,(IntKind.wrap .i64 (s31.2+(1:Int)))))) (some (cM.out s31.1))
noncomputable def pJ (p0b:(List UInt8)) (p1o:cE):Option (List UInt8) :=
 (hU p0b p1o.Queue).bind fun x1=>(kK p1o).bind fun x3=>(fB x1 p1o.ToStart).bind fun x6=>(fB x6 p1o.ToClose).bind fun x8=>(fB x8 p1o.Total).bind fun x11=>(fB x11 p1o.Beat).bind fun x13=>(fB x13 p1o.First).bind fun x16=>(fB x16 p1o.Coef).bind fun x18=>(fB x18 p1o.Most).bind fun x21=>(fB x21 p1o.Attempts).bind fun x23=>(fB x23 ((p1o.Fatal).length:Int)).bind fun x26=>((eQ (oV p1o) ((x26,(0:Int)))):Option (List UInt8)).bind fun x28=>(some x28)
theorem aDI {p0b:(List UInt8)}{p1o:cE}{res:(List UInt8)} (h:pJ p0b p1o=some res):bT Tryz.prog 131 [.c (PV.ls 1 eL p0b),.agg (AV.cs (iG p1o))] [] (AV.os 0 1 eL res) []:=by
 unfold pJ at h
 refine cJ (fn:=Tryz.f131) [0,1,3,4,6,8,13,14,15,16,31,32,33,34] (by kernel_rfl) Tryz.func131 r (by kernel_rfl) (by kernel_rfl)<|aH<|fW (v:=.agg cI) (n:=0) (cs:=cI) (σ':=[cI]) r r r r r<|sV (v:=AV.nil) r<|aF (fr':=[(0,aL),(3,.box 0 0)]) r r<|aH<|mL r<|aK r (aZ wZ r)<|aK r (aJ (v:=aS) iE r r r) ?_
 obtain ⟨x1,hx1,h2⟩:=aE h
 refine gW (aY (v:=aO) r (jZ hx1) ⟨lr,lr,trivial⟩ r r r)<|sV (v:=aO) r<|aF (fr':=[(0,aO),(3,.box 0 0)]) r r<|aR<|aR<|aT ?_
 obtain ⟨x3,hx3,h4⟩:=aE h2
 refine xN (v:=.ptrs [(0,1),(0,2),(0,3),(0,4),(0,5),(0,6),(0,7),(0,8)]) (σ':=[cI]) 13 [0] [] r (tL hx3) r r r ⟨lr,trivial⟩ (fJ ⟨r,r,r,r,r,r,r,r,r,r,trivial⟩ aC) r r r<|aK r (aJ7 aPq r)<|mI r<|aF (fr':=[(0,aO),(3,.box 0 0),(13,.ptrs [(0,1),(0,2),(0,3),(0,4),(0,5),(0,6),(0,7),(0,8)]),(14,aI),(15,aI)]) r r<|bL<|aNu 64<|tY<|aH<|aK r (vH (eA r r) (show _=.bool true from r))<|aF (fr':=[(0,aO),(3,.box 0 0),(13,.ptrs [(0,1),(0,2),(0,3),(0,4),(0,5),(0,6),(0,7),(0,8)]),(14,aI),(15,aI),(16,aB)]) r r<|aR<|gZ r ?_
 refine aW<|bZ<|aR<|bL<|aH<|aK r (lD (p:=(0,1)) qN r r r)<|aK r (gI rC r)<|sV (v:=.box 0 1) r<|aF (fr':=[(0,aO),(3,.box 0 0),(6,.box 0 1),(13,.ptrs [(0,1),(0,2),(0,3),(0,4),(0,5),(0,6),(0,7),(0,8)]),(14,aI),(15,aI)]) r r<|aT<|mV (v:=aO) r<|mV (v:=.box 0 1) r ?_
 refine aK r (gE r)<|aK r (aJ (v:=aI) eB r r r) ?_
 obtain ⟨x6,hx6,h7⟩:=aE h4
 refine gW (aY (v:=aO) r (fE hx6) ⟨lr,lr,trivial⟩ r r r)<|sV (v:=aO) r<|cD (fr':=[(0,aO),(3,.box 0 0),(6,.box 0 1),(13,.ptrs [(0,1),(0,2),(0,3),(0,4),(0,5),(0,6),(0,7),(0,8)]),(14,aI),(15,aI)]) r<|bW<|bZ<|aT<|aK r (vH (dZ r r) (show _=.int .i64 (1:Int) from r))<|mI r<|cD (fr':=[(0,aO),(3,.box 0 0),(6,.box 0 1),(13,.ptrs [(0,1),(0,2),(0,3),(0,4),(0,5),(0,6),(0,7),(0,8)]),(14,aI),(15,aI)]) r<|iK<|tY<|aR<|aT ?_
 refine aK r (vH (eA r r) (show _=.bool true from r))<|aF (fr':=[(0,aO),(3,.box 0 0),(13,.ptrs [(0,1),(0,2),(0,3),(0,4),(0,5),(0,6),(0,7),(0,8)]),(14,aI),(15,aI),(16,aB)]) r r<|aR<|gZ r<|aW<|bZ<|aR<|bL<|aH<|aK r (lD (p:=(0,2)) qN r r r)<|aK r (gI rC r)<|sV (v:=.box 0 2) r ?_
 refine aF (fr':=[(0,aO),(3,.box 0 0),(6,.box 0 2),(13,.ptrs [(0,1),(0,2),(0,3),(0,4),(0,5),(0,6),(0,7),(0,8)]),(14,aI),(15,aI)]) r r<|aT<|mV (v:=aO) r<|mV (v:=.box 0 2) r<|aK r (gE r)<|aK r (aJ (v:=aI) eB r r r) ?_
 obtain ⟨x8,hx8,h9⟩:=aE h7
 refine xN (v:=aO) (σ':=[cI]) 50010 [] [] r (fE hx8) r r r ⟨lr,lr,trivial⟩ aC r r r<|sV (v:=aO) r<|cD (fr':=[(0,aO),(3,.box 0 0),(6,.box 0 2),(13,.ptrs [(0,1),(0,2),(0,3),(0,4),(0,5),(0,6),(0,7),(0,8)]),(14,aI),(15,aI)]) r<|bW<|bZ<|aT<|aK r (vH (dZ r r) (show _=.int .i64 (2:Int) from r))<|mI r<|cD (fr':=[(0,aO),(3,.box 0 0),(6,.box 0 2),(13,.ptrs [(0,1),(0,2),(0,3),(0,4),(0,5),(0,6),(0,7),(0,8)]),(14,aI),(15,aI)]) r<|iK<|tY<|aR<|aT ?_
 refine aK r (vH (eA r r) (show _=.bool true from r))<|aF (fr':=[(0,aO),(3,.box 0 0),(13,.ptrs [(0,1),(0,2),(0,3),(0,4),(0,5),(0,6),(0,7),(0,8)]),(14,aI),(15,aI),(16,aB)]) r r<|aR<|gZ r<|aW<|bZ<|aR<|bL<|aH<|aK r (lD (p:=(0,3)) qN r r r)<|aK r (gI rC r)<|sV (v:=.box 0 3) r ?_
 refine aF (fr':=[(0,aO),(3,.box 0 0),(6,.box 0 3),(13,.ptrs [(0,1),(0,2),(0,3),(0,4),(0,5),(0,6),(0,7),(0,8)]),(14,aI),(15,aI)]) r r<|aT<|mV (v:=aO) r<|mV (v:=.box 0 3) r<|aK r (gE r)<|aK r (aJ (v:=aI) eB r r r) ?_
 obtain ⟨x11,hx11,h12⟩:=aE h9
 refine gW (aY (v:=aO) r (fE hx11) ⟨lr,lr,trivial⟩ r r r)<|sV (v:=aO) r<|cD (fr':=[(0,aO),(3,.box 0 0),(6,.box 0 3),(13,.ptrs [(0,1),(0,2),(0,3),(0,4),(0,5),(0,6),(0,7),(0,8)]),(14,aI),(15,aI)]) r<|bW<|bZ<|aT<|aK r (vH (dZ r r) (show _=.int .i64 (3:Int) from r))<|mI r<|cD (fr':=[(0,aO),(3,.box 0 0),(6,.box 0 3),(13,.ptrs [(0,1),(0,2),(0,3),(0,4),(0,5),(0,6),(0,7),(0,8)]),(14,aI),(15,aI)]) r<|iK<|tY<|aR<|aT ?_
 refine aK r (vH (eA r r) (show _=.bool true from r))<|aF (fr':=[(0,aO),(3,.box 0 0),(13,.ptrs [(0,1),(0,2),(0,3),(0,4),(0,5),(0,6),(0,7),(0,8)]),(14,aI),(15,aI),(16,aB)]) r r<|aR<|gZ r<|aW<|bZ<|aR<|bL<|aH<|aK r (lD (p:=(0,4)) qN r r r)<|aK r (gI rC r)<|sV (v:=.box 0 4) r ?_
 refine aF (fr':=[(0,aO),(3,.box 0 0),(6,.box 0 4),(13,.ptrs [(0,1),(0,2),(0,3),(0,4),(0,5),(0,6),(0,7),(0,8)]),(14,aI),(15,aI)]) r r<|aT<|mV (v:=aO) r<|mV (v:=.box 0 4) r<|aK r (gE r)<|aK r (aJ (v:=aI) eB r r r) ?_
 obtain ⟨x13,hx13,h14⟩:=aE h12
 refine xN (v:=aO) (σ':=[cI]) 50015 [] [] r (fE hx13) r r r ⟨lr,lr,trivial⟩ aC r r r<|sV (v:=aO) r<|cD (fr':=[(0,aO),(3,.box 0 0),(6,.box 0 4),(13,.ptrs [(0,1),(0,2),(0,3),(0,4),(0,5),(0,6),(0,7),(0,8)]),(14,aI),(15,aI)]) r<|bW<|bZ<|aT<|aK r (vH (dZ r r) (show _=.int .i64 (4:Int) from r))<|mI r<|cD (fr':=[(0,aO),(3,.box 0 0),(6,.box 0 4),(13,.ptrs [(0,1),(0,2),(0,3),(0,4),(0,5),(0,6),(0,7),(0,8)]),(14,aI),(15,aI)]) r<|iK<|tY<|aR<|aT ?_
 refine aK r (vH (eA r r) (show _=.bool true from r))<|aF (fr':=[(0,aO),(3,.box 0 0),(13,.ptrs [(0,1),(0,2),(0,3),(0,4),(0,5),(0,6),(0,7),(0,8)]),(14,aI),(15,aI),(16,aB)]) r r<|aR<|gZ r<|aW<|bZ<|aR<|bL<|aH<|aK r (lD (p:=(0,5)) qN r r r)<|aK r (gI rC r)<|sV (v:=.box 0 5) r ?_
 refine aF (fr':=[(0,aO),(3,.box 0 0),(6,.box 0 5),(13,.ptrs [(0,1),(0,2),(0,3),(0,4),(0,5),(0,6),(0,7),(0,8)]),(14,aI),(15,aI)]) r r<|aT<|mV (v:=aO) r<|mV (v:=.box 0 5) r<|aK r (gE r)<|aK r (aJ (v:=aI) eB r r r) ?_
 obtain ⟨x16,hx16,h17⟩:=aE h14
 refine gW (aY (v:=aO) r (fE hx16) ⟨lr,lr,trivial⟩ r r r)<|sV (v:=aO) r<|cD (fr':=[(0,aO),(3,.box 0 0),(6,.box 0 5),(13,.ptrs [(0,1),(0,2),(0,3),(0,4),(0,5),(0,6),(0,7),(0,8)]),(14,aI),(15,aI)]) r<|bW<|bZ<|aT<|aK r (vH (dZ r r) (show _=.int .i64 (5:Int) from r))<|mI r<|cD (fr':=[(0,aO),(3,.box 0 0),(6,.box 0 5),(13,.ptrs [(0,1),(0,2),(0,3),(0,4),(0,5),(0,6),(0,7),(0,8)]),(14,aI),(15,aI)]) r<|iK<|tY<|aR<|aT ?_
 refine aK r (vH (eA r r) (show _=.bool true from r))<|aF (fr':=[(0,aO),(3,.box 0 0),(13,.ptrs [(0,1),(0,2),(0,3),(0,4),(0,5),(0,6),(0,7),(0,8)]),(14,aI),(15,aI),(16,aB)]) r r<|aR<|gZ r<|aW<|bZ<|aR<|bL<|aH<|aK r (lD (p:=(0,6)) qN r r r)<|aK r (gI rC r)<|sV (v:=.box 0 6) r ?_
 refine aF (fr':=[(0,aO),(3,.box 0 0),(6,.box 0 6),(13,.ptrs [(0,1),(0,2),(0,3),(0,4),(0,5),(0,6),(0,7),(0,8)]),(14,aI),(15,aI)]) r r<|aT<|mV (v:=aO) r<|mV (v:=.box 0 6) r<|aK r (gE r)<|aK r (aJ (v:=aI) eB r r r) ?_
 obtain ⟨x18,hx18,h19⟩:=aE h17
 refine xN (v:=aO) (σ':=[cI]) 50020 [] [] r (fE hx18) r r r ⟨lr,lr,trivial⟩ aC r r r<|sV (v:=aO) r<|cD (fr':=[(0,aO),(3,.box 0 0),(6,.box 0 6),(13,.ptrs [(0,1),(0,2),(0,3),(0,4),(0,5),(0,6),(0,7),(0,8)]),(14,aI),(15,aI)]) r<|bW<|bZ<|aT<|aK r (vH (dZ r r) (show _=.int .i64 (6:Int) from r))<|mI r<|cD (fr':=[(0,aO),(3,.box 0 0),(6,.box 0 6),(13,.ptrs [(0,1),(0,2),(0,3),(0,4),(0,5),(0,6),(0,7),(0,8)]),(14,aI),(15,aI)]) r<|iK<|tY<|aR<|aT ?_
 refine aK r (vH (eA r r) (show _=.bool true from r))<|aF (fr':=[(0,aO),(3,.box 0 0),(13,.ptrs [(0,1),(0,2),(0,3),(0,4),(0,5),(0,6),(0,7),(0,8)]),(14,aI),(15,aI),(16,aB)]) r r<|aR<|gZ r<|aW<|bZ<|aR<|bL<|aH<|aK r (lD (p:=(0,7)) qN r r r)<|aK r (gI rC r)<|sV (v:=.box 0 7) r ?_
 refine aF (fr':=[(0,aO),(3,.box 0 0),(6,.box 0 7),(13,.ptrs [(0,1),(0,2),(0,3),(0,4),(0,5),(0,6),(0,7),(0,8)]),(14,aI),(15,aI)]) r r<|aT<|mV (v:=aO) r<|mV (v:=.box 0 7) r<|aK r (gE r)<|aK r (aJ (v:=aI) eB r r r) ?_
 obtain ⟨x21,hx21,h22⟩:=aE h19
 refine gW (aY (v:=aO) r (fE hx21) ⟨lr,lr,trivial⟩ r r r)<|sV (v:=aO) r<|cD (fr':=[(0,aO),(3,.box 0 0),(6,.box 0 7),(13,.ptrs [(0,1),(0,2),(0,3),(0,4),(0,5),(0,6),(0,7),(0,8)]),(14,aI),(15,aI)]) r<|bW<|bZ<|aT<|aK r (vH (dZ r r) (show _=.int .i64 (7:Int) from r))<|mI r<|cD (fr':=[(0,aO),(3,.box 0 0),(6,.box 0 7),(13,.ptrs [(0,1),(0,2),(0,3),(0,4),(0,5),(0,6),(0,7),(0,8)]),(14,aI),(15,aI)]) r<|iK<|tY<|aR<|aT ?_
 refine aK r (vH (eA r r) (show _=.bool true from r))<|aF (fr':=[(0,aO),(3,.box 0 0),(13,.ptrs [(0,1),(0,2),(0,3),(0,4),(0,5),(0,6),(0,7),(0,8)]),(14,aI),(15,aI),(16,aB)]) r r<|aR<|gZ r<|aW<|bZ<|aR<|bL<|aH<|aK r (lD (p:=(0,8)) qN r r r)<|aK r (gI rC r)<|sV (v:=.box 0 8) r ?_
 refine aF (fr':=[(0,aO),(3,.box 0 0),(6,.box 0 8),(13,.ptrs [(0,1),(0,2),(0,3),(0,4),(0,5),(0,6),(0,7),(0,8)]),(14,aI),(15,aI)]) r r<|aT<|mV (v:=aO) r<|mV (v:=.box 0 8) r<|aK r (gE r)<|aK r (aJ (v:=aI) eB r r r) ?_
 obtain ⟨x23,hx23,h24⟩:=aE h22
 refine xN (v:=aO) (σ':=[cI]) 50025 [] [] r (fE hx23) r r r ⟨lr,lr,trivial⟩ aC r r r<|sV (v:=aO) r<|cD (fr':=[(0,aO),(3,.box 0 0),(6,.box 0 8),(13,.ptrs [(0,1),(0,2),(0,3),(0,4),(0,5),(0,6),(0,7),(0,8)]),(14,aI),(15,aI)]) r<|bW<|bZ<|aT<|aK r (vH (dZ r r) (show _=.int .i64 (8:Int) from r))<|mI r<|cD (fr':=[(0,aO),(3,.box 0 0),(6,.box 0 8),(13,.ptrs [(0,1),(0,2),(0,3),(0,4),(0,5),(0,6),(0,7),(0,8)]),(14,aI),(15,aI)]) r<|iK<|tY<|aR<|aT ?_
 refine aK r (vH (eA r r) (show _=.bool false from r))<|aF (fr':=[(0,aO),(3,.box 0 0),(13,.ptrs [(0,1),(0,2),(0,3),(0,4),(0,5),(0,6),(0,7),(0,8)]),(14,aI),(15,aI),(16,aB)]) r r<|aR<|aAZ r<|eZ<|bY<|bY<|dX<|bZ<|aH<|mV (v:=aO) r<|aK r (aZ mZ r) ?_
 refine aK r (aJ (v:=aL) lN r r r)<|aK r (eC pU (cR r)) ?_
 obtain ⟨x26,hx26,h27⟩:=aE h24
 refine gW (aY (v:=aO) r (fE hx26) ⟨lr,lr,trivial⟩ r r r)<|sV (v:=aO) r<|aF (fr':=[(0,aO),(3,.box 0 0)]) r r<|aR<|aH<|aK r (aZ mZ r)<|aK r (aJ (v:=aL) lN r r r)<|aK r (eC pU (cR r))<|mI r<|aF (fr':=[(0,aO),(31,aL),(32,aI),(33,aI)]) r r ?_
 obtain ⟨x28,hx28,h29⟩:=aE h27
 refine eR gX (fun j30=>x28=j30) (fun (j30:(List UInt8))=>([(0,AV.os 0 1 eL j30)]:Fr)) (fun (j30:(List UInt8))=>([[.c (.str p1o.Queue),ci p1o.ToStart,ci p1o.ToClose,ci p1o.Total,ci p1o.Beat,ci p1o.First,ci p1o.Coef,ci p1o.Most,ci p1o.Attempts,.c (PV.ls 1 dD p1o.Fatal)]]:St)) ?_ ?_
 ·
  refine bL<|eK _ (fun (s31:((List UInt8) × Int))=>([(0,AV.os 0 1 eL s31.1),(31,.c (PV.ls 1 dD p1o.Fatal)),(32,ci ((p1o.Fatal).length:Int)),(33,ci s31.2)]:Fr)) (fun (s31:((List UInt8) × Int))=>([[.c (.str p1o.Queue),ci p1o.ToStart,ci p1o.ToClose,ci p1o.Total,ci p1o.Beat,ci p1o.First,ci p1o.Coef,ci p1o.Most,ci p1o.Attempts,.c (PV.ls 1 dD p1o.Fatal)]]:St)) hx28 (aU [464] 1 r r r r ⟨lr,lr,lr,lr,trivial⟩ (bJ r aC)) ?_
  intro s31 st31 hs31 ho31
  unfold oV at hs31
  refine aH<|aK r (eA r r)<|aF (fr':=[(0,aO),(31,aL),(32,aI),(33,aI),(34,aB)]) r r<|aR<|bS hs31 r (fun hb32 h32=>?_) (fun hb32 h32=>?_)
  ·
   refine aW<|bZ<|aR<|bL<|aR<|aT ?_
   obtain ⟨x33,hx33,h34⟩:=aE h32
   refine aK r (iL (cs:=[PV.str _]) rV (cR r) r hx33 r)<|aK r (fU (p:=PV.str _) iE r r)<|sS r<|aF (fr':=[(0,aO),(8,aS),(31,aL),(32,aI),(33,aI)]) r r<|aT<|mV (v:=aO) r<|mS r ?_
   obtain ⟨x35,hx35,h36⟩:=aE h34
   exact gW (aY (v:=aO) r (jZ hx35) ⟨lr,lr,trivial⟩ r r r)<|sV (v:=aO) r<|cD (fr':=[(0,aO),(8,aS),(31,aL),(32,aI),(33,aI)]) r<|bW<|bZ<|aT<|aK r (dZ r r)<|mI r<|cD (fr':=[(0,aO),(8,aS),(31,aL),(32,aI),(33,aI)]) r<|tU _ (sy h36) (aU [624] 1 r r r r ⟨lr,lr,lr,lr,trivial⟩ (bJ r aC))
  ·
   refine eZ<|bY<|bY<|dX ?_
   have h37:=dB h32 ho31
   exact fS _ (sy h37) (aU [0] 1 r r r r ⟨lr,trivial⟩ (bJ r aC))
 ·
  intro j30 hj38
  subst hj38
  refine bZ<|aH<|mV (v:=aO) r<|sV (v:=aO) r<|aF (fr':=[(4,aO)]) r r<|bF ?_
  obtain rfl:=sy h29
  exact bE (rs':=[.tmp 4]) r<|bG (v:=aO) r<|bD<|aN [0] r r r lr aC
noncomputable def tI (aEg:aG→Option Int) (p0v:aG) (s4:(Int × Int)):Option (cM (Int × Int) Int) :=
 cond (decide (s4.2<((p0v.Items).length:Int))) ((jT p0v.Items s4.2).bind fun x6=>(aEg x6).bind fun x8=>some (cM.next ((if x8 > s4.1 then x8 else s4.1),(IntKind.wrap .i64 (s4.2+(1:Int)))))) (some (cM.out s4.1))
noncomputable def oD:Nat→aG→Option Int
 | 0,_=>none
 | n+1,p0v =>
  ((eQ (tI (oD n) p0v) (((0:Int),(0:Int)))):Option Int).bind fun x1=>(some (IntKind.wrap .i64 (x1+(1:Int))))
theorem aFS:∀ n:Nat,(∀ {p0v:aG}{res:Int},oD n p0v=some res→bT Tryz.prog 191 [.agg (AV.cs (cV p0v))] [] (ci res) []):=by
 intro n
 induction n with
 | zero=>exact fun {p0v res} h=>absurd h (by simp [oD])
 | succ n ih =>
  have ih_value_Depth:=@ih
  intro p0v res h
  rw [oD] at h
  refine cJ (fn:=Tryz.f191) [0,1,2,3,5,7,8,9,10] (by kernel_rfl) Tryz.func191 r (by kernel_rfl) (by kernel_rfl)<|aH<|fW (v:=.agg bQ) (n:=0) (cs:=bQ) (σ':=[bQ]) r r r r r<|sI r<|aF (fr':=[(1,.box 0 0)]) r r<|aH<|sI r<|aF (fr':=[(1,.box 0 0),(3,aI)]) r r<|aR<|aR<|aT ?_
  refine aK r (aZ fM r)<|aK r (aJ (v:=aL) kD r r r)<|aK r (eC qM (cR r))<|mI r<|aF (fr':=[(3,aI),(7,aL),(8,aI),(9,aI)]) r r ?_
  obtain ⟨x1,hx1,h2⟩:=aE h
  refine eR gX (fun j3=>x1=j3) (fun (j3:Int)=>([(3,ci j3)]:Fr)) (fun (j3:Int)=>([[ci p0v.Kind,ci p0v.Int,.c (.str p0v.Text),.c (PV.ls 5 bB p0v.Items),.c (PV.ls 1 dD p0v.Keys)]]:St)) ?_ ?_
  ·
   refine bL<|eK _ (fun (s4:(Int × Int))=>([(3,ci s4.1),(7,.c (PV.ls 5 bB p0v.Items)),(8,ci ((p0v.Items).length:Int)),(9,ci s4.2)]:Fr)) (fun (s4:(Int × Int))=>([[ci p0v.Kind,ci p0v.Int,.c (.str p0v.Text),.c (PV.ls 5 bB p0v.Items),.c (PV.ls 1 dD p0v.Keys)]]:St)) hx1 (aU [] 1 r r r r ⟨lr,lr,lr,lr,trivial⟩ (bJ r aC)) ?_
   intro s4 st4 hs4 ho4
   unfold tI at hs4
   refine aH<|aK r (eA r r)<|aF (fr':=[(3,aI),(7,aL),(8,aI),(9,aI),(10,aB)]) r r<|aR<|bS hs4 r (fun hb5 h5=>?_) (fun hb5 h5=>?_)
   ·
    refine aW<|bZ<|aR<|bL<|aR<|aT ?_
    obtain ⟨x6,hx6,h7⟩:=aE h5
    refine aK r (iL (cs:=[PV.int _ _,PV.int _ _,PV.str _,PV.ls _ _ _,PV.ls _ _ _]) tO (cR r) r hx6 (cY _))<|aK r (hG (us:=[PV.int _ _,PV.int _ _,PV.str _,PV.ls _ _ _,PV.ls _ _ _]) fV r r r)<|hS (n:=1) (cs:=bU) (σ':=[bQ,bU]) aDC r r r<|bV (v:=.agg bQ) (us:=bQ) (cs:=bU) (σ':=[bQ,bQ]) r fV r r r r r r r r<|aF (fr':=[(3,aI),(5,.box 1 0),(7,aL),(8,aI),(9,aI)]) r r<|aT<|mI r<|aK r (cN (us:=bQ) fV r r r r) ?_
    obtain ⟨x8,hx8,h9⟩:=aE h7
    exact gW (aY (v:=aI) r (ih_value_Depth hx8) ⟨(bP r ⟨r,r,r,r,r,trivial⟩),trivial⟩ r r r)<|aK r (aPL r r)<|sI r<|cD (fr':=[(3,aI),(5,.box 1 0),(7,aL),(8,aI),(9,aI)]) r<|bW<|bZ<|aT<|aK r (dZ r r)<|mI r<|cD (fr':=[(3,aI),(5,.box 1 0),(7,aL),(8,aI),(9,aI)]) r<|tU _ (sy h9) (aU [] 1 r r r r ⟨lr,lr,lr,lr,trivial⟩ (bJ r aC))
   ·
    refine eZ<|bY<|bY<|dX ?_
    have h10:=dB h5 ho4
    exact fS _ (sy h10) (aU [] 1 r r r r ⟨lr,trivial⟩ (bJ r aC))
  ·
   intro j3 hj11
   subst hj11
   refine bZ<|aH<|mI r<|aK r (dZ r r)<|sI r<|aF (fr':=[(2,aI)]) r r<|bF ?_
   obtain rfl:=sy h2
   exact bE (rs':=[.tmp 2]) r<|bG (v:=aI) r<|bD<|aN [] r r r lr aC
noncomputable def aAV (p0v:aG):Option Int:=lim fun n=>oD n p0v
theorem aGF {p0v:aG}{res:Int} (h:aAV p0v=some res):bT Tryz.prog 191 [.agg (AV.cs (cV p0v))] [] (ci res) []:=by
 obtain ⟨n,hn⟩:=kR h
 exact (aFS n) hn
noncomputable def uN (aFA:aG→Option Int) (p0v:aG) (s4:(Int × Int)):Option (cM (Int × Int) Int) :=
 cond (decide (s4.2<((p0v.Items).length:Int))) ((jT p0v.Items s4.2).bind fun x6=>(aFA x6).bind fun x8=>some (cM.next ((IntKind.wrap .i64 (s4.1+x8)),(IntKind.wrap .i64 (s4.2+(1:Int)))))) (some (cM.out s4.1))
noncomputable def pW:Nat→aG→Option Int
 | 0,_=>none
 | n+1,p0v =>
  ((eQ (uN (pW n) p0v) (((1:Int),(0:Int)))):Option Int).bind fun x1=>(some x1)
theorem aGx:∀ n:Nat,(∀ {p0v:aG}{res:Int},pW n p0v=some res→bT Tryz.prog 192 [.agg (AV.cs (cV p0v))] [] (ci res) []):=by
 intro n
 induction n with
 | zero=>exact fun {p0v res} h=>absurd h (by simp [pW])
 | succ n ih =>
  have ih_value_Size:=@ih
  intro p0v res h
  rw [pW] at h
  refine cJ (fn:=Tryz.f192) [0,1,2,3,5,7,8,9,10] (by kernel_rfl) Tryz.func192 r (by kernel_rfl) (by kernel_rfl)<|aH<|fW (v:=.agg bQ) (n:=0) (cs:=bQ) (σ':=[bQ]) r r r r r<|sI r<|aF (fr':=[(1,.box 0 0)]) r r<|aH<|sI r<|aF (fr':=[(1,.box 0 0),(3,aI)]) r r<|aR<|aR<|aT ?_
  refine aK r (aZ fM r)<|aK r (aJ (v:=aL) kD r r r)<|aK r (eC qM (cR r))<|mI r<|aF (fr':=[(3,aI),(7,aL),(8,aI),(9,aI)]) r r ?_
  obtain ⟨x1,hx1,h2⟩:=aE h
  refine eR gX (fun j3=>x1=j3) (fun (j3:Int)=>([(3,ci j3)]:Fr)) (fun (j3:Int)=>([[ci p0v.Kind,ci p0v.Int,.c (.str p0v.Text),.c (PV.ls 5 bB p0v.Items),.c (PV.ls 1 dD p0v.Keys)]]:St)) ?_ ?_
  ·
   refine bL<|eK _ (fun (s4:(Int × Int))=>([(3,ci s4.1),(7,.c (PV.ls 5 bB p0v.Items)),(8,ci ((p0v.Items).length:Int)),(9,ci s4.2)]:Fr)) (fun (s4:(Int × Int))=>([[ci p0v.Kind,ci p0v.Int,.c (.str p0v.Text),.c (PV.ls 5 bB p0v.Items),.c (PV.ls 1 dD p0v.Keys)]]:St)) hx1 (aU [] 1 r r r r ⟨lr,lr,lr,lr,trivial⟩ (bJ r aC)) ?_
   intro s4 st4 hs4 ho4
   unfold uN at hs4
   refine aH<|aK r (eA r r)<|aF (fr':=[(3,aI),(7,aL),(8,aI),(9,aI),(10,aB)]) r r<|aR<|bS hs4 r (fun hb5 h5=>?_) (fun hb5 h5=>?_)
   ·
    refine aW<|bZ<|aR<|bL<|aR<|aT ?_
    obtain ⟨x6,hx6,h7⟩:=aE h5
    refine aK r (iL (cs:=[PV.int _ _,PV.int _ _,PV.str _,PV.ls _ _ _,PV.ls _ _ _]) tO (cR r) r hx6 (cY _))<|aK r (hG (us:=[PV.int _ _,PV.int _ _,PV.str _,PV.ls _ _ _,PV.ls _ _ _]) fV r r r)<|hS (n:=1) (cs:=bU) (σ':=[bQ,bU]) aDC r r r<|bV (v:=.agg bQ) (us:=bQ) (cs:=bU) (σ':=[bQ,bQ]) r fV r r r r r r r r<|aF (fr':=[(3,aI),(5,.box 1 0),(7,aL),(8,aI),(9,aI)]) r r<|aT<|mI r<|aK r (cN (us:=bQ) fV r r r r) ?_
    obtain ⟨x8,hx8,h9⟩:=aE h7
    exact gW (aY (v:=aI) r (ih_value_Size hx8) ⟨(bP r ⟨r,r,r,r,r,trivial⟩),trivial⟩ r r r)<|aK r (dZ r r)<|sI r<|cD (fr':=[(3,aI),(5,.box 1 0),(7,aL),(8,aI),(9,aI)]) r<|bW<|bZ<|aT<|aK r (dZ r r)<|mI r<|cD (fr':=[(3,aI),(5,.box 1 0),(7,aL),(8,aI),(9,aI)]) r<|tU _ (sy h9) (aU [] 1 r r r r ⟨lr,lr,lr,lr,trivial⟩ (bJ r aC))
   ·
    refine eZ<|bY<|bY<|dX ?_
    have h10:=dB h5 ho4
    exact fS _ (sy h10) (aU [] 1 r r r r ⟨lr,trivial⟩ (bJ r aC))
  ·
   intro j3 hj11
   subst hj11
   refine bZ<|aH<|mI r<|sI r<|aF (fr':=[(2,aI)]) r r<|bF ?_
   obtain rfl:=sy h2
   exact bE (rs':=[.tmp 2]) r<|bG (v:=aI) r<|bD<|aN [] r r r lr aC
noncomputable def aCd (p0v:aG):Option Int:=lim fun n=>pW n p0v
theorem aHY {p0v:aG}{res:Int} (h:aCd p0v=some res):bT Tryz.prog 192 [.agg (AV.cs (cV p0v))] [] (ci res) []:=by
 obtain ⟨n,hn⟩:=kR h
 exact (aGx n) hn
noncomputable def uO (p0k:(List UInt8)):Option Bool :=
 some (decide ((4096:Int)<((p0k).length:Int)))
theorem aEu {p0k:(List UInt8)}{res:Bool} (h:uO p0k=some res):bT Tryz.prog 208 [.c (.str p0k)] [] (.c (.bool res)) []:=by
 unfold uO at h
 refine cJ (fn:=Tryz.f208) [0,2] (by kernel_rfl) Tryz.func208 r (by kernel_rfl) (by kernel_rfl)<|aH<|sB r<|aF (fr':=[(0,aS)]) r r<|aH<|mS r<|aK r (gS nJ r)<|aK r (mG r r)<|sB r<|aF (fr':=[(2,aB)]) r r<|bF ?_
 obtain rfl:=sy h
 exact bE (rs':=[.tmp 2]) r<|bG (v:=aB) r<|bD<|aN [] r r r lr aC
noncomputable def eG (p0s:(List (List UInt8))) (s4:Int):Option (cM Int (Fl Int Unit)) :=
 cond (decide (s4<((p0s).length:Int))) ((jT p0s s4).bind fun x6=>(uO x6).bind fun x8=>cond x8 (some (cM.out (Fl.done s4))) (some (cM.next (IntKind.wrap .i64 (s4+(1:Int)))))) (some (cM.out (Fl.go ())))
noncomputable def fN (p0s:(List (List UInt8))):Option Int :=
 ((eQ (eG p0s) ((0:Int))):Option (Fl Int Unit)).bind fun x1=>Fl.next x1 (fun j3=>(some (-1:Int)))
theorem nB {p0s:(List (List UInt8))}{res:Int} (h:fN p0s=some res):bT Tryz.prog 206 [.c (PV.ls 1 dD p0s),.fn 208 []] [] (ci res) []:=by
 unfold fN at h
 refine cJ (fn:=Tryz.f206) [0,1,4,5,7,8,9,16] (by kernel_rfl) Tryz.func206 r (by kernel_rfl) (by kernel_rfl)<|aH<|sI r<|aF (fr':=[(0,aL),(1,.fn _ [])]) r r<|aR<|aH<|mL r<|aK r (eC pU (cR r))<|mI r<|aF (fr':=[(0,aL),(1,.fn _ []),(7,aI),(8,aI)]) r r ?_
 obtain ⟨x1,hx1,h2⟩:=aE h
 refine eR gX (fun j3=>x1=Fl.go j3) (fun (j3:Unit)=>([]:Fr)) (fun (j3:Unit)=>([]:St)) ?_ ?_
 ·
  refine bL<|eK _ (fun (s4:Int)=>([(0,.c (PV.ls 1 dD p0s)),(1,.fn 208 []),(7,ci ((p0s).length:Int)),(8,ci s4)]:Fr)) (fun (s4:Int)=>([]:St)) hx1 (aU [] 0 r r r r ⟨lr,lr,lr,lr,trivial⟩ aC) ?_
  intro s4 st4 hs4 ho4
  unfold eG at hs4
  refine aH<|aK r (eA r r)<|aF (fr':=[(0,aL),(1,.fn _ []),(7,aI),(8,aI),(9,aB)]) r r<|aR<|bS hs4 r (fun hb5 h5=>?_) (fun hb5 h5=>?_)
  ·
   refine aW<|bZ<|aR<|bL<|aH<|mI r<|sI r<|aF (fr':=[(0,aL),(1,.fn _ []),(5,aI),(7,aI),(8,aI)]) r r<|aH<|mV (v:=.fn _ []) r<|mL r ?_
   refine mI r ?_
   obtain ⟨x6,hx6,h7⟩:=aE h5
   refine aK r (iL (cs:=[PV.str _]) rV (cR r) r hx6 r)<|aK r (fU (p:=PV.str _) iE r r) ?_
   obtain ⟨x8,hx8,h9⟩:=aE h7
   refine gW (aY (v:=aB) r (aEu hx8) ⟨lr,trivial⟩ r r r)<|aF (fr':=[(0,aL),(1,.fn _ []),(5,aI),(7,aI),(8,aI),(16,aB)]) r r<|bS h9 r (fun hb10 h10=>?_) (fun hb10 h10=>?_)
   ·
    refine aH<|mI r<|sI r<|aF (fr':=[(4,aI)]) r r<|bF<|bH<|aM<|aM<|bH<|aM<|aM ?_
    have h11:=dB h10 ho4
    have h12:=eH h11 h2
    obtain rfl:=sy h12
    exact bE (rs':=[.tmp 4]) r<|bG (v:=aI) r<|bD<|aN [] r r r lr aC
   ·
    exact aW<|bW<|bZ<|aT<|aK r (dZ r r)<|mI r<|cD (fr':=[(0,aL),(1,.fn _ []),(5,aI),(7,aI),(8,aI),(16,aB)]) r<|tU _ (sy h10) (aU [] 0 r r r r ⟨lr,lr,lr,lr,trivial⟩ aC)
  ·
   refine eZ<|bY<|bY<|dX ?_
   have h14:=dB h5 ho4
   exact fS _ (sy h14) (aU [] 0 r r r r trivial aC)
 ·
  intro j3 hj15
  have h15:=iS hj15 h2
  refine bZ<|aH<|sI r<|aF (fr':=[(4,aI)]) r r<|bF ?_
  obtain rfl:=sy h15
  exact bE (rs':=[.tmp 4]) r<|bG (v:=aI) r<|bD<|aN [] r r r lr aC
noncomputable def eE (p0s:(List (List UInt8))):Option Bool :=
 (fN p0s).bind fun x1=>some (decide ((0:Int)≤x1))
theorem lU {p0s:(List (List UInt8))}{res:Bool} (h:eE p0s=some res):bT Tryz.prog 178 [.c (PV.ls 1 dD p0s),.fn 208 []] [] (.c (.bool res)) []:=by
 unfold eE at h
 refine cJ (fn:=Tryz.f178) [0,1,4] (by kernel_rfl) Tryz.func178 r (by kernel_rfl) (by kernel_rfl)<|aH<|sB r<|aF (fr':=[(0,aL),(1,.fn _ [])]) r r<|aH<|mL r<|mV (v:=.fn _ []) r ?_
 obtain ⟨x1,hx1,h2⟩:=aE h
 refine gW (aY (v:=aI) r (nB hx1) ⟨lr,lr,trivial⟩ r r r)<|aK r (lC r r)<|sB r<|aF (fr':=[(4,aB)]) r r<|bF ?_
 obtain rfl:=sy h2
 exact bE (rs':=[.tmp 4]) r<|bG (v:=aB) r<|bD<|aN [] r r r lr aC
noncomputable def dR (aCK:aG→Option Bool) (p0s:(List aG)) (s4:Int):Option (cM Int (Fl Int Unit)) :=
 cond (decide (s4<((p0s).length:Int))) ((jT p0s s4).bind fun x6=>(aCK x6).bind fun x8=>cond x8 (some (cM.out (Fl.done s4))) (some (cM.next (IntKind.wrap .i64 (s4+(1:Int)))))) (some (cM.out (Fl.go ())))
mutual
noncomputable def dA:Nat→(List aG)→Option Bool
 | 0,_=>none
 | n+1,p0s =>
  ((dY n) p0s).bind fun x1=>some (decide ((0:Int)≤x1))
noncomputable def dY:Nat→(List aG)→Option Int
 | 0,_=>none
 | n+1,p0s =>
  ((eQ (dR (nK n) p0s) ((0:Int))):Option (Fl Int Unit)).bind fun x1=>Fl.next x1 (fun j3=>(some (-1:Int)))
noncomputable def oF:Nat→aG→Option Bool
 | 0,_=>none
 | n+1,p0v =>
  (gd ((decide ((4096:Int)<((p0v.Text).length:Int)))==false) (eE p0v.Keys)).bind fun x1=>cond (cond (decide ((4096:Int)<((p0v.Text).length:Int))) true x1) (some false) (((dA n) p0v.Items).bind fun x5=>some (!x5))
noncomputable def nK:Nat→aG→Option Bool
 | 0,_=>none
 | n+1,p0x =>
  ((oF n) p0x).bind fun x1=>some (!x1)
end
theorem jY:∀ n:Nat,(∀ {p0s:(List aG)}{res:Bool},dA n p0s=some res→bT Tryz.prog 176 [.c (PV.ls 5 bB p0s),.fn 209 []] [] (.c (.bool res)) [])∧(∀ {p0s:(List aG)}{res:Int},dY n p0s=some res→bT Tryz.prog 205 [.c (PV.ls 5 bB p0s),.fn 209 []] [] (ci res) [])∧(∀ {p0v:aG}{res:Bool},oF n p0v=some res→bT Tryz.prog 193 [.agg (AV.cs (cV p0v))] [] (.c (.bool res)) [])∧(∀ {p0x:aG}{res:Bool},nK n p0x=some res→bT Tryz.prog 209 [.agg (AV.cs (cV p0x))] [] (.c (.bool res)) []):=by
 intro n
 induction n with
 | zero=>exact ⟨fun {p0s res} h=>absurd h (by simp [dA]),fun {p0s res} h=>absurd h (by simp [dY]),fun {p0v res} h=>absurd h (by simp [oF]),fun {p0x res} h=>absurd h (by simp [nK])⟩
 | succ n ih =>
  obtain ⟨ih_slices_ContainsFunc_api_Value_api_Value_value_short_2,ih_slices_IndexFunc_api_Value_api_Value_value_short_2,ih_value_short,ih_value_short_2⟩:=ih
  refine ⟨?_,?_,?_,?_⟩
  ·
   intro p0s res h
   rw [dA] at h
   refine cJ (fn:=Tryz.f176) [0,1,4] (by kernel_rfl) Tryz.func176 r (by kernel_rfl) (by kernel_rfl)<|aH<|sB r<|aF (fr':=[(0,aL),(1,.fn _ [])]) r r<|aH<|mL r<|mV (v:=.fn _ []) r ?_
   obtain ⟨x1,hx1,h2⟩:=aE h
   refine gW (aY (v:=aI) r (ih_slices_IndexFunc_api_Value_api_Value_value_short_2 hx1) ⟨lr,lr,trivial⟩ r r r)<|aK r (lC r r)<|sB r<|aF (fr':=[(4,aB)]) r r<|bF ?_
   obtain rfl:=sy h2
   exact bE (rs':=[.tmp 4]) r<|bG (v:=aB) r<|bD<|aN [] r r r lr aC
  ·
   intro p0s res h
   rw [dY] at h
   refine cJ (fn:=Tryz.f205) [0,1,4,5,7,8,9,16] (by kernel_rfl) Tryz.func205 r (by kernel_rfl) (by kernel_rfl)<|aH<|sI r<|aF (fr':=[(0,aL),(1,.fn _ [])]) r r<|aR<|aH<|mL r<|aK r (eC qM (cR r))<|mI r<|aF (fr':=[(0,aL),(1,.fn _ []),(7,aI),(8,aI)]) r r ?_
   obtain ⟨x1,hx1,h2⟩:=aE h
   refine eR gX (fun j3=>x1=Fl.go j3) (fun (j3:Unit)=>([]:Fr)) (fun (j3:Unit)=>([]:St)) ?_ ?_
   ·
    refine bL<|eK _ (fun (s4:Int)=>([(0,.c (PV.ls 5 bB p0s)),(1,.fn 209 []),(7,ci ((p0s).length:Int)),(8,ci s4)]:Fr)) (fun (s4:Int)=>([]:St)) hx1 (aU [] 0 r r r r ⟨lr,lr,lr,lr,trivial⟩ aC) ?_
    intro s4 st4 hs4 ho4
    unfold dR at hs4
    refine aH<|aK r (eA r r)<|aF (fr':=[(0,aL),(1,.fn _ []),(7,aI),(8,aI),(9,aB)]) r r<|aR<|bS hs4 r (fun hb5 h5=>?_) (fun hb5 h5=>?_)
    ·
     refine aW<|bZ<|aR<|bL<|aH<|mI r<|sI r<|aF (fr':=[(0,aL),(1,.fn _ []),(5,aI),(7,aI),(8,aI)]) r r<|aH<|mV (v:=.fn _ []) r<|mL r ?_
     refine mI r ?_
     obtain ⟨x6,hx6,h7⟩:=aE h5
     refine aK r (iL (cs:=[PV.int _ _,PV.int _ _,PV.str _,PV.ls _ _ _,PV.ls _ _ _]) tO (cR r) r hx6 (cY _))<|aK r (hG (us:=[PV.int _ _,PV.int _ _,PV.str _,PV.ls _ _ _,PV.ls _ _ _]) fV r r r) ?_
     obtain ⟨x8,hx8,h9⟩:=aE h7
     refine gW (aY (v:=aB) r (ih_value_short_2 hx8) ⟨(bP r ⟨r,r,r,r,r,trivial⟩),trivial⟩ r r r)<|aF (fr':=[(0,aL),(1,.fn _ []),(5,aI),(7,aI),(8,aI),(16,aB)]) r r<|bS h9 r (fun hb10 h10=>?_) (fun hb10 h10=>?_)
     ·
      refine aH<|mI r<|sI r<|aF (fr':=[(4,aI)]) r r<|bF<|bH<|aM<|aM<|bH<|aM<|aM ?_
      have h11:=dB h10 ho4
      have h12:=eH h11 h2
      obtain rfl:=sy h12
      exact bE (rs':=[.tmp 4]) r<|bG (v:=aI) r<|bD<|aN [] r r r lr aC
     ·
      exact aW<|bW<|bZ<|aT<|aK r (dZ r r)<|mI r<|cD (fr':=[(0,aL),(1,.fn _ []),(5,aI),(7,aI),(8,aI),(16,aB)]) r<|tU _ (sy h10) (aU [] 0 r r r r ⟨lr,lr,lr,lr,trivial⟩ aC)
    ·
     refine eZ<|bY<|bY<|dX ?_
     have h14:=dB h5 ho4
     exact fS _ (sy h14) (aU [] 0 r r r r trivial aC)
   ·
    intro j3 hj15
    have h15:=iS hj15 h2
    refine bZ<|aH<|sI r<|aF (fr':=[(4,aI)]) r r<|bF ?_
    obtain rfl:=sy h15
    exact bE (rs':=[.tmp 4]) r<|bG (v:=aI) r<|bD<|aN [] r r r lr aC
  ·
   intro p0v res h
   rw [oF] at h
   refine cJ (fn:=Tryz.f193) [0,1,2,11] (by kernel_rfl) Tryz.func193 r (by kernel_rfl) (by kernel_rfl)<|aH<|fW (v:=.agg bQ) (n:=0) (cs:=bQ) (σ':=[bQ]) r r r r r<|sB r<|aF (fr':=[(1,.box 0 0)]) r r<|aR<|aH<|aK r (aZ oA r)<|aK r (aJ (v:=aS) iE r r r)<|aK r (gS nJ r)<|aK r (mG r r) ?_
   refine mB r<|og r r r (fun hc=>(aZ jW r))<|og r r r (fun hc=>(aJ (v:=aL) lN (gx r hc) r r)) ?_
   obtain ⟨x1,hx1,h2⟩:=aE h
   refine rZ r r (fun hc=>aY (v:=aB) r (lU (cG hx1 hc)) ⟨(dW (gx r hc) lr),lr,trivial⟩ (fC (by repeat (first | exact dT | refine aX r ?_ | refine aX (oQ r) ?_ | refine aX oP ?_))) r r) ?_
   refine aK r (bX r r r (fun e=>eI e))<|aF (fr':=[(1,.box 0 0),(11,aB)]) r r<|bS h2 r (fun hb3 h3=>?_) (fun hb3 h3=>?_)
   ·
    refine aH<|sB r<|aF (fr':=[(2,aB)]) r r<|bF<|aM ?_
    obtain rfl:=sy h3
    exact bE (rs':=[.tmp 2]) r<|bG (v:=aB) r<|bD<|aN [] r r r lr aC
   ·
    refine aW<|bZ<|aH<|aK r (aZ fM r)<|aK r (aJ (v:=aL) kD r r r) ?_
    obtain ⟨x5,hx5,h6⟩:=aE h3
    refine gW (aY (v:=aB) r (ih_slices_ContainsFunc_api_Value_api_Value_value_short_2 hx5) ⟨lr,lr,trivial⟩ r r r)<|aK r (eD r)<|sB r<|aF (fr':=[(2,aB)]) r r<|bF ?_
    obtain rfl:=sy h6
    exact bE (rs':=[.tmp 2]) r<|bG (v:=aB) r<|bD<|aN [] r r r lr aC
  ·
   intro p0x res h
   rw [nK] at h
   refine cJ (fn:=Tryz.f209) [0,1,2] (by kernel_rfl) Tryz.func209 r (by kernel_rfl) (by kernel_rfl)<|aH<|fW (v:=.agg bQ) (n:=0) (cs:=bQ) (σ':=[bQ]) r r r r r<|sB r<|aF (fr':=[(1,.box 0 0)]) r r<|aH<|aK r (cN (us:=bQ) fV r r r r) ?_
   obtain ⟨x1,hx1,h2⟩:=aE h
   refine gW (aY (v:=aB) r (ih_value_short hx1) ⟨(bP r ⟨r,r,r,r,r,trivial⟩),trivial⟩ r r r)<|aK r (eD r)<|sB r<|aF (fr':=[(2,aB)]) r r<|bF ?_
   obtain rfl:=sy h2
   exact bE (rs':=[.tmp 2]) r<|bG (v:=aB) r<|bD<|aN [] r r r lr aC
noncomputable def aAX (p0v:aG):Option Bool:=lim fun n=>oF n p0v
theorem aGG {p0v:aG}{res:Bool} (h:aAX p0v=some res):bT Tryz.prog 193 [.agg (AV.cs (cV p0v))] [] (.c (.bool res)) []:=by
 obtain ⟨n,hn⟩:=kR h
 exact (jY n).2.2.1 hn
noncomputable def tJ (p0v:aG):Option Bool :=
 (aAV p0v).bind fun x1=>(gd ((decide (x1≤(16:Int)))==true) (aCd p0v)).bind fun x3=>(gd ((cond (decide (x1≤(16:Int))) (decide (x3≤(1000:Int))) false)==true) (aAX p0v)).bind fun x5=>some (cond (cond (decide (x1≤(16:Int))) (decide (x3≤(1000:Int))) false) x5 false)
theorem aF5 {p0v:aG}{res:Bool} (h:tJ p0v=some res):bT Tryz.prog 160 [.agg (AV.cs (cV p0v))] [] (.c (.bool res)) []:=by
 unfold tJ at h
 refine cJ (fn:=Tryz.f160) [0,1,2] (by kernel_rfl) Tryz.func160 r (by kernel_rfl) (by kernel_rfl)<|aH<|fW (v:=.agg bQ) (n:=0) (cs:=bQ) (σ':=[bQ]) r r r r r<|sB r<|aF (fr':=[(1,.box 0 0)]) r r<|aH<|aK r (cN (us:=bQ) fV r r r r) ?_
 obtain ⟨x1,hx1,h2⟩:=aE h
 refine gW (aY (v:=aI) r (aGF hx1) ⟨(bP r ⟨r,r,r,r,r,trivial⟩),trivial⟩ r r r)<|aK r (lI r r)<|mB r<|og r r r (fun hc=>(cN (us:=bQ) fV r r r r)) ?_
 obtain ⟨x3,hx3,h4⟩:=aE h2
 refine rZ r r (fun hc=>aY (v:=aI) r (aHY (cG hx3 hc)) ⟨(dW (gx r hc) (bP r ⟨r,r,r,r,r,trivial⟩)),trivial⟩ (fC (by repeat (first | exact dT | refine aX r ?_ | refine aX (oQ r) ?_ | refine aX oP ?_))) r r) ?_
 refine og r r r (fun hc=>(lI (gx r hc) r))<|aK r (bM r r r (fun e=>eI e))<|mB r<|og r r r (fun hc=>(cN (us:=bQ) fV r r r r)) ?_
 obtain ⟨x5,hx5,h6⟩:=aE h4
 refine rZ r r (fun hc=>aY (v:=aB) r (aGG (cG hx5 hc)) ⟨(dW (gx r hc) (bP r ⟨r,r,r,r,r,trivial⟩)),trivial⟩ (fC (by repeat (first | exact dT | refine aX r ?_ | refine aX (oQ r) ?_ | refine aX oP ?_))) r r) ?_
 refine aK r (bM r r r (fun e=>eI e))<|sB r<|aF (fr':=[(2,aB)]) r r<|bF ?_
 obtain rfl:=sy h6
 exact bE (rs':=[.tmp 2]) r<|bG (v:=aB) r<|bD<|aN [] r r r lr aC
noncomputable def sG (p0v:aG):Option Bool :=
 (tJ p0v).bind fun x1=>(gd (x1==true) (wB p0v false)).bind fun x3=>some (cond x1 x3 false)
theorem aBL {p0v:aG}{res:Bool} (h:sG p0v=some res):bT Tryz.prog 100 [.agg (AV.cs (cV p0v))] [] (.c (.bool res)) []:=by
 unfold sG at h
 refine cJ (fn:=Tryz.f100) [0,1,2] (by kernel_rfl) Tryz.func100 r (by kernel_rfl) (by kernel_rfl)<|aH<|fW (v:=.agg bQ) (n:=0) (cs:=bQ) (σ':=[bQ]) r r r r r<|sB r<|aF (fr':=[(1,.box 0 0)]) r r<|aH<|aK r (cN (us:=bQ) fV r r r r) ?_
 obtain ⟨x1,hx1,h2⟩:=aE h
 refine gW (aY (v:=aB) r (aF5 hx1) ⟨(bP r ⟨r,r,r,r,r,trivial⟩),trivial⟩ r r r)<|mB r<|og r r r (fun hc=>(cN (us:=bQ) fV r r r r)) ?_
 obtain ⟨x3,hx3,h4⟩:=aE h2
 refine rZ r r (fun hc=>aY (v:=aB) r (aA7 (cG hx3 hc)) ⟨(dW (gx r hc) (bP r ⟨r,r,r,r,r,trivial⟩)),lr,trivial⟩ (fC (by repeat (first | exact dT | refine aX r ?_ | refine aX (oQ r) ?_ | refine aX oP ?_))) r r) ?_
 refine aK r (bM r r r (fun e=>eI e))<|sB r<|aF (fr':=[(2,aB)]) r r<|bF ?_
 obtain rfl:=sy h4
 exact bE (rs':=[.tmp 2]) r<|bG (v:=aB) r<|bD<|aN [] r r r lr aC
end Go.Proofs.YtnigjppddilpcaaGreatDoor
