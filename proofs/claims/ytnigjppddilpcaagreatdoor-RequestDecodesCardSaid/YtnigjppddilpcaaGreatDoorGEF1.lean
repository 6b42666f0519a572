import Derived.Test.YtnigjppddilpcaaGreatDoorGETy
import Derived.Test.YtnigjppddilpcaaGreatDoorGEF0
namespace Go.Proofs.YtnigjppddilpcaaGreatDoor
open Go Abs
set_option maxRecDepth 100000
set_option linter.unusedVariables false
set_option linter.unusedSimpArgs false
noncomputable def gO (p0s:(List (List UInt8))) (s4:Int):Option (dU Int (Fl Int Unit)) :=
 cond (decide (s4<((p0s).length:Int))) ((nG p0s s4).bind fun x6=>(tG x6).bind fun x8=>cond x8 (some (dU.out (Fl.done s4))) (some (dU.next (IntKind.wrap .i64 (s4+1))))) (some (dU.out (Fl.go ())))
noncomputable def jB (p0s:(List (List UInt8))):Option Int :=
 (fK (gO p0s) (0)).bind fun x1=>Fl.next x1 (fun j3=>(some (-1)))
theorem rU {p0s:(List (List UInt8))}{z:Int} (h:jB p0s=some z):cQ Tryz.prog 206 [.c (PV.ls 1 fI p0s),.fn 179 []] [] (ci z) []:=by
 unfold jB at h
 refine dF (fn:=Tryz.f206) [0,1,4,5,7,8,9,16] (by kernel_rfl) Tryz.func206 r (by kernel_rfl) (by kernel_rfl)<|aH<|sI r<|aG (fr':=[(0,aL),(1,.fn _ [])]) r r<|aZ<|aH<|mL r<|aR r (hZ zD (eK r))<|mI r<|aG (fr':=[(0,aL),(1,.fn _ []),(7,aI),(8,aI)]) r r<|bx h fun x1 y1 h2=>gZ lB (fun j3=>x1=Fl.go j3) (fun (j3:Unit)=>([]:Fr)) (fun (j3:Unit)=>([]:St)) ?_ ?_
 ·
  refine cH<|gV _ (fun (s4:Int)=>([(0,.c (PV.ls 1 fI p0s)),(1,.fn 179 []),(7,ci ((p0s).length:Int)),(8,ci s4)]:Fr)) (fun (s4:Int)=>([]:St)) y1 (bC [] 0 r r r r kL4 aD) ?_
  intro s4 st4 hs4 ho4
  unfold gO at hs4
  refine aH<|aR r (gI r r)<|aG (fr':=[(0,aL),(1,.fn _ []),(7,aI),(8,aI),(9,aB)]) r r<|aZ<|cG hs4 r (fun b5 h5=>?_) (fun b5 h5=>?_)
  ·
   refine bF<|cZ<|aZ<|cH<|aH<|mI r<|sI r<|aG (fr':=[(0,aL),(1,.fn _ []),(5,aI),(7,aI),(8,aI)]) r r<|aH<|mV (v:=.fn _ []) r<|mL r<|mI r<|bx h5 fun x6 y6 h7=>aR r (lF (cs:=[PV.str _]) aAR (eK r) r y6 r)<|aR r (gP (p:=PV.str _) lP r r)<|bx h7 fun x8 y8 h9=>lS (bL (v:=aB) r (aDw y8) ⟨lr,trivial⟩ r r r)<|aG (fr':=[(0,aL),(1,.fn _ []),(5,aI),(7,aI),(8,aI),(16,aB)]) r r<|cG h9 r (fun b10 h10=>?_) (fun b10 h10=>?_)
   ·
    refine aH<|mI r<|sI r<|aG (fr':=[(4,aI)]) r r<|bK<|bO<|aP<|aP<|bO<|aP<|aP ?_
    have h11:=eR h10 ho4
    have h12:=fL h11 h2
    obtain rfl:=sy h12
    exact bJ (rs':=[.tmp 4]) r<|bS (v:=aI) r<|bI<|aN [] r r r lr aD
   ·
    exact bF<|cW<|cZ<|bB<|aR r (gC r r)<|mI r<|dM (fr':=[(0,aL),(1,.fn _ []),(5,aI),(7,aI),(8,aI),(16,aB)]) r<|zO _ (sy h10) (bC [] 0 r r r r kL4 aD)
  ·
   refine hG<|cY<|cY<|fP ?_
   have h14:=eR h5 ho4
   exact iQ _ (sy h14) (bC [] 0 r r r r trivial aD)
 ·
  intro j3 hj15
  have h15:=lV hj15 h2
  refine cZ<|aH<|sI r<|aG (fr':=[(4,aI)]) r r<|bK ?_
  obtain rfl:=sy h15
  exact bJ (rs':=[.tmp 4]) r<|bS (v:=aI) r<|bI<|aN [] r r r lr aD
noncomputable def gM (p0s:(List (List UInt8))):Option Bool :=
 (jB p0s).bind fun x1=>some (decide (0≤x1))
theorem qT {p0s:(List (List UInt8))}{z:Bool} (h:gM p0s=some z):cQ Tryz.prog 178 [.c (PV.ls 1 fI p0s),.fn 179 []] [] (.c (.bool z)) []:=by
 unfold gM at h
 refine dF (fn:=Tryz.f178) [0,1,4] (by kernel_rfl) Tryz.func178 r (by kernel_rfl) (by kernel_rfl)<|aH<|sB r<|aG (fr':=[(0,aL),(1,.fn _ [])]) r r<|aH<|mL r<|mV (v:=.fn _ []) r<|bx h fun x1 y1 h2=>lS (bL (v:=aI) r (rU y1) jN r r r)<|aR r (oI r r)<|sB r<|aG (fr':=[(4,aB)]) r r<|bK ?_
 obtain rfl:=sy h2
 exact bJ (rs':=[.tmp 4]) r<|bS (v:=aB) r<|bI<|aN [] r r r lr aD
noncomputable def sC (p0o:dS) (s8:Int):Option (dU Int (Fl Bool Unit)) :=
 cond (decide (s8<((([p0o.ToStart,p0o.ToClose,p0o.Total,p0o.Beat,p0o.First,p0o.Most]:List Int)).length:Int))) ((nG ([p0o.ToStart,p0o.ToClose,p0o.Total,p0o.Beat,p0o.First,p0o.Most]:List Int) s8).bind fun x10=>(nQ x10 0 1099511627776).bind fun x12=>cond (!x12) (some (dU.out (Fl.done false))) (some (dU.next (IntKind.wrap .i64 (s8+1))))) (some (dU.out (Fl.go ())))
noncomputable def pN (p0o:dS):Option Bool :=
 (gd ((!decide (p0o.Queue=([]:List UInt8)))==true) (sW p0o.Queue)).bind fun x1=>cond (cond (cond (!decide (p0o.Queue=([]:List UInt8))) (!x1) false) true (decide (64<((p0o.Fatal).length:Int)))) (some false) ((fK (sC p0o) (0)).bind fun x5=>Fl.next x5 (fun j7=>((nQ p0o.Coef 0 10000).bind fun x20=>(gd (x20==true) (nQ p0o.Attempts 0 1000)).bind fun x22=>(gd ((cond x20 x22 false)==true) (gM p0o.Fatal)).bind fun x24=>some (cond (cond x20 x22 false) (!x24) false))))
theorem aA3 {p0o:dS}{z:Bool} (h:pN p0o=some z):cQ Tryz.prog 130 [.agg (AV.cs (pH p0o))] [] (.c (.bool z)) []:=by
 unfold pN at h
 refine dF (fn:=Tryz.f130) [0,1,2,4,19,32,33,34,35,40] (by kernel_rfl) Tryz.func130 r (by kernel_rfl) (by kernel_rfl)<|aH<|jK (v:=.agg dO) (n:=0) (cs:=dO) (σ':=[dO]) r r r r r<|sB r<|aG (fr':=[(1,aE)]) r r<|aZ<|aH<|aR r (bD aDb r)<|aR r (aK (v:=aS) lP r r r)<|aR r (wZ r r)<|mB r<|og r r r (fun u=>(bD aDb r))<|og r r r (fun u=>(aK (v:=aS) lP (gx r u) r r))<|bx h fun x1 y1 h2=>sX r r (fun u=>bL (v:=aB) r (wC (cU y1 u)) ⟨(eW (gx r u) lr),trivial⟩ (fT (by repeat (first | exact eN | refine aY r ?_ | refine aY (pP r) ?_ | refine aY pO ?_))) r r) ?_
 refine og r r r (fun u=>(fE (gx r u)))<|aR r (bV r r r (fun e=>fJ e))<|mB r<|og r r r (fun u=>(bD tN r))<|og r r r (fun u=>(aK (v:=aL) rC (gx r u) r r))<|og r r r (fun u=>(hZ zD (eK (gx r u))))<|og r r r (fun u=>(qW (gx r u) r))<|aR r (cN r r r (fun e=>fJ e))<|aG (fr':=[(1,aE),(19,aB)]) r r<|cG h2 r (fun b3 h3=>?_) (fun b3 h3=>?_)
 ·
  refine aH<|sB r<|aG (fr':=[(2,aB)]) r r<|bK<|aP ?_
  obtain rfl:=sy h3
  exact bJ (rs':=[.tmp 2]) r<|bS (v:=aB) r<|bI<|aN [] r r r lr aD
 ·
  refine bF<|cZ<|aZ<|aH<|aR r (bD aFR r)<|aR r (aK (v:=aI) fM r r r)<|aR r (bD aFS r)<|aR r (aK (v:=aI) fM r r r)<|aR r (bD aFT r)<|aR r (aK (v:=aI) fM r r r)<|aR r (bD aFU r)<|aR r (aK (v:=aI) fM r r r)<|aR r (bD aFV r)<|aR r (aK (v:=aI) fM r r r)<|aR r (bD aFX r)<|aR r (aK (v:=aI) fM r r r)<|uL (row:=(aHr .i64)) (xs:=([p0o.ToStart,p0o.ToClose,p0o.Total,p0o.Beat,p0o.First,p0o.Most]:List Int)) (rows:=[[_],[_],[_],[_],[_],[_]]) (σ':=[dO]) [0] aB8 r r r (gB r (gB r (gB r (gB r (gB r (gB r oB)))))) r r<|aR r (hZ aRv (oC r))<|mI r<|aG (fr':=[(1,aE),(32,aO),(33,aI),(34,aI)]) r r<|bx h3 fun x5 y5 h6=>gZ lB (fun j7=>x5=Fl.go j7) (fun (j7:Unit)=>([(1,aE)]:Fr)) (fun (j7:Unit)=>([[.c (.str p0o.Queue),ci p0o.ToStart,ci p0o.ToClose,ci p0o.Total,ci p0o.Beat,ci p0o.First,ci p0o.Coef,ci p0o.Most,ci p0o.Attempts,.c (PV.ls 1 fI p0o.Fatal)]]:St)) ?_ ?_
  ·
   refine cH<|gV _ (fun (s8:Int)=>([(1,aE),(32,AV.os 0 1 (aHr .i64) ([p0o.ToStart,p0o.ToClose,p0o.Total,p0o.Beat,p0o.First,p0o.Most]:List Int)),(33,ci ((([p0o.ToStart,p0o.ToClose,p0o.Total,p0o.Beat,p0o.First,p0o.Most]:List Int)).length:Int)),(34,ci s8)]:Fr)) (fun (s8:Int)=>([[.c (.str p0o.Queue),ci p0o.ToStart,ci p0o.ToClose,ci p0o.Total,ci p0o.Beat,ci p0o.First,ci p0o.Coef,ci p0o.Most,ci p0o.Attempts,.c (PV.ls 1 fI p0o.Fatal)]]:St)) y5 (bC [512] 1 r r r r kL4 (bR r aD)) ?_
   intro s8 st8 hs8 ho8
   unfold sC at hs8
   refine aH<|aR r (gI r r)<|aG (fr':=[(1,aE),(32,aO),(33,aI),(34,aI),(35,aB)]) r r<|aZ<|cG hs8 r (fun b9 h9=>?_) (fun b9 h9=>?_)
   ·
    refine bF<|cZ<|aZ<|cH<|aZ<|bB<|bx h9 fun x10 y10 h11=>aR r (lF (cs:=[PV.int _ _]) aB8 (oC r) r y10 r)<|aR r (gP (p:=PV.int _ _) fM r r)<|sI r<|aG (fr':=[(1,aE),(4,aI),(32,aO),(33,aI),(34,aI)]) r r<|aH<|mI r<|bx h11 fun x12 y12 h13=>lS (bL (v:=aB) r (pJ y12) kA r r r)<|aR r (fE r)<|aG (fr':=[(1,aE),(32,aO),(33,aI),(34,aI),(40,aB)]) r r<|cG h13 r (fun b14 h14=>?_) (fun b14 h14=>?_)
    ·
     refine aH<|sB r<|aG (fr':=[(2,aB)]) r r<|bK<|bO<|aP<|aP<|bO<|aP<|aP ?_
     have h15:=eR h14 ho8
     have h16:=fL h15 h6
     obtain rfl:=sy h16
     exact bJ (rs':=[.tmp 2]) r<|bS (v:=aB) r<|bI<|aN [] r r r lr aD
    ·
     exact bF<|cW<|cZ<|bB<|aR r (gC r r)<|mI r<|dM (fr':=[(1,aE),(32,aO),(33,aI),(34,aI),(40,aB)]) r<|zO _ (sy h14) (bC [0] 1 r r r r kL4 (bR r aD))
   ·
    refine hG<|cY<|cY<|fP ?_
    have h18:=eR h9 ho8
    exact iQ _ (sy h18) (bC [] 1 r r r r ⟨lr,trivial⟩ (bR r aD))
  ·
   intro j7 hj19
   have h19:=lV hj19 h6
   refine cZ<|aH<|aR r (bD aFW r)<|aR r (aK (v:=aI) fM r r r)<|bx h19 fun x20 y20 h21=>lS (bL (v:=aB) r (pJ y20) kA r r r)<|mB r<|og r r r (fun u=>(bD aFY r))<|og r r r (fun u=>(aK (v:=aI) fM (gx r u) r r))<|bx h21 fun x22 y22 h23=>sX r r (fun u=>bL (v:=aB) r (pJ (cU y22 u)) ⟨(eW (gx r u) lr),lr,lr,trivial⟩ (fT (by repeat (first | exact eN | refine aY r ?_ | refine aY (pP r) ?_ | refine aY pO ?_))) r r) ?_
   refine aR r (bV r r r (fun e=>fJ e))<|mB r<|og r r r (fun u=>(bD tN r))<|og r r r (fun u=>(aK (v:=aL) rC (gx r u) r r))<|bx h23 fun x24 y24 h25=>sX r r (fun u=>bL (v:=aB) r (qT (cU y24 u)) ⟨(eW (gx r u) lr),lr,trivial⟩ (fT (by repeat (first | exact eN | refine aY r ?_ | refine aY (pP r) ?_ | refine aY pO ?_))) r r) ?_
   refine og r r r (fun u=>(fE (gx r u)))<|aR r (bV r r r (fun e=>fJ e))<|sB r<|aG (fr':=[(2,aB)]) r r<|bK ?_
   obtain rfl:=sy h25
   exact bJ (rs':=[.tmp 2]) r<|bS (v:=aB) r<|bI<|aN [] r r r lr aD
noncomputable def tQ (cV:dS):Option Unit :=
 some ()
theorem aAZ {cV:dS}{z:Unit} (h:tQ cV=some z):cQ Tryz.prog 146 [.box 0 0] [AV.cs (pH cV)] (.ptrs [(0,1),(0,2),(0,3),(0,4),(0,5),(0,6),(0,7),(0,8)]) [AV.cs (pH cV)]:=by
 unfold tQ at h
 refine dF (fn:=Tryz.f146) [0,2] (by kernel_rfl) Tryz.func146 r (by kernel_rfl) (by kernel_rfl)<|aH<|sV (v:=AV.nil) r<|aG (fr':=[(0,aE)]) r r<|aZ<|kV [.q 0,.q 1,.q 2,.q 3,.q 4,.q 5,.q 6,.q 7,.q 8,.q 9,.q 10,.q 11,.q 12,.q 13,.q 14,.q 15,.q 16,.q 17,.q 18,.q 19,.q 20,.q 21,.q 22,.q 23,.n 24 [],.n 25 []] [(some 3,[0]),(some 4,[3]),(some 5,[4]),(some 6,[0]),(some 7,[6]),(some 8,[7]),(some 9,[0]),(some 10,[9]),(some 11,[10]),(some 12,[0]),(some 13,[12]),(some 14,[13]),(some 15,[0]),(some 16,[15]),(some 17,[16]),(some 18,[0]),(some 19,[18]),(some 20,[19]),(some 21,[0]),(some 22,[21]),(some 23,[22]),(some 24,[0]),(some 25,[24]),(some 26,[25]),(some 27,[5,8,11,14,17,20,23,26]),(some 2,[27])] [0,1,3,0,8,24,0,64,192,0,512,1536,0,4096,12288,0,32768,98304,0,262144,786432,0,2097152,6291456,16777215,33554431] (by kernel_rfl)<|dq r r (bN (v:=aE) r)<|dq r r (jM r)<|dq r r (bD aFR r)<|dq r r (bN (v:=aE) r)<|dq r r (jM r)<|dq r r (bD aFS r)<|dq r r (bN (v:=aE) r)<|dq r r (jM r)<|dq r r (bD aFT r)<|dq r r (bN (v:=aE) r)<|dq r r (jM r)<|dq r r (bD aFU r)<|dq r r (bN (v:=aE) r)<|dq r r (jM r)<|dq r r (bD aFV r)<|dq r r (bN (v:=aE) r)<|dq r r (jM r)<|dq r r (bD aFW r)<|dq r r (bN (v:=aE) r)<|dq r r (jM r)<|dq r r (bD aFX r)<|dq r r (bN (v:=aE) r)<|dq r r (jM r)<|dq r r (bD aFY r)<|d_n r ?_ r
 refine aN1 (l:=[(0,1),(0,2),(0,3),(0,4),(0,5),(0,6),(0,7),(0,8)]) uW r r r r<|uK<|⟨lJ,?_⟩
 refine d_n r ?_ r
 refine sV (v:=.ptrs [(0,1),(0,2),(0,3),(0,4),(0,5),(0,6),(0,7),(0,8)]) r<|uK<|⟨lJ,?_⟩
 refine aAq (fr':=[(2,.ptrs [(0,1),(0,2),(0,3),(0,4),(0,5),(0,6),(0,7),(0,8)])]) r r<|bK ?_
 obtain rfl:=sy h
 exact bJ (rs':=[.tmp 2]) r<|bS (v:=.ptrs [(0,1),(0,2),(0,3),(0,4),(0,5),(0,6),(0,7),(0,8)]) r<|bI<|aOH [] r r r lr (bR r aD)
noncomputable def aCS (p1o:dS) (s31:((List UInt8) × Int)):Option (dU ((List UInt8) × Int) (List UInt8)) :=
 cond (decide (s31.2<((p1o.Fatal).length:Int))) ((nG p1o.Fatal s31.2).bind fun x33=>(mH s31.1 x33).bind fun x35=>some (dU.next (x35,(IntKind.wrap .i64 (s31.2+1))))) (some (dU.out s31.1))
noncomputable def aCi (p0b:(List UInt8)) (p1o:dS):Option (List UInt8) :=
 (mH p0b p1o.Queue).bind fun x1=>(tQ p1o).bind fun x3=>(iZ x1 p1o.ToStart).bind fun x6=>(iZ x6 p1o.ToClose).bind fun x8=>(iZ x8 p1o.Total).bind fun x11=>(iZ x11 p1o.Beat).bind fun x13=>(iZ x13 p1o.First).bind fun x16=>(iZ x16 p1o.Coef).bind fun x18=>(iZ x18 p1o.Most).bind fun x21=>(iZ x21 p1o.Attempts).bind fun x23=>(iZ x23 ((p1o.Fatal).length:Int)).bind fun x26=>(fK (aCS p1o) ((x26,0))).bind fun x28=>(some x28)
theorem aHD {p0b:(List UInt8)}{p1o:dS}{z:(List UInt8)} (h:aCi p0b p1o=some z):cQ Tryz.prog 131 [.c (PV.ls 1 iT p0b),.agg (AV.cs (pH p1o))] [] (AV.os 0 1 iT z) []:=by
 unfold aCi at h
 refine dF (fn:=Tryz.f131) [0,1,3,4,6,8,13,14,15,16,31,32,33,34] (by kernel_rfl) Tryz.func131 r (by kernel_rfl) (by kernel_rfl)<|aH<|jK (v:=.agg dO) (n:=0) (cs:=dO) (σ':=[dO]) r r r r r<|sV (v:=AV.nil) r<|aG (fr':=[(0,aL),(3,aE)]) r r<|aH<|mL r<|aR r (bD aDb r)<|aR r (aK (v:=aS) lP r r r)<|bx h fun x1 y1 h2=>lS (bL (v:=aO) r (rE y1) jN r r r)<|sV (v:=aO) r<|aG (fr':=[(0,aO),(3,aE)]) r r<|aZ<|aZ<|bB<|bx h2 fun x3 y3 h4=>aCX (v:=.ptrs [(0,1),(0,2),(0,3),(0,4),(0,5),(0,6),(0,7),(0,8)]) (σ':=[dO]) 13 [0] [] r (aAZ y3) r r r ⟨lr,trivial⟩ (eG aBA aD) r r r<|aR r (aLi aSF r)<|mI r<|aG (fr':=[(0,aO),(3,aE),(13,.ptrs [(0,1),(0,2),(0,3),(0,4),(0,5),(0,6),(0,7),(0,8)]),(14,aI),(15,aI)]) r r<|cH<|aO5 64<|xQ<|aH<|aR r (zF (gI r r) (show _=.bool true from r))<|aG (fr':=[(0,aO),(3,aE),(13,.ptrs [(0,1),(0,2),(0,3),(0,4),(0,5),(0,6),(0,7),(0,8)]),(14,aI),(15,aI),(16,aB)]) r r<|aZ<|kP r<|bF<|cZ<|aZ<|cH<|aH<|aR r (pE (p:=(0,1)) uW r r r)<|aR r (kI vY r)<|sV (v:=aMb) r<|aG (fr':=[(0,aO),(3,aE),(6,aMb),(13,.ptrs [(0,1),(0,2),(0,3),(0,4),(0,5),(0,6),(0,7),(0,8)]),(14,aI),(15,aI)]) r r<|bB<|mV (v:=aO) r<|mV (v:=aMb) r<|aR r (jM r)<|aR r (aK (v:=aI) fM r r r)<|bx h4 fun x6 y6 h7=>lS (bL (v:=aO) r (jL y6) jN r r r)<|sV (v:=aO) r<|dM (fr':=[(0,aO),(3,aE),(6,aMb),(13,.ptrs [(0,1),(0,2),(0,3),(0,4),(0,5),(0,6),(0,7),(0,8)]),(14,aI),(15,aI)]) r<|cW<|cZ<|bB<|aR r (zF (gC r r) (show _=.int .i64 (1:Int) from r))<|mI r<|dM (fr':=[(0,aO),(3,aE),(6,aMb),(13,.ptrs [(0,1),(0,2),(0,3),(0,4),(0,5),(0,6),(0,7),(0,8)]),(14,aI),(15,aI)]) r<|mA<|xQ<|aZ<|bB<|aR r (zF (gI r r) (show _=.bool true from r))<|aG (fr':=[(0,aO),(3,aE),(13,.ptrs [(0,1),(0,2),(0,3),(0,4),(0,5),(0,6),(0,7),(0,8)]),(14,aI),(15,aI),(16,aB)]) r r<|aZ<|kP r<|bF<|cZ<|aZ<|cH<|aH<|aR r (pE (p:=(0,2)) uW r r r)<|aR r (kI vY r)<|sV (v:=aMc) r<|aG (fr':=[(0,aO),(3,aE),(6,aMc),(13,.ptrs [(0,1),(0,2),(0,3),(0,4),(0,5),(0,6),(0,7),(0,8)]),(14,aI),(15,aI)]) r r<|bB<|mV (v:=aO) r<|mV (v:=aMc) r<|aR r (jM r)<|aR r (aK (v:=aI) fM r r r)<|bx h7 fun x8 y8 h9=>aCX (v:=aO) (σ':=[dO]) 50010 [] [] r (jL y8) r r r jN aD r r r<|sV (v:=aO) r<|dM (fr':=[(0,aO),(3,aE),(6,aMc),(13,.ptrs [(0,1),(0,2),(0,3),(0,4),(0,5),(0,6),(0,7),(0,8)]),(14,aI),(15,aI)]) r<|cW<|cZ<|bB<|aR r (zF (gC r r) (show _=.int .i64 (2:Int) from r))<|mI r<|dM (fr':=[(0,aO),(3,aE),(6,aMc),(13,.ptrs [(0,1),(0,2),(0,3),(0,4),(0,5),(0,6),(0,7),(0,8)]),(14,aI),(15,aI)]) r<|mA<|xQ<|aZ<|bB<|aR r (zF (gI r r) (show _=.bool true from r))<|aG (fr':=[(0,aO),(3,aE),(13,.ptrs [(0,1),(0,2),(0,3),(0,4),(0,5),(0,6),(0,7),(0,8)]),(14,aI),(15,aI),(16,aB)]) r r<|aZ<|kP r<|bF<|cZ<|aZ<|cH<|aH<|aR r (pE (p:=(0,3)) uW r r r)<|aR r (kI vY r)<|sV (v:=aMd) r<|aG (fr':=[(0,aO),(3,aE),(6,aMd),(13,.ptrs [(0,1),(0,2),(0,3),(0,4),(0,5),(0,6),(0,7),(0,8)]),(14,aI),(15,aI)]) r r<|bB<|mV (v:=aO) r<|mV (v:=aMd) r<|aR r (jM r)<|aR r (aK (v:=aI) fM r r r)<|bx h9 fun x11 y11 h12=>lS (bL (v:=aO) r (jL y11) jN r r r)<|sV (v:=aO) r<|dM (fr':=[(0,aO),(3,aE),(6,aMd),(13,.ptrs [(0,1),(0,2),(0,3),(0,4),(0,5),(0,6),(0,7),(0,8)]),(14,aI),(15,aI)]) r<|cW<|cZ<|bB<|aR r (zF (gC r r) (show _=.int .i64 (3:Int) from r))<|mI r<|dM (fr':=[(0,aO),(3,aE),(6,aMd),(13,.ptrs [(0,1),(0,2),(0,3),(0,4),(0,5),(0,6),(0,7),(0,8)]),(14,aI),(15,aI)]) r<|mA<|xQ<|aZ<|bB<|aR r (zF (gI r r) (show _=.bool true from r))<|aG (fr':=[(0,aO),(3,aE),(13,.ptrs [(0,1),(0,2),(0,3),(0,4),(0,5),(0,6),(0,7),(0,8)]),(14,aI),(15,aI),(16,aB)]) r r<|aZ<|kP r<|bF<|cZ<|aZ<|cH<|aH<|aR r (pE (p:=(0,4)) uW r r r)<|aR r (kI vY r)<|sV (v:=aMe) r<|aG (fr':=[(0,aO),(3,aE),(6,aMe),(13,.ptrs [(0,1),(0,2),(0,3),(0,4),(0,5),(0,6),(0,7),(0,8)]),(14,aI),(15,aI)]) r r<|bB<|mV (v:=aO) r<|mV (v:=aMe) r<|aR r (jM r)<|aR r (aK (v:=aI) fM r r r)<|bx h12 fun x13 y13 h14=>aCX (v:=aO) (σ':=[dO]) 50015 [] [] r (jL y13) r r r jN aD r r r<|sV (v:=aO) r<|dM (fr':=[(0,aO),(3,aE),(6,aMe),(13,.ptrs [(0,1),(0,2),(0,3),(0,4),(0,5),(0,6),(0,7),(0,8)]),(14,aI),(15,aI)]) r<|cW<|cZ<|bB<|aR r (zF (gC r r) (show _=.int .i64 (4:Int) from r))<|mI r<|dM (fr':=[(0,aO),(3,aE),(6,aMe),(13,.ptrs [(0,1),(0,2),(0,3),(0,4),(0,5),(0,6),(0,7),(0,8)]),(14,aI),(15,aI)]) r<|mA<|xQ<|aZ<|bB<|aR r (zF (gI r r) (show _=.bool true from r))<|aG (fr':=[(0,aO),(3,aE),(13,.ptrs [(0,1),(0,2),(0,3),(0,4),(0,5),(0,6),(0,7),(0,8)]),(14,aI),(15,aI),(16,aB)]) r r<|aZ<|kP r<|bF<|cZ<|aZ<|cH<|aH<|aR r (pE (p:=(0,5)) uW r r r)<|aR r (kI vY r)<|sV (v:=aMf) r<|aG (fr':=[(0,aO),(3,aE),(6,aMf),(13,.ptrs [(0,1),(0,2),(0,3),(0,4),(0,5),(0,6),(0,7),(0,8)]),(14,aI),(15,aI)]) r r<|bB<|mV (v:=aO) r<|mV (v:=aMf) r<|aR r (jM r)<|aR r (aK (v:=aI) fM r r r)<|bx h14 fun x16 y16 h17=>lS (bL (v:=aO) r (jL y16) jN r r r)<|sV (v:=aO) r<|dM (fr':=[(0,aO),(3,aE),(6,aMf),(13,.ptrs [(0,1),(0,2),(0,3),(0,4),(0,5),(0,6),(0,7),(0,8)]),(14,aI),(15,aI)]) r<|cW<|cZ<|bB<|aR r (zF (gC r r) (show _=.int .i64 (5:Int) from r))<|mI r<|dM (fr':=[(0,aO),(3,aE),(6,aMf),(13,.ptrs [(0,1),(0,2),(0,3),(0,4),(0,5),(0,6),(0,7),(0,8)]),(14,aI),(15,aI)]) r<|mA<|xQ<|aZ<|bB<|aR r (zF (gI r r) (show _=.bool true from r))<|aG (fr':=[(0,aO),(3,aE),(13,.ptrs [(0,1),(0,2),(0,3),(0,4),(0,5),(0,6),(0,7),(0,8)]),(14,aI),(15,aI),(16,aB)]) r r<|aZ<|kP r<|bF<|cZ<|aZ<|cH<|aH<|aR r (pE (p:=(0,6)) uW r r r)<|aR r (kI vY r)<|sV (v:=aMg) r<|aG (fr':=[(0,aO),(3,aE),(6,aMg),(13,.ptrs [(0,1),(0,2),(0,3),(0,4),(0,5),(0,6),(0,7),(0,8)]),(14,aI),(15,aI)]) r r<|bB<|mV (v:=aO) r<|mV (v:=aMg) r<|aR r (jM r)<|aR r (aK (v:=aI) fM r r r)<|bx h17 fun x18 y18 h19=>aCX (v:=aO) (σ':=[dO]) 50020 [] [] r (jL y18) r r r jN aD r r r<|sV (v:=aO) r<|dM (fr':=[(0,aO),(3,aE),(6,aMg),(13,.ptrs [(0,1),(0,2),(0,3),(0,4),(0,5),(0,6),(0,7),(0,8)]),(14,aI),(15,aI)]) r<|cW<|cZ<|bB<|aR r (zF (gC r r) (show _=.int .i64 (6:Int) from r))<|mI r<|dM (fr':=[(0,aO),(3,aE),(6,aMg),(13,.ptrs [(0,1),(0,2),(0,3),(0,4),(0,5),(0,6),(0,7),(0,8)]),(14,aI),(15,aI)]) r<|mA<|xQ<|aZ<|bB<|aR r (zF (gI r r) (show _=.bool true from r))<|aG (fr':=[(0,aO),(3,aE),(13,.ptrs [(0,1),(0,2),(0,3),(0,4),(0,5),(0,6),(0,7),(0,8)]),(14,aI),(15,aI),(16,aB)]) r r<|aZ<|kP r<|bF<|cZ<|aZ<|cH<|aH<|aR r (pE (p:=(0,7)) uW r r r)<|aR r (kI vY r)<|sV (v:=aMh) r<|aG (fr':=[(0,aO),(3,aE),(6,aMh),(13,.ptrs [(0,1),(0,2),(0,3),(0,4),(0,5),(0,6),(0,7),(0,8)]),(14,aI),(15,aI)]) r r<|bB<|mV (v:=aO) r<|mV (v:=aMh) r<|aR r (jM r)<|aR r (aK (v:=aI) fM r r r)<|bx h19 fun x21 y21 h22=>lS (bL (v:=aO) r (jL y21) jN r r r)<|sV (v:=aO) r<|dM (fr':=[(0,aO),(3,aE),(6,aMh),(13,.ptrs [(0,1),(0,2),(0,3),(0,4),(0,5),(0,6),(0,7),(0,8)]),(14,aI),(15,aI)]) r<|cW<|cZ<|bB<|aR r (zF (gC r r) (show _=.int .i64 (7:Int) from r))<|mI r<|dM (fr':=[(0,aO),(3,aE),(6,aMh),(13,.ptrs [(0,1),(0,2),(0,3),(0,4),(0,5),(0,6),(0,7),(0,8)]),(14,aI),(15,aI)]) r<|mA<|xQ<|aZ<|bB<|aR r (zF (gI r r) (show _=.bool true from r))<|aG (fr':=[(0,aO),(3,aE),(13,.ptrs [(0,1),(0,2),(0,3),(0,4),(0,5),(0,6),(0,7),(0,8)]),(14,aI),(15,aI),(16,aB)]) r r<|aZ<|kP r<|bF<|cZ<|aZ<|cH<|aH<|aR r (pE (p:=(0,8)) uW r r r)<|aR r (kI vY r)<|sV (v:=aMi) r ?_
 refine aG (fr':=[(0,aO),(3,aE),(6,aMi),(13,.ptrs [(0,1),(0,2),(0,3),(0,4),(0,5),(0,6),(0,7),(0,8)]),(14,aI),(15,aI)]) r r<|bB<|mV (v:=aO) r<|mV (v:=aMi) r<|aR r (jM r)<|aR r (aK (v:=aI) fM r r r)<|bx h22 fun x23 y23 h24=>aCX (v:=aO) (σ':=[dO]) 50025 [] [] r (jL y23) r r r jN aD r r r<|sV (v:=aO) r<|dM (fr':=[(0,aO),(3,aE),(6,aMi),(13,.ptrs [(0,1),(0,2),(0,3),(0,4),(0,5),(0,6),(0,7),(0,8)]),(14,aI),(15,aI)]) r<|cW<|cZ<|bB<|aR r (zF (gC r r) (show _=.int .i64 (8:Int) from r))<|mI r<|dM (fr':=[(0,aO),(3,aE),(6,aMi),(13,.ptrs [(0,1),(0,2),(0,3),(0,4),(0,5),(0,6),(0,7),(0,8)]),(14,aI),(15,aI)]) r<|mA<|xQ<|aZ<|bB<|aR r (zF (gI r r) (show _=.bool false from r))<|aG (fr':=[(0,aO),(3,aE),(13,.ptrs [(0,1),(0,2),(0,3),(0,4),(0,5),(0,6),(0,7),(0,8)]),(14,aI),(15,aI),(16,aB)]) r r<|aZ<|yI r<|hG<|cY<|cY<|fP<|cZ<|aH<|mV (v:=aO) r<|aR r (bD tN r)<|aR r (aK (v:=aL) rC r r r)<|aR r (hZ zD (eK r))<|bx h24 fun x26 y26 h27=>lS (bL (v:=aO) r (jL y26) jN r r r)<|sV (v:=aO) r<|aG (fr':=[(0,aO),(3,aE)]) r r<|aZ<|aH<|aR r (bD tN r)<|aR r (aK (v:=aL) rC r r r)<|aR r (hZ zD (eK r))<|mI r<|aG (fr':=[(0,aO),(31,aL),(32,aI),(33,aI)]) r r<|bx h27 fun x28 y28 h29=>gZ lB (fun j30=>x28=j30) (fun (j30:(List UInt8))=>([(0,AV.os 0 1 iT j30)]:Fr)) (fun (j30:(List UInt8))=>([[.c (.str p1o.Queue),ci p1o.ToStart,ci p1o.ToClose,ci p1o.Total,ci p1o.Beat,ci p1o.First,ci p1o.Coef,ci p1o.Most,ci p1o.Attempts,.c (PV.ls 1 fI p1o.Fatal)]]:St)) ?_ ?_
 ·
  refine cH<|gV _ (fun (s31:((List UInt8) × Int))=>([(0,AV.os 0 1 iT s31.1),(31,.c (PV.ls 1 fI p1o.Fatal)),(32,ci ((p1o.Fatal).length:Int)),(33,ci s31.2)]:Fr)) (fun (s31:((List UInt8) × Int))=>([[.c (.str p1o.Queue),ci p1o.ToStart,ci p1o.ToClose,ci p1o.Total,ci p1o.Beat,ci p1o.First,ci p1o.Coef,ci p1o.Most,ci p1o.Attempts,.c (PV.ls 1 fI p1o.Fatal)]]:St)) y28 (bC [464] 1 r r r r kL4 (bR r aD)) ?_
  intro s31 st31 hs31 ho31
  unfold aCS at hs31
  refine aH<|aR r (gI r r)<|aG (fr':=[(0,aO),(31,aL),(32,aI),(33,aI),(34,aB)]) r r<|aZ<|cG hs31 r (fun b32 h32=>?_) (fun b32 h32=>?_)
  ·
   exact bF<|cZ<|aZ<|cH<|aZ<|bB<|bx h32 fun x33 y33 h34=>aR r (lF (cs:=[PV.str _]) aAR (eK r) r y33 r)<|aR r (gP (p:=PV.str _) lP r r)<|sS r<|aG (fr':=[(0,aO),(8,aS),(31,aL),(32,aI),(33,aI)]) r r<|bB<|mV (v:=aO) r<|mS r<|bx h34 fun x35 y35 h36=>lS (bL (v:=aO) r (rE y35) jN r r r)<|sV (v:=aO) r<|dM (fr':=[(0,aO),(8,aS),(31,aL),(32,aI),(33,aI)]) r<|cW<|cZ<|bB<|aR r (gC r r)<|mI r<|dM (fr':=[(0,aO),(8,aS),(31,aL),(32,aI),(33,aI)]) r<|zO _ (sy h36) (bC [624] 1 r r r r kL4 (bR r aD))
  ·
   refine hG<|cY<|cY<|fP ?_
   have h37:=eR h32 ho31
   exact iQ _ (sy h37) (bC [0] 1 r r r r ⟨lr,trivial⟩ (bR r aD))
 ·
  intro j30 hj38
  subst hj38
  refine cZ<|aH<|mV (v:=aO) r<|sV (v:=aO) r<|aG (fr':=[(4,aO)]) r r<|bK ?_
  obtain rfl:=sy h29
  exact bJ (rs':=[.tmp 4]) r<|bS (v:=aO) r<|bI<|aN [0] r r r lr aD
noncomputable def aAS (aIa:aQ→Option Int) (p0v:aQ) (s4:(Int × Int)):Option (dU (Int × Int) Int) :=
 cond (decide (s4.2<((p0v.Items).length:Int))) ((nG p0v.Items s4.2).bind fun x6=>(aIa x6).bind fun x8=>some (dU.next ((if x8 > s4.1 then x8 else s4.1),(IntKind.wrap .i64 (s4.2+1))))) (some (dU.out s4.1))
noncomputable def vZ:Nat→aQ→Option Int
 | 0,_=>none
 | n+1,p0v =>
  (fK (aAS (vZ n) p0v) ((0,0))).bind fun x1=>(some (IntKind.wrap .i64 (x1+1)))
theorem aJF:∀ n:Nat,(∀ {p0v:aQ}{z:Int},vZ n p0v=some z→cQ Tryz.prog 191 [.agg (AV.cs (fA p0v))] [] (ci z) []):=by
 intro n
 induction n with
 | zero=>exact fun {p0v z} h=>absurd h (by simp [vZ])
 | succ n ih =>
  have ih_value_Depth:=@ih
  intro p0v z h
  rw [vZ] at h
  refine dF (fn:=Tryz.f191) [0,1,2,3,5,7,8,9,10] (by kernel_rfl) Tryz.func191 r (by kernel_rfl) (by kernel_rfl)<|aH<|jK (v:=.agg cE) (n:=0) (cs:=cE) (σ':=[cE]) r r r r r<|sI r<|aG (fr':=[(1,aE)]) r r<|aH<|sI r<|aG (fr':=[(1,aE),(3,aI)]) r r<|aZ<|aZ<|bB<|aR r (bD iJ r)<|aR r (aK (v:=aL) nS r r r)<|aR r (hZ vX (eK r))<|mI r<|aG (fr':=[(3,aI),(7,aL),(8,aI),(9,aI)]) r r<|bx h fun x1 y1 h2=>gZ lB (fun j3=>x1=j3) (fun (j3:Int)=>([(3,ci j3)]:Fr)) (fun (j3:Int)=>([[ci p0v.Kind,ci p0v.Int,.c (.str p0v.Text),.c (PV.ls 5 bT p0v.Items),.c (PV.ls 1 fI p0v.Keys)]]:St)) ?_ ?_
  ·
   refine cH<|gV _ (fun (s4:(Int × Int))=>([(3,ci s4.1),(7,.c (PV.ls 5 bT p0v.Items)),(8,ci ((p0v.Items).length:Int)),(9,ci s4.2)]:Fr)) (fun (s4:(Int × Int))=>([[ci p0v.Kind,ci p0v.Int,.c (.str p0v.Text),.c (PV.ls 5 bT p0v.Items),.c (PV.ls 1 fI p0v.Keys)]]:St)) y1 (bC [] 1 r r r r kL4 (bR r aD)) ?_
   intro s4 st4 hs4 ho4
   unfold aAS at hs4
   refine aH<|aR r (gI r r)<|aG (fr':=[(3,aI),(7,aL),(8,aI),(9,aI),(10,aB)]) r r<|aZ<|cG hs4 r (fun b5 h5=>?_) (fun b5 h5=>?_)
   ·
    exact bF<|cZ<|aZ<|cH<|aZ<|bB<|bx h5 fun x6 y6 h7=>aR r (lF (cs:=[PV.int _ _,PV.int _ _,PV.str _,PV.ls _ _ _,PV.ls _ _ _]) uV (eK r) r y6 (eJ _))<|aR r (lT (us:=[PV.int _ _,PV.int _ _,PV.str _,PV.ls _ _ _,PV.ls _ _ _]) iO r r r)<|hO (n:=1) (cs:=cB) (σ':=[cE,cB]) aD2 r r r<|bM (v:=.agg cE) (us:=cE) (cs:=cB) (σ':=[cE,cE]) r iO r r r r r r r r<|aG (fr':=[(3,aI),(5,aU),(7,aL),(8,aI),(9,aI)]) r r<|bB<|mI r<|aR r (dL (us:=cE) iO r r r r)<|bx h7 fun x8 y8 h9=>lS (bL (v:=aI) r (ih_value_Depth y8) ⟨(bQ r kR5),trivial⟩ r r r)<|aR r (aT7 r r)<|sI r<|dM (fr':=[(3,aI),(5,aU),(7,aL),(8,aI),(9,aI)]) r<|cW<|cZ<|bB<|aR r (gC r r)<|mI r<|dM (fr':=[(3,aI),(5,aU),(7,aL),(8,aI),(9,aI)]) r<|zO _ (sy h9) (bC [] 1 r r r r kL4 (bR r aD))
   ·
    refine hG<|cY<|cY<|fP ?_
    have h10:=eR h5 ho4
    exact iQ _ (sy h10) (bC [] 1 r r r r ⟨lr,trivial⟩ (bR r aD))
  ·
   intro j3 hj11
   subst hj11
   refine cZ<|aH<|mI r<|aR r (gC r r)<|sI r<|aG (fr':=[(2,aI)]) r r<|bK ?_
   obtain rfl:=sy h2
   exact bJ (rs':=[.tmp 2]) r<|bS (v:=aI) r<|bI<|aN [] r r r lr aD
noncomputable def aEX (p0v:aQ):Option Int:=lim fun n=>vZ n p0v
theorem aKn {p0v:aQ}{z:Int} (h:aEX p0v=some z):cQ Tryz.prog 191 [.agg (AV.cs (fA p0v))] [] (ci z) []:=by
 obtain ⟨n,hn⟩:=rV h
 exact (aJF n) hn
noncomputable def aBr (aJi:aQ→Option Int) (p0v:aQ) (s4:(Int × Int)):Option (dU (Int × Int) Int) :=
 cond (decide (s4.2<((p0v.Items).length:Int))) ((nG p0v.Items s4.2).bind fun x6=>(aJi x6).bind fun x8=>some (dU.next ((IntKind.wrap .i64 (s4.1+x8)),(IntKind.wrap .i64 (s4.2+1))))) (some (dU.out s4.1))
noncomputable def yG:Nat→aQ→Option Int
 | 0,_=>none
 | n+1,p0v =>
  (fK (aBr (yG n) p0v) ((1,0))).bind fun x1=>(some x1)
theorem aKd:∀ n:Nat,(∀ {p0v:aQ}{z:Int},yG n p0v=some z→cQ Tryz.prog 192 [.agg (AV.cs (fA p0v))] [] (ci z) []):=by
 intro n
 induction n with
 | zero=>exact fun {p0v z} h=>absurd h (by simp [yG])
 | succ n ih =>
  have ih_value_Size:=@ih
  intro p0v z h
  rw [yG] at h
  refine dF (fn:=Tryz.f192) [0,1,2,3,5,7,8,9,10] (by kernel_rfl) Tryz.func192 r (by kernel_rfl) (by kernel_rfl)<|aH<|jK (v:=.agg cE) (n:=0) (cs:=cE) (σ':=[cE]) r r r r r<|sI r<|aG (fr':=[(1,aE)]) r r<|aH<|sI r<|aG (fr':=[(1,aE),(3,aI)]) r r<|aZ<|aZ<|bB<|aR r (bD iJ r)<|aR r (aK (v:=aL) nS r r r)<|aR r (hZ vX (eK r))<|mI r<|aG (fr':=[(3,aI),(7,aL),(8,aI),(9,aI)]) r r<|bx h fun x1 y1 h2=>gZ lB (fun j3=>x1=j3) (fun (j3:Int)=>([(3,ci j3)]:Fr)) (fun (j3:Int)=>([[ci p0v.Kind,ci p0v.Int,.c (.str p0v.Text),.c (PV.ls 5 bT p0v.Items),.c (PV.ls 1 fI p0v.Keys)]]:St)) ?_ ?_
  ·
   refine cH<|gV _ (fun (s4:(Int × Int))=>([(3,ci s4.1),(7,.c (PV.ls 5 bT p0v.Items)),(8,ci ((p0v.Items).length:Int)),(9,ci s4.2)]:Fr)) (fun (s4:(Int × Int))=>([[ci p0v.Kind,ci p0v.Int,.c (.str p0v.Text),.c (PV.ls 5 bT p0v.Items),.c (PV.ls 1 fI p0v.Keys)]]:St)) y1 (bC [] 1 r r r r kL4 (bR r aD)) ?_
   intro s4 st4 hs4 ho4
   unfold aBr at hs4
   refine aH<|aR r (gI r r)<|aG (fr':=[(3,aI),(7,aL),(8,aI),(9,aI),(10,aB)]) r r<|aZ<|cG hs4 r (fun b5 h5=>?_) (fun b5 h5=>?_)
   ·
    exact bF<|cZ<|aZ<|cH<|aZ<|bB<|bx h5 fun x6 y6 h7=>aR r (lF (cs:=[PV.int _ _,PV.int _ _,PV.str _,PV.ls _ _ _,PV.ls _ _ _]) uV (eK r) r y6 (eJ _))<|aR r (lT (us:=[PV.int _ _,PV.int _ _,PV.str _,PV.ls _ _ _,PV.ls _ _ _]) iO r r r)<|hO (n:=1) (cs:=cB) (σ':=[cE,cB]) aD2 r r r<|bM (v:=.agg cE) (us:=cE) (cs:=cB) (σ':=[cE,cE]) r iO r r r r r r r r<|aG (fr':=[(3,aI),(5,aU),(7,aL),(8,aI),(9,aI)]) r r<|bB<|mI r<|aR r (dL (us:=cE) iO r r r r)<|bx h7 fun x8 y8 h9=>lS (bL (v:=aI) r (ih_value_Size y8) ⟨(bQ r kR5),trivial⟩ r r r)<|aR r (gC r r)<|sI r<|dM (fr':=[(3,aI),(5,aU),(7,aL),(8,aI),(9,aI)]) r<|cW<|cZ<|bB<|aR r (gC r r)<|mI r<|dM (fr':=[(3,aI),(5,aU),(7,aL),(8,aI),(9,aI)]) r<|zO _ (sy h9) (bC [] 1 r r r r kL4 (bR r aD))
   ·
    refine hG<|cY<|cY<|fP ?_
    have h10:=eR h5 ho4
    exact iQ _ (sy h10) (bC [] 1 r r r r ⟨lr,trivial⟩ (bR r aD))
  ·
   intro j3 hj11
   subst hj11
   refine cZ<|aH<|mI r<|sI r<|aG (fr':=[(2,aI)]) r r<|bK ?_
   obtain rfl:=sy h2
   exact bJ (rs':=[.tmp 2]) r<|bS (v:=aI) r<|bI<|aN [] r r r lr aD
noncomputable def aF2 (p0v:aQ):Option Int:=lim fun n=>yG n p0v
theorem aLR {p0v:aQ}{z:Int} (h:aF2 p0v=some z):cQ Tryz.prog 192 [.agg (AV.cs (fA p0v))] [] (ci z) []:=by
 obtain ⟨n,hn⟩:=rV h
 exact (aKd n) hn
noncomputable def aBs (p0k:(List UInt8)):Option Bool :=
 some (decide (4096<((p0k).length:Int)))
theorem aIm {p0k:(List UInt8)}{z:Bool} (h:aBs p0k=some z):cQ Tryz.prog 208 [.c (.str p0k)] [] (.c (.bool z)) []:=by
 unfold aBs at h
 refine dF (fn:=Tryz.f208) [0,2] (by kernel_rfl) Tryz.func208 r (by kernel_rfl) (by kernel_rfl)<|aH<|sB r<|aG (fr':=[(0,aS)]) r r<|aH<|mS r<|aR r (kT uU r)<|aR r (qW r r)<|sB r<|aG (fr':=[(2,aB)]) r r<|bK ?_
 obtain rfl:=sy h
 exact bJ (rs':=[.tmp 2]) r<|bS (v:=aB) r<|bI<|aN [] r r r lr aD
noncomputable def iM (p0s:(List (List UInt8))) (s4:Int):Option (dU Int (Fl Int Unit)) :=
 cond (decide (s4<((p0s).length:Int))) ((nG p0s s4).bind fun x6=>(aBs x6).bind fun x8=>cond x8 (some (dU.out (Fl.done s4))) (some (dU.next (IntKind.wrap .i64 (s4+1))))) (some (dU.out (Fl.go ())))
noncomputable def kD (p0s:(List (List UInt8))):Option Int :=
 (fK (iM p0s) (0)).bind fun x1=>Fl.next x1 (fun j3=>(some (-1)))
theorem uT {p0s:(List (List UInt8))}{z:Int} (h:kD p0s=some z):cQ Tryz.prog 206 [.c (PV.ls 1 fI p0s),.fn 208 []] [] (ci z) []:=by
 unfold kD at h
 refine dF (fn:=Tryz.f206) [0,1,4,5,7,8,9,16] (by kernel_rfl) Tryz.func206 r (by kernel_rfl) (by kernel_rfl)<|aH<|sI r<|aG (fr':=[(0,aL),(1,.fn _ [])]) r r<|aZ<|aH<|mL r<|aR r (hZ zD (eK r))<|mI r<|aG (fr':=[(0,aL),(1,.fn _ []),(7,aI),(8,aI)]) r r<|bx h fun x1 y1 h2=>gZ lB (fun j3=>x1=Fl.go j3) (fun (j3:Unit)=>([]:Fr)) (fun (j3:Unit)=>([]:St)) ?_ ?_
 ·
  refine cH<|gV _ (fun (s4:Int)=>([(0,.c (PV.ls 1 fI p0s)),(1,.fn 208 []),(7,ci ((p0s).length:Int)),(8,ci s4)]:Fr)) (fun (s4:Int)=>([]:St)) y1 (bC [] 0 r r r r kL4 aD) ?_
  intro s4 st4 hs4 ho4
  unfold iM at hs4
  refine aH<|aR r (gI r r)<|aG (fr':=[(0,aL),(1,.fn _ []),(7,aI),(8,aI),(9,aB)]) r r<|aZ<|cG hs4 r (fun b5 h5=>?_) (fun b5 h5=>?_)
  ·
   refine bF<|cZ<|aZ<|cH<|aH<|mI r<|sI r<|aG (fr':=[(0,aL),(1,.fn _ []),(5,aI),(7,aI),(8,aI)]) r r<|aH<|mV (v:=.fn _ []) r<|mL r<|mI r<|bx h5 fun x6 y6 h7=>aR r (lF (cs:=[PV.str _]) aAR (eK r) r y6 r)<|aR r (gP (p:=PV.str _) lP r r)<|bx h7 fun x8 y8 h9=>lS (bL (v:=aB) r (aIm y8) ⟨lr,trivial⟩ r r r)<|aG (fr':=[(0,aL),(1,.fn _ []),(5,aI),(7,aI),(8,aI),(16,aB)]) r r<|cG h9 r (fun b10 h10=>?_) (fun b10 h10=>?_)
   ·
    refine aH<|mI r<|sI r<|aG (fr':=[(4,aI)]) r r<|bK<|bO<|aP<|aP<|bO<|aP<|aP ?_
    have h11:=eR h10 ho4
    have h12:=fL h11 h2
    obtain rfl:=sy h12
    exact bJ (rs':=[.tmp 4]) r<|bS (v:=aI) r<|bI<|aN [] r r r lr aD
   ·
    exact bF<|cW<|cZ<|bB<|aR r (gC r r)<|mI r<|dM (fr':=[(0,aL),(1,.fn _ []),(5,aI),(7,aI),(8,aI),(16,aB)]) r<|zO _ (sy h10) (bC [] 0 r r r r kL4 aD)
  ·
   refine hG<|cY<|cY<|fP ?_
   have h14:=eR h5 ho4
   exact iQ _ (sy h14) (bC [] 0 r r r r trivial aD)
 ·
  intro j3 hj15
  have h15:=lV hj15 h2
  refine cZ<|aH<|sI r<|aG (fr':=[(4,aI)]) r r<|bK ?_
  obtain rfl:=sy h15
  exact bJ (rs':=[.tmp 4]) r<|bS (v:=aI) r<|bI<|aN [] r r r lr aD
noncomputable def iK (p0s:(List (List UInt8))):Option Bool :=
 (kD p0s).bind fun x1=>some (decide (0≤x1))
theorem tK {p0s:(List (List UInt8))}{z:Bool} (h:iK p0s=some z):cQ Tryz.prog 178 [.c (PV.ls 1 fI p0s),.fn 208 []] [] (.c (.bool z)) []:=by
 unfold iK at h
 refine dF (fn:=Tryz.f178) [0,1,4] (by kernel_rfl) Tryz.func178 r (by kernel_rfl) (by kernel_rfl)<|aH<|sB r<|aG (fr':=[(0,aL),(1,.fn _ [])]) r r<|aH<|mL r<|mV (v:=.fn _ []) r<|bx h fun x1 y1 h2=>lS (bL (v:=aI) r (uT y1) jN r r r)<|aR r (oI r r)<|sB r<|aG (fr':=[(4,aB)]) r r<|bK ?_
 obtain rfl:=sy h2
 exact bJ (rs':=[.tmp 4]) r<|bS (v:=aB) r<|bI<|aN [] r r r lr aD
noncomputable def gU (aGA:aQ→Option Bool) (p0s:(List aQ)) (s4:Int):Option (dU Int (Fl Int Unit)) :=
 cond (decide (s4<((p0s).length:Int))) ((nG p0s s4).bind fun x6=>(aGA x6).bind fun x8=>cond x8 (some (dU.out (Fl.done s4))) (some (dU.next (IntKind.wrap .i64 (s4+1))))) (some (dU.out (Fl.go ())))
mutual
noncomputable def fR:Nat→(List aQ)→Option Bool
 | 0,_=>none
 | n+1,p0s =>
  ((hF n) p0s).bind fun x1=>some (decide (0≤x1))
noncomputable def hF:Nat→(List aQ)→Option Int
 | 0,_=>none
 | n+1,p0s =>
  (fK (gU (vI n) p0s) (0)).bind fun x1=>Fl.next x1 (fun j3=>(some (-1)))
noncomputable def wB:Nat→aQ→Option Bool
 | 0,_=>none
 | n+1,p0v =>
  (gd ((decide (4096<((p0v.Text).length:Int)))==false) (iK p0v.Keys)).bind fun x1=>cond (cond (decide (4096<((p0v.Text).length:Int))) true x1) (some false) (((fR n) p0v.Items).bind fun x5=>some (!x5))
noncomputable def vI:Nat→aQ→Option Bool
 | 0,_=>none
 | n+1,p0x =>
  ((wB n) p0x).bind fun x1=>some (!x1)
end
theorem rD:∀ n:Nat,(∀ {p0s:(List aQ)}{z:Bool},fR n p0s=some z→cQ Tryz.prog 176 [.c (PV.ls 5 bT p0s),.fn 209 []] [] (.c (.bool z)) [])∧(∀ {p0s:(List aQ)}{z:Int},hF n p0s=some z→cQ Tryz.prog 205 [.c (PV.ls 5 bT p0s),.fn 209 []] [] (ci z) [])∧(∀ {p0v:aQ}{z:Bool},wB n p0v=some z→cQ Tryz.prog 193 [.agg (AV.cs (fA p0v))] [] (.c (.bool z)) [])∧(∀ {p0x:aQ}{z:Bool},vI n p0x=some z→cQ Tryz.prog 209 [.agg (AV.cs (fA p0x))] [] (.c (.bool z)) []):=by
 intro n
 induction n with
 | zero=>exact ⟨fun {p0s z} h=>absurd h (by simp [fR]),fun {p0s z} h=>absurd h (by simp [hF]),fun {p0v z} h=>absurd h (by simp [wB]),fun {p0x z} h=>absurd h (by simp [vI])⟩
 | succ n ih =>
  obtain ⟨ih_slices_ContainsFunc_api_Value_api_Value_value_short_2,ih_slices_IndexFunc_api_Value_api_Value_value_short_2,ih_value_short,ih_value_short_2⟩:=ih
  refine ⟨?_,?_,?_,?_⟩
  ·
   intro p0s z h
   rw [fR] at h
   refine dF (fn:=Tryz.f176) [0,1,4] (by kernel_rfl) Tryz.func176 r (by kernel_rfl) (by kernel_rfl)<|aH<|sB r<|aG (fr':=[(0,aL),(1,.fn _ [])]) r r<|aH<|mL r<|mV (v:=.fn _ []) r<|bx h fun x1 y1 h2=>lS (bL (v:=aI) r (ih_slices_IndexFunc_api_Value_api_Value_value_short_2 y1) jN r r r)<|aR r (oI r r)<|sB r<|aG (fr':=[(4,aB)]) r r<|bK ?_
   obtain rfl:=sy h2
   exact bJ (rs':=[.tmp 4]) r<|bS (v:=aB) r<|bI<|aN [] r r r lr aD
  ·
   intro p0s z h
   rw [hF] at h
   refine dF (fn:=Tryz.f205) [0,1,4,5,7,8,9,16] (by kernel_rfl) Tryz.func205 r (by kernel_rfl) (by kernel_rfl)<|aH<|sI r<|aG (fr':=[(0,aL),(1,.fn _ [])]) r r<|aZ<|aH<|mL r<|aR r (hZ vX (eK r))<|mI r<|aG (fr':=[(0,aL),(1,.fn _ []),(7,aI),(8,aI)]) r r<|bx h fun x1 y1 h2=>gZ lB (fun j3=>x1=Fl.go j3) (fun (j3:Unit)=>([]:Fr)) (fun (j3:Unit)=>([]:St)) ?_ ?_
   ·
    refine cH<|gV _ (fun (s4:Int)=>([(0,.c (PV.ls 5 bT p0s)),(1,.fn 209 []),(7,ci ((p0s).length:Int)),(8,ci s4)]:Fr)) (fun (s4:Int)=>([]:St)) y1 (bC [] 0 r r r r kL4 aD) ?_
    intro s4 st4 hs4 ho4
    unfold gU at hs4
    refine aH<|aR r (gI r r)<|aG (fr':=[(0,aL),(1,.fn _ []),(7,aI),(8,aI),(9,aB)]) r r<|aZ<|cG hs4 r (fun b5 h5=>?_) (fun b5 h5=>?_)
    ·
     refine bF<|cZ<|aZ<|cH<|aH<|mI r<|sI r<|aG (fr':=[(0,aL),(1,.fn _ []),(5,aI),(7,aI),(8,aI)]) r r<|aH<|mV (v:=.fn _ []) r<|mL r<|mI r<|bx h5 fun x6 y6 h7=>aR r (lF (cs:=[PV.int _ _,PV.int _ _,PV.str _,PV.ls _ _ _,PV.ls _ _ _]) uV (eK r) r y6 (eJ _))<|aR r (lT (us:=[PV.int _ _,PV.int _ _,PV.str _,PV.ls _ _ _,PV.ls _ _ _]) iO r r r)<|bx h7 fun x8 y8 h9=>lS (bL (v:=aB) r (ih_value_short_2 y8) ⟨(bQ r kR5),trivial⟩ r r r)<|aG (fr':=[(0,aL),(1,.fn _ []),(5,aI),(7,aI),(8,aI),(16,aB)]) r r<|cG h9 r (fun b10 h10=>?_) (fun b10 h10=>?_)
     ·
      refine aH<|mI r<|sI r<|aG (fr':=[(4,aI)]) r r<|bK<|bO<|aP<|aP<|bO<|aP<|aP ?_
      have h11:=eR h10 ho4
      have h12:=fL h11 h2
      obtain rfl:=sy h12
      exact bJ (rs':=[.tmp 4]) r<|bS (v:=aI) r<|bI<|aN [] r r r lr aD
     ·
      exact bF<|cW<|cZ<|bB<|aR r (gC r r)<|mI r<|dM (fr':=[(0,aL),(1,.fn _ []),(5,aI),(7,aI),(8,aI),(16,aB)]) r<|zO _ (sy h10) (bC [] 0 r r r r kL4 aD)
    ·
     refine hG<|cY<|cY<|fP ?_
     have h14:=eR h5 ho4
     exact iQ _ (sy h14) (bC [] 0 r r r r trivial aD)
   ·
    intro j3 hj15
    have h15:=lV hj15 h2
    refine cZ<|aH<|sI r<|aG (fr':=[(4,aI)]) r r<|bK ?_
    obtain rfl:=sy h15
    exact bJ (rs':=[.tmp 4]) r<|bS (v:=aI) r<|bI<|aN [] r r r lr aD
  ·
   intro p0v z h
   rw [wB] at h
   refine dF (fn:=Tryz.f193) [0,1,2,11] (by kernel_rfl) Tryz.func193 r (by kernel_rfl) (by kernel_rfl)<|aH<|jK (v:=.agg cE) (n:=0) (cs:=cE) (σ':=[cE]) r r r r r<|sB r<|aG (fr':=[(1,aE)]) r r<|aZ<|aH<|aR r (bD uP r)<|aR r (aK (v:=aS) lP r r r)<|aR r (kT uU r)<|aR r (qW r r)<|mB r<|og r r r (fun u=>(bD oN r))<|og r r r (fun u=>(aK (v:=aL) rC (gx r u) r r))<|bx h fun x1 y1 h2=>sX r r (fun u=>bL (v:=aB) r (tK (cU y1 u)) ⟨(eW (gx r u) lr),lr,trivial⟩ (fT (by repeat (first | exact eN | refine aY r ?_ | refine aY (pP r) ?_ | refine aY pO ?_))) r r) ?_
   refine aR r (cN r r r (fun e=>fJ e))<|aG (fr':=[(1,aE),(11,aB)]) r r<|cG h2 r (fun b3 h3=>?_) (fun b3 h3=>?_)
   ·
    refine aH<|sB r<|aG (fr':=[(2,aB)]) r r<|bK<|aP ?_
    obtain rfl:=sy h3
    exact bJ (rs':=[.tmp 2]) r<|bS (v:=aB) r<|bI<|aN [] r r r lr aD
   ·
    refine bF<|cZ<|aH<|aR r (bD iJ r)<|aR r (aK (v:=aL) nS r r r)<|bx h3 fun x5 y5 h6=>lS (bL (v:=aB) r (ih_slices_ContainsFunc_api_Value_api_Value_value_short_2 y5) jN r r r)<|aR r (fE r)<|sB r<|aG (fr':=[(2,aB)]) r r<|bK ?_
    obtain rfl:=sy h6
    exact bJ (rs':=[.tmp 2]) r<|bS (v:=aB) r<|bI<|aN [] r r r lr aD
  ·
   intro p0x z h
   rw [vI] at h
   refine dF (fn:=Tryz.f209) [0,1,2] (by kernel_rfl) Tryz.func209 r (by kernel_rfl) (by kernel_rfl)<|aH<|jK (v:=.agg cE) (n:=0) (cs:=cE) (σ':=[cE]) r r r r r<|sB r<|aG (fr':=[(1,aE)]) r r<|aH<|aR r (dL (us:=cE) iO r r r r)<|bx h fun x1 y1 h2=>lS (bL (v:=aB) r (ih_value_short y1) ⟨(bQ r kR5),trivial⟩ r r r)<|aR r (fE r)<|sB r<|aG (fr':=[(2,aB)]) r r<|bK ?_
   obtain rfl:=sy h2
   exact bJ (rs':=[.tmp 2]) r<|bS (v:=aB) r<|bI<|aN [] r r r lr aD
noncomputable def aEY (p0v:aQ):Option Bool:=lim fun n=>wB n p0v
theorem aKo {p0v:aQ}{z:Bool} (h:aEY p0v=some z):cQ Tryz.prog 193 [.agg (AV.cs (fA p0v))] [] (.c (.bool z)) []:=by
 obtain ⟨n,hn⟩:=rV h
 exact (rD n).2.2.1 hn
noncomputable def aAV (p0v:aQ):Option Bool :=
 (aEX p0v).bind fun x1=>(gd ((decide (x1≤16))==true) (aF2 p0v)).bind fun x3=>(gd ((cond (decide (x1≤16)) (decide (x3≤1000)) false)==true) (aEY p0v)).bind fun x5=>some (cond (cond (decide (x1≤16)) (decide (x3≤1000)) false) x5 false)
theorem aJQ {p0v:aQ}{z:Bool} (h:aAV p0v=some z):cQ Tryz.prog 160 [.agg (AV.cs (fA p0v))] [] (.c (.bool z)) []:=by
 unfold aAV at h
 refine dF (fn:=Tryz.f160) [0,1,2] (by kernel_rfl) Tryz.func160 r (by kernel_rfl) (by kernel_rfl)<|aH<|jK (v:=.agg cE) (n:=0) (cs:=cE) (σ':=[cE]) r r r r r<|sB r<|aG (fr':=[(1,aE)]) r r<|aH<|aR r (dL (us:=cE) iO r r r r)<|bx h fun x1 y1 h2=>lS (bL (v:=aI) r (aKn y1) ⟨(bQ r kR5),trivial⟩ r r r)<|aR r (nM r r)<|mB r<|og r r r (fun u=>(dL (us:=cE) iO r r r r))<|bx h2 fun x3 y3 h4=>sX r r (fun u=>bL (v:=aI) r (aLR (cU y3 u)) ⟨(eW (gx r u) (bQ r kR5)),trivial⟩ (fT (by repeat (first | exact eN | refine aY r ?_ | refine aY (pP r) ?_ | refine aY pO ?_))) r r) ?_
 refine og r r r (fun u=>(nM (gx r u) r))<|aR r (bV r r r (fun e=>fJ e))<|mB r<|og r r r (fun u=>(dL (us:=cE) iO r r r r))<|bx h4 fun x5 y5 h6=>sX r r (fun u=>bL (v:=aB) r (aKo (cU y5 u)) ⟨(eW (gx r u) (bQ r kR5)),trivial⟩ (fT (by repeat (first | exact eN | refine aY r ?_ | refine aY (pP r) ?_ | refine aY pO ?_))) r r) ?_
 refine aR r (bV r r r (fun e=>fJ e))<|sB r<|aG (fr':=[(2,aB)]) r r<|bK ?_
 obtain rfl:=sy h6
 exact bJ (rs':=[.tmp 2]) r<|bS (v:=aB) r<|bI<|aN [] r r r lr aD
noncomputable def vQ (p0v:aQ):Option Bool :=
 (aAV p0v).bind fun x1=>(gd (x1==true) (aAU p0v false)).bind fun x3=>some (cond x1 x3 false)
theorem aBu {p0v:aQ}{z:Bool} (h:vQ p0v=some z):cQ Tryz.prog 100 [.agg (AV.cs (fA p0v))] [] (.c (.bool z)) []:=by
 unfold vQ at h
 refine dF (fn:=Tryz.f100) [0,1,2] (by kernel_rfl) Tryz.func100 r (by kernel_rfl) (by kernel_rfl)<|aH<|jK (v:=.agg cE) (n:=0) (cs:=cE) (σ':=[cE]) r r r r r<|sB r<|aG (fr':=[(1,aE)]) r r<|aH<|aR r (dL (us:=cE) iO r r r r)<|bx h fun x1 y1 h2=>lS (bL (v:=aB) r (aJQ y1) ⟨(bQ r kR5),trivial⟩ r r r)<|mB r<|og r r r (fun u=>(dL (us:=cE) iO r r r r))<|bx h2 fun x3 y3 h4=>sX r r (fun u=>bL (v:=aB) r (aE7 (cU y3 u)) ⟨(eW (gx r u) (bQ r kR5)),lr,trivial⟩ (fT (by repeat (first | exact eN | refine aY r ?_ | refine aY (pP r) ?_ | refine aY pO ?_))) r r) ?_
 refine aR r (bV r r r (fun e=>fJ e))<|sB r<|aG (fr':=[(2,aB)]) r r<|bK ?_
 obtain rfl:=sy h4
 exact bJ (rs':=[.tmp 2]) r<|bS (v:=aB) r<|bI<|aN [] r r r lr aD
noncomputable def mC (p0n:Int) (nL:Int) (kW:Int):Option Bool :=
 some (cond (decide (nL≤p0n)) (decide (p0n≤kW)) false)
theorem nD {p0n:Int}{nL:Int}{kW:Int}{z:Bool} (h:mC p0n nL kW=some z):cQ Tryz.prog 136 [ci p0n,ci nL,ci kW] [] (.c (.bool z)) []:=by
 unfold mC at h
 refine dF (fn:=Tryz.f136) [0,1,2,6] (by kernel_rfl) Tryz.func136 r (by kernel_rfl) (by kernel_rfl)<|aH<|sB r<|aG (fr':=[(0,aI),(1,aI),(2,aI)]) r r<|aH<|mI r<|mI r<|aR r (oI r r)<|mB r<|og r r r (fun u=>(bN (v:=aI) r))<|og r r r (fun u=>(bN (v:=aI) r))<|og r r r (fun u=>(nM (gx r u) (gx r u)))<|aR r (bV r r r (fun e=>fJ e))<|sB r<|aG (fr':=[(6,aB)]) r r<|bK ?_
 obtain rfl:=sy h
 exact bJ (rs':=[.tmp 6]) r<|bS (v:=aB) r<|bI<|aN [] r r r lr aD
