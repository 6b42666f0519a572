import Derived.Test.YtnigjppddilpcaaGreatDoorGETy
import Derived.Test.YtnigjppddilpcaaGreatDoorGEF0
namespace Go.Proofs.YtnigjppddilpcaaGreatDoor
open Go Abs
set_option maxRecDepth 100000
set_option linter.unusedVariables false
set_option linter.unusedSimpArgs false
noncomputable def dO (p0s:(List (List UInt8))) (s4:Int):Option (cI Int (Fl Int Unit)) :=
 cond (decide (s4<((p0s).length:Int))) ((hG p0s s4).bind fun x6=>(lK x6).bind fun x8=>cond x8 (some (cI.out (Fl.done s4))) (some (cI.next (IntKind.wrap .i64 (s4+(1:Int)))))) (some (cI.out (Fl.go ())))
noncomputable def eU (p0s:(List (List UInt8))):Option Int :=
 ((dR (dO p0s) ((0:Int))):Option (Fl Int Unit)).bind fun x1=>Fl.next x1 (fun j3=>(some (-1:Int)))
theorem kO {p0s:(List (List UInt8))}{res:Int} (h:eU p0s=some res):bS Tryz.prog 206 [.c (PV.ls 1 eA p0s),.fn 179 []] [] (ci res) []:=by
 unfold eU at h
 refine cJ (fn:=Tryz.f206) [0,1,4,5,7,8,9,16] (by kernel_rfl) Tryz.func206 r (by kernel_rfl) (by kernel_rfl)<|aH<|sI r<|aF (fr':=[(0,aL),(1,.fn _ [])]) r r<|aP<|aH<|mL r<|aM r (dI pI (cC r))<|mI r<|aF (fr':=[(0,aL),(1,.fn _ []),(7,aI),(8,aI)]) r r ?_
 obtain ⟨x1,hx1,h2⟩:=aE h
 refine eB gF (fun j3=>x1=Fl.go j3) (fun (j3:Unit)=>([]:Fr)) (fun (j3:Unit)=>([]:St)) ?_ ?_
 ·
  refine bJ<|dV _ (fun (s4:Int)=>([(0,.c (PV.ls 1 eA p0s)),(1,.fn 179 []),(7,ci ((p0s).length:Int)),(8,ci s4)]:Fr)) (fun (s4:Int)=>([]:St)) hx1 (aU [] 0 r r r r ⟨lr,lr,lr,lr,trivial⟩ aA) ?_
  intro s4 st4 hs4 ho4
  unfold dO at hs4
  refine aH<|aM r (dJ r r)<|aF (fr':=[(0,aL),(1,.fn _ []),(7,aI),(8,aI),(9,aB)]) r r<|aP<|bP hs4 r (fun hb5 h5=>?_) (fun hb5 h5=>?_)
  ·
   refine aW<|bV<|aP<|bJ<|aH<|mI r<|sI r<|aF (fr':=[(0,aL),(1,.fn _ []),(5,aI),(7,aI),(8,aI)]) r r<|aH<|mV (v:=.fn _ []) r<|mL r ?_
   refine mI r ?_
   obtain ⟨x6,hx6,h7⟩:=aE h5
   refine aM r (gR (cs:=[PV.str _]) vV (cC r) r hx6 r)<|aM r (eG (p:=PV.str _) kD r r) ?_
   obtain ⟨x8,hx8,h9⟩:=aE h7
   refine gV (aX (v:=aB) r (yW hx8) ⟨lr,trivial⟩ r r r)<|aF (fr':=[(0,aL),(1,.fn _ []),(5,aI),(7,aI),(8,aI),(16,aB)]) r r<|bP h9 r (fun hb10 h10=>?_) (fun hb10 h10=>?_)
   ·
    refine aH<|mI r<|sI r<|aF (fr':=[(4,aI)]) r r<|bC<|bA<|aJ<|aJ<|bA<|aJ<|aJ ?_
    have h11:=cS h10 ho4
    have h12:=dQ h11 h2
    obtain rfl:=sy h12
    exact bB (rs':=[.tmp 4]) r<|bH (v:=aI) r<|aZ<|aN [] r r r lr aA
   ·
    exact aW<|bX<|bV<|aQ<|aM r (dB r r)<|mI r<|cB (fr':=[(0,aL),(1,.fn _ []),(5,aI),(7,aI),(8,aI),(16,aB)]) r<|rX _ (sy h10) (aU [] 0 r r r r ⟨lr,lr,lr,lr,trivial⟩ aA)
  ·
   refine eK<|bR<|bR<|dC ?_
   have h14:=cS h5 ho4
   exact gD _ (sy h14) (aU [] 0 r r r r trivial aA)
 ·
  intro j3 hj15
  have h15:=iC hj15 h2
  refine bV<|aH<|sI r<|aF (fr':=[(4,aI)]) r r<|bC ?_
  obtain rfl:=sy h15
  exact bB (rs':=[.tmp 4]) r<|bH (v:=aI) r<|aZ<|aN [] r r r lr aA
noncomputable def dM (p0s:(List (List UInt8))):Option Bool :=
 (eU p0s).bind fun x1=>some (decide ((0:Int)≤x1))
theorem jS {p0s:(List (List UInt8))}{res:Bool} (h:dM p0s=some res):bS Tryz.prog 178 [.c (PV.ls 1 eA p0s),.fn 179 []] [] (.c (.bool res)) []:=by
 unfold dM at h
 refine cJ (fn:=Tryz.f178) [0,1,4] (by kernel_rfl) Tryz.func178 r (by kernel_rfl) (by kernel_rfl)<|aH<|sB r<|aF (fr':=[(0,aL),(1,.fn _ [])]) r r<|aH<|mL r<|mV (v:=.fn _ []) r ?_
 obtain ⟨x1,hx1,h2⟩:=aE h
 refine gV (aX (v:=aI) r (kO hx1) ⟨lr,lr,trivial⟩ r r r)<|aM r (nM r r)<|sB r<|aF (fr':=[(4,aB)]) r r<|bC ?_
 obtain rfl:=sy h2
 exact bB (rs':=[.tmp 4]) r<|bH (v:=aB) r<|aZ<|aN [] r r r lr aA
noncomputable def kS (p0o:bG) (s8:Int):Option (cI Int (Fl Bool Unit)) :=
 cond (decide (s8<((([p0o.ToStart,p0o.ToClose,p0o.Total,p0o.Beat,p0o.First,p0o.Most]:List Int)).length:Int))) ((hG ([p0o.ToStart,p0o.ToClose,p0o.Total,p0o.Beat,p0o.First,p0o.Most]:List Int) s8).bind fun x10=>(iE x10 (0:Int) (1099511627776:Int)).bind fun x12=>cond (!x12) (some (cI.out (Fl.done false))) (some (cI.next (IntKind.wrap .i64 (s8+(1:Int)))))) (some (cI.out (Fl.go ())))
noncomputable def iD (p0o:bG):Option Bool :=
 (gd ((!decide (p0o.Queue=([]:List UInt8)))==true) (mG p0o.Queue)).bind fun x1=>cond (cond (cond (!decide (p0o.Queue=([]:List UInt8))) (!x1) false) true (decide ((64:Int)<((p0o.Fatal).length:Int)))) (some false) (((dR (kS p0o) ((0:Int))):Option (Fl Bool Unit)).bind fun x5=>Fl.next x5 (fun j7=>((iE p0o.Coef (0:Int) (10000:Int)).bind fun x20=>(gd (x20==true) (iE p0o.Attempts (0:Int) (1000:Int))).bind fun x22=>(gd ((cond x20 x22 false)==true) (dM p0o.Fatal)).bind fun x24=>some (cond (cond x20 x22 false) (!x24) false))))
theorem oY {p0o:bG}{res:Bool} (h:iD p0o=some res):bS Tryz.prog 130 [.agg (AV.cs (gS p0o))] [] (.c (.bool res)) []:=by
 unfold iD at h
 refine cJ (fn:=Tryz.f130) [0,1,2,4,19,32,33,34,35,40] (by kernel_rfl) Tryz.func130 r (by kernel_rfl) (by kernel_rfl)<|aH<|fS (v:=.agg bZ) (n:=0) (cs:=bZ) (σ':=[bZ]) r r r r r<|sB r<|aF (fr':=[(1,.box 0 0)]) r r<|aP<|aH<|aM r (bD vT r)<|aM r (aK (v:=aS) kD r r r)<|aM r (yC r r)<|mB r ?_
 refine og r r r (fun hc=>(bD vT r))<|og r r r (fun hc=>(aK (v:=aS) kD (gx r hc) r r)) ?_
 obtain ⟨x1,hx1,h2⟩:=aE h
 refine sM r r (fun hc=>aX (v:=aB) r (qT (cA hx1 hc)) ⟨(eH (gx r hc) lr),trivial⟩ (fA (by repeat (first | exact dX | refine aY r ?_ | refine aY (oS r) ?_ | refine aY oR ?_))) r r) ?_
 refine og r r r (fun hc=>(eI (gx r hc)))<|aM r (bO r r r (fun e=>eO e))<|mB r<|og r r r (fun hc=>(bD lI r))<|og r r r (fun hc=>(aK (v:=aL) kM (gx r hc) r r))<|og r r r (fun hc=>(dI pI (cC (gx r hc))))<|og r r r (fun hc=>(kA (gx r hc) r))<|aM r (bY r r r (fun e=>eO e))<|aF (fr':=[(1,.box 0 0),(19,aB)]) r r<|bP h2 r (fun hb3 h3=>?_) (fun hb3 h3=>?_)
 ·
  refine aH<|sB r<|aF (fr':=[(2,aB)]) r r<|bC<|aJ ?_
  obtain rfl:=sy h3
  exact bB (rs':=[.tmp 2]) r<|bH (v:=aB) r<|aZ<|aN [] r r r lr aA
 ·
  refine aW<|bV<|aP<|aH<|aM r (bD aB8 r)<|aM r (aK (v:=aI) eP r r r)<|aM r (bD aB9 r)<|aM r (aK (v:=aI) eP r r r)<|aM r (bD aCa r)<|aM r (aK (v:=aI) eP r r r)<|aM r (bD aCb r)<|aM r (aK (v:=aI) eP r r r) ?_
  refine aM r (bD aCc r)<|aM r (aK (v:=aI) eP r r r)<|aM r (bD aCe r)<|aM r (aK (v:=aI) eP r r r)<|kT (row:=(aDx .i64)) (xs:=([p0o.ToStart,p0o.ToClose,p0o.Total,p0o.Beat,p0o.First,p0o.Most]:List Int)) (rows:=[[_],[_],[_],[_],[_],[_]]) (σ':=[bZ]) [0] aEf r r r (cM r (cM r (cM r (cM r (cM r (cM r gY)))))) r r<|aM r (dI aMm (lG r))<|mI r<|aF (fr':=[(1,.box 0 0),(32,aO),(33,aI),(34,aI)]) r r ?_
  obtain ⟨x5,hx5,h6⟩:=aE h3
  refine eB gF (fun j7=>x5=Fl.go j7) (fun (j7:Unit)=>([(1,.box 0 0)]:Fr)) (fun (j7:Unit)=>([[.c (.str p0o.Queue),ci p0o.ToStart,ci p0o.ToClose,ci p0o.Total,ci p0o.Beat,ci p0o.First,ci p0o.Coef,ci p0o.Most,ci p0o.Attempts,.c (PV.ls 1 eA p0o.Fatal)]]:St)) ?_ ?_
  ·
   refine bJ<|dV _ (fun (s8:Int)=>([(1,.box 0 0),(32,AV.os 0 1 (aDx .i64) ([p0o.ToStart,p0o.ToClose,p0o.Total,p0o.Beat,p0o.First,p0o.Most]:List Int)),(33,ci ((([p0o.ToStart,p0o.ToClose,p0o.Total,p0o.Beat,p0o.First,p0o.Most]:List Int)).length:Int)),(34,ci s8)]:Fr)) (fun (s8:Int)=>([[.c (.str p0o.Queue),ci p0o.ToStart,ci p0o.ToClose,ci p0o.Total,ci p0o.Beat,ci p0o.First,ci p0o.Coef,ci p0o.Most,ci p0o.Attempts,.c (PV.ls 1 eA p0o.Fatal)]]:St)) hx5 (aU [512] 1 r r r r ⟨lr,lr,lr,lr,trivial⟩ (bW r aA)) ?_
   intro s8 st8 hs8 ho8
   unfold kS at hs8
   refine aH<|aM r (dJ r r)<|aF (fr':=[(1,.box 0 0),(32,aO),(33,aI),(34,aI),(35,aB)]) r r<|aP<|bP hs8 r (fun hb9 h9=>?_) (fun hb9 h9=>?_)
   ·
    refine aW<|bV<|aP<|bJ<|aP<|aQ ?_
    obtain ⟨x10,hx10,h11⟩:=aE h9
    refine aM r (gR (cs:=[PV.int _ _]) aEf (lG r) r hx10 r)<|aM r (eG (p:=PV.int _ _) eP r r)<|sI r<|aF (fr':=[(1,.box 0 0),(4,aI),(32,aO),(33,aI),(34,aI)]) r r<|aH<|mI r ?_
    obtain ⟨x12,hx12,h13⟩:=aE h11
    refine gV (aX (v:=aB) r (iT hx12) ⟨lr,lr,lr,trivial⟩ r r r)<|aM r (eI r)<|aF (fr':=[(1,.box 0 0),(32,aO),(33,aI),(34,aI),(40,aB)]) r r<|bP h13 r (fun hb14 h14=>?_) (fun hb14 h14=>?_)
    ·
     refine aH<|sB r<|aF (fr':=[(2,aB)]) r r<|bC<|bA<|aJ<|aJ<|bA<|aJ<|aJ ?_
     have h15:=cS h14 ho8
     have h16:=dQ h15 h6
     obtain rfl:=sy h16
     exact bB (rs':=[.tmp 2]) r<|bH (v:=aB) r<|aZ<|aN [] r r r lr aA
    ·
     exact aW<|bX<|bV<|aQ<|aM r (dB r r)<|mI r<|cB (fr':=[(1,.box 0 0),(32,aO),(33,aI),(34,aI),(40,aB)]) r<|rX _ (sy h14) (aU [0] 1 r r r r ⟨lr,lr,lr,lr,trivial⟩ (bW r aA))
   ·
    refine eK<|bR<|bR<|dC ?_
    have h18:=cS h9 ho8
    exact gD _ (sy h18) (aU [] 1 r r r r ⟨lr,trivial⟩ (bW r aA))
  ·
   intro j7 hj19
   have h19:=iC hj19 h6
   refine bV<|aH<|aM r (bD aCd r)<|aM r (aK (v:=aI) eP r r r) ?_
   obtain ⟨x20,hx20,h21⟩:=aE h19
   refine gV (aX (v:=aB) r (iT hx20) ⟨lr,lr,lr,trivial⟩ r r r)<|mB r<|og r r r (fun hc=>(bD aCf r))<|og r r r (fun hc=>(aK (v:=aI) eP (gx r hc) r r)) ?_
   obtain ⟨x22,hx22,h23⟩:=aE h21
   refine sM r r (fun hc=>aX (v:=aB) r (iT (cA hx22 hc)) ⟨(eH (gx r hc) lr),lr,lr,trivial⟩ (fA (by repeat (first | exact dX | refine aY r ?_ | refine aY (oS r) ?_ | refine aY oR ?_))) r r) ?_
   refine aM r (bO r r r (fun e=>eO e))<|mB r<|og r r r (fun hc=>(bD lI r))<|og r r r (fun hc=>(aK (v:=aL) kM (gx r hc) r r)) ?_
   obtain ⟨x24,hx24,h25⟩:=aE h23
   refine sM r r (fun hc=>aX (v:=aB) r (jS (cA hx24 hc)) ⟨(eH (gx r hc) lr),lr,trivial⟩ (fA (by repeat (first | exact dX | refine aY r ?_ | refine aY (oS r) ?_ | refine aY oR ?_))) r r) ?_
   refine og r r r (fun hc=>(eI (gx r hc)))<|aM r (bO r r r (fun e=>eO e))<|sB r<|aF (fr':=[(2,aB)]) r r<|bC ?_
   obtain rfl:=sy h25
   exact bB (rs':=[.tmp 2]) r<|bH (v:=aB) r<|aZ<|aN [] r r r lr aA
noncomputable def kK (dA:bG):Option Unit :=
 some ()
theorem uB {dA:bG}{res:Unit} (h:kK dA=some res):bS Tryz.prog 146 [.box 0 0] [AV.cs (gS dA)] (.ptrs [(0,1),(0,2),(0,3),(0,4),(0,5),(0,6),(0,7),(0,8)]) [AV.cs (gS dA)]:=by
 unfold kK at h
 refine cJ (fn:=Tryz.f146) [0,2] (by kernel_rfl) Tryz.func146 r (by kernel_rfl) (by kernel_rfl)<|aH<|sV (v:=AV.nil) r<|aF (fr':=[(0,.box 0 0)]) r r<|aP<|hF [.q 0,.q 1,.q 2,.q 3,.q 4,.q 5,.q 6,.q 7,.q 8,.q 9,.q 10,.q 11,.q 12,.q 13,.q 14,.q 15,.q 16,.q 17,.q 18,.q 19,.q 20,.q 21,.q 22,.q 23,.n 24 [],.n 25 []] [(some 3,[0]),(some 4,[3]),(some 5,[4]),(some 6,[0]),(some 7,[6]),(some 8,[7]),(some 9,[0]),(some 10,[9]),(some 11,[10]),(some 12,[0]),(some 13,[12]),(some 14,[13]),(some 15,[0]),(some 16,[15]),(some 17,[16]),(some 18,[0]),(some 19,[18]),(some 20,[19]),(some 21,[0]),(some 22,[21]),(some 23,[22]),(some 24,[0]),(some 25,[24]),(some 26,[25]),(some 27,[5,8,11,14,17,20,23,26]),(some 2,[27])] [0,1,3,0,8,24,0,64,192,0,512,1536,0,4096,12288,0,32768,98304,0,262144,786432,0,2097152,6291456,16777215,33554431] (by kernel_rfl)<|dq r r (bE (v:=.box 0 0) r)<|dq r r (fX r)<|dq r r (bD aB8 r)<|dq r r (bE (v:=.box 0 0) r)<|dq r r (fX r)<|dq r r (bD aB9 r) ?_
 refine dq r r (bE (v:=.box 0 0) r)<|dq r r (fX r)<|dq r r (bD aCa r)<|dq r r (bE (v:=.box 0 0) r)<|dq r r (fX r)<|dq r r (bD aCb r)<|dq r r (bE (v:=.box 0 0) r)<|dq r r (fX r)<|dq r r (bD aCc r)<|dq r r (bE (v:=.box 0 0) r)<|dq r r (fX r)<|dq r r (bD aCd r)<|dq r r (bE (v:=.box 0 0) r) ?_
 refine dq r r (fX r)<|dq r r (bD aCe r)<|dq r r (bE (v:=.box 0 0) r)<|dq r r (fX r)<|dq r r (bD aCf r)<|d_n r ?_ r
 refine aKo (l:=[(0,1),(0,2),(0,3),(0,4),(0,5),(0,6),(0,7),(0,8)]) mQ r r r r<|aCI<|⟨tD,?_⟩
 refine d_n r ?_ r
 refine sV (v:=.ptrs [(0,1),(0,2),(0,3),(0,4),(0,5),(0,6),(0,7),(0,8)]) r<|aCI<|⟨tD,?_⟩
 refine uE (fr':=[(2,.ptrs [(0,1),(0,2),(0,3),(0,4),(0,5),(0,6),(0,7),(0,8)])]) r r<|bC ?_
 obtain rfl:=sy h
 exact bB (rs':=[.tmp 2]) r<|bH (v:=.ptrs [(0,1),(0,2),(0,3),(0,4),(0,5),(0,6),(0,7),(0,8)]) r<|aZ<|aK5 [] r r r lr (bW r aA)
noncomputable def pB (p1o:bG) (s31:((List UInt8) × Int)):Option (cI ((List UInt8) × Int) (List UInt8)) :=
 cond (decide (s31.2<((p1o.Fatal).length:Int))) ((hG p1o.Fatal s31.2).bind fun x33=>(iU s31.1 x33).bind fun x35=>some (cI.next (x35,(IntKind.wrap .i64 (s31.2+(1:Int)))))) (some (cI.out s31.1))
noncomputable def pO (p0b:(List UInt8)) (p1o:bG):Option (List UInt8) :=
 (iU p0b p1o.Queue).bind fun x1=>(kK p1o).bind fun x3=>(fW x1 p1o.ToStart).bind fun x6=>(fW x6 p1o.ToClose).bind fun x8=>(fW x8 p1o.Total).bind fun x11=>(fW x11 p1o.Beat).bind fun x13=>(fW x13 p1o.First).bind fun x16=>(fW x16 p1o.Coef).bind fun x18=>(fW x18 p1o.Most).bind fun x21=>(fW x21 p1o.Attempts).bind fun x23=>(fW x23 ((p1o.Fatal).length:Int)).bind fun x26=>((dR (pB p1o) ((x26,(0:Int)))):Option (List UInt8)).bind fun x28=>(some x28)
theorem aDD {p0b:(List UInt8)}{p1o:bG}{res:(List UInt8)} (h:pO p0b p1o=some res):bS Tryz.prog 131 [.c (PV.ls 1 dF p0b),.agg (AV.cs (gS p1o))] [] (AV.os 0 1 dF res) []:=by
 unfold pO at h
 refine cJ (fn:=Tryz.f131) [0,1,3,4,6,8,13,14,15,16,31,32,33,34] (by kernel_rfl) Tryz.func131 r (by kernel_rfl) (by kernel_rfl)<|aH<|fS (v:=.agg bZ) (n:=0) (cs:=bZ) (σ':=[bZ]) r r r r r<|sV (v:=AV.nil) r<|aF (fr':=[(0,aL),(3,.box 0 0)]) r r<|aH<|mL r<|aM r (bD vT r)<|aM r (aK (v:=aS) kD r r r) ?_
 obtain ⟨x1,hx1,h2⟩:=aE h
 refine gV (aX (v:=aO) r (nJ hx1) ⟨lr,lr,trivial⟩ r r r)<|sV (v:=aO) r<|aF (fr':=[(0,aO),(3,.box 0 0)]) r r<|aP<|aP<|aQ ?_
 obtain ⟨x3,hx3,h4⟩:=aE h2
 refine xT (v:=.ptrs [(0,1),(0,2),(0,3),(0,4),(0,5),(0,6),(0,7),(0,8)]) (σ':=[bZ]) 13 [0] [] r (uB hx3) r r r ⟨lr,trivial⟩ (fO ⟨r,r,r,r,r,r,r,r,r,r,trivial⟩ aA) r r r<|aM r (aHS aPn r)<|mI r<|aF (fr':=[(0,aO),(3,.box 0 0),(13,.ptrs [(0,1),(0,2),(0,3),(0,4),(0,5),(0,6),(0,7),(0,8)]),(14,aI),(15,aI)]) r r<|bJ<|aLu 64<|pT<|aH<|aM r (rC (dJ r r) (show _=.bool true from r))<|aF (fr':=[(0,aO),(3,.box 0 0),(13,.ptrs [(0,1),(0,2),(0,3),(0,4),(0,5),(0,6),(0,7),(0,8)]),(14,aI),(15,aI),(16,aB)]) r r<|aP<|fL r ?_
 refine aW<|bV<|aP<|bJ<|aH<|aM r (iR (p:=(0,1)) mQ r r r)<|aM r (fN nS r)<|sV (v:=.box 0 1) r<|aF (fr':=[(0,aO),(3,.box 0 0),(6,.box 0 1),(13,.ptrs [(0,1),(0,2),(0,3),(0,4),(0,5),(0,6),(0,7),(0,8)]),(14,aI),(15,aI)]) r r<|aQ<|mV (v:=aO) r<|mV (v:=.box 0 1) r ?_
 refine aM r (fX r)<|aM r (aK (v:=aI) eP r r r) ?_
 obtain ⟨x6,hx6,h7⟩:=aE h4
 refine gV (aX (v:=aO) r (gB hx6) ⟨lr,lr,trivial⟩ r r r)<|sV (v:=aO) r<|cB (fr':=[(0,aO),(3,.box 0 0),(6,.box 0 1),(13,.ptrs [(0,1),(0,2),(0,3),(0,4),(0,5),(0,6),(0,7),(0,8)]),(14,aI),(15,aI)]) r<|bX<|bV<|aQ<|aM r (rC (dB r r) (show _=.int .i64 (1:Int) from r))<|mI r<|cB (fr':=[(0,aO),(3,.box 0 0),(6,.box 0 1),(13,.ptrs [(0,1),(0,2),(0,3),(0,4),(0,5),(0,6),(0,7),(0,8)]),(14,aI),(15,aI)]) r<|gP<|pT<|aP<|aQ ?_
 refine aM r (rC (dJ r r) (show _=.bool true from r))<|aF (fr':=[(0,aO),(3,.box 0 0),(13,.ptrs [(0,1),(0,2),(0,3),(0,4),(0,5),(0,6),(0,7),(0,8)]),(14,aI),(15,aI),(16,aB)]) r r<|aP<|fL r<|aW<|bV<|aP<|bJ<|aH<|aM r (iR (p:=(0,2)) mQ r r r)<|aM r (fN nS r)<|sV (v:=.box 0 2) r ?_
 refine aF (fr':=[(0,aO),(3,.box 0 0),(6,.box 0 2),(13,.ptrs [(0,1),(0,2),(0,3),(0,4),(0,5),(0,6),(0,7),(0,8)]),(14,aI),(15,aI)]) r r<|aQ<|mV (v:=aO) r<|mV (v:=.box 0 2) r<|aM r (fX r)<|aM r (aK (v:=aI) eP r r r) ?_
 obtain ⟨x8,hx8,h9⟩:=aE h7
 refine xT (v:=aO) (σ':=[bZ]) 50010 [] [] r (gB hx8) r r r ⟨lr,lr,trivial⟩ aA r r r<|sV (v:=aO) r<|cB (fr':=[(0,aO),(3,.box 0 0),(6,.box 0 2),(13,.ptrs [(0,1),(0,2),(0,3),(0,4),(0,5),(0,6),(0,7),(0,8)]),(14,aI),(15,aI)]) r<|bX<|bV<|aQ<|aM r (rC (dB r r) (show _=.int .i64 (2:Int) from r))<|mI r<|cB (fr':=[(0,aO),(3,.box 0 0),(6,.box 0 2),(13,.ptrs [(0,1),(0,2),(0,3),(0,4),(0,5),(0,6),(0,7),(0,8)]),(14,aI),(15,aI)]) r<|gP<|pT<|aP<|aQ ?_
 refine aM r (rC (dJ r r) (show _=.bool true from r))<|aF (fr':=[(0,aO),(3,.box 0 0),(13,.ptrs [(0,1),(0,2),(0,3),(0,4),(0,5),(0,6),(0,7),(0,8)]),(14,aI),(15,aI),(16,aB)]) r r<|aP<|fL r<|aW<|bV<|aP<|bJ<|aH<|aM r (iR (p:=(0,3)) mQ r r r)<|aM r (fN nS r)<|sV (v:=.box 0 3) r ?_
 refine aF (fr':=[(0,aO),(3,.box 0 0),(6,.box 0 3),(13,.ptrs [(0,1),(0,2),(0,3),(0,4),(0,5),(0,6),(0,7),(0,8)]),(14,aI),(15,aI)]) r r<|aQ<|mV (v:=aO) r<|mV (v:=.box 0 3) r<|aM r (fX r)<|aM r (aK (v:=aI) eP r r r) ?_
 obtain ⟨x11,hx11,h12⟩:=aE h9
 refine gV (aX (v:=aO) r (gB hx11) ⟨lr,lr,trivial⟩ r r r)<|sV (v:=aO) r<|cB (fr':=[(0,aO),(3,.box 0 0),(6,.box 0 3),(13,.ptrs [(0,1),(0,2),(0,3),(0,4),(0,5),(0,6),(0,7),(0,8)]),(14,aI),(15,aI)]) r<|bX<|bV<|aQ<|aM r (rC (dB r r) (show _=.int .i64 (3:Int) from r))<|mI r<|cB (fr':=[(0,aO),(3,.box 0 0),(6,.box 0 3),(13,.ptrs [(0,1),(0,2),(0,3),(0,4),(0,5),(0,6),(0,7),(0,8)]),(14,aI),(15,aI)]) r<|gP<|pT<|aP<|aQ ?_
 refine aM r (rC (dJ r r) (show _=.bool true from r))<|aF (fr':=[(0,aO),(3,.box 0 0),(13,.ptrs [(0,1),(0,2),(0,3),(0,4),(0,5),(0,6),(0,7),(0,8)]),(14,aI),(15,aI),(16,aB)]) r r<|aP<|fL r<|aW<|bV<|aP<|bJ<|aH<|aM r (iR (p:=(0,4)) mQ r r r)<|aM r (fN nS r)<|sV (v:=.box 0 4) r ?_
 refine aF (fr':=[(0,aO),(3,.box 0 0),(6,.box 0 4),(13,.ptrs [(0,1),(0,2),(0,3),(0,4),(0,5),(0,6),(0,7),(0,8)]),(14,aI),(15,aI)]) r r<|aQ<|mV (v:=aO) r<|mV (v:=.box 0 4) r<|aM r (fX r)<|aM r (aK (v:=aI) eP r r r) ?_
 obtain ⟨x13,hx13,h14⟩:=aE h12
 refine xT (v:=aO) (σ':=[bZ]) 50015 [] [] r (gB hx13) r r r ⟨lr,lr,trivial⟩ aA r r r<|sV (v:=aO) r<|cB (fr':=[(0,aO),(3,.box 0 0),(6,.box 0 4),(13,.ptrs [(0,1),(0,2),(0,3),(0,4),(0,5),(0,6),(0,7),(0,8)]),(14,aI),(15,aI)]) r<|bX<|bV<|aQ<|aM r (rC (dB r r) (show _=.int .i64 (4:Int) from r))<|mI r<|cB (fr':=[(0,aO),(3,.box 0 0),(6,.box 0 4),(13,.ptrs [(0,1),(0,2),(0,3),(0,4),(0,5),(0,6),(0,7),(0,8)]),(14,aI),(15,aI)]) r<|gP<|pT<|aP<|aQ ?_
 refine aM r (rC (dJ r r) (show _=.bool true from r))<|aF (fr':=[(0,aO),(3,.box 0 0),(13,.ptrs [(0,1),(0,2),(0,3),(0,4),(0,5),(0,6),(0,7),(0,8)]),(14,aI),(15,aI),(16,aB)]) r r<|aP<|fL r<|aW<|bV<|aP<|bJ<|aH<|aM r (iR (p:=(0,5)) mQ r r r)<|aM r (fN nS r)<|sV (v:=.box 0 5) r ?_
 refine aF (fr':=[(0,aO),(3,.box 0 0),(6,.box 0 5),(13,.ptrs [(0,1),(0,2),(0,3),(0,4),(0,5),(0,6),(0,7),(0,8)]),(14,aI),(15,aI)]) r r<|aQ<|mV (v:=aO) r<|mV (v:=.box 0 5) r<|aM r (fX r)<|aM r (aK (v:=aI) eP r r r) ?_
 obtain ⟨x16,hx16,h17⟩:=aE h14
 refine gV (aX (v:=aO) r (gB hx16) ⟨lr,lr,trivial⟩ r r r)<|sV (v:=aO) r<|cB (fr':=[(0,aO),(3,.box 0 0),(6,.box 0 5),(13,.ptrs [(0,1),(0,2),(0,3),(0,4),(0,5),(0,6),(0,7),(0,8)]),(14,aI),(15,aI)]) r<|bX<|bV<|aQ<|aM r (rC (dB r r) (show _=.int .i64 (5:Int) from r))<|mI r<|cB (fr':=[(0,aO),(3,.box 0 0),(6,.box 0 5),(13,.ptrs [(0,1),(0,2),(0,3),(0,4),(0,5),(0,6),(0,7),(0,8)]),(14,aI),(15,aI)]) r<|gP<|pT<|aP<|aQ ?_
 refine aM r (rC (dJ r r) (show _=.bool true from r))<|aF (fr':=[(0,aO),(3,.box 0 0),(13,.ptrs [(0,1),(0,2),(0,3),(0,4),(0,5),(0,6),(0,7),(0,8)]),(14,aI),(15,aI),(16,aB)]) r r<|aP<|fL r<|aW<|bV<|aP<|bJ<|aH<|aM r (iR (p:=(0,6)) mQ r r r)<|aM r (fN nS r)<|sV (v:=.box 0 6) r ?_
 refine aF (fr':=[(0,aO),(3,.box 0 0),(6,.box 0 6),(13,.ptrs [(0,1),(0,2),(0,3),(0,4),(0,5),(0,6),(0,7),(0,8)]),(14,aI),(15,aI)]) r r<|aQ<|mV (v:=aO) r<|mV (v:=.box 0 6) r<|aM r (fX r)<|aM r (aK (v:=aI) eP r r r) ?_
 obtain ⟨x18,hx18,h19⟩:=aE h17
 refine xT (v:=aO) (σ':=[bZ]) 50020 [] [] r (gB hx18) r r r ⟨lr,lr,trivial⟩ aA r r r<|sV (v:=aO) r<|cB (fr':=[(0,aO),(3,.box 0 0),(6,.box 0 6),(13,.ptrs [(0,1),(0,2),(0,3),(0,4),(0,5),(0,6),(0,7),(0,8)]),(14,aI),(15,aI)]) r<|bX<|bV<|aQ<|aM r (rC (dB r r) (show _=.int .i64 (6:Int) from r))<|mI r<|cB (fr':=[(0,aO),(3,.box 0 0),(6,.box 0 6),(13,.ptrs [(0,1),(0,2),(0,3),(0,4),(0,5),(0,6),(0,7),(0,8)]),(14,aI),(15,aI)]) r<|gP<|pT<|aP<|aQ ?_
 refine aM r (rC (dJ r r) (show _=.bool true from r))<|aF (fr':=[(0,aO),(3,.box 0 0),(13,.ptrs [(0,1),(0,2),(0,3),(0,4),(0,5),(0,6),(0,7),(0,8)]),(14,aI),(15,aI),(16,aB)]) r r<|aP<|fL r<|aW<|bV<|aP<|bJ<|aH<|aM r (iR (p:=(0,7)) mQ r r r)<|aM r (fN nS r)<|sV (v:=.box 0 7) r ?_
 refine aF (fr':=[(0,aO),(3,.box 0 0),(6,.box 0 7),(13,.ptrs [(0,1),(0,2),(0,3),(0,4),(0,5),(0,6),(0,7),(0,8)]),(14,aI),(15,aI)]) r r<|aQ<|mV (v:=aO) r<|mV (v:=.box 0 7) r<|aM r (fX r)<|aM r (aK (v:=aI) eP r r r) ?_
 obtain ⟨x21,hx21,h22⟩:=aE h19
 refine gV (aX (v:=aO) r (gB hx21) ⟨lr,lr,trivial⟩ r r r)<|sV (v:=aO) r<|cB (fr':=[(0,aO),(3,.box 0 0),(6,.box 0 7),(13,.ptrs [(0,1),(0,2),(0,3),(0,4),(0,5),(0,6),(0,7),(0,8)]),(14,aI),(15,aI)]) r<|bX<|bV<|aQ<|aM r (rC (dB r r) (show _=.int .i64 (7:Int) from r))<|mI r<|cB (fr':=[(0,aO),(3,.box 0 0),(6,.box 0 7),(13,.ptrs [(0,1),(0,2),(0,3),(0,4),(0,5),(0,6),(0,7),(0,8)]),(14,aI),(15,aI)]) r<|gP<|pT<|aP<|aQ ?_
 refine aM r (rC (dJ r r) (show _=.bool true from r))<|aF (fr':=[(0,aO),(3,.box 0 0),(13,.ptrs [(0,1),(0,2),(0,3),(0,4),(0,5),(0,6),(0,7),(0,8)]),(14,aI),(15,aI),(16,aB)]) r r<|aP<|fL r<|aW<|bV<|aP<|bJ<|aH<|aM r (iR (p:=(0,8)) mQ r r r)<|aM r (fN nS r)<|sV (v:=.box 0 8) r ?_
 refine aF (fr':=[(0,aO),(3,.box 0 0),(6,.box 0 8),(13,.ptrs [(0,1),(0,2),(0,3),(0,4),(0,5),(0,6),(0,7),(0,8)]),(14,aI),(15,aI)]) r r<|aQ<|mV (v:=aO) r<|mV (v:=.box 0 8) r<|aM r (fX r)<|aM r (aK (v:=aI) eP r r r) ?_
 obtain ⟨x23,hx23,h24⟩:=aE h22
 refine xT (v:=aO) (σ':=[bZ]) 50025 [] [] r (gB hx23) r r r ⟨lr,lr,trivial⟩ aA r r r<|sV (v:=aO) r<|cB (fr':=[(0,aO),(3,.box 0 0),(6,.box 0 8),(13,.ptrs [(0,1),(0,2),(0,3),(0,4),(0,5),(0,6),(0,7),(0,8)]),(14,aI),(15,aI)]) r<|bX<|bV<|aQ<|aM r (rC (dB r r) (show _=.int .i64 (8:Int) from r))<|mI r<|cB (fr':=[(0,aO),(3,.box 0 0),(6,.box 0 8),(13,.ptrs [(0,1),(0,2),(0,3),(0,4),(0,5),(0,6),(0,7),(0,8)]),(14,aI),(15,aI)]) r<|gP<|pT<|aP<|aQ ?_
 refine aM r (rC (dJ r r) (show _=.bool false from r))<|aF (fr':=[(0,aO),(3,.box 0 0),(13,.ptrs [(0,1),(0,2),(0,3),(0,4),(0,5),(0,6),(0,7),(0,8)]),(14,aI),(15,aI),(16,aB)]) r r<|aP<|yX r<|eK<|bR<|bR<|dC<|bV<|aH<|mV (v:=aO) r<|aM r (bD lI r) ?_
 refine aM r (aK (v:=aL) kM r r r)<|aM r (dI pI (cC r)) ?_
 obtain ⟨x26,hx26,h27⟩:=aE h24
 refine gV (aX (v:=aO) r (gB hx26) ⟨lr,lr,trivial⟩ r r r)<|sV (v:=aO) r<|aF (fr':=[(0,aO),(3,.box 0 0)]) r r<|aP<|aH<|aM r (bD lI r)<|aM r (aK (v:=aL) kM r r r)<|aM r (dI pI (cC r))<|mI r<|aF (fr':=[(0,aO),(31,aL),(32,aI),(33,aI)]) r r ?_
 obtain ⟨x28,hx28,h29⟩:=aE h27
 refine eB gF (fun j30=>x28=j30) (fun (j30:(List UInt8))=>([(0,AV.os 0 1 dF j30)]:Fr)) (fun (j30:(List UInt8))=>([[.c (.str p1o.Queue),ci p1o.ToStart,ci p1o.ToClose,ci p1o.Total,ci p1o.Beat,ci p1o.First,ci p1o.Coef,ci p1o.Most,ci p1o.Attempts,.c (PV.ls 1 eA p1o.Fatal)]]:St)) ?_ ?_
 ·
  refine bJ<|dV _ (fun (s31:((List UInt8) × Int))=>([(0,AV.os 0 1 dF s31.1),(31,.c (PV.ls 1 eA p1o.Fatal)),(32,ci ((p1o.Fatal).length:Int)),(33,ci s31.2)]:Fr)) (fun (s31:((List UInt8) × Int))=>([[.c (.str p1o.Queue),ci p1o.ToStart,ci p1o.ToClose,ci p1o.Total,ci p1o.Beat,ci p1o.First,ci p1o.Coef,ci p1o.Most,ci p1o.Attempts,.c (PV.ls 1 eA p1o.Fatal)]]:St)) hx28 (aU [464] 1 r r r r ⟨lr,lr,lr,lr,trivial⟩ (bW r aA)) ?_
  intro s31 st31 hs31 ho31
  unfold pB at hs31
  refine aH<|aM r (dJ r r)<|aF (fr':=[(0,aO),(31,aL),(32,aI),(33,aI),(34,aB)]) r r<|aP<|bP hs31 r (fun hb32 h32=>?_) (fun hb32 h32=>?_)
  ·
   refine aW<|bV<|aP<|bJ<|aP<|aQ ?_
   obtain ⟨x33,hx33,h34⟩:=aE h32
   refine aM r (gR (cs:=[PV.str _]) vV (cC r) r hx33 r)<|aM r (eG (p:=PV.str _) kD r r)<|sS r<|aF (fr':=[(0,aO),(8,aS),(31,aL),(32,aI),(33,aI)]) r r<|aQ<|mV (v:=aO) r<|mS r ?_
   obtain ⟨x35,hx35,h36⟩:=aE h34
   exact gV (aX (v:=aO) r (nJ hx35) ⟨lr,lr,trivial⟩ r r r)<|sV (v:=aO) r<|cB (fr':=[(0,aO),(8,aS),(31,aL),(32,aI),(33,aI)]) r<|bX<|bV<|aQ<|aM r (dB r r)<|mI r<|cB (fr':=[(0,aO),(8,aS),(31,aL),(32,aI),(33,aI)]) r<|rX _ (sy h36) (aU [624] 1 r r r r ⟨lr,lr,lr,lr,trivial⟩ (bW r aA))
  ·
   refine eK<|bR<|bR<|dC ?_
   have h37:=cS h32 ho31
   exact gD _ (sy h37) (aU [0] 1 r r r r ⟨lr,trivial⟩ (bW r aA))
 ·
  intro j30 hj38
  subst hj38
  refine bV<|aH<|mV (v:=aO) r<|sV (v:=aO) r<|aF (fr':=[(4,aO)]) r r<|bC ?_
  obtain rfl:=sy h29
  exact bB (rs':=[.tmp 4]) r<|bH (v:=aO) r<|aZ<|aN [0] r r r lr aA
noncomputable def jV (p0b:(List UInt8)) (p1o:bG):Option (List UInt8) :=
 (gA p0b).bind fun x1=>(iD p1o).bind fun x3=>cond (!x3) (some x1) ((pO x1 p1o).bind fun x7=>some x7)
theorem aAc {p0b:(List UInt8)}{p1o:bG}{res:(List UInt8)} (h:jV p0b p1o=some res):bS Tryz.prog 56 [.c (PV.ls 1 dF p0b),.agg (AV.cs (gS p1o))] [] (AV.os 0 1 dF res) []:=by
 unfold jV at h
 refine cJ (fn:=Tryz.f56) [0,1,3,4,5,10] (by kernel_rfl) Tryz.func56 r (by kernel_rfl) (by kernel_rfl)<|aH<|fS (v:=.agg bZ) (n:=0) (cs:=bZ) (σ':=[bZ]) r r r r r<|sV (v:=AV.nil) r<|aF (fr':=[(0,aL),(3,.box 0 0)]) r r<|aH<|mL r ?_
 obtain ⟨x1,hx1,h2⟩:=aE h
 refine gV (aX (v:=aO) r (jQ hx1) ⟨lr,trivial⟩ r r r)<|sV (v:=aO) r<|aF (fr':=[(3,.box 0 0),(5,aO)]) r r<|aP<|aH<|aM r (cN (us:=bZ) wH r r r r) ?_
 obtain ⟨x3,hx3,h4⟩:=aE h2
 refine gV (aX (v:=aB) r (oY hx3) ⟨(bK r ⟨r,r,r,r,r,r,r,r,r,r,trivial⟩),trivial⟩ r r r)<|aM r (eI r)<|aF (fr':=[(3,.box 0 0),(5,aO),(10,aB)]) r r<|bP h4 r (fun hb5 h5=>?_) (fun hb5 h5=>?_)
 ·
  refine aH<|mV (v:=aO) r<|sV (v:=aO) r<|aF (fr':=[(4,aO)]) r r<|bC<|aJ ?_
  obtain rfl:=sy h5
  exact bB (rs':=[.tmp 4]) r<|bH (v:=aO) r<|aZ<|aN [112] r r r lr aA
 ·
  refine aW<|bV<|aH<|mV (v:=aO) r<|aM r (cN (us:=bZ) wH r r r r) ?_
  obtain ⟨x7,hx7,h8⟩:=aE h5
  refine gV (aX (v:=aO) r (aDD hx7) ⟨lr,(bK r ⟨r,r,r,r,r,r,r,r,r,r,trivial⟩),trivial⟩ r r r)<|sV (v:=aO) r<|aF (fr':=[(4,aO)]) r r<|bC ?_
  obtain rfl:=sy h8
  exact bB (rs':=[.tmp 4]) r<|bH (v:=aO) r<|aZ<|aN [224] r r r lr aA
noncomputable def kP (p1e:bI) (s4:((List UInt8) × Int)):Option (cI ((List UInt8) × Int) (List UInt8)) :=
 cond (decide (s4.2<((([p1e.ID,p1e.Kind,p1e.Time,p1e.Seq,p1e.Ref,p1e.N,p1e.Code]:List Int)).length:Int))) ((hG ([p1e.ID,p1e.Kind,p1e.Time,p1e.Seq,p1e.Ref,p1e.N,p1e.Code]:List Int) s4.2).bind fun x6=>(fW s4.1 x6).bind fun x8=>some (cI.next (x8,(IntKind.wrap .i64 (s4.2+(1:Int)))))) (some (cI.out s4.1))
noncomputable def jG (p0b:(List UInt8)) (p1e:bI):Option (List UInt8) :=
 ((dR (kP p1e) ((p0b,(0:Int)))):Option (List UInt8)).bind fun x1=>((iU x1 p1e.Name).bind fun x12=>(iU x12 p1e.Key).bind fun x14=>(tY x14 p1e.Data).bind fun x16=>(jV x16 p1e.Opts).bind fun x18=>some x18)
theorem sF {p0b:(List UInt8)}{p1e:bI}{res:(List UInt8)} (h:jG p0b p1e=some res):bS Tryz.prog 18 [.c (PV.ls 1 dF p0b),.agg (AV.cs (cD p1e))] [] (AV.os 0 1 dF res) []:=by
 unfold jG at h
 refine cJ (fn:=Tryz.f18) [0,1,3,4,6,21,22,23,24] (by kernel_rfl) Tryz.func18 r (by kernel_rfl) (by kernel_rfl)<|aH<|fS (v:=.agg aD) (n:=0) (cs:=aD) (σ':=[aD]) r r r r r<|sV (v:=AV.nil) r<|aF (fr':=[(0,aL),(3,.box 0 0)]) r r<|aP<|aH<|aM r (bD aCg r)<|aM r (aK (v:=aI) eP r r r)<|aM r (bD tU r)<|aM r (aK (v:=aI) eP r r r) ?_
 refine aM r (bD aCh r)<|aM r (aK (v:=aI) eP r r r)<|aM r (bD xE r)<|aM r (aK (v:=aI) eP r r r)<|aM r (bD xF r)<|aM r (aK (v:=aI) eP r r r)<|aM r (bD sC r)<|aM r (aK (v:=aI) eP r r r)<|aM r (bD vU r)<|aM r (aK (v:=aI) eP r r r)<|kT (row:=(aDx .i64)) (xs:=([p1e.ID,p1e.Kind,p1e.Time,p1e.Seq,p1e.Ref,p1e.N,p1e.Code]:List Int)) (rows:=[[_],[_],[_],[_],[_],[_],[_]]) (σ':=[aD]) [0] aEf r r r (cM r (cM r (cM r (cM r (cM r (cM r (cM r gY))))))) r r<|aM r (dI aMm (lG r))<|mI r ?_
 refine aF (fr':=[(0,aL),(3,.box 0 0),(21,aO),(22,aI),(23,aI)]) r r ?_
 obtain ⟨x1,hx1,h2⟩:=aE h
 refine eB gF (fun j3=>x1=j3) (fun (j3:(List UInt8))=>([(0,.c (PV.ls 1 dF j3)),(3,.box 0 0)]:Fr)) (fun (j3:(List UInt8))=>([[ci p1e.ID,ci p1e.Kind,ci p1e.Time,ci p1e.Seq,ci p1e.Ref,ci p1e.N,ci p1e.Code,.c (.str p1e.Name),.c (.str p1e.Key),ci p1e.Data.Kind,ci p1e.Data.Int,.c (.str p1e.Data.Text),.c (PV.ls 5 bF p1e.Data.Items),.c (PV.ls 1 eA p1e.Data.Keys),.c (.str p1e.Opts.Queue),ci p1e.Opts.ToStart,ci p1e.Opts.ToClose,ci p1e.Opts.Total,ci p1e.Opts.Beat,ci p1e.Opts.First,ci p1e.Opts.Coef,ci p1e.Opts.Most,ci p1e.Opts.Attempts,.c (PV.ls 1 eA p1e.Opts.Fatal)]]:St)) ?_ ?_
 ·
  refine bJ<|dV _ (fun (s4:((List UInt8) × Int))=>([(0,.c (PV.ls 1 dF s4.1)),(3,.box 0 0),(21,AV.os 0 1 (aDx .i64) ([p1e.ID,p1e.Kind,p1e.Time,p1e.Seq,p1e.Ref,p1e.N,p1e.Code]:List Int)),(22,ci ((([p1e.ID,p1e.Kind,p1e.Time,p1e.Seq,p1e.Ref,p1e.N,p1e.Code]:List Int)).length:Int)),(23,ci s4.2)]:Fr)) (fun (s4:((List UInt8) × Int))=>([[ci p1e.ID,ci p1e.Kind,ci p1e.Time,ci p1e.Seq,ci p1e.Ref,ci p1e.N,ci p1e.Code,.c (.str p1e.Name),.c (.str p1e.Key),ci p1e.Data.Kind,ci p1e.Data.Int,.c (.str p1e.Data.Text),.c (PV.ls 5 bF p1e.Data.Items),.c (PV.ls 1 eA p1e.Data.Keys),.c (.str p1e.Opts.Queue),ci p1e.Opts.ToStart,ci p1e.Opts.ToClose,ci p1e.Opts.Total,ci p1e.Opts.Beat,ci p1e.Opts.First,ci p1e.Opts.Coef,ci p1e.Opts.Most,ci p1e.Opts.Attempts,.c (PV.ls 1 eA p1e.Opts.Fatal)]]:St)) hx1 (aU [336] 1 r r r r ⟨lr,lr,lr,lr,lr,trivial⟩ (bW r aA)) ?_
  intro s4 st4 hs4 ho4
  unfold kP at hs4
  refine aH<|aM r (dJ r r)<|aF (fr':=[(0,aL),(3,.box 0 0),(21,aO),(22,aI),(23,aI),(24,aB)]) r r<|aP<|bP hs4 r (fun hb5 h5=>?_) (fun hb5 h5=>?_)
  ·
   refine aW<|bV<|aP<|bJ<|aP<|aQ ?_
   obtain ⟨x6,hx6,h7⟩:=aE h5
   refine aM r (gR (cs:=[PV.int _ _]) aEf (lG r) r hx6 r)<|aM r (eG (p:=PV.int _ _) eP r r)<|sI r<|aF (fr':=[(0,aL),(3,.box 0 0),(6,aI),(21,aO),(22,aI),(23,aI)]) r r<|aQ<|mL r<|mI r ?_
   obtain ⟨x8,hx8,h9⟩:=aE h7
   exact gV (aX (v:=aO) r (gB hx8) ⟨lr,lr,trivial⟩ r r r)<|sV (v:=aO) r<|cB (fr':=[(0,aO),(3,.box 0 0),(6,aI),(21,aO),(22,aI),(23,aI)]) r<|bX<|bV<|aQ<|aM r (dB r r)<|mI r<|cB (fr':=[(0,aO),(3,.box 0 0),(6,aI),(21,aO),(22,aI),(23,aI)]) r<|rX _ (sy h9) (aU [0] 1 r r r r ⟨lr,lr,lr,lr,lr,trivial⟩ (bW r aA))
  ·
   refine eK<|bR<|bR<|dC ?_
   have h10:=cS h5 ho4
   exact gD _ (sy h10) (aU [] 1 r r r r ⟨lr,lr,trivial⟩ (bW r aA))
 ·
  intro j3 hj11
  subst hj11
  refine bV<|aH<|mL r<|aM r (bD oW r)<|aM r (aK (v:=aS) kD r r r) ?_
  obtain ⟨x12,hx12,h13⟩:=aE h2
  refine gV (aX (v:=aO) r (nJ hx12) ⟨lr,lr,trivial⟩ r r r)<|sV (v:=aO) r<|aF (fr':=[(0,aO),(3,.box 0 0)]) r r<|aH<|mV (v:=aO) r<|aM r (bD oX r)<|aM r (aK (v:=aS) kD r r r) ?_
  obtain ⟨x14,hx14,h15⟩:=aE h13
  refine gV (aX (v:=aO) r (nJ hx14) ⟨lr,lr,trivial⟩ r r r)<|sV (v:=aO) r<|aF (fr':=[(0,aO),(3,.box 0 0)]) r r<|aH<|mV (v:=aO) r<|aM r (bD tV r)<|aM r (cN (us:=bL) fM r r r r) ?_
  obtain ⟨x16,hx16,h17⟩:=aE h15
  refine gV (aX (v:=aO) r (aF9 hx16) ⟨lr,(bK r ⟨r,r,r,r,r,trivial⟩),trivial⟩ r r r)<|sV (v:=aO) r<|aF (fr':=[(0,aO),(3,.box 0 0)]) r r<|aH<|mV (v:=aO) r<|aM r (bD rW r)<|aM r (cN (us:=bZ) wH r r r r) ?_
  obtain ⟨x18,hx18,h19⟩:=aE h17
  refine gV (aX (v:=aO) r (aAc hx18) ⟨lr,(bK r ⟨r,r,r,r,r,r,r,r,r,r,trivial⟩),trivial⟩ r r r)<|sV (v:=aO) r<|aF (fr':=[(4,aO)]) r r<|bC ?_
  obtain rfl:=sy h19
  exact bB (rs':=[.tmp 4]) r<|bH (v:=aO) r<|aZ<|aN [736] r r r lr aA
noncomputable def tX (aEa:aC→Option Int) (p0v:aC) (s4:(Int × Int)):Option (cI (Int × Int) Int) :=
 cond (decide (s4.2<((p0v.Items).length:Int))) ((hG p0v.Items s4.2).bind fun x6=>(aEa x6).bind fun x8=>some (cI.next ((if x8 > s4.1 then x8 else s4.1),(IntKind.wrap .i64 (s4.2+(1:Int)))))) (some (cI.out s4.1))
noncomputable def nU:Nat→aC→Option Int
 | 0,_=>none
 | n+1,p0v =>
  ((dR (tX (nU n) p0v) (((0:Int),(0:Int)))):Option Int).bind fun x1=>(some (IntKind.wrap .i64 (x1+(1:Int))))
theorem aFZ:∀ n:Nat,(∀ {p0v:aC}{res:Int},nU n p0v=some res→bS Tryz.prog 191 [.agg (AV.cs (cQ p0v))] [] (ci res) []):=by
 intro n
 induction n with
 | zero=>exact fun {p0v res} h=>absurd h (by simp [nU])
 | succ n ih =>
  have ih_value_Depth:=@ih
  intro p0v res h
  rw [nU] at h
  refine cJ (fn:=Tryz.f191) [0,1,2,3,5,7,8,9,10] (by kernel_rfl) Tryz.func191 r (by kernel_rfl) (by kernel_rfl)<|aH<|fS (v:=.agg bL) (n:=0) (cs:=bL) (σ':=[bL]) r r r r r<|sI r<|aF (fr':=[(1,.box 0 0)]) r r<|aH<|sI r<|aF (fr':=[(1,.box 0 0),(3,aI)]) r r<|aP<|aP<|aQ ?_
  refine aM r (bD eJ r)<|aM r (aK (v:=aL) iF r r r)<|aM r (dI nH (cC r))<|mI r<|aF (fr':=[(3,aI),(7,aL),(8,aI),(9,aI)]) r r ?_
  obtain ⟨x1,hx1,h2⟩:=aE h
  refine eB gF (fun j3=>x1=j3) (fun (j3:Int)=>([(3,ci j3)]:Fr)) (fun (j3:Int)=>([[ci p0v.Kind,ci p0v.Int,.c (.str p0v.Text),.c (PV.ls 5 bF p0v.Items),.c (PV.ls 1 eA p0v.Keys)]]:St)) ?_ ?_
  ·
   refine bJ<|dV _ (fun (s4:(Int × Int))=>([(3,ci s4.1),(7,.c (PV.ls 5 bF p0v.Items)),(8,ci ((p0v.Items).length:Int)),(9,ci s4.2)]:Fr)) (fun (s4:(Int × Int))=>([[ci p0v.Kind,ci p0v.Int,.c (.str p0v.Text),.c (PV.ls 5 bF p0v.Items),.c (PV.ls 1 eA p0v.Keys)]]:St)) hx1 (aU [] 1 r r r r ⟨lr,lr,lr,lr,trivial⟩ (bW r aA)) ?_
   intro s4 st4 hs4 ho4
   unfold tX at hs4
   refine aH<|aM r (dJ r r)<|aF (fr':=[(3,aI),(7,aL),(8,aI),(9,aI),(10,aB)]) r r<|aP<|bP hs4 r (fun hb5 h5=>?_) (fun hb5 h5=>?_)
   ·
    refine aW<|bV<|aP<|bJ<|aP<|aQ ?_
    obtain ⟨x6,hx6,h7⟩:=aE h5
    refine aM r (gR (cs:=[PV.int _ _,PV.int _ _,PV.str _,PV.ls _ _ _,PV.ls _ _ _]) mP (cC r) r hx6 (cE _))<|aM r (gM (us:=[PV.int _ _,PV.int _ _,PV.str _,PV.ls _ _ _,PV.ls _ _ _]) fM r r r)<|gC (n:=1) (cs:=bT) (σ':=[bL,bT]) aCi r r r<|bU (v:=.agg bL) (us:=bL) (cs:=bT) (σ':=[bL,bL]) r fM r r r r r r r r<|aF (fr':=[(3,aI),(5,.box 1 0),(7,aL),(8,aI),(9,aI)]) r r<|aQ<|mI r<|aM r (cN (us:=bL) fM r r r r) ?_
    obtain ⟨x8,hx8,h9⟩:=aE h7
    exact gV (aX (v:=aI) r (ih_value_Depth hx8) ⟨(bK r ⟨r,r,r,r,r,trivial⟩),trivial⟩ r r r)<|aM r (aRl r r)<|sI r<|cB (fr':=[(3,aI),(5,.box 1 0),(7,aL),(8,aI),(9,aI)]) r<|bX<|bV<|aQ<|aM r (dB r r)<|mI r<|cB (fr':=[(3,aI),(5,.box 1 0),(7,aL),(8,aI),(9,aI)]) r<|rX _ (sy h9) (aU [] 1 r r r r ⟨lr,lr,lr,lr,trivial⟩ (bW r aA))
   ·
    refine eK<|bR<|bR<|dC ?_
    have h10:=cS h5 ho4
    exact gD _ (sy h10) (aU [] 1 r r r r ⟨lr,trivial⟩ (bW r aA))
  ·
   intro j3 hj11
   subst hj11
   refine bV<|aH<|mI r<|aM r (dB r r)<|sI r<|aF (fr':=[(2,aI)]) r r<|bC ?_
   obtain rfl:=sy h2
   exact bB (rs':=[.tmp 2]) r<|bH (v:=aI) r<|aZ<|aN [] r r r lr aA
noncomputable def aA2 (p0v:aC):Option Int:=lim fun n=>nU n p0v
theorem aGN {p0v:aC}{res:Int} (h:aA2 p0v=some res):bS Tryz.prog 191 [.agg (AV.cs (cQ p0v))] [] (ci res) []:=by
 obtain ⟨n,hn⟩:=jZ h
 exact (aFZ n) hn
noncomputable def uY (aFC:aC→Option Int) (p0v:aC) (s4:(Int × Int)):Option (cI (Int × Int) Int) :=
 cond (decide (s4.2<((p0v.Items).length:Int))) ((hG p0v.Items s4.2).bind fun x6=>(aFC x6).bind fun x8=>some (cI.next ((IntKind.wrap .i64 (s4.1+x8)),(IntKind.wrap .i64 (s4.2+(1:Int)))))) (some (cI.out s4.1))
noncomputable def qH:Nat→aC→Option Int
 | 0,_=>none
 | n+1,p0v =>
  ((dR (uY (qH n) p0v) (((1:Int),(0:Int)))):Option Int).bind fun x1=>(some x1)
theorem aGC:∀ n:Nat,(∀ {p0v:aC}{res:Int},qH n p0v=some res→bS Tryz.prog 192 [.agg (AV.cs (cQ p0v))] [] (ci res) []):=by
 intro n
 induction n with
 | zero=>exact fun {p0v res} h=>absurd h (by simp [qH])
 | succ n ih =>
  have ih_value_Size:=@ih
  intro p0v res h
  rw [qH] at h
  refine cJ (fn:=Tryz.f192) [0,1,2,3,5,7,8,9,10] (by kernel_rfl) Tryz.func192 r (by kernel_rfl) (by kernel_rfl)<|aH<|fS (v:=.agg bL) (n:=0) (cs:=bL) (σ':=[bL]) r r r r r<|sI r<|aF (fr':=[(1,.box 0 0)]) r r<|aH<|sI r<|aF (fr':=[(1,.box 0 0),(3,aI)]) r r<|aP<|aP<|aQ ?_
  refine aM r (bD eJ r)<|aM r (aK (v:=aL) iF r r r)<|aM r (dI nH (cC r))<|mI r<|aF (fr':=[(3,aI),(7,aL),(8,aI),(9,aI)]) r r ?_
  obtain ⟨x1,hx1,h2⟩:=aE h
  refine eB gF (fun j3=>x1=j3) (fun (j3:Int)=>([(3,ci j3)]:Fr)) (fun (j3:Int)=>([[ci p0v.Kind,ci p0v.Int,.c (.str p0v.Text),.c (PV.ls 5 bF p0v.Items),.c (PV.ls 1 eA p0v.Keys)]]:St)) ?_ ?_
  ·
   refine bJ<|dV _ (fun (s4:(Int × Int))=>([(3,ci s4.1),(7,.c (PV.ls 5 bF p0v.Items)),(8,ci ((p0v.Items).length:Int)),(9,ci s4.2)]:Fr)) (fun (s4:(Int × Int))=>([[ci p0v.Kind,ci p0v.Int,.c (.str p0v.Text),.c (PV.ls 5 bF p0v.Items),.c (PV.ls 1 eA p0v.Keys)]]:St)) hx1 (aU [] 1 r r r r ⟨lr,lr,lr,lr,trivial⟩ (bW r aA)) ?_
   intro s4 st4 hs4 ho4
   unfold uY at hs4
   refine aH<|aM r (dJ r r)<|aF (fr':=[(3,aI),(7,aL),(8,aI),(9,aI),(10,aB)]) r r<|aP<|bP hs4 r (fun hb5 h5=>?_) (fun hb5 h5=>?_)
   ·
    refine aW<|bV<|aP<|bJ<|aP<|aQ ?_
    obtain ⟨x6,hx6,h7⟩:=aE h5
    refine aM r (gR (cs:=[PV.int _ _,PV.int _ _,PV.str _,PV.ls _ _ _,PV.ls _ _ _]) mP (cC r) r hx6 (cE _))<|aM r (gM (us:=[PV.int _ _,PV.int _ _,PV.str _,PV.ls _ _ _,PV.ls _ _ _]) fM r r r)<|gC (n:=1) (cs:=bT) (σ':=[bL,bT]) aCi r r r<|bU (v:=.agg bL) (us:=bL) (cs:=bT) (σ':=[bL,bL]) r fM r r r r r r r r<|aF (fr':=[(3,aI),(5,.box 1 0),(7,aL),(8,aI),(9,aI)]) r r<|aQ<|mI r<|aM r (cN (us:=bL) fM r r r r) ?_
    obtain ⟨x8,hx8,h9⟩:=aE h7
    exact gV (aX (v:=aI) r (ih_value_Size hx8) ⟨(bK r ⟨r,r,r,r,r,trivial⟩),trivial⟩ r r r)<|aM r (dB r r)<|sI r<|cB (fr':=[(3,aI),(5,.box 1 0),(7,aL),(8,aI),(9,aI)]) r<|bX<|bV<|aQ<|aM r (dB r r)<|mI r<|cB (fr':=[(3,aI),(5,.box 1 0),(7,aL),(8,aI),(9,aI)]) r<|rX _ (sy h9) (aU [] 1 r r r r ⟨lr,lr,lr,lr,trivial⟩ (bW r aA))
   ·
    refine eK<|bR<|bR<|dC ?_
    have h10:=cS h5 ho4
    exact gD _ (sy h10) (aU [] 1 r r r r ⟨lr,trivial⟩ (bW r aA))
  ·
   intro j3 hj11
   subst hj11
   refine bV<|aH<|mI r<|sI r<|aF (fr':=[(2,aI)]) r r<|bC ?_
   obtain rfl:=sy h2
   exact bB (rs':=[.tmp 2]) r<|bH (v:=aI) r<|aZ<|aN [] r r r lr aA
noncomputable def aCj (p0v:aC):Option Int:=lim fun n=>qH n p0v
theorem aIi {p0v:aC}{res:Int} (h:aCj p0v=some res):bS Tryz.prog 192 [.agg (AV.cs (cQ p0v))] [] (ci res) []:=by
 obtain ⟨n,hn⟩:=jZ h
 exact (aGC n) hn
noncomputable def uZ (p0k:(List UInt8)):Option Bool :=
 some (decide ((4096:Int)<((p0k).length:Int)))
theorem aEp {p0k:(List UInt8)}{res:Bool} (h:uZ p0k=some res):bS Tryz.prog 208 [.c (.str p0k)] [] (.c (.bool res)) []:=by
 unfold uZ at h
 refine cJ (fn:=Tryz.f208) [0,2] (by kernel_rfl) Tryz.func208 r (by kernel_rfl) (by kernel_rfl)<|aH<|sB r<|aF (fr':=[(0,aS)]) r r<|aH<|mS r<|aM r (gL pJ r)<|aM r (kA r r)<|sB r<|aF (fr':=[(2,aB)]) r r<|bC ?_
 obtain rfl:=sy h
 exact bB (rs':=[.tmp 2]) r<|bH (v:=aB) r<|aZ<|aN [] r r r lr aA
noncomputable def eN (p0s:(List (List UInt8))) (s4:Int):Option (cI Int (Fl Int Unit)) :=
 cond (decide (s4<((p0s).length:Int))) ((hG p0s s4).bind fun x6=>(uZ x6).bind fun x8=>cond x8 (some (cI.out (Fl.done s4))) (some (cI.next (IntKind.wrap .i64 (s4+(1:Int)))))) (some (cI.out (Fl.go ())))
noncomputable def fK (p0s:(List (List UInt8))):Option Int :=
 ((dR (eN p0s) ((0:Int))):Option (Fl Int Unit)).bind fun x1=>Fl.next x1 (fun j3=>(some (-1:Int)))
theorem mO {p0s:(List (List UInt8))}{res:Int} (h:fK p0s=some res):bS Tryz.prog 206 [.c (PV.ls 1 eA p0s),.fn 208 []] [] (ci res) []:=by
 unfold fK at h
 refine cJ (fn:=Tryz.f206) [0,1,4,5,7,8,9,16] (by kernel_rfl) Tryz.func206 r (by kernel_rfl) (by kernel_rfl)<|aH<|sI r<|aF (fr':=[(0,aL),(1,.fn _ [])]) r r<|aP<|aH<|mL r<|aM r (dI pI (cC r))<|mI r<|aF (fr':=[(0,aL),(1,.fn _ []),(7,aI),(8,aI)]) r r ?_
 obtain ⟨x1,hx1,h2⟩:=aE h
 refine eB gF (fun j3=>x1=Fl.go j3) (fun (j3:Unit)=>([]:Fr)) (fun (j3:Unit)=>([]:St)) ?_ ?_
 ·
  refine bJ<|dV _ (fun (s4:Int)=>([(0,.c (PV.ls 1 eA p0s)),(1,.fn 208 []),(7,ci ((p0s).length:Int)),(8,ci s4)]:Fr)) (fun (s4:Int)=>([]:St)) hx1 (aU [] 0 r r r r ⟨lr,lr,lr,lr,trivial⟩ aA) ?_
  intro s4 st4 hs4 ho4
  unfold eN at hs4
  refine aH<|aM r (dJ r r)<|aF (fr':=[(0,aL),(1,.fn _ []),(7,aI),(8,aI),(9,aB)]) r r<|aP<|bP hs4 r (fun hb5 h5=>?_) (fun hb5 h5=>?_)
  ·
   refine aW<|bV<|aP<|bJ<|aH<|mI r<|sI r<|aF (fr':=[(0,aL),(1,.fn _ []),(5,aI),(7,aI),(8,aI)]) r r<|aH<|mV (v:=.fn _ []) r<|mL r ?_
   refine mI r ?_
   obtain ⟨x6,hx6,h7⟩:=aE h5
   refine aM r (gR (cs:=[PV.str _]) vV (cC r) r hx6 r)<|aM r (eG (p:=PV.str _) kD r r) ?_
   obtain ⟨x8,hx8,h9⟩:=aE h7
   refine gV (aX (v:=aB) r (aEp hx8) ⟨lr,trivial⟩ r r r)<|aF (fr':=[(0,aL),(1,.fn _ []),(5,aI),(7,aI),(8,aI),(16,aB)]) r r<|bP h9 r (fun hb10 h10=>?_) (fun hb10 h10=>?_)
   ·
    refine aH<|mI r<|sI r<|aF (fr':=[(4,aI)]) r r<|bC<|bA<|aJ<|aJ<|bA<|aJ<|aJ ?_
    have h11:=cS h10 ho4
    have h12:=dQ h11 h2
    obtain rfl:=sy h12
    exact bB (rs':=[.tmp 4]) r<|bH (v:=aI) r<|aZ<|aN [] r r r lr aA
   ·
    exact aW<|bX<|bV<|aQ<|aM r (dB r r)<|mI r<|cB (fr':=[(0,aL),(1,.fn _ []),(5,aI),(7,aI),(8,aI),(16,aB)]) r<|rX _ (sy h10) (aU [] 0 r r r r ⟨lr,lr,lr,lr,trivial⟩ aA)
  ·
   refine eK<|bR<|bR<|dC ?_
   have h14:=cS h5 ho4
   exact gD _ (sy h14) (aU [] 0 r r r r trivial aA)
 ·
  intro j3 hj15
  have h15:=iC hj15 h2
  refine bV<|aH<|sI r<|aF (fr':=[(4,aI)]) r r<|bC ?_
  obtain rfl:=sy h15
  exact bB (rs':=[.tmp 4]) r<|bH (v:=aI) r<|aZ<|aN [] r r r lr aA
noncomputable def eM (p0s:(List (List UInt8))):Option Bool :=
 (fK p0s).bind fun x1=>some (decide ((0:Int)≤x1))
theorem lQ {p0s:(List (List UInt8))}{res:Bool} (h:eM p0s=some res):bS Tryz.prog 178 [.c (PV.ls 1 eA p0s),.fn 208 []] [] (.c (.bool res)) []:=by
 unfold eM at h
 refine cJ (fn:=Tryz.f178) [0,1,4] (by kernel_rfl) Tryz.func178 r (by kernel_rfl) (by kernel_rfl)<|aH<|sB r<|aF (fr':=[(0,aL),(1,.fn _ [])]) r r<|aH<|mL r<|mV (v:=.fn _ []) r ?_
 obtain ⟨x1,hx1,h2⟩:=aE h
 refine gV (aX (v:=aI) r (mO hx1) ⟨lr,lr,trivial⟩ r r r)<|aM r (nM r r)<|sB r<|aF (fr':=[(4,aB)]) r r<|bC ?_
 obtain rfl:=sy h2
 exact bB (rs':=[.tmp 4]) r<|bH (v:=aB) r<|aZ<|aN [] r r r lr aA
noncomputable def dT (aCO:aC→Option Bool) (p0s:(List aC)) (s4:Int):Option (cI Int (Fl Int Unit)) :=
 cond (decide (s4<((p0s).length:Int))) ((hG p0s s4).bind fun x6=>(aCO x6).bind fun x8=>cond x8 (some (cI.out (Fl.done s4))) (some (cI.next (IntKind.wrap .i64 (s4+(1:Int)))))) (some (cI.out (Fl.go ())))
mutual
noncomputable def cX:Nat→(List aC)→Option Bool
 | 0,_=>none
 | n+1,p0s =>
  ((eC n) p0s).bind fun x1=>some (decide ((0:Int)≤x1))
noncomputable def eC:Nat→(List aC)→Option Int
 | 0,_=>none
 | n+1,p0s =>
  ((dR (dT (nI n) p0s) ((0:Int))):Option (Fl Int Unit)).bind fun x1=>Fl.next x1 (fun j3=>(some (-1:Int)))
noncomputable def nW:Nat→aC→Option Bool
 | 0,_=>none
 | n+1,p0v =>
  (gd ((decide ((4096:Int)<((p0v.Text).length:Int)))==false) (eM p0v.Keys)).bind fun x1=>cond (cond (decide ((4096:Int)<((p0v.Text).length:Int))) true x1) (some false) (((cX n) p0v.Items).bind fun x5=>some (!x5))
noncomputable def nI:Nat→aC→Option Bool
 | 0,_=>none
 | n+1,p0x =>
  ((nW n) p0x).bind fun x1=>some (!x1)
end
theorem kB:∀ n:Nat,(∀ {p0s:(List aC)}{res:Bool},cX n p0s=some res→bS Tryz.prog 176 [.c (PV.ls 5 bF p0s),.fn 209 []] [] (.c (.bool res)) [])∧(∀ {p0s:(List aC)}{res:Int},eC n p0s=some res→bS Tryz.prog 205 [.c (PV.ls 5 bF p0s),.fn 209 []] [] (ci res) [])∧(∀ {p0v:aC}{res:Bool},nW n p0v=some res→bS Tryz.prog 193 [.agg (AV.cs (cQ p0v))] [] (.c (.bool res)) [])∧(∀ {p0x:aC}{res:Bool},nI n p0x=some res→bS Tryz.prog 209 [.agg (AV.cs (cQ p0x))] [] (.c (.bool res)) []):=by
 intro n
 induction n with
 | zero=>exact ⟨fun {p0s res} h=>absurd h (by simp [cX]),fun {p0s res} h=>absurd h (by simp [eC]),fun {p0v res} h=>absurd h (by simp [nW]),fun {p0x res} h=>absurd h (by simp [nI])⟩
 | succ n ih =>
  obtain ⟨ih_slices_ContainsFunc_api_Value_api_Value_value_short_2,ih_slices_IndexFunc_api_Value_api_Value_value_short_2,ih_value_short,ih_value_short_2⟩:=ih
  refine ⟨?_,?_,?_,?_⟩
  ·
   intro p0s res h
   rw [cX] at h
   refine cJ (fn:=Tryz.f176) [0,1,4] (by kernel_rfl) Tryz.func176 r (by kernel_rfl) (by kernel_rfl)<|aH<|sB r<|aF (fr':=[(0,aL),(1,.fn _ [])]) r r<|aH<|mL r<|mV (v:=.fn _ []) r ?_
   obtain ⟨x1,hx1,h2⟩:=aE h
   refine gV (aX (v:=aI) r (ih_slices_IndexFunc_api_Value_api_Value_value_short_2 hx1) ⟨lr,lr,trivial⟩ r r r)<|aM r (nM r r)<|sB r<|aF (fr':=[(4,aB)]) r r<|bC ?_
   obtain rfl:=sy h2
   exact bB (rs':=[.tmp 4]) r<|bH (v:=aB) r<|aZ<|aN [] r r r lr aA
  ·
   intro p0s res h
   rw [eC] at h
   refine cJ (fn:=Tryz.f205) [0,1,4,5,7,8,9,16] (by kernel_rfl) Tryz.func205 r (by kernel_rfl) (by kernel_rfl)<|aH<|sI r<|aF (fr':=[(0,aL),(1,.fn _ [])]) r r<|aP<|aH<|mL r<|aM r (dI nH (cC r))<|mI r<|aF (fr':=[(0,aL),(1,.fn _ []),(7,aI),(8,aI)]) r r ?_
   obtain ⟨x1,hx1,h2⟩:=aE h
   refine eB gF (fun j3=>x1=Fl.go j3) (fun (j3:Unit)=>([]:Fr)) (fun (j3:Unit)=>([]:St)) ?_ ?_
   ·
    refine bJ<|dV _ (fun (s4:Int)=>([(0,.c (PV.ls 5 bF p0s)),(1,.fn 209 []),(7,ci ((p0s).length:Int)),(8,ci s4)]:Fr)) (fun (s4:Int)=>([]:St)) hx1 (aU [] 0 r r r r ⟨lr,lr,lr,lr,trivial⟩ aA) ?_
    intro s4 st4 hs4 ho4
    unfold dT at hs4
    refine aH<|aM r (dJ r r)<|aF (fr':=[(0,aL),(1,.fn _ []),(7,aI),(8,aI),(9,aB)]) r r<|aP<|bP hs4 r (fun hb5 h5=>?_) (fun hb5 h5=>?_)
    ·
     refine aW<|bV<|aP<|bJ<|aH<|mI r<|sI r<|aF (fr':=[(0,aL),(1,.fn _ []),(5,aI),(7,aI),(8,aI)]) r r<|aH<|mV (v:=.fn _ []) r<|mL r ?_
     refine mI r ?_
     obtain ⟨x6,hx6,h7⟩:=aE h5
     refine aM r (gR (cs:=[PV.int _ _,PV.int _ _,PV.str _,PV.ls _ _ _,PV.ls _ _ _]) mP (cC r) r hx6 (cE _))<|aM r (gM (us:=[PV.int _ _,PV.int _ _,PV.str _,PV.ls _ _ _,PV.ls _ _ _]) fM r r r) ?_
     obtain ⟨x8,hx8,h9⟩:=aE h7
     refine gV (aX (v:=aB) r (ih_value_short_2 hx8) ⟨(bK r ⟨r,r,r,r,r,trivial⟩),trivial⟩ r r r)<|aF (fr':=[(0,aL),(1,.fn _ []),(5,aI),(7,aI),(8,aI),(16,aB)]) r r<|bP h9 r (fun hb10 h10=>?_) (fun hb10 h10=>?_)
     ·
      refine aH<|mI r<|sI r<|aF (fr':=[(4,aI)]) r r<|bC<|bA<|aJ<|aJ<|bA<|aJ<|aJ ?_
      have h11:=cS h10 ho4
      have h12:=dQ h11 h2
      obtain rfl:=sy h12
      exact bB (rs':=[.tmp 4]) r<|bH (v:=aI) r<|aZ<|aN [] r r r lr aA
     ·
      exact aW<|bX<|bV<|aQ<|aM r (dB r r)<|mI r<|cB (fr':=[(0,aL),(1,.fn _ []),(5,aI),(7,aI),(8,aI),(16,aB)]) r<|rX _ (sy h10) (aU [] 0 r r r r ⟨lr,lr,lr,lr,trivial⟩ aA)
    ·
     refine eK<|bR<|bR<|dC ?_
     have h14:=cS h5 ho4
     exact gD _ (sy h14) (aU [] 0 r r r r trivial aA)
   ·
    intro j3 hj15
    have h15:=iC hj15 h2
    refine bV<|aH<|sI r<|aF (fr':=[(4,aI)]) r r<|bC ?_
    obtain rfl:=sy h15
    exact bB (rs':=[.tmp 4]) r<|bH (v:=aI) r<|aZ<|aN [] r r r lr aA
  ·
   intro p0v res h
   rw [nW] at h
   refine cJ (fn:=Tryz.f193) [0,1,2,11] (by kernel_rfl) Tryz.func193 r (by kernel_rfl) (by kernel_rfl)<|aH<|fS (v:=.agg bL) (n:=0) (cs:=bL) (σ':=[bL]) r r r r r<|sB r<|aF (fr':=[(1,.box 0 0)]) r r<|aP<|aH<|aM r (bD lT r)<|aM r (aK (v:=aS) kD r r r)<|aM r (gL pJ r)<|aM r (kA r r) ?_
   refine mB r<|og r r r (fun hc=>(bD jA r))<|og r r r (fun hc=>(aK (v:=aL) kM (gx r hc) r r)) ?_
   obtain ⟨x1,hx1,h2⟩:=aE h
   refine sM r r (fun hc=>aX (v:=aB) r (lQ (cA hx1 hc)) ⟨(eH (gx r hc) lr),lr,trivial⟩ (fA (by repeat (first | exact dX | refine aY r ?_ | refine aY (oS r) ?_ | refine aY oR ?_))) r r) ?_
   refine aM r (bY r r r (fun e=>eO e))<|aF (fr':=[(1,.box 0 0),(11,aB)]) r r<|bP h2 r (fun hb3 h3=>?_) (fun hb3 h3=>?_)
   ·
    refine aH<|sB r<|aF (fr':=[(2,aB)]) r r<|bC<|aJ ?_
    obtain rfl:=sy h3
    exact bB (rs':=[.tmp 2]) r<|bH (v:=aB) r<|aZ<|aN [] r r r lr aA
   ·
    refine aW<|bV<|aH<|aM r (bD eJ r)<|aM r (aK (v:=aL) iF r r r) ?_
    obtain ⟨x5,hx5,h6⟩:=aE h3
    refine gV (aX (v:=aB) r (ih_slices_ContainsFunc_api_Value_api_Value_value_short_2 hx5) ⟨lr,lr,trivial⟩ r r r)<|aM r (eI r)<|sB r<|aF (fr':=[(2,aB)]) r r<|bC ?_
    obtain rfl:=sy h6
    exact bB (rs':=[.tmp 2]) r<|bH (v:=aB) r<|aZ<|aN [] r r r lr aA
  ·
   intro p0x res h
   rw [nI] at h
   refine cJ (fn:=Tryz.f209) [0,1,2] (by kernel_rfl) Tryz.func209 r (by kernel_rfl) (by kernel_rfl)<|aH<|fS (v:=.agg bL) (n:=0) (cs:=bL) (σ':=[bL]) r r r r r<|sB r<|aF (fr':=[(1,.box 0 0)]) r r<|aH<|aM r (cN (us:=bL) fM r r r r) ?_
   obtain ⟨x1,hx1,h2⟩:=aE h
   refine gV (aX (v:=aB) r (ih_value_short hx1) ⟨(bK r ⟨r,r,r,r,r,trivial⟩),trivial⟩ r r r)<|aM r (eI r)<|sB r<|aF (fr':=[(2,aB)]) r r<|bC ?_
   obtain rfl:=sy h2
   exact bB (rs':=[.tmp 2]) r<|bH (v:=aB) r<|aZ<|aN [] r r r lr aA
noncomputable def aA4 (p0v:aC):Option Bool:=lim fun n=>nW n p0v
theorem aGO {p0v:aC}{res:Bool} (h:aA4 p0v=some res):bS Tryz.prog 193 [.agg (AV.cs (cQ p0v))] [] (.c (.bool res)) []:=by
 obtain ⟨n,hn⟩:=jZ h
 exact (kB n).2.2.1 hn
noncomputable def tZ (p0v:aC):Option Bool :=
 (aA2 p0v).bind fun x1=>(gd ((decide (x1≤(16:Int)))==true) (aCj p0v)).bind fun x3=>(gd ((cond (decide (x1≤(16:Int))) (decide (x3≤(1000:Int))) false)==true) (aA4 p0v)).bind fun x5=>some (cond (cond (decide (x1≤(16:Int))) (decide (x3≤(1000:Int))) false) x5 false)
theorem aGb {p0v:aC}{res:Bool} (h:tZ p0v=some res):bS Tryz.prog 160 [.agg (AV.cs (cQ p0v))] [] (.c (.bool res)) []:=by
 unfold tZ at h
 refine cJ (fn:=Tryz.f160) [0,1,2] (by kernel_rfl) Tryz.func160 r (by kernel_rfl) (by kernel_rfl)<|aH<|fS (v:=.agg bL) (n:=0) (cs:=bL) (σ':=[bL]) r r r r r<|sB r<|aF (fr':=[(1,.box 0 0)]) r r<|aH<|aM r (cN (us:=bL) fM r r r r) ?_
 obtain ⟨x1,hx1,h2⟩:=aE h
 refine gV (aX (v:=aI) r (aGN hx1) ⟨(bK r ⟨r,r,r,r,r,trivial⟩),trivial⟩ r r r)<|aM r (nD r r)<|mB r<|og r r r (fun hc=>(cN (us:=bL) fM r r r r)) ?_
 obtain ⟨x3,hx3,h4⟩:=aE h2
 refine sM r r (fun hc=>aX (v:=aI) r (aIi (cA hx3 hc)) ⟨(eH (gx r hc) (bK r ⟨r,r,r,r,r,trivial⟩)),trivial⟩ (fA (by repeat (first | exact dX | refine aY r ?_ | refine aY (oS r) ?_ | refine aY oR ?_))) r r) ?_
 refine og r r r (fun hc=>(nD (gx r hc) r))<|aM r (bO r r r (fun e=>eO e))<|mB r<|og r r r (fun hc=>(cN (us:=bL) fM r r r r)) ?_
 obtain ⟨x5,hx5,h6⟩:=aE h4
 refine sM r r (fun hc=>aX (v:=aB) r (aGO (cA hx5 hc)) ⟨(eH (gx r hc) (bK r ⟨r,r,r,r,r,trivial⟩)),trivial⟩ (fA (by repeat (first | exact dX | refine aY r ?_ | refine aY (oS r) ?_ | refine aY oR ?_))) r r) ?_
 refine aM r (bO r r r (fun e=>eO e))<|sB r<|aF (fr':=[(2,aB)]) r r<|bC ?_
 obtain rfl:=sy h6
 exact bB (rs':=[.tmp 2]) r<|bH (v:=aB) r<|aZ<|aN [] r r r lr aA
noncomputable def sO (p0v:aC):Option Bool :=
 (tZ p0v).bind fun x1=>(gd (x1==true) (wI p0v false)).bind fun x3=>some (cond x1 x3 false)
theorem aBN {p0v:aC}{res:Bool} (h:sO p0v=some res):bS Tryz.prog 100 [.agg (AV.cs (cQ p0v))] [] (.c (.bool res)) []:=by
 unfold sO at h
 refine cJ (fn:=Tryz.f100) [0,1,2] (by kernel_rfl) Tryz.func100 r (by kernel_rfl) (by kernel_rfl)<|aH<|fS (v:=.agg bL) (n:=0) (cs:=bL) (σ':=[bL]) r r r r r<|sB r<|aF (fr':=[(1,.box 0 0)]) r r<|aH<|aM r (cN (us:=bL) fM r r r r) ?_
 obtain ⟨x1,hx1,h2⟩:=aE h
 refine gV (aX (v:=aB) r (aGb hx1) ⟨(bK r ⟨r,r,r,r,r,trivial⟩),trivial⟩ r r r)<|mB r<|og r r r (fun hc=>(cN (us:=bL) fM r r r r)) ?_
 obtain ⟨x3,hx3,h4⟩:=aE h2
 refine sM r r (fun hc=>aX (v:=aB) r (aA9 (cA hx3 hc)) ⟨(eH (gx r hc) (bK r ⟨r,r,r,r,r,trivial⟩)),lr,trivial⟩ (fA (by repeat (first | exact dX | refine aY r ?_ | refine aY (oS r) ?_ | refine aY oR ?_))) r r) ?_
 refine aM r (bO r r r (fun e=>eO e))<|sB r<|aF (fr':=[(2,aB)]) r r<|bC ?_
 obtain rfl:=sy h4
 exact bB (rs':=[.tmp 2]) r<|bH (v:=aB) r<|aZ<|aN [] r r r lr aA
noncomputable def gQ (p0n:Int) (nC:Int) (jK:Int):Option Bool :=
 some (cond (decide (nC≤p0n)) (decide (p0n≤jK)) false)
theorem hY {p0n:Int}{nC:Int}{jK:Int}{res:Bool} (h:gQ p0n nC jK=some res):bS Tryz.prog 136 [ci p0n,ci nC,ci jK] [] (.c (.bool res)) []:=by
 unfold gQ at h
 refine cJ (fn:=Tryz.f136) [0,1,2,6] (by kernel_rfl) Tryz.func136 r (by kernel_rfl) (by kernel_rfl)<|aH<|sB r<|aF (fr':=[(0,aI),(1,aI),(2,aI)]) r r<|aH<|mI r<|mI r<|aM r (nM r r)<|mB r<|og r r r (fun hc=>(bE (v:=aI) r))<|og r r r (fun hc=>(bE (v:=aI) r)) ?_
 refine og r r r (fun hc=>(nD (gx r hc) (gx r hc)))<|aM r (bO r r r (fun e=>eO e))<|sB r<|aF (fr':=[(6,aB)]) r r<|bC ?_
 obtain rfl:=sy h
 exact bB (rs':=[.tmp 6]) r<|bH (v:=aB) r<|aZ<|aN [] r r r lr aA
end Go.Proofs.YtnigjppddilpcaaGreatDoor
