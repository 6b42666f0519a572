import Derived.Test.YtnigjppddilpcaaGreatDoorGETy
import Derived.Test.YtnigjppddilpcaaGreatDoorGEF0
namespace Go.Proofs.YtnigjppddilpcaaGreatDoor
open Go Abs
set_option maxRecDepth 100000
set_option linter.unusedVariables false
set_option linter.unusedSimpArgs false
noncomputable def cU (p0s:(List (List UInt8))) (s4:Int):Option (cD Int (Fl Int Unit)) :=
 cond (decide (s4<((p0s).length:Int))) ((gR p0s s4).bind fun x6=>(iX x6).bind fun x8=>cond x8 (some (cD.out (Fl.done s4))) (some (cD.next (IntKind.wrap .i64 (s4+(1:Int)))))) (some (cD.out (Fl.go ())))
noncomputable def dM (p0s:(List (List UInt8))):Option Int :=
 ((dO (cU p0s) ((0:Int))):Option (Fl Int Unit)).bind fun x1=>Fl.next x1 (fun j3=>(some (-1:Int)))
theorem iJ {p0s:(List (List UInt8))}{res:Int} (h:dM p0s=some res):bR Tryz.prog 206 [.c (PV.ls 1 fD p0s),.fn 179 []] [] (ci res) []:=by
 unfold dM at h
 refine cP (fn:=Tryz.f206) [0,1,4,5,7,8,9,16] (by kernel_rfl) Tryz.func206 r (by kernel_rfl) (by kernel_rfl)<|aJ<|sI r<|aF (fr':=[(0,aL),(1,.fn _ [])]) r r<|aN<|aJ<|mL r<|aQ r (eX rZ (cZ r))<|mI r<|aF (fr':=[(0,aL),(1,.fn _ []),(7,aI),(8,aI)]) r r ?_
 obtain ⟨x1,hx1,h2⟩:=aE h
 refine fI iV (fun j3=>x1=Fl.go j3) (fun (j3:Unit)=>([]:Fr)) (fun (j3:Unit)=>([]:St)) ?_ ?_
 ·
  refine bK<|fB _ (fun (s4:Int)=>([(0,.c (PV.ls 1 fD p0s)),(1,.fn 179 []),(7,ci ((p0s).length:Int)),(8,ci s4)]:Fr)) (fun (s4:Int)=>([]:St)) hx1 (bJ [] 0 r r r r ⟨lr,lr,lr,lr,trivial⟩ aC) ?_
  intro s4 st4 hs4 ho4
  unfold cU at hs4
  refine aJ<|aQ r (dU r r)<|aF (fr':=[(0,aL),(1,.fn _ []),(7,aI),(8,aI),(9,aB)]) r r<|aN<|cC hs4 r (fun hb5 h5=>?_) (fun hb5 h5=>?_)
  ·
   refine bA<|bT<|aN<|bK<|aJ<|mI r<|sI r<|aF (fr':=[(0,aL),(1,.fn _ []),(5,aI),(7,aI),(8,aI)]) r r<|aJ<|mV (v:=.fn _ []) r<|mL r ?_
   refine mI r ?_
   obtain ⟨x6,hx6,h7⟩:=aE h5
   refine aQ r (jS (cs:=[PV.str _]) uW (cZ r) r hx6 r)<|aQ r (fV (p:=PV.str _) nV r r) ?_
   obtain ⟨x8,hx8,h9⟩:=aE h7
   refine jZ (bG (v:=aB) r (tS hx8) ⟨lr,trivial⟩ r r r)<|aF (fr':=[(0,aL),(1,.fn _ []),(5,aI),(7,aI),(8,aI),(16,aB)]) r r<|cC h9 r (fun hb10 h10=>?_) (fun hb10 h10=>?_)
   ·
    refine aJ<|mI r<|sI r<|aF (fr':=[(4,aI)]) r r<|bE<|bB<|aK<|aK<|bB<|aK<|aK ?_
    have h11:=dN h10 ho4
    have h12:=eA h11 h2
    obtain rfl:=sy h12
    exact bD (rs':=[.tmp 4]) r<|bL (v:=aI) r<|bC<|aR [] r r r lr aC
   ·
    exact bA<|cA<|bT<|aT<|aQ r (dR r r)<|mI r<|cI (fr':=[(0,aL),(1,.fn _ []),(5,aI),(7,aI),(8,aI),(16,aB)]) r<|xG _ (sy h10) (bJ [] 0 r r r r ⟨lr,lr,lr,lr,trivial⟩ aC)
  ·
   refine fJ<|bY<|bY<|eC ?_
   have h14:=dN h5 ho4
   exact lF _ (sy h14) (bJ [] 0 r r r r trivial aC)
 ·
  intro j3 hj15
  have h15:=kN hj15 h2
  refine bT<|aJ<|sI r<|aF (fr':=[(4,aI)]) r r<|bE ?_
  obtain rfl:=sy h15
  exact bD (rs':=[.tmp 4]) r<|bL (v:=aI) r<|bC<|aR [] r r r lr aC
noncomputable def cS (p0s:(List (List UInt8))):Option Bool :=
 (dM p0s).bind fun x1=>some (decide ((0:Int)≤x1))
theorem hP {p0s:(List (List UInt8))}{res:Bool} (h:cS p0s=some res):bR Tryz.prog 178 [.c (PV.ls 1 fD p0s),.fn 179 []] [] (.c (.bool res)) []:=by
 unfold cS at h
 refine cP (fn:=Tryz.f178) [0,1,4] (by kernel_rfl) Tryz.func178 r (by kernel_rfl) (by kernel_rfl)<|aJ<|sB r<|aF (fr':=[(0,aL),(1,.fn _ [])]) r r<|aJ<|mL r<|mV (v:=.fn _ []) r ?_
 obtain ⟨x1,hx1,h2⟩:=aE h
 refine jZ (bG (v:=aI) r (iJ hx1) ⟨lr,lr,trivial⟩ r r r)<|aQ r (qJ r r)<|sB r<|aF (fr':=[(4,aB)]) r r<|bE ?_
 obtain rfl:=sy h2
 exact bD (rs':=[.tmp 4]) r<|bL (v:=aB) r<|bC<|aR [] r r r lr aC
noncomputable def iO (p0o:bP) (s8:Int):Option (cD Int (Fl Bool Unit)) :=
 cond (decide (s8<((([p0o.ToStart,p0o.ToClose,p0o.Total,p0o.Beat,p0o.First,p0o.Most]:List Int)).length:Int))) ((gR ([p0o.ToStart,p0o.ToClose,p0o.Total,p0o.Beat,p0o.First,p0o.Most]:List Int) s8).bind fun x10=>(gD x10 (0:Int) (1099511627776:Int)).bind fun x12=>cond (!x12) (some (cD.out (Fl.done false))) (some (cD.next (IntKind.wrap .i64 (s8+(1:Int)))))) (some (cD.out (Fl.go ())))
noncomputable def gC (p0o:bP):Option Bool :=
 (gd ((!decide (p0o.Queue=([]:List UInt8)))==true) (jQ p0o.Queue)).bind fun x1=>cond (cond (cond (!decide (p0o.Queue=([]:List UInt8))) (!x1) false) true (decide ((64:Int)<((p0o.Fatal).length:Int)))) (some false) (((dO (iO p0o) ((0:Int))):Option (Fl Bool Unit)).bind fun x5=>Fl.next x5 (fun j7=>((gD p0o.Coef (0:Int) (10000:Int)).bind fun x20=>(gd (x20==true) (gD p0o.Attempts (0:Int) (1000:Int))).bind fun x22=>(gd ((cond x20 x22 false)==true) (cS p0o.Fatal)).bind fun x24=>some (cond (cond x20 x22 false) (!x24) false))))
theorem lV {p0o:bP}{res:Bool} (h:gC p0o=some res):bR Tryz.prog 130 [.agg (AV.cs (gA p0o))] [] (.c (.bool res)) []:=by
 unfold gC at h
 refine cP (fn:=Tryz.f130) [0,1,2,4,19,32,33,34,35,40] (by kernel_rfl) Tryz.func130 r (by kernel_rfl) (by kernel_rfl)<|aJ<|gH (v:=.agg bU) (n:=0) (cs:=bU) (σ':=[bU]) r r r r r<|sB r<|aF (fr':=[(1,.box 0 0)]) r r<|aN<|aJ<|aQ r (bF uR r)<|aQ r (aP (v:=aS) nV r r r)<|aQ r (yP r r)<|mB r ?_
 refine og r r r (fun hc=>(bF uR r))<|og r r r (fun hc=>(aP (v:=aS) nV (gx r hc) r r)) ?_
 obtain ⟨x1,hx1,h2⟩:=aE h
 refine vQ r r (fun hc=>bG (v:=aB) r (nB (cV hx1 hc)) ⟨(fK (gx r hc) lr),trivial⟩ (fT (by repeat (first | exact eK | refine aY r ?_ | refine aY (rI r) ?_ | refine aY rH ?_))) r r) ?_
 refine og r r r (fun hc=>(eU (gx r hc)))<|aQ r (bS r r r (fun e=>fG e))<|mB r<|og r r r (fun hc=>(bF mT r))<|og r r r (fun hc=>(aP (v:=aL) nA (gx r hc) r r))<|og r r r (fun hc=>(eX rZ (cZ (gx r hc))))<|og r r r (fun hc=>(nO (gx r hc) r))<|aQ r (cB r r r (fun e=>fG e))<|aF (fr':=[(1,.box 0 0),(19,aB)]) r r<|cC h2 r (fun hb3 h3=>?_) (fun hb3 h3=>?_)
 ·
  refine aJ<|sB r<|aF (fr':=[(2,aB)]) r r<|bE<|aK ?_
  obtain rfl:=sy h3
  exact bD (rs':=[.tmp 2]) r<|bL (v:=aB) r<|bC<|aR [] r r r lr aC
 ·
  refine bA<|bT<|aN<|aJ<|aQ r (bF aCG r)<|aQ r (aP (v:=aI) fC r r r)<|aQ r (bF aCH r)<|aQ r (aP (v:=aI) fC r r r)<|aQ r (bF aCI r)<|aQ r (aP (v:=aI) fC r r r)<|aQ r (bF aCJ r)<|aQ r (aP (v:=aI) fC r r r) ?_
  refine aQ r (bF aCK r)<|aQ r (aP (v:=aI) fC r r r)<|aQ r (bF aCM r)<|aQ r (aP (v:=aI) fC r r r)<|rP (row:=(aLa .i64)) (xs:=([p0o.ToStart,p0o.ToClose,p0o.Total,p0o.Beat,p0o.First,p0o.Most]:List Int)) (rows:=[[_],[_],[_],[_],[_],[_]]) (σ':=[bU]) [0] aLz r r r (fR r (fR r (fR r (fR r (fR r (fR r mD)))))) r r<|aQ r (eX aNA (qF r))<|mI r<|aF (fr':=[(1,.box 0 0),(32,aO),(33,aI),(34,aI)]) r r ?_
  obtain ⟨x5,hx5,h6⟩:=aE h3
  refine fI iV (fun j7=>x5=Fl.go j7) (fun (j7:Unit)=>([(1,.box 0 0)]:Fr)) (fun (j7:Unit)=>([[.c (.str p0o.Queue),ci p0o.ToStart,ci p0o.ToClose,ci p0o.Total,ci p0o.Beat,ci p0o.First,ci p0o.Coef,ci p0o.Most,ci p0o.Attempts,.c (PV.ls 1 fD p0o.Fatal)]]:St)) ?_ ?_
  ·
   refine bK<|fB _ (fun (s8:Int)=>([(1,.box 0 0),(32,AV.os 0 1 (aLa .i64) ([p0o.ToStart,p0o.ToClose,p0o.Total,p0o.Beat,p0o.First,p0o.Most]:List Int)),(33,ci ((([p0o.ToStart,p0o.ToClose,p0o.Total,p0o.Beat,p0o.First,p0o.Most]:List Int)).length:Int)),(34,ci s8)]:Fr)) (fun (s8:Int)=>([[.c (.str p0o.Queue),ci p0o.ToStart,ci p0o.ToClose,ci p0o.Total,ci p0o.Beat,ci p0o.First,ci p0o.Coef,ci p0o.Most,ci p0o.Attempts,.c (PV.ls 1 fD p0o.Fatal)]]:St)) hx5 (bJ [512] 1 r r r r ⟨lr,lr,lr,lr,trivial⟩ (cK r aC)) ?_
   intro s8 st8 hs8 ho8
   unfold iO at hs8
   refine aJ<|aQ r (dU r r)<|aF (fr':=[(1,.box 0 0),(32,aO),(33,aI),(34,aI),(35,aB)]) r r<|aN<|cC hs8 r (fun hb9 h9=>?_) (fun hb9 h9=>?_)
   ·
    refine bA<|bT<|aN<|bK<|aN<|aT ?_
    obtain ⟨x10,hx10,h11⟩:=aE h9
    refine aQ r (jS (cs:=[PV.int _ _]) aLz (qF r) r hx10 r)<|aQ r (fV (p:=PV.int _ _) fC r r)<|sI r<|aF (fr':=[(1,.box 0 0),(4,aI),(32,aO),(33,aI),(34,aI)]) r r<|aJ<|mI r ?_
    obtain ⟨x12,hx12,h13⟩:=aE h11
    refine jZ (bG (v:=aB) r (gL hx12) ⟨lr,lr,lr,trivial⟩ r r r)<|aQ r (eU r)<|aF (fr':=[(1,.box 0 0),(32,aO),(33,aI),(34,aI),(40,aB)]) r r<|cC h13 r (fun hb14 h14=>?_) (fun hb14 h14=>?_)
    ·
     refine aJ<|sB r<|aF (fr':=[(2,aB)]) r r<|bE<|bB<|aK<|aK<|bB<|aK<|aK ?_
     have h15:=dN h14 ho8
     have h16:=eA h15 h6
     obtain rfl:=sy h16
     exact bD (rs':=[.tmp 2]) r<|bL (v:=aB) r<|bC<|aR [] r r r lr aC
    ·
     exact bA<|cA<|bT<|aT<|aQ r (dR r r)<|mI r<|cI (fr':=[(1,.box 0 0),(32,aO),(33,aI),(34,aI),(40,aB)]) r<|xG _ (sy h14) (bJ [0] 1 r r r r ⟨lr,lr,lr,lr,trivial⟩ (cK r aC))
   ·
    refine fJ<|bY<|bY<|eC ?_
    have h18:=dN h9 ho8
    exact lF _ (sy h18) (bJ [] 1 r r r r ⟨lr,trivial⟩ (cK r aC))
  ·
   intro j7 hj19
   have h19:=kN hj19 h6
   refine bT<|aJ<|aQ r (bF aCL r)<|aQ r (aP (v:=aI) fC r r r) ?_
   obtain ⟨x20,hx20,h21⟩:=aE h19
   refine jZ (bG (v:=aB) r (gL hx20) ⟨lr,lr,lr,trivial⟩ r r r)<|mB r<|og r r r (fun hc=>(bF aCN r))<|og r r r (fun hc=>(aP (v:=aI) fC (gx r hc) r r)) ?_
   obtain ⟨x22,hx22,h23⟩:=aE h21
   refine vQ r r (fun hc=>bG (v:=aB) r (gL (cV hx22 hc)) ⟨(fK (gx r hc) lr),lr,lr,trivial⟩ (fT (by repeat (first | exact eK | refine aY r ?_ | refine aY (rI r) ?_ | refine aY rH ?_))) r r) ?_
   refine aQ r (bS r r r (fun e=>fG e))<|mB r<|og r r r (fun hc=>(bF mT r))<|og r r r (fun hc=>(aP (v:=aL) nA (gx r hc) r r)) ?_
   obtain ⟨x24,hx24,h25⟩:=aE h23
   refine vQ r r (fun hc=>bG (v:=aB) r (hP (cV hx24 hc)) ⟨(fK (gx r hc) lr),lr,trivial⟩ (fT (by repeat (first | exact eK | refine aY r ?_ | refine aY (rI r) ?_ | refine aY rH ?_))) r r) ?_
   refine og r r r (fun hc=>(eU (gx r hc)))<|aQ r (bS r r r (fun e=>fG e))<|sB r<|aF (fr':=[(2,aB)]) r r<|bE ?_
   obtain rfl:=sy h25
   exact bD (rs':=[.tmp 2]) r<|bL (v:=aB) r<|bC<|aR [] r r r lr aC
noncomputable def iH (cQ:bP):Option Unit :=
 some ()
theorem pD {cQ:bP}{res:Unit} (h:iH cQ=some res):bR Tryz.prog 146 [.box 0 0] [AV.cs (gA cQ)] (.ptrs [(0,1),(0,2),(0,3),(0,4),(0,5),(0,6),(0,7),(0,8)]) [AV.cs (gA cQ)]:=by
 unfold iH at h
 refine cP (fn:=Tryz.f146) [0,2] (by kernel_rfl) Tryz.func146 r (by kernel_rfl) (by kernel_rfl)<|aJ<|sV (v:=AV.nil) r<|aF (fr':=[(0,.box 0 0)]) r r<|aN<|gP [.q 0,.q 1,.q 2,.q 3,.q 4,.q 5,.q 6,.q 7,.q 8,.q 9,.q 10,.q 11,.q 12,.q 13,.q 14,.q 15,.q 16,.q 17,.q 18,.q 19,.q 20,.q 21,.q 22,.q 23,.n 24 [],.n 25 []] [(some 3,[0]),(some 4,[3]),(some 5,[4]),(some 6,[0]),(some 7,[6]),(some 8,[7]),(some 9,[0]),(some 10,[9]),(some 11,[10]),(some 12,[0]),(some 13,[12]),(some 14,[13]),(some 15,[0]),(some 16,[15]),(some 17,[16]),(some 18,[0]),(some 19,[18]),(some 20,[19]),(some 21,[0]),(some 22,[21]),(some 23,[22]),(some 24,[0]),(some 25,[24]),(some 26,[25]),(some 27,[5,8,11,14,17,20,23,26]),(some 2,[27])] [0,1,3,0,8,24,0,64,192,0,512,1536,0,4096,12288,0,32768,98304,0,262144,786432,0,2097152,6291456,16777215,33554431] (by kernel_rfl)<|dq r r (aU (v:=.box 0 0) r)<|dq r r (eQ r)<|dq r r (bF aCG r)<|dq r r (aU (v:=.box 0 0) r)<|dq r r (eQ r)<|dq r r (bF aCH r) ?_
 refine dq r r (aU (v:=.box 0 0) r)<|dq r r (eQ r)<|dq r r (bF aCI r)<|dq r r (aU (v:=.box 0 0) r)<|dq r r (eQ r)<|dq r r (bF aCJ r)<|dq r r (aU (v:=.box 0 0) r)<|dq r r (eQ r)<|dq r r (bF aCK r)<|dq r r (aU (v:=.box 0 0) r)<|dq r r (eQ r)<|dq r r (bF aCL r)<|dq r r (aU (v:=.box 0 0) r) ?_
 refine dq r r (eQ r)<|dq r r (bF aCM r)<|dq r r (aU (v:=.box 0 0) r)<|dq r r (eQ r)<|dq r r (bF aCN r)<|d_n r ?_ r
 refine aGX (l:=[(0,1),(0,2),(0,3),(0,4),(0,5),(0,6),(0,7),(0,8)]) kA r r r r<|aCn<|⟨rT,?_⟩
 refine d_n r ?_ r
 refine sV (v:=.ptrs [(0,1),(0,2),(0,3),(0,4),(0,5),(0,6),(0,7),(0,8)]) r<|aCn<|⟨rT,?_⟩
 refine tB (fr':=[(2,.ptrs [(0,1),(0,2),(0,3),(0,4),(0,5),(0,6),(0,7),(0,8)])]) r r<|bE ?_
 obtain rfl:=sy h
 exact bD (rs':=[.tmp 2]) r<|bL (v:=.ptrs [(0,1),(0,2),(0,3),(0,4),(0,5),(0,6),(0,7),(0,8)]) r<|bC<|aHx [] r r r lr (cK r aC)
noncomputable def lX (p1o:bP) (s31:((List UInt8) × Int)):Option (cD ((List UInt8) × Int) (List UInt8)) :=
 cond (decide (s31.2<((p1o.Fatal).length:Int))) ((gR p1o.Fatal s31.2).bind fun x33=>(gM s31.1 x33).bind fun x35=>some (cD.next (x35,(IntKind.wrap .i64 (s31.2+(1:Int)))))) (some (cD.out s31.1))
noncomputable def mG (p0b:(List UInt8)) (p1o:bP):Option (List UInt8) :=
 (gM p0b p1o.Queue).bind fun x1=>(iH p1o).bind fun x3=>(eP x1 p1o.ToStart).bind fun x6=>(eP x6 p1o.ToClose).bind fun x8=>(eP x8 p1o.Total).bind fun x11=>(eP x11 p1o.Beat).bind fun x13=>(eP x13 p1o.First).bind fun x16=>(eP x16 p1o.Coef).bind fun x18=>(eP x18 p1o.Most).bind fun x21=>(eP x21 p1o.Attempts).bind fun x23=>(eP x23 ((p1o.Fatal).length:Int)).bind fun x26=>((dO (lX p1o) ((x26,(0:Int)))):Option (List UInt8)).bind fun x28=>(some x28)
theorem aAX {p0b:(List UInt8)}{p1o:bP}{res:(List UInt8)} (h:mG p0b p1o=some res):bR Tryz.prog 131 [.c (PV.ls 1 eD p0b),.agg (AV.cs (gA p1o))] [] (AV.os 0 1 eD res) []:=by
 unfold mG at h
 refine cP (fn:=Tryz.f131) [0,1,3,4,6,8,13,14,15,16,31,32,33,34] (by kernel_rfl) Tryz.func131 r (by kernel_rfl) (by kernel_rfl)<|aJ<|gH (v:=.agg bU) (n:=0) (cs:=bU) (σ':=[bU]) r r r r r<|sV (v:=AV.nil) r<|aF (fr':=[(0,aL),(3,.box 0 0)]) r r<|aJ<|mL r<|aQ r (bF uR r)<|aQ r (aP (v:=aS) nV r r r) ?_
 obtain ⟨x1,hx1,h2⟩:=aE h
 refine jZ (bG (v:=aO) r (kP hx1) ⟨lr,lr,trivial⟩ r r r)<|sV (v:=aO) r<|aF (fr':=[(0,aO),(3,.box 0 0)]) r r<|aN<|aN<|aT ?_
 obtain ⟨x3,hx3,h4⟩:=aE h2
 refine sU (v:=.ptrs [(0,1),(0,2),(0,3),(0,4),(0,5),(0,6),(0,7),(0,8)]) (σ':=[bU]) 13 [0] [] r (pD hx3) r r r ⟨lr,trivial⟩ (eM ⟨r,r,r,r,r,r,r,r,r,r,trivial⟩ aC) r r r<|aQ r (aED aLx r)<|mI r<|aF (fr':=[(0,aO),(3,.box 0 0),(13,.ptrs [(0,1),(0,2),(0,3),(0,4),(0,5),(0,6),(0,7),(0,8)]),(14,aI),(15,aI)]) r r<|bK<|aHX 64<|mN<|aJ<|aQ r (nH (dU r r) (show _=.bool true from r))<|aF (fr':=[(0,aO),(3,.box 0 0),(13,.ptrs [(0,1),(0,2),(0,3),(0,4),(0,5),(0,6),(0,7),(0,8)]),(14,aI),(15,aI),(16,aB)]) r r<|aN<|eL r ?_
 refine bA<|bT<|aN<|bK<|aJ<|aQ r (gJ (p:=(0,1)) kA r r r)<|aQ r (eE kY r)<|sV (v:=.box 0 1) r<|aF (fr':=[(0,aO),(3,.box 0 0),(6,.box 0 1),(13,.ptrs [(0,1),(0,2),(0,3),(0,4),(0,5),(0,6),(0,7),(0,8)]),(14,aI),(15,aI)]) r r<|aT<|mV (v:=aO) r<|mV (v:=.box 0 1) r ?_
 refine aQ r (eQ r)<|aQ r (aP (v:=aI) fC r r r) ?_
 obtain ⟨x6,hx6,h7⟩:=aE h4
 refine jZ (bG (v:=aO) r (eY hx6) ⟨lr,lr,trivial⟩ r r r)<|sV (v:=aO) r<|cI (fr':=[(0,aO),(3,.box 0 0),(6,.box 0 1),(13,.ptrs [(0,1),(0,2),(0,3),(0,4),(0,5),(0,6),(0,7),(0,8)]),(14,aI),(15,aI)]) r<|cA<|bT<|aT<|aQ r (nH (dR r r) (show _=.int .i64 (1:Int) from r))<|mI r<|cI (fr':=[(0,aO),(3,.box 0 0),(6,.box 0 1),(13,.ptrs [(0,1),(0,2),(0,3),(0,4),(0,5),(0,6),(0,7),(0,8)]),(14,aI),(15,aI)]) r<|fM<|mN<|aN<|aT ?_
 refine aQ r (nH (dU r r) (show _=.bool true from r))<|aF (fr':=[(0,aO),(3,.box 0 0),(13,.ptrs [(0,1),(0,2),(0,3),(0,4),(0,5),(0,6),(0,7),(0,8)]),(14,aI),(15,aI),(16,aB)]) r r<|aN<|eL r<|bA<|bT<|aN<|bK<|aJ<|aQ r (gJ (p:=(0,2)) kA r r r)<|aQ r (eE kY r)<|sV (v:=.box 0 2) r ?_
 refine aF (fr':=[(0,aO),(3,.box 0 0),(6,.box 0 2),(13,.ptrs [(0,1),(0,2),(0,3),(0,4),(0,5),(0,6),(0,7),(0,8)]),(14,aI),(15,aI)]) r r<|aT<|mV (v:=aO) r<|mV (v:=.box 0 2) r<|aQ r (eQ r)<|aQ r (aP (v:=aI) fC r r r) ?_
 obtain ⟨x8,hx8,h9⟩:=aE h7
 refine sU (v:=aO) (σ':=[bU]) 50010 [] [] r (eY hx8) r r r ⟨lr,lr,trivial⟩ aC r r r<|sV (v:=aO) r<|cI (fr':=[(0,aO),(3,.box 0 0),(6,.box 0 2),(13,.ptrs [(0,1),(0,2),(0,3),(0,4),(0,5),(0,6),(0,7),(0,8)]),(14,aI),(15,aI)]) r<|cA<|bT<|aT<|aQ r (nH (dR r r) (show _=.int .i64 (2:Int) from r))<|mI r<|cI (fr':=[(0,aO),(3,.box 0 0),(6,.box 0 2),(13,.ptrs [(0,1),(0,2),(0,3),(0,4),(0,5),(0,6),(0,7),(0,8)]),(14,aI),(15,aI)]) r<|fM<|mN<|aN<|aT ?_
 refine aQ r (nH (dU r r) (show _=.bool true from r))<|aF (fr':=[(0,aO),(3,.box 0 0),(13,.ptrs [(0,1),(0,2),(0,3),(0,4),(0,5),(0,6),(0,7),(0,8)]),(14,aI),(15,aI),(16,aB)]) r r<|aN<|eL r<|bA<|bT<|aN<|bK<|aJ<|aQ r (gJ (p:=(0,3)) kA r r r)<|aQ r (eE kY r)<|sV (v:=.box 0 3) r ?_
 refine aF (fr':=[(0,aO),(3,.box 0 0),(6,.box 0 3),(13,.ptrs [(0,1),(0,2),(0,3),(0,4),(0,5),(0,6),(0,7),(0,8)]),(14,aI),(15,aI)]) r r<|aT<|mV (v:=aO) r<|mV (v:=.box 0 3) r<|aQ r (eQ r)<|aQ r (aP (v:=aI) fC r r r) ?_
 obtain ⟨x11,hx11,h12⟩:=aE h9
 refine jZ (bG (v:=aO) r (eY hx11) ⟨lr,lr,trivial⟩ r r r)<|sV (v:=aO) r<|cI (fr':=[(0,aO),(3,.box 0 0),(6,.box 0 3),(13,.ptrs [(0,1),(0,2),(0,3),(0,4),(0,5),(0,6),(0,7),(0,8)]),(14,aI),(15,aI)]) r<|cA<|bT<|aT<|aQ r (nH (dR r r) (show _=.int .i64 (3:Int) from r))<|mI r<|cI (fr':=[(0,aO),(3,.box 0 0),(6,.box 0 3),(13,.ptrs [(0,1),(0,2),(0,3),(0,4),(0,5),(0,6),(0,7),(0,8)]),(14,aI),(15,aI)]) r<|fM<|mN<|aN<|aT ?_
 refine aQ r (nH (dU r r) (show _=.bool true from r))<|aF (fr':=[(0,aO),(3,.box 0 0),(13,.ptrs [(0,1),(0,2),(0,3),(0,4),(0,5),(0,6),(0,7),(0,8)]),(14,aI),(15,aI),(16,aB)]) r r<|aN<|eL r<|bA<|bT<|aN<|bK<|aJ<|aQ r (gJ (p:=(0,4)) kA r r r)<|aQ r (eE kY r)<|sV (v:=.box 0 4) r ?_
 refine aF (fr':=[(0,aO),(3,.box 0 0),(6,.box 0 4),(13,.ptrs [(0,1),(0,2),(0,3),(0,4),(0,5),(0,6),(0,7),(0,8)]),(14,aI),(15,aI)]) r r<|aT<|mV (v:=aO) r<|mV (v:=.box 0 4) r<|aQ r (eQ r)<|aQ r (aP (v:=aI) fC r r r) ?_
 obtain ⟨x13,hx13,h14⟩:=aE h12
 refine sU (v:=aO) (σ':=[bU]) 50015 [] [] r (eY hx13) r r r ⟨lr,lr,trivial⟩ aC r r r<|sV (v:=aO) r<|cI (fr':=[(0,aO),(3,.box 0 0),(6,.box 0 4),(13,.ptrs [(0,1),(0,2),(0,3),(0,4),(0,5),(0,6),(0,7),(0,8)]),(14,aI),(15,aI)]) r<|cA<|bT<|aT<|aQ r (nH (dR r r) (show _=.int .i64 (4:Int) from r))<|mI r<|cI (fr':=[(0,aO),(3,.box 0 0),(6,.box 0 4),(13,.ptrs [(0,1),(0,2),(0,3),(0,4),(0,5),(0,6),(0,7),(0,8)]),(14,aI),(15,aI)]) r<|fM<|mN<|aN<|aT ?_
 refine aQ r (nH (dU r r) (show _=.bool true from r))<|aF (fr':=[(0,aO),(3,.box 0 0),(13,.ptrs [(0,1),(0,2),(0,3),(0,4),(0,5),(0,6),(0,7),(0,8)]),(14,aI),(15,aI),(16,aB)]) r r<|aN<|eL r<|bA<|bT<|aN<|bK<|aJ<|aQ r (gJ (p:=(0,5)) kA r r r)<|aQ r (eE kY r)<|sV (v:=.box 0 5) r ?_
 refine aF (fr':=[(0,aO),(3,.box 0 0),(6,.box 0 5),(13,.ptrs [(0,1),(0,2),(0,3),(0,4),(0,5),(0,6),(0,7),(0,8)]),(14,aI),(15,aI)]) r r<|aT<|mV (v:=aO) r<|mV (v:=.box 0 5) r<|aQ r (eQ r)<|aQ r (aP (v:=aI) fC r r r) ?_
 obtain ⟨x16,hx16,h17⟩:=aE h14
 refine jZ (bG (v:=aO) r (eY hx16) ⟨lr,lr,trivial⟩ r r r)<|sV (v:=aO) r<|cI (fr':=[(0,aO),(3,.box 0 0),(6,.box 0 5),(13,.ptrs [(0,1),(0,2),(0,3),(0,4),(0,5),(0,6),(0,7),(0,8)]),(14,aI),(15,aI)]) r<|cA<|bT<|aT<|aQ r (nH (dR r r) (show _=.int .i64 (5:Int) from r))<|mI r<|cI (fr':=[(0,aO),(3,.box 0 0),(6,.box 0 5),(13,.ptrs [(0,1),(0,2),(0,3),(0,4),(0,5),(0,6),(0,7),(0,8)]),(14,aI),(15,aI)]) r<|fM<|mN<|aN<|aT ?_
 refine aQ r (nH (dU r r) (show _=.bool true from r))<|aF (fr':=[(0,aO),(3,.box 0 0),(13,.ptrs [(0,1),(0,2),(0,3),(0,4),(0,5),(0,6),(0,7),(0,8)]),(14,aI),(15,aI),(16,aB)]) r r<|aN<|eL r<|bA<|bT<|aN<|bK<|aJ<|aQ r (gJ (p:=(0,6)) kA r r r)<|aQ r (eE kY r)<|sV (v:=.box 0 6) r ?_
 refine aF (fr':=[(0,aO),(3,.box 0 0),(6,.box 0 6),(13,.ptrs [(0,1),(0,2),(0,3),(0,4),(0,5),(0,6),(0,7),(0,8)]),(14,aI),(15,aI)]) r r<|aT<|mV (v:=aO) r<|mV (v:=.box 0 6) r<|aQ r (eQ r)<|aQ r (aP (v:=aI) fC r r r) ?_
 obtain ⟨x18,hx18,h19⟩:=aE h17
 refine sU (v:=aO) (σ':=[bU]) 50020 [] [] r (eY hx18) r r r ⟨lr,lr,trivial⟩ aC r r r<|sV (v:=aO) r<|cI (fr':=[(0,aO),(3,.box 0 0),(6,.box 0 6),(13,.ptrs [(0,1),(0,2),(0,3),(0,4),(0,5),(0,6),(0,7),(0,8)]),(14,aI),(15,aI)]) r<|cA<|bT<|aT<|aQ r (nH (dR r r) (show _=.int .i64 (6:Int) from r))<|mI r<|cI (fr':=[(0,aO),(3,.box 0 0),(6,.box 0 6),(13,.ptrs [(0,1),(0,2),(0,3),(0,4),(0,5),(0,6),(0,7),(0,8)]),(14,aI),(15,aI)]) r<|fM<|mN<|aN<|aT ?_
 refine aQ r (nH (dU r r) (show _=.bool true from r))<|aF (fr':=[(0,aO),(3,.box 0 0),(13,.ptrs [(0,1),(0,2),(0,3),(0,4),(0,5),(0,6),(0,7),(0,8)]),(14,aI),(15,aI),(16,aB)]) r r<|aN<|eL r<|bA<|bT<|aN<|bK<|aJ<|aQ r (gJ (p:=(0,7)) kA r r r)<|aQ r (eE kY r)<|sV (v:=.box 0 7) r ?_
 refine aF (fr':=[(0,aO),(3,.box 0 0),(6,.box 0 7),(13,.ptrs [(0,1),(0,2),(0,3),(0,4),(0,5),(0,6),(0,7),(0,8)]),(14,aI),(15,aI)]) r r<|aT<|mV (v:=aO) r<|mV (v:=.box 0 7) r<|aQ r (eQ r)<|aQ r (aP (v:=aI) fC r r r) ?_
 obtain ⟨x21,hx21,h22⟩:=aE h19
 refine jZ (bG (v:=aO) r (eY hx21) ⟨lr,lr,trivial⟩ r r r)<|sV (v:=aO) r<|cI (fr':=[(0,aO),(3,.box 0 0),(6,.box 0 7),(13,.ptrs [(0,1),(0,2),(0,3),(0,4),(0,5),(0,6),(0,7),(0,8)]),(14,aI),(15,aI)]) r<|cA<|bT<|aT<|aQ r (nH (dR r r) (show _=.int .i64 (7:Int) from r))<|mI r<|cI (fr':=[(0,aO),(3,.box 0 0),(6,.box 0 7),(13,.ptrs [(0,1),(0,2),(0,3),(0,4),(0,5),(0,6),(0,7),(0,8)]),(14,aI),(15,aI)]) r<|fM<|mN<|aN<|aT ?_
 refine aQ r (nH (dU r r) (show _=.bool true from r))<|aF (fr':=[(0,aO),(3,.box 0 0),(13,.ptrs [(0,1),(0,2),(0,3),(0,4),(0,5),(0,6),(0,7),(0,8)]),(14,aI),(15,aI),(16,aB)]) r r<|aN<|eL r<|bA<|bT<|aN<|bK<|aJ<|aQ r (gJ (p:=(0,8)) kA r r r)<|aQ r (eE kY r)<|sV (v:=.box 0 8) r ?_
 refine aF (fr':=[(0,aO),(3,.box 0 0),(6,.box 0 8),(13,.ptrs [(0,1),(0,2),(0,3),(0,4),(0,5),(0,6),(0,7),(0,8)]),(14,aI),(15,aI)]) r r<|aT<|mV (v:=aO) r<|mV (v:=.box 0 8) r<|aQ r (eQ r)<|aQ r (aP (v:=aI) fC r r r) ?_
 obtain ⟨x23,hx23,h24⟩:=aE h22
 refine sU (v:=aO) (σ':=[bU]) 50025 [] [] r (eY hx23) r r r ⟨lr,lr,trivial⟩ aC r r r<|sV (v:=aO) r<|cI (fr':=[(0,aO),(3,.box 0 0),(6,.box 0 8),(13,.ptrs [(0,1),(0,2),(0,3),(0,4),(0,5),(0,6),(0,7),(0,8)]),(14,aI),(15,aI)]) r<|cA<|bT<|aT<|aQ r (nH (dR r r) (show _=.int .i64 (8:Int) from r))<|mI r<|cI (fr':=[(0,aO),(3,.box 0 0),(6,.box 0 8),(13,.ptrs [(0,1),(0,2),(0,3),(0,4),(0,5),(0,6),(0,7),(0,8)]),(14,aI),(15,aI)]) r<|fM<|mN<|aN<|aT ?_
 refine aQ r (nH (dU r r) (show _=.bool false from r))<|aF (fr':=[(0,aO),(3,.box 0 0),(13,.ptrs [(0,1),(0,2),(0,3),(0,4),(0,5),(0,6),(0,7),(0,8)]),(14,aI),(15,aI),(16,aB)]) r r<|aN<|wZ r<|fJ<|bY<|bY<|eC<|bT<|aJ<|mV (v:=aO) r<|aQ r (bF mT r) ?_
 refine aQ r (aP (v:=aL) nA r r r)<|aQ r (eX rZ (cZ r)) ?_
 obtain ⟨x26,hx26,h27⟩:=aE h24
 refine jZ (bG (v:=aO) r (eY hx26) ⟨lr,lr,trivial⟩ r r r)<|sV (v:=aO) r<|aF (fr':=[(0,aO),(3,.box 0 0)]) r r<|aN<|aJ<|aQ r (bF mT r)<|aQ r (aP (v:=aL) nA r r r)<|aQ r (eX rZ (cZ r))<|mI r<|aF (fr':=[(0,aO),(31,aL),(32,aI),(33,aI)]) r r ?_
 obtain ⟨x28,hx28,h29⟩:=aE h27
 refine fI iV (fun j30=>x28=j30) (fun (j30:(List UInt8))=>([(0,AV.os 0 1 eD j30)]:Fr)) (fun (j30:(List UInt8))=>([[.c (.str p1o.Queue),ci p1o.ToStart,ci p1o.ToClose,ci p1o.Total,ci p1o.Beat,ci p1o.First,ci p1o.Coef,ci p1o.Most,ci p1o.Attempts,.c (PV.ls 1 fD p1o.Fatal)]]:St)) ?_ ?_
 ·
  refine bK<|fB _ (fun (s31:((List UInt8) × Int))=>([(0,AV.os 0 1 eD s31.1),(31,.c (PV.ls 1 fD p1o.Fatal)),(32,ci ((p1o.Fatal).length:Int)),(33,ci s31.2)]:Fr)) (fun (s31:((List UInt8) × Int))=>([[.c (.str p1o.Queue),ci p1o.ToStart,ci p1o.ToClose,ci p1o.Total,ci p1o.Beat,ci p1o.First,ci p1o.Coef,ci p1o.Most,ci p1o.Attempts,.c (PV.ls 1 fD p1o.Fatal)]]:St)) hx28 (bJ [464] 1 r r r r ⟨lr,lr,lr,lr,trivial⟩ (cK r aC)) ?_
  intro s31 st31 hs31 ho31
  unfold lX at hs31
  refine aJ<|aQ r (dU r r)<|aF (fr':=[(0,aO),(31,aL),(32,aI),(33,aI),(34,aB)]) r r<|aN<|cC hs31 r (fun hb32 h32=>?_) (fun hb32 h32=>?_)
  ·
   refine bA<|bT<|aN<|bK<|aN<|aT ?_
   obtain ⟨x33,hx33,h34⟩:=aE h32
   refine aQ r (jS (cs:=[PV.str _]) uW (cZ r) r hx33 r)<|aQ r (fV (p:=PV.str _) nV r r)<|sS r<|aF (fr':=[(0,aO),(8,aS),(31,aL),(32,aI),(33,aI)]) r r<|aT<|mV (v:=aO) r<|mS r ?_
   obtain ⟨x35,hx35,h36⟩:=aE h34
   exact jZ (bG (v:=aO) r (kP hx35) ⟨lr,lr,trivial⟩ r r r)<|sV (v:=aO) r<|cI (fr':=[(0,aO),(8,aS),(31,aL),(32,aI),(33,aI)]) r<|cA<|bT<|aT<|aQ r (dR r r)<|mI r<|cI (fr':=[(0,aO),(8,aS),(31,aL),(32,aI),(33,aI)]) r<|xG _ (sy h36) (bJ [624] 1 r r r r ⟨lr,lr,lr,lr,trivial⟩ (cK r aC))
  ·
   refine fJ<|bY<|bY<|eC ?_
   have h37:=dN h32 ho31
   exact lF _ (sy h37) (bJ [0] 1 r r r r ⟨lr,trivial⟩ (cK r aC))
 ·
  intro j30 hj38
  subst hj38
  refine bT<|aJ<|mV (v:=aO) r<|sV (v:=aO) r<|aF (fr':=[(4,aO)]) r r<|bE ?_
  obtain rfl:=sy h29
  exact bD (rs':=[.tmp 4]) r<|bL (v:=aO) r<|bC<|aR [0] r r r lr aC
noncomputable def hZ (p0b:(List UInt8)) (p1o:bP):Option (List UInt8) :=
 (eV p0b).bind fun x1=>(gC p1o).bind fun x3=>cond (!x3) (some x1) ((mG x1 p1o).bind fun x7=>some x7)
theorem vD {p0b:(List UInt8)}{p1o:bP}{res:(List UInt8)} (h:hZ p0b p1o=some res):bR Tryz.prog 56 [.c (PV.ls 1 eD p0b),.agg (AV.cs (gA p1o))] [] (AV.os 0 1 eD res) []:=by
 unfold hZ at h
 refine cP (fn:=Tryz.f56) [0,1,3,4,5,10] (by kernel_rfl) Tryz.func56 r (by kernel_rfl) (by kernel_rfl)<|aJ<|gH (v:=.agg bU) (n:=0) (cs:=bU) (σ':=[bU]) r r r r r<|sV (v:=AV.nil) r<|aF (fr':=[(0,aL),(3,.box 0 0)]) r r<|aJ<|mL r ?_
 obtain ⟨x1,hx1,h2⟩:=aE h
 refine jZ (bG (v:=aO) r (hG hx1) ⟨lr,trivial⟩ r r r)<|sV (v:=aO) r<|aF (fr':=[(3,.box 0 0),(5,aO)]) r r<|aN<|aJ<|aQ r (dF (us:=bU) xQ r r r r) ?_
 obtain ⟨x3,hx3,h4⟩:=aE h2
 refine jZ (bG (v:=aB) r (lV hx3) ⟨(bM r ⟨r,r,r,r,r,r,r,r,r,r,trivial⟩),trivial⟩ r r r)<|aQ r (eU r)<|aF (fr':=[(3,.box 0 0),(5,aO),(10,aB)]) r r<|cC h4 r (fun hb5 h5=>?_) (fun hb5 h5=>?_)
 ·
  refine aJ<|mV (v:=aO) r<|sV (v:=aO) r<|aF (fr':=[(4,aO)]) r r<|bE<|aK ?_
  obtain rfl:=sy h5
  exact bD (rs':=[.tmp 4]) r<|bL (v:=aO) r<|bC<|aR [112] r r r lr aC
 ·
  refine bA<|bT<|aJ<|mV (v:=aO) r<|aQ r (dF (us:=bU) xQ r r r r) ?_
  obtain ⟨x7,hx7,h8⟩:=aE h5
  refine jZ (bG (v:=aO) r (aAX hx7) ⟨lr,(bM r ⟨r,r,r,r,r,r,r,r,r,r,trivial⟩),trivial⟩ r r r)<|sV (v:=aO) r<|aF (fr':=[(4,aO)]) r r<|bE ?_
  obtain rfl:=sy h8
  exact bD (rs':=[.tmp 4]) r<|bL (v:=aO) r<|bC<|aR [224] r r r lr aC
noncomputable def iK (p1e:aV) (s4:((List UInt8) × Int)):Option (cD ((List UInt8) × Int) (List UInt8)) :=
 cond (decide (s4.2<((([p1e.ID,p1e.Kind,p1e.Time,p1e.Seq,p1e.Ref,p1e.N,p1e.Code]:List Int)).length:Int))) ((gR ([p1e.ID,p1e.Kind,p1e.Time,p1e.Seq,p1e.Ref,p1e.N,p1e.Code]:List Int) s4.2).bind fun x6=>(eP s4.1 x6).bind fun x8=>some (cD.next (x8,(IntKind.wrap .i64 (s4.2+(1:Int)))))) (some (cD.out s4.1))
noncomputable def kI (p0b:(List UInt8)) (p1e:aV):Option (List UInt8) :=
 ((dO (iK p1e) ((p0b,(0:Int)))):Option (List UInt8)).bind fun x1=>((gM x1 p1e.Name).bind fun x12=>(gM x12 p1e.Key).bind fun x14=>(oZ x14 p1e.Data).bind fun x16=>(hZ x16 p1e.Opts).bind fun x18=>some x18)
theorem zC {p0b:(List UInt8)}{p1e:aV}{res:(List UInt8)} (h:kI p0b p1e=some res):bR Tryz.prog 18 [.c (PV.ls 1 eD p0b),.agg (AV.cs (bZ p1e))] [] (AV.os 0 1 eD res) []:=by
 unfold kI at h
 refine cP (fn:=Tryz.f18) [0,1,3,4,6,21,22,23,24] (by kernel_rfl) Tryz.func18 r (by kernel_rfl) (by kernel_rfl)<|aJ<|gH (v:=.agg aH) (n:=0) (cs:=aH) (σ':=[aH]) r r r r r<|sV (v:=AV.nil) r<|aF (fr':=[(0,aL),(3,.box 0 0)]) r r<|aN<|aJ<|aQ r (bF aCO r)<|aQ r (aP (v:=aI) fC r r r)<|aQ r (bF wP r)<|aQ r (aP (v:=aI) fC r r r) ?_
 refine aQ r (bF aCP r)<|aQ r (aP (v:=aI) fC r r r)<|aQ r (bF yV r)<|aQ r (aP (v:=aI) fC r r r)<|aQ r (bF wQ r)<|aQ r (aP (v:=aI) fC r r r)<|aQ r (bF uS r)<|aQ r (aP (v:=aI) fC r r r)<|aQ r (bF wR r)<|aQ r (aP (v:=aI) fC r r r)<|rP (row:=(aLa .i64)) (xs:=([p1e.ID,p1e.Kind,p1e.Time,p1e.Seq,p1e.Ref,p1e.N,p1e.Code]:List Int)) (rows:=[[_],[_],[_],[_],[_],[_],[_]]) (σ':=[aH]) [0] aLz r r r (fR r (fR r (fR r (fR r (fR r (fR r (fR r mD))))))) r r<|aQ r (eX aNA (qF r))<|mI r ?_
 refine aF (fr':=[(0,aL),(3,.box 0 0),(21,aO),(22,aI),(23,aI)]) r r ?_
 obtain ⟨x1,hx1,h2⟩:=aE h
 refine fI iV (fun j3=>x1=j3) (fun (j3:(List UInt8))=>([(0,.c (PV.ls 1 eD j3)),(3,.box 0 0)]:Fr)) (fun (j3:(List UInt8))=>([[ci p1e.ID,ci p1e.Kind,ci p1e.Time,ci p1e.Seq,ci p1e.Ref,ci p1e.N,ci p1e.Code,.c (.str p1e.Name),.c (.str p1e.Key),ci p1e.Data.Kind,ci p1e.Data.Int,.c (.str p1e.Data.Text),.c (PV.ls 5 aZ p1e.Data.Items),.c (PV.ls 1 fD p1e.Data.Keys),.c (.str p1e.Opts.Queue),ci p1e.Opts.ToStart,ci p1e.Opts.ToClose,ci p1e.Opts.Total,ci p1e.Opts.Beat,ci p1e.Opts.First,ci p1e.Opts.Coef,ci p1e.Opts.Most,ci p1e.Opts.Attempts,.c (PV.ls 1 fD p1e.Opts.Fatal)]]:St)) ?_ ?_
 ·
  refine bK<|fB _ (fun (s4:((List UInt8) × Int))=>([(0,.c (PV.ls 1 eD s4.1)),(3,.box 0 0),(21,AV.os 0 1 (aLa .i64) ([p1e.ID,p1e.Kind,p1e.Time,p1e.Seq,p1e.Ref,p1e.N,p1e.Code]:List Int)),(22,ci ((([p1e.ID,p1e.Kind,p1e.Time,p1e.Seq,p1e.Ref,p1e.N,p1e.Code]:List Int)).length:Int)),(23,ci s4.2)]:Fr)) (fun (s4:((List UInt8) × Int))=>([[ci p1e.ID,ci p1e.Kind,ci p1e.Time,ci p1e.Seq,ci p1e.Ref,ci p1e.N,ci p1e.Code,.c (.str p1e.Name),.c (.str p1e.Key),ci p1e.Data.Kind,ci p1e.Data.Int,.c (.str p1e.Data.Text),.c (PV.ls 5 aZ p1e.Data.Items),.c (PV.ls 1 fD p1e.Data.Keys),.c (.str p1e.Opts.Queue),ci p1e.Opts.ToStart,ci p1e.Opts.ToClose,ci p1e.Opts.Total,ci p1e.Opts.Beat,ci p1e.Opts.First,ci p1e.Opts.Coef,ci p1e.Opts.Most,ci p1e.Opts.Attempts,.c (PV.ls 1 fD p1e.Opts.Fatal)]]:St)) hx1 (bJ [336] 1 r r r r ⟨lr,lr,lr,lr,lr,trivial⟩ (cK r aC)) ?_
  intro s4 st4 hs4 ho4
  unfold iK at hs4
  refine aJ<|aQ r (dU r r)<|aF (fr':=[(0,aL),(3,.box 0 0),(21,aO),(22,aI),(23,aI),(24,aB)]) r r<|aN<|cC hs4 r (fun hb5 h5=>?_) (fun hb5 h5=>?_)
  ·
   refine bA<|bT<|aN<|bK<|aN<|aT ?_
   obtain ⟨x6,hx6,h7⟩:=aE h5
   refine aQ r (jS (cs:=[PV.int _ _]) aLz (qF r) r hx6 r)<|aQ r (fV (p:=PV.int _ _) fC r r)<|sI r<|aF (fr':=[(0,aL),(3,.box 0 0),(6,aI),(21,aO),(22,aI),(23,aI)]) r r<|aT<|mL r<|mI r ?_
   obtain ⟨x8,hx8,h9⟩:=aE h7
   exact jZ (bG (v:=aO) r (eY hx8) ⟨lr,lr,trivial⟩ r r r)<|sV (v:=aO) r<|cI (fr':=[(0,aO),(3,.box 0 0),(6,aI),(21,aO),(22,aI),(23,aI)]) r<|cA<|bT<|aT<|aQ r (dR r r)<|mI r<|cI (fr':=[(0,aO),(3,.box 0 0),(6,aI),(21,aO),(22,aI),(23,aI)]) r<|xG _ (sy h9) (bJ [0] 1 r r r r ⟨lr,lr,lr,lr,lr,trivial⟩ (cK r aC))
  ·
   refine fJ<|bY<|bY<|eC ?_
   have h10:=dN h5 ho4
   exact lF _ (sy h10) (bJ [] 1 r r r r ⟨lr,lr,trivial⟩ (cK r aC))
 ·
  intro j3 hj11
  subst hj11
  refine bT<|aJ<|mL r<|aQ r (bF rX r)<|aQ r (aP (v:=aS) nV r r r) ?_
  obtain ⟨x12,hx12,h13⟩:=aE h2
  refine jZ (bG (v:=aO) r (kP hx12) ⟨lr,lr,trivial⟩ r r r)<|sV (v:=aO) r<|aF (fr':=[(0,aO),(3,.box 0 0)]) r r<|aJ<|mV (v:=aO) r<|aQ r (bF rY r)<|aQ r (aP (v:=aS) nV r r r) ?_
  obtain ⟨x14,hx14,h15⟩:=aE h13
  refine jZ (bG (v:=aO) r (kP hx14) ⟨lr,lr,trivial⟩ r r r)<|sV (v:=aO) r<|aF (fr':=[(0,aO),(3,.box 0 0)]) r r<|aJ<|mV (v:=aO) r<|aQ r (bF uT r)<|aQ r (dF (us:=bI) fQ r r r r) ?_
  obtain ⟨x16,hx16,h17⟩:=aE h15
  refine jZ (bG (v:=aO) r (aCZ hx16) ⟨lr,(bM r ⟨r,r,r,r,r,trivial⟩),trivial⟩ r r r)<|sV (v:=aO) r<|aF (fr':=[(0,aO),(3,.box 0 0)]) r r<|aJ<|mV (v:=aO) r<|aQ r (bF rB r)<|aQ r (dF (us:=bU) xQ r r r r) ?_
  obtain ⟨x18,hx18,h19⟩:=aE h17
  refine jZ (bG (v:=aO) r (vD hx18) ⟨lr,(bM r ⟨r,r,r,r,r,r,r,r,r,r,trivial⟩),trivial⟩ r r r)<|sV (v:=aO) r<|aF (fr':=[(4,aO)]) r r<|bE ?_
  obtain rfl:=sy h19
  exact bD (rs':=[.tmp 4]) r<|bL (v:=aO) r<|bC<|aR [736] r r r lr aC
noncomputable def oY (aBo:aD→Option Int) (p0v:aD) (s4:(Int × Int)):Option (cD (Int × Int) Int) :=
 cond (decide (s4.2<((p0v.Items).length:Int))) ((gR p0v.Items s4.2).bind fun x6=>(aBo x6).bind fun x8=>some (cD.next ((if x8 > s4.1 then x8 else s4.1),(IntKind.wrap .i64 (s4.2+(1:Int)))))) (some (cD.out s4.1))
noncomputable def lA:Nat→aD→Option Int
 | 0,_=>none
 | n+1,p0v =>
  ((dO (oY (lA n) p0v) (((0:Int),(0:Int)))):Option Int).bind fun x1=>(some (IntKind.wrap .i64 (x1+(1:Int))))
theorem aCW:∀ n:Nat,(∀ {p0v:aD}{res:Int},lA n p0v=some res→bR Tryz.prog 191 [.agg (AV.cs (dD p0v))] [] (ci res) []):=by
 intro n
 induction n with
 | zero=>exact fun {p0v res} h=>absurd h (by simp [lA])
 | succ n ih =>
  have ih_value_Depth:=@ih
  intro p0v res h
  rw [lA] at h
  refine cP (fn:=Tryz.f191) [0,1,2,3,5,7,8,9,10] (by kernel_rfl) Tryz.func191 r (by kernel_rfl) (by kernel_rfl)<|aJ<|gH (v:=.agg bI) (n:=0) (cs:=bI) (σ':=[bI]) r r r r r<|sI r<|aF (fr':=[(1,.box 0 0)]) r r<|aJ<|sI r<|aF (fr':=[(1,.box 0 0),(3,aI)]) r r<|aN<|aN<|aT ?_
  refine aQ r (bF gG r)<|aQ r (aP (v:=aL) nR r r r)<|aQ r (eX sJ (cZ r))<|mI r<|aF (fr':=[(3,aI),(7,aL),(8,aI),(9,aI)]) r r ?_
  obtain ⟨x1,hx1,h2⟩:=aE h
  refine fI iV (fun j3=>x1=j3) (fun (j3:Int)=>([(3,ci j3)]:Fr)) (fun (j3:Int)=>([[ci p0v.Kind,ci p0v.Int,.c (.str p0v.Text),.c (PV.ls 5 aZ p0v.Items),.c (PV.ls 1 fD p0v.Keys)]]:St)) ?_ ?_
  ·
   refine bK<|fB _ (fun (s4:(Int × Int))=>([(3,ci s4.1),(7,.c (PV.ls 5 aZ p0v.Items)),(8,ci ((p0v.Items).length:Int)),(9,ci s4.2)]:Fr)) (fun (s4:(Int × Int))=>([[ci p0v.Kind,ci p0v.Int,.c (.str p0v.Text),.c (PV.ls 5 aZ p0v.Items),.c (PV.ls 1 fD p0v.Keys)]]:St)) hx1 (bJ [] 1 r r r r ⟨lr,lr,lr,lr,trivial⟩ (cK r aC)) ?_
   intro s4 st4 hs4 ho4
   unfold oY at hs4
   refine aJ<|aQ r (dU r r)<|aF (fr':=[(3,aI),(7,aL),(8,aI),(9,aI),(10,aB)]) r r<|aN<|cC hs4 r (fun hb5 h5=>?_) (fun hb5 h5=>?_)
   ·
    refine bA<|bT<|aN<|bK<|aN<|aT ?_
    obtain ⟨x6,hx6,h7⟩:=aE h5
    refine aQ r (jS (cs:=[PV.int _ _,PV.int _ _,PV.str _,PV.ls _ _ _,PV.ls _ _ _]) sK (cZ r) r hx6 (dA _))<|aQ r (iL (us:=[PV.int _ _,PV.int _ _,PV.str _,PV.ls _ _ _,PV.ls _ _ _]) fQ r r r)<|fZ (n:=1) (cs:=bH) (σ':=[bI,bH]) aAm r r r<|bO (v:=.agg bI) (us:=bI) (cs:=bH) (σ':=[bI,bI]) r fQ r r r r r r r r<|aF (fr':=[(3,aI),(5,.box 1 0),(7,aL),(8,aI),(9,aI)]) r r<|aT<|mI r<|aQ r (dF (us:=bI) fQ r r r r) ?_
    obtain ⟨x8,hx8,h9⟩:=aE h7
    exact jZ (bG (v:=aI) r (ih_value_Depth hx8) ⟨(bM r ⟨r,r,r,r,r,trivial⟩),trivial⟩ r r r)<|aQ r (aNc r r)<|sI r<|cI (fr':=[(3,aI),(5,.box 1 0),(7,aL),(8,aI),(9,aI)]) r<|cA<|bT<|aT<|aQ r (dR r r)<|mI r<|cI (fr':=[(3,aI),(5,.box 1 0),(7,aL),(8,aI),(9,aI)]) r<|xG _ (sy h9) (bJ [] 1 r r r r ⟨lr,lr,lr,lr,trivial⟩ (cK r aC))
   ·
    refine fJ<|bY<|bY<|eC ?_
    have h10:=dN h5 ho4
    exact lF _ (sy h10) (bJ [] 1 r r r r ⟨lr,trivial⟩ (cK r aC))
  ·
   intro j3 hj11
   subst hj11
   refine bT<|aJ<|mI r<|aQ r (dR r r)<|sI r<|aF (fr':=[(2,aI)]) r r<|bE ?_
   obtain rfl:=sy h2
   exact bD (rs':=[.tmp 2]) r<|bL (v:=aI) r<|bC<|aR [] r r r lr aC
noncomputable def wV (p0v:aD):Option Int:=lim fun n=>lA n p0v
theorem aDv {p0v:aD}{res:Int} (h:wV p0v=some res):bR Tryz.prog 191 [.agg (AV.cs (dD p0v))] [] (ci res) []:=by
 obtain ⟨n,hn⟩:=nM h
 exact (aCW n) hn
noncomputable def pX (aCz:aD→Option Int) (p0v:aD) (s4:(Int × Int)):Option (cD (Int × Int) Int) :=
 cond (decide (s4.2<((p0v.Items).length:Int))) ((gR p0v.Items s4.2).bind fun x6=>(aCz x6).bind fun x8=>some (cD.next ((IntKind.wrap .i64 (s4.1+x8)),(IntKind.wrap .i64 (s4.2+(1:Int)))))) (some (cD.out s4.1))
noncomputable def mW:Nat→aD→Option Int
 | 0,_=>none
 | n+1,p0v =>
  ((dO (pX (mW n) p0v) (((1:Int),(0:Int)))):Option Int).bind fun x1=>(some x1)
theorem aDq:∀ n:Nat,(∀ {p0v:aD}{res:Int},mW n p0v=some res→bR Tryz.prog 192 [.agg (AV.cs (dD p0v))] [] (ci res) []):=by
 intro n
 induction n with
 | zero=>exact fun {p0v res} h=>absurd h (by simp [mW])
 | succ n ih =>
  have ih_value_Size:=@ih
  intro p0v res h
  rw [mW] at h
  refine cP (fn:=Tryz.f192) [0,1,2,3,5,7,8,9,10] (by kernel_rfl) Tryz.func192 r (by kernel_rfl) (by kernel_rfl)<|aJ<|gH (v:=.agg bI) (n:=0) (cs:=bI) (σ':=[bI]) r r r r r<|sI r<|aF (fr':=[(1,.box 0 0)]) r r<|aJ<|sI r<|aF (fr':=[(1,.box 0 0),(3,aI)]) r r<|aN<|aN<|aT ?_
  refine aQ r (bF gG r)<|aQ r (aP (v:=aL) nR r r r)<|aQ r (eX sJ (cZ r))<|mI r<|aF (fr':=[(3,aI),(7,aL),(8,aI),(9,aI)]) r r ?_
  obtain ⟨x1,hx1,h2⟩:=aE h
  refine fI iV (fun j3=>x1=j3) (fun (j3:Int)=>([(3,ci j3)]:Fr)) (fun (j3:Int)=>([[ci p0v.Kind,ci p0v.Int,.c (.str p0v.Text),.c (PV.ls 5 aZ p0v.Items),.c (PV.ls 1 fD p0v.Keys)]]:St)) ?_ ?_
  ·
   refine bK<|fB _ (fun (s4:(Int × Int))=>([(3,ci s4.1),(7,.c (PV.ls 5 aZ p0v.Items)),(8,ci ((p0v.Items).length:Int)),(9,ci s4.2)]:Fr)) (fun (s4:(Int × Int))=>([[ci p0v.Kind,ci p0v.Int,.c (.str p0v.Text),.c (PV.ls 5 aZ p0v.Items),.c (PV.ls 1 fD p0v.Keys)]]:St)) hx1 (bJ [] 1 r r r r ⟨lr,lr,lr,lr,trivial⟩ (cK r aC)) ?_
   intro s4 st4 hs4 ho4
   unfold pX at hs4
   refine aJ<|aQ r (dU r r)<|aF (fr':=[(3,aI),(7,aL),(8,aI),(9,aI),(10,aB)]) r r<|aN<|cC hs4 r (fun hb5 h5=>?_) (fun hb5 h5=>?_)
   ·
    refine bA<|bT<|aN<|bK<|aN<|aT ?_
    obtain ⟨x6,hx6,h7⟩:=aE h5
    refine aQ r (jS (cs:=[PV.int _ _,PV.int _ _,PV.str _,PV.ls _ _ _,PV.ls _ _ _]) sK (cZ r) r hx6 (dA _))<|aQ r (iL (us:=[PV.int _ _,PV.int _ _,PV.str _,PV.ls _ _ _,PV.ls _ _ _]) fQ r r r)<|fZ (n:=1) (cs:=bH) (σ':=[bI,bH]) aAm r r r<|bO (v:=.agg bI) (us:=bI) (cs:=bH) (σ':=[bI,bI]) r fQ r r r r r r r r<|aF (fr':=[(3,aI),(5,.box 1 0),(7,aL),(8,aI),(9,aI)]) r r<|aT<|mI r<|aQ r (dF (us:=bI) fQ r r r r) ?_
    obtain ⟨x8,hx8,h9⟩:=aE h7
    exact jZ (bG (v:=aI) r (ih_value_Size hx8) ⟨(bM r ⟨r,r,r,r,r,trivial⟩),trivial⟩ r r r)<|aQ r (dR r r)<|sI r<|cI (fr':=[(3,aI),(5,.box 1 0),(7,aL),(8,aI),(9,aI)]) r<|cA<|bT<|aT<|aQ r (dR r r)<|mI r<|cI (fr':=[(3,aI),(5,.box 1 0),(7,aL),(8,aI),(9,aI)]) r<|xG _ (sy h9) (bJ [] 1 r r r r ⟨lr,lr,lr,lr,trivial⟩ (cK r aC))
   ·
    refine fJ<|bY<|bY<|eC ?_
    have h10:=dN h5 ho4
    exact lF _ (sy h10) (bJ [] 1 r r r r ⟨lr,trivial⟩ (cK r aC))
  ·
   intro j3 hj11
   subst hj11
   refine bT<|aJ<|mI r<|sI r<|aF (fr':=[(2,aI)]) r r<|bE ?_
   obtain rfl:=sy h2
   exact bD (rs':=[.tmp 2]) r<|bL (v:=aI) r<|bC<|aR [] r r r lr aC
noncomputable def yY (p0v:aD):Option Int:=lim fun n=>mW n p0v
theorem aEW {p0v:aD}{res:Int} (h:yY p0v=some res):bR Tryz.prog 192 [.agg (AV.cs (dD p0v))] [] (ci res) []:=by
 obtain ⟨n,hn⟩:=nM h
 exact (aDq n) hn
noncomputable def pY (p0k:(List UInt8)):Option Bool :=
 some (decide ((4096:Int)<((p0k).length:Int)))
theorem aBy {p0k:(List UInt8)}{res:Bool} (h:pY p0k=some res):bR Tryz.prog 208 [.c (.str p0k)] [] (.c (.bool res)) []:=by
 unfold pY at h
 refine cP (fn:=Tryz.f208) [0,2] (by kernel_rfl) Tryz.func208 r (by kernel_rfl) (by kernel_rfl)<|aJ<|sB r<|aF (fr':=[(0,aS)]) r r<|aJ<|mS r<|aQ r (jT tT r)<|aQ r (nO r r)<|sB r<|aF (fr':=[(2,aB)]) r r<|bE ?_
 obtain rfl:=sy h
 exact bD (rs':=[.tmp 2]) r<|bL (v:=aB) r<|bC<|aR [] r r r lr aC
noncomputable def dJ (p0s:(List (List UInt8))) (s4:Int):Option (cD Int (Fl Int Unit)) :=
 cond (decide (s4<((p0s).length:Int))) ((gR p0s s4).bind fun x6=>(pY x6).bind fun x8=>cond x8 (some (cD.out (Fl.done s4))) (some (cD.next (IntKind.wrap .i64 (s4+(1:Int)))))) (some (cD.out (Fl.go ())))
noncomputable def dZ (p0s:(List (List UInt8))):Option Int :=
 ((dO (dJ p0s) ((0:Int))):Option (Fl Int Unit)).bind fun x1=>Fl.next x1 (fun j3=>(some (-1:Int)))
theorem jY {p0s:(List (List UInt8))}{res:Int} (h:dZ p0s=some res):bR Tryz.prog 206 [.c (PV.ls 1 fD p0s),.fn 208 []] [] (ci res) []:=by
 unfold dZ at h
 refine cP (fn:=Tryz.f206) [0,1,4,5,7,8,9,16] (by kernel_rfl) Tryz.func206 r (by kernel_rfl) (by kernel_rfl)<|aJ<|sI r<|aF (fr':=[(0,aL),(1,.fn _ [])]) r r<|aN<|aJ<|mL r<|aQ r (eX rZ (cZ r))<|mI r<|aF (fr':=[(0,aL),(1,.fn _ []),(7,aI),(8,aI)]) r r ?_
 obtain ⟨x1,hx1,h2⟩:=aE h
 refine fI iV (fun j3=>x1=Fl.go j3) (fun (j3:Unit)=>([]:Fr)) (fun (j3:Unit)=>([]:St)) ?_ ?_
 ·
  refine bK<|fB _ (fun (s4:Int)=>([(0,.c (PV.ls 1 fD p0s)),(1,.fn 208 []),(7,ci ((p0s).length:Int)),(8,ci s4)]:Fr)) (fun (s4:Int)=>([]:St)) hx1 (bJ [] 0 r r r r ⟨lr,lr,lr,lr,trivial⟩ aC) ?_
  intro s4 st4 hs4 ho4
  unfold dJ at hs4
  refine aJ<|aQ r (dU r r)<|aF (fr':=[(0,aL),(1,.fn _ []),(7,aI),(8,aI),(9,aB)]) r r<|aN<|cC hs4 r (fun hb5 h5=>?_) (fun hb5 h5=>?_)
  ·
   refine bA<|bT<|aN<|bK<|aJ<|mI r<|sI r<|aF (fr':=[(0,aL),(1,.fn _ []),(5,aI),(7,aI),(8,aI)]) r r<|aJ<|mV (v:=.fn _ []) r<|mL r ?_
   refine mI r ?_
   obtain ⟨x6,hx6,h7⟩:=aE h5
   refine aQ r (jS (cs:=[PV.str _]) uW (cZ r) r hx6 r)<|aQ r (fV (p:=PV.str _) nV r r) ?_
   obtain ⟨x8,hx8,h9⟩:=aE h7
   refine jZ (bG (v:=aB) r (aBy hx8) ⟨lr,trivial⟩ r r r)<|aF (fr':=[(0,aL),(1,.fn _ []),(5,aI),(7,aI),(8,aI),(16,aB)]) r r<|cC h9 r (fun hb10 h10=>?_) (fun hb10 h10=>?_)
   ·
    refine aJ<|mI r<|sI r<|aF (fr':=[(4,aI)]) r r<|bE<|bB<|aK<|aK<|bB<|aK<|aK ?_
    have h11:=dN h10 ho4
    have h12:=eA h11 h2
    obtain rfl:=sy h12
    exact bD (rs':=[.tmp 4]) r<|bL (v:=aI) r<|bC<|aR [] r r r lr aC
   ·
    exact bA<|cA<|bT<|aT<|aQ r (dR r r)<|mI r<|cI (fr':=[(0,aL),(1,.fn _ []),(5,aI),(7,aI),(8,aI),(16,aB)]) r<|xG _ (sy h10) (bJ [] 0 r r r r ⟨lr,lr,lr,lr,trivial⟩ aC)
  ·
   refine fJ<|bY<|bY<|eC ?_
   have h14:=dN h5 ho4
   exact lF _ (sy h14) (bJ [] 0 r r r r trivial aC)
 ·
  intro j3 hj15
  have h15:=kN hj15 h2
  refine bT<|aJ<|sI r<|aF (fr':=[(4,aI)]) r r<|bE ?_
  obtain rfl:=sy h15
  exact bD (rs':=[.tmp 4]) r<|bL (v:=aI) r<|bC<|aR [] r r r lr aC
noncomputable def dI (p0s:(List (List UInt8))):Option Bool :=
 (dZ p0s).bind fun x1=>some (decide ((0:Int)≤x1))
theorem jC {p0s:(List (List UInt8))}{res:Bool} (h:dI p0s=some res):bR Tryz.prog 178 [.c (PV.ls 1 fD p0s),.fn 208 []] [] (.c (.bool res)) []:=by
 unfold dI at h
 refine cP (fn:=Tryz.f178) [0,1,4] (by kernel_rfl) Tryz.func178 r (by kernel_rfl) (by kernel_rfl)<|aJ<|sB r<|aF (fr':=[(0,aL),(1,.fn _ [])]) r r<|aJ<|mL r<|mV (v:=.fn _ []) r ?_
 obtain ⟨x1,hx1,h2⟩:=aE h
 refine jZ (bG (v:=aI) r (jY hx1) ⟨lr,lr,trivial⟩ r r r)<|aQ r (qJ r r)<|sB r<|aF (fr':=[(4,aB)]) r r<|bE ?_
 obtain rfl:=sy h2
 exact bD (rs':=[.tmp 4]) r<|bL (v:=aB) r<|bC<|aR [] r r r lr aC
noncomputable def cX (aAc:aD→Option Bool) (p0s:(List aD)) (s4:Int):Option (cD Int (Fl Int Unit)) :=
 cond (decide (s4<((p0s).length:Int))) ((gR p0s s4).bind fun x6=>(aAc x6).bind fun x8=>cond x8 (some (cD.out (Fl.done s4))) (some (cD.next (IntKind.wrap .i64 (s4+(1:Int)))))) (some (cD.out (Fl.go ())))
mutual
noncomputable def cJ:Nat→(List aD)→Option Bool
 | 0,_=>none
 | n+1,p0s =>
  ((dE n) p0s).bind fun x1=>some (decide ((0:Int)≤x1))
noncomputable def dE:Nat→(List aD)→Option Int
 | 0,_=>none
 | n+1,p0s =>
  ((dO (cX (kO n) p0s) ((0:Int))):Option (Fl Int Unit)).bind fun x1=>Fl.next x1 (fun j3=>(some (-1:Int)))
noncomputable def lC:Nat→aD→Option Bool
 | 0,_=>none
 | n+1,p0v =>
  (gd ((decide ((4096:Int)<((p0v.Text).length:Int)))==false) (dI p0v.Keys)).bind fun x1=>cond (cond (decide ((4096:Int)<((p0v.Text).length:Int))) true x1) (some false) (((cJ n) p0v.Items).bind fun x5=>some (!x5))
noncomputable def kO:Nat→aD→Option Bool
 | 0,_=>none
 | n+1,p0x =>
  ((lC n) p0x).bind fun x1=>some (!x1)
end
theorem iC:∀ n:Nat,(∀ {p0s:(List aD)}{res:Bool},cJ n p0s=some res→bR Tryz.prog 176 [.c (PV.ls 5 aZ p0s),.fn 209 []] [] (.c (.bool res)) [])∧(∀ {p0s:(List aD)}{res:Int},dE n p0s=some res→bR Tryz.prog 205 [.c (PV.ls 5 aZ p0s),.fn 209 []] [] (ci res) [])∧(∀ {p0v:aD}{res:Bool},lC n p0v=some res→bR Tryz.prog 193 [.agg (AV.cs (dD p0v))] [] (.c (.bool res)) [])∧(∀ {p0x:aD}{res:Bool},kO n p0x=some res→bR Tryz.prog 209 [.agg (AV.cs (dD p0x))] [] (.c (.bool res)) []):=by
 intro n
 induction n with
 | zero=>exact ⟨fun {p0s res} h=>absurd h (by simp [cJ]),fun {p0s res} h=>absurd h (by simp [dE]),fun {p0v res} h=>absurd h (by simp [lC]),fun {p0x res} h=>absurd h (by simp [kO])⟩
 | succ n ih =>
  obtain ⟨ih_slices_ContainsFunc_api_Value_api_Value_value_short_2,ih_slices_IndexFunc_api_Value_api_Value_value_short_2,ih_value_short,ih_value_short_2⟩:=ih
  refine ⟨?_,?_,?_,?_⟩
  ·
   intro p0s res h
   rw [cJ] at h
   refine cP (fn:=Tryz.f176) [0,1,4] (by kernel_rfl) Tryz.func176 r (by kernel_rfl) (by kernel_rfl)<|aJ<|sB r<|aF (fr':=[(0,aL),(1,.fn _ [])]) r r<|aJ<|mL r<|mV (v:=.fn _ []) r ?_
   obtain ⟨x1,hx1,h2⟩:=aE h
   refine jZ (bG (v:=aI) r (ih_slices_IndexFunc_api_Value_api_Value_value_short_2 hx1) ⟨lr,lr,trivial⟩ r r r)<|aQ r (qJ r r)<|sB r<|aF (fr':=[(4,aB)]) r r<|bE ?_
   obtain rfl:=sy h2
   exact bD (rs':=[.tmp 4]) r<|bL (v:=aB) r<|bC<|aR [] r r r lr aC
  ·
   intro p0s res h
   rw [dE] at h
   refine cP (fn:=Tryz.f205) [0,1,4,5,7,8,9,16] (by kernel_rfl) Tryz.func205 r (by kernel_rfl) (by kernel_rfl)<|aJ<|sI r<|aF (fr':=[(0,aL),(1,.fn _ [])]) r r<|aN<|aJ<|mL r<|aQ r (eX sJ (cZ r))<|mI r<|aF (fr':=[(0,aL),(1,.fn _ []),(7,aI),(8,aI)]) r r ?_
   obtain ⟨x1,hx1,h2⟩:=aE h
   refine fI iV (fun j3=>x1=Fl.go j3) (fun (j3:Unit)=>([]:Fr)) (fun (j3:Unit)=>([]:St)) ?_ ?_
   ·
    refine bK<|fB _ (fun (s4:Int)=>([(0,.c (PV.ls 5 aZ p0s)),(1,.fn 209 []),(7,ci ((p0s).length:Int)),(8,ci s4)]:Fr)) (fun (s4:Int)=>([]:St)) hx1 (bJ [] 0 r r r r ⟨lr,lr,lr,lr,trivial⟩ aC) ?_
    intro s4 st4 hs4 ho4
    unfold cX at hs4
    refine aJ<|aQ r (dU r r)<|aF (fr':=[(0,aL),(1,.fn _ []),(7,aI),(8,aI),(9,aB)]) r r<|aN<|cC hs4 r (fun hb5 h5=>?_) (fun hb5 h5=>?_)
    ·
     refine bA<|bT<|aN<|bK<|aJ<|mI r<|sI r<|aF (fr':=[(0,aL),(1,.fn _ []),(5,aI),(7,aI),(8,aI)]) r r<|aJ<|mV (v:=.fn _ []) r<|mL r ?_
     refine mI r ?_
     obtain ⟨x6,hx6,h7⟩:=aE h5
     refine aQ r (jS (cs:=[PV.int _ _,PV.int _ _,PV.str _,PV.ls _ _ _,PV.ls _ _ _]) sK (cZ r) r hx6 (dA _))<|aQ r (iL (us:=[PV.int _ _,PV.int _ _,PV.str _,PV.ls _ _ _,PV.ls _ _ _]) fQ r r r) ?_
     obtain ⟨x8,hx8,h9⟩:=aE h7
     refine jZ (bG (v:=aB) r (ih_value_short_2 hx8) ⟨(bM r ⟨r,r,r,r,r,trivial⟩),trivial⟩ r r r)<|aF (fr':=[(0,aL),(1,.fn _ []),(5,aI),(7,aI),(8,aI),(16,aB)]) r r<|cC h9 r (fun hb10 h10=>?_) (fun hb10 h10=>?_)
     ·
      refine aJ<|mI r<|sI r<|aF (fr':=[(4,aI)]) r r<|bE<|bB<|aK<|aK<|bB<|aK<|aK ?_
      have h11:=dN h10 ho4
      have h12:=eA h11 h2
      obtain rfl:=sy h12
      exact bD (rs':=[.tmp 4]) r<|bL (v:=aI) r<|bC<|aR [] r r r lr aC
     ·
      exact bA<|cA<|bT<|aT<|aQ r (dR r r)<|mI r<|cI (fr':=[(0,aL),(1,.fn _ []),(5,aI),(7,aI),(8,aI),(16,aB)]) r<|xG _ (sy h10) (bJ [] 0 r r r r ⟨lr,lr,lr,lr,trivial⟩ aC)
    ·
     refine fJ<|bY<|bY<|eC ?_
     have h14:=dN h5 ho4
     exact lF _ (sy h14) (bJ [] 0 r r r r trivial aC)
   ·
    intro j3 hj15
    have h15:=kN hj15 h2
    refine bT<|aJ<|sI r<|aF (fr':=[(4,aI)]) r r<|bE ?_
    obtain rfl:=sy h15
    exact bD (rs':=[.tmp 4]) r<|bL (v:=aI) r<|bC<|aR [] r r r lr aC
  ·
   intro p0v res h
   rw [lC] at h
   refine cP (fn:=Tryz.f193) [0,1,2,11] (by kernel_rfl) Tryz.func193 r (by kernel_rfl) (by kernel_rfl)<|aJ<|gH (v:=.agg bI) (n:=0) (cs:=bI) (σ':=[bI]) r r r r r<|sB r<|aF (fr':=[(1,.box 0 0)]) r r<|aN<|aJ<|aQ r (bF qR r)<|aQ r (aP (v:=aS) nV r r r)<|aQ r (jT tT r)<|aQ r (nO r r) ?_
   refine mB r<|og r r r (fun hc=>(bF mR r))<|og r r r (fun hc=>(aP (v:=aL) nA (gx r hc) r r)) ?_
   obtain ⟨x1,hx1,h2⟩:=aE h
   refine vQ r r (fun hc=>bG (v:=aB) r (jC (cV hx1 hc)) ⟨(fK (gx r hc) lr),lr,trivial⟩ (fT (by repeat (first | exact eK | refine aY r ?_ | refine aY (rI r) ?_ | refine aY rH ?_))) r r) ?_
   refine aQ r (cB r r r (fun e=>fG e))<|aF (fr':=[(1,.box 0 0),(11,aB)]) r r<|cC h2 r (fun hb3 h3=>?_) (fun hb3 h3=>?_)
   ·
    refine aJ<|sB r<|aF (fr':=[(2,aB)]) r r<|bE<|aK ?_
    obtain rfl:=sy h3
    exact bD (rs':=[.tmp 2]) r<|bL (v:=aB) r<|bC<|aR [] r r r lr aC
   ·
    refine bA<|bT<|aJ<|aQ r (bF gG r)<|aQ r (aP (v:=aL) nR r r r) ?_
    obtain ⟨x5,hx5,h6⟩:=aE h3
    refine jZ (bG (v:=aB) r (ih_slices_ContainsFunc_api_Value_api_Value_value_short_2 hx5) ⟨lr,lr,trivial⟩ r r r)<|aQ r (eU r)<|sB r<|aF (fr':=[(2,aB)]) r r<|bE ?_
    obtain rfl:=sy h6
    exact bD (rs':=[.tmp 2]) r<|bL (v:=aB) r<|bC<|aR [] r r r lr aC
  ·
   intro p0x res h
   rw [kO] at h
   refine cP (fn:=Tryz.f209) [0,1,2] (by kernel_rfl) Tryz.func209 r (by kernel_rfl) (by kernel_rfl)<|aJ<|gH (v:=.agg bI) (n:=0) (cs:=bI) (σ':=[bI]) r r r r r<|sB r<|aF (fr':=[(1,.box 0 0)]) r r<|aJ<|aQ r (dF (us:=bI) fQ r r r r) ?_
   obtain ⟨x1,hx1,h2⟩:=aE h
   refine jZ (bG (v:=aB) r (ih_value_short hx1) ⟨(bM r ⟨r,r,r,r,r,trivial⟩),trivial⟩ r r r)<|aQ r (eU r)<|sB r<|aF (fr':=[(2,aB)]) r r<|bE ?_
   obtain rfl:=sy h2
   exact bD (rs':=[.tmp 2]) r<|bL (v:=aB) r<|bC<|aR [] r r r lr aC
noncomputable def wX (p0v:aD):Option Bool:=lim fun n=>lC n p0v
theorem aDw {p0v:aD}{res:Bool} (h:wX p0v=some res):bR Tryz.prog 193 [.agg (AV.cs (dD p0v))] [] (.c (.bool res)) []:=by
 obtain ⟨n,hn⟩:=nM h
 exact (iC n).2.2.1 hn
noncomputable def pA (p0v:aD):Option Bool :=
 (wV p0v).bind fun x1=>(gd ((decide (x1≤(16:Int)))==true) (yY p0v)).bind fun x3=>(gd ((cond (decide (x1≤(16:Int))) (decide (x3≤(1000:Int))) false)==true) (wX p0v)).bind fun x5=>some (cond (cond (decide (x1≤(16:Int))) (decide (x3≤(1000:Int))) false) x5 false)
theorem aC1 {p0v:aD}{res:Bool} (h:pA p0v=some res):bR Tryz.prog 160 [.agg (AV.cs (dD p0v))] [] (.c (.bool res)) []:=by
 unfold pA at h
 refine cP (fn:=Tryz.f160) [0,1,2] (by kernel_rfl) Tryz.func160 r (by kernel_rfl) (by kernel_rfl)<|aJ<|gH (v:=.agg bI) (n:=0) (cs:=bI) (σ':=[bI]) r r r r r<|sB r<|aF (fr':=[(1,.box 0 0)]) r r<|aJ<|aQ r (dF (us:=bI) fQ r r r r) ?_
 obtain ⟨x1,hx1,h2⟩:=aE h
 refine jZ (bG (v:=aI) r (aDv hx1) ⟨(bM r ⟨r,r,r,r,r,trivial⟩),trivial⟩ r r r)<|aQ r (tN r r)<|mB r<|og r r r (fun hc=>(dF (us:=bI) fQ r r r r)) ?_
 obtain ⟨x3,hx3,h4⟩:=aE h2
 refine vQ r r (fun hc=>bG (v:=aI) r (aEW (cV hx3 hc)) ⟨(fK (gx r hc) (bM r ⟨r,r,r,r,r,trivial⟩)),trivial⟩ (fT (by repeat (first | exact eK | refine aY r ?_ | refine aY (rI r) ?_ | refine aY rH ?_))) r r) ?_
 refine og r r r (fun hc=>(tN (gx r hc) r))<|aQ r (bS r r r (fun e=>fG e))<|mB r<|og r r r (fun hc=>(dF (us:=bI) fQ r r r r)) ?_
 obtain ⟨x5,hx5,h6⟩:=aE h4
 refine vQ r r (fun hc=>bG (v:=aB) r (aDw (cV hx5 hc)) ⟨(fK (gx r hc) (bM r ⟨r,r,r,r,r,trivial⟩)),trivial⟩ (fT (by repeat (first | exact eK | refine aY r ?_ | refine aY (rI r) ?_ | refine aY rH ?_))) r r) ?_
 refine aQ r (bS r r r (fun e=>fG e))<|sB r<|aF (fr':=[(2,aB)]) r r<|bE ?_
 obtain rfl:=sy h6
 exact bD (rs':=[.tmp 2]) r<|bL (v:=aB) r<|bC<|aR [] r r r lr aC
noncomputable def oD (p0v:aD):Option Bool :=
 (pA p0v).bind fun x1=>(gd (x1==true) (rC p0v false)).bind fun x3=>some (cond x1 x3 false)
theorem yF {p0v:aD}{res:Bool} (h:oD p0v=some res):bR Tryz.prog 100 [.agg (AV.cs (dD p0v))] [] (.c (.bool res)) []:=by
 unfold oD at h
 refine cP (fn:=Tryz.f100) [0,1,2] (by kernel_rfl) Tryz.func100 r (by kernel_rfl) (by kernel_rfl)<|aJ<|gH (v:=.agg bI) (n:=0) (cs:=bI) (σ':=[bI]) r r r r r<|sB r<|aF (fr':=[(1,.box 0 0)]) r r<|aJ<|aQ r (dF (us:=bI) fQ r r r r) ?_
 obtain ⟨x1,hx1,h2⟩:=aE h
 refine jZ (bG (v:=aB) r (aC1 hx1) ⟨(bM r ⟨r,r,r,r,r,trivial⟩),trivial⟩ r r r)<|mB r<|og r r r (fun hc=>(dF (us:=bI) fQ r r r r)) ?_
 obtain ⟨x3,hx3,h4⟩:=aE h2
 refine vQ r r (fun hc=>bG (v:=aB) r (xA (cV hx3 hc)) ⟨(fK (gx r hc) (bM r ⟨r,r,r,r,r,trivial⟩)),lr,trivial⟩ (fT (by repeat (first | exact eK | refine aY r ?_ | refine aY (rI r) ?_ | refine aY rH ?_))) r r) ?_
 refine aQ r (bS r r r (fun e=>fG e))<|sB r<|aF (fr':=[(2,aB)]) r r<|bE ?_
 obtain rfl:=sy h4
 exact bD (rs':=[.tmp 2]) r<|bL (v:=aB) r<|bC<|aR [] r r r lr aC
noncomputable def fN (p0n:Int) (oR:Int) (kX:Int):Option Bool :=
 some (cond (decide (oR≤p0n)) (decide (p0n≤kX)) false)
theorem fY {p0n:Int}{oR:Int}{kX:Int}{res:Bool} (h:fN p0n oR kX=some res):bR Tryz.prog 136 [ci p0n,ci oR,ci kX] [] (.c (.bool res)) []:=by
 unfold fN at h
 refine cP (fn:=Tryz.f136) [0,1,2,6] (by kernel_rfl) Tryz.func136 r (by kernel_rfl) (by kernel_rfl)<|aJ<|sB r<|aF (fr':=[(0,aI),(1,aI),(2,aI)]) r r<|aJ<|mI r<|mI r<|aQ r (qJ r r)<|mB r<|og r r r (fun hc=>(aU (v:=aI) r))<|og r r r (fun hc=>(aU (v:=aI) r)) ?_
 refine og r r r (fun hc=>(tN (gx r hc) (gx r hc)))<|aQ r (bS r r r (fun e=>fG e))<|sB r<|aF (fr':=[(6,aB)]) r r<|bE ?_
 obtain rfl:=sy h
 exact bD (rs':=[.tmp 6]) r<|bL (v:=aB) r<|bC<|aR [] r r r lr aC
end Go.Proofs.YtnigjppddilpcaaGreatDoor
