import Derived.Test.YtnigjppddilpcaaGreatDoorGETy
import Derived.Test.YtnigjppddilpcaaGreatDoorGEF0
namespace Go.Proofs.YtnigjppddilpcaaGreatDoor
open Go Abs
set_option maxRecDepth 100000
set_option linter.unusedVariables false
set_option linter.unusedSimpArgs false
noncomputable def gG (p0s:(List (List UInt8))) (s4:Int):Option (dN Int (Fl Int Unit)) :=
 cond (decide (s4<((p0s).length:Int))) ((lO p0s s4).bind fun x6=>(sW x6).bind fun x8=>cond x8 (some (dN.out (Fl.done s4))) (some (dN.next (IntKind.wrap .i64 (s4+1))))) (some (dN.out (Fl.go ())))
noncomputable def iN (p0s:(List (List UInt8))):Option Int :=
 (fI (gG p0s) (0)).bind fun x1=>Fl.next x1 (fun j3=>(some (-1)))
theorem rE {p0s:(List (List UInt8))}{res:Int} (h:iN p0s=some res):cX Tryz.prog 206 [.c (PV.ls 1 iF p0s),.fn 179 []] [] (ci res) []:=by
 unfold iN at h
 refine dR (fn:=Tryz.f206) [0,1,4,5,7,8,9,16] (by kernel_rfl) Tryz.func206 r (by kernel_rfl) (by kernel_rfl)<|aJ<|sI r<|aH (fr':=[(0,aL),(1,.fn _ [])]) r r<|aX<|aJ<|mL r<|aU r (gT yV (eA r))<|mI r<|aH (fr':=[(0,aL),(1,.fn _ []),(7,aI),(8,aI)]) r r<|bx h fun x1 hx1 h2=>hF lP (fun j3=>x1=Fl.go j3) (fun (j3:Unit)=>([]:Fr)) (fun (j3:Unit)=>([]:St)) ?_ ?_
 ·
  refine cP<|gY _ (fun (s4:Int)=>([(0,.c (PV.ls 1 iF p0s)),(1,.fn 179 []),(7,ci ((p0s).length:Int)),(8,ci s4)]:Fr)) (fun (s4:Int)=>([]:St)) hx1 (bJ [] 0 r r r r kL4 aC) ?_
  intro s4 st4 hs4 ho4
  unfold gG at hs4
  refine aJ<|aU r (fY r r)<|aH (fr':=[(0,aL),(1,.fn _ []),(7,aI),(8,aI),(9,aB)]) r r<|aX<|cU hs4 r (fun hb5 h5=>?_) (fun hb5 h5=>?_)
  ·
   refine bI<|dB<|aX<|cP<|aJ<|mI r<|sI r<|aH (fr':=[(0,aL),(1,.fn _ []),(5,aI),(7,aI),(8,aI)]) r r<|aJ<|mV (v:=.fn _ []) r<|mL r<|mI r<|bx h5 fun x6 hx6 h7=>aU r (lC (cs:=[PV.str _]) aAW (eA r) r hx6 r)<|aU r (fO (p:=PV.str _) rZ r r)<|bx h7 fun x8 hx8 h9=>oN (cA (v:=aB) r (aC2 hx8) ⟨lr,trivial⟩ r r r)<|aH (fr':=[(0,aL),(1,.fn _ []),(5,aI),(7,aI),(8,aI),(16,aB)]) r r<|cU h9 r (fun hb10 h10=>?_) (fun hb10 h10=>?_)
   ·
    refine aJ<|mI r<|sI r<|aH (fr':=[(4,aI)]) r r<|bO<|bT<|aN<|aN<|bT<|aN<|aN ?_
    have h11:=eS h10 ho4
    have h12:=gI h11 h2
    obtain rfl:=sy h12
    exact bN (rs':=[.tmp 4]) r<|cE (v:=aI) r<|bM<|aP [] r r r lr aC
   ·
    exact bI<|dI<|dB<|bA<|aU r (fX r r)<|mI r<|dQ (fr':=[(0,aL),(1,.fn _ []),(5,aI),(7,aI),(8,aI),(16,aB)]) r<|zY _ (sy h10) (bJ [] 0 r r r r kL4 aC)
  ·
   refine iE<|cZ<|cZ<|fT ?_
   have h14:=eS h5 ho4
   exact lB _ (sy h14) (bJ [] 0 r r r r trivial aC)
 ·
  intro j3 hj15
  have h15:=nY hj15 h2
  refine dB<|aJ<|sI r<|aH (fr':=[(4,aI)]) r r<|bO ?_
  obtain rfl:=sy h15
  exact bN (rs':=[.tmp 4]) r<|cE (v:=aI) r<|bM<|aP [] r r r lr aC
noncomputable def gE (p0s:(List (List UInt8))):Option Bool :=
 (iN p0s).bind fun x1=>some (decide (0≤x1))
theorem qI {p0s:(List (List UInt8))}{res:Bool} (h:gE p0s=some res):cX Tryz.prog 178 [.c (PV.ls 1 iF p0s),.fn 179 []] [] (.c (.bool res)) []:=by
 unfold gE at h
 refine dR (fn:=Tryz.f178) [0,1,4] (by kernel_rfl) Tryz.func178 r (by kernel_rfl) (by kernel_rfl)<|aJ<|sB r<|aH (fr':=[(0,aL),(1,.fn _ [])]) r r<|aJ<|mL r<|mV (v:=.fn _ []) r<|bx h fun x1 hx1 h2=>oN (cA (v:=aI) r (rE hx1) kR r r r)<|aU r (uE r r)<|sB r<|aH (fr':=[(4,aB)]) r r<|bO ?_
 obtain rfl:=sy h2
 exact bN (rs':=[.tmp 4]) r<|cE (v:=aB) r<|bM<|aP [] r r r lr aC
noncomputable def rL (p0o:bV) (s8:Int):Option (dN Int (Fl Bool Unit)) :=
 cond (decide (s8<((([p0o.ToStart,p0o.ToClose,p0o.Total,p0o.Beat,p0o.First,p0o.Most]:List Int)).length:Int))) ((lO ([p0o.ToStart,p0o.ToClose,p0o.Total,p0o.Beat,p0o.First,p0o.Most]:List Int) s8).bind fun x10=>(nP x10 0 1099511627776).bind fun x12=>cond (!x12) (some (dN.out (Fl.done false))) (some (dN.next (IntKind.wrap .i64 (s8+1))))) (some (dN.out (Fl.go ())))
noncomputable def mQ (p0o:bV):Option Bool :=
 (gd ((!decide (p0o.Queue=([]:List UInt8)))==true) (tX p0o.Queue)).bind fun x1=>cond (cond (cond (!decide (p0o.Queue=([]:List UInt8))) (!x1) false) true (decide (64<((p0o.Fatal).length:Int)))) (some false) ((fI (rL p0o) (0)).bind fun x5=>Fl.next x5 (fun j7=>((nP p0o.Coef 0 10000).bind fun x20=>(gd (x20==true) (nP p0o.Attempts 0 1000)).bind fun x22=>(gd ((cond x20 x22 false)==true) (gE p0o.Fatal)).bind fun x24=>some (cond (cond x20 x22 false) (!x24) false))))
theorem wP {p0o:bV}{res:Bool} (h:mQ p0o=some res):cX Tryz.prog 130 [.agg (AV.cs (mU p0o))] [] (.c (.bool res)) []:=by
 unfold mQ at h
 refine dR (fn:=Tryz.f130) [0,1,2,4,19,32,33,34,35,40] (by kernel_rfl) Tryz.func130 r (by kernel_rfl) (by kernel_rfl)<|aJ<|kP (v:=.agg dO) (n:=0) (cs:=dO) (σ':=[dO]) r r r r r<|sB r<|aH (fr':=[(1,aD)]) r r<|aX<|aJ<|aU r (bU aCz r)<|aU r (aR (v:=aS) rZ r r r)<|aU r (aCx r r)<|mB r<|og r r r (fun hc=>(bU aCz r))<|og r r r (fun hc=>(aR (v:=aS) rZ (gx r hc) r r))<|bx h fun x1 hx1 h2=>zG r r (fun hc=>cA (v:=aB) r (yB (dM hx1 hc)) ⟨(iA (gx r hc) lr),trivial⟩ (iO (by repeat (first | exact fU | refine bG r ?_ | refine bG (vD r) ?_ | refine bG vC ?_))) r r) ?_
 refine og r r r (fun hc=>(gX (gx r hc)))<|aU r (cS r r r (fun e=>hH e))<|mB r<|og r r r (fun hc=>(bU tC r))<|og r r r (fun hc=>(aR (v:=aL) qP (gx r hc) r r))<|og r r r (fun hc=>(gT yV (eA (gx r hc))))<|og r r r (fun hc=>(qW (gx r hc) r))<|aU r (dK r r r (fun e=>hH e))<|aH (fr':=[(1,aD),(19,aB)]) r r<|cU h2 r (fun hb3 h3=>?_) (fun hb3 h3=>?_)
 ·
  refine aJ<|sB r<|aH (fr':=[(2,aB)]) r r<|bO<|aN ?_
  obtain rfl:=sy h3
  exact bN (rs':=[.tmp 2]) r<|cE (v:=aB) r<|bM<|aP [] r r r lr aC
 ·
  refine bI<|dB<|aX<|aJ<|aU r (bU aFA r)<|aU r (aR (v:=aI) hU r r r)<|aU r (bU aFB r)<|aU r (aR (v:=aI) hU r r r)<|aU r (bU aFC r)<|aU r (aR (v:=aI) hU r r r)<|aU r (bU aFD r)<|aU r (aR (v:=aI) hU r r r)<|aU r (bU aFE r)<|aU r (aR (v:=aI) hU r r r)<|aU r (bU aFG r)<|aU r (aR (v:=aI) hU r r r)<|uU (row:=(aG4 .i64)) (xs:=([p0o.ToStart,p0o.ToClose,p0o.Total,p0o.Beat,p0o.First,p0o.Most]:List Int)) (rows:=[[_],[_],[_],[_],[_],[_]]) (σ':=[dO]) [0] aBH r r r (fR r (fR r (fR r (fR r (fR r (fR r oL)))))) r r<|aU r (gT aRV (nB r))<|mI r<|aH (fr':=[(1,aD),(32,aO),(33,aI),(34,aI)]) r r<|bx h3 fun x5 hx5 h6=>hF lP (fun j7=>x5=Fl.go j7) (fun (j7:Unit)=>([(1,aD)]:Fr)) (fun (j7:Unit)=>([[.c (.str p0o.Queue),ci p0o.ToStart,ci p0o.ToClose,ci p0o.Total,ci p0o.Beat,ci p0o.First,ci p0o.Coef,ci p0o.Most,ci p0o.Attempts,.c (PV.ls 1 iF p0o.Fatal)]]:St)) ?_ ?_
  ·
   refine cP<|gY _ (fun (s8:Int)=>([(1,aD),(32,AV.os 0 1 (aG4 .i64) ([p0o.ToStart,p0o.ToClose,p0o.Total,p0o.Beat,p0o.First,p0o.Most]:List Int)),(33,ci ((([p0o.ToStart,p0o.ToClose,p0o.Total,p0o.Beat,p0o.First,p0o.Most]:List Int)).length:Int)),(34,ci s8)]:Fr)) (fun (s8:Int)=>([[.c (.str p0o.Queue),ci p0o.ToStart,ci p0o.ToClose,ci p0o.Total,ci p0o.Beat,ci p0o.First,ci p0o.Coef,ci p0o.Most,ci p0o.Attempts,.c (PV.ls 1 iF p0o.Fatal)]]:St)) hx5 (bJ [512] 1 r r r r kL4 (cO r aC)) ?_
   intro s8 st8 hs8 ho8
   unfold rL at hs8
   refine aJ<|aU r (fY r r)<|aH (fr':=[(1,aD),(32,aO),(33,aI),(34,aI),(35,aB)]) r r<|aX<|cU hs8 r (fun hb9 h9=>?_) (fun hb9 h9=>?_)
   ·
    refine bI<|dB<|aX<|cP<|aX<|bA<|bx h9 fun x10 hx10 h11=>aU r (lC (cs:=[PV.int _ _]) aBH (nB r) r hx10 r)<|aU r (fO (p:=PV.int _ _) hU r r)<|sI r<|aH (fr':=[(1,aD),(4,aI),(32,aO),(33,aI),(34,aI)]) r r<|aJ<|mI r<|bx h11 fun x12 hx12 h13=>oN (cA (v:=aB) r (pA hx12) nW r r r)<|aU r (gX r)<|aH (fr':=[(1,aD),(32,aO),(33,aI),(34,aI),(40,aB)]) r r<|cU h13 r (fun hb14 h14=>?_) (fun hb14 h14=>?_)
    ·
     refine aJ<|sB r<|aH (fr':=[(2,aB)]) r r<|bO<|bT<|aN<|aN<|bT<|aN<|aN ?_
     have h15:=eS h14 ho8
     have h16:=gI h15 h6
     obtain rfl:=sy h16
     exact bN (rs':=[.tmp 2]) r<|cE (v:=aB) r<|bM<|aP [] r r r lr aC
    ·
     exact bI<|dI<|dB<|bA<|aU r (fX r r)<|mI r<|dQ (fr':=[(1,aD),(32,aO),(33,aI),(34,aI),(40,aB)]) r<|zY _ (sy h14) (bJ [0] 1 r r r r kL4 (cO r aC))
   ·
    refine iE<|cZ<|cZ<|fT ?_
    have h18:=eS h9 ho8
    exact lB _ (sy h18) (bJ [] 1 r r r r ⟨lr,trivial⟩ (cO r aC))
  ·
   intro j7 hj19
   have h19:=nY hj19 h6
   refine dB<|aJ<|aU r (bU aFF r)<|aU r (aR (v:=aI) hU r r r)<|bx h19 fun x20 hx20 h21=>oN (cA (v:=aB) r (pA hx20) nW r r r)<|mB r<|og r r r (fun hc=>(bU aFH r))<|og r r r (fun hc=>(aR (v:=aI) hU (gx r hc) r r))<|bx h21 fun x22 hx22 h23=>zG r r (fun hc=>cA (v:=aB) r (pA (dM hx22 hc)) ⟨(iA (gx r hc) lr),lr,lr,trivial⟩ (iO (by repeat (first | exact fU | refine bG r ?_ | refine bG (vD r) ?_ | refine bG vC ?_))) r r) ?_
   refine aU r (cS r r r (fun e=>hH e))<|mB r<|og r r r (fun hc=>(bU tC r))<|og r r r (fun hc=>(aR (v:=aL) qP (gx r hc) r r))<|bx h23 fun x24 hx24 h25=>zG r r (fun hc=>cA (v:=aB) r (qI (dM hx24 hc)) ⟨(iA (gx r hc) lr),lr,trivial⟩ (iO (by repeat (first | exact fU | refine bG r ?_ | refine bG (vD r) ?_ | refine bG vC ?_))) r r) ?_
   refine og r r r (fun hc=>(gX (gx r hc)))<|aU r (cS r r r (fun e=>hH e))<|sB r<|aH (fr':=[(2,aB)]) r r<|bO ?_
   obtain rfl:=sy h25
   exact bN (rs':=[.tmp 2]) r<|cE (v:=aB) r<|bM<|aP [] r r r lr aC
noncomputable def rB (dA:bV):Option Unit :=
 some ()
theorem aAH {dA:bV}{res:Unit} (h:rB dA=some res):cX Tryz.prog 146 [.box 0 0] [AV.cs (mU dA)] (.ptrs [(0,1),(0,2),(0,3),(0,4),(0,5),(0,6),(0,7),(0,8)]) [AV.cs (mU dA)]:=by
 unfold rB at h
 refine dR (fn:=Tryz.f146) [0,2] (by kernel_rfl) Tryz.func146 r (by kernel_rfl) (by kernel_rfl)<|aJ<|sV (v:=AV.nil) r<|aH (fr':=[(0,aD)]) r r<|aX<|lJ [.q 0,.q 1,.q 2,.q 3,.q 4,.q 5,.q 6,.q 7,.q 8,.q 9,.q 10,.q 11,.q 12,.q 13,.q 14,.q 15,.q 16,.q 17,.q 18,.q 19,.q 20,.q 21,.q 22,.q 23,.n 24 [],.n 25 []] [(some 3,[0]),(some 4,[3]),(some 5,[4]),(some 6,[0]),(some 7,[6]),(some 8,[7]),(some 9,[0]),(some 10,[9]),(some 11,[10]),(some 12,[0]),(some 13,[12]),(some 14,[13]),(some 15,[0]),(some 16,[15]),(some 17,[16]),(some 18,[0]),(some 19,[18]),(some 20,[19]),(some 21,[0]),(some 22,[21]),(some 23,[22]),(some 24,[0]),(some 25,[24]),(some 26,[25]),(some 27,[5,8,11,14,17,20,23,26]),(some 2,[27])] [0,1,3,0,8,24,0,64,192,0,512,1536,0,4096,12288,0,32768,98304,0,262144,786432,0,2097152,6291456,16777215,33554431] (by kernel_rfl)<|dq r r (bK (v:=aD) r)<|dq r r (iV r)<|dq r r (bU aFA r)<|dq r r (bK (v:=aD) r)<|dq r r (iV r)<|dq r r (bU aFB r)<|dq r r (bK (v:=aD) r)<|dq r r (iV r)<|dq r r (bU aFC r)<|dq r r (bK (v:=aD) r)<|dq r r (iV r)<|dq r r (bU aFD r)<|dq r r (bK (v:=aD) r)<|dq r r (iV r)<|dq r r (bU aFE r)<|dq r r (bK (v:=aD) r)<|dq r r (iV r)<|dq r r (bU aFF r)<|dq r r (bK (v:=aD) r)<|dq r r (iV r)<|dq r r (bU aFG r)<|dq r r (bK (v:=aD) r)<|dq r r (iV r)<|dq r r (bU aFH r)<|d_n r ?_ r
 refine aOi (l:=[(0,1),(0,2),(0,3),(0,4),(0,5),(0,6),(0,7),(0,8)]) uG r r r r<|aAL<|⟨pI,?_⟩
 refine d_n r ?_ r
 refine sV (v:=.ptrs [(0,1),(0,2),(0,3),(0,4),(0,5),(0,6),(0,7),(0,8)]) r<|aAL<|⟨pI,?_⟩
 refine aAe (fr':=[(2,.ptrs [(0,1),(0,2),(0,3),(0,4),(0,5),(0,6),(0,7),(0,8)])]) r r<|bO ?_
 obtain rfl:=sy h
 exact bN (rs':=[.tmp 2]) r<|cE (v:=.ptrs [(0,1),(0,2),(0,3),(0,4),(0,5),(0,6),(0,7),(0,8)]) r<|bM<|aO6 [] r r r lr (cO r aC)
noncomputable def wS (p1o:bV) (s31:((List UInt8) × Int)):Option (dN ((List UInt8) × Int) (List UInt8)) :=
 cond (decide (s31.2<((p1o.Fatal).length:Int))) ((lO p1o.Fatal s31.2).bind fun x33=>(pB s31.1 x33).bind fun x35=>some (dN.next (x35,(IntKind.wrap .i64 (s31.2+1))))) (some (dN.out s31.1))
noncomputable def xC (p0b:(List UInt8)) (p1o:bV):Option (List UInt8) :=
 (pB p0b p1o.Queue).bind fun x1=>(rB p1o).bind fun x3=>(kN x1 p1o.ToStart).bind fun x6=>(kN x6 p1o.ToClose).bind fun x8=>(kN x8 p1o.Total).bind fun x11=>(kN x11 p1o.Beat).bind fun x13=>(kN x13 p1o.First).bind fun x16=>(kN x16 p1o.Coef).bind fun x18=>(kN x18 p1o.Most).bind fun x21=>(kN x21 p1o.Attempts).bind fun x23=>(kN x23 ((p1o.Fatal).length:Int)).bind fun x26=>(fI (wS p1o) ((x26,0))).bind fun x28=>(some x28)
theorem aG9 {p0b:(List UInt8)}{p1o:bV}{res:(List UInt8)} (h:xC p0b p1o=some res):cX Tryz.prog 131 [.c (PV.ls 1 gW p0b),.agg (AV.cs (mU p1o))] [] (AV.os 0 1 gW res) []:=by
 unfold xC at h
 refine dR (fn:=Tryz.f131) [0,1,3,4,6,8,13,14,15,16,31,32,33,34] (by kernel_rfl) Tryz.func131 r (by kernel_rfl) (by kernel_rfl)<|aJ<|kP (v:=.agg dO) (n:=0) (cs:=dO) (σ':=[dO]) r r r r r<|sV (v:=AV.nil) r<|aH (fr':=[(0,aL),(3,aD)]) r r<|aJ<|mL r<|aU r (bU aCz r)<|aU r (aR (v:=aS) rZ r r r)<|bx h fun x1 hx1 h2=>oN (cA (v:=aO) r (vB hx1) kR r r r)<|sV (v:=aO) r<|aH (fr':=[(0,aO),(3,aD)]) r r<|aX<|aX<|bA<|bx h2 fun x3 hx3 h4=>aCo (v:=.ptrs [(0,1),(0,2),(0,3),(0,4),(0,5),(0,6),(0,7),(0,8)]) (σ':=[dO]) 13 [0] [] r (aAH hx3) r r r ⟨lr,trivial⟩ (fE aDf aC) r r r<|aU r (aLo aTu r)<|mI r<|aH (fr':=[(0,aO),(3,aD),(13,.ptrs [(0,1),(0,2),(0,3),(0,4),(0,5),(0,6),(0,7),(0,8)]),(14,aI),(15,aI)]) r r<|cP<|aPy 64<|xH<|aJ<|aU r (yK (fY r r) (show _=.bool true from r))<|aH (fr':=[(0,aO),(3,aD),(13,.ptrs [(0,1),(0,2),(0,3),(0,4),(0,5),(0,6),(0,7),(0,8)]),(14,aI),(15,aI),(16,aB)]) r r<|aX<|kI r<|bI<|dB<|aX<|cP<|aJ<|aU r (oX (p:=(0,1)) uG r r r)<|aU r (kC vM r)<|sV (v:=aL8) r<|aH (fr':=[(0,aO),(3,aD),(6,aL8),(13,.ptrs [(0,1),(0,2),(0,3),(0,4),(0,5),(0,6),(0,7),(0,8)]),(14,aI),(15,aI)]) r r<|bA<|mV (v:=aO) r<|mV (v:=aL8) r<|aU r (iV r)<|aU r (aR (v:=aI) hU r r r)<|bx h4 fun x6 hx6 h7=>oN (cA (v:=aO) r (lE hx6) kR r r r)<|sV (v:=aO) r<|dQ (fr':=[(0,aO),(3,aD),(6,aL8),(13,.ptrs [(0,1),(0,2),(0,3),(0,4),(0,5),(0,6),(0,7),(0,8)]),(14,aI),(15,aI)]) r<|dI<|dB<|bA<|aU r (yK (fX r r) (show _=.int .i64 (1:Int) from r))<|mI r<|dQ (fr':=[(0,aO),(3,aD),(6,aL8),(13,.ptrs [(0,1),(0,2),(0,3),(0,4),(0,5),(0,6),(0,7),(0,8)]),(14,aI),(15,aI)]) r<|mC<|xH<|aX<|bA<|aU r (yK (fY r r) (show _=.bool true from r))<|aH (fr':=[(0,aO),(3,aD),(13,.ptrs [(0,1),(0,2),(0,3),(0,4),(0,5),(0,6),(0,7),(0,8)]),(14,aI),(15,aI),(16,aB)]) r r<|aX<|kI r<|bI<|dB<|aX<|cP<|aJ<|aU r (oX (p:=(0,2)) uG r r r)<|aU r (kC vM r)<|sV (v:=aL9) r<|aH (fr':=[(0,aO),(3,aD),(6,aL9),(13,.ptrs [(0,1),(0,2),(0,3),(0,4),(0,5),(0,6),(0,7),(0,8)]),(14,aI),(15,aI)]) r r<|bA<|mV (v:=aO) r<|mV (v:=aL9) r<|aU r (iV r)<|aU r (aR (v:=aI) hU r r r)<|bx h7 fun x8 hx8 h9=>aCo (v:=aO) (σ':=[dO]) 50010 [] [] r (lE hx8) r r r kR aC r r r<|sV (v:=aO) r<|dQ (fr':=[(0,aO),(3,aD),(6,aL9),(13,.ptrs [(0,1),(0,2),(0,3),(0,4),(0,5),(0,6),(0,7),(0,8)]),(14,aI),(15,aI)]) r<|dI<|dB<|bA<|aU r (yK (fX r r) (show _=.int .i64 (2:Int) from r))<|mI r<|dQ (fr':=[(0,aO),(3,aD),(6,aL9),(13,.ptrs [(0,1),(0,2),(0,3),(0,4),(0,5),(0,6),(0,7),(0,8)]),(14,aI),(15,aI)]) r<|mC<|xH<|aX<|bA<|aU r (yK (fY r r) (show _=.bool true from r))<|aH (fr':=[(0,aO),(3,aD),(13,.ptrs [(0,1),(0,2),(0,3),(0,4),(0,5),(0,6),(0,7),(0,8)]),(14,aI),(15,aI),(16,aB)]) r r<|aX<|kI r<|bI<|dB<|aX<|cP<|aJ<|aU r (oX (p:=(0,3)) uG r r r)<|aU r (kC vM r)<|sV (v:=aMa) r<|aH (fr':=[(0,aO),(3,aD),(6,aMa),(13,.ptrs [(0,1),(0,2),(0,3),(0,4),(0,5),(0,6),(0,7),(0,8)]),(14,aI),(15,aI)]) r r<|bA<|mV (v:=aO) r<|mV (v:=aMa) r<|aU r (iV r)<|aU r (aR (v:=aI) hU r r r)<|bx h9 fun x11 hx11 h12=>oN (cA (v:=aO) r (lE hx11) kR r r r)<|sV (v:=aO) r<|dQ (fr':=[(0,aO),(3,aD),(6,aMa),(13,.ptrs [(0,1),(0,2),(0,3),(0,4),(0,5),(0,6),(0,7),(0,8)]),(14,aI),(15,aI)]) r<|dI<|dB<|bA<|aU r (yK (fX r r) (show _=.int .i64 (3:Int) from r))<|mI r<|dQ (fr':=[(0,aO),(3,aD),(6,aMa),(13,.ptrs [(0,1),(0,2),(0,3),(0,4),(0,5),(0,6),(0,7),(0,8)]),(14,aI),(15,aI)]) r<|mC<|xH<|aX<|bA<|aU r (yK (fY r r) (show _=.bool true from r))<|aH (fr':=[(0,aO),(3,aD),(13,.ptrs [(0,1),(0,2),(0,3),(0,4),(0,5),(0,6),(0,7),(0,8)]),(14,aI),(15,aI),(16,aB)]) r r<|aX<|kI r<|bI<|dB<|aX<|cP<|aJ<|aU r (oX (p:=(0,4)) uG r r r)<|aU r (kC vM r)<|sV (v:=aMb) r<|aH (fr':=[(0,aO),(3,aD),(6,aMb),(13,.ptrs [(0,1),(0,2),(0,3),(0,4),(0,5),(0,6),(0,7),(0,8)]),(14,aI),(15,aI)]) r r<|bA<|mV (v:=aO) r<|mV (v:=aMb) r<|aU r (iV r)<|aU r (aR (v:=aI) hU r r r)<|bx h12 fun x13 hx13 h14=>aCo (v:=aO) (σ':=[dO]) 50015 [] [] r (lE hx13) r r r kR aC r r r<|sV (v:=aO) r<|dQ (fr':=[(0,aO),(3,aD),(6,aMb),(13,.ptrs [(0,1),(0,2),(0,3),(0,4),(0,5),(0,6),(0,7),(0,8)]),(14,aI),(15,aI)]) r<|dI<|dB<|bA<|aU r (yK (fX r r) (show _=.int .i64 (4:Int) from r))<|mI r<|dQ (fr':=[(0,aO),(3,aD),(6,aMb),(13,.ptrs [(0,1),(0,2),(0,3),(0,4),(0,5),(0,6),(0,7),(0,8)]),(14,aI),(15,aI)]) r<|mC<|xH<|aX<|bA<|aU r (yK (fY r r) (show _=.bool true from r))<|aH (fr':=[(0,aO),(3,aD),(13,.ptrs [(0,1),(0,2),(0,3),(0,4),(0,5),(0,6),(0,7),(0,8)]),(14,aI),(15,aI),(16,aB)]) r r<|aX<|kI r<|bI<|dB<|aX<|cP<|aJ<|aU r (oX (p:=(0,5)) uG r r r)<|aU r (kC vM r)<|sV (v:=aMc) r<|aH (fr':=[(0,aO),(3,aD),(6,aMc),(13,.ptrs [(0,1),(0,2),(0,3),(0,4),(0,5),(0,6),(0,7),(0,8)]),(14,aI),(15,aI)]) r r<|bA<|mV (v:=aO) r<|mV (v:=aMc) r<|aU r (iV r)<|aU r (aR (v:=aI) hU r r r)<|bx h14 fun x16 hx16 h17=>oN (cA (v:=aO) r (lE hx16) kR r r r)<|sV (v:=aO) r<|dQ (fr':=[(0,aO),(3,aD),(6,aMc),(13,.ptrs [(0,1),(0,2),(0,3),(0,4),(0,5),(0,6),(0,7),(0,8)]),(14,aI),(15,aI)]) r<|dI<|dB<|bA<|aU r (yK (fX r r) (show _=.int .i64 (5:Int) from r))<|mI r<|dQ (fr':=[(0,aO),(3,aD),(6,aMc),(13,.ptrs [(0,1),(0,2),(0,3),(0,4),(0,5),(0,6),(0,7),(0,8)]),(14,aI),(15,aI)]) r<|mC<|xH<|aX<|bA<|aU r (yK (fY r r) (show _=.bool true from r))<|aH (fr':=[(0,aO),(3,aD),(13,.ptrs [(0,1),(0,2),(0,3),(0,4),(0,5),(0,6),(0,7),(0,8)]),(14,aI),(15,aI),(16,aB)]) r r<|aX<|kI r<|bI<|dB<|aX<|cP<|aJ<|aU r (oX (p:=(0,6)) uG r r r)<|aU r (kC vM r)<|sV (v:=aMd) r<|aH (fr':=[(0,aO),(3,aD),(6,aMd),(13,.ptrs [(0,1),(0,2),(0,3),(0,4),(0,5),(0,6),(0,7),(0,8)]),(14,aI),(15,aI)]) r r<|bA<|mV (v:=aO) r<|mV (v:=aMd) r<|aU r (iV r)<|aU r (aR (v:=aI) hU r r r)<|bx h17 fun x18 hx18 h19=>aCo (v:=aO) (σ':=[dO]) 50020 [] [] r (lE hx18) r r r kR aC r r r<|sV (v:=aO) r<|dQ (fr':=[(0,aO),(3,aD),(6,aMd),(13,.ptrs [(0,1),(0,2),(0,3),(0,4),(0,5),(0,6),(0,7),(0,8)]),(14,aI),(15,aI)]) r<|dI<|dB<|bA<|aU r (yK (fX r r) (show _=.int .i64 (6:Int) from r))<|mI r<|dQ (fr':=[(0,aO),(3,aD),(6,aMd),(13,.ptrs [(0,1),(0,2),(0,3),(0,4),(0,5),(0,6),(0,7),(0,8)]),(14,aI),(15,aI)]) r<|mC<|xH<|aX<|bA<|aU r (yK (fY r r) (show _=.bool true from r))<|aH (fr':=[(0,aO),(3,aD),(13,.ptrs [(0,1),(0,2),(0,3),(0,4),(0,5),(0,6),(0,7),(0,8)]),(14,aI),(15,aI),(16,aB)]) r r<|aX<|kI r<|bI<|dB<|aX<|cP<|aJ<|aU r (oX (p:=(0,7)) uG r r r)<|aU r (kC vM r)<|sV (v:=aMe) r<|aH (fr':=[(0,aO),(3,aD),(6,aMe),(13,.ptrs [(0,1),(0,2),(0,3),(0,4),(0,5),(0,6),(0,7),(0,8)]),(14,aI),(15,aI)]) r r<|bA<|mV (v:=aO) r<|mV (v:=aMe) r<|aU r (iV r)<|aU r (aR (v:=aI) hU r r r)<|bx h19 fun x21 hx21 h22=>oN (cA (v:=aO) r (lE hx21) kR r r r)<|sV (v:=aO) r<|dQ (fr':=[(0,aO),(3,aD),(6,aMe),(13,.ptrs [(0,1),(0,2),(0,3),(0,4),(0,5),(0,6),(0,7),(0,8)]),(14,aI),(15,aI)]) r<|dI<|dB<|bA<|aU r (yK (fX r r) (show _=.int .i64 (7:Int) from r))<|mI r<|dQ (fr':=[(0,aO),(3,aD),(6,aMe),(13,.ptrs [(0,1),(0,2),(0,3),(0,4),(0,5),(0,6),(0,7),(0,8)]),(14,aI),(15,aI)]) r<|mC<|xH<|aX<|bA<|aU r (yK (fY r r) (show _=.bool true from r))<|aH (fr':=[(0,aO),(3,aD),(13,.ptrs [(0,1),(0,2),(0,3),(0,4),(0,5),(0,6),(0,7),(0,8)]),(14,aI),(15,aI),(16,aB)]) r r<|aX<|kI r<|bI<|dB<|aX<|cP<|aJ<|aU r (oX (p:=(0,8)) uG r r r)<|aU r (kC vM r)<|sV (v:=aMf) r ?_
 refine aH (fr':=[(0,aO),(3,aD),(6,aMf),(13,.ptrs [(0,1),(0,2),(0,3),(0,4),(0,5),(0,6),(0,7),(0,8)]),(14,aI),(15,aI)]) r r<|bA<|mV (v:=aO) r<|mV (v:=aMf) r<|aU r (iV r)<|aU r (aR (v:=aI) hU r r r)<|bx h22 fun x23 hx23 h24=>aCo (v:=aO) (σ':=[dO]) 50025 [] [] r (lE hx23) r r r kR aC r r r<|sV (v:=aO) r<|dQ (fr':=[(0,aO),(3,aD),(6,aMf),(13,.ptrs [(0,1),(0,2),(0,3),(0,4),(0,5),(0,6),(0,7),(0,8)]),(14,aI),(15,aI)]) r<|dI<|dB<|bA<|aU r (yK (fX r r) (show _=.int .i64 (8:Int) from r))<|mI r<|dQ (fr':=[(0,aO),(3,aD),(6,aMf),(13,.ptrs [(0,1),(0,2),(0,3),(0,4),(0,5),(0,6),(0,7),(0,8)]),(14,aI),(15,aI)]) r<|mC<|xH<|aX<|bA<|aU r (yK (fY r r) (show _=.bool false from r))<|aH (fr':=[(0,aO),(3,aD),(13,.ptrs [(0,1),(0,2),(0,3),(0,4),(0,5),(0,6),(0,7),(0,8)]),(14,aI),(15,aI),(16,aB)]) r r<|aX<|aAI r<|iE<|cZ<|cZ<|fT<|dB<|aJ<|mV (v:=aO) r<|aU r (bU tC r)<|aU r (aR (v:=aL) qP r r r)<|aU r (gT yV (eA r))<|bx h24 fun x26 hx26 h27=>oN (cA (v:=aO) r (lE hx26) kR r r r)<|sV (v:=aO) r<|aH (fr':=[(0,aO),(3,aD)]) r r<|aX<|aJ<|aU r (bU tC r)<|aU r (aR (v:=aL) qP r r r)<|aU r (gT yV (eA r))<|mI r<|aH (fr':=[(0,aO),(31,aL),(32,aI),(33,aI)]) r r<|bx h27 fun x28 hx28 h29=>hF lP (fun j30=>x28=j30) (fun (j30:(List UInt8))=>([(0,AV.os 0 1 gW j30)]:Fr)) (fun (j30:(List UInt8))=>([[.c (.str p1o.Queue),ci p1o.ToStart,ci p1o.ToClose,ci p1o.Total,ci p1o.Beat,ci p1o.First,ci p1o.Coef,ci p1o.Most,ci p1o.Attempts,.c (PV.ls 1 iF p1o.Fatal)]]:St)) ?_ ?_
 ·
  refine cP<|gY _ (fun (s31:((List UInt8) × Int))=>([(0,AV.os 0 1 gW s31.1),(31,.c (PV.ls 1 iF p1o.Fatal)),(32,ci ((p1o.Fatal).length:Int)),(33,ci s31.2)]:Fr)) (fun (s31:((List UInt8) × Int))=>([[.c (.str p1o.Queue),ci p1o.ToStart,ci p1o.ToClose,ci p1o.Total,ci p1o.Beat,ci p1o.First,ci p1o.Coef,ci p1o.Most,ci p1o.Attempts,.c (PV.ls 1 iF p1o.Fatal)]]:St)) hx28 (bJ [464] 1 r r r r kL4 (cO r aC)) ?_
  intro s31 st31 hs31 ho31
  unfold wS at hs31
  refine aJ<|aU r (fY r r)<|aH (fr':=[(0,aO),(31,aL),(32,aI),(33,aI),(34,aB)]) r r<|aX<|cU hs31 r (fun hb32 h32=>?_) (fun hb32 h32=>?_)
  ·
   exact bI<|dB<|aX<|cP<|aX<|bA<|bx h32 fun x33 hx33 h34=>aU r (lC (cs:=[PV.str _]) aAW (eA r) r hx33 r)<|aU r (fO (p:=PV.str _) rZ r r)<|sS r<|aH (fr':=[(0,aO),(8,aS),(31,aL),(32,aI),(33,aI)]) r r<|bA<|mV (v:=aO) r<|mS r<|bx h34 fun x35 hx35 h36=>oN (cA (v:=aO) r (vB hx35) kR r r r)<|sV (v:=aO) r<|dQ (fr':=[(0,aO),(8,aS),(31,aL),(32,aI),(33,aI)]) r<|dI<|dB<|bA<|aU r (fX r r)<|mI r<|dQ (fr':=[(0,aO),(8,aS),(31,aL),(32,aI),(33,aI)]) r<|zY _ (sy h36) (bJ [624] 1 r r r r kL4 (cO r aC))
  ·
   refine iE<|cZ<|cZ<|fT ?_
   have h37:=eS h32 ho31
   exact lB _ (sy h37) (bJ [0] 1 r r r r ⟨lr,trivial⟩ (cO r aC))
 ·
  intro j30 hj38
  subst hj38
  refine dB<|aJ<|mV (v:=aO) r<|sV (v:=aO) r<|aH (fr':=[(4,aO)]) r r<|bO ?_
  obtain rfl:=sy h29
  exact bN (rs':=[.tmp 4]) r<|cE (v:=aO) r<|bM<|aP [0] r r r lr aC
noncomputable def qL (p0b:(List UInt8)) (p1o:bV):Option (List UInt8) :=
 (lA p0b).bind fun x1=>(mQ p1o).bind fun x3=>cond (!x3) (some x1) ((xC x1 p1o).bind fun x7=>some x7)
theorem aDK {p0b:(List UInt8)}{p1o:bV}{res:(List UInt8)} (h:qL p0b p1o=some res):cX Tryz.prog 56 [.c (PV.ls 1 gW p0b),.agg (AV.cs (mU p1o))] [] (AV.os 0 1 gW res) []:=by
 unfold qL at h
 refine dR (fn:=Tryz.f56) [0,1,3,4,5,10] (by kernel_rfl) Tryz.func56 r (by kernel_rfl) (by kernel_rfl)<|aJ<|kP (v:=.agg dO) (n:=0) (cs:=dO) (σ':=[dO]) r r r r r<|sV (v:=AV.nil) r<|aH (fr':=[(0,aL),(3,aD)]) r r<|aJ<|mL r<|bx h fun x1 hx1 h2=>oN (cA (v:=aO) r (qG hx1) ⟨lr,trivial⟩ r r r)<|sV (v:=aO) r<|aH (fr':=[(3,aD),(5,aO)]) r r<|aX<|aJ<|aU r (eL (us:=dO) zW r r r r)<|bx h2 fun x3 hx3 h4=>oN (cA (v:=aB) r (wP hx3) ⟨(cM r aDf),trivial⟩ r r r)<|aU r (gX r)<|aH (fr':=[(3,aD),(5,aO),(10,aB)]) r r<|cU h4 r (fun hb5 h5=>?_) (fun hb5 h5=>?_)
 ·
  refine aJ<|mV (v:=aO) r<|sV (v:=aO) r<|aH (fr':=[(4,aO)]) r r<|bO<|aN ?_
  obtain rfl:=sy h5
  exact bN (rs':=[.tmp 4]) r<|cE (v:=aO) r<|bM<|aP [112] r r r lr aC
 ·
  refine bI<|dB<|aJ<|mV (v:=aO) r<|aU r (eL (us:=dO) zW r r r r)<|bx h5 fun x7 hx7 h8=>oN (cA (v:=aO) r (aG9 hx7) ⟨lr,(cM r aDf),trivial⟩ r r r)<|sV (v:=aO) r<|aH (fr':=[(4,aO)]) r r<|bO ?_
  obtain rfl:=sy h8
  exact bN (rs':=[.tmp 4]) r<|cE (v:=aO) r<|bM<|aP [224] r r r lr aC
noncomputable def rG (p1e:bW) (s4:((List UInt8) × Int)):Option (dN ((List UInt8) × Int) (List UInt8)) :=
 cond (decide (s4.2<((([p1e.ID,p1e.Kind,p1e.Time,p1e.Seq,p1e.Ref,p1e.N,p1e.Code]:List Int)).length:Int))) ((lO ([p1e.ID,p1e.Kind,p1e.Time,p1e.Seq,p1e.Ref,p1e.N,p1e.Code]:List Int) s4.2).bind fun x6=>(kN s4.1 x6).bind fun x8=>some (dN.next (x8,(IntKind.wrap .i64 (s4.2+1))))) (some (dN.out s4.1))
noncomputable def uT (p0b:(List UInt8)) (p1e:bW):Option (List UInt8) :=
 (fI (rG p1e) ((p0b,0))).bind fun x1=>((pB x1 p1e.Name).bind fun x12=>(pB x12 p1e.Key).bind fun x14=>(aAE x14 p1e.Data).bind fun x16=>(qL x16 p1e.Opts).bind fun x18=>some x18)
theorem aFM {p0b:(List UInt8)}{p1e:bW}{res:(List UInt8)} (h:uT p0b p1e=some res):cX Tryz.prog 18 [.c (PV.ls 1 gW p0b),.agg (AV.cs (eM p1e))] [] (AV.os 0 1 gW res) []:=by
 unfold uT at h
 refine dR (fn:=Tryz.f18) [0,1,3,4,6,21,22,23,24] (by kernel_rfl) Tryz.func18 r (by kernel_rfl) (by kernel_rfl)<|aJ<|kP (v:=.agg aG) (n:=0) (cs:=aG) (σ':=[aG]) r r r r r<|sV (v:=AV.nil) r<|aH (fr':=[(0,aL),(3,aD)]) r r<|aX<|aJ<|aU r (bU aG5 r)<|aU r (aR (v:=aI) hU r r r)<|aU r (bU aAU r)<|aU r (aR (v:=aI) hU r r r)<|aU r (bU aG6 r)<|aU r (aR (v:=aI) hU r r r)<|aU r (bU aCA r)<|aU r (aR (v:=aI) hU r r r)<|aU r (bU aCB r)<|aU r (aR (v:=aI) hU r r r)<|aU r (bU aAC r)<|aU r (aR (v:=aI) hU r r r)<|aU r (bU aB7 r)<|aU r (aR (v:=aI) hU r r r)<|uU (row:=(aG4 .i64)) (xs:=([p1e.ID,p1e.Kind,p1e.Time,p1e.Seq,p1e.Ref,p1e.N,p1e.Code]:List Int)) (rows:=[[_],[_],[_],[_],[_],[_],[_]]) (σ':=[aG]) [0] aBH r r r (fR r (fR r (fR r (fR r (fR r (fR r (fR r oL))))))) r r<|aU r (gT aRV (nB r))<|mI r<|aH (fr':=[(0,aL),(3,aD),(21,aO),(22,aI),(23,aI)]) r r<|bx h fun x1 hx1 h2=>hF lP (fun j3=>x1=j3) (fun (j3:(List UInt8))=>([(0,.c (PV.ls 1 gW j3)),(3,aD)]:Fr)) (fun (j3:(List UInt8))=>([[ci p1e.ID,ci p1e.Kind,ci p1e.Time,ci p1e.Seq,ci p1e.Ref,ci p1e.N,ci p1e.Code,.c (.str p1e.Name),.c (.str p1e.Key),ci p1e.Data.Kind,ci p1e.Data.Int,.c (.str p1e.Data.Text),.c (PV.ls 5 cF p1e.Data.Items),.c (PV.ls 1 iF p1e.Data.Keys),.c (.str p1e.Opts.Queue),ci p1e.Opts.ToStart,ci p1e.Opts.ToClose,ci p1e.Opts.Total,ci p1e.Opts.Beat,ci p1e.Opts.First,ci p1e.Opts.Coef,ci p1e.Opts.Most,ci p1e.Opts.Attempts,.c (PV.ls 1 iF p1e.Opts.Fatal)]]:St)) ?_ ?_
 ·
  refine cP<|gY _ (fun (s4:((List UInt8) × Int))=>([(0,.c (PV.ls 1 gW s4.1)),(3,aD),(21,AV.os 0 1 (aG4 .i64) ([p1e.ID,p1e.Kind,p1e.Time,p1e.Seq,p1e.Ref,p1e.N,p1e.Code]:List Int)),(22,ci ((([p1e.ID,p1e.Kind,p1e.Time,p1e.Seq,p1e.Ref,p1e.N,p1e.Code]:List Int)).length:Int)),(23,ci s4.2)]:Fr)) (fun (s4:((List UInt8) × Int))=>([[ci p1e.ID,ci p1e.Kind,ci p1e.Time,ci p1e.Seq,ci p1e.Ref,ci p1e.N,ci p1e.Code,.c (.str p1e.Name),.c (.str p1e.Key),ci p1e.Data.Kind,ci p1e.Data.Int,.c (.str p1e.Data.Text),.c (PV.ls 5 cF p1e.Data.Items),.c (PV.ls 1 iF p1e.Data.Keys),.c (.str p1e.Opts.Queue),ci p1e.Opts.ToStart,ci p1e.Opts.ToClose,ci p1e.Opts.Total,ci p1e.Opts.Beat,ci p1e.Opts.First,ci p1e.Opts.Coef,ci p1e.Opts.Most,ci p1e.Opts.Attempts,.c (PV.ls 1 iF p1e.Opts.Fatal)]]:St)) hx1 (bJ [336] 1 r r r r kL5 (cO r aC)) ?_
  intro s4 st4 hs4 ho4
  unfold rG at hs4
  refine aJ<|aU r (fY r r)<|aH (fr':=[(0,aL),(3,aD),(21,aO),(22,aI),(23,aI),(24,aB)]) r r<|aX<|cU hs4 r (fun hb5 h5=>?_) (fun hb5 h5=>?_)
  ·
   exact bI<|dB<|aX<|cP<|aX<|bA<|bx h5 fun x6 hx6 h7=>aU r (lC (cs:=[PV.int _ _]) aBH (nB r) r hx6 r)<|aU r (fO (p:=PV.int _ _) hU r r)<|sI r<|aH (fr':=[(0,aL),(3,aD),(6,aI),(21,aO),(22,aI),(23,aI)]) r r<|bA<|mL r<|mI r<|bx h7 fun x8 hx8 h9=>oN (cA (v:=aO) r (lE hx8) kR r r r)<|sV (v:=aO) r<|dQ (fr':=[(0,aO),(3,aD),(6,aI),(21,aO),(22,aI),(23,aI)]) r<|dI<|dB<|bA<|aU r (fX r r)<|mI r<|dQ (fr':=[(0,aO),(3,aD),(6,aI),(21,aO),(22,aI),(23,aI)]) r<|zY _ (sy h9) (bJ [0] 1 r r r r kL5 (cO r aC))
  ·
   refine iE<|cZ<|cZ<|fT ?_
   have h10:=eS h5 ho4
   exact lB _ (sy h10) (bJ [] 1 r r r r kR (cO r aC))
 ·
  intro j3 hj11
  subst hj11
  refine dB<|aJ<|mL r<|aU r (bU xP r)<|aU r (aR (v:=aS) rZ r r r)<|bx h2 fun x12 hx12 h13=>oN (cA (v:=aO) r (vB hx12) kR r r r)<|sV (v:=aO) r<|aH (fr':=[(0,aO),(3,aD)]) r r<|aJ<|mV (v:=aO) r<|aU r (bU xQ r)<|aU r (aR (v:=aS) rZ r r r)<|bx h13 fun x14 hx14 h15=>oN (cA (v:=aO) r (vB hx14) kR r r r)<|sV (v:=aO) r<|aH (fr':=[(0,aO),(3,aD)]) r r<|aJ<|mV (v:=aO) r<|aU r (bU aAV r)<|aU r (eL (us:=cJ) jC r r r r)<|bx h15 fun x16 hx16 h17=>oN (cA (v:=aO) r (aJD hx16) ⟨lr,(cM r kR5),trivial⟩ r r r)<|sV (v:=aO) r<|aH (fr':=[(0,aO),(3,aD)]) r r<|aJ<|mV (v:=aO) r<|aU r (bU aBG r)<|aU r (eL (us:=dO) zW r r r r)<|bx h17 fun x18 hx18 h19=>oN (cA (v:=aO) r (aDK hx18) ⟨lr,(cM r aDf),trivial⟩ r r r)<|sV (v:=aO) r<|aH (fr':=[(4,aO)]) r r<|bO ?_
  obtain rfl:=sy h19
  exact bN (rs':=[.tmp 4]) r<|cE (v:=aO) r<|bM<|aP [736] r r r lr aC
noncomputable def aAD (aHF:aF→Option Int) (p0v:aF) (s4:(Int × Int)):Option (dN (Int × Int) Int) :=
 cond (decide (s4.2<((p0v.Items).length:Int))) ((lO p0v.Items s4.2).bind fun x6=>(aHF x6).bind fun x8=>some (dN.next ((if x8 > s4.1 then x8 else s4.1),(IntKind.wrap .i64 (s4.2+1))))) (some (dN.out s4.1))
noncomputable def vO:Nat→aF→Option Int
 | 0,_=>none
 | n+1,p0v =>
  (fI (aAD (vO n) p0v) ((0,0))).bind fun x1=>(some (IntKind.wrap .i64 (x1+1)))
theorem aJu:∀ n:Nat,(∀ {p0v:aF}{res:Int},vO n p0v=some res→cX Tryz.prog 191 [.agg (AV.cs (eR p0v))] [] (ci res) []):=by
 intro n
 induction n with
 | zero=>exact fun {p0v res} h=>absurd h (by simp [vO])
 | succ n ih =>
  have ih_value_Depth:=@ih
  intro p0v res h
  rw [vO] at h
  refine dR (fn:=Tryz.f191) [0,1,2,3,5,7,8,9,10] (by kernel_rfl) Tryz.func191 r (by kernel_rfl) (by kernel_rfl)<|aJ<|kP (v:=.agg cJ) (n:=0) (cs:=cJ) (σ':=[cJ]) r r r r r<|sI r<|aH (fr':=[(1,aD)]) r r<|aJ<|sI r<|aH (fr':=[(1,aD),(3,aI)]) r r<|aX<|aX<|bA<|aU r (bU iB r)<|aU r (aR (v:=aL) nS r r r)<|aU r (gT vL (eA r))<|mI r<|aH (fr':=[(3,aI),(7,aL),(8,aI),(9,aI)]) r r<|bx h fun x1 hx1 h2=>hF lP (fun j3=>x1=j3) (fun (j3:Int)=>([(3,ci j3)]:Fr)) (fun (j3:Int)=>([[ci p0v.Kind,ci p0v.Int,.c (.str p0v.Text),.c (PV.ls 5 cF p0v.Items),.c (PV.ls 1 iF p0v.Keys)]]:St)) ?_ ?_
  ·
   refine cP<|gY _ (fun (s4:(Int × Int))=>([(3,ci s4.1),(7,.c (PV.ls 5 cF p0v.Items)),(8,ci ((p0v.Items).length:Int)),(9,ci s4.2)]:Fr)) (fun (s4:(Int × Int))=>([[ci p0v.Kind,ci p0v.Int,.c (.str p0v.Text),.c (PV.ls 5 cF p0v.Items),.c (PV.ls 1 iF p0v.Keys)]]:St)) hx1 (bJ [] 1 r r r r kL4 (cO r aC)) ?_
   intro s4 st4 hs4 ho4
   unfold aAD at hs4
   refine aJ<|aU r (fY r r)<|aH (fr':=[(3,aI),(7,aL),(8,aI),(9,aI),(10,aB)]) r r<|aX<|cU hs4 r (fun hb5 h5=>?_) (fun hb5 h5=>?_)
   ·
    exact bI<|dB<|aX<|cP<|aX<|bA<|bx h5 fun x6 hx6 h7=>aU r (lC (cs:=[PV.int _ _,PV.int _ _,PV.str _,PV.ls _ _ _,PV.ls _ _ _]) uF (eA r) r hx6 (dZ _))<|aU r (nL (us:=[PV.int _ _,PV.int _ _,PV.str _,PV.ls _ _ _,PV.ls _ _ _]) jC r r r)<|jV (n:=1) (cs:=bY) (σ':=[cJ,bY]) aDE r r r<|cN (v:=.agg cJ) (us:=cJ) (cs:=bY) (σ':=[cJ,cJ]) r jC r r r r r r r r<|aH (fr':=[(3,aI),(5,bD),(7,aL),(8,aI),(9,aI)]) r r<|bA<|mI r<|aU r (eL (us:=cJ) jC r r r r)<|bx h7 fun x8 hx8 h9=>oN (cA (v:=aI) r (ih_value_Depth hx8) ⟨(cM r kR5),trivial⟩ r r r)<|aU r (aVF r r)<|sI r<|dQ (fr':=[(3,aI),(5,bD),(7,aL),(8,aI),(9,aI)]) r<|dI<|dB<|bA<|aU r (fX r r)<|mI r<|dQ (fr':=[(3,aI),(5,bD),(7,aL),(8,aI),(9,aI)]) r<|zY _ (sy h9) (bJ [] 1 r r r r kL4 (cO r aC))
   ·
    refine iE<|cZ<|cZ<|fT ?_
    have h10:=eS h5 ho4
    exact lB _ (sy h10) (bJ [] 1 r r r r ⟨lr,trivial⟩ (cO r aC))
  ·
   intro j3 hj11
   subst hj11
   refine dB<|aJ<|mI r<|aU r (fX r r)<|sI r<|aH (fr':=[(2,aI)]) r r<|bO ?_
   obtain rfl:=sy h2
   exact bN (rs':=[.tmp 2]) r<|cE (v:=aI) r<|bM<|aP [] r r r lr aC
noncomputable def aEx (p0v:aF):Option Int:=lim fun n=>vO n p0v
theorem aKi {p0v:aF}{res:Int} (h:aEx p0v=some res):cX Tryz.prog 191 [.agg (AV.cs (eR p0v))] [] (ci res) []:=by
 obtain ⟨n,hn⟩:=qN h
 exact (aJu n) hn
noncomputable def aA5 (aI8:aF→Option Int) (p0v:aF) (s4:(Int × Int)):Option (dN (Int × Int) Int) :=
 cond (decide (s4.2<((p0v.Items).length:Int))) ((lO p0v.Items s4.2).bind fun x6=>(aI8 x6).bind fun x8=>some (dN.next ((IntKind.wrap .i64 (s4.1+x8)),(IntKind.wrap .i64 (s4.2+1))))) (some (dN.out s4.1))
noncomputable def xS:Nat→aF→Option Int
 | 0,_=>none
 | n+1,p0v =>
  (fI (aA5 (xS n) p0v) ((1,0))).bind fun x1=>(some x1)
theorem aJ6:∀ n:Nat,(∀ {p0v:aF}{res:Int},xS n p0v=some res→cX Tryz.prog 192 [.agg (AV.cs (eR p0v))] [] (ci res) []):=by
 intro n
 induction n with
 | zero=>exact fun {p0v res} h=>absurd h (by simp [xS])
 | succ n ih =>
  have ih_value_Size:=@ih
  intro p0v res h
  rw [xS] at h
  refine dR (fn:=Tryz.f192) [0,1,2,3,5,7,8,9,10] (by kernel_rfl) Tryz.func192 r (by kernel_rfl) (by kernel_rfl)<|aJ<|kP (v:=.agg cJ) (n:=0) (cs:=cJ) (σ':=[cJ]) r r r r r<|sI r<|aH (fr':=[(1,aD)]) r r<|aJ<|sI r<|aH (fr':=[(1,aD),(3,aI)]) r r<|aX<|aX<|bA<|aU r (bU iB r)<|aU r (aR (v:=aL) nS r r r)<|aU r (gT vL (eA r))<|mI r<|aH (fr':=[(3,aI),(7,aL),(8,aI),(9,aI)]) r r<|bx h fun x1 hx1 h2=>hF lP (fun j3=>x1=j3) (fun (j3:Int)=>([(3,ci j3)]:Fr)) (fun (j3:Int)=>([[ci p0v.Kind,ci p0v.Int,.c (.str p0v.Text),.c (PV.ls 5 cF p0v.Items),.c (PV.ls 1 iF p0v.Keys)]]:St)) ?_ ?_
  ·
   refine cP<|gY _ (fun (s4:(Int × Int))=>([(3,ci s4.1),(7,.c (PV.ls 5 cF p0v.Items)),(8,ci ((p0v.Items).length:Int)),(9,ci s4.2)]:Fr)) (fun (s4:(Int × Int))=>([[ci p0v.Kind,ci p0v.Int,.c (.str p0v.Text),.c (PV.ls 5 cF p0v.Items),.c (PV.ls 1 iF p0v.Keys)]]:St)) hx1 (bJ [] 1 r r r r kL4 (cO r aC)) ?_
   intro s4 st4 hs4 ho4
   unfold aA5 at hs4
   refine aJ<|aU r (fY r r)<|aH (fr':=[(3,aI),(7,aL),(8,aI),(9,aI),(10,aB)]) r r<|aX<|cU hs4 r (fun hb5 h5=>?_) (fun hb5 h5=>?_)
   ·
    exact bI<|dB<|aX<|cP<|aX<|bA<|bx h5 fun x6 hx6 h7=>aU r (lC (cs:=[PV.int _ _,PV.int _ _,PV.str _,PV.ls _ _ _,PV.ls _ _ _]) uF (eA r) r hx6 (dZ _))<|aU r (nL (us:=[PV.int _ _,PV.int _ _,PV.str _,PV.ls _ _ _,PV.ls _ _ _]) jC r r r)<|jV (n:=1) (cs:=bY) (σ':=[cJ,bY]) aDE r r r<|cN (v:=.agg cJ) (us:=cJ) (cs:=bY) (σ':=[cJ,cJ]) r jC r r r r r r r r<|aH (fr':=[(3,aI),(5,bD),(7,aL),(8,aI),(9,aI)]) r r<|bA<|mI r<|aU r (eL (us:=cJ) jC r r r r)<|bx h7 fun x8 hx8 h9=>oN (cA (v:=aI) r (ih_value_Size hx8) ⟨(cM r kR5),trivial⟩ r r r)<|aU r (fX r r)<|sI r<|dQ (fr':=[(3,aI),(5,bD),(7,aL),(8,aI),(9,aI)]) r<|dI<|dB<|bA<|aU r (fX r r)<|mI r<|dQ (fr':=[(3,aI),(5,bD),(7,aL),(8,aI),(9,aI)]) r<|zY _ (sy h9) (bJ [] 1 r r r r kL4 (cO r aC))
   ·
    refine iE<|cZ<|cZ<|fT ?_
    have h10:=eS h5 ho4
    exact lB _ (sy h10) (bJ [] 1 r r r r ⟨lr,trivial⟩ (cO r aC))
  ·
   intro j3 hj11
   subst hj11
   refine dB<|aJ<|mI r<|sI r<|aH (fr':=[(2,aI)]) r r<|bO ?_
   obtain rfl:=sy h2
   exact bN (rs':=[.tmp 2]) r<|cE (v:=aI) r<|bM<|aP [] r r r lr aC
noncomputable def aFJ (p0v:aF):Option Int:=lim fun n=>xS n p0v
theorem aLM {p0v:aF}{res:Int} (h:aFJ p0v=some res):cX Tryz.prog 192 [.agg (AV.cs (eR p0v))] [] (ci res) []:=by
 obtain ⟨n,hn⟩:=qN h
 exact (aJ6 n) hn
noncomputable def aA6 (p0k:(List UInt8)):Option Bool :=
 some (decide (4096<((p0k).length:Int)))
theorem aHS {p0k:(List UInt8)}{res:Bool} (h:aA6 p0k=some res):cX Tryz.prog 208 [.c (.str p0k)] [] (.c (.bool res)) []:=by
 unfold aA6 at h
 refine dR (fn:=Tryz.f208) [0,2] (by kernel_rfl) Tryz.func208 r (by kernel_rfl) (by kernel_rfl)<|aJ<|sB r<|aH (fr':=[(0,aS)]) r r<|aJ<|mS r<|aU r (nR zZ r)<|aU r (qW r r)<|sB r<|aH (fr':=[(2,aB)]) r r<|bO ?_
 obtain rfl:=sy h
 exact bN (rs':=[.tmp 2]) r<|cE (v:=aB) r<|bM<|aP [] r r r lr aC
noncomputable def iD (p0s:(List (List UInt8))) (s4:Int):Option (dN Int (Fl Int Unit)) :=
 cond (decide (s4<((p0s).length:Int))) ((lO p0s s4).bind fun x6=>(aA6 x6).bind fun x8=>cond x8 (some (dN.out (Fl.done s4))) (some (dN.next (IntKind.wrap .i64 (s4+1))))) (some (dN.out (Fl.go ())))
noncomputable def jX (p0s:(List (List UInt8))):Option Int :=
 (fI (iD p0s) (0)).bind fun x1=>Fl.next x1 (fun j3=>(some (-1)))
theorem uD {p0s:(List (List UInt8))}{res:Int} (h:jX p0s=some res):cX Tryz.prog 206 [.c (PV.ls 1 iF p0s),.fn 208 []] [] (ci res) []:=by
 unfold jX at h
 refine dR (fn:=Tryz.f206) [0,1,4,5,7,8,9,16] (by kernel_rfl) Tryz.func206 r (by kernel_rfl) (by kernel_rfl)<|aJ<|sI r<|aH (fr':=[(0,aL),(1,.fn _ [])]) r r<|aX<|aJ<|mL r<|aU r (gT yV (eA r))<|mI r<|aH (fr':=[(0,aL),(1,.fn _ []),(7,aI),(8,aI)]) r r<|bx h fun x1 hx1 h2=>hF lP (fun j3=>x1=Fl.go j3) (fun (j3:Unit)=>([]:Fr)) (fun (j3:Unit)=>([]:St)) ?_ ?_
 ·
  refine cP<|gY _ (fun (s4:Int)=>([(0,.c (PV.ls 1 iF p0s)),(1,.fn 208 []),(7,ci ((p0s).length:Int)),(8,ci s4)]:Fr)) (fun (s4:Int)=>([]:St)) hx1 (bJ [] 0 r r r r kL4 aC) ?_
  intro s4 st4 hs4 ho4
  unfold iD at hs4
  refine aJ<|aU r (fY r r)<|aH (fr':=[(0,aL),(1,.fn _ []),(7,aI),(8,aI),(9,aB)]) r r<|aX<|cU hs4 r (fun hb5 h5=>?_) (fun hb5 h5=>?_)
  ·
   refine bI<|dB<|aX<|cP<|aJ<|mI r<|sI r<|aH (fr':=[(0,aL),(1,.fn _ []),(5,aI),(7,aI),(8,aI)]) r r<|aJ<|mV (v:=.fn _ []) r<|mL r<|mI r<|bx h5 fun x6 hx6 h7=>aU r (lC (cs:=[PV.str _]) aAW (eA r) r hx6 r)<|aU r (fO (p:=PV.str _) rZ r r)<|bx h7 fun x8 hx8 h9=>oN (cA (v:=aB) r (aHS hx8) ⟨lr,trivial⟩ r r r)<|aH (fr':=[(0,aL),(1,.fn _ []),(5,aI),(7,aI),(8,aI),(16,aB)]) r r<|cU h9 r (fun hb10 h10=>?_) (fun hb10 h10=>?_)
   ·
    refine aJ<|mI r<|sI r<|aH (fr':=[(4,aI)]) r r<|bO<|bT<|aN<|aN<|bT<|aN<|aN ?_
    have h11:=eS h10 ho4
    have h12:=gI h11 h2
    obtain rfl:=sy h12
    exact bN (rs':=[.tmp 4]) r<|cE (v:=aI) r<|bM<|aP [] r r r lr aC
   ·
    exact bI<|dI<|dB<|bA<|aU r (fX r r)<|mI r<|dQ (fr':=[(0,aL),(1,.fn _ []),(5,aI),(7,aI),(8,aI),(16,aB)]) r<|zY _ (sy h10) (bJ [] 0 r r r r kL4 aC)
  ·
   refine iE<|cZ<|cZ<|fT ?_
   have h14:=eS h5 ho4
   exact lB _ (sy h14) (bJ [] 0 r r r r trivial aC)
 ·
  intro j3 hj15
  have h15:=nY hj15 h2
  refine dB<|aJ<|sI r<|aH (fr':=[(4,aI)]) r r<|bO ?_
  obtain rfl:=sy h15
  exact bN (rs':=[.tmp 4]) r<|cE (v:=aI) r<|bM<|aP [] r r r lr aC
noncomputable def iC (p0s:(List (List UInt8))):Option Bool :=
 (jX p0s).bind fun x1=>some (decide (0≤x1))
theorem tB {p0s:(List (List UInt8))}{res:Bool} (h:iC p0s=some res):cX Tryz.prog 178 [.c (PV.ls 1 iF p0s),.fn 208 []] [] (.c (.bool res)) []:=by
 unfold iC at h
 refine dR (fn:=Tryz.f178) [0,1,4] (by kernel_rfl) Tryz.func178 r (by kernel_rfl) (by kernel_rfl)<|aJ<|sB r<|aH (fr':=[(0,aL),(1,.fn _ [])]) r r<|aJ<|mL r<|mV (v:=.fn _ []) r<|bx h fun x1 hx1 h2=>oN (cA (v:=aI) r (uD hx1) kR r r r)<|aU r (uE r r)<|sB r<|aH (fr':=[(4,aB)]) r r<|bO ?_
 obtain rfl:=sy h2
 exact bN (rs':=[.tmp 4]) r<|cE (v:=aB) r<|bM<|aP [] r r r lr aC
noncomputable def gM (aGh:aF→Option Bool) (p0s:(List aF)) (s4:Int):Option (dN Int (Fl Int Unit)) :=
 cond (decide (s4<((p0s).length:Int))) ((lO p0s s4).bind fun x6=>(aGh x6).bind fun x8=>cond x8 (some (dN.out (Fl.done s4))) (some (dN.next (IntKind.wrap .i64 (s4+1))))) (some (dN.out (Fl.go ())))
mutual
noncomputable def fK:Nat→(List aF)→Option Bool
 | 0,_=>none
 | n+1,p0s =>
  ((gS n) p0s).bind fun x1=>some (decide (0≤x1))
noncomputable def gS:Nat→(List aF)→Option Int
 | 0,_=>none
 | n+1,p0s =>
  (fI (gM (vA n) p0s) (0)).bind fun x1=>Fl.next x1 (fun j3=>(some (-1)))
noncomputable def vQ:Nat→aF→Option Bool
 | 0,_=>none
 | n+1,p0v =>
  (gd ((decide (4096<((p0v.Text).length:Int)))==false) (iC p0v.Keys)).bind fun x1=>cond (cond (decide (4096<((p0v.Text).length:Int))) true x1) (some false) (((fK n) p0v.Items).bind fun x5=>some (!x5))
noncomputable def vA:Nat→aF→Option Bool
 | 0,_=>none
 | n+1,p0x =>
  ((vQ n) p0x).bind fun x1=>some (!x1)
end
theorem qR:∀ n:Nat,(∀ {p0s:(List aF)}{res:Bool},fK n p0s=some res→cX Tryz.prog 176 [.c (PV.ls 5 cF p0s),.fn 209 []] [] (.c (.bool res)) [])∧(∀ {p0s:(List aF)}{res:Int},gS n p0s=some res→cX Tryz.prog 205 [.c (PV.ls 5 cF p0s),.fn 209 []] [] (ci res) [])∧(∀ {p0v:aF}{res:Bool},vQ n p0v=some res→cX Tryz.prog 193 [.agg (AV.cs (eR p0v))] [] (.c (.bool res)) [])∧(∀ {p0x:aF}{res:Bool},vA n p0x=some res→cX Tryz.prog 209 [.agg (AV.cs (eR p0x))] [] (.c (.bool res)) []):=by
 intro n
 induction n with
 | zero=>exact ⟨fun {p0s res} h=>absurd h (by simp [fK]),fun {p0s res} h=>absurd h (by simp [gS]),fun {p0v res} h=>absurd h (by simp [vQ]),fun {p0x res} h=>absurd h (by simp [vA])⟩
 | succ n ih =>
  obtain ⟨ih_slices_ContainsFunc_api_Value_api_Value_value_short_2,ih_slices_IndexFunc_api_Value_api_Value_value_short_2,ih_value_short,ih_value_short_2⟩:=ih
  refine ⟨?_,?_,?_,?_⟩
  ·
   intro p0s res h
   rw [fK] at h
   refine dR (fn:=Tryz.f176) [0,1,4] (by kernel_rfl) Tryz.func176 r (by kernel_rfl) (by kernel_rfl)<|aJ<|sB r<|aH (fr':=[(0,aL),(1,.fn _ [])]) r r<|aJ<|mL r<|mV (v:=.fn _ []) r<|bx h fun x1 hx1 h2=>oN (cA (v:=aI) r (ih_slices_IndexFunc_api_Value_api_Value_value_short_2 hx1) kR r r r)<|aU r (uE r r)<|sB r<|aH (fr':=[(4,aB)]) r r<|bO ?_
   obtain rfl:=sy h2
   exact bN (rs':=[.tmp 4]) r<|cE (v:=aB) r<|bM<|aP [] r r r lr aC
  ·
   intro p0s res h
   rw [gS] at h
   refine dR (fn:=Tryz.f205) [0,1,4,5,7,8,9,16] (by kernel_rfl) Tryz.func205 r (by kernel_rfl) (by kernel_rfl)<|aJ<|sI r<|aH (fr':=[(0,aL),(1,.fn _ [])]) r r<|aX<|aJ<|mL r<|aU r (gT vL (eA r))<|mI r<|aH (fr':=[(0,aL),(1,.fn _ []),(7,aI),(8,aI)]) r r<|bx h fun x1 hx1 h2=>hF lP (fun j3=>x1=Fl.go j3) (fun (j3:Unit)=>([]:Fr)) (fun (j3:Unit)=>([]:St)) ?_ ?_
   ·
    refine cP<|gY _ (fun (s4:Int)=>([(0,.c (PV.ls 5 cF p0s)),(1,.fn 209 []),(7,ci ((p0s).length:Int)),(8,ci s4)]:Fr)) (fun (s4:Int)=>([]:St)) hx1 (bJ [] 0 r r r r kL4 aC) ?_
    intro s4 st4 hs4 ho4
    unfold gM at hs4
    refine aJ<|aU r (fY r r)<|aH (fr':=[(0,aL),(1,.fn _ []),(7,aI),(8,aI),(9,aB)]) r r<|aX<|cU hs4 r (fun hb5 h5=>?_) (fun hb5 h5=>?_)
    ·
     refine bI<|dB<|aX<|cP<|aJ<|mI r<|sI r<|aH (fr':=[(0,aL),(1,.fn _ []),(5,aI),(7,aI),(8,aI)]) r r<|aJ<|mV (v:=.fn _ []) r<|mL r<|mI r<|bx h5 fun x6 hx6 h7=>aU r (lC (cs:=[PV.int _ _,PV.int _ _,PV.str _,PV.ls _ _ _,PV.ls _ _ _]) uF (eA r) r hx6 (dZ _))<|aU r (nL (us:=[PV.int _ _,PV.int _ _,PV.str _,PV.ls _ _ _,PV.ls _ _ _]) jC r r r)<|bx h7 fun x8 hx8 h9=>oN (cA (v:=aB) r (ih_value_short_2 hx8) ⟨(cM r kR5),trivial⟩ r r r)<|aH (fr':=[(0,aL),(1,.fn _ []),(5,aI),(7,aI),(8,aI),(16,aB)]) r r<|cU h9 r (fun hb10 h10=>?_) (fun hb10 h10=>?_)
     ·
      refine aJ<|mI r<|sI r<|aH (fr':=[(4,aI)]) r r<|bO<|bT<|aN<|aN<|bT<|aN<|aN ?_
      have h11:=eS h10 ho4
      have h12:=gI h11 h2
      obtain rfl:=sy h12
      exact bN (rs':=[.tmp 4]) r<|cE (v:=aI) r<|bM<|aP [] r r r lr aC
     ·
      exact bI<|dI<|dB<|bA<|aU r (fX r r)<|mI r<|dQ (fr':=[(0,aL),(1,.fn _ []),(5,aI),(7,aI),(8,aI),(16,aB)]) r<|zY _ (sy h10) (bJ [] 0 r r r r kL4 aC)
    ·
     refine iE<|cZ<|cZ<|fT ?_
     have h14:=eS h5 ho4
     exact lB _ (sy h14) (bJ [] 0 r r r r trivial aC)
   ·
    intro j3 hj15
    have h15:=nY hj15 h2
    refine dB<|aJ<|sI r<|aH (fr':=[(4,aI)]) r r<|bO ?_
    obtain rfl:=sy h15
    exact bN (rs':=[.tmp 4]) r<|cE (v:=aI) r<|bM<|aP [] r r r lr aC
  ·
   intro p0v res h
   rw [vQ] at h
   refine dR (fn:=Tryz.f193) [0,1,2,11] (by kernel_rfl) Tryz.func193 r (by kernel_rfl) (by kernel_rfl)<|aJ<|kP (v:=.agg cJ) (n:=0) (cs:=cJ) (σ':=[cJ]) r r r r r<|sB r<|aH (fr':=[(1,aD)]) r r<|aX<|aJ<|aU r (bU uA r)<|aU r (aR (v:=aS) rZ r r r)<|aU r (nR zZ r)<|aU r (qW r r)<|mB r<|og r r r (fun hc=>(bU oI r))<|og r r r (fun hc=>(aR (v:=aL) qP (gx r hc) r r))<|bx h fun x1 hx1 h2=>zG r r (fun hc=>cA (v:=aB) r (tB (dM hx1 hc)) ⟨(iA (gx r hc) lr),lr,trivial⟩ (iO (by repeat (first | exact fU | refine bG r ?_ | refine bG (vD r) ?_ | refine bG vC ?_))) r r) ?_
   refine aU r (dK r r r (fun e=>hH e))<|aH (fr':=[(1,aD),(11,aB)]) r r<|cU h2 r (fun hb3 h3=>?_) (fun hb3 h3=>?_)
   ·
    refine aJ<|sB r<|aH (fr':=[(2,aB)]) r r<|bO<|aN ?_
    obtain rfl:=sy h3
    exact bN (rs':=[.tmp 2]) r<|cE (v:=aB) r<|bM<|aP [] r r r lr aC
   ·
    refine bI<|dB<|aJ<|aU r (bU iB r)<|aU r (aR (v:=aL) nS r r r)<|bx h3 fun x5 hx5 h6=>oN (cA (v:=aB) r (ih_slices_ContainsFunc_api_Value_api_Value_value_short_2 hx5) kR r r r)<|aU r (gX r)<|sB r<|aH (fr':=[(2,aB)]) r r<|bO ?_
    obtain rfl:=sy h6
    exact bN (rs':=[.tmp 2]) r<|cE (v:=aB) r<|bM<|aP [] r r r lr aC
  ·
   intro p0x res h
   rw [vA] at h
   refine dR (fn:=Tryz.f209) [0,1,2] (by kernel_rfl) Tryz.func209 r (by kernel_rfl) (by kernel_rfl)<|aJ<|kP (v:=.agg cJ) (n:=0) (cs:=cJ) (σ':=[cJ]) r r r r r<|sB r<|aH (fr':=[(1,aD)]) r r<|aJ<|aU r (eL (us:=cJ) jC r r r r)<|bx h fun x1 hx1 h2=>oN (cA (v:=aB) r (ih_value_short hx1) ⟨(cM r kR5),trivial⟩ r r r)<|aU r (gX r)<|sB r<|aH (fr':=[(2,aB)]) r r<|bO ?_
   obtain rfl:=sy h2
   exact bN (rs':=[.tmp 2]) r<|cE (v:=aB) r<|bM<|aP [] r r r lr aC
noncomputable def aEz (p0v:aF):Option Bool:=lim fun n=>vQ n p0v
theorem aKj {p0v:aF}{res:Bool} (h:aEz p0v=some res):cX Tryz.prog 193 [.agg (AV.cs (eR p0v))] [] (.c (.bool res)) []:=by
 obtain ⟨n,hn⟩:=qN h
 exact (qR n).2.2.1 hn
noncomputable def aAF (p0v:aF):Option Bool :=
 (aEx p0v).bind fun x1=>(gd ((decide (x1≤16))==true) (aFJ p0v)).bind fun x3=>(gd ((cond (decide (x1≤16)) (decide (x3≤1000)) false)==true) (aEz p0v)).bind fun x5=>some (cond (cond (decide (x1≤16)) (decide (x3≤1000)) false) x5 false)
theorem aJF {p0v:aF}{res:Bool} (h:aAF p0v=some res):cX Tryz.prog 160 [.agg (AV.cs (eR p0v))] [] (.c (.bool res)) []:=by
 unfold aAF at h
 refine dR (fn:=Tryz.f160) [0,1,2] (by kernel_rfl) Tryz.func160 r (by kernel_rfl) (by kernel_rfl)<|aJ<|kP (v:=.agg cJ) (n:=0) (cs:=cJ) (σ':=[cJ]) r r r r r<|sB r<|aH (fr':=[(1,aD)]) r r<|aJ<|aU r (eL (us:=cJ) jC r r r r)<|bx h fun x1 hx1 h2=>oN (cA (v:=aI) r (aKi hx1) ⟨(cM r kR5),trivial⟩ r r r)<|aU r (rU r r)<|mB r<|og r r r (fun hc=>(eL (us:=cJ) jC r r r r))<|bx h2 fun x3 hx3 h4=>zG r r (fun hc=>cA (v:=aI) r (aLM (dM hx3 hc)) ⟨(iA (gx r hc) (cM r kR5)),trivial⟩ (iO (by repeat (first | exact fU | refine bG r ?_ | refine bG (vD r) ?_ | refine bG vC ?_))) r r) ?_
 refine og r r r (fun hc=>(rU (gx r hc) r))<|aU r (cS r r r (fun e=>hH e))<|mB r<|og r r r (fun hc=>(eL (us:=cJ) jC r r r r))<|bx h4 fun x5 hx5 h6=>zG r r (fun hc=>cA (v:=aB) r (aKj (dM hx5 hc)) ⟨(iA (gx r hc) (cM r kR5)),trivial⟩ (iO (by repeat (first | exact fU | refine bG r ?_ | refine bG (vD r) ?_ | refine bG vC ?_))) r r) ?_
 refine aU r (cS r r r (fun e=>hH e))<|sB r<|aH (fr':=[(2,aB)]) r r<|bO ?_
 obtain rfl:=sy h6
 exact bN (rs':=[.tmp 2]) r<|cE (v:=aB) r<|bM<|aP [] r r r lr aC
noncomputable def zS (p0v:aF):Option Bool :=
 (aAF p0v).bind fun x1=>(gd (x1==true) (aBI p0v false)).bind fun x3=>some (cond x1 x3 false)
theorem aFh {p0v:aF}{res:Bool} (h:zS p0v=some res):cX Tryz.prog 100 [.agg (AV.cs (eR p0v))] [] (.c (.bool res)) []:=by
 unfold zS at h
 refine dR (fn:=Tryz.f100) [0,1,2] (by kernel_rfl) Tryz.func100 r (by kernel_rfl) (by kernel_rfl)<|aJ<|kP (v:=.agg cJ) (n:=0) (cs:=cJ) (σ':=[cJ]) r r r r r<|sB r<|aH (fr':=[(1,aD)]) r r<|aJ<|aU r (eL (us:=cJ) jC r r r r)<|bx h fun x1 hx1 h2=>oN (cA (v:=aB) r (aJF hx1) ⟨(cM r kR5),trivial⟩ r r r)<|mB r<|og r r r (fun hc=>(eL (us:=cJ) jC r r r r))<|bx h2 fun x3 hx3 h4=>zG r r (fun hc=>cA (v:=aB) r (aEF (dM hx3 hc)) ⟨(iA (gx r hc) (cM r kR5)),lr,trivial⟩ (iO (by repeat (first | exact fU | refine bG r ?_ | refine bG (vD r) ?_ | refine bG vC ?_))) r r) ?_
 refine aU r (cS r r r (fun e=>hH e))<|sB r<|aH (fr':=[(2,aB)]) r r<|bO ?_
 obtain rfl:=sy h4
 exact bN (rs':=[.tmp 2]) r<|cE (v:=aB) r<|bM<|aP [] r r r lr aC
noncomputable def mD (p0n:Int) (qO:Int) (nC:Int):Option Bool :=
 some (cond (decide (qO≤p0n)) (decide (p0n≤nC)) false)
theorem nF {p0n:Int}{qO:Int}{nC:Int}{res:Bool} (h:mD p0n qO nC=some res):cX Tryz.prog 136 [ci p0n,ci qO,ci nC] [] (.c (.bool res)) []:=by
 unfold mD at h
 refine dR (fn:=Tryz.f136) [0,1,2,6] (by kernel_rfl) Tryz.func136 r (by kernel_rfl) (by kernel_rfl)<|aJ<|sB r<|aH (fr':=[(0,aI),(1,aI),(2,aI)]) r r<|aJ<|mI r<|mI r<|aU r (uE r r)<|mB r<|og r r r (fun hc=>(bK (v:=aI) r))<|og r r r (fun hc=>(bK (v:=aI) r))<|og r r r (fun hc=>(rU (gx r hc) (gx r hc)))<|aU r (cS r r r (fun e=>hH e))<|sB r<|aH (fr':=[(6,aB)]) r r<|bO ?_
 obtain rfl:=sy h
 exact bN (rs':=[.tmp 6]) r<|cE (v:=aB) r<|bM<|aP [] r r r lr aC
