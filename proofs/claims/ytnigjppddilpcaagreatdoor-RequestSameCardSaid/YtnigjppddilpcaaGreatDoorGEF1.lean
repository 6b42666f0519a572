import Derived.Test.YtnigjppddilpcaaGreatDoorGETy
import Derived.Test.YtnigjppddilpcaaGreatDoorGEF0
namespace Go.Proofs.YtnigjppddilpcaaGreatDoor
open Go Abs
set_option maxRecDepth 100000
set_option linter.unusedVariables false
set_option linter.unusedSimpArgs false
noncomputable def fK (p0s:(List (List UInt8))) (s4:Int):Option (dG Int (Fl Int Unit)) :=
 cond (decide (s4<((p0s).length:Int))) ((nF p0s s4).bind fun x6=>(pT x6).bind fun x8=>cond x8 (some (dG.out (Fl.done s4))) (some (dG.next (IntKind.wrap .i64 (s4+1))))) (some (dG.out (Fl.go ())))
noncomputable def gM (p0s:(List (List UInt8))):Option Int :=
 (fX (fK p0s) (0)).bind fun x1=>Fl.next x1 (fun j3=>(some (-1)))
theorem oW {p0s:(List (List UInt8))}{z:Int} (h:gM p0s=some z):dE Tryz.prog 206 [.c (PV.ls 1 jE p0s),.fn 179 []] [] (ci z) []:=by
 unfold gM at h
 refine eJ (fn:=Tryz.f206) [0,1,4,5,7,8,9,16] (by kernel_rfl) Tryz.func206 r (by kernel_rfl) (by kernel_rfl)<|aT<|sI r<|aR (fr':=[(0,aL),(1,.fn _ [])]) r r<|bC<|aT<|mL r<|aW r (iR aBi (fQ r))<|mI r<|aR (fr':=[(0,aL),(1,.fn _ []),(7,aI),(8,aI)]) r r<|bx h fun x1 y1 h2=>kC pL (fun j3=>x1=Fl.go j3) (fun (j3:Unit)=>([]:Fr)) (fun (j3:Unit)=>([]:St)) ?_ ?_
 ·
  refine dA<|jS _ (fun (s4:Int)=>([(0,.c (PV.ls 1 jE p0s)),(1,.fn 179 []),(7,ci ((p0s).length:Int)),(8,ci s4)]:Fr)) (fun (s4:Int)=>([]:St)) y1 (cR [] 0 r r r r kL4 aH) ?_
  intro s4 st4 hs4 ho4
  unfold fK at hs4
  refine aT<|aW r (iJ r r)<|aR (fr':=[(0,aL),(1,.fn _ []),(7,aI),(8,aI),(9,aB)]) r r<|bC<|eS hs4 r (fun b5 h5=>?_) (fun b5 h5=>?_)
  ·
   refine cE<|eA<|bC<|dA<|aT<|mI r<|sI r<|aR (fr':=[(0,aL),(1,.fn _ []),(5,aI),(7,aI),(8,aI)]) r r<|aT<|mV (v:=.fn _ []) r<|mL r<|mI r<|bx h5 fun x6 y6 h7=>aW r (rD (cs:=[PV.str _]) aBQ (fQ r) r y6 r)<|aW r (nR (p:=PV.str _) oG r r)<|bx h7 fun x8 y8 h9=>qB (bR (v:=aB) r (aBk y8) ⟨lr,trivial⟩ r r r)<|aR (fr':=[(0,aL),(1,.fn _ []),(5,aI),(7,aI),(8,aI),(16,aB)]) r r<|eS h9 r (fun b10 h10=>?_) (fun b10 h10=>?_)
   ·
    refine aT<|mI r<|sI r<|aR (fr':=[(4,aI)]) r r<|cB<|cL<|aV<|aV<|cL<|aV<|aV ?_
    have h11:=gN h10 ho4
    have h12:=hU h11 h2
    obtain rfl:=sy h12
    exact bZ (rs':=[.tmp 4]) r<|cM (v:=aI) r<|bX<|aZ [] r r r lr aH
   ·
    exact cE<|eW<|eA<|bN<|aW r (iH r r)<|mI r<|fG (fr':=[(0,aL),(1,.fn _ []),(5,aI),(7,aI),(8,aI),(16,aB)]) r<|e_l _ (sy h10) (cR [] 0 r r r r kL4 aH)
  ·
   refine kF<|eL<|eL<|iM ?_
   have h14:=gN h5 ho4
   exact tB _ (sy h14) (cR [] 0 r r r r trivial aH)
 ·
  intro j3 hj15
  have h15:=qP hj15 h2
  refine eA<|aT<|sI r<|aR (fr':=[(4,aI)]) r r<|cB ?_
  obtain rfl:=sy h15
  exact bZ (rs':=[.tmp 4]) r<|cM (v:=aI) r<|bX<|aZ [] r r r lr aH
noncomputable def fI (p0s:(List (List UInt8))):Option Bool :=
 (gM p0s).bind fun x1=>some (decide (0≤x1))
theorem nW {p0s:(List (List UInt8))}{z:Bool} (h:fI p0s=some z):dE Tryz.prog 178 [.c (PV.ls 1 jE p0s),.fn 179 []] [] (.c (.bool z)) []:=by
 unfold fI at h
 refine eJ (fn:=Tryz.f178) [0,1,4] (by kernel_rfl) Tryz.func178 r (by kernel_rfl) (by kernel_rfl)<|aT<|sB r<|aR (fr':=[(0,aL),(1,.fn _ [])]) r r<|aT<|mL r<|mV (v:=.fn _ []) r<|bx h fun x1 y1 h2=>qB (bR (v:=aI) r (oW y1) pV r r r)<|aW r (xD r r)<|sB r<|aR (fr':=[(4,aB)]) r r<|cB ?_
 obtain rfl:=sy h2
 exact bZ (rs':=[.tmp 4]) r<|cM (v:=aB) r<|bX<|aZ [] r r r lr aH
noncomputable def pB (p0o:dB) (s8:Int):Option (dG Int (Fl Bool Unit)) :=
 cond (decide (s8<((([p0o.ToStart,p0o.ToClose,p0o.Total,p0o.Beat,p0o.First,p0o.Most]:List Int)).length:Int))) ((nF ([p0o.ToStart,p0o.ToClose,p0o.Total,p0o.Beat,p0o.First,p0o.Most]:List Int) s8).bind fun x10=>(lC x10 0 1099511627776).bind fun x12=>cond (!x12) (some (dG.out (Fl.done false))) (some (dG.next (IntKind.wrap .i64 (s8+1))))) (some (dG.out (Fl.go ())))
noncomputable def mN (p0o:dB):Option Bool :=
 (gd ((!decide (p0o.Queue=([]:List UInt8)))==true) (tJ p0o.Queue)).bind fun x1=>cond (cond (cond (!decide (p0o.Queue=([]:List UInt8))) (!x1) false) true (decide (64<((p0o.Fatal).length:Int)))) (some false) ((fX (pB p0o) (0)).bind fun x5=>Fl.next x5 (fun j7=>((lC p0o.Coef 0 10000).bind fun x20=>(gd (x20==true) (lC p0o.Attempts 0 1000)).bind fun x22=>(gd ((cond x20 x22 false)==true) (fI p0o.Fatal)).bind fun x24=>some (cond (cond x20 x22 false) (!x24) false))))
theorem xE {p0o:dB}{z:Bool} (h:mN p0o=some z):dE Tryz.prog 130 [.agg (AV.cs (nS p0o))] [] (.c (.bool z)) []:=by
 unfold mN at h
 refine eJ (fn:=Tryz.f130) [0,1,2,4,19,32,33,34,35,40] (by kernel_rfl) Tryz.func130 r (by kernel_rfl) (by kernel_rfl)<|aT<|jB (v:=.agg dK) (n:=0) (cs:=dK) (σ':=[dK]) r r r r r<|sB r<|aR (fr':=[(1,aF)]) r r<|bC<|aT<|aW r (bH aCF r)<|aW r (aK (v:=aS) oG r r r)<|aW r (vJ r r)<|mB r<|og r r r (fun u=>(bH aCF r))<|og r r r (fun u=>(aK (v:=aS) oG (gx r u) r r))<|bx h fun x1 y1 h2=>zB r r (fun u=>bR (v:=aB) r (zY (eQ y1 u)) ⟨(fY (gx r u) lr),trivial⟩ (iN (by repeat (first | exact gK | refine bI r ?_ | refine bI (vT r) ?_ | refine bI vS ?_))) r r) ?_
 refine og r r r (fun u=>(hY (gx r u)))<|aW r (cD r r r (fun e=>hD e))<|mB r<|og r r r (fun u=>(bH vP r))<|og r r r (fun u=>(aK (v:=aL) wD (gx r u) r r))<|og r r r (fun u=>(iR aBi (fQ (gx r u))))<|og r r r (fun u=>(uW (gx r u) r))<|aW r (dD r r r (fun e=>hD e))<|aR (fr':=[(1,aF),(19,aB)]) r r<|eS h2 r (fun b3 h3=>?_) (fun b3 h3=>?_)
 ·
  refine aT<|sB r<|aR (fr':=[(2,aB)]) r r<|cB<|aV ?_
  obtain rfl:=sy h3
  exact bZ (rs':=[.tmp 2]) r<|cM (v:=aB) r<|bX<|aZ [] r r r lr aH
 ·
  refine cE<|eA<|bC<|aT<|aW r (bH aHq r)<|aW r (aK (v:=aI) gZ r r r)<|aW r (bH aHr r)<|aW r (aK (v:=aI) gZ r r r)<|aW r (bH aHs r)<|aW r (aK (v:=aI) gZ r r r)<|aW r (bH aHt r)<|aW r (aK (v:=aI) gZ r r r)<|aW r (bH aHu r)<|aW r (aK (v:=aI) gZ r r r)<|aW r (bH aHw r)<|aW r (aK (v:=aI) gZ r r r)<|aA4 (row:=(aQe .i64)) (xs:=([p0o.ToStart,p0o.ToClose,p0o.Total,p0o.Beat,p0o.First,p0o.Most]:List Int)) (rows:=[[_],[_],[_],[_],[_],[_]]) (σ':=[dK]) [0] aQz r r r (kS r (kS r (kS r (kS r (kS r (kS r uT)))))) r r<|aW r (iR aSu (aAi r))<|mI r<|aR (fr':=[(1,aF),(32,aO),(33,aI),(34,aI)]) r r<|bx h3 fun x5 y5 h6=>kC pL (fun j7=>x5=Fl.go j7) (fun (j7:Unit)=>([(1,aF)]:Fr)) (fun (j7:Unit)=>([[.c (.str p0o.Queue),ci p0o.ToStart,ci p0o.ToClose,ci p0o.Total,ci p0o.Beat,ci p0o.First,ci p0o.Coef,ci p0o.Most,ci p0o.Attempts,.c (PV.ls 1 jE p0o.Fatal)]]:St)) ?_ ?_
  ·
   refine dA<|jS _ (fun (s8:Int)=>([(1,aF),(32,AV.os 0 1 (aQe .i64) ([p0o.ToStart,p0o.ToClose,p0o.Total,p0o.Beat,p0o.First,p0o.Most]:List Int)),(33,ci ((([p0o.ToStart,p0o.ToClose,p0o.Total,p0o.Beat,p0o.First,p0o.Most]:List Int)).length:Int)),(34,ci s8)]:Fr)) (fun (s8:Int)=>([[.c (.str p0o.Queue),ci p0o.ToStart,ci p0o.ToClose,ci p0o.Total,ci p0o.Beat,ci p0o.First,ci p0o.Coef,ci p0o.Most,ci p0o.Attempts,.c (PV.ls 1 jE p0o.Fatal)]]:St)) y5 (cR [512] 1 r r r r kL4 (eU r aH)) ?_
   intro s8 st8 hs8 ho8
   unfold pB at hs8
   refine aT<|aW r (iJ r r)<|aR (fr':=[(1,aF),(32,aO),(33,aI),(34,aI),(35,aB)]) r r<|bC<|eS hs8 r (fun b9 h9=>?_) (fun b9 h9=>?_)
   ·
    refine cE<|eA<|bC<|dA<|bC<|bN<|bx h9 fun x10 y10 h11=>aW r (rD (cs:=[PV.int _ _]) aQz (aAi r) r y10 r)<|aW r (nR (p:=PV.int _ _) gZ r r)<|sI r<|aR (fr':=[(1,aF),(4,aI),(32,aO),(33,aI),(34,aI)]) r r<|aT<|mI r<|bx h11 fun x12 y12 h13=>qB (bR (v:=aB) r (mJ y12) wE r r r)<|aW r (hY r)<|aR (fr':=[(1,aF),(32,aO),(33,aI),(34,aI),(40,aB)]) r r<|eS h13 r (fun b14 h14=>?_) (fun b14 h14=>?_)
    ·
     refine aT<|sB r<|aR (fr':=[(2,aB)]) r r<|cB<|cL<|aV<|aV<|cL<|aV<|aV ?_
     have h15:=gN h14 ho8
     have h16:=hU h15 h6
     obtain rfl:=sy h16
     exact bZ (rs':=[.tmp 2]) r<|cM (v:=aB) r<|bX<|aZ [] r r r lr aH
    ·
     exact cE<|eW<|eA<|bN<|aW r (iH r r)<|mI r<|fG (fr':=[(1,aF),(32,aO),(33,aI),(34,aI),(40,aB)]) r<|e_l _ (sy h14) (cR [0] 1 r r r r kL4 (eU r aH))
   ·
    refine kF<|eL<|eL<|iM ?_
    have h18:=gN h9 ho8
    exact tB _ (sy h18) (cR [] 1 r r r r ⟨lr,trivial⟩ (eU r aH))
  ·
   intro j7 hj19
   have h19:=qP hj19 h6
   refine eA<|aT<|aW r (bH aHv r)<|aW r (aK (v:=aI) gZ r r r)<|bx h19 fun x20 y20 h21=>qB (bR (v:=aB) r (mJ y20) wE r r r)<|mB r<|og r r r (fun u=>(bH aHx r))<|og r r r (fun u=>(aK (v:=aI) gZ (gx r u) r r))<|bx h21 fun x22 y22 h23=>zB r r (fun u=>bR (v:=aB) r (mJ (eQ y22 u)) ⟨(fY (gx r u) lr),lr,lr,trivial⟩ (iN (by repeat (first | exact gK | refine bI r ?_ | refine bI (vT r) ?_ | refine bI vS ?_))) r r) ?_
   refine aW r (cD r r r (fun e=>hD e))<|mB r<|og r r r (fun u=>(bH vP r))<|og r r r (fun u=>(aK (v:=aL) wD (gx r u) r r))<|bx h23 fun x24 y24 h25=>zB r r (fun u=>bR (v:=aB) r (nW (eQ y24 u)) ⟨(fY (gx r u) lr),lr,trivial⟩ (iN (by repeat (first | exact gK | refine bI r ?_ | refine bI (vT r) ?_ | refine bI vS ?_))) r r) ?_
   refine og r r r (fun u=>(hY (gx r u)))<|aW r (cD r r r (fun e=>hD e))<|sB r<|aR (fr':=[(2,aB)]) r r<|cB ?_
   obtain rfl:=sy h25
   exact bZ (rs':=[.tmp 2]) r<|cM (v:=aB) r<|bX<|aZ [] r r r lr aH
noncomputable def oR (dT:dB):Option Unit :=
 some ()
theorem xA {dT:dB}{z:Unit} (h:oR dT=some z):dE Tryz.prog 146 [.box 0 0] [AV.cs (nS dT)] (.ptrs [(0,1),(0,2),(0,3),(0,4),(0,5),(0,6),(0,7),(0,8)]) [AV.cs (nS dT)]:=by
 unfold oR at h
 refine eJ (fn:=Tryz.f146) [0,2] (by kernel_rfl) Tryz.func146 r (by kernel_rfl) (by kernel_rfl)<|aT<|sV (v:=AV.nil) r<|aR (fr':=[(0,aF)]) r r<|bC<|lS [.q 0,.q 1,.q 2,.q 3,.q 4,.q 5,.q 6,.q 7,.q 8,.q 9,.q 10,.q 11,.q 12,.q 13,.q 14,.q 15,.q 16,.q 17,.q 18,.q 19,.q 20,.q 21,.q 22,.q 23,.n 24 [],.n 25 []] [(some 3,[0]),(some 4,[3]),(some 5,[4]),(some 6,[0]),(some 7,[6]),(some 8,[7]),(some 9,[0]),(some 10,[9]),(some 11,[10]),(some 12,[0]),(some 13,[12]),(some 14,[13]),(some 15,[0]),(some 16,[15]),(some 17,[16]),(some 18,[0]),(some 19,[18]),(some 20,[19]),(some 21,[0]),(some 22,[21]),(some 23,[22]),(some 24,[0]),(some 25,[24]),(some 26,[25]),(some 27,[5,8,11,14,17,20,23,26]),(some 2,[27])] [0,1,3,0,8,24,0,64,192,0,512,1536,0,4096,12288,0,32768,98304,0,262144,786432,0,2097152,6291456,16777215,33554431] (by kernel_rfl)<|dq r r (bP (v:=aF) r)<|dq r r (jL r)<|dq r r (bH aHq r)<|dq r r (bP (v:=aF) r)<|dq r r (jL r)<|dq r r (bH aHr r)<|dq r r (bP (v:=aF) r)<|dq r r (jL r)<|dq r r (bH aHs r)<|dq r r (bP (v:=aF) r)<|dq r r (jL r)<|dq r r (bH aHt r)<|dq r r (bP (v:=aF) r)<|dq r r (jL r)<|dq r r (bH aHu r)<|dq r r (bP (v:=aF) r)<|dq r r (jL r)<|dq r r (bH aHv r)<|dq r r (bP (v:=aF) r)<|dq r r (jL r)<|dq r r (bH aHw r)<|dq r r (bP (v:=aF) r)<|dq r r (jL r)<|dq r r (bH aHx r)<|d_n r ?_ r
 refine aO4 (l:=[(0,1),(0,2),(0,3),(0,4),(0,5),(0,6),(0,7),(0,8)]) uF r r r r<|aCp<|⟨tL,?_⟩
 refine d_n r ?_ r
 refine sV (v:=.ptrs [(0,1),(0,2),(0,3),(0,4),(0,5),(0,6),(0,7),(0,8)]) r<|aCp<|⟨tL,?_⟩
 refine zJ (fr':=[(2,.ptrs [(0,1),(0,2),(0,3),(0,4),(0,5),(0,6),(0,7),(0,8)])]) r r<|cB ?_
 obtain rfl:=sy h
 exact bZ (rs':=[.tmp 2]) r<|cM (v:=.ptrs [(0,1),(0,2),(0,3),(0,4),(0,5),(0,6),(0,7),(0,8)]) r<|bX<|aMM [] r r r lr (eU r aH)
noncomputable def sR (p1o:dB) (s31:((List UInt8) × Int)):Option (dG ((List UInt8) × Int) (List UInt8)) :=
 cond (decide (s31.2<((p1o.Fatal).length:Int))) ((nF p1o.Fatal s31.2).bind fun x33=>(kX s31.1 x33).bind fun x35=>some (dG.next (x35,(IntKind.wrap .i64 (s31.2+1))))) (some (dG.out s31.1))
noncomputable def tI (p0b:(List UInt8)) (p1o:dB):Option (List UInt8) :=
 (kX p0b p1o.Queue).bind fun x1=>(oR p1o).bind fun x3=>(gV x1 p1o.ToStart).bind fun x6=>(gV x6 p1o.ToClose).bind fun x8=>(gV x8 p1o.Total).bind fun x11=>(gV x11 p1o.Beat).bind fun x13=>(gV x13 p1o.First).bind fun x16=>(gV x16 p1o.Coef).bind fun x18=>(gV x18 p1o.Most).bind fun x21=>(gV x21 p1o.Attempts).bind fun x23=>(gV x23 ((p1o.Fatal).length:Int)).bind fun x26=>(fX (sR p1o) ((x26,0))).bind fun x28=>(some x28)
theorem aFi {p0b:(List UInt8)}{p1o:dB}{z:(List UInt8)} (h:tI p0b p1o=some z):dE Tryz.prog 131 [.c (PV.ls 1 jK p0b),.agg (AV.cs (nS p1o))] [] (AV.os 0 1 jK z) []:=by
 unfold tI at h
 refine eJ (fn:=Tryz.f131) [0,1,3,4,6,8,13,14,15,16,31,32,33,34] (by kernel_rfl) Tryz.func131 r (by kernel_rfl) (by kernel_rfl)<|aT<|jB (v:=.agg dK) (n:=0) (cs:=dK) (σ':=[dK]) r r r r r<|sV (v:=AV.nil) r<|aR (fr':=[(0,aL),(3,aF)]) r r<|aT<|mL r<|aW r (bH aCF r)<|aW r (aK (v:=aS) oG r r r)<|bx h fun x1 y1 h2=>qB (bR (v:=aO) r (oE y1) pV r r r)<|sV (v:=aO) r<|aR (fr':=[(0,aO),(3,aF)]) r r<|bC<|bC<|bN<|bx h2 fun x3 y3 h4=>aAJ (v:=.ptrs [(0,1),(0,2),(0,3),(0,4),(0,5),(0,6),(0,7),(0,8)]) (σ':=[dK]) 13 [0] [] r (xA y3) r r r ⟨lr,trivial⟩ (hO yM aH) r r r<|aW r (aMa aRK r)<|mI r<|aR (fr':=[(0,aO),(3,aF),(13,.ptrs [(0,1),(0,2),(0,3),(0,4),(0,5),(0,6),(0,7),(0,8)]),(14,aI),(15,aI)]) r r<|dA<|aPD 64<|xK<|aT<|aW r (yO (iJ r r) (show _=.bool true from r))<|aR (fr':=[(0,aO),(3,aF),(13,.ptrs [(0,1),(0,2),(0,3),(0,4),(0,5),(0,6),(0,7),(0,8)]),(14,aI),(15,aI),(16,aB)]) r r<|bC<|kQ r<|cE<|eA<|bC<|dA<|aT<|aW r (pG (p:=(0,1)) uF r r r)<|aW r (jQ uZ r)<|sV (v:=aKb) r<|aR (fr':=[(0,aO),(3,aF),(6,aKb),(13,.ptrs [(0,1),(0,2),(0,3),(0,4),(0,5),(0,6),(0,7),(0,8)]),(14,aI),(15,aI)]) r r<|bN<|mV (v:=aO) r<|mV (v:=aKb) r<|aW r (jL r)<|aW r (aK (v:=aI) gZ r r r)<|bx h4 fun x6 y6 h7=>qB (bR (v:=aO) r (gX y6) pV r r r)<|sV (v:=aO) r<|fG (fr':=[(0,aO),(3,aF),(6,aKb),(13,.ptrs [(0,1),(0,2),(0,3),(0,4),(0,5),(0,6),(0,7),(0,8)]),(14,aI),(15,aI)]) r<|eW<|eA<|bN<|aW r (yO (iH r r) (show _=.int .i64 (1:Int) from r))<|mI r<|fG (fr':=[(0,aO),(3,aF),(6,aKb),(13,.ptrs [(0,1),(0,2),(0,3),(0,4),(0,5),(0,6),(0,7),(0,8)]),(14,aI),(15,aI)]) r<|lX<|xK<|bC<|bN<|aW r (yO (iJ r r) (show _=.bool true from r))<|aR (fr':=[(0,aO),(3,aF),(13,.ptrs [(0,1),(0,2),(0,3),(0,4),(0,5),(0,6),(0,7),(0,8)]),(14,aI),(15,aI),(16,aB)]) r r<|bC<|kQ r<|cE<|eA<|bC<|dA<|aT<|aW r (pG (p:=(0,2)) uF r r r)<|aW r (jQ uZ r)<|sV (v:=aKc) r<|aR (fr':=[(0,aO),(3,aF),(6,aKc),(13,.ptrs [(0,1),(0,2),(0,3),(0,4),(0,5),(0,6),(0,7),(0,8)]),(14,aI),(15,aI)]) r r<|bN<|mV (v:=aO) r<|mV (v:=aKc) r<|aW r (jL r)<|aW r (aK (v:=aI) gZ r r r)<|bx h7 fun x8 y8 h9=>aAJ (v:=aO) (σ':=[dK]) 50010 [] [] r (gX y8) r r r pV aH r r r<|sV (v:=aO) r<|fG (fr':=[(0,aO),(3,aF),(6,aKc),(13,.ptrs [(0,1),(0,2),(0,3),(0,4),(0,5),(0,6),(0,7),(0,8)]),(14,aI),(15,aI)]) r<|eW<|eA<|bN<|aW r (yO (iH r r) (show _=.int .i64 (2:Int) from r))<|mI r<|fG (fr':=[(0,aO),(3,aF),(6,aKc),(13,.ptrs [(0,1),(0,2),(0,3),(0,4),(0,5),(0,6),(0,7),(0,8)]),(14,aI),(15,aI)]) r<|lX<|xK<|bC<|bN<|aW r (yO (iJ r r) (show _=.bool true from r))<|aR (fr':=[(0,aO),(3,aF),(13,.ptrs [(0,1),(0,2),(0,3),(0,4),(0,5),(0,6),(0,7),(0,8)]),(14,aI),(15,aI),(16,aB)]) r r<|bC<|kQ r<|cE<|eA<|bC<|dA<|aT<|aW r (pG (p:=(0,3)) uF r r r)<|aW r (jQ uZ r)<|sV (v:=aKd) r<|aR (fr':=[(0,aO),(3,aF),(6,aKd),(13,.ptrs [(0,1),(0,2),(0,3),(0,4),(0,5),(0,6),(0,7),(0,8)]),(14,aI),(15,aI)]) r r<|bN<|mV (v:=aO) r<|mV (v:=aKd) r<|aW r (jL r)<|aW r (aK (v:=aI) gZ r r r)<|bx h9 fun x11 y11 h12=>qB (bR (v:=aO) r (gX y11) pV r r r)<|sV (v:=aO) r<|fG (fr':=[(0,aO),(3,aF),(6,aKd),(13,.ptrs [(0,1),(0,2),(0,3),(0,4),(0,5),(0,6),(0,7),(0,8)]),(14,aI),(15,aI)]) r<|eW<|eA<|bN<|aW r (yO (iH r r) (show _=.int .i64 (3:Int) from r))<|mI r<|fG (fr':=[(0,aO),(3,aF),(6,aKd),(13,.ptrs [(0,1),(0,2),(0,3),(0,4),(0,5),(0,6),(0,7),(0,8)]),(14,aI),(15,aI)]) r<|lX<|xK<|bC<|bN<|aW r (yO (iJ r r) (show _=.bool true from r))<|aR (fr':=[(0,aO),(3,aF),(13,.ptrs [(0,1),(0,2),(0,3),(0,4),(0,5),(0,6),(0,7),(0,8)]),(14,aI),(15,aI),(16,aB)]) r r<|bC<|kQ r<|cE<|eA<|bC<|dA<|aT<|aW r (pG (p:=(0,4)) uF r r r)<|aW r (jQ uZ r)<|sV (v:=aKe) r<|aR (fr':=[(0,aO),(3,aF),(6,aKe),(13,.ptrs [(0,1),(0,2),(0,3),(0,4),(0,5),(0,6),(0,7),(0,8)]),(14,aI),(15,aI)]) r r<|bN<|mV (v:=aO) r<|mV (v:=aKe) r<|aW r (jL r)<|aW r (aK (v:=aI) gZ r r r)<|bx h12 fun x13 y13 h14=>aAJ (v:=aO) (σ':=[dK]) 50015 [] [] r (gX y13) r r r pV aH r r r<|sV (v:=aO) r<|fG (fr':=[(0,aO),(3,aF),(6,aKe),(13,.ptrs [(0,1),(0,2),(0,3),(0,4),(0,5),(0,6),(0,7),(0,8)]),(14,aI),(15,aI)]) r<|eW<|eA<|bN<|aW r (yO (iH r r) (show _=.int .i64 (4:Int) from r))<|mI r<|fG (fr':=[(0,aO),(3,aF),(6,aKe),(13,.ptrs [(0,1),(0,2),(0,3),(0,4),(0,5),(0,6),(0,7),(0,8)]),(14,aI),(15,aI)]) r<|lX<|xK<|bC<|bN<|aW r (yO (iJ r r) (show _=.bool true from r))<|aR (fr':=[(0,aO),(3,aF),(13,.ptrs [(0,1),(0,2),(0,3),(0,4),(0,5),(0,6),(0,7),(0,8)]),(14,aI),(15,aI),(16,aB)]) r r<|bC<|kQ r<|cE<|eA<|bC<|dA<|aT<|aW r (pG (p:=(0,5)) uF r r r)<|aW r (jQ uZ r)<|sV (v:=aKf) r<|aR (fr':=[(0,aO),(3,aF),(6,aKf),(13,.ptrs [(0,1),(0,2),(0,3),(0,4),(0,5),(0,6),(0,7),(0,8)]),(14,aI),(15,aI)]) r r<|bN<|mV (v:=aO) r<|mV (v:=aKf) r<|aW r (jL r)<|aW r (aK (v:=aI) gZ r r r)<|bx h14 fun x16 y16 h17=>qB (bR (v:=aO) r (gX y16) pV r r r)<|sV (v:=aO) r<|fG (fr':=[(0,aO),(3,aF),(6,aKf),(13,.ptrs [(0,1),(0,2),(0,3),(0,4),(0,5),(0,6),(0,7),(0,8)]),(14,aI),(15,aI)]) r<|eW<|eA<|bN<|aW r (yO (iH r r) (show _=.int .i64 (5:Int) from r))<|mI r<|fG (fr':=[(0,aO),(3,aF),(6,aKf),(13,.ptrs [(0,1),(0,2),(0,3),(0,4),(0,5),(0,6),(0,7),(0,8)]),(14,aI),(15,aI)]) r<|lX<|xK<|bC<|bN<|aW r (yO (iJ r r) (show _=.bool true from r))<|aR (fr':=[(0,aO),(3,aF),(13,.ptrs [(0,1),(0,2),(0,3),(0,4),(0,5),(0,6),(0,7),(0,8)]),(14,aI),(15,aI),(16,aB)]) r r<|bC<|kQ r<|cE<|eA<|bC<|dA<|aT<|aW r (pG (p:=(0,6)) uF r r r)<|aW r (jQ uZ r)<|sV (v:=aKg) r<|aR (fr':=[(0,aO),(3,aF),(6,aKg),(13,.ptrs [(0,1),(0,2),(0,3),(0,4),(0,5),(0,6),(0,7),(0,8)]),(14,aI),(15,aI)]) r r<|bN<|mV (v:=aO) r<|mV (v:=aKg) r<|aW r (jL r)<|aW r (aK (v:=aI) gZ r r r)<|bx h17 fun x18 y18 h19=>aAJ (v:=aO) (σ':=[dK]) 50020 [] [] r (gX y18) r r r pV aH r r r<|sV (v:=aO) r<|fG (fr':=[(0,aO),(3,aF),(6,aKg),(13,.ptrs [(0,1),(0,2),(0,3),(0,4),(0,5),(0,6),(0,7),(0,8)]),(14,aI),(15,aI)]) r<|eW<|eA<|bN<|aW r (yO (iH r r) (show _=.int .i64 (6:Int) from r))<|mI r<|fG (fr':=[(0,aO),(3,aF),(6,aKg),(13,.ptrs [(0,1),(0,2),(0,3),(0,4),(0,5),(0,6),(0,7),(0,8)]),(14,aI),(15,aI)]) r<|lX<|xK<|bC<|bN<|aW r (yO (iJ r r) (show _=.bool true from r))<|aR (fr':=[(0,aO),(3,aF),(13,.ptrs [(0,1),(0,2),(0,3),(0,4),(0,5),(0,6),(0,7),(0,8)]),(14,aI),(15,aI),(16,aB)]) r r<|bC<|kQ r<|cE<|eA<|bC<|dA<|aT<|aW r (pG (p:=(0,7)) uF r r r)<|aW r (jQ uZ r)<|sV (v:=aKh) r<|aR (fr':=[(0,aO),(3,aF),(6,aKh),(13,.ptrs [(0,1),(0,2),(0,3),(0,4),(0,5),(0,6),(0,7),(0,8)]),(14,aI),(15,aI)]) r r<|bN<|mV (v:=aO) r<|mV (v:=aKh) r<|aW r (jL r)<|aW r (aK (v:=aI) gZ r r r)<|bx h19 fun x21 y21 h22=>qB (bR (v:=aO) r (gX y21) pV r r r)<|sV (v:=aO) r<|fG (fr':=[(0,aO),(3,aF),(6,aKh),(13,.ptrs [(0,1),(0,2),(0,3),(0,4),(0,5),(0,6),(0,7),(0,8)]),(14,aI),(15,aI)]) r<|eW<|eA<|bN<|aW r (yO (iH r r) (show _=.int .i64 (7:Int) from r))<|mI r<|fG (fr':=[(0,aO),(3,aF),(6,aKh),(13,.ptrs [(0,1),(0,2),(0,3),(0,4),(0,5),(0,6),(0,7),(0,8)]),(14,aI),(15,aI)]) r<|lX<|xK<|bC<|bN<|aW r (yO (iJ r r) (show _=.bool true from r))<|aR (fr':=[(0,aO),(3,aF),(13,.ptrs [(0,1),(0,2),(0,3),(0,4),(0,5),(0,6),(0,7),(0,8)]),(14,aI),(15,aI),(16,aB)]) r r<|bC<|kQ r<|cE<|eA<|bC<|dA<|aT<|aW r (pG (p:=(0,8)) uF r r r)<|aW r (jQ uZ r)<|sV (v:=aKi) r ?_
 refine aR (fr':=[(0,aO),(3,aF),(6,aKi),(13,.ptrs [(0,1),(0,2),(0,3),(0,4),(0,5),(0,6),(0,7),(0,8)]),(14,aI),(15,aI)]) r r<|bN<|mV (v:=aO) r<|mV (v:=aKi) r<|aW r (jL r)<|aW r (aK (v:=aI) gZ r r r)<|bx h22 fun x23 y23 h24=>aAJ (v:=aO) (σ':=[dK]) 50025 [] [] r (gX y23) r r r pV aH r r r<|sV (v:=aO) r<|fG (fr':=[(0,aO),(3,aF),(6,aKi),(13,.ptrs [(0,1),(0,2),(0,3),(0,4),(0,5),(0,6),(0,7),(0,8)]),(14,aI),(15,aI)]) r<|eW<|eA<|bN<|aW r (yO (iH r r) (show _=.int .i64 (8:Int) from r))<|mI r<|fG (fr':=[(0,aO),(3,aF),(6,aKi),(13,.ptrs [(0,1),(0,2),(0,3),(0,4),(0,5),(0,6),(0,7),(0,8)]),(14,aI),(15,aI)]) r<|lX<|xK<|bC<|bN<|aW r (yO (iJ r r) (show _=.bool false from r))<|aR (fr':=[(0,aO),(3,aF),(13,.ptrs [(0,1),(0,2),(0,3),(0,4),(0,5),(0,6),(0,7),(0,8)]),(14,aI),(15,aI),(16,aB)]) r r<|bC<|aCR r<|kF<|eL<|eL<|iM<|eA<|aT<|mV (v:=aO) r<|aW r (bH vP r)<|aW r (aK (v:=aL) wD r r r)<|aW r (iR aBi (fQ r))<|bx h24 fun x26 y26 h27=>qB (bR (v:=aO) r (gX y26) pV r r r)<|sV (v:=aO) r<|aR (fr':=[(0,aO),(3,aF)]) r r<|bC<|aT<|aW r (bH vP r)<|aW r (aK (v:=aL) wD r r r)<|aW r (iR aBi (fQ r))<|mI r<|aR (fr':=[(0,aO),(31,aL),(32,aI),(33,aI)]) r r<|bx h27 fun x28 y28 h29=>kC pL (fun j30=>x28=j30) (fun (j30:(List UInt8))=>([(0,AV.os 0 1 jK j30)]:Fr)) (fun (j30:(List UInt8))=>([[.c (.str p1o.Queue),ci p1o.ToStart,ci p1o.ToClose,ci p1o.Total,ci p1o.Beat,ci p1o.First,ci p1o.Coef,ci p1o.Most,ci p1o.Attempts,.c (PV.ls 1 jE p1o.Fatal)]]:St)) ?_ ?_
 ·
  refine dA<|jS _ (fun (s31:((List UInt8) × Int))=>([(0,AV.os 0 1 jK s31.1),(31,.c (PV.ls 1 jE p1o.Fatal)),(32,ci ((p1o.Fatal).length:Int)),(33,ci s31.2)]:Fr)) (fun (s31:((List UInt8) × Int))=>([[.c (.str p1o.Queue),ci p1o.ToStart,ci p1o.ToClose,ci p1o.Total,ci p1o.Beat,ci p1o.First,ci p1o.Coef,ci p1o.Most,ci p1o.Attempts,.c (PV.ls 1 jE p1o.Fatal)]]:St)) y28 (cR [464] 1 r r r r kL4 (eU r aH)) ?_
  intro s31 st31 hs31 ho31
  unfold sR at hs31
  refine aT<|aW r (iJ r r)<|aR (fr':=[(0,aO),(31,aL),(32,aI),(33,aI),(34,aB)]) r r<|bC<|eS hs31 r (fun b32 h32=>?_) (fun b32 h32=>?_)
  ·
   exact cE<|eA<|bC<|dA<|bC<|bN<|bx h32 fun x33 y33 h34=>aW r (rD (cs:=[PV.str _]) aBQ (fQ r) r y33 r)<|aW r (nR (p:=PV.str _) oG r r)<|sS r<|aR (fr':=[(0,aO),(8,aS),(31,aL),(32,aI),(33,aI)]) r r<|bN<|mV (v:=aO) r<|mS r<|bx h34 fun x35 y35 h36=>qB (bR (v:=aO) r (oE y35) pV r r r)<|sV (v:=aO) r<|fG (fr':=[(0,aO),(8,aS),(31,aL),(32,aI),(33,aI)]) r<|eW<|eA<|bN<|aW r (iH r r)<|mI r<|fG (fr':=[(0,aO),(8,aS),(31,aL),(32,aI),(33,aI)]) r<|e_l _ (sy h36) (cR [624] 1 r r r r kL4 (eU r aH))
  ·
   refine kF<|eL<|eL<|iM ?_
   have h37:=gN h32 ho31
   exact tB _ (sy h37) (cR [0] 1 r r r r ⟨lr,trivial⟩ (eU r aH))
 ·
  intro j30 hj38
  subst hj38
  refine eA<|aT<|mV (v:=aO) r<|sV (v:=aO) r<|aR (fr':=[(4,aO)]) r r<|cB ?_
  obtain rfl:=sy h29
  exact bZ (rs':=[.tmp 4]) r<|cM (v:=aO) r<|bX<|aZ [0] r r r lr aH
noncomputable def wX (aFW:aE→Option Int) (p0v:aE) (s4:(Int × Int)):Option (dG (Int × Int) Int) :=
 cond (decide (s4.2<((p0v.Items).length:Int))) ((nF p0v.Items s4.2).bind fun x6=>(aFW x6).bind fun x8=>some (dG.next ((if x8 > s4.1 then x8 else s4.1),(IntKind.wrap .i64 (s4.2+1))))) (some (dG.out s4.1))
noncomputable def rQ:Nat→aE→Option Int
 | 0,_=>none
 | n+1,p0v =>
  (fX (wX (rQ n) p0v) ((0,0))).bind fun x1=>(some (IntKind.wrap .i64 (x1+1)))
theorem aHE:∀ n:Nat,(∀ {p0v:aE}{z:Int},rQ n p0v=some z→dE Tryz.prog 191 [.agg (AV.cs (fZ p0v))] [] (ci z) []):=by
 intro n
 induction n with
 | zero=>exact fun {p0v z} h=>absurd h (by simp [rQ])
 | succ n ih =>
  have ih_value_Depth:=@ih
  intro p0v z h
  rw [rQ] at h
  refine eJ (fn:=Tryz.f191) [0,1,2,3,5,7,8,9,10] (by kernel_rfl) Tryz.func191 r (by kernel_rfl) (by kernel_rfl)<|aT<|jB (v:=.agg cK) (n:=0) (cs:=cK) (σ':=[cK]) r r r r r<|sI r<|aR (fr':=[(1,aF)]) r r<|aT<|sI r<|aR (fr':=[(1,aF),(3,aI)]) r r<|bC<|bC<|bN<|aW r (bH pE r)<|aW r (aK (v:=aL) zT r r r)<|aW r (iR aCa (fQ r))<|mI r<|aR (fr':=[(3,aI),(7,aL),(8,aI),(9,aI)]) r r<|bx h fun x1 y1 h2=>kC pL (fun j3=>x1=j3) (fun (j3:Int)=>([(3,ci j3)]:Fr)) (fun (j3:Int)=>([[ci p0v.Kind,ci p0v.Int,.c (.str p0v.Text),.c (PV.ls 5 cH p0v.Items),.c (PV.ls 1 jE p0v.Keys)]]:St)) ?_ ?_
  ·
   refine dA<|jS _ (fun (s4:(Int × Int))=>([(3,ci s4.1),(7,.c (PV.ls 5 cH p0v.Items)),(8,ci ((p0v.Items).length:Int)),(9,ci s4.2)]:Fr)) (fun (s4:(Int × Int))=>([[ci p0v.Kind,ci p0v.Int,.c (.str p0v.Text),.c (PV.ls 5 cH p0v.Items),.c (PV.ls 1 jE p0v.Keys)]]:St)) y1 (cR [] 1 r r r r kL4 (eU r aH)) ?_
   intro s4 st4 hs4 ho4
   unfold wX at hs4
   refine aT<|aW r (iJ r r)<|aR (fr':=[(3,aI),(7,aL),(8,aI),(9,aI),(10,aB)]) r r<|bC<|eS hs4 r (fun b5 h5=>?_) (fun b5 h5=>?_)
   ·
    exact cE<|eA<|bC<|dA<|bC<|bN<|bx h5 fun x6 y6 h7=>aW r (rD (cs:=[PV.int _ _,PV.int _ _,PV.str _,PV.ls _ _ _,PV.ls _ _ _]) aDc (fQ r) r y6 (hF _))<|aW r (lV (us:=[PV.int _ _,PV.int _ _,PV.str _,PV.ls _ _ _,PV.ls _ _ _]) jG r r r)<|kT (n:=1) (cs:=cJ) (σ':=[cK,cJ]) aF3 r r r<|cY (v:=.agg cK) (us:=cK) (cs:=cJ) (σ':=[cK,cK]) r jG r r r r r r r r<|aR (fr':=[(3,aI),(5,bK),(7,aL),(8,aI),(9,aI)]) r r<|bN<|mI r<|aW r (dN (us:=cK) jG r r r r)<|bx h7 fun x8 y8 h9=>qB (bR (v:=aI) r (ih_value_Depth y8) ⟨(bV r kR5),trivial⟩ r r r)<|aW r (aR5 r r)<|sI r<|fG (fr':=[(3,aI),(5,bK),(7,aL),(8,aI),(9,aI)]) r<|eW<|eA<|bN<|aW r (iH r r)<|mI r<|fG (fr':=[(3,aI),(5,bK),(7,aL),(8,aI),(9,aI)]) r<|e_l _ (sy h9) (cR [] 1 r r r r kL4 (eU r aH))
   ·
    refine kF<|eL<|eL<|iM ?_
    have h10:=gN h5 ho4
    exact tB _ (sy h10) (cR [] 1 r r r r ⟨lr,trivial⟩ (eU r aH))
  ·
   intro j3 hj11
   subst hj11
   refine eA<|aT<|mI r<|aW r (iH r r)<|sI r<|aR (fr':=[(2,aI)]) r r<|cB ?_
   obtain rfl:=sy h2
   exact bZ (rs':=[.tmp 2]) r<|cM (v:=aI) r<|bX<|aZ [] r r r lr aH
noncomputable def aCN (p0v:aE):Option Int:=lim fun n=>rQ n p0v
theorem aIe {p0v:aE}{z:Int} (h:aCN p0v=some z):dE Tryz.prog 191 [.agg (AV.cs (fZ p0v))] [] (ci z) []:=by
 obtain ⟨n,hn⟩:=wK h
 exact (aHE n) hn
noncomputable def yA (aHe:aE→Option Int) (p0v:aE) (s4:(Int × Int)):Option (dG (Int × Int) Int) :=
 cond (decide (s4.2<((p0v.Items).length:Int))) ((nF p0v.Items s4.2).bind fun x6=>(aHe x6).bind fun x8=>some (dG.next ((IntKind.wrap .i64 (s4.1+x8)),(IntKind.wrap .i64 (s4.2+1))))) (some (dG.out s4.1))
noncomputable def tX:Nat→aE→Option Int
 | 0,_=>none
 | n+1,p0v =>
  (fX (yA (tX n) p0v) ((1,0))).bind fun x1=>(some x1)
theorem aIa:∀ n:Nat,(∀ {p0v:aE}{z:Int},tX n p0v=some z→dE Tryz.prog 192 [.agg (AV.cs (fZ p0v))] [] (ci z) []):=by
 intro n
 induction n with
 | zero=>exact fun {p0v z} h=>absurd h (by simp [tX])
 | succ n ih =>
  have ih_value_Size:=@ih
  intro p0v z h
  rw [tX] at h
  refine eJ (fn:=Tryz.f192) [0,1,2,3,5,7,8,9,10] (by kernel_rfl) Tryz.func192 r (by kernel_rfl) (by kernel_rfl)<|aT<|jB (v:=.agg cK) (n:=0) (cs:=cK) (σ':=[cK]) r r r r r<|sI r<|aR (fr':=[(1,aF)]) r r<|aT<|sI r<|aR (fr':=[(1,aF),(3,aI)]) r r<|bC<|bC<|bN<|aW r (bH pE r)<|aW r (aK (v:=aL) zT r r r)<|aW r (iR aCa (fQ r))<|mI r<|aR (fr':=[(3,aI),(7,aL),(8,aI),(9,aI)]) r r<|bx h fun x1 y1 h2=>kC pL (fun j3=>x1=j3) (fun (j3:Int)=>([(3,ci j3)]:Fr)) (fun (j3:Int)=>([[ci p0v.Kind,ci p0v.Int,.c (.str p0v.Text),.c (PV.ls 5 cH p0v.Items),.c (PV.ls 1 jE p0v.Keys)]]:St)) ?_ ?_
  ·
   refine dA<|jS _ (fun (s4:(Int × Int))=>([(3,ci s4.1),(7,.c (PV.ls 5 cH p0v.Items)),(8,ci ((p0v.Items).length:Int)),(9,ci s4.2)]:Fr)) (fun (s4:(Int × Int))=>([[ci p0v.Kind,ci p0v.Int,.c (.str p0v.Text),.c (PV.ls 5 cH p0v.Items),.c (PV.ls 1 jE p0v.Keys)]]:St)) y1 (cR [] 1 r r r r kL4 (eU r aH)) ?_
   intro s4 st4 hs4 ho4
   unfold yA at hs4
   refine aT<|aW r (iJ r r)<|aR (fr':=[(3,aI),(7,aL),(8,aI),(9,aI),(10,aB)]) r r<|bC<|eS hs4 r (fun b5 h5=>?_) (fun b5 h5=>?_)
   ·
    exact cE<|eA<|bC<|dA<|bC<|bN<|bx h5 fun x6 y6 h7=>aW r (rD (cs:=[PV.int _ _,PV.int _ _,PV.str _,PV.ls _ _ _,PV.ls _ _ _]) aDc (fQ r) r y6 (hF _))<|aW r (lV (us:=[PV.int _ _,PV.int _ _,PV.str _,PV.ls _ _ _,PV.ls _ _ _]) jG r r r)<|kT (n:=1) (cs:=cJ) (σ':=[cK,cJ]) aF3 r r r<|cY (v:=.agg cK) (us:=cK) (cs:=cJ) (σ':=[cK,cK]) r jG r r r r r r r r<|aR (fr':=[(3,aI),(5,bK),(7,aL),(8,aI),(9,aI)]) r r<|bN<|mI r<|aW r (dN (us:=cK) jG r r r r)<|bx h7 fun x8 y8 h9=>qB (bR (v:=aI) r (ih_value_Size y8) ⟨(bV r kR5),trivial⟩ r r r)<|aW r (iH r r)<|sI r<|fG (fr':=[(3,aI),(5,bK),(7,aL),(8,aI),(9,aI)]) r<|eW<|eA<|bN<|aW r (iH r r)<|mI r<|fG (fr':=[(3,aI),(5,bK),(7,aL),(8,aI),(9,aI)]) r<|e_l _ (sy h9) (cR [] 1 r r r r kL4 (eU r aH))
   ·
    refine kF<|eL<|eL<|iM ?_
    have h10:=gN h5 ho4
    exact tB _ (sy h10) (cR [] 1 r r r r ⟨lr,trivial⟩ (eU r aH))
  ·
   intro j3 hj11
   subst hj11
   refine eA<|aT<|mI r<|sI r<|aR (fr':=[(2,aI)]) r r<|cB ?_
   obtain rfl:=sy h2
   exact bZ (rs':=[.tmp 2]) r<|cM (v:=aI) r<|bX<|aZ [] r r r lr aH
noncomputable def aDU (p0v:aE):Option Int:=lim fun n=>tX n p0v
theorem aJO {p0v:aE}{z:Int} (h:aDU p0v=some z):dE Tryz.prog 192 [.agg (AV.cs (fZ p0v))] [] (ci z) []:=by
 obtain ⟨n,hn⟩:=wK h
 exact (aIa n) hn
noncomputable def yB (p0k:(List UInt8)):Option Bool :=
 some (decide (4096<((p0k).length:Int)))
theorem aF9 {p0k:(List UInt8)}{z:Bool} (h:yB p0k=some z):dE Tryz.prog 208 [.c (.str p0k)] [] (.c (.bool z)) []:=by
 unfold yB at h
 refine eJ (fn:=Tryz.f208) [0,2] (by kernel_rfl) Tryz.func208 r (by kernel_rfl) (by kernel_rfl)<|aT<|sB r<|aR (fr':=[(0,aS)]) r r<|aT<|mS r<|aW r (rN zG r)<|aW r (uW r r)<|sB r<|aR (fr':=[(2,aB)]) r r<|cB ?_
 obtain rfl:=sy h
 exact bZ (rs':=[.tmp 2]) r<|cM (v:=aB) r<|bX<|aZ [] r r r lr aH
noncomputable def gC (p0s:(List (List UInt8))) (s4:Int):Option (dG Int (Fl Int Unit)) :=
 cond (decide (s4<((p0s).length:Int))) ((nF p0s s4).bind fun x6=>(yB x6).bind fun x8=>cond x8 (some (dG.out (Fl.done s4))) (some (dG.next (IntKind.wrap .i64 (s4+1))))) (some (dG.out (Fl.go ())))
noncomputable def iD (p0s:(List (List UInt8))):Option Int :=
 (fX (gC p0s) (0)).bind fun x1=>Fl.next x1 (fun j3=>(some (-1)))
theorem qV {p0s:(List (List UInt8))}{z:Int} (h:iD p0s=some z):dE Tryz.prog 206 [.c (PV.ls 1 jE p0s),.fn 208 []] [] (ci z) []:=by
 unfold iD at h
 refine eJ (fn:=Tryz.f206) [0,1,4,5,7,8,9,16] (by kernel_rfl) Tryz.func206 r (by kernel_rfl) (by kernel_rfl)<|aT<|sI r<|aR (fr':=[(0,aL),(1,.fn _ [])]) r r<|bC<|aT<|mL r<|aW r (iR aBi (fQ r))<|mI r<|aR (fr':=[(0,aL),(1,.fn _ []),(7,aI),(8,aI)]) r r<|bx h fun x1 y1 h2=>kC pL (fun j3=>x1=Fl.go j3) (fun (j3:Unit)=>([]:Fr)) (fun (j3:Unit)=>([]:St)) ?_ ?_
 ·
  refine dA<|jS _ (fun (s4:Int)=>([(0,.c (PV.ls 1 jE p0s)),(1,.fn 208 []),(7,ci ((p0s).length:Int)),(8,ci s4)]:Fr)) (fun (s4:Int)=>([]:St)) y1 (cR [] 0 r r r r kL4 aH) ?_
  intro s4 st4 hs4 ho4
  unfold gC at hs4
  refine aT<|aW r (iJ r r)<|aR (fr':=[(0,aL),(1,.fn _ []),(7,aI),(8,aI),(9,aB)]) r r<|bC<|eS hs4 r (fun b5 h5=>?_) (fun b5 h5=>?_)
  ·
   refine cE<|eA<|bC<|dA<|aT<|mI r<|sI r<|aR (fr':=[(0,aL),(1,.fn _ []),(5,aI),(7,aI),(8,aI)]) r r<|aT<|mV (v:=.fn _ []) r<|mL r<|mI r<|bx h5 fun x6 y6 h7=>aW r (rD (cs:=[PV.str _]) aBQ (fQ r) r y6 r)<|aW r (nR (p:=PV.str _) oG r r)<|bx h7 fun x8 y8 h9=>qB (bR (v:=aB) r (aF9 y8) ⟨lr,trivial⟩ r r r)<|aR (fr':=[(0,aL),(1,.fn _ []),(5,aI),(7,aI),(8,aI),(16,aB)]) r r<|eS h9 r (fun b10 h10=>?_) (fun b10 h10=>?_)
   ·
    refine aT<|mI r<|sI r<|aR (fr':=[(4,aI)]) r r<|cB<|cL<|aV<|aV<|cL<|aV<|aV ?_
    have h11:=gN h10 ho4
    have h12:=hU h11 h2
    obtain rfl:=sy h12
    exact bZ (rs':=[.tmp 4]) r<|cM (v:=aI) r<|bX<|aZ [] r r r lr aH
   ·
    exact cE<|eW<|eA<|bN<|aW r (iH r r)<|mI r<|fG (fr':=[(0,aL),(1,.fn _ []),(5,aI),(7,aI),(8,aI),(16,aB)]) r<|e_l _ (sy h10) (cR [] 0 r r r r kL4 aH)
  ·
   refine kF<|eL<|eL<|iM ?_
   have h14:=gN h5 ho4
   exact tB _ (sy h14) (cR [] 0 r r r r trivial aH)
 ·
  intro j3 hj15
  have h15:=qP hj15 h2
  refine eA<|aT<|sI r<|aR (fr':=[(4,aI)]) r r<|cB ?_
  obtain rfl:=sy h15
  exact bZ (rs':=[.tmp 4]) r<|cM (v:=aI) r<|bX<|aZ [] r r r lr aH
noncomputable def gA (p0s:(List (List UInt8))):Option Bool :=
 (iD p0s).bind fun x1=>some (decide (0≤x1))
theorem pX {p0s:(List (List UInt8))}{z:Bool} (h:gA p0s=some z):dE Tryz.prog 178 [.c (PV.ls 1 jE p0s),.fn 208 []] [] (.c (.bool z)) []:=by
 unfold gA at h
 refine eJ (fn:=Tryz.f178) [0,1,4] (by kernel_rfl) Tryz.func178 r (by kernel_rfl) (by kernel_rfl)<|aT<|sB r<|aR (fr':=[(0,aL),(1,.fn _ [])]) r r<|aT<|mL r<|mV (v:=.fn _ []) r<|bx h fun x1 y1 h2=>qB (bR (v:=aI) r (qV y1) pV r r r)<|aW r (xD r r)<|sB r<|aR (fr':=[(4,aB)]) r r<|cB ?_
 obtain rfl:=sy h2
 exact bZ (rs':=[.tmp 4]) r<|cM (v:=aB) r<|bX<|aZ [] r r r lr aH
noncomputable def fN (aEo:aE→Option Bool) (p0s:(List aE)) (s4:Int):Option (dG Int (Fl Int Unit)) :=
 cond (decide (s4<((p0s).length:Int))) ((nF p0s s4).bind fun x6=>(aEo x6).bind fun x8=>cond x8 (some (dG.out (Fl.done s4))) (some (dG.next (IntKind.wrap .i64 (s4+1))))) (some (dG.out (Fl.go ())))
mutual
noncomputable def eR:Nat→(List aE)→Option Bool
 | 0,_=>none
 | n+1,p0s =>
  ((fU n) p0s).bind fun x1=>some (decide (0≤x1))
noncomputable def fU:Nat→(List aE)→Option Int
 | 0,_=>none
 | n+1,p0s =>
  (fX (fN (rF n) p0s) (0)).bind fun x1=>Fl.next x1 (fun j3=>(some (-1)))
noncomputable def rS:Nat→aE→Option Bool
 | 0,_=>none
 | n+1,p0v =>
  (gd ((decide (4096<((p0v.Text).length:Int)))==false) (gA p0v.Keys)).bind fun x1=>cond (cond (decide (4096<((p0v.Text).length:Int))) true x1) (some false) (((eR n) p0v.Items).bind fun x5=>some (!x5))
noncomputable def rF:Nat→aE→Option Bool
 | 0,_=>none
 | n+1,p0x =>
  ((rS n) p0x).bind fun x1=>some (!x1)
end
theorem oC:∀ n:Nat,(∀ {p0s:(List aE)}{z:Bool},eR n p0s=some z→dE Tryz.prog 176 [.c (PV.ls 5 cH p0s),.fn 209 []] [] (.c (.bool z)) [])∧(∀ {p0s:(List aE)}{z:Int},fU n p0s=some z→dE Tryz.prog 205 [.c (PV.ls 5 cH p0s),.fn 209 []] [] (ci z) [])∧(∀ {p0v:aE}{z:Bool},rS n p0v=some z→dE Tryz.prog 193 [.agg (AV.cs (fZ p0v))] [] (.c (.bool z)) [])∧(∀ {p0x:aE}{z:Bool},rF n p0x=some z→dE Tryz.prog 209 [.agg (AV.cs (fZ p0x))] [] (.c (.bool z)) []):=by
 intro n
 induction n with
 | zero=>exact ⟨fun {p0s z} h=>absurd h (by simp [eR]),fun {p0s z} h=>absurd h (by simp [fU]),fun {p0v z} h=>absurd h (by simp [rS]),fun {p0x z} h=>absurd h (by simp [rF])⟩
 | succ n ih =>
  obtain ⟨ih_slices_ContainsFunc_api_Value_api_Value_value_short_2,ih_slices_IndexFunc_api_Value_api_Value_value_short_2,ih_value_short,ih_value_short_2⟩:=ih
  refine ⟨?_,?_,?_,?_⟩
  ·
   intro p0s z h
   rw [eR] at h
   refine eJ (fn:=Tryz.f176) [0,1,4] (by kernel_rfl) Tryz.func176 r (by kernel_rfl) (by kernel_rfl)<|aT<|sB r<|aR (fr':=[(0,aL),(1,.fn _ [])]) r r<|aT<|mL r<|mV (v:=.fn _ []) r<|bx h fun x1 y1 h2=>qB (bR (v:=aI) r (ih_slices_IndexFunc_api_Value_api_Value_value_short_2 y1) pV r r r)<|aW r (xD r r)<|sB r<|aR (fr':=[(4,aB)]) r r<|cB ?_
   obtain rfl:=sy h2
   exact bZ (rs':=[.tmp 4]) r<|cM (v:=aB) r<|bX<|aZ [] r r r lr aH
  ·
   intro p0s z h
   rw [fU] at h
   refine eJ (fn:=Tryz.f205) [0,1,4,5,7,8,9,16] (by kernel_rfl) Tryz.func205 r (by kernel_rfl) (by kernel_rfl)<|aT<|sI r<|aR (fr':=[(0,aL),(1,.fn _ [])]) r r<|bC<|aT<|mL r<|aW r (iR aCa (fQ r))<|mI r<|aR (fr':=[(0,aL),(1,.fn _ []),(7,aI),(8,aI)]) r r<|bx h fun x1 y1 h2=>kC pL (fun j3=>x1=Fl.go j3) (fun (j3:Unit)=>([]:Fr)) (fun (j3:Unit)=>([]:St)) ?_ ?_
   ·
    refine dA<|jS _ (fun (s4:Int)=>([(0,.c (PV.ls 5 cH p0s)),(1,.fn 209 []),(7,ci ((p0s).length:Int)),(8,ci s4)]:Fr)) (fun (s4:Int)=>([]:St)) y1 (cR [] 0 r r r r kL4 aH) ?_
    intro s4 st4 hs4 ho4
    unfold fN at hs4
    refine aT<|aW r (iJ r r)<|aR (fr':=[(0,aL),(1,.fn _ []),(7,aI),(8,aI),(9,aB)]) r r<|bC<|eS hs4 r (fun b5 h5=>?_) (fun b5 h5=>?_)
    ·
     refine cE<|eA<|bC<|dA<|aT<|mI r<|sI r<|aR (fr':=[(0,aL),(1,.fn _ []),(5,aI),(7,aI),(8,aI)]) r r<|aT<|mV (v:=.fn _ []) r<|mL r<|mI r<|bx h5 fun x6 y6 h7=>aW r (rD (cs:=[PV.int _ _,PV.int _ _,PV.str _,PV.ls _ _ _,PV.ls _ _ _]) aDc (fQ r) r y6 (hF _))<|aW r (lV (us:=[PV.int _ _,PV.int _ _,PV.str _,PV.ls _ _ _,PV.ls _ _ _]) jG r r r)<|bx h7 fun x8 y8 h9=>qB (bR (v:=aB) r (ih_value_short_2 y8) ⟨(bV r kR5),trivial⟩ r r r)<|aR (fr':=[(0,aL),(1,.fn _ []),(5,aI),(7,aI),(8,aI),(16,aB)]) r r<|eS h9 r (fun b10 h10=>?_) (fun b10 h10=>?_)
     ·
      refine aT<|mI r<|sI r<|aR (fr':=[(4,aI)]) r r<|cB<|cL<|aV<|aV<|cL<|aV<|aV ?_
      have h11:=gN h10 ho4
      have h12:=hU h11 h2
      obtain rfl:=sy h12
      exact bZ (rs':=[.tmp 4]) r<|cM (v:=aI) r<|bX<|aZ [] r r r lr aH
     ·
      exact cE<|eW<|eA<|bN<|aW r (iH r r)<|mI r<|fG (fr':=[(0,aL),(1,.fn _ []),(5,aI),(7,aI),(8,aI),(16,aB)]) r<|e_l _ (sy h10) (cR [] 0 r r r r kL4 aH)
    ·
     refine kF<|eL<|eL<|iM ?_
     have h14:=gN h5 ho4
     exact tB _ (sy h14) (cR [] 0 r r r r trivial aH)
   ·
    intro j3 hj15
    have h15:=qP hj15 h2
    refine eA<|aT<|sI r<|aR (fr':=[(4,aI)]) r r<|cB ?_
    obtain rfl:=sy h15
    exact bZ (rs':=[.tmp 4]) r<|cM (v:=aI) r<|bX<|aZ [] r r r lr aH
  ·
   intro p0v z h
   rw [rS] at h
   refine eJ (fn:=Tryz.f193) [0,1,2,11] (by kernel_rfl) Tryz.func193 r (by kernel_rfl) (by kernel_rfl)<|aT<|jB (v:=.agg cK) (n:=0) (cs:=cK) (σ':=[cK]) r r r r r<|sB r<|aR (fr':=[(1,aF)]) r r<|bC<|aT<|aW r (bH aA7 r)<|aW r (aK (v:=aS) oG r r r)<|aW r (rN zG r)<|aW r (uW r r)<|mB r<|og r r r (fun u=>(bH vO r))<|og r r r (fun u=>(aK (v:=aL) wD (gx r u) r r))<|bx h fun x1 y1 h2=>zB r r (fun u=>bR (v:=aB) r (pX (eQ y1 u)) ⟨(fY (gx r u) lr),lr,trivial⟩ (iN (by repeat (first | exact gK | refine bI r ?_ | refine bI (vT r) ?_ | refine bI vS ?_))) r r) ?_
   refine aW r (dD r r r (fun e=>hD e))<|aR (fr':=[(1,aF),(11,aB)]) r r<|eS h2 r (fun b3 h3=>?_) (fun b3 h3=>?_)
   ·
    refine aT<|sB r<|aR (fr':=[(2,aB)]) r r<|cB<|aV ?_
    obtain rfl:=sy h3
    exact bZ (rs':=[.tmp 2]) r<|cM (v:=aB) r<|bX<|aZ [] r r r lr aH
   ·
    refine cE<|eA<|aT<|aW r (bH pE r)<|aW r (aK (v:=aL) zT r r r)<|bx h3 fun x5 y5 h6=>qB (bR (v:=aB) r (ih_slices_ContainsFunc_api_Value_api_Value_value_short_2 y5) pV r r r)<|aW r (hY r)<|sB r<|aR (fr':=[(2,aB)]) r r<|cB ?_
    obtain rfl:=sy h6
    exact bZ (rs':=[.tmp 2]) r<|cM (v:=aB) r<|bX<|aZ [] r r r lr aH
  ·
   intro p0x z h
   rw [rF] at h
   refine eJ (fn:=Tryz.f209) [0,1,2] (by kernel_rfl) Tryz.func209 r (by kernel_rfl) (by kernel_rfl)<|aT<|jB (v:=.agg cK) (n:=0) (cs:=cK) (σ':=[cK]) r r r r r<|sB r<|aR (fr':=[(1,aF)]) r r<|aT<|aW r (dN (us:=cK) jG r r r r)<|bx h fun x1 y1 h2=>qB (bR (v:=aB) r (ih_value_short y1) ⟨(bV r kR5),trivial⟩ r r r)<|aW r (hY r)<|sB r<|aR (fr':=[(2,aB)]) r r<|cB ?_
   obtain rfl:=sy h2
   exact bZ (rs':=[.tmp 2]) r<|cM (v:=aB) r<|bX<|aZ [] r r r lr aH
noncomputable def aCP (p0v:aE):Option Bool:=lim fun n=>rS n p0v
theorem aIf {p0v:aE}{z:Bool} (h:aCP p0v=some z):dE Tryz.prog 193 [.agg (AV.cs (fZ p0v))] [] (.c (.bool z)) []:=by
 obtain ⟨n,hn⟩:=wK h
 exact (oC n).2.2.1 hn
noncomputable def wY (p0v:aE):Option Bool :=
 (aCN p0v).bind fun x1=>(gd ((decide (x1≤16))==true) (aDU p0v)).bind fun x3=>(gd ((cond (decide (x1≤16)) (decide (x3≤1000)) false)==true) (aCP p0v)).bind fun x5=>some (cond (cond (decide (x1≤16)) (decide (x3≤1000)) false) x5 false)
theorem aHK {p0v:aE}{z:Bool} (h:wY p0v=some z):dE Tryz.prog 160 [.agg (AV.cs (fZ p0v))] [] (.c (.bool z)) []:=by
 unfold wY at h
 refine eJ (fn:=Tryz.f160) [0,1,2] (by kernel_rfl) Tryz.func160 r (by kernel_rfl) (by kernel_rfl)<|aT<|jB (v:=.agg cK) (n:=0) (cs:=cK) (σ':=[cK]) r r r r r<|sB r<|aR (fr':=[(1,aF)]) r r<|aT<|aW r (dN (us:=cK) jG r r r r)<|bx h fun x1 y1 h2=>qB (bR (v:=aI) r (aIe y1) ⟨(bV r kR5),trivial⟩ r r r)<|aW r (aAn r r)<|mB r<|og r r r (fun u=>(dN (us:=cK) jG r r r r))<|bx h2 fun x3 y3 h4=>zB r r (fun u=>bR (v:=aI) r (aJO (eQ y3 u)) ⟨(fY (gx r u) (bV r kR5)),trivial⟩ (iN (by repeat (first | exact gK | refine bI r ?_ | refine bI (vT r) ?_ | refine bI vS ?_))) r r) ?_
 refine og r r r (fun u=>(aAn (gx r u) r))<|aW r (cD r r r (fun e=>hD e))<|mB r<|og r r r (fun u=>(dN (us:=cK) jG r r r r))<|bx h4 fun x5 y5 h6=>zB r r (fun u=>bR (v:=aB) r (aIf (eQ y5 u)) ⟨(fY (gx r u) (bV r kR5)),trivial⟩ (iN (by repeat (first | exact gK | refine bI r ?_ | refine bI (vT r) ?_ | refine bI vS ?_))) r r) ?_
 refine aW r (cD r r r (fun e=>hD e))<|sB r<|aR (fr':=[(2,aB)]) r r<|cB ?_
 obtain rfl:=sy h6
 exact bZ (rs':=[.tmp 2]) r<|cM (v:=aB) r<|bX<|aZ [] r r r lr aH
noncomputable def wA (p0v:aE):Option Bool :=
 (wY p0v).bind fun x1=>(gd (x1==true) (zX p0v false)).bind fun x3=>some (cond x1 x3 false)
theorem aDy {p0v:aE}{z:Bool} (h:wA p0v=some z):dE Tryz.prog 100 [.agg (AV.cs (fZ p0v))] [] (.c (.bool z)) []:=by
 unfold wA at h
 refine eJ (fn:=Tryz.f100) [0,1,2] (by kernel_rfl) Tryz.func100 r (by kernel_rfl) (by kernel_rfl)<|aT<|jB (v:=.agg cK) (n:=0) (cs:=cK) (σ':=[cK]) r r r r r<|sB r<|aR (fr':=[(1,aF)]) r r<|aT<|aW r (dN (us:=cK) jG r r r r)<|bx h fun x1 y1 h2=>qB (bR (v:=aB) r (aHK y1) ⟨(bV r kR5),trivial⟩ r r r)<|mB r<|og r r r (fun u=>(dN (us:=cK) jG r r r r))<|bx h2 fun x3 y3 h4=>zB r r (fun u=>bR (v:=aB) r (aCV (eQ y3 u)) ⟨(fY (gx r u) (bV r kR5)),lr,trivial⟩ (iN (by repeat (first | exact gK | refine bI r ?_ | refine bI (vT r) ?_ | refine bI vS ?_))) r r) ?_
 refine aW r (cD r r r (fun e=>hD e))<|sB r<|aR (fr':=[(2,aB)]) r r<|cB ?_
 obtain rfl:=sy h4
 exact bZ (rs':=[.tmp 2]) r<|cM (v:=aB) r<|bX<|aZ [] r r r lr aH
