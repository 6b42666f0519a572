import Derived.Test.YtnigjppddilpcaaGreatDoorGETy
import Derived.Test.YtnigjppddilpcaaGreatDoorGEF0
namespace Go.Proofs.YtnigjppddilpcaaGreatDoor
open Go Abs
set_option maxRecDepth 100000
set_option linter.unusedVariables false
set_option linter.unusedSimpArgs false
noncomputable def gK (p0s:(List (List UInt8))) (s4:Int):Option (dU Int (Fl Int Unit)) :=
 cond (decide (s4<((p0s).length:Int))) ((mP p0s s4).bind fun x6=>(sH x6).bind fun x8=>cond x8 (some (dU.out (Fl.done s4))) (some (dU.next (IntKind.wrap .i64 (s4+1))))) (some (dU.out (Fl.go ())))
noncomputable def iQ (p0s:(List (List UInt8))):Option Int :=
 (gL (gK p0s) (0)).bind fun x1=>Fl.next x1 (fun j3=>(some (-1)))
theorem rD {p0s:(List (List UInt8))}{z:Int} (h:iQ p0s=some z):cR Tryz.prog 206 [.c (PV.ls 1 fZ p0s),.fn 179 []] [] (ci z) []:=by
 unfold iQ at h
 refine dQ (fn:=Tryz.f206) [0,1,4,5,7,8,9,16] (by kernel_rfl) Tryz.func206 r (by kernel_rfl) (by kernel_rfl)<|aH<|sI r<|aG (fr':=[(0,aL),(1,.fn _ [])]) r r<|aU<|aH<|mL r<|aN r (gQ yZ (eD r))<|mI r<|aG (fr':=[(0,aL),(1,.fn _ []),(7,aI),(8,aI)]) r r<|bx h fun x1 y1 h2=>gY kS (fun j3=>x1=Fl.go j3) (fun (j3:Unit)=>([]:Fr)) (fun (j3:Unit)=>([]:St)) ?_ ?_
 ·
  refine cE<|gU _ (fun (s4:Int)=>([(0,.c (PV.ls 1 fZ p0s)),(1,.fn 179 []),(7,ci ((p0s).length:Int)),(8,ci s4)]:Fr)) (fun (s4:Int)=>([]:St)) y1 (bH [] 0 r r r r kL4 aC) ?_
  intro s4 st4 hs4 ho4
  unfold gK at hs4
  refine aH<|aN r (gC r r)<|aG (fr':=[(0,aL),(1,.fn _ []),(7,aI),(8,aI),(9,aB)]) r r<|aU<|cN hs4 r (fun b5 h5=>?_) (fun b5 h5=>?_)
  ·
   refine bL<|cY<|aU<|cE<|aH<|mI r<|sI r<|aG (fr':=[(0,aL),(1,.fn _ []),(5,aI),(7,aI),(8,aI)]) r r<|aH<|mV (v:=.fn _ []) r<|mL r<|mI r<|bx h5 fun x6 y6 h7=>aN r (lT (cs:=[PV.str _]) aBI (eD r) r y6 r)<|aN r (iO (p:=PV.str _) mG r r)<|bx h7 fun x8 y8 h9=>kB (bC (v:=aB) r (aDr y8) ⟨lr,trivial⟩ r r r)<|aG (fr':=[(0,aL),(1,.fn _ []),(5,aI),(7,aI),(8,aI),(16,aB)]) r r<|cN h9 r (fun b10 h10=>?_) (fun b10 h10=>?_)
   ·
    refine aH<|mI r<|sI r<|aG (fr':=[(4,aI)]) r r<|bJ<|bM<|aQ<|aQ<|bM<|aQ<|aQ ?_
    have h11:=eZ h10 ho4
    have h12:=gT h11 h2
    obtain rfl:=sy h12
    exact bI (rs':=[.tmp 4]) r<|bX (v:=aI) r<|bG<|aP [] r r r lr aC
   ·
    exact bL<|dH<|cY<|bA<|aN r (fY r r)<|mI r<|dT (fr':=[(0,aL),(1,.fn _ []),(5,aI),(7,aI),(8,aI),(16,aB)]) r<|e_l _ (sy h10) (bH [] 0 r r r r kL4 aC)
  ·
   refine iA<|cX<|cX<|fS ?_
   have h14:=eZ h5 ho4
   exact kI _ (sy h14) (bH [] 0 r r r r trivial aC)
 ·
  intro j3 hj15
  have h15:=mY hj15 h2
  refine cY<|aH<|sI r<|aG (fr':=[(4,aI)]) r r<|bJ ?_
  obtain rfl:=sy h15
  exact bI (rs':=[.tmp 4]) r<|bX (v:=aI) r<|bG<|aP [] r r r lr aC
noncomputable def gI (p0s:(List (List UInt8))):Option Bool :=
 (iQ p0s).bind fun x1=>some (decide (0≤x1))
theorem pW {p0s:(List (List UInt8))}{z:Bool} (h:gI p0s=some z):cR Tryz.prog 178 [.c (PV.ls 1 fZ p0s),.fn 179 []] [] (.c (.bool z)) []:=by
 unfold gI at h
 refine dQ (fn:=Tryz.f178) [0,1,4] (by kernel_rfl) Tryz.func178 r (by kernel_rfl) (by kernel_rfl)<|aH<|sB r<|aG (fr':=[(0,aL),(1,.fn _ [])]) r r<|aH<|mL r<|mV (v:=.fn _ []) r<|bx h fun x1 y1 h2=>kB (bC (v:=aI) r (rD y1) kU r r r)<|aN r (qR r r)<|sB r<|aG (fr':=[(4,aB)]) r r<|bJ ?_
 obtain rfl:=sy h2
 exact bI (rs':=[.tmp 4]) r<|bX (v:=aB) r<|bG<|aP [] r r r lr aC
noncomputable def rL (p0o:dR) (s8:Int):Option (dU Int (Fl Bool Unit)) :=
 cond (decide (s8<((([p0o.ToStart,p0o.ToClose,p0o.Total,p0o.Beat,p0o.First,p0o.Most]:List Int)).length:Int))) ((mP ([p0o.ToStart,p0o.ToClose,p0o.Total,p0o.Beat,p0o.First,p0o.Most]:List Int) s8).bind fun x10=>(nE x10 0 1099511627776).bind fun x12=>cond (!x12) (some (dU.out (Fl.done false))) (some (dU.next (IntKind.wrap .i64 (s8+1))))) (some (dU.out (Fl.go ())))
noncomputable def nD (p0o:dR):Option Bool :=
 (gd ((!decide (p0o.Queue=([]:List UInt8)))==true) (rY p0o.Queue)).bind fun x1=>cond (cond (cond (!decide (p0o.Queue=([]:List UInt8))) (!x1) false) true (decide (64<((p0o.Fatal).length:Int)))) (some false) ((gL (rL p0o) (0)).bind fun x5=>Fl.next x5 (fun j7=>((nE p0o.Coef 0 10000).bind fun x20=>(gd (x20==true) (nE p0o.Attempts 0 1000)).bind fun x22=>(gd ((cond x20 x22 false)==true) (gI p0o.Fatal)).bind fun x24=>some (cond (cond x20 x22 false) (!x24) false))))
theorem wS {p0o:dR}{z:Bool} (h:nD p0o=some z):cR Tryz.prog 130 [.agg (AV.cs (lP p0o))] [] (.c (.bool z)) []:=by
 unfold nD at h
 refine dQ (fn:=Tryz.f130) [0,1,2,4,19,32,33,34,35,40] (by kernel_rfl) Tryz.func130 r (by kernel_rfl) (by kernel_rfl)<|aH<|iR (v:=.agg dE) (n:=0) (cs:=dE) (σ':=[dE]) r r r r r<|sB r<|aG (fr':=[(1,aD)]) r r<|aU<|aH<|aN r (bE aCq r)<|aN r (aJ (v:=aS) mG r r r)<|aN r (vK r r)<|mB r<|og r r r (fun u=>(bE aCq r))<|og r r r (fun u=>(aJ (v:=aS) mG (gx r u) r r))<|bx h fun x1 y1 h2=>uP r r (fun u=>bC (v:=aB) r (vV (cZ y1 u)) ⟨(fH (gx r u) lr),trivial⟩ (gO (by repeat (first | exact fC | refine aZ r ?_ | refine aZ (rG r) ?_ | refine aZ rF ?_))) r r) ?_
 refine og r r r (fun u=>(fP (gx r u)))<|aN r (cB r r r (fun e=>fU e))<|mB r<|og r r r (fun u=>(bE uA r))<|og r r r (fun u=>(aJ (v:=aL) sE (gx r u) r r))<|og r r r (fun u=>(gQ yZ (eD (gx r u))))<|og r r r (fun u=>(sP (gx r u) r))<|aN r (cM r r r (fun e=>fU e))<|aG (fr':=[(1,aD),(19,aB)]) r r<|cN h2 r (fun b3 h3=>?_) (fun b3 h3=>?_)
 ·
  refine aH<|sB r<|aG (fr':=[(2,aB)]) r r<|bJ<|aQ ?_
  obtain rfl:=sy h3
  exact bI (rs':=[.tmp 2]) r<|bX (v:=aB) r<|bG<|aP [] r r r lr aC
 ·
  refine bL<|cY<|aU<|aH<|aN r (bE aFX r)<|aN r (aJ (v:=aI) gA r r r)<|aN r (bE aFY r)<|aN r (aJ (v:=aI) gA r r r)<|aN r (bE aFZ r)<|aN r (aJ (v:=aI) gA r r r)<|aN r (bE aF0 r)<|aN r (aJ (v:=aI) gA r r r)<|aN r (bE aF1 r)<|aN r (aJ (v:=aI) gA r r r)<|aN r (bE aF3 r)<|aN r (aJ (v:=aI) gA r r r)<|sW (row:=(aFU .i64)) (xs:=([p0o.ToStart,p0o.ToClose,p0o.Total,p0o.Beat,p0o.First,p0o.Most]:List Int)) (rows:=[[_],[_],[_],[_],[_],[_]]) (σ':=[dE]) [0] aG6 r r r (eI r (eI r (eI r (eI r (eI r (eI r mX)))))) r r<|aN r (gQ aPo (rQ r))<|mI r<|aG (fr':=[(1,aD),(32,aO),(33,aI),(34,aI)]) r r<|bx h3 fun x5 y5 h6=>gY kS (fun j7=>x5=Fl.go j7) (fun (j7:Unit)=>([(1,aD)]:Fr)) (fun (j7:Unit)=>([[.c (.str p0o.Queue),ci p0o.ToStart,ci p0o.ToClose,ci p0o.Total,ci p0o.Beat,ci p0o.First,ci p0o.Coef,ci p0o.Most,ci p0o.Attempts,.c (PV.ls 1 fZ p0o.Fatal)]]:St)) ?_ ?_
  ·
   refine cE<|gU _ (fun (s8:Int)=>([(1,aD),(32,AV.os 0 1 (aFU .i64) ([p0o.ToStart,p0o.ToClose,p0o.Total,p0o.Beat,p0o.First,p0o.Most]:List Int)),(33,ci ((([p0o.ToStart,p0o.ToClose,p0o.Total,p0o.Beat,p0o.First,p0o.Most]:List Int)).length:Int)),(34,ci s8)]:Fr)) (fun (s8:Int)=>([[.c (.str p0o.Queue),ci p0o.ToStart,ci p0o.ToClose,ci p0o.Total,ci p0o.Beat,ci p0o.First,ci p0o.Coef,ci p0o.Most,ci p0o.Attempts,.c (PV.ls 1 fZ p0o.Fatal)]]:St)) y5 (bH [512] 1 r r r r kL4 (cV r aC)) ?_
   intro s8 st8 hs8 ho8
   unfold rL at hs8
   refine aH<|aN r (gC r r)<|aG (fr':=[(1,aD),(32,aO),(33,aI),(34,aI),(35,aB)]) r r<|aU<|cN hs8 r (fun b9 h9=>?_) (fun b9 h9=>?_)
   ·
    refine bL<|cY<|aU<|cE<|aU<|bA<|bx h9 fun x10 y10 h11=>aN r (lT (cs:=[PV.int _ _]) aG6 (rQ r) r y10 r)<|aN r (iO (p:=PV.int _ _) gA r r)<|sI r<|aG (fr':=[(1,aD),(4,aI),(32,aO),(33,aI),(34,aI)]) r r<|aH<|mI r<|bx h11 fun x12 y12 h13=>kB (bC (v:=aB) r (oP y12) lG r r r)<|aN r (fP r)<|aG (fr':=[(1,aD),(32,aO),(33,aI),(34,aI),(40,aB)]) r r<|cN h13 r (fun b14 h14=>?_) (fun b14 h14=>?_)
    ·
     refine aH<|sB r<|aG (fr':=[(2,aB)]) r r<|bJ<|bM<|aQ<|aQ<|bM<|aQ<|aQ ?_
     have h15:=eZ h14 ho8
     have h16:=gT h15 h6
     obtain rfl:=sy h16
     exact bI (rs':=[.tmp 2]) r<|bX (v:=aB) r<|bG<|aP [] r r r lr aC
    ·
     exact bL<|dH<|cY<|bA<|aN r (fY r r)<|mI r<|dT (fr':=[(1,aD),(32,aO),(33,aI),(34,aI),(40,aB)]) r<|e_l _ (sy h14) (bH [0] 1 r r r r kL4 (cV r aC))
   ·
    refine iA<|cX<|cX<|fS ?_
    have h18:=eZ h9 ho8
    exact kI _ (sy h18) (bH [] 1 r r r r ⟨lr,trivial⟩ (cV r aC))
  ·
   intro j7 hj19
   have h19:=mY hj19 h6
   refine cY<|aH<|aN r (bE aF2 r)<|aN r (aJ (v:=aI) gA r r r)<|bx h19 fun x20 y20 h21=>kB (bC (v:=aB) r (oP y20) lG r r r)<|mB r<|og r r r (fun u=>(bE aF4 r))<|og r r r (fun u=>(aJ (v:=aI) gA (gx r u) r r))<|bx h21 fun x22 y22 h23=>uP r r (fun u=>bC (v:=aB) r (oP (cZ y22 u)) ⟨(fH (gx r u) lr),lr,lr,trivial⟩ (gO (by repeat (first | exact fC | refine aZ r ?_ | refine aZ (rG r) ?_ | refine aZ rF ?_))) r r) ?_
   refine aN r (cB r r r (fun e=>fU e))<|mB r<|og r r r (fun u=>(bE uA r))<|og r r r (fun u=>(aJ (v:=aL) sE (gx r u) r r))<|bx h23 fun x24 y24 h25=>uP r r (fun u=>bC (v:=aB) r (pW (cZ y24 u)) ⟨(fH (gx r u) lr),lr,trivial⟩ (gO (by repeat (first | exact fC | refine aZ r ?_ | refine aZ (rG r) ?_ | refine aZ rF ?_))) r r) ?_
   refine og r r r (fun u=>(fP (gx r u)))<|aN r (cB r r r (fun e=>fU e))<|sB r<|aG (fr':=[(2,aB)]) r r<|bJ ?_
   obtain rfl:=sy h25
   exact bI (rs':=[.tmp 2]) r<|bX (v:=aB) r<|bG<|aP [] r r r lr aC
noncomputable def qY (eK:dR):Option Unit :=
 some ()
theorem aAQ {eK:dR}{z:Unit} (h:qY eK=some z):cR Tryz.prog 146 [.box 0 0] [AV.cs (lP eK)] (.ptrs [(0,1),(0,2),(0,3),(0,4),(0,5),(0,6),(0,7),(0,8)]) [AV.cs (lP eK)]:=by
 unfold qY at h
 refine dQ (fn:=Tryz.f146) [0,2] (by kernel_rfl) Tryz.func146 r (by kernel_rfl) (by kernel_rfl)<|aH<|sV (v:=AV.nil) r<|aG (fr':=[(0,aD)]) r r<|aU<|mW [.q 0,.q 1,.q 2,.q 3,.q 4,.q 5,.q 6,.q 7,.q 8,.q 9,.q 10,.q 11,.q 12,.q 13,.q 14,.q 15,.q 16,.q 17,.q 18,.q 19,.q 20,.q 21,.q 22,.q 23,.n 24 [],.n 25 []] [(some 3,[0]),(some 4,[3]),(some 5,[4]),(some 6,[0]),(some 7,[6]),(some 8,[7]),(some 9,[0]),(some 10,[9]),(some 11,[10]),(some 12,[0]),(some 13,[12]),(some 14,[13]),(some 15,[0]),(some 16,[15]),(some 17,[16]),(some 18,[0]),(some 19,[18]),(some 20,[19]),(some 21,[0]),(some 22,[21]),(some 23,[22]),(some 24,[0]),(some 25,[24]),(some 26,[25]),(some 27,[5,8,11,14,17,20,23,26]),(some 2,[27])] [0,1,3,0,8,24,0,64,192,0,512,1536,0,4096,12288,0,32768,98304,0,262144,786432,0,2097152,6291456,16777215,33554431] (by kernel_rfl)<|dq r r (bS (v:=aD) r)<|dq r r (kJ r)<|dq r r (bE aFX r)<|dq r r (bS (v:=aD) r)<|dq r r (kJ r)<|dq r r (bE aFY r)<|dq r r (bS (v:=aD) r)<|dq r r (kJ r)<|dq r r (bE aFZ r)<|dq r r (bS (v:=aD) r)<|dq r r (kJ r)<|dq r r (bE aF0 r)<|dq r r (bS (v:=aD) r)<|dq r r (kJ r)<|dq r r (bE aF1 r)<|dq r r (bS (v:=aD) r)<|dq r r (kJ r)<|dq r r (bE aF2 r)<|dq r r (bS (v:=aD) r)<|dq r r (kJ r)<|dq r r (bE aF3 r)<|dq r r (bS (v:=aD) r)<|dq r r (kJ r)<|dq r r (bE aF4 r)<|d_n r ?_ r
 refine aO3 (l:=[(0,1),(0,2),(0,3),(0,4),(0,5),(0,6),(0,7),(0,8)]) uE r r r r<|aEx<|⟨xN,?_⟩
 refine d_n r ?_ r
 refine sV (v:=.ptrs [(0,1),(0,2),(0,3),(0,4),(0,5),(0,6),(0,7),(0,8)]) r<|aEx<|⟨xN,?_⟩
 refine aBl (fr':=[(2,.ptrs [(0,1),(0,2),(0,3),(0,4),(0,5),(0,6),(0,7),(0,8)])]) r r<|bJ ?_
 obtain rfl:=sy h
 exact bI (rs':=[.tmp 2]) r<|bX (v:=.ptrs [(0,1),(0,2),(0,3),(0,4),(0,5),(0,6),(0,7),(0,8)]) r<|bG<|aPK [] r r r lr (cV r aC)
noncomputable def wV (p1o:dR) (s31:((List UInt8) × Int)):Option (dU ((List UInt8) × Int) (List UInt8)) :=
 cond (decide (s31.2<((p1o.Fatal).length:Int))) ((mP p1o.Fatal s31.2).bind fun x33=>(kZ s31.1 x33).bind fun x35=>some (dU.next (x35,(IntKind.wrap .i64 (s31.2+1))))) (some (dU.out s31.1))
noncomputable def uK (p0b:(List UInt8)) (p1o:dR):Option (List UInt8) :=
 (kZ p0b p1o.Queue).bind fun x1=>(qY p1o).bind fun x3=>(hY x1 p1o.ToStart).bind fun x6=>(hY x6 p1o.ToClose).bind fun x8=>(hY x8 p1o.Total).bind fun x11=>(hY x11 p1o.Beat).bind fun x13=>(hY x13 p1o.First).bind fun x16=>(hY x16 p1o.Coef).bind fun x18=>(hY x18 p1o.Most).bind fun x21=>(hY x21 p1o.Attempts).bind fun x23=>(hY x23 ((p1o.Fatal).length:Int)).bind fun x26=>(gL (wV p1o) ((x26,0))).bind fun x28=>(some x28)
theorem aDs {p0b:(List UInt8)}{p1o:dR}{z:(List UInt8)} (h:uK p0b p1o=some z):cR Tryz.prog 131 [.c (PV.ls 1 hF p0b),.agg (AV.cs (lP p1o))] [] (AV.os 0 1 hF z) []:=by
 unfold uK at h
 refine dQ (fn:=Tryz.f131) [0,1,3,4,6,8,13,14,15,16,31,32,33,34] (by kernel_rfl) Tryz.func131 r (by kernel_rfl) (by kernel_rfl)<|aH<|iR (v:=.agg dE) (n:=0) (cs:=dE) (σ':=[dE]) r r r r r<|sV (v:=AV.nil) r<|aG (fr':=[(0,aL),(3,aD)]) r r<|aH<|mL r<|aN r (bE aCq r)<|aN r (aJ (v:=aS) mG r r r)<|bx h fun x1 y1 h2=>kB (bC (v:=aO) r (mO y1) kU r r r)<|sV (v:=aO) r<|aG (fr':=[(0,aO),(3,aD)]) r r<|aU<|aU<|bA<|bx h2 fun x3 y3 h4=>aCK (v:=.ptrs [(0,1),(0,2),(0,3),(0,4),(0,5),(0,6),(0,7),(0,8)]) (σ':=[dE]) 13 [0] [] r (aAQ y3) r r r ⟨lr,trivial⟩ (hU zX aC) r r r<|aN r (aL6 aTU r)<|mI r<|aG (fr':=[(0,aO),(3,aD),(13,.ptrs [(0,1),(0,2),(0,3),(0,4),(0,5),(0,6),(0,7),(0,8)]),(14,aI),(15,aI)]) r r<|cE<|aQe 64<|xM<|aH<|aN r (zB (gC r r) (show _=.bool true from r))<|aG (fr':=[(0,aO),(3,aD),(13,.ptrs [(0,1),(0,2),(0,3),(0,4),(0,5),(0,6),(0,7),(0,8)]),(14,aI),(15,aI),(16,aB)]) r r<|aU<|kD r<|bL<|cY<|aU<|cE<|aH<|aN r (oL (p:=(0,1)) uE r r r)<|aN r (jV vQ r)<|sV (v:=aM1) r<|aG (fr':=[(0,aO),(3,aD),(6,aM1),(13,.ptrs [(0,1),(0,2),(0,3),(0,4),(0,5),(0,6),(0,7),(0,8)]),(14,aI),(15,aI)]) r r<|bA<|mV (v:=aO) r<|mV (v:=aM1) r<|aN r (kJ r)<|aN r (aJ (v:=aI) gA r r r)<|bx h4 fun x6 y6 h7=>kB (bC (v:=aO) r (hH y6) kU r r r)<|sV (v:=aO) r<|dT (fr':=[(0,aO),(3,aD),(6,aM1),(13,.ptrs [(0,1),(0,2),(0,3),(0,4),(0,5),(0,6),(0,7),(0,8)]),(14,aI),(15,aI)]) r<|dH<|cY<|bA<|aN r (zB (fY r r) (show _=.int .i64 (1:Int) from r))<|mI r<|dT (fr':=[(0,aO),(3,aD),(6,aM1),(13,.ptrs [(0,1),(0,2),(0,3),(0,4),(0,5),(0,6),(0,7),(0,8)]),(14,aI),(15,aI)]) r<|lM<|xM<|aU<|bA<|aN r (zB (gC r r) (show _=.bool true from r))<|aG (fr':=[(0,aO),(3,aD),(13,.ptrs [(0,1),(0,2),(0,3),(0,4),(0,5),(0,6),(0,7),(0,8)]),(14,aI),(15,aI),(16,aB)]) r r<|aU<|kD r<|bL<|cY<|aU<|cE<|aH<|aN r (oL (p:=(0,2)) uE r r r)<|aN r (jV vQ r)<|sV (v:=aM2) r<|aG (fr':=[(0,aO),(3,aD),(6,aM2),(13,.ptrs [(0,1),(0,2),(0,3),(0,4),(0,5),(0,6),(0,7),(0,8)]),(14,aI),(15,aI)]) r r<|bA<|mV (v:=aO) r<|mV (v:=aM2) r<|aN r (kJ r)<|aN r (aJ (v:=aI) gA r r r)<|bx h7 fun x8 y8 h9=>aCK (v:=aO) (σ':=[dE]) 50010 [] [] r (hH y8) r r r kU aC r r r<|sV (v:=aO) r<|dT (fr':=[(0,aO),(3,aD),(6,aM2),(13,.ptrs [(0,1),(0,2),(0,3),(0,4),(0,5),(0,6),(0,7),(0,8)]),(14,aI),(15,aI)]) r<|dH<|cY<|bA<|aN r (zB (fY r r) (show _=.int .i64 (2:Int) from r))<|mI r<|dT (fr':=[(0,aO),(3,aD),(6,aM2),(13,.ptrs [(0,1),(0,2),(0,3),(0,4),(0,5),(0,6),(0,7),(0,8)]),(14,aI),(15,aI)]) r<|lM<|xM<|aU<|bA<|aN r (zB (gC r r) (show _=.bool true from r))<|aG (fr':=[(0,aO),(3,aD),(13,.ptrs [(0,1),(0,2),(0,3),(0,4),(0,5),(0,6),(0,7),(0,8)]),(14,aI),(15,aI),(16,aB)]) r r<|aU<|kD r<|bL<|cY<|aU<|cE<|aH<|aN r (oL (p:=(0,3)) uE r r r)<|aN r (jV vQ r)<|sV (v:=aM3) r<|aG (fr':=[(0,aO),(3,aD),(6,aM3),(13,.ptrs [(0,1),(0,2),(0,3),(0,4),(0,5),(0,6),(0,7),(0,8)]),(14,aI),(15,aI)]) r r<|bA<|mV (v:=aO) r<|mV (v:=aM3) r<|aN r (kJ r)<|aN r (aJ (v:=aI) gA r r r)<|bx h9 fun x11 y11 h12=>kB (bC (v:=aO) r (hH y11) kU r r r)<|sV (v:=aO) r<|dT (fr':=[(0,aO),(3,aD),(6,aM3),(13,.ptrs [(0,1),(0,2),(0,3),(0,4),(0,5),(0,6),(0,7),(0,8)]),(14,aI),(15,aI)]) r<|dH<|cY<|bA<|aN r (zB (fY r r) (show _=.int .i64 (3:Int) from r))<|mI r<|dT (fr':=[(0,aO),(3,aD),(6,aM3),(13,.ptrs [(0,1),(0,2),(0,3),(0,4),(0,5),(0,6),(0,7),(0,8)]),(14,aI),(15,aI)]) r<|lM<|xM<|aU<|bA<|aN r (zB (gC r r) (show _=.bool true from r))<|aG (fr':=[(0,aO),(3,aD),(13,.ptrs [(0,1),(0,2),(0,3),(0,4),(0,5),(0,6),(0,7),(0,8)]),(14,aI),(15,aI),(16,aB)]) r r<|aU<|kD r<|bL<|cY<|aU<|cE<|aH<|aN r (oL (p:=(0,4)) uE r r r)<|aN r (jV vQ r)<|sV (v:=aM4) r<|aG (fr':=[(0,aO),(3,aD),(6,aM4),(13,.ptrs [(0,1),(0,2),(0,3),(0,4),(0,5),(0,6),(0,7),(0,8)]),(14,aI),(15,aI)]) r r<|bA<|mV (v:=aO) r<|mV (v:=aM4) r<|aN r (kJ r)<|aN r (aJ (v:=aI) gA r r r)<|bx h12 fun x13 y13 h14=>aCK (v:=aO) (σ':=[dE]) 50015 [] [] r (hH y13) r r r kU aC r r r<|sV (v:=aO) r<|dT (fr':=[(0,aO),(3,aD),(6,aM4),(13,.ptrs [(0,1),(0,2),(0,3),(0,4),(0,5),(0,6),(0,7),(0,8)]),(14,aI),(15,aI)]) r<|dH<|cY<|bA<|aN r (zB (fY r r) (show _=.int .i64 (4:Int) from r))<|mI r<|dT (fr':=[(0,aO),(3,aD),(6,aM4),(13,.ptrs [(0,1),(0,2),(0,3),(0,4),(0,5),(0,6),(0,7),(0,8)]),(14,aI),(15,aI)]) r<|lM<|xM<|aU<|bA<|aN r (zB (gC r r) (show _=.bool true from r))<|aG (fr':=[(0,aO),(3,aD),(13,.ptrs [(0,1),(0,2),(0,3),(0,4),(0,5),(0,6),(0,7),(0,8)]),(14,aI),(15,aI),(16,aB)]) r r<|aU<|kD r<|bL<|cY<|aU<|cE<|aH<|aN r (oL (p:=(0,5)) uE r r r)<|aN r (jV vQ r)<|sV (v:=aM5) r<|aG (fr':=[(0,aO),(3,aD),(6,aM5),(13,.ptrs [(0,1),(0,2),(0,3),(0,4),(0,5),(0,6),(0,7),(0,8)]),(14,aI),(15,aI)]) r r<|bA<|mV (v:=aO) r<|mV (v:=aM5) r<|aN r (kJ r)<|aN r (aJ (v:=aI) gA r r r)<|bx h14 fun x16 y16 h17=>kB (bC (v:=aO) r (hH y16) kU r r r)<|sV (v:=aO) r<|dT (fr':=[(0,aO),(3,aD),(6,aM5),(13,.ptrs [(0,1),(0,2),(0,3),(0,4),(0,5),(0,6),(0,7),(0,8)]),(14,aI),(15,aI)]) r<|dH<|cY<|bA<|aN r (zB (fY r r) (show _=.int .i64 (5:Int) from r))<|mI r<|dT (fr':=[(0,aO),(3,aD),(6,aM5),(13,.ptrs [(0,1),(0,2),(0,3),(0,4),(0,5),(0,6),(0,7),(0,8)]),(14,aI),(15,aI)]) r<|lM<|xM<|aU<|bA<|aN r (zB (gC r r) (show _=.bool true from r))<|aG (fr':=[(0,aO),(3,aD),(13,.ptrs [(0,1),(0,2),(0,3),(0,4),(0,5),(0,6),(0,7),(0,8)]),(14,aI),(15,aI),(16,aB)]) r r<|aU<|kD r<|bL<|cY<|aU<|cE<|aH<|aN r (oL (p:=(0,6)) uE r r r)<|aN r (jV vQ r)<|sV (v:=aM6) r<|aG (fr':=[(0,aO),(3,aD),(6,aM6),(13,.ptrs [(0,1),(0,2),(0,3),(0,4),(0,5),(0,6),(0,7),(0,8)]),(14,aI),(15,aI)]) r r<|bA<|mV (v:=aO) r<|mV (v:=aM6) r<|aN r (kJ r)<|aN r (aJ (v:=aI) gA r r r)<|bx h17 fun x18 y18 h19=>aCK (v:=aO) (σ':=[dE]) 50020 [] [] r (hH y18) r r r kU aC r r r<|sV (v:=aO) r<|dT (fr':=[(0,aO),(3,aD),(6,aM6),(13,.ptrs [(0,1),(0,2),(0,3),(0,4),(0,5),(0,6),(0,7),(0,8)]),(14,aI),(15,aI)]) r<|dH<|cY<|bA<|aN r (zB (fY r r) (show _=.int .i64 (6:Int) from r))<|mI r<|dT (fr':=[(0,aO),(3,aD),(6,aM6),(13,.ptrs [(0,1),(0,2),(0,3),(0,4),(0,5),(0,6),(0,7),(0,8)]),(14,aI),(15,aI)]) r<|lM<|xM<|aU<|bA<|aN r (zB (gC r r) (show _=.bool true from r))<|aG (fr':=[(0,aO),(3,aD),(13,.ptrs [(0,1),(0,2),(0,3),(0,4),(0,5),(0,6),(0,7),(0,8)]),(14,aI),(15,aI),(16,aB)]) r r<|aU<|kD r<|bL<|cY<|aU<|cE<|aH<|aN r (oL (p:=(0,7)) uE r r r)<|aN r (jV vQ r)<|sV (v:=aM7) r<|aG (fr':=[(0,aO),(3,aD),(6,aM7),(13,.ptrs [(0,1),(0,2),(0,3),(0,4),(0,5),(0,6),(0,7),(0,8)]),(14,aI),(15,aI)]) r r<|bA<|mV (v:=aO) r<|mV (v:=aM7) r<|aN r (kJ r)<|aN r (aJ (v:=aI) gA r r r)<|bx h19 fun x21 y21 h22=>kB (bC (v:=aO) r (hH y21) kU r r r)<|sV (v:=aO) r<|dT (fr':=[(0,aO),(3,aD),(6,aM7),(13,.ptrs [(0,1),(0,2),(0,3),(0,4),(0,5),(0,6),(0,7),(0,8)]),(14,aI),(15,aI)]) r<|dH<|cY<|bA<|aN r (zB (fY r r) (show _=.int .i64 (7:Int) from r))<|mI r<|dT (fr':=[(0,aO),(3,aD),(6,aM7),(13,.ptrs [(0,1),(0,2),(0,3),(0,4),(0,5),(0,6),(0,7),(0,8)]),(14,aI),(15,aI)]) r<|lM<|xM<|aU<|bA<|aN r (zB (gC r r) (show _=.bool true from r))<|aG (fr':=[(0,aO),(3,aD),(13,.ptrs [(0,1),(0,2),(0,3),(0,4),(0,5),(0,6),(0,7),(0,8)]),(14,aI),(15,aI),(16,aB)]) r r<|aU<|kD r<|bL<|cY<|aU<|cE<|aH<|aN r (oL (p:=(0,8)) uE r r r)<|aN r (jV vQ r)<|sV (v:=aM8) r ?_
 refine aG (fr':=[(0,aO),(3,aD),(6,aM8),(13,.ptrs [(0,1),(0,2),(0,3),(0,4),(0,5),(0,6),(0,7),(0,8)]),(14,aI),(15,aI)]) r r<|bA<|mV (v:=aO) r<|mV (v:=aM8) r<|aN r (kJ r)<|aN r (aJ (v:=aI) gA r r r)<|bx h22 fun x23 y23 h24=>aCK (v:=aO) (σ':=[dE]) 50025 [] [] r (hH y23) r r r kU aC r r r<|sV (v:=aO) r<|dT (fr':=[(0,aO),(3,aD),(6,aM8),(13,.ptrs [(0,1),(0,2),(0,3),(0,4),(0,5),(0,6),(0,7),(0,8)]),(14,aI),(15,aI)]) r<|dH<|cY<|bA<|aN r (zB (fY r r) (show _=.int .i64 (8:Int) from r))<|mI r<|dT (fr':=[(0,aO),(3,aD),(6,aM8),(13,.ptrs [(0,1),(0,2),(0,3),(0,4),(0,5),(0,6),(0,7),(0,8)]),(14,aI),(15,aI)]) r<|lM<|xM<|aU<|bA<|aN r (zB (gC r r) (show _=.bool false from r))<|aG (fr':=[(0,aO),(3,aD),(13,.ptrs [(0,1),(0,2),(0,3),(0,4),(0,5),(0,6),(0,7),(0,8)]),(14,aI),(15,aI),(16,aB)]) r r<|aU<|aCD r<|iA<|cX<|cX<|fS<|cY<|aH<|mV (v:=aO) r<|aN r (bE uA r)<|aN r (aJ (v:=aL) sE r r r)<|aN r (gQ yZ (eD r))<|bx h24 fun x26 y26 h27=>kB (bC (v:=aO) r (hH y26) kU r r r)<|sV (v:=aO) r<|aG (fr':=[(0,aO),(3,aD)]) r r<|aU<|aH<|aN r (bE uA r)<|aN r (aJ (v:=aL) sE r r r)<|aN r (gQ yZ (eD r))<|mI r<|aG (fr':=[(0,aO),(31,aL),(32,aI),(33,aI)]) r r<|bx h27 fun x28 y28 h29=>gY kS (fun j30=>x28=j30) (fun (j30:(List UInt8))=>([(0,AV.os 0 1 hF j30)]:Fr)) (fun (j30:(List UInt8))=>([[.c (.str p1o.Queue),ci p1o.ToStart,ci p1o.ToClose,ci p1o.Total,ci p1o.Beat,ci p1o.First,ci p1o.Coef,ci p1o.Most,ci p1o.Attempts,.c (PV.ls 1 fZ p1o.Fatal)]]:St)) ?_ ?_
 ·
  refine cE<|gU _ (fun (s31:((List UInt8) × Int))=>([(0,AV.os 0 1 hF s31.1),(31,.c (PV.ls 1 fZ p1o.Fatal)),(32,ci ((p1o.Fatal).length:Int)),(33,ci s31.2)]:Fr)) (fun (s31:((List UInt8) × Int))=>([[.c (.str p1o.Queue),ci p1o.ToStart,ci p1o.ToClose,ci p1o.Total,ci p1o.Beat,ci p1o.First,ci p1o.Coef,ci p1o.Most,ci p1o.Attempts,.c (PV.ls 1 fZ p1o.Fatal)]]:St)) y28 (bH [464] 1 r r r r kL4 (cV r aC)) ?_
  intro s31 st31 hs31 ho31
  unfold wV at hs31
  refine aH<|aN r (gC r r)<|aG (fr':=[(0,aO),(31,aL),(32,aI),(33,aI),(34,aB)]) r r<|aU<|cN hs31 r (fun b32 h32=>?_) (fun b32 h32=>?_)
  ·
   exact bL<|cY<|aU<|cE<|aU<|bA<|bx h32 fun x33 y33 h34=>aN r (lT (cs:=[PV.str _]) aBI (eD r) r y33 r)<|aN r (iO (p:=PV.str _) mG r r)<|sS r<|aG (fr':=[(0,aO),(8,aS),(31,aL),(32,aI),(33,aI)]) r r<|bA<|mV (v:=aO) r<|mS r<|bx h34 fun x35 y35 h36=>kB (bC (v:=aO) r (mO y35) kU r r r)<|sV (v:=aO) r<|dT (fr':=[(0,aO),(8,aS),(31,aL),(32,aI),(33,aI)]) r<|dH<|cY<|bA<|aN r (fY r r)<|mI r<|dT (fr':=[(0,aO),(8,aS),(31,aL),(32,aI),(33,aI)]) r<|e_l _ (sy h36) (bH [624] 1 r r r r kL4 (cV r aC))
  ·
   refine iA<|cX<|cX<|fS ?_
   have h37:=eZ h32 ho31
   exact kI _ (sy h37) (bH [0] 1 r r r r ⟨lr,trivial⟩ (cV r aC))
 ·
  intro j30 hj38
  subst hj38
  refine cY<|aH<|mV (v:=aO) r<|sV (v:=aO) r<|aG (fr':=[(4,aO)]) r r<|bJ ?_
  obtain rfl:=sy h29
  exact bI (rs':=[.tmp 4]) r<|bX (v:=aO) r<|bG<|aP [0] r r r lr aC
noncomputable def qD (p0b:(List UInt8)) (p1o:dR):Option (List UInt8) :=
 (jW p0b).bind fun x1=>(nD p1o).bind fun x3=>cond (!x3) (some x1) ((uK x1 p1o).bind fun x7=>some x7)
theorem aDV {p0b:(List UInt8)}{p1o:dR}{z:(List UInt8)} (h:qD p0b p1o=some z):cR Tryz.prog 56 [.c (PV.ls 1 hF p0b),.agg (AV.cs (lP p1o))] [] (AV.os 0 1 hF z) []:=by
 unfold qD at h
 refine dQ (fn:=Tryz.f56) [0,1,3,4,5,10] (by kernel_rfl) Tryz.func56 r (by kernel_rfl) (by kernel_rfl)<|aH<|iR (v:=.agg dE) (n:=0) (cs:=dE) (σ':=[dE]) r r r r r<|sV (v:=AV.nil) r<|aG (fr':=[(0,aL),(3,aD)]) r r<|aH<|mL r<|bx h fun x1 y1 h2=>kB (bC (v:=aO) r (nO y1) ⟨lr,trivial⟩ r r r)<|sV (v:=aO) r<|aG (fr':=[(3,aD),(5,aO)]) r r<|aU<|aH<|aN r (dN (us:=dE) aAm r r r r)<|bx h2 fun x3 y3 h4=>kB (bC (v:=aB) r (wS y3) ⟨(bQ r zX),trivial⟩ r r r)<|aN r (fP r)<|aG (fr':=[(3,aD),(5,aO),(10,aB)]) r r<|cN h4 r (fun b5 h5=>?_) (fun b5 h5=>?_)
 ·
  refine aH<|mV (v:=aO) r<|sV (v:=aO) r<|aG (fr':=[(4,aO)]) r r<|bJ<|aQ ?_
  obtain rfl:=sy h5
  exact bI (rs':=[.tmp 4]) r<|bX (v:=aO) r<|bG<|aP [112] r r r lr aC
 ·
  refine bL<|cY<|aH<|mV (v:=aO) r<|aN r (dN (us:=dE) aAm r r r r)<|bx h5 fun x7 y7 h8=>kB (bC (v:=aO) r (aDs y7) ⟨lr,(bQ r zX),trivial⟩ r r r)<|sV (v:=aO) r<|aG (fr':=[(4,aO)]) r r<|bJ ?_
  obtain rfl:=sy h8
  exact bI (rs':=[.tmp 4]) r<|bX (v:=aO) r<|bG<|aP [224] r r r lr aC
noncomputable def rH (p1e:dP) (s4:((List UInt8) × Int)):Option (dU ((List UInt8) × Int) (List UInt8)) :=
 cond (decide (s4.2<((([p1e.ID,p1e.Kind,p1e.Time,p1e.Seq,p1e.Ref,p1e.N,p1e.Code]:List Int)).length:Int))) ((mP ([p1e.ID,p1e.Kind,p1e.Time,p1e.Seq,p1e.Ref,p1e.N,p1e.Code]:List Int) s4.2).bind fun x6=>(hY s4.1 x6).bind fun x8=>some (dU.next (x8,(IntKind.wrap .i64 (s4.2+1))))) (some (dU.out s4.1))
noncomputable def uO (p0b:(List UInt8)) (p1e:dP):Option (List UInt8) :=
 (gL (rH p1e) ((p0b,0))).bind fun x1=>((kZ x1 p1e.Name).bind fun x12=>(kZ x12 p1e.Key).bind fun x14=>(tS x14 p1e.Data).bind fun x16=>(qD x16 p1e.Opts).bind fun x18=>some x18)
theorem aGf {p0b:(List UInt8)}{p1e:dP}{z:(List UInt8)} (h:uO p0b p1e=some z):cR Tryz.prog 18 [.c (PV.ls 1 hF p0b),.agg (AV.cs (eU p1e))] [] (AV.os 0 1 hF z) []:=by
 unfold uO at h
 refine dQ (fn:=Tryz.f18) [0,1,3,4,6,21,22,23,24] (by kernel_rfl) Tryz.func18 r (by kernel_rfl) (by kernel_rfl)<|aH<|iR (v:=.agg aT) (n:=0) (cs:=aT) (σ':=[aT]) r r r r r<|sV (v:=AV.nil) r<|aG (fr':=[(0,aL),(3,aD)]) r r<|aU<|aH<|aN r (bE aF5 r)<|aN r (aJ (v:=aI) gA r r r)<|aN r (bE aAJ r)<|aN r (aJ (v:=aI) gA r r r)<|aN r (bE aF6 r)<|aN r (aJ (v:=aI) gA r r r)<|aN r (bE aCr r)<|aN r (aJ (v:=aI) gA r r r)<|aN r (bE aCs r)<|aN r (aJ (v:=aI) gA r r r)<|aN r (bE aAd r)<|aN r (aJ (v:=aI) gA r r r)<|aN r (bE aBH r)<|aN r (aJ (v:=aI) gA r r r)<|sW (row:=(aFU .i64)) (xs:=([p1e.ID,p1e.Kind,p1e.Time,p1e.Seq,p1e.Ref,p1e.N,p1e.Code]:List Int)) (rows:=[[_],[_],[_],[_],[_],[_],[_]]) (σ':=[aT]) [0] aG6 r r r (eI r (eI r (eI r (eI r (eI r (eI r (eI r mX))))))) r r<|aN r (gQ aPo (rQ r))<|mI r<|aG (fr':=[(0,aL),(3,aD),(21,aO),(22,aI),(23,aI)]) r r<|bx h fun x1 y1 h2=>gY kS (fun j3=>x1=j3) (fun (j3:(List UInt8))=>([(0,.c (PV.ls 1 hF j3)),(3,aD)]:Fr)) (fun (j3:(List UInt8))=>([[ci p1e.ID,ci p1e.Kind,ci p1e.Time,ci p1e.Seq,ci p1e.Ref,ci p1e.N,ci p1e.Code,.c (.str p1e.Name),.c (.str p1e.Key),ci p1e.Data.Kind,ci p1e.Data.Int,.c (.str p1e.Data.Text),.c (PV.ls 5 bO p1e.Data.Items),.c (PV.ls 1 fZ p1e.Data.Keys),.c (.str p1e.Opts.Queue),ci p1e.Opts.ToStart,ci p1e.Opts.ToClose,ci p1e.Opts.Total,ci p1e.Opts.Beat,ci p1e.Opts.First,ci p1e.Opts.Coef,ci p1e.Opts.Most,ci p1e.Opts.Attempts,.c (PV.ls 1 fZ p1e.Opts.Fatal)]]:St)) ?_ ?_
 ·
  refine cE<|gU _ (fun (s4:((List UInt8) × Int))=>([(0,.c (PV.ls 1 hF s4.1)),(3,aD),(21,AV.os 0 1 (aFU .i64) ([p1e.ID,p1e.Kind,p1e.Time,p1e.Seq,p1e.Ref,p1e.N,p1e.Code]:List Int)),(22,ci ((([p1e.ID,p1e.Kind,p1e.Time,p1e.Seq,p1e.Ref,p1e.N,p1e.Code]:List Int)).length:Int)),(23,ci s4.2)]:Fr)) (fun (s4:((List UInt8) × Int))=>([[ci p1e.ID,ci p1e.Kind,ci p1e.Time,ci p1e.Seq,ci p1e.Ref,ci p1e.N,ci p1e.Code,.c (.str p1e.Name),.c (.str p1e.Key),ci p1e.Data.Kind,ci p1e.Data.Int,.c (.str p1e.Data.Text),.c (PV.ls 5 bO p1e.Data.Items),.c (PV.ls 1 fZ p1e.Data.Keys),.c (.str p1e.Opts.Queue),ci p1e.Opts.ToStart,ci p1e.Opts.ToClose,ci p1e.Opts.Total,ci p1e.Opts.Beat,ci p1e.Opts.First,ci p1e.Opts.Coef,ci p1e.Opts.Most,ci p1e.Opts.Attempts,.c (PV.ls 1 fZ p1e.Opts.Fatal)]]:St)) y1 (bH [336] 1 r r r r kL5 (cV r aC)) ?_
  intro s4 st4 hs4 ho4
  unfold rH at hs4
  refine aH<|aN r (gC r r)<|aG (fr':=[(0,aL),(3,aD),(21,aO),(22,aI),(23,aI),(24,aB)]) r r<|aU<|cN hs4 r (fun b5 h5=>?_) (fun b5 h5=>?_)
  ·
   exact bL<|cY<|aU<|cE<|aU<|bA<|bx h5 fun x6 y6 h7=>aN r (lT (cs:=[PV.int _ _]) aG6 (rQ r) r y6 r)<|aN r (iO (p:=PV.int _ _) gA r r)<|sI r<|aG (fr':=[(0,aL),(3,aD),(6,aI),(21,aO),(22,aI),(23,aI)]) r r<|bA<|mL r<|mI r<|bx h7 fun x8 y8 h9=>kB (bC (v:=aO) r (hH y8) kU r r r)<|sV (v:=aO) r<|dT (fr':=[(0,aO),(3,aD),(6,aI),(21,aO),(22,aI),(23,aI)]) r<|dH<|cY<|bA<|aN r (fY r r)<|mI r<|dT (fr':=[(0,aO),(3,aD),(6,aI),(21,aO),(22,aI),(23,aI)]) r<|e_l _ (sy h9) (bH [0] 1 r r r r kL5 (cV r aC))
  ·
   refine iA<|cX<|cX<|fS ?_
   have h10:=eZ h5 ho4
   exact kI _ (sy h10) (bH [] 1 r r r r kU (cV r aC))
 ·
  intro j3 hj11
  subst hj11
  refine cY<|aH<|mL r<|aN r (bE xZ r)<|aN r (aJ (v:=aS) mG r r r)<|bx h2 fun x12 y12 h13=>kB (bC (v:=aO) r (mO y12) kU r r r)<|sV (v:=aO) r<|aG (fr':=[(0,aO),(3,aD)]) r r<|aH<|mV (v:=aO) r<|aN r (bE yA r)<|aN r (aJ (v:=aS) mG r r r)<|bx h13 fun x14 y14 h15=>kB (bC (v:=aO) r (mO y14) kU r r r)<|sV (v:=aO) r<|aG (fr':=[(0,aO),(3,aD)]) r r<|aH<|mV (v:=aO) r<|aN r (bE aA5 r)<|aN r (dN (us:=cH) jC r r r r)<|bx h15 fun x16 y16 h17=>kB (bC (v:=aO) r (aAS y16) ⟨lr,(bQ r zA),trivial⟩ r r r)<|sV (v:=aO) r<|aG (fr':=[(0,aO),(3,aD)]) r r<|aH<|mV (v:=aO) r<|aN r (bE aBW r)<|aN r (dN (us:=dE) aAm r r r r)<|bx h17 fun x18 y18 h19=>kB (bC (v:=aO) r (aDV y18) ⟨lr,(bQ r zX),trivial⟩ r r r)<|sV (v:=aO) r<|aG (fr':=[(4,aO)]) r r<|bJ ?_
  obtain rfl:=sy h19
  exact bI (rs':=[.tmp 4]) r<|bX (v:=aO) r<|bG<|aP [736] r r r lr aC
noncomputable def aAL (aIF:aK→Option Int) (p0v:aK) (s4:(Int × Int)):Option (dU (Int × Int) Int) :=
 cond (decide (s4.2<((p0v.Items).length:Int))) ((mP p0v.Items s4.2).bind fun x6=>(aIF x6).bind fun x8=>some (dU.next ((if x8 > s4.1 then x8 else s4.1),(IntKind.wrap .i64 (s4.2+1))))) (some (dU.out s4.1))
noncomputable def vS:Nat→aK→Option Int
 | 0,_=>none
 | n+1,p0v =>
  (gL (aAL (vS n) p0v) ((0,0))).bind fun x1=>(some (IntKind.wrap .i64 (x1+1)))
theorem aKo:∀ n:Nat,(∀ {p0v:aK}{z:Int},vS n p0v=some z→cR Tryz.prog 191 [.agg (AV.cs (fA p0v))] [] (ci z) []):=by
 intro n
 induction n with
 | zero=>exact fun {p0v z} h=>absurd h (by simp [vS])
 | succ n ih =>
  have ih_value_Depth:=@ih
  intro p0v z h
  rw [vS] at h
  refine dQ (fn:=Tryz.f191) [0,1,2,3,5,7,8,9,10] (by kernel_rfl) Tryz.func191 r (by kernel_rfl) (by kernel_rfl)<|aH<|iR (v:=.agg cH) (n:=0) (cs:=cH) (σ':=[cH]) r r r r r<|sI r<|aG (fr':=[(1,aD)]) r r<|aH<|sI r<|aG (fr':=[(1,aD),(3,aI)]) r r<|aU<|aU<|bA<|aN r (bE iH r)<|aN r (aJ (v:=aL) nJ r r r)<|aN r (gQ vC (eD r))<|mI r<|aG (fr':=[(3,aI),(7,aL),(8,aI),(9,aI)]) r r<|bx h fun x1 y1 h2=>gY kS (fun j3=>x1=j3) (fun (j3:Int)=>([(3,ci j3)]:Fr)) (fun (j3:Int)=>([[ci p0v.Kind,ci p0v.Int,.c (.str p0v.Text),.c (PV.ls 5 bO p0v.Items),.c (PV.ls 1 fZ p0v.Keys)]]:St)) ?_ ?_
  ·
   refine cE<|gU _ (fun (s4:(Int × Int))=>([(3,ci s4.1),(7,.c (PV.ls 5 bO p0v.Items)),(8,ci ((p0v.Items).length:Int)),(9,ci s4.2)]:Fr)) (fun (s4:(Int × Int))=>([[ci p0v.Kind,ci p0v.Int,.c (.str p0v.Text),.c (PV.ls 5 bO p0v.Items),.c (PV.ls 1 fZ p0v.Keys)]]:St)) y1 (bH [] 1 r r r r kL4 (cV r aC)) ?_
   intro s4 st4 hs4 ho4
   unfold aAL at hs4
   refine aH<|aN r (gC r r)<|aG (fr':=[(3,aI),(7,aL),(8,aI),(9,aI),(10,aB)]) r r<|aU<|cN hs4 r (fun b5 h5=>?_) (fun b5 h5=>?_)
   ·
    exact bL<|cY<|aU<|cE<|aU<|bA<|bx h5 fun x6 y6 h7=>aN r (lT (cs:=[PV.int _ _,PV.int _ _,PV.str _,PV.ls _ _ _,PV.ls _ _ _]) uW (eD r) r y6 (eA _))<|aN r (kT (us:=[PV.int _ _,PV.int _ _,PV.str _,PV.ls _ _ _,PV.ls _ _ _]) jC r r r)<|jT (n:=1) (cs:=dF) (σ':=[cH,dF]) aG8 r r r<|cD (v:=.agg cH) (us:=cH) (cs:=dF) (σ':=[cH,cH]) r jC r r r r r r r r<|aG (fr':=[(3,aI),(5,bK),(7,aL),(8,aI),(9,aI)]) r r<|bA<|mI r<|aN r (dN (us:=cH) jC r r r r)<|bx h7 fun x8 y8 h9=>kB (bC (v:=aI) r (ih_value_Depth y8) ⟨(bQ r zA),trivial⟩ r r r)<|aN r (aVs r r)<|sI r<|dT (fr':=[(3,aI),(5,bK),(7,aL),(8,aI),(9,aI)]) r<|dH<|cY<|bA<|aN r (fY r r)<|mI r<|dT (fr':=[(3,aI),(5,bK),(7,aL),(8,aI),(9,aI)]) r<|e_l _ (sy h9) (bH [] 1 r r r r kL4 (cV r aC))
   ·
    refine iA<|cX<|cX<|fS ?_
    have h10:=eZ h5 ho4
    exact kI _ (sy h10) (bH [] 1 r r r r ⟨lr,trivial⟩ (cV r aC))
  ·
   intro j3 hj11
   subst hj11
   refine cY<|aH<|mI r<|aN r (fY r r)<|sI r<|aG (fr':=[(2,aI)]) r r<|bJ ?_
   obtain rfl:=sy h2
   exact bI (rs':=[.tmp 2]) r<|bX (v:=aI) r<|bG<|aP [] r r r lr aC
noncomputable def aET (p0v:aK):Option Int:=lim fun n=>vS n p0v
theorem aK9 {p0v:aK}{z:Int} (h:aET p0v=some z):cR Tryz.prog 191 [.agg (AV.cs (fA p0v))] [] (ci z) []:=by
 obtain ⟨n,hn⟩:=rI h
 exact (aKo n) hn
noncomputable def aBf (aJY:aK→Option Int) (p0v:aK) (s4:(Int × Int)):Option (dU (Int × Int) Int) :=
 cond (decide (s4.2<((p0v.Items).length:Int))) ((mP p0v.Items s4.2).bind fun x6=>(aJY x6).bind fun x8=>some (dU.next ((IntKind.wrap .i64 (s4.1+x8)),(IntKind.wrap .i64 (s4.2+1))))) (some (dU.out s4.1))
noncomputable def yD:Nat→aK→Option Int
 | 0,_=>none
 | n+1,p0v =>
  (gL (aBf (yD n) p0v) ((1,0))).bind fun x1=>(some x1)
theorem aKY:∀ n:Nat,(∀ {p0v:aK}{z:Int},yD n p0v=some z→cR Tryz.prog 192 [.agg (AV.cs (fA p0v))] [] (ci z) []):=by
 intro n
 induction n with
 | zero=>exact fun {p0v z} h=>absurd h (by simp [yD])
 | succ n ih =>
  have ih_value_Size:=@ih
  intro p0v z h
  rw [yD] at h
  refine dQ (fn:=Tryz.f192) [0,1,2,3,5,7,8,9,10] (by kernel_rfl) Tryz.func192 r (by kernel_rfl) (by kernel_rfl)<|aH<|iR (v:=.agg cH) (n:=0) (cs:=cH) (σ':=[cH]) r r r r r<|sI r<|aG (fr':=[(1,aD)]) r r<|aH<|sI r<|aG (fr':=[(1,aD),(3,aI)]) r r<|aU<|aU<|bA<|aN r (bE iH r)<|aN r (aJ (v:=aL) nJ r r r)<|aN r (gQ vC (eD r))<|mI r<|aG (fr':=[(3,aI),(7,aL),(8,aI),(9,aI)]) r r<|bx h fun x1 y1 h2=>gY kS (fun j3=>x1=j3) (fun (j3:Int)=>([(3,ci j3)]:Fr)) (fun (j3:Int)=>([[ci p0v.Kind,ci p0v.Int,.c (.str p0v.Text),.c (PV.ls 5 bO p0v.Items),.c (PV.ls 1 fZ p0v.Keys)]]:St)) ?_ ?_
  ·
   refine cE<|gU _ (fun (s4:(Int × Int))=>([(3,ci s4.1),(7,.c (PV.ls 5 bO p0v.Items)),(8,ci ((p0v.Items).length:Int)),(9,ci s4.2)]:Fr)) (fun (s4:(Int × Int))=>([[ci p0v.Kind,ci p0v.Int,.c (.str p0v.Text),.c (PV.ls 5 bO p0v.Items),.c (PV.ls 1 fZ p0v.Keys)]]:St)) y1 (bH [] 1 r r r r kL4 (cV r aC)) ?_
   intro s4 st4 hs4 ho4
   unfold aBf at hs4
   refine aH<|aN r (gC r r)<|aG (fr':=[(3,aI),(7,aL),(8,aI),(9,aI),(10,aB)]) r r<|aU<|cN hs4 r (fun b5 h5=>?_) (fun b5 h5=>?_)
   ·
    exact bL<|cY<|aU<|cE<|aU<|bA<|bx h5 fun x6 y6 h7=>aN r (lT (cs:=[PV.int _ _,PV.int _ _,PV.str _,PV.ls _ _ _,PV.ls _ _ _]) uW (eD r) r y6 (eA _))<|aN r (kT (us:=[PV.int _ _,PV.int _ _,PV.str _,PV.ls _ _ _,PV.ls _ _ _]) jC r r r)<|jT (n:=1) (cs:=dF) (σ':=[cH,dF]) aG8 r r r<|cD (v:=.agg cH) (us:=cH) (cs:=dF) (σ':=[cH,cH]) r jC r r r r r r r r<|aG (fr':=[(3,aI),(5,bK),(7,aL),(8,aI),(9,aI)]) r r<|bA<|mI r<|aN r (dN (us:=cH) jC r r r r)<|bx h7 fun x8 y8 h9=>kB (bC (v:=aI) r (ih_value_Size y8) ⟨(bQ r zA),trivial⟩ r r r)<|aN r (fY r r)<|sI r<|dT (fr':=[(3,aI),(5,bK),(7,aL),(8,aI),(9,aI)]) r<|dH<|cY<|bA<|aN r (fY r r)<|mI r<|dT (fr':=[(3,aI),(5,bK),(7,aL),(8,aI),(9,aI)]) r<|e_l _ (sy h9) (bH [] 1 r r r r kL4 (cV r aC))
   ·
    refine iA<|cX<|cX<|fS ?_
    have h10:=eZ h5 ho4
    exact kI _ (sy h10) (bH [] 1 r r r r ⟨lr,trivial⟩ (cV r aC))
  ·
   intro j3 hj11
   subst hj11
   refine cY<|aH<|mI r<|sI r<|aG (fr':=[(2,aI)]) r r<|bJ ?_
   obtain rfl:=sy h2
   exact bI (rs':=[.tmp 2]) r<|bX (v:=aI) r<|bG<|aP [] r r r lr aC
noncomputable def aGb (p0v:aK):Option Int:=lim fun n=>yD n p0v
theorem aMD {p0v:aK}{z:Int} (h:aGb p0v=some z):cR Tryz.prog 192 [.agg (AV.cs (fA p0v))] [] (ci z) []:=by
 obtain ⟨n,hn⟩:=rI h
 exact (aKY n) hn
noncomputable def aBg (p0k:(List UInt8)):Option Bool :=
 some (decide (4096<((p0k).length:Int)))
theorem aIT {p0k:(List UInt8)}{z:Bool} (h:aBg p0k=some z):cR Tryz.prog 208 [.c (.str p0k)] [] (.c (.bool z)) []:=by
 unfold aBg at h
 refine dQ (fn:=Tryz.f208) [0,2] (by kernel_rfl) Tryz.func208 r (by kernel_rfl) (by kernel_rfl)<|aH<|sB r<|aG (fr':=[(0,aS)]) r r<|aH<|mS r<|aN r (kV uD r)<|aN r (sP r r)<|sB r<|aG (fr':=[(2,aB)]) r r<|bJ ?_
 obtain rfl:=sy h
 exact bI (rs':=[.tmp 2]) r<|bX (v:=aB) r<|bG<|aP [] r r r lr aC
noncomputable def iG (p0s:(List (List UInt8))) (s4:Int):Option (dU Int (Fl Int Unit)) :=
 cond (decide (s4<((p0s).length:Int))) ((mP p0s s4).bind fun x6=>(aBg x6).bind fun x8=>cond x8 (some (dU.out (Fl.done s4))) (some (dU.next (IntKind.wrap .i64 (s4+1))))) (some (dU.out (Fl.go ())))
noncomputable def jL (p0s:(List (List UInt8))):Option Int :=
 (gL (iG p0s) (0)).bind fun x1=>Fl.next x1 (fun j3=>(some (-1)))
theorem uC {p0s:(List (List UInt8))}{z:Int} (h:jL p0s=some z):cR Tryz.prog 206 [.c (PV.ls 1 fZ p0s),.fn 208 []] [] (ci z) []:=by
 unfold jL at h
 refine dQ (fn:=Tryz.f206) [0,1,4,5,7,8,9,16] (by kernel_rfl) Tryz.func206 r (by kernel_rfl) (by kernel_rfl)<|aH<|sI r<|aG (fr':=[(0,aL),(1,.fn _ [])]) r r<|aU<|aH<|mL r<|aN r (gQ yZ (eD r))<|mI r<|aG (fr':=[(0,aL),(1,.fn _ []),(7,aI),(8,aI)]) r r<|bx h fun x1 y1 h2=>gY kS (fun j3=>x1=Fl.go j3) (fun (j3:Unit)=>([]:Fr)) (fun (j3:Unit)=>([]:St)) ?_ ?_
 ·
  refine cE<|gU _ (fun (s4:Int)=>([(0,.c (PV.ls 1 fZ p0s)),(1,.fn 208 []),(7,ci ((p0s).length:Int)),(8,ci s4)]:Fr)) (fun (s4:Int)=>([]:St)) y1 (bH [] 0 r r r r kL4 aC) ?_
  intro s4 st4 hs4 ho4
  unfold iG at hs4
  refine aH<|aN r (gC r r)<|aG (fr':=[(0,aL),(1,.fn _ []),(7,aI),(8,aI),(9,aB)]) r r<|aU<|cN hs4 r (fun b5 h5=>?_) (fun b5 h5=>?_)
  ·
   refine bL<|cY<|aU<|cE<|aH<|mI r<|sI r<|aG (fr':=[(0,aL),(1,.fn _ []),(5,aI),(7,aI),(8,aI)]) r r<|aH<|mV (v:=.fn _ []) r<|mL r<|mI r<|bx h5 fun x6 y6 h7=>aN r (lT (cs:=[PV.str _]) aBI (eD r) r y6 r)<|aN r (iO (p:=PV.str _) mG r r)<|bx h7 fun x8 y8 h9=>kB (bC (v:=aB) r (aIT y8) ⟨lr,trivial⟩ r r r)<|aG (fr':=[(0,aL),(1,.fn _ []),(5,aI),(7,aI),(8,aI),(16,aB)]) r r<|cN h9 r (fun b10 h10=>?_) (fun b10 h10=>?_)
   ·
    refine aH<|mI r<|sI r<|aG (fr':=[(4,aI)]) r r<|bJ<|bM<|aQ<|aQ<|bM<|aQ<|aQ ?_
    have h11:=eZ h10 ho4
    have h12:=gT h11 h2
    obtain rfl:=sy h12
    exact bI (rs':=[.tmp 4]) r<|bX (v:=aI) r<|bG<|aP [] r r r lr aC
   ·
    exact bL<|dH<|cY<|bA<|aN r (fY r r)<|mI r<|dT (fr':=[(0,aL),(1,.fn _ []),(5,aI),(7,aI),(8,aI),(16,aB)]) r<|e_l _ (sy h10) (bH [] 0 r r r r kL4 aC)
  ·
   refine iA<|cX<|cX<|fS ?_
   have h14:=eZ h5 ho4
   exact kI _ (sy h14) (bH [] 0 r r r r trivial aC)
 ·
  intro j3 hj15
  have h15:=mY hj15 h2
  refine cY<|aH<|sI r<|aG (fr':=[(4,aI)]) r r<|bJ ?_
  obtain rfl:=sy h15
  exact bI (rs':=[.tmp 4]) r<|bX (v:=aI) r<|bG<|aP [] r r r lr aC
noncomputable def iE (p0s:(List (List UInt8))):Option Bool :=
 (jL p0s).bind fun x1=>some (decide (0≤x1))
theorem sO {p0s:(List (List UInt8))}{z:Bool} (h:iE p0s=some z):cR Tryz.prog 178 [.c (PV.ls 1 fZ p0s),.fn 208 []] [] (.c (.bool z)) []:=by
 unfold iE at h
 refine dQ (fn:=Tryz.f178) [0,1,4] (by kernel_rfl) Tryz.func178 r (by kernel_rfl) (by kernel_rfl)<|aH<|sB r<|aG (fr':=[(0,aL),(1,.fn _ [])]) r r<|aH<|mL r<|mV (v:=.fn _ []) r<|bx h fun x1 y1 h2=>kB (bC (v:=aI) r (uC y1) kU r r r)<|aN r (qR r r)<|sB r<|aG (fr':=[(4,aB)]) r r<|bJ ?_
 obtain rfl:=sy h2
 exact bI (rs':=[.tmp 4]) r<|bX (v:=aB) r<|bG<|aP [] r r r lr aC
noncomputable def gR (aGR:aK→Option Bool) (p0s:(List aK)) (s4:Int):Option (dU Int (Fl Int Unit)) :=
 cond (decide (s4<((p0s).length:Int))) ((mP p0s s4).bind fun x6=>(aGR x6).bind fun x8=>cond x8 (some (dU.out (Fl.done s4))) (some (dU.next (IntKind.wrap .i64 (s4+1))))) (some (dU.out (Fl.go ())))
mutual
noncomputable def fL:Nat→(List aK)→Option Bool
 | 0,_=>none
 | n+1,p0s =>
  ((hD n) p0s).bind fun x1=>some (decide (0≤x1))
noncomputable def hD:Nat→(List aK)→Option Int
 | 0,_=>none
 | n+1,p0s =>
  (gL (gR (uY n) p0s) (0)).bind fun x1=>Fl.next x1 (fun j3=>(some (-1)))
noncomputable def vU:Nat→aK→Option Bool
 | 0,_=>none
 | n+1,p0v =>
  (gd ((decide (4096<((p0v.Text).length:Int)))==false) (iE p0v.Keys)).bind fun x1=>cond (cond (decide (4096<((p0v.Text).length:Int))) true x1) (some false) (((fL n) p0v.Items).bind fun x5=>some (!x5))
noncomputable def uY:Nat→aK→Option Bool
 | 0,_=>none
 | n+1,p0x =>
  ((vU n) p0x).bind fun x1=>some (!x1)
end
theorem qK:∀ n:Nat,(∀ {p0s:(List aK)}{z:Bool},fL n p0s=some z→cR Tryz.prog 176 [.c (PV.ls 5 bO p0s),.fn 209 []] [] (.c (.bool z)) [])∧(∀ {p0s:(List aK)}{z:Int},hD n p0s=some z→cR Tryz.prog 205 [.c (PV.ls 5 bO p0s),.fn 209 []] [] (ci z) [])∧(∀ {p0v:aK}{z:Bool},vU n p0v=some z→cR Tryz.prog 193 [.agg (AV.cs (fA p0v))] [] (.c (.bool z)) [])∧(∀ {p0x:aK}{z:Bool},uY n p0x=some z→cR Tryz.prog 209 [.agg (AV.cs (fA p0x))] [] (.c (.bool z)) []):=by
 intro n
 induction n with
 | zero=>exact ⟨fun {p0s z} h=>absurd h (by simp [fL]),fun {p0s z} h=>absurd h (by simp [hD]),fun {p0v z} h=>absurd h (by simp [vU]),fun {p0x z} h=>absurd h (by simp [uY])⟩
 | succ n ih =>
  obtain ⟨ih_slices_ContainsFunc_api_Value_api_Value_value_short_2,ih_slices_IndexFunc_api_Value_api_Value_value_short_2,ih_value_short,ih_value_short_2⟩:=ih
  refine ⟨?_,?_,?_,?_⟩
  ·
   intro p0s z h
   rw [fL] at h
   refine dQ (fn:=Tryz.f176) [0,1,4] (by kernel_rfl) Tryz.func176 r (by kernel_rfl) (by kernel_rfl)<|aH<|sB r<|aG (fr':=[(0,aL),(1,.fn _ [])]) r r<|aH<|mL r<|mV (v:=.fn _ []) r<|bx h fun x1 y1 h2=>kB (bC (v:=aI) r (ih_slices_IndexFunc_api_Value_api_Value_value_short_2 y1) kU r r r)<|aN r (qR r r)<|sB r<|aG (fr':=[(4,aB)]) r r<|bJ ?_
   obtain rfl:=sy h2
   exact bI (rs':=[.tmp 4]) r<|bX (v:=aB) r<|bG<|aP [] r r r lr aC
  ·
   intro p0s z h
   rw [hD] at h
   refine dQ (fn:=Tryz.f205) [0,1,4,5,7,8,9,16] (by kernel_rfl) Tryz.func205 r (by kernel_rfl) (by kernel_rfl)<|aH<|sI r<|aG (fr':=[(0,aL),(1,.fn _ [])]) r r<|aU<|aH<|mL r<|aN r (gQ vC (eD r))<|mI r<|aG (fr':=[(0,aL),(1,.fn _ []),(7,aI),(8,aI)]) r r<|bx h fun x1 y1 h2=>gY kS (fun j3=>x1=Fl.go j3) (fun (j3:Unit)=>([]:Fr)) (fun (j3:Unit)=>([]:St)) ?_ ?_
   ·
    refine cE<|gU _ (fun (s4:Int)=>([(0,.c (PV.ls 5 bO p0s)),(1,.fn 209 []),(7,ci ((p0s).length:Int)),(8,ci s4)]:Fr)) (fun (s4:Int)=>([]:St)) y1 (bH [] 0 r r r r kL4 aC) ?_
    intro s4 st4 hs4 ho4
    unfold gR at hs4
    refine aH<|aN r (gC r r)<|aG (fr':=[(0,aL),(1,.fn _ []),(7,aI),(8,aI),(9,aB)]) r r<|aU<|cN hs4 r (fun b5 h5=>?_) (fun b5 h5=>?_)
    ·
     refine bL<|cY<|aU<|cE<|aH<|mI r<|sI r<|aG (fr':=[(0,aL),(1,.fn _ []),(5,aI),(7,aI),(8,aI)]) r r<|aH<|mV (v:=.fn _ []) r<|mL r<|mI r<|bx h5 fun x6 y6 h7=>aN r (lT (cs:=[PV.int _ _,PV.int _ _,PV.str _,PV.ls _ _ _,PV.ls _ _ _]) uW (eD r) r y6 (eA _))<|aN r (kT (us:=[PV.int _ _,PV.int _ _,PV.str _,PV.ls _ _ _,PV.ls _ _ _]) jC r r r)<|bx h7 fun x8 y8 h9=>kB (bC (v:=aB) r (ih_value_short_2 y8) ⟨(bQ r zA),trivial⟩ r r r)<|aG (fr':=[(0,aL),(1,.fn _ []),(5,aI),(7,aI),(8,aI),(16,aB)]) r r<|cN h9 r (fun b10 h10=>?_) (fun b10 h10=>?_)
     ·
      refine aH<|mI r<|sI r<|aG (fr':=[(4,aI)]) r r<|bJ<|bM<|aQ<|aQ<|bM<|aQ<|aQ ?_
      have h11:=eZ h10 ho4
      have h12:=gT h11 h2
      obtain rfl:=sy h12
      exact bI (rs':=[.tmp 4]) r<|bX (v:=aI) r<|bG<|aP [] r r r lr aC
     ·
      exact bL<|dH<|cY<|bA<|aN r (fY r r)<|mI r<|dT (fr':=[(0,aL),(1,.fn _ []),(5,aI),(7,aI),(8,aI),(16,aB)]) r<|e_l _ (sy h10) (bH [] 0 r r r r kL4 aC)
    ·
     refine iA<|cX<|cX<|fS ?_
     have h14:=eZ h5 ho4
     exact kI _ (sy h14) (bH [] 0 r r r r trivial aC)
   ·
    intro j3 hj15
    have h15:=mY hj15 h2
    refine cY<|aH<|sI r<|aG (fr':=[(4,aI)]) r r<|bJ ?_
    obtain rfl:=sy h15
    exact bI (rs':=[.tmp 4]) r<|bX (v:=aI) r<|bG<|aP [] r r r lr aC
  ·
   intro p0v z h
   rw [vU] at h
   refine dQ (fn:=Tryz.f193) [0,1,2,11] (by kernel_rfl) Tryz.func193 r (by kernel_rfl) (by kernel_rfl)<|aH<|iR (v:=.agg cH) (n:=0) (cs:=cH) (σ':=[cH]) r r r r r<|sB r<|aG (fr':=[(1,aD)]) r r<|aU<|aH<|aN r (bE tZ r)<|aN r (aJ (v:=aS) mG r r r)<|aN r (kV uD r)<|aN r (sP r r)<|mB r<|og r r r (fun u=>(bE qJ r))<|og r r r (fun u=>(aJ (v:=aL) sE (gx r u) r r))<|bx h fun x1 y1 h2=>uP r r (fun u=>bC (v:=aB) r (sO (cZ y1 u)) ⟨(fH (gx r u) lr),lr,trivial⟩ (gO (by repeat (first | exact fC | refine aZ r ?_ | refine aZ (rG r) ?_ | refine aZ rF ?_))) r r) ?_
   refine aN r (cM r r r (fun e=>fU e))<|aG (fr':=[(1,aD),(11,aB)]) r r<|cN h2 r (fun b3 h3=>?_) (fun b3 h3=>?_)
   ·
    refine aH<|sB r<|aG (fr':=[(2,aB)]) r r<|bJ<|aQ ?_
    obtain rfl:=sy h3
    exact bI (rs':=[.tmp 2]) r<|bX (v:=aB) r<|bG<|aP [] r r r lr aC
   ·
    refine bL<|cY<|aH<|aN r (bE iH r)<|aN r (aJ (v:=aL) nJ r r r)<|bx h3 fun x5 y5 h6=>kB (bC (v:=aB) r (ih_slices_ContainsFunc_api_Value_api_Value_value_short_2 y5) kU r r r)<|aN r (fP r)<|sB r<|aG (fr':=[(2,aB)]) r r<|bJ ?_
    obtain rfl:=sy h6
    exact bI (rs':=[.tmp 2]) r<|bX (v:=aB) r<|bG<|aP [] r r r lr aC
  ·
   intro p0x z h
   rw [uY] at h
   refine dQ (fn:=Tryz.f209) [0,1,2] (by kernel_rfl) Tryz.func209 r (by kernel_rfl) (by kernel_rfl)<|aH<|iR (v:=.agg cH) (n:=0) (cs:=cH) (σ':=[cH]) r r r r r<|sB r<|aG (fr':=[(1,aD)]) r r<|aH<|aN r (dN (us:=cH) jC r r r r)<|bx h fun x1 y1 h2=>kB (bC (v:=aB) r (ih_value_short y1) ⟨(bQ r zA),trivial⟩ r r r)<|aN r (fP r)<|sB r<|aG (fr':=[(2,aB)]) r r<|bJ ?_
   obtain rfl:=sy h2
   exact bI (rs':=[.tmp 2]) r<|bX (v:=aB) r<|bG<|aP [] r r r lr aC
noncomputable def aEU (p0v:aK):Option Bool:=lim fun n=>vU n p0v
theorem aLa {p0v:aK}{z:Bool} (h:aEU p0v=some z):cR Tryz.prog 193 [.agg (AV.cs (fA p0v))] [] (.c (.bool z)) []:=by
 obtain ⟨n,hn⟩:=rI h
 exact (qK n).2.2.1 hn
noncomputable def aAN (p0v:aK):Option Bool :=
 (aET p0v).bind fun x1=>(gd ((decide (x1≤16))==true) (aGb p0v)).bind fun x3=>(gd ((cond (decide (x1≤16)) (decide (x3≤1000)) false)==true) (aEU p0v)).bind fun x5=>some (cond (cond (decide (x1≤16)) (decide (x3≤1000)) false) x5 false)
theorem aKy {p0v:aK}{z:Bool} (h:aAN p0v=some z):cR Tryz.prog 160 [.agg (AV.cs (fA p0v))] [] (.c (.bool z)) []:=by
 unfold aAN at h
 refine dQ (fn:=Tryz.f160) [0,1,2] (by kernel_rfl) Tryz.func160 r (by kernel_rfl) (by kernel_rfl)<|aH<|iR (v:=.agg cH) (n:=0) (cs:=cH) (σ':=[cH]) r r r r r<|sB r<|aG (fr':=[(1,aD)]) r r<|aH<|aN r (dN (us:=cH) jC r r r r)<|bx h fun x1 y1 h2=>kB (bC (v:=aI) r (aK9 y1) ⟨(bQ r zA),trivial⟩ r r r)<|aN r (qH r r)<|mB r<|og r r r (fun u=>(dN (us:=cH) jC r r r r))<|bx h2 fun x3 y3 h4=>uP r r (fun u=>bC (v:=aI) r (aMD (cZ y3 u)) ⟨(fH (gx r u) (bQ r zA)),trivial⟩ (gO (by repeat (first | exact fC | refine aZ r ?_ | refine aZ (rG r) ?_ | refine aZ rF ?_))) r r) ?_
 refine og r r r (fun u=>(qH (gx r u) r))<|aN r (cB r r r (fun e=>fU e))<|mB r<|og r r r (fun u=>(dN (us:=cH) jC r r r r))<|bx h4 fun x5 y5 h6=>uP r r (fun u=>bC (v:=aB) r (aLa (cZ y5 u)) ⟨(fH (gx r u) (bQ r zA)),trivial⟩ (gO (by repeat (first | exact fC | refine aZ r ?_ | refine aZ (rG r) ?_ | refine aZ rF ?_))) r r) ?_
 refine aN r (cB r r r (fun e=>fU e))<|sB r<|aG (fr':=[(2,aB)]) r r<|bJ ?_
 obtain rfl:=sy h6
 exact bI (rs':=[.tmp 2]) r<|bX (v:=aB) r<|bG<|aP [] r r r lr aC
noncomputable def vF (p0v:aK):Option Bool :=
 (aAN p0v).bind fun x1=>(gd (x1==true) (aBY p0v false)).bind fun x3=>some (cond x1 x3 false)
theorem aBi {p0v:aK}{z:Bool} (h:vF p0v=some z):cR Tryz.prog 100 [.agg (AV.cs (fA p0v))] [] (.c (.bool z)) []:=by
 unfold vF at h
 refine dQ (fn:=Tryz.f100) [0,1,2] (by kernel_rfl) Tryz.func100 r (by kernel_rfl) (by kernel_rfl)<|aH<|iR (v:=.agg cH) (n:=0) (cs:=cH) (σ':=[cH]) r r r r r<|sB r<|aG (fr':=[(1,aD)]) r r<|aH<|aN r (dN (us:=cH) jC r r r r)<|bx h fun x1 y1 h2=>kB (bC (v:=aB) r (aKy y1) ⟨(bQ r zA),trivial⟩ r r r)<|mB r<|og r r r (fun u=>(dN (us:=cH) jC r r r r))<|bx h2 fun x3 y3 h4=>uP r r (fun u=>bC (v:=aB) r (aE1 (cZ y3 u)) ⟨(fH (gx r u) (bQ r zA)),lr,trivial⟩ (gO (by repeat (first | exact fC | refine aZ r ?_ | refine aZ (rG r) ?_ | refine aZ rF ?_))) r r) ?_
 refine aN r (cB r r r (fun e=>fU e))<|sB r<|aG (fr':=[(2,aB)]) r r<|bJ ?_
 obtain rfl:=sy h4
 exact bI (rs':=[.tmp 2]) r<|bX (v:=aB) r<|bG<|aP [] r r r lr aC
noncomputable def lN (p0n:Int) (oK:Int) (lO:Int):Option Bool :=
 some (cond (decide (oK≤p0n)) (decide (p0n≤lO)) false)
theorem mN {p0n:Int}{oK:Int}{lO:Int}{z:Bool} (h:lN p0n oK lO=some z):cR Tryz.prog 136 [ci p0n,ci oK,ci lO] [] (.c (.bool z)) []:=by
 unfold lN at h
 refine dQ (fn:=Tryz.f136) [0,1,2,6] (by kernel_rfl) Tryz.func136 r (by kernel_rfl) (by kernel_rfl)<|aH<|sB r<|aG (fr':=[(0,aI),(1,aI),(2,aI)]) r r<|aH<|mI r<|mI r<|aN r (qR r r)<|mB r<|og r r r (fun u=>(bS (v:=aI) r))<|og r r r (fun u=>(bS (v:=aI) r))<|og r r r (fun u=>(qH (gx r u) (gx r u)))<|aN r (cB r r r (fun e=>fU e))<|sB r<|aG (fr':=[(6,aB)]) r r<|bJ ?_
 obtain rfl:=sy h
 exact bI (rs':=[.tmp 6]) r<|bX (v:=aB) r<|bG<|aP [] r r r lr aC
