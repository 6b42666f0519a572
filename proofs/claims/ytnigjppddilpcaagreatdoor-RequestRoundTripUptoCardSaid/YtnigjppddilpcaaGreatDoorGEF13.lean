import Derived.Test.YtnigjppddilpcaaGreatDoorGETy
import Derived.Test.YtnigjppddilpcaaGreatDoorGEF0
import Derived.Test.YtnigjppddilpcaaGreatDoorGEF1
import Derived.Test.YtnigjppddilpcaaGreatDoorGEF2
import Derived.Test.YtnigjppddilpcaaGreatDoorGEF3
import Derived.Test.YtnigjppddilpcaaGreatDoorGEF4
import Derived.Test.YtnigjppddilpcaaGreatDoorGEF6
import Derived.Test.YtnigjppddilpcaaGreatDoorGEF10
import Derived.Test.YtnigjppddilpcaaGreatDoorGEF12
namespace Go.Proofs.YtnigjppddilpcaaGreatDoor
open Go Abs
set_option maxRecDepth 100000
set_option linter.unusedVariables false
set_option linter.unusedSimpArgs false
noncomputable def jP (p0n:Int) (oT:Int) (lG:Int):Option Bool :=
 some (cond (decide (oT≤p0n)) (decide (p0n≤lG)) false)
theorem lA {p0n:Int}{oT:Int}{lG:Int}{res:Bool} (h:jP p0n oT lG=some res):cC Tryz.prog 98 [ci p0n,ci oT,ci lG] [] (.c (.bool res)) []:=by
 unfold jP at h
 refine cY (fn:=Tryz.f98) [0,1,2,6] (by kernel_rfl) Tryz.func98 r (by kernel_rfl) (by kernel_rfl)<|aK<|sB r<|aH (fr':=[(0,aI),(1,aI),(2,aI)]) r r<|aK<|mI r<|mI r<|aT r (rP r r)<|mB r<|og r r r (fun hc=>(bA (v:=aI) r))<|og r r r (fun hc=>(bA (v:=aI) r)) ?_
 refine og r r r (fun hc=>(wI (gx r hc) (gx r hc)))<|aT r (cE r r r (fun e=>fW e))<|sB r<|aH (fr':=[(6,aB)]) r r<|bI ?_
 obtain rfl:=sy h
 exact bH (rs':=[.tmp 6]) r<|bP (v:=aB) r<|bG<|aQ [] r r r lr aF
noncomputable def yO (p0s:(List UInt8)) (s4:Int):Option (bS Int (Fl Bool Unit)) :=
 cond (decide (s4<((p0s).length:Int))) ((jV p0s s4).bind fun x6=>(gd ((decide (((x6).toNat:Int)<(33:Int)))==false) (jV p0s s4)).bind fun x8=>(gd ((cond (decide (((x6).toNat:Int)<(33:Int))) true (decide ((126:Int)<((x8).toNat:Int))))==false) (jV p0s s4)).bind fun x10=>(gd ((cond (cond (decide (((x6).toNat:Int)<(33:Int))) true (decide ((126:Int)<((x8).toNat:Int)))) true (decide (((x10).toNat:Int)=(47:Int))))==false) (jV p0s s4)).bind fun x12=>cond (cond (cond (cond (decide (((x6).toNat:Int)<(33:Int))) true (decide ((126:Int)<((x8).toNat:Int)))) true (decide (((x10).toNat:Int)=(47:Int)))) true (decide (((x12).toNat:Int)=(34:Int)))) (some (bS.out (Fl.done false))) (some (bS.next (IntKind.wrap .i64 (s4+(1:Int)))))) (some (bS.out (Fl.go ())))
noncomputable def mK (p0s:(List UInt8)):Option Bool :=
 ((dL (yO p0s) ((0:Int))):Option (Fl Bool Unit)).bind fun x1=>Fl.next x1 (fun j3=>((jP ((p0s).length:Int) (1:Int) (64:Int)).bind fun x20=>some x20))
theorem uX {p0s:(List UInt8)}{res:Bool} (h:mK p0s=some res):cC Tryz.prog 101 [.c (.str p0s)] [] (.c (.bool res)) []:=by
 unfold mK at h
 refine cY (fn:=Tryz.f101) [0,2,3,5,6,7,30] (by kernel_rfl) Tryz.func101 r (by kernel_rfl) (by kernel_rfl)<|aK<|sB r<|aH (fr':=[(0,aS)]) r r<|aU<|aK<|mS r<|aT r (nI wT r)<|mI r<|aH (fr':=[(0,aS),(5,aI),(6,aI)]) r r ?_
 obtain ⟨x1,hx1,h2⟩:=aG h
 refine gZ mO (fun j3=>x1=Fl.go j3) (fun (j3:Unit)=>([(0,.c (.str p0s))]:Fr)) (fun (j3:Unit)=>([]:St)) ?_ ?_
 ·
  refine bZ<|gU _ (fun (s4:Int)=>([(0,.c (.str p0s)),(5,ci ((p0s).length:Int)),(6,ci s4)]:Fr)) (fun (s4:Int)=>([]:St)) hx1 (bT [] 0 r r r r ⟨lr,lr,lr,trivial⟩ aF) ?_
  intro s4 st4 hs4 ho4
  unfold yO at hs4
  refine aK<|aT r (fM r r)<|aH (fr':=[(0,aS),(5,aI),(6,aI),(7,aB)]) r r<|aU<|cV hs4 r (fun hb5 h5=>?_) (fun hb5 h5=>?_)
  ·
   refine bJ<|cM<|aU<|bZ<|aK<|mI r<|sI r<|aH (fr':=[(0,aS),(3,aI),(5,aI),(6,aI)]) r r<|aK<|mS r<|mI r ?_
   obtain ⟨x6,hx6,h7⟩:=aG h5
   refine aT r (aFF wT r r hx6)<|aT r (fM r r)<|mB r<|og r r r (fun hc=>(bA (v:=aS) r))<|og r r r (fun hc=>(bA (v:=aI) r)) ?_
   obtain ⟨x8,hx8,h9⟩:=aG h7
   refine og r r r (fun hc=>(aFF wT (gx r hc) (gx r hc) (dW hx8 hc)))<|og r r r (fun hc=>(sJ (gx r hc) r))<|aT r (cB r r r (fun e=>fW e))<|mB r<|og r r r (fun hc=>(bA (v:=aS) r))<|og r r r (fun hc=>(bA (v:=aI) r)) ?_
   obtain ⟨x10,hx10,h11⟩:=aG h9
   refine og r r r (fun hc=>(aFF wT (gx r hc) (gx r hc) (dW hx10 hc)))<|og r r r (fun hc=>(dG (gx r hc) r))<|aT r (cB r r r (fun e=>fW e))<|mB r<|og r r r (fun hc=>(bA (v:=aS) r))<|og r r r (fun hc=>(bA (v:=aI) r)) ?_
   obtain ⟨x12,hx12,h13⟩:=aG h11
   refine og r r r (fun hc=>(aFF wT (gx r hc) (gx r hc) (dW hx12 hc)))<|og r r r (fun hc=>(dG (gx r hc) r))<|aT r (cB r r r (fun e=>fW e))<|aH (fr':=[(0,aS),(5,aI),(6,aI),(30,aB)]) r r<|cV h13 r (fun hb14 h14=>?_) (fun hb14 h14=>?_)
   ·
    refine aK<|sB r<|aH (fr':=[(2,aB)]) r r<|bI<|bN<|aN<|aN<|bN<|aN<|aN ?_
    have h15:=eY h14 ho4
    have h16:=fI h15 h2
    obtain rfl:=sy h16
    exact bH (rs':=[.tmp 2]) r<|bP (v:=aB) r<|bG<|aQ [] r r r lr aF
   ·
    exact bJ<|dH<|cM<|aX<|aT r (fL r r)<|mI r<|dT (fr':=[(0,aS),(5,aI),(6,aI),(30,aB)]) r<|e_l _ (sy h14) (bT [] 0 r r r r ⟨lr,lr,lr,trivial⟩ aF)
  ·
   refine hH<|cX<|cX<|fU ?_
   have h18:=eY h5 ho4
   exact pG _ (sy h18) (bT [] 0 r r r r ⟨lr,trivial⟩ aF)
 ·
  intro j3 hj19
  have h19:=nG hj19 h2
  refine cM<|aK<|mS r<|aT r (nI wT r) ?_
  obtain ⟨x20,hx20,h21⟩:=aG h19
  refine lM (bC (v:=aB) r (lA hx20) ⟨lr,lr,lr,trivial⟩ r r r)<|sB r<|aH (fr':=[(2,aB)]) r r<|bI ?_
  obtain rfl:=sy h21
  exact bH (rs':=[.tmp 2]) r<|bP (v:=aB) r<|bG<|aQ [] r r r lr aF
noncomputable def rA (p0s:(List UInt8)):Option Bool :=
 (tX p0s).bind fun x1=>some (cond (decide (p0s=([]:List UInt8))) true x1.2)
theorem aBV {p0s:(List UInt8)}{res:Bool} (h:rA p0s=some res):cC Tryz.prog 102 [.c (.str p0s)] [] (.c (.bool res)) []:=by
 unfold rA at h
 refine cY (fn:=Tryz.f102) [0,2,4] (by kernel_rfl) Tryz.func102 r (by kernel_rfl) (by kernel_rfl)<|aK<|sB r<|aH (fr':=[(0,aS)]) r r<|aK<|mS r ?_
 obtain ⟨x1,hx1,h2⟩:=aG h
 refine lM (bC (v:=.tup [aI,aB]) r (aGN hx1) ⟨lr,trivial⟩ r r r)<|mV (v:=.tup [aI,aB]) r<|aT r (wH (v:=aI) r r)<|aT r (wH (v:=aB) r r)<|sI r<|sB r<|aH (fr':=[(0,aS),(4,aB)]) r r<|aK<|mS r<|aT r (sX r r)<|mB r<|og r r r (fun hc=>(bA (v:=aB) r)) ?_
 refine aT r (cB r r r (fun e=>fW e))<|sB r<|aH (fr':=[(2,aB)]) r r<|bI ?_
 obtain rfl:=sy h2
 exact bH (rs':=[.tmp 2]) r<|bP (v:=aB) r<|bG<|aQ [] r r r lr aF
noncomputable def oL (p0C:(List UInt8)) (p1o:(List UInt8)):Option Int :=
 match p1o with
 | [c]=>some (Lib.indexByte p0C c)
 | _=>none
theorem aBG {p0C:(List UInt8)}{p1o:(List UInt8)}{res:Int} (h:oL p0C p1o=some res):cC Tryz.prog 224 [.c (.str p0C),.c (.str p1o)] [] (ci res) []:=by
 unfold oL at h
 split at h
 ·
  rename_i c
  cases h
  refine aBX (by kernel_rfl) fun g w vs hv hI hg=>?_
  rw [aLb hv]
  refine (Tryz.stringslite_Index_one ⟨p0C.toArray⟩ c w).mono fun e w'=>?_
  rintro ⟨rfl,rfl⟩
  exact ⟨_,r,RowKit.Below.refl _ _,fun g'=>.c (.int _ _)⟩
 ·
  cases h
noncomputable def qN (p0s:(List UInt8)) (aAT:(List UInt8)):Option ((List UInt8) × (List UInt8) × Bool) :=
 (oL p0s aAT).bind fun x1=>cond (decide ((0:Int)≤x1)) ((aKF p0s x1).bind fun x4=>(aJu p0s (IntKind.wrap .i64 (x1+((aAT).length:Int)))).bind fun x6=>some ((List.take (Int.toNat x1) p0s),(List.drop (Int.toNat (IntKind.wrap .i64 (x1+((aAT).length:Int)))) p0s),true)) (some (p0s,([]:List UInt8),false))
theorem aC7 {p0s:(List UInt8)}{aAT:(List UInt8)}{res:((List UInt8) × (List UInt8) × Bool)} (h:qN p0s aAT=some res):cC Tryz.prog 214 [.c (.str p0s),.c (.str aAT)] [] (.tup [.c (.str res.1),.c (.str res.2.1),.c (.bool res.2.2)]) []:=by
 unfold qN at h
 refine cY (fn:=Tryz.f214) [0,1,4,5,6,7,12] (by kernel_rfl) Tryz.func214 r (by kernel_rfl) (by kernel_rfl)<|aK<|sS r<|sS r<|sB r<|aH (fr':=[(0,aS),(1,aS)]) r r<|aU<|aK<|mS r<|mS r ?_
 obtain ⟨x1,hx1,h2⟩:=aG h
 refine lM (bC (v:=aI) r (aBG hx1) ⟨lr,lr,trivial⟩ r r r)<|sI r<|aH (fr':=[(0,aS),(1,aS),(7,aI)]) r r<|aK<|mI r<|aT r (rP r r)<|aH (fr':=[(0,aS),(1,aS),(7,aI),(12,aB)]) r r<|cV h2 r (fun hb3 h3=>?_) (fun hb3 h3=>?_)
 ·
  refine aU<|jD [.q 0,.q 1,.q 2,.q 3,.q 4,.q 5,.q 6,.q 7,.q 8,.n 9 [3,4,5,6,7,8],.n 10 [],.n 11 []] [(some 13,[0]),(some 14,[7]),(some 15,[13,14]),(some 16,[0]),(some 17,[7]),(some 18,[1]),(some 19,[18]),(some 20,[17,19]),(some 21,[16,20]),(some 4,[15]),(some 5,[21]),(some 6,[])] [0,0,3,0,0,0,32,112,248,7,1023,2047] (by kernel_rfl)<|dq r r (bA (v:=aS) r)<|dq r r (bA (v:=aI) r) ?_
  obtain ⟨x4,hx4,h5⟩:=aG h3
  refine dq r r (aOu wT r r (aHl hx4).1)<|dq r r (bA (v:=aS) r)<|dq r r (bA (v:=aI) r)<|dq r r (bA (v:=aS) r)<|dq r r (nI wT r)<|dq r r (fL r r) ?_
  obtain ⟨x6,hx6,h7⟩:=aG h5
  refine dq r r (aK8 wT r r (aDG hx6).1)<|d_n r ?_ r
  refine sS r<|aBD<|⟨(aEv (v:=aS) r r (aDy r (bA (v:=aS) r)) (aEv (v:=aI) r r (aDy r (bA (v:=aI) r)) (aEv (v:=aS) r r (aDy r (bA (v:=aS) r)) (aEv (v:=aI) r r (aDy r (nI wT r)) (aEv (v:=aI) r r (aDy r (fL r r)) (aEv (v:=aS) r r (aDy r (aK8 wT r r (aDG hx6).1)) pS)))))),?_⟩
  refine d_n r ?_ r
  refine sS r<|aBD<|⟨pS,?_⟩
  refine d_n r ?_ r
  refine sB r<|aBD<|⟨pS,?_⟩
  refine xA (fr':=[(4,aS),(5,aS),(6,aB)]) r r<|bI<|aN ?_
  obtain rfl:=sy h7
  exact bH (rs':=[.tmp 4,.tmp 5,.tmp 6]) r<|bP (v:=aS) r<|bP (v:=aS) r<|bP (v:=aB) r<|bG<|aQ [] r r r (rN r ⟨lr,lr,lr,trivial⟩) aF
 ·
  refine bJ<|cM<|aK<|mS r<|sS r<|sS r<|sB r<|aH (fr':=[(4,aS),(5,aS),(6,aB)]) r r<|bI ?_
  obtain rfl:=sy h3
  exact bH (rs':=[.tmp 4,.tmp 5,.tmp 6]) r<|bP (v:=aS) r<|bP (v:=aS) r<|bP (v:=aB) r<|bG<|aQ [] r r r (rN r ⟨lr,lr,lr,trivial⟩) aF
noncomputable def uC (p0s:(List UInt8)) (aAT:(List UInt8)):Option ((List UInt8) × (List UInt8) × Bool) :=
 (qN p0s aAT).bind fun x1=>some (x1.1,x1.2.1,x1.2.2)
theorem aGP {p0s:(List UInt8)}{aAT:(List UInt8)}{res:((List UInt8) × (List UInt8) × Bool)} (h:uC p0s aAT=some res):cC Tryz.prog 197 [.c (.str p0s),.c (.str aAT)] [] (.tup [.c (.str res.1),.c (.str res.2.1),.c (.bool res.2.2)]) []:=by
 unfold uC at h
 refine cY (fn:=Tryz.f197) [0,1,4,5,6] (by kernel_rfl) Tryz.func197 r (by kernel_rfl) (by kernel_rfl)<|aK<|sS r<|sS r<|sB r<|aH (fr':=[(0,aS),(1,aS)]) r r<|aK<|mS r<|mS r ?_
 obtain ⟨x1,hx1,h2⟩:=aG h
 refine lM (bC (v:=.tup [aS,aS,aB]) r (aC7 hx1) ⟨lr,lr,trivial⟩ r r r)<|aT r (wH (v:=aS) r r)<|aT r (wH (v:=aS) r r)<|aT r (wH (v:=aB) r r)<|sS r<|sS r<|sB r<|aH (fr':=[(4,aS),(5,aS),(6,aB)]) r r<|bI ?_
 obtain rfl:=sy h2
 exact bH (rs':=[.tmp 4,.tmp 5,.tmp 6]) r<|bP (v:=aS) r<|bP (v:=aS) r<|bP (v:=aB) r<|bG<|aQ [] r r r (rN r ⟨lr,lr,lr,trivial⟩) aF
noncomputable def pN (p0s:(List UInt8)) (aCJ:(List UInt8)):Option Bool :=
 match aCJ with
 | [c]=>some (decide (0≤Lib.indexByte p0s c))
 | _=>none
theorem aCl {p0s:(List UInt8)}{aCJ:(List UInt8)}{res:Bool} (h:pN p0s aCJ=some res):cC Tryz.prog 198 [.c (.str p0s),.c (.str aCJ)] [] (.c (.bool res)) []:=by
 unfold pN at h
 split at h
 ·
  rename_i c
  cases h
  refine aBX (by kernel_rfl) fun g w vs hv hI hg=>?_
  rw [aLb hv]
  refine (Tryz.strings_Contains_one ⟨p0s.toArray⟩ c w).mono fun e w'=>?_
  rintro ⟨rfl,rfl⟩
  exact ⟨_,r,RowKit.Below.refl _ _,fun g'=>.c (.bool _)⟩
 ·
  cases h
noncomputable def wE (xJ:(List UInt8)):Option ((List UInt8) × (List UInt8) × Bool) :=
 (uC xJ ([47]:List UInt8)).bind fun x1=>(gd ((!x1.2.2)==false) (pN x1.2.1 ([47]:List UInt8))).bind fun x3=>cond (cond (!x1.2.2) true x3) (some (([]:List UInt8),([]:List UInt8),false)) (some (x1.1,x1.2.1,true))
theorem aH7 {xJ:(List UInt8)}{res:((List UInt8) × (List UInt8) × Bool)} (h:wE xJ=some res):cC Tryz.prog 162 [.c (.str xJ)] [] (.tup [.c (.str res.1),.c (.str res.2.1),.c (.bool res.2.2)]) []:=by
 unfold wE at h
 refine cY (fn:=Tryz.f162) [0,2,3,4,5,6,7,19] (by kernel_rfl) Tryz.func162 r (by kernel_rfl) (by kernel_rfl)<|aK<|sS r<|sS r<|sB r<|aH (fr':=[(0,aS)]) r r<|aK<|mS r ?_
 obtain ⟨x1,hx1,h2⟩:=aG h
 refine lM (bC (v:=.tup [aS,aS,aB]) r (aGP hx1) ⟨lr,lr,trivial⟩ r r r)<|mV (v:=.tup [aS,aS,aB]) r<|aT r (wH (v:=aS) r r)<|aT r (wH (v:=aS) r r)<|aT r (wH (v:=aB) r r)<|sS r<|sS r<|sB r<|aH (fr':=[(5,aS),(6,aS),(7,aB)]) r r<|aU<|aK<|mB r ?_
 refine aT r (fH r)<|mB r<|og r r r (fun hc=>(bA (v:=aS) r)) ?_
 obtain ⟨x3,hx3,h4⟩:=aG h2
 refine yS r r (fun hc=>bC (v:=aB) r (aCl (dW hx3 hc)) ⟨(fK (gx r hc) lr),lr,trivial⟩ (gJ (by repeat (first | exact fF | refine aZ r ?_ | refine aZ (uH r) ?_ | refine aZ uG ?_))) r r) ?_
 refine aT r (cB r r r (fun e=>fW e))<|aH (fr':=[(5,aS),(6,aS),(19,aB)]) r r<|cV h4 r (fun hb5 h5=>?_) (fun hb5 h5=>?_)
 ·
  refine aK<|sS r<|sS r<|sB r<|aH (fr':=[(2,aS),(3,aS),(4,aB)]) r r<|bI<|aN ?_
  obtain rfl:=sy h5
  exact bH (rs':=[.tmp 2,.tmp 3,.tmp 4]) r<|bP (v:=aS) r<|bP (v:=aS) r<|bP (v:=aB) r<|bG<|aQ [] r r r (rN r ⟨lr,lr,lr,trivial⟩) aF
 ·
  refine bJ<|cM<|aK<|mS r<|mS r<|sS r<|sS r<|sB r<|aH (fr':=[(2,aS),(3,aS),(4,aB)]) r r<|bI ?_
  obtain rfl:=sy h5
  exact bH (rs':=[.tmp 2,.tmp 3,.tmp 4]) r<|bP (v:=aS) r<|bP (v:=aS) r<|bP (v:=aB) r<|bG<|aQ [] r r r (rN r ⟨lr,lr,lr,trivial⟩) aF
noncomputable def pB (p0s:(List UInt8)):Option Bool :=
 (wE p0s).bind fun x1=>some (cond (decide (p0s=([]:List UInt8))) true (cond x1.2.2 (decide (((p0s).length:Int)≤(4096:Int))) false))
theorem aDV {p0s:(List UInt8)}{res:Bool} (h:pB p0s=some res):cC Tryz.prog 103 [.c (.str p0s)] [] (.c (.bool res)) []:=by
 unfold pB at h
 refine cY (fn:=Tryz.f103) [0,2,5] (by kernel_rfl) Tryz.func103 r (by kernel_rfl) (by kernel_rfl)<|aK<|sB r<|aH (fr':=[(0,aS)]) r r<|aK<|mS r ?_
 obtain ⟨x1,hx1,h2⟩:=aG h
 refine lM (bC (v:=.tup [aS,aS,aB]) r (aH7 hx1) ⟨lr,trivial⟩ r r r)<|mV (v:=.tup [aS,aS,aB]) r<|aT r (wH (v:=aS) r r)<|aT r (wH (v:=aS) r r)<|aT r (wH (v:=aB) r r)<|sS r<|sS r<|sB r<|aH (fr':=[(0,aS),(5,aB)]) r r<|aK<|mS r<|aT r (sX r r) ?_
 refine mB r<|og r r r (fun hc=>(bA (v:=aB) r))<|og r r r (fun hc=>(bA (v:=aB) (gx r hc)))<|eX r r (fun hc=>fJ r (bA (v:=aS) r))<|eX r r (fun hc=>fJ r (nI wT (gx r hc)))<|eX r r (fun hc=>fJ r (wI (gx r hc) r))<|og r r r (fun hc=>(cE (gx r hc) r r (fun e=>rF hc (fW e))))<|aT r (cB r r r (fun e=>fW e))<|sB r<|aH (fr':=[(2,aB)]) r r<|bI ?_
 obtain rfl:=sy h2
 exact bH (rs':=[.tmp 2]) r<|bP (v:=aB) r<|bG<|aQ [] r r r lr aF
noncomputable def qM (p0c:aP):Option Bool :=
 (mE p0c).bind fun x1=>some (!x1)
theorem aC6 {p0c:aP}{res:Bool} (h:qM p0c=some res):cC Tryz.prog 105 [.agg (AV.cs (cH p0c))] [] (.c (.bool res)) []:=by
 unfold qM at h
 refine cY (fn:=Tryz.f105) [0,1,2] (by kernel_rfl) Tryz.func105 r (by kernel_rfl) (by kernel_rfl)<|aK<|iH (v:=.agg aW) (n:=0) (cs:=aW) (σ':=[aW]) r r r r r<|sB r<|aH (fr':=[(1,.box 0 0)]) r r<|aK<|aT r (dJ (us:=aW) vA r r r r) ?_
 obtain ⟨x1,hx1,h2⟩:=aG h
 refine lM (bC (v:=aB) r (uW hx1) ⟨(bO r ⟨r,r,r,r,r,r,r,r,r,r,r,r,r,r,r,r,r,r,r,r,trivial⟩),trivial⟩ r r r)<|aT r (fH r)<|sB r<|aH (fr':=[(2,aB)]) r r<|bI ?_
 obtain rfl:=sy h2
 exact bH (rs':=[.tmp 2]) r<|bP (v:=aB) r<|bG<|aQ [] r r r lr aF
noncomputable def dD (p0s:(List aP)) (s4:Int):Option (bS Int (Fl Int Unit)) :=
 cond (decide (s4<((p0s).length:Int))) ((jV p0s s4).bind fun x6=>(qM x6).bind fun x8=>cond x8 (some (bS.out (Fl.done s4))) (some (bS.next (IntKind.wrap .i64 (s4+(1:Int)))))) (some (bS.out (Fl.go ())))
noncomputable def eJ (p0s:(List aP)):Option Int :=
 ((dL (dD p0s) ((0:Int))):Option (Fl Int Unit)).bind fun x1=>Fl.next x1 (fun j3=>(some (-1:Int)))
theorem jS {p0s:(List aP)}{res:Int} (h:eJ p0s=some res):cC Tryz.prog 163 [.c (PV.ls 20 cH p0s),.fn 105 []] [] (ci res) []:=by
 unfold eJ at h
 refine cY (fn:=Tryz.f163) [0,1,4,5,7,8,9,16] (by kernel_rfl) Tryz.func163 r (by kernel_rfl) (by kernel_rfl)<|aK<|sI r<|aH (fr':=[(0,aL),(1,.fn _ [])]) r r<|aU<|aK<|mL r<|aT r (gN aGI (eO r))<|mI r<|aH (fr':=[(0,aL),(1,.fn _ []),(7,aI),(8,aI)]) r r ?_
 obtain ⟨x1,hx1,h2⟩:=aG h
 refine gZ mO (fun j3=>x1=Fl.go j3) (fun (j3:Unit)=>([]:Fr)) (fun (j3:Unit)=>([]:St)) ?_ ?_
 ·
  refine bZ<|gU _ (fun (s4:Int)=>([(0,.c (PV.ls 20 cH p0s)),(1,.fn 105 []),(7,ci ((p0s).length:Int)),(8,ci s4)]:Fr)) (fun (s4:Int)=>([]:St)) hx1 (bT [] 0 r r r r ⟨lr,lr,lr,lr,trivial⟩ aF) ?_
  intro s4 st4 hs4 ho4
  unfold dD at hs4
  refine aK<|aT r (fM r r)<|aH (fr':=[(0,aL),(1,.fn _ []),(7,aI),(8,aI),(9,aB)]) r r<|aU<|cV hs4 r (fun hb5 h5=>?_) (fun hb5 h5=>?_)
  ·
   refine bJ<|cM<|aU<|bZ<|aK<|mI r<|sI r<|aH (fr':=[(0,aL),(1,.fn _ []),(5,aI),(7,aI),(8,aI)]) r r<|aK<|mV (v:=.fn _ []) r<|mL r ?_
   refine mI r ?_
   obtain ⟨x6,hx6,h7⟩:=aG h5
   refine aT r (oV (cs:=[PV.int _ _,PV.int _ _,PV.str _,PV.str _,PV.int _ _,PV.int _ _,PV.int _ _,PV.str _,PV.ls _ _ _,PV.ls _ _ _,PV.str _,PV.int _ _,PV.int _ _,PV.int _ _,PV.int _ _,PV.int _ _,PV.int _ _,PV.int _ _,PV.int _ _,PV.ls _ _ _]) aMr (eO r) r hx6 r)<|aT r (lW (us:=[PV.int _ _,PV.int _ _,PV.str _,PV.str _,PV.int _ _,PV.int _ _,PV.int _ _,PV.str _,PV.ls _ _ _,PV.ls _ _ _,PV.str _,PV.int _ _,PV.int _ _,PV.int _ _,PV.int _ _,PV.int _ _,PV.int _ _,PV.int _ _,PV.int _ _,PV.ls _ _ _]) vA r r r) ?_
   obtain ⟨x8,hx8,h9⟩:=aG h7
   refine lM (bC (v:=aB) r (aC6 hx8) ⟨(bO r ⟨r,r,r,r,r,r,r,r,r,r,r,r,r,r,r,r,r,r,r,r,trivial⟩),trivial⟩ r r r)<|aH (fr':=[(0,aL),(1,.fn _ []),(5,aI),(7,aI),(8,aI),(16,aB)]) r r<|cV h9 r (fun hb10 h10=>?_) (fun hb10 h10=>?_)
   ·
    refine aK<|mI r<|sI r<|aH (fr':=[(4,aI)]) r r<|bI<|bN<|aN<|aN<|bN<|aN<|aN ?_
    have h11:=eY h10 ho4
    have h12:=fI h11 h2
    obtain rfl:=sy h12
    exact bH (rs':=[.tmp 4]) r<|bP (v:=aI) r<|bG<|aQ [] r r r lr aF
   ·
    exact bJ<|dH<|cM<|aX<|aT r (fL r r)<|mI r<|dT (fr':=[(0,aL),(1,.fn _ []),(5,aI),(7,aI),(8,aI),(16,aB)]) r<|e_l _ (sy h10) (bT [] 0 r r r r ⟨lr,lr,lr,lr,trivial⟩ aF)
  ·
   refine hH<|cX<|cX<|fU ?_
   have h14:=eY h5 ho4
   exact pG _ (sy h14) (bT [] 0 r r r r trivial aF)
 ·
  intro j3 hj15
  have h15:=nG hj15 h2
  refine cM<|aK<|sI r<|aH (fr':=[(4,aI)]) r r<|bI ?_
  obtain rfl:=sy h15
  exact bH (rs':=[.tmp 4]) r<|bP (v:=aI) r<|bG<|aQ [] r r r lr aF
noncomputable def dB (p0s:(List aP)):Option Bool :=
 (eJ p0s).bind fun x1=>some (decide ((0:Int)≤x1))
theorem jF {p0s:(List aP)}{res:Bool} (h:dB p0s=some res):cC Tryz.prog 104 [.c (PV.ls 20 cH p0s),.fn 105 []] [] (.c (.bool res)) []:=by
 unfold dB at h
 refine cY (fn:=Tryz.f104) [0,1,4] (by kernel_rfl) Tryz.func104 r (by kernel_rfl) (by kernel_rfl)<|aK<|sB r<|aH (fr':=[(0,aL),(1,.fn _ [])]) r r<|aK<|mL r<|mV (v:=.fn _ []) r ?_
 obtain ⟨x1,hx1,h2⟩:=aG h
 refine lM (bC (v:=aI) r (jS hx1) ⟨lr,lr,trivial⟩ r r r)<|aT r (rP r r)<|sB r<|aH (fr':=[(4,aB)]) r r<|bI ?_
 obtain rfl:=sy h2
 exact bH (rs':=[.tmp 4]) r<|bP (v:=aB) r<|bG<|aQ [] r r r lr aF
noncomputable def pA (p0q:aY):Option Bool :=
 cond (decide (p0q.Kind=(1:Int))) ((jP p0q.N (0:Int) (2:Int)).bind fun x2=>some x2) (cond (decide (p0q.Kind=(8:Int))) ((jP p0q.N (1:Int) (30:Int)).bind fun x6=>some x6) (cond (decide (p0q.Kind=(9:Int))) ((jP p0q.N (1:Int) (1000:Int)).bind fun x10=>some x10) (cond (decide (p0q.Kind=(15:Int))) (some (cond (cond (decide (p0q.N=(20:Int))) true (decide (p0q.N=(21:Int)))) true (decide (p0q.N=(22:Int))))) (cond (decide (p0q.Kind=(16:Int))) (some (cond (decide (p0q.N=(24:Int))) true (decide (p0q.N=(25:Int))))) (cond (decide (p0q.Kind=(17:Int))) (some (decide ((1:Int)≤p0q.N))) (some true))))))
theorem aDU {p0q:aY}{res:Bool} (h:pA p0q=some res):cC Tryz.prog 107 [.agg (AV.cs (fX p0q))] [] (.c (.bool res)) []:=by
 unfold pA at h
 refine cY (fn:=Tryz.f107) [0,1,2,4,5,10,15,20,35,45] (by kernel_rfl) Tryz.func107 r (by kernel_rfl) (by kernel_rfl)<|aK<|iH (v:=.agg aE) (n:=0) (cs:=aE) (σ':=[aE]) r r r r r<|sB r<|aH (fr':=[(1,.box 0 0)]) r r<|aU<|aK<|aT r (bD wS r)<|aT r (aJ (v:=aI) fY r r r)<|aH (fr':=[(1,.box 0 0),(4,aI)]) r r<|bZ ?_
 refine aK<|aT r (dG r r)<|sB r<|aH (fr':=[(1,.box 0 0),(4,aI),(5,aB)]) r r<|cV h r (fun hb1 h1=>?_) (fun hb1 h1=>?_)
 ·
  refine aK<|aT r (bD sC r)<|aT r (aJ (v:=aI) fY r r r) ?_
  obtain ⟨x2,hx2,h3⟩:=aG h1
  refine lM (bC (v:=aB) r (lA hx2) ⟨lr,lr,lr,trivial⟩ r r r)<|sB r<|aH (fr':=[(2,aB)]) r r<|bI<|bN<|aN ?_
  obtain rfl:=sy h3
  exact bH (rs':=[.tmp 2]) r<|bP (v:=aB) r<|bG<|aQ [] r r r lr aF
 ·
  refine aK<|aT r (dG r r)<|sB r<|aH (fr':=[(1,.box 0 0),(4,aI),(10,aB)]) r r<|cV h1 r (fun hb5 h5=>?_) (fun hb5 h5=>?_)
  ·
   refine aK<|aT r (bD sC r)<|aT r (aJ (v:=aI) fY r r r) ?_
   obtain ⟨x6,hx6,h7⟩:=aG h5
   refine lM (bC (v:=aB) r (lA hx6) ⟨lr,lr,lr,trivial⟩ r r r)<|sB r<|aH (fr':=[(2,aB)]) r r<|bI<|bN<|aN ?_
   obtain rfl:=sy h7
   exact bH (rs':=[.tmp 2]) r<|bP (v:=aB) r<|bG<|aQ [] r r r lr aF
  ·
   refine aK<|aT r (dG r r)<|sB r<|aH (fr':=[(1,.box 0 0),(4,aI),(15,aB)]) r r<|cV h5 r (fun hb9 h9=>?_) (fun hb9 h9=>?_)
   ·
    refine aK<|aT r (bD sC r)<|aT r (aJ (v:=aI) fY r r r) ?_
    obtain ⟨x10,hx10,h11⟩:=aG h9
    refine lM (bC (v:=aB) r (lA hx10) ⟨lr,lr,lr,trivial⟩ r r r)<|sB r<|aH (fr':=[(2,aB)]) r r<|bI<|bN<|aN ?_
    obtain rfl:=sy h11
    exact bH (rs':=[.tmp 2]) r<|bP (v:=aB) r<|bG<|aQ [] r r r lr aF
   ·
    refine aK<|aT r (dG r r)<|sB r<|aH (fr':=[(1,.box 0 0),(4,aI),(20,aB)]) r r<|cV h9 r (fun hb13 h13=>?_) (fun hb13 h13=>?_)
    ·
     refine aK<|aT r (bD sC r)<|aT r (aJ (v:=aI) fY r r r)<|aT r (dG r r)<|mB r<|og r r r (fun hc=>(bD sC r))<|og r r r (fun hc=>(aJ (v:=aI) fY (gx r hc) r r))<|og r r r (fun hc=>(dG (gx r hc) r))<|aT r (cB r r r (fun e=>fW e))<|mB r<|og r r r (fun hc=>(bD sC r))<|og r r r (fun hc=>(aJ (v:=aI) fY (gx r hc) r r)) ?_
     refine og r r r (fun hc=>(dG (gx r hc) r))<|aT r (cB r r r (fun e=>fW e))<|sB r<|aH (fr':=[(2,aB)]) r r<|bI<|bN<|aN ?_
     obtain rfl:=sy h13
     exact bH (rs':=[.tmp 2]) r<|bP (v:=aB) r<|bG<|aQ [] r r r lr aF
    ·
     refine aK<|aT r (dG r r)<|sB r<|aH (fr':=[(1,.box 0 0),(4,aI),(35,aB)]) r r<|cV h13 r (fun hb15 h15=>?_) (fun hb15 h15=>?_)
     ·
      refine aK<|aT r (bD sC r)<|aT r (aJ (v:=aI) fY r r r)<|aT r (dG r r)<|mB r<|og r r r (fun hc=>(bD sC r))<|og r r r (fun hc=>(aJ (v:=aI) fY (gx r hc) r r))<|og r r r (fun hc=>(dG (gx r hc) r))<|aT r (cB r r r (fun e=>fW e))<|sB r<|aH (fr':=[(2,aB)]) r r<|bI ?_
      refine bN<|aN ?_
      obtain rfl:=sy h15
      exact bH (rs':=[.tmp 2]) r<|bP (v:=aB) r<|bG<|aQ [] r r r lr aF
     ·
      refine aK<|aT r (dG r r)<|sB r<|aH (fr':=[(1,.box 0 0),(45,aB)]) r r<|cV h15 r (fun hb17 h17=>?_) (fun hb17 h17=>?_)
      ·
       refine aK<|aT r (bD sC r)<|aT r (aJ (v:=aI) fY r r r)<|aT r (rP r r)<|sB r<|aH (fr':=[(2,aB)]) r r<|bI<|bN<|aN ?_
       obtain rfl:=sy h17
       exact bH (rs':=[.tmp 2]) r<|bP (v:=aB) r<|bG<|aQ [] r r r lr aF
      ·
       refine bJ<|dH<|cM<|aK<|sB r<|aH (fr':=[(2,aB)]) r r<|bI ?_
       obtain rfl:=sy h17
       exact bH (rs':=[.tmp 2]) r<|bP (v:=aB) r<|bG<|aQ [] r r r lr aF
noncomputable def qF (p0q:aY) (p1u:eL):Option Bool :=
 cond (decide (p0q.Kind=(15:Int))) ((rA p0q.ID).bind fun x2=>some (cond x2 (decide (((p0q.Name).length:Int)≤(4096:Int))) false)) (cond (decide (p0q.Kind=(16:Int))) (some (decide (((p0q.Name).length:Int)≤(4096:Int)))) (cond (decide (p0q.Kind=(4:Int))) (some (decide (((p0q.Name).length:Int)≤(64:Int)))) (cond (decide (p0q.Kind=(11:Int))) ((mK p0q.Name).bind fun x10=>some x10) ((gd ((!p1u.id_)==false) (mK p0q.ID)).bind fun x13=>(gd (((cond (!p1u.id_) true x13)==true)&&((!p1u.name_)==false)) (oS p0q.Name)).bind fun x15=>some (cond (cond (!p1u.id_) true x13) (cond (!p1u.name_) true x15) false)))))
theorem aEI {p0q:aY}{p1u:eL}{res:Bool} (h:qF p0q p1u=some res):cC Tryz.prog 108 [.agg (AV.cs (fX p0q)),.agg (AV.cs (wP p1u))] [] (.c (.bool res)) []:=by
 unfold qF at h
 refine cY (fn:=Tryz.f108) [0,1,2,3,4,6,7,18,24,30] (by kernel_rfl) Tryz.func108 r (by kernel_rfl) (by kernel_rfl)<|aK<|iH (v:=.agg aE) (n:=0) (cs:=aE) (σ':=[aE]) r r r r r<|iH (v:=.agg aR) (n:=1) (cs:=aR) (σ':=[aE,aR]) r r r r r<|sB r<|aH (fr':=[(2,.box 0 0),(3,.box 1 0)]) r r<|aU<|aK<|aT r (bD wS r)<|aT r (aJ (v:=aI) fY r r r)<|aH (fr':=[(2,.box 0 0),(3,.box 1 0),(6,aI)]) r r ?_
 refine bZ<|aK<|aT r (dG r r)<|sB r<|aH (fr':=[(2,.box 0 0),(3,.box 1 0),(6,aI),(7,aB)]) r r<|cV h r (fun hb1 h1=>?_) (fun hb1 h1=>?_)
 ·
  refine aK<|aT r (bD aCj r)<|aT r (aJ (v:=aS) nE r r r) ?_
  obtain ⟨x2,hx2,h3⟩:=aG h1
  refine lM (bC (v:=aB) r (aBV hx2) ⟨lr,trivial⟩ r r r)<|mB r<|og r r r (fun hc=>(bD yC r))<|og r r r (fun hc=>(aJ (v:=aS) nE (gx r hc) r r))<|og r r r (fun hc=>(nI wT (gx r hc)))<|og r r r (fun hc=>(wI (gx r hc) r))<|aT r (cE r r r (fun e=>fW e))<|sB r<|aH (fr':=[(4,aB)]) r r<|bI<|bN<|aN ?_
  obtain rfl:=sy h3
  exact bH (rs':=[.tmp 4]) r<|bP (v:=aB) r<|bG<|aQ [] r r r lr aF
 ·
  refine aK<|aT r (dG r r)<|sB r<|aH (fr':=[(2,.box 0 0),(3,.box 1 0),(6,aI),(18,aB)]) r r<|cV h1 r (fun hb5 h5=>?_) (fun hb5 h5=>?_)
  ·
   refine aK<|aT r (bD yC r)<|aT r (aJ (v:=aS) nE r r r)<|aT r (nI wT r)<|aT r (wI r r)<|sB r<|aH (fr':=[(4,aB)]) r r<|bI<|bN<|aN ?_
   obtain rfl:=sy h5
   exact bH (rs':=[.tmp 4]) r<|bP (v:=aB) r<|bG<|aQ [] r r r lr aF
  ·
   refine aK<|aT r (dG r r)<|sB r<|aH (fr':=[(2,.box 0 0),(3,.box 1 0),(6,aI),(24,aB)]) r r<|cV h5 r (fun hb7 h7=>?_) (fun hb7 h7=>?_)
   ·
    refine aK<|aT r (bD yC r)<|aT r (aJ (v:=aS) nE r r r)<|aT r (nI wT r)<|aT r (wI r r)<|sB r<|aH (fr':=[(4,aB)]) r r<|bI<|bN<|aN ?_
    obtain rfl:=sy h7
    exact bH (rs':=[.tmp 4]) r<|bP (v:=aB) r<|bG<|aQ [] r r r lr aF
   ·
    refine aK<|aT r (dG r r)<|sB r<|aH (fr':=[(2,.box 0 0),(3,.box 1 0),(30,aB)]) r r<|cV h7 r (fun hb9 h9=>?_) (fun hb9 h9=>?_)
    ·
     refine aK<|aT r (bD yC r)<|aT r (aJ (v:=aS) nE r r r) ?_
     obtain ⟨x10,hx10,h11⟩:=aG h9
     refine lM (bC (v:=aB) r (uX hx10) ⟨lr,trivial⟩ r r r)<|sB r<|aH (fr':=[(4,aB)]) r r<|bI<|bN<|aN ?_
     obtain rfl:=sy h11
     exact bH (rs':=[.tmp 4]) r<|bP (v:=aB) r<|bG<|aQ [] r r r lr aF
    ·
     refine bJ<|dH<|cM<|aK<|aT r (bD aLg r)<|aT r (aJ (v:=aB) tv4 r r r)<|aT r (fH r)<|mB r<|og r r r (fun hc=>(bD aCj r))<|og r r r (fun hc=>(aJ (v:=aS) nE (gx r hc) r r)) ?_
     obtain ⟨x13,hx13,h14⟩:=aG h9
     refine yS r r (fun hc=>bC (v:=aB) r (uX (dW hx13 hc)) ⟨(fK (gx r hc) lr),trivial⟩ (gJ (by repeat (first | exact fF | refine aZ r ?_ | refine aZ (uH r) ?_ | refine aZ uG ?_))) r r) ?_
     refine aT r (cB r r r (fun e=>fW e))<|mB r<|og r r r (fun hc=>(bD aLh r))<|og r r r (fun hc=>(aJ (v:=aB) tv4 (gx r hc) r r))<|og r r r (fun hc=>(fH (gx r hc)))<|og r r r (fun hc=>(bA (v:=aB) (gx r hc)))<|eX r r (fun hc=>fJ r (bD yC r))<|eX r r (fun hc=>fJ r (aJ (v:=aS) nE (gx r hc) r r)) ?_
     obtain ⟨x15,hx15,h16⟩:=aG h14
     refine eX r r (fun hc=>bC (v:=aB) r (vO (dW hx15 hc)) ⟨(fK (gx r hc) lr),trivial⟩ (gJ (by repeat (first | exact fF | refine aZ r ?_ | refine aZ (uH r) ?_ | refine aZ uG ?_))) r r) ?_
     refine og r r r (fun hc=>(cB (gx r hc) r r (fun e=>rF hc (fW e))))<|aT r (cE r r r (fun e=>fW e))<|sB r<|aH (fr':=[(4,aB)]) r r<|bI ?_
     obtain rfl:=sy h16
     exact bH (rs':=[.tmp 4]) r<|bP (v:=aB) r<|bG<|aQ [] r r r lr aF
noncomputable def oZ (gF:Int):Option eL :=
 cond (decide (gF=(1:Int))) (some (eL.mk true true false false true true true false true)) (((cond (decide (gF=(2:Int))) (some (decide (gF=(2:Int)))) (some (decide (gF=(5:Int))))):Option Bool).bind fun x3=>(cond x3 (some (eL.mk true true false false false false true false false)) (cond (decide (gF=(3:Int))) (some (eL.mk true false false false false false false false false)) (cond (decide (gF=(4:Int))) (some (eL.mk false true false false false false false false false)) (cond (decide (gF=(6:Int))) (some (eL.mk false false false true false false false false false)) (cond (decide (gF=(7:Int))) (some (eL.mk false false true false false false true true false)) (cond (decide (gF=(8:Int))) (some (eL.mk false false true false false true false false false)) (cond (decide (gF=(9:Int))) (some (eL.mk false false false false true true false false false)) (((cond (decide (gF=(10:Int))) (some (decide (gF=(10:Int)))) (cond (decide (gF=(12:Int))) (some (decide (gF=(12:Int)))) (some (decide (gF=(13:Int)))))):Option Bool).bind fun x22=>(cond x22 (some (eL.mk false false true false true false true false false)) (cond (decide (gF=(11:Int))) (some (eL.mk false true true false true false true false false)) (cond (decide (gF=(15:Int))) (some (eL.mk true true false false true true true false false)) (cond (decide (gF=(16:Int))) (some (eL.mk false true false false true true false false false)) (cond (decide (gF=(17:Int))) (some (eL.mk false false false false false true false false false)) (some (eL.mk false false false false false false false false false))))))))))))))))
theorem aDT {gF:Int}{res:eL} (h:oZ gF=some res):cC Tryz.prog 97 [ci gF] [] (.agg (AV.cs (wP res))) []:=by
 unfold oZ at h
 refine cY (fn:=Tryz.f97) [0,2,3,4,7,11,14,17,20,23,26,29,34,37,40,43] (by kernel_rfl) Tryz.func97 r (by kernel_rfl) (by kernel_rfl)<|aK<|iG (n:=0) (cs:=aR) (σ':=[aR]) aNU r r r<|aH (fr':=[(0,aI),(2,.box 0 0)]) r r<|aU<|aK<|mI r<|aH (fr':=[(2,.box 0 0),(3,aI)]) r r<|bZ<|aU<|aX ?_
 refine aT r (dG r r)<|sB r<|aH (fr':=[(2,.box 0 0),(3,aI),(4,aB)]) r r<|cV h r (fun hb1 h1=>?_) (fun hb1 h1=>?_)
 ·
  refine aK<|aT r (iA (c0:=aR) (cs:=aR) xP r (eA (v:=aB) (us:=[_]) (cs':=u9) r r r r r r (eA (v:=aB) (us:=[_]) (cs':=u9) r r r r r r (eA (v:=aB) (us:=[_]) (cs':=u9) r r r r r r (eA (v:=aB) (us:=[_]) (cs':=u9) r r r r r r (eA (v:=aB) (us:=[_]) (cs':=u9) r r r r r r (eA (v:=aB) (us:=[_]) (cs':=u9) r r r r r r hZ)))))))<|bU (v:=.agg aR) (us:=aR) (cs:=aR) (σ':=[aR]) r lH r r r r r r r r<|aH (fr':=[(2,.box 0 0)]) r r<|bI<|bN<|aN ?_
  obtain rfl:=sy h1
  exact bH (rs':=[.cell 2 116]) r<|fA (us:=aR) (cs:=aR) lH r r r r<|bG<|aQ [] r r r (bO r ⟨r,r,r,r,r,r,r,r,r,trivial⟩) aF
 ·
  obtain ⟨x3,hx3,h4⟩:=aG h1
  refine nB (fun j5=>x3=j5) (fun (j5:Bool)=>([(2,.box 0 0),(3,ci gF),(7,.c (.bool j5))]:Fr)) (fun (j5:Bool)=>([[.c (.bool false),.c (.bool false),.c (.bool false),.c (.bool false),.c (.bool false),.c (.bool false),.c (.bool false),.c (.bool false),.c (.bool false)]]:St)) ?_ ?_
  ·
   refine aK<|aT r (dG r r)<|sB r<|aH (fr':=[(2,.box 0 0),(3,aI),(7,aB)]) r r<|cV hx3 r (fun hb6 h6=>?_) (fun hb6 h6=>?_)
   ·
    exact bJ<|pG _ (sy h6) (bT [] 1 r r r r ⟨lr,lr,lr,trivial⟩ (cZ r aF))
   ·
    exact aX<|aT r (dG r r)<|sB r<|dT (fr':=[(2,.box 0 0),(3,aI),(7,aB)]) r<|pG _ (sy h6) (bT [] 1 r r r r ⟨lr,lr,lr,trivial⟩ (cZ r aF))
  ·
   intro j5 hj7
   subst hj7
   refine cV h4 r (fun hb8 h8=>?_) (fun hb8 h8=>?_)
   ·
    refine aK<|aT r (iA (c0:=aR) (cs:=aR) xP r (eA (v:=aB) (us:=[_]) (cs':=u9) r r r r r r (eA (v:=aB) (us:=[_]) (cs':=u9) r r r r r r (eA (v:=aB) (us:=[_]) (cs':=u9) r r r r r r hZ))))<|bU (v:=.agg aR) (us:=aR) (cs:=aR) (σ':=[aR]) r lH r r r r r r r r<|aH (fr':=[(2,.box 0 0)]) r r<|bI<|bN<|aN ?_
    obtain rfl:=sy h8
    exact bH (rs':=[.cell 2 116]) r<|fA (us:=aR) (cs:=aR) lH r r r r<|bG<|aQ [] r r r (bO r ⟨r,r,r,r,r,r,r,r,r,trivial⟩) aF
   ·
    refine aK<|aT r (dG r r)<|sB r<|aH (fr':=[(2,.box 0 0),(3,aI),(11,aB)]) r r<|cV h8 r (fun hb10 h10=>?_) (fun hb10 h10=>?_)
    ·
     refine aK<|aT r (iA (c0:=aR) (cs:=aR) xP r (eA (v:=aB) (us:=[_]) (cs':=u9) r r r r r r hZ))<|bU (v:=.agg aR) (us:=aR) (cs:=aR) (σ':=[aR]) r lH r r r r r r r r<|aH (fr':=[(2,.box 0 0)]) r r<|bI<|bN<|aN ?_
     obtain rfl:=sy h10
     exact bH (rs':=[.cell 2 116]) r<|fA (us:=aR) (cs:=aR) lH r r r r<|bG<|aQ [] r r r (bO r ⟨r,r,r,r,r,r,r,r,r,trivial⟩) aF
    ·
     refine aK<|aT r (dG r r)<|sB r<|aH (fr':=[(2,.box 0 0),(3,aI),(14,aB)]) r r<|cV h10 r (fun hb12 h12=>?_) (fun hb12 h12=>?_)
     ·
      refine aK<|aT r (iA (c0:=aR) (cs:=aR) xP r (eA (v:=aB) (us:=[_]) (cs':=u9) r r r r r r hZ))<|bU (v:=.agg aR) (us:=aR) (cs:=aR) (σ':=[aR]) r lH r r r r r r r r<|aH (fr':=[(2,.box 0 0)]) r r<|bI<|bN<|aN ?_
      obtain rfl:=sy h12
      exact bH (rs':=[.cell 2 116]) r<|fA (us:=aR) (cs:=aR) lH r r r r<|bG<|aQ [] r r r (bO r ⟨r,r,r,r,r,r,r,r,r,trivial⟩) aF
     ·
      refine aK<|aT r (dG r r)<|sB r<|aH (fr':=[(2,.box 0 0),(3,aI),(17,aB)]) r r<|cV h12 r (fun hb14 h14=>?_) (fun hb14 h14=>?_)
      ·
       refine aK<|aT r (iA (c0:=aR) (cs:=aR) xP r (eA (v:=aB) (us:=[_]) (cs':=u9) r r r r r r hZ))<|bU (v:=.agg aR) (us:=aR) (cs:=aR) (σ':=[aR]) r lH r r r r r r r r<|aH (fr':=[(2,.box 0 0)]) r r<|bI<|bN<|aN ?_
       obtain rfl:=sy h14
       exact bH (rs':=[.cell 2 116]) r<|fA (us:=aR) (cs:=aR) lH r r r r<|bG<|aQ [] r r r (bO r ⟨r,r,r,r,r,r,r,r,r,trivial⟩) aF
      ·
       refine aK<|aT r (dG r r)<|sB r<|aH (fr':=[(2,.box 0 0),(3,aI),(20,aB)]) r r<|cV h14 r (fun hb16 h16=>?_) (fun hb16 h16=>?_)
       ·
        refine aK<|aT r (iA (c0:=aR) (cs:=aR) xP r (eA (v:=aB) (us:=[_]) (cs':=u9) r r r r r r (eA (v:=aB) (us:=[_]) (cs':=u9) r r r r r r (eA (v:=aB) (us:=[_]) (cs':=u9) r r r r r r hZ))))<|bU (v:=.agg aR) (us:=aR) (cs:=aR) (σ':=[aR]) r lH r r r r r r r r<|aH (fr':=[(2,.box 0 0)]) r r<|bI<|bN<|aN ?_
        obtain rfl:=sy h16
        exact bH (rs':=[.cell 2 116]) r<|fA (us:=aR) (cs:=aR) lH r r r r<|bG<|aQ [] r r r (bO r ⟨r,r,r,r,r,r,r,r,r,trivial⟩) aF
       ·
        refine aK<|aT r (dG r r)<|sB r<|aH (fr':=[(2,.box 0 0),(3,aI),(23,aB)]) r r<|cV h16 r (fun hb18 h18=>?_) (fun hb18 h18=>?_)
        ·
         refine aK<|aT r (iA (c0:=aR) (cs:=aR) xP r (eA (v:=aB) (us:=[_]) (cs':=u9) r r r r r r (eA (v:=aB) (us:=[_]) (cs':=u9) r r r r r r hZ)))<|bU (v:=.agg aR) (us:=aR) (cs:=aR) (σ':=[aR]) r lH r r r r r r r r<|aH (fr':=[(2,.box 0 0)]) r r<|bI<|bN<|aN ?_
         obtain rfl:=sy h18
         exact bH (rs':=[.cell 2 116]) r<|fA (us:=aR) (cs:=aR) lH r r r r<|bG<|aQ [] r r r (bO r ⟨r,r,r,r,r,r,r,r,r,trivial⟩) aF
        ·
         refine aK<|aT r (dG r r)<|sB r<|aH (fr':=[(2,.box 0 0),(3,aI),(26,aB)]) r r<|cV h18 r (fun hb20 h20=>?_) (fun hb20 h20=>?_)
         ·
          refine aK<|aT r (iA (c0:=aR) (cs:=aR) xP r (eA (v:=aB) (us:=[_]) (cs':=u9) r r r r r r (eA (v:=aB) (us:=[_]) (cs':=u9) r r r r r r hZ)))<|bU (v:=.agg aR) (us:=aR) (cs:=aR) (σ':=[aR]) r lH r r r r r r r r<|aH (fr':=[(2,.box 0 0)]) r r<|bI<|bN<|aN ?_
          obtain rfl:=sy h20
          exact bH (rs':=[.cell 2 116]) r<|fA (us:=aR) (cs:=aR) lH r r r r<|bG<|aQ [] r r r (bO r ⟨r,r,r,r,r,r,r,r,r,trivial⟩) aF
         ·
          obtain ⟨x22,hx22,h23⟩:=aG h20
          refine nB (fun j24=>x22=j24) (fun (j24:Bool)=>([(2,.box 0 0),(3,ci gF),(29,.c (.bool j24))]:Fr)) (fun (j24:Bool)=>([[.c (.bool false),.c (.bool false),.c (.bool false),.c (.bool false),.c (.bool false),.c (.bool false),.c (.bool false),.c (.bool false),.c (.bool false)]]:St)) ?_ ?_
          ·
           refine aK<|aT r (dG r r)<|sB r<|aH (fr':=[(2,.box 0 0),(3,aI),(29,aB)]) r r<|cV hx22 r (fun hb25 h25=>?_) (fun hb25 h25=>?_)
           ·
            exact bJ<|pG _ (sy h25) (bT [] 1 r r r r ⟨lr,lr,lr,trivial⟩ (cZ r aF))
           ·
            refine aK<|aT r (dG r r)<|sB r<|aH (fr':=[(2,.box 0 0),(3,aI),(29,aB)]) r r<|cV h25 r (fun hb26 h26=>?_) (fun hb26 h26=>?_)
            ·
             exact bJ<|pG _ (sy h26) (bT [] 1 r r r r ⟨lr,lr,lr,trivial⟩ (cZ r aF))
            ·
             exact aX<|aT r (dG r r)<|sB r<|dT (fr':=[(2,.box 0 0),(3,aI),(29,aB)]) r<|pG _ (sy h26) (bT [] 1 r r r r ⟨lr,lr,lr,trivial⟩ (cZ r aF))
          ·
           intro j24 hj27
           subst hj27
           refine cV h23 r (fun hb28 h28=>?_) (fun hb28 h28=>?_)
           ·
            refine aK<|aT r (iA (c0:=aR) (cs:=aR) xP r (eA (v:=aB) (us:=[_]) (cs':=u9) r r r r r r (eA (v:=aB) (us:=[_]) (cs':=u9) r r r r r r (eA (v:=aB) (us:=[_]) (cs':=u9) r r r r r r hZ))))<|bU (v:=.agg aR) (us:=aR) (cs:=aR) (σ':=[aR]) r lH r r r r r r r r<|aH (fr':=[(2,.box 0 0)]) r r<|bI<|bN<|aN ?_
            obtain rfl:=sy h28
            exact bH (rs':=[.cell 2 116]) r<|fA (us:=aR) (cs:=aR) lH r r r r<|bG<|aQ [] r r r (bO r ⟨r,r,r,r,r,r,r,r,r,trivial⟩) aF
           ·
            refine aK<|aT r (dG r r)<|sB r<|aH (fr':=[(2,.box 0 0),(3,aI),(34,aB)]) r r<|cV h28 r (fun hb30 h30=>?_) (fun hb30 h30=>?_)
            ·
             refine aK<|aT r (iA (c0:=aR) (cs:=aR) xP r (eA (v:=aB) (us:=[_]) (cs':=u9) r r r r r r (eA (v:=aB) (us:=[_]) (cs':=u9) r r r r r r (eA (v:=aB) (us:=[_]) (cs':=u9) r r r r r r (eA (v:=aB) (us:=[_]) (cs':=u9) r r r r r r hZ)))))<|bU (v:=.agg aR) (us:=aR) (cs:=aR) (σ':=[aR]) r lH r r r r r r r r<|aH (fr':=[(2,.box 0 0)]) r r<|bI<|bN<|aN ?_
             obtain rfl:=sy h30
             exact bH (rs':=[.cell 2 116]) r<|fA (us:=aR) (cs:=aR) lH r r r r<|bG<|aQ [] r r r (bO r ⟨r,r,r,r,r,r,r,r,r,trivial⟩) aF
            ·
             refine aK<|aT r (dG r r)<|sB r<|aH (fr':=[(2,.box 0 0),(3,aI),(37,aB)]) r r<|cV h30 r (fun hb32 h32=>?_) (fun hb32 h32=>?_)
             ·
              refine aK<|aT r (iA (c0:=aR) (cs:=aR) xP r (eA (v:=aB) (us:=[_]) (cs':=u9) r r r r r r (eA (v:=aB) (us:=[_]) (cs':=u9) r r r r r r (eA (v:=aB) (us:=[_]) (cs':=u9) r r r r r r (eA (v:=aB) (us:=[_]) (cs':=u9) r r r r r r (eA (v:=aB) (us:=[_]) (cs':=u9) r r r r r r hZ))))))<|bU (v:=.agg aR) (us:=aR) (cs:=aR) (σ':=[aR]) r lH r r r r r r r r<|aH (fr':=[(2,.box 0 0)]) r r<|bI<|bN<|aN ?_
              obtain rfl:=sy h32
              exact bH (rs':=[.cell 2 116]) r<|fA (us:=aR) (cs:=aR) lH r r r r<|bG<|aQ [] r r r (bO r ⟨r,r,r,r,r,r,r,r,r,trivial⟩) aF
             ·
              refine aK<|aT r (dG r r)<|sB r<|aH (fr':=[(2,.box 0 0),(3,aI),(40,aB)]) r r<|cV h32 r (fun hb34 h34=>?_) (fun hb34 h34=>?_)
              ·
               refine aK<|aT r (iA (c0:=aR) (cs:=aR) xP r (eA (v:=aB) (us:=[_]) (cs':=u9) r r r r r r (eA (v:=aB) (us:=[_]) (cs':=u9) r r r r r r (eA (v:=aB) (us:=[_]) (cs':=u9) r r r r r r hZ))))<|bU (v:=.agg aR) (us:=aR) (cs:=aR) (σ':=[aR]) r lH r r r r r r r r<|aH (fr':=[(2,.box 0 0)]) r r<|bI<|bN<|aN ?_
               obtain rfl:=sy h34
               exact bH (rs':=[.cell 2 116]) r<|fA (us:=aR) (cs:=aR) lH r r r r<|bG<|aQ [] r r r (bO r ⟨r,r,r,r,r,r,r,r,r,trivial⟩) aF
              ·
               refine aK<|aT r (dG r r)<|sB r<|aH (fr':=[(2,.box 0 0),(43,aB)]) r r<|cV h34 r (fun hb36 h36=>?_) (fun hb36 h36=>?_)
               ·
                refine aK<|aT r (iA (c0:=aR) (cs:=aR) xP r (eA (v:=aB) (us:=[_]) (cs':=u9) r r r r r r hZ))<|bU (v:=.agg aR) (us:=aR) (cs:=aR) (σ':=[aR]) r lH r r r r r r r r<|aH (fr':=[(2,.box 0 0)]) r r<|bI<|bN<|aN ?_
                obtain rfl:=sy h36
                exact bH (rs':=[.cell 2 116]) r<|fA (us:=aR) (cs:=aR) lH r r r r<|bG<|aQ [] r r r (bO r ⟨r,r,r,r,r,r,r,r,r,trivial⟩) aF
               ·
                refine bJ<|dH<|cM<|aK<|aT r (iA (c0:=aR) (cs:=aR) xP r hZ)<|bU (v:=.agg aR) (us:=aR) (cs:=aR) (σ':=[aR]) r lH r r r r r r r r<|aH (fr':=[(2,.box 0 0)]) r r<|bI ?_
                obtain rfl:=sy h36
                exact bH (rs':=[.cell 2 116]) r<|fA (us:=aR) (cs:=aR) lH r r r r<|bG<|aQ [] r r r (bO r ⟨r,r,r,r,r,r,r,r,r,trivial⟩) aF
noncomputable def rY (p0q:aY) (p1u:eL):Option Bool :=
 (gd (((cond (cond (cond (cond (cond (cond p1u.id_ true (decide (p0q.ID=([]:List UInt8)))) (cond p1u.name_ true (decide (p0q.Name=([]:List UInt8)))) false) (cond p1u.token_ true (decide (p0q.Token=(0:Int)))) false) (cond p1u.event_ true (decide (p0q.Event=(0:Int)))) false) (cond p1u.seq_ true (decide (p0q.Seq=(0:Int)))) false) (cond p1u.n_ true (decide (p0q.N=(0:Int)))) false)==true)&&(p1u.data_==false)) (aAh p0q.Data (aC.mk (0:Int) (0:Int) ([]:List UInt8) ([]:(List aC)) ([]:(List (List UInt8)))))).bind fun x1=>(gd ((cond (cond (cond (cond (cond (cond (cond (cond (cond p1u.id_ true (decide (p0q.ID=([]:List UInt8)))) (cond p1u.name_ true (decide (p0q.Name=([]:List UInt8)))) false) (cond p1u.token_ true (decide (p0q.Token=(0:Int)))) false) (cond p1u.event_ true (decide (p0q.Event=(0:Int)))) false) (cond p1u.seq_ true (decide (p0q.Seq=(0:Int)))) false) (cond p1u.n_ true (decide (p0q.N=(0:Int)))) false) (cond p1u.data_ true x1) false) (cond p1u.commands_ true (decide (((p0q.Commands).length:Int)=(0:Int)))) false) (cond p1u.parent_ true (decide (p0q.Parent=([]:List UInt8)))) false)==true) (jN p0q.Opts (bL.mk ([]:List UInt8) (0:Int) (0:Int) (0:Int) (0:Int) (0:Int) (0:Int) (0:Int) (0:Int) ([]:(List (List UInt8)))))).bind fun x3=>some (cond (cond (cond (cond (cond (cond (cond (cond (cond (cond p1u.id_ true (decide (p0q.ID=([]:List UInt8)))) (cond p1u.name_ true (decide (p0q.Name=([]:List UInt8)))) false) (cond p1u.token_ true (decide (p0q.Token=(0:Int)))) false) (cond p1u.event_ true (decide (p0q.Event=(0:Int)))) false) (cond p1u.seq_ true (decide (p0q.Seq=(0:Int)))) false) (cond p1u.n_ true (decide (p0q.N=(0:Int)))) false) (cond p1u.data_ true x1) false) (cond p1u.commands_ true (decide (((p0q.Commands).length:Int)=(0:Int)))) false) (cond p1u.parent_ true (decide (p0q.Parent=([]:List UInt8)))) false) x3 false)
theorem aGj {p0q:aY}{p1u:eL}{res:Bool} (h:rY p0q p1u=some res):cC Tryz.prog 99 [.agg (AV.cs (fX p0q)),.agg (AV.cs (wP p1u))] [] (.c (.bool res)) []:=by
 unfold rY at h
 refine cY (fn:=Tryz.f99) [0,1,2,3,4] (by kernel_rfl) Tryz.func99 r (by kernel_rfl) (by kernel_rfl)<|aK<|iH (v:=.agg aE) (n:=0) (cs:=aE) (σ':=[aE]) r r r r r<|iH (v:=.agg aR) (n:=1) (cs:=aR) (σ':=[aE,aR]) r r r r r<|sB r<|aH (fr':=[(2,.box 0 0),(3,.box 1 0)]) r r<|aK<|aT r (bD aLg r)<|aT r (aJ (v:=aB) tv4 r r r)<|mB r<|og r r r (fun hc=>(bD aCj r)) ?_
 refine og r r r (fun hc=>(aJ (v:=aS) nE (gx r hc) r r))<|og r r r (fun hc=>(sX (gx r hc) r))<|aT r (cB r r r (fun e=>fW e))<|mB r<|og r r r (fun hc=>(bD aLh r))<|og r r r (fun hc=>(aJ (v:=aB) tv4 (gx r hc) r r))<|og r r r (fun hc=>(bA (v:=aB) (gx r hc)))<|eX r r (fun hc=>fJ r (bD yC r))<|eX r r (fun hc=>fJ r (aJ (v:=aS) nE (gx r hc) r r))<|eX r r (fun hc=>fJ r (sX (gx r hc) r))<|og r r r (fun hc=>(cB (gx r hc) r r (fun e=>rF hc (fW e))))<|aT r (cE r r r (fun e=>fW e))<|mB r ?_
 refine og r r r (fun hc=>(bD aLi r))<|og r r r (fun hc=>(aJ (v:=aB) tv4 (gx r hc) r r))<|og r r r (fun hc=>(bA (v:=aB) (gx r hc)))<|eX r r (fun hc=>fJ r (bD aDJ r))<|eX r r (fun hc=>fJ r (aJ (v:=aI) fY (gx r hc) r r))<|eX r r (fun hc=>fJ r (dG (gx r hc) r))<|og r r r (fun hc=>(cB (gx r hc) r r (fun e=>rF hc (fW e))))<|aT r (cE r r r (fun e=>fW e))<|mB r<|og r r r (fun hc=>(bD aLj r))<|og r r r (fun hc=>(aJ (v:=aB) tv4 (gx r hc) r r))<|og r r r (fun hc=>(bA (v:=aB) (gx r hc)))<|eX r r (fun hc=>fJ r (bD aDK r)) ?_
 refine eX r r (fun hc=>fJ r (aJ (v:=aI) fY (gx r hc) r r))<|eX r r (fun hc=>fJ r (dG (gx r hc) r))<|og r r r (fun hc=>(cB (gx r hc) r r (fun e=>rF hc (fW e))))<|aT r (cE r r r (fun e=>fW e))<|mB r<|og r r r (fun hc=>(bD aLk r))<|og r r r (fun hc=>(aJ (v:=aB) tv4 (gx r hc) r r))<|og r r r (fun hc=>(bA (v:=aB) (gx r hc)))<|eX r r (fun hc=>fJ r (bD aDL r))<|eX r r (fun hc=>fJ r (aJ (v:=aI) fY (gx r hc) r r))<|eX r r (fun hc=>fJ r (dG (gx r hc) r))<|og r r r (fun hc=>(cB (gx r hc) r r (fun e=>rF hc (fW e))))<|aT r (cE r r r (fun e=>fW e)) ?_
 refine mB r<|og r r r (fun hc=>(bD aOI r))<|og r r r (fun hc=>(aJ (v:=aB) tv4 (gx r hc) r r))<|og r r r (fun hc=>(bA (v:=aB) (gx r hc)))<|eX r r (fun hc=>fJ r (bD sC r))<|eX r r (fun hc=>fJ r (aJ (v:=aI) fY (gx r hc) r r))<|eX r r (fun hc=>fJ r (dG (gx r hc) r))<|og r r r (fun hc=>(cB (gx r hc) r r (fun e=>rF hc (fW e))))<|aT r (cE r r r (fun e=>fW e))<|mB r<|og r r r (fun hc=>(bD aOJ r))<|og r r r (fun hc=>(aJ (v:=aB) tv4 (gx r hc) r r))<|og r r r (fun hc=>(bA (v:=aB) (gx r hc))) ?_
 refine eX r r (fun hc=>fJ r (bD aBA r))<|eX r r (fun hc=>fJ r (dJ (us:=bQ) gV (gx r hc) r r r))<|eX r r (fun hc=>fJ r (jA (cs:=bK) aGG r)) ?_
 obtain ⟨x1,hx1,h2⟩:=aG h
 refine eX r r (fun hc=>bC (v:=aB) r (aC8 (dW hx1 hc)) ⟨(fK (gx r hc) (bO r ⟨r,r,r,r,r,trivial⟩)),(fK (gx r hc) (bO r ⟨r,r,r,⟨_,r⟩,⟨_,r⟩,trivial⟩)),trivial⟩ (gJ (by repeat (first | exact fF | refine aZ r ?_ | refine aZ (uH r) ?_ | refine aZ uG ?_))) r r) ?_
 refine og r r r (fun hc=>(cB (gx r hc) r r (fun e=>rF hc (fW e))))<|aT r (cE r r r (fun e=>fW e))<|mB r<|og r r r (fun hc=>(bD aOK r))<|og r r r (fun hc=>(aJ (v:=aB) tv4 (gx r hc) r r))<|og r r r (fun hc=>(bA (v:=aB) (gx r hc)))<|eX r r (fun hc=>fJ r (bD vL r))<|eX r r (fun hc=>fJ r (aJ (v:=aL) aH4 (gx r hc) r r))<|eX r r (fun hc=>fJ r (gN aGI (eO (gx r hc))))<|eX r r (fun hc=>fJ r (dG (gx r hc) r))<|og r r r (fun hc=>(cB (gx r hc) r r (fun e=>rF hc (fW e))))<|aT r (cE r r r (fun e=>fW e))<|mB r ?_
 refine og r r r (fun hc=>(bD aOL r))<|og r r r (fun hc=>(aJ (v:=aB) tv4 (gx r hc) r r))<|og r r r (fun hc=>(bA (v:=aB) (gx r hc)))<|eX r r (fun hc=>fJ r (bD aBB r))<|eX r r (fun hc=>fJ r (aJ (v:=aS) nE (gx r hc) r r))<|eX r r (fun hc=>fJ r (sX (gx r hc) r))<|og r r r (fun hc=>(cB (gx r hc) r r (fun e=>rF hc (fW e))))<|aT r (cE r r r (fun e=>fW e))<|mB r<|og r r r (fun hc=>(bD aH2 r))<|og r r r (fun hc=>(dJ (us:=cI) aBF (gx r hc) r r r))<|og r r r (fun hc=>(iA (c0:=bB) (cs:=bB) aP0 r hZ)) ?_
 obtain ⟨x3,hx3,h4⟩:=aG h2
 refine yS r r (fun hc=>bC (v:=aB) r (uD (dW hx3 hc)) ⟨(fK (gx r hc) (bO r ⟨r,r,r,r,r,r,r,r,r,r,trivial⟩)),(fK (gx r hc) (bO r ⟨r,r,r,r,r,r,r,r,r,⟨_,r⟩,trivial⟩)),trivial⟩ (gJ (by repeat (first | exact fF | refine aZ r ?_ | refine aZ (uH r) ?_ | refine aZ uG ?_))) r r) ?_
 refine aT r (cE r r r (fun e=>fW e))<|sB r<|aH (fr':=[(4,aB)]) r r<|bI ?_
 obtain rfl:=sy h4
 exact bH (rs':=[.tmp 4]) r<|bP (v:=aB) r<|bG<|aQ [] r r r lr aF
end Go.Proofs.YtnigjppddilpcaaGreatDoor
