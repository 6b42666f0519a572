import Derived.Test.YtnigjppddilpcaaGreatDoorGETy
import Derived.Test.YtnigjppddilpcaaGreatDoorGEF0
import Derived.Test.YtnigjppddilpcaaGreatDoorGEF1
import Derived.Test.YtnigjppddilpcaaGreatDoorGEF2
import Derived.Test.YtnigjppddilpcaaGreatDoorGEF3
import Derived.Test.YtnigjppddilpcaaGreatDoorGEF4
import Derived.Test.YtnigjppddilpcaaGreatDoorGEF6
import Derived.Test.YtnigjppddilpcaaGreatDoorGEF10
import Derived.Test.YtnigjppddilpcaaGreatDoorGEF12
namespace Go.Proofs.YtnigjppddilpcaaGreatDoor
open Go Abs
set_option maxRecDepth 100000
set_option linter.unusedVariables false
set_option linter.unusedSimpArgs false
noncomputable def oM (p0n:Int) (nL:Int) (kW:Int):Option Bool :=
 some (cond (decide (nL≤p0n)) (decide (p0n≤kW)) false)
theorem pK {p0n:Int}{nL:Int}{kW:Int}{z:Bool} (h:oM p0n nL kW=some z):cQ Tryz.prog 98 [ci p0n,ci nL,ci kW] [] (.c (.bool z)) []:=by
 unfold oM at h
 refine dF (fn:=Tryz.f98) [0,1,2,6] (by kernel_rfl) Tryz.func98 r (by kernel_rfl) (by kernel_rfl)<|aH<|sB r<|aG (fr':=[(0,aI),(1,aI),(2,aI)]) r r<|aH<|mI r<|mI r<|aR r (oI r r)<|mB r<|og r r r (fun u=>(bN (v:=aI) r))<|og r r r (fun u=>(bN (v:=aI) r))<|og r r r (fun u=>(nM (gx r u) (gx r u)))<|aR r (bV r r r (fun e=>fJ e))<|sB r<|aG (fr':=[(6,aB)]) r r<|bK ?_
 obtain rfl:=sy h
 exact bJ (rs':=[.tmp 6]) r<|bS (v:=aB) r<|bI<|aN [] r r r lr aD
noncomputable def aDs (p0s:(List UInt8)) (s4:Int):Option (dU Int (Fl Bool Unit)) :=
 cond (decide (s4<((p0s).length:Int))) ((nG p0s s4).bind fun x6=>(gd ((decide (((x6).toNat:Int)<33))==false) (nG p0s s4)).bind fun x8=>(gd ((cond (decide (((x6).toNat:Int)<33)) true (decide (126<((x8).toNat:Int))))==false) (nG p0s s4)).bind fun x10=>(gd ((cond (cond (decide (((x6).toNat:Int)<33)) true (decide (126<((x8).toNat:Int)))) true (decide (((x10).toNat:Int)=47)))==false) (nG p0s s4)).bind fun x12=>cond (cond (cond (cond (decide (((x6).toNat:Int)<33)) true (decide (126<((x8).toNat:Int)))) true (decide (((x10).toNat:Int)=47))) true (decide (((x12).toNat:Int)=34))) (some (dU.out (Fl.done false))) (some (dU.next (IntKind.wrap .i64 (s4+1))))) (some (dU.out (Fl.go ())))
noncomputable def uO (p0s:(List UInt8)):Option Bool :=
 (fK (aDs p0s) (0)).bind fun x1=>Fl.next x1 (fun j3=>((oM ((p0s).length:Int) 1 64).bind fun x20=>some x20))
theorem aBX {p0s:(List UInt8)}{z:Bool} (h:uO p0s=some z):cQ Tryz.prog 101 [.c (.str p0s)] [] (.c (.bool z)) []:=by
 unfold uO at h
 refine dF (fn:=Tryz.f101) [0,2,3,5,6,7,30] (by kernel_rfl) Tryz.func101 r (by kernel_rfl) (by kernel_rfl)<|aH<|sB r<|aG (fr':=[(0,aS)]) r r<|aZ<|aH<|mS r<|aR r (kT uU r)<|mI r<|aG (fr':=[(0,aS),(5,aI),(6,aI)]) r r<|bx h fun x1 y1 h2=>gZ lB (fun j3=>x1=Fl.go j3) (fun (j3:Unit)=>([(0,.c (.str p0s))]:Fr)) (fun (j3:Unit)=>([]:St)) ?_ ?_
 ·
  refine cH<|gV _ (fun (s4:Int)=>([(0,.c (.str p0s)),(5,ci ((p0s).length:Int)),(6,ci s4)]:Fr)) (fun (s4:Int)=>([]:St)) y1 (bC [] 0 r r r r kA aD) ?_
  intro s4 st4 hs4 ho4
  unfold aDs at hs4
  refine aH<|aR r (gI r r)<|aG (fr':=[(0,aS),(5,aI),(6,aI),(7,aB)]) r r<|aZ<|cG hs4 r (fun b5 h5=>?_) (fun b5 h5=>?_)
  ·
   refine bF<|cZ<|aZ<|cH<|aH<|mI r<|sI r<|aG (fr':=[(0,aS),(3,aI),(5,aI),(6,aI)]) r r<|aH<|mS r<|mI r<|bx h5 fun x6 y6 h7=>aR r (aAx uU r r y6)<|aR r (gI r r)<|mB r<|og r r r (fun u=>(bN (v:=aS) r))<|og r r r (fun u=>(bN (v:=aI) r))<|bx h7 fun x8 y8 h9=>og r r r (fun u=>(aAx uU (gx r u) (gx r u) (cU y8 u)))<|og r r r (fun u=>(qW (gx r u) r))<|aR r (cN r r r (fun e=>fJ e))<|mB r<|og r r r (fun u=>(bN (v:=aS) r))<|og r r r (fun u=>(bN (v:=aI) r))<|bx h9 fun x10 y10 h11=>og r r r (fun u=>(aAx uU (gx r u) (gx r u) (cU y10 u)))<|og r r r (fun u=>(bU (gx r u) r))<|aR r (cN r r r (fun e=>fJ e))<|mB r<|og r r r (fun u=>(bN (v:=aS) r))<|og r r r (fun u=>(bN (v:=aI) r))<|bx h11 fun x12 y12 h13=>og r r r (fun u=>(aAx uU (gx r u) (gx r u) (cU y12 u)))<|og r r r (fun u=>(bU (gx r u) r))<|aR r (cN r r r (fun e=>fJ e))<|aG (fr':=[(0,aS),(5,aI),(6,aI),(30,aB)]) r r<|cG h13 r (fun b14 h14=>?_) (fun b14 h14=>?_)
   ·
    refine aH<|sB r<|aG (fr':=[(2,aB)]) r r<|bK<|bO<|aP<|aP<|bO<|aP<|aP ?_
    have h15:=eR h14 ho4
    have h16:=fL h15 h2
    obtain rfl:=sy h16
    exact bJ (rs':=[.tmp 2]) r<|bS (v:=aB) r<|bI<|aN [] r r r lr aD
   ·
    exact bF<|cW<|cZ<|bB<|aR r (gC r r)<|mI r<|dM (fr':=[(0,aS),(5,aI),(6,aI),(30,aB)]) r<|zO _ (sy h14) (bC [] 0 r r r r kA aD)
  ·
   refine hG<|cY<|cY<|fP ?_
   have h18:=eR h5 ho4
   exact iQ _ (sy h18) (bC [] 0 r r r r ⟨lr,trivial⟩ aD)
 ·
  intro j3 hj19
  have h19:=lV hj19 h2
  refine cZ<|aH<|mS r<|aR r (kT uU r)<|bx h19 fun x20 y20 h21=>lS (bL (v:=aB) r (pK y20) kA r r r)<|sB r<|aG (fr':=[(2,aB)]) r r<|bK ?_
  obtain rfl:=sy h21
  exact bJ (rs':=[.tmp 2]) r<|bS (v:=aB) r<|bI<|aN [] r r r lr aD
noncomputable def yB (p0s:(List UInt8)):Option Bool :=
 (aAj p0s).bind fun x1=>some (cond (decide (p0s=([]:List UInt8))) true x1.2)
theorem aDg {p0s:(List UInt8)}{z:Bool} (h:yB p0s=some z):cQ Tryz.prog 102 [.c (.str p0s)] [] (.c (.bool z)) []:=by
 unfold yB at h
 refine dF (fn:=Tryz.f102) [0,2,4] (by kernel_rfl) Tryz.func102 r (by kernel_rfl) (by kernel_rfl)<|aH<|sB r<|aG (fr':=[(0,aS)]) r r<|aH<|mS r<|bx h fun x1 y1 h2=>lS (bL (v:=.tup [aI,aB]) r (aFG y1) ⟨lr,trivial⟩ r r r)<|mV (v:=.tup [aI,aB]) r<|aR r (xJ (v:=aI) r r)<|aR r (xJ (v:=aB) r r)<|sI r<|sB r<|aG (fr':=[(0,aS),(4,aB)]) r r<|aH<|mS r<|aR r (qX r r)<|mB r<|og r r r (fun u=>(bN (v:=aB) r))<|aR r (cN r r r (fun e=>fJ e))<|sB r<|aG (fr':=[(2,aB)]) r r<|bK ?_
 obtain rfl:=sy h2
 exact bJ (rs':=[.tmp 2]) r<|bS (v:=aB) r<|bI<|aN [] r r r lr aD
noncomputable def xG (p0C:(List UInt8)) (p1o:(List UInt8)):Option Int :=
 match p1o with
 | [c]=>some (Lib.indexByte p0C c)
 | _=>none
theorem aFo {p0C:(List UInt8)}{p1o:(List UInt8)}{z:Int} (h:xG p0C p1o=some z):cQ Tryz.prog 224 [.c (.str p0C),.c (.str p1o)] [] (ci z) []:=by
 unfold xG at h
 split at h
 ·
  rename_i c
  cases h
  refine aFK (by kernel_rfl) fun g w vs hv hI hg=>?_
  rw [aOP hv]
  refine (Tryz.stringslite_Index_one ⟨p0C.toArray⟩ c w).mono fun e w'=>?_
  rintro ⟨rfl,rfl⟩
  exact ⟨_,r,RowKit.Below.refl _ _,fun g'=>.c (.int _ _)⟩
 ·
  cases h
noncomputable def zX (p0s:(List UInt8)) (aEI:(List UInt8)):Option ((List UInt8) × (List UInt8) × Bool) :=
 (xG p0s aEI).bind fun x1=>cond (decide (0≤x1)) ((aPX p0s x1).bind fun x4=>(aM3 p0s (IntKind.wrap .i64 (x1+((aEI).length:Int)))).bind fun x6=>some ((List.take (Int.toNat x1) p0s),(List.drop (Int.toNat (IntKind.wrap .i64 (x1+((aEI).length:Int)))) p0s),true)) (some (p0s,([]:List UInt8),false))
theorem aG0 {p0s:(List UInt8)}{aEI:(List UInt8)}{z:((List UInt8) × (List UInt8) × Bool)} (h:zX p0s aEI=some z):cQ Tryz.prog 214 [.c (.str p0s),.c (.str aEI)] [] (.tup [.c (.str z.1),.c (.str z.2.1),.c (.bool z.2.2)]) []:=by
 unfold zX at h
 refine dF (fn:=Tryz.f214) [0,1,4,5,6,7,12] (by kernel_rfl) Tryz.func214 r (by kernel_rfl) (by kernel_rfl)<|aH<|sS r<|sS r<|sB r<|aG (fr':=[(0,aS),(1,aS)]) r r<|aZ<|aH<|mS r<|mS r<|bx h fun x1 y1 h2=>lS (bL (v:=aI) r (aFo y1) jN r r r)<|sI r<|aG (fr':=[(0,aS),(1,aS),(7,aI)]) r r<|aH<|mI r<|aR r (oI r r)<|aG (fr':=[(0,aS),(1,aS),(7,aI),(12,aB)]) r r<|cG h2 r (fun b3 h3=>?_) (fun b3 h3=>?_)
 ·
  refine aZ<|kV [.q 0,.q 1,.q 2,.q 3,.q 4,.q 5,.q 6,.q 7,.q 8,.n 9 [3,4,5,6,7,8],.n 10 [],.n 11 []] [(some 13,[0]),(some 14,[7]),(some 15,[13,14]),(some 16,[0]),(some 17,[7]),(some 18,[1]),(some 19,[18]),(some 20,[17,19]),(some 21,[16,20]),(some 4,[15]),(some 5,[21]),(some 6,[])] [0,0,3,0,0,0,32,112,248,7,1023,2047] (by kernel_rfl)<|dq r r (bN (v:=aS) r)<|dq r r (bN (v:=aI) r)<|bx h3 fun x4 y4 h5=>dq r r (aOO uU r r (aHt y4).1)<|dq r r (bN (v:=aS) r)<|dq r r (bN (v:=aI) r)<|dq r r (bN (v:=aS) r)<|dq r r (kT uU r)<|dq r r (gC r r)<|bx h5 fun x6 y6 h7=>dq r r (aID uU r r (aBg y6).1)<|d_n r ?_ r
  refine sS r<|uK<|⟨(pR (v:=aS) r r (kU r (bN (v:=aS) r)) (pR (v:=aI) r r (kU r (bN (v:=aI) r)) (pR (v:=aS) r r (kU r (bN (v:=aS) r)) (pR (v:=aI) r r (kU r (kT uU r)) (pR (v:=aI) r r (kU r (gC r r)) (pR (v:=aS) r r (kU r (aID uU r r (aBg y6).1)) lJ)))))),?_⟩
  refine d_n r ?_ r
  refine sS r<|uK<|⟨lJ,?_⟩
  refine d_n r ?_ r
  refine sB r<|uK<|⟨lJ,?_⟩
  refine aAq (fr':=[(4,aS),(5,aS),(6,aB)]) r r<|bK<|aP ?_
  obtain rfl:=sy h7
  exact bJ (rs':=[.tmp 4,.tmp 5,.tmp 6]) r<|bS (v:=aS) r<|bS (v:=aS) r<|bS (v:=aB) r<|bI<|aN [] r r r (mR r kA) aD
 ·
  refine bF<|cZ<|aH<|mS r<|sS r<|sS r<|sB r<|aG (fr':=[(4,aS),(5,aS),(6,aB)]) r r<|bK ?_
  obtain rfl:=sy h3
  exact bJ (rs':=[.tmp 4,.tmp 5,.tmp 6]) r<|bS (v:=aS) r<|bS (v:=aS) r<|bS (v:=aB) r<|bI<|aN [] r r r (mR r kA) aD
noncomputable def aBJ (p0s:(List UInt8)) (aEI:(List UInt8)):Option ((List UInt8) × (List UInt8) × Bool) :=
 (zX p0s aEI).bind fun x1=>some (x1.1,x1.2.1,x1.2.2)
theorem aKm {p0s:(List UInt8)}{aEI:(List UInt8)}{z:((List UInt8) × (List UInt8) × Bool)} (h:aBJ p0s aEI=some z):cQ Tryz.prog 197 [.c (.str p0s),.c (.str aEI)] [] (.tup [.c (.str z.1),.c (.str z.2.1),.c (.bool z.2.2)]) []:=by
 unfold aBJ at h
 refine dF (fn:=Tryz.f197) [0,1,4,5,6] (by kernel_rfl) Tryz.func197 r (by kernel_rfl) (by kernel_rfl)<|aH<|sS r<|sS r<|sB r<|aG (fr':=[(0,aS),(1,aS)]) r r<|aH<|mS r<|mS r<|bx h fun x1 y1 h2=>lS (bL (v:=.tup [aS,aS,aB]) r (aG0 y1) jN r r r)<|aR r (xJ (v:=aS) r r)<|aR r (xJ (v:=aS) r r)<|aR r (xJ (v:=aB) r r)<|sS r<|sS r<|sB r<|aG (fr':=[(4,aS),(5,aS),(6,aB)]) r r<|bK ?_
 obtain rfl:=sy h2
 exact bJ (rs':=[.tmp 4,.tmp 5,.tmp 6]) r<|bS (v:=aS) r<|bS (v:=aS) r<|bS (v:=aB) r<|bI<|aN [] r r r (mR r kA) aD
noncomputable def yS (p0s:(List UInt8)) (aGv:(List UInt8)):Option Bool :=
 match aGv with
 | [c]=>some (decide (0≤Lib.indexByte p0s c))
 | _=>none
theorem aF8 {p0s:(List UInt8)}{aGv:(List UInt8)}{z:Bool} (h:yS p0s aGv=some z):cQ Tryz.prog 198 [.c (.str p0s),.c (.str aGv)] [] (.c (.bool z)) []:=by
 unfold yS at h
 split at h
 ·
  rename_i c
  cases h
  refine aFK (by kernel_rfl) fun g w vs hv hI hg=>?_
  rw [aOP hv]
  refine (Tryz.strings_Contains_one ⟨p0s.toArray⟩ c w).mono fun e w'=>?_
  rintro ⟨rfl,rfl⟩
  exact ⟨_,r,RowKit.Below.refl _ _,fun g'=>.c (.bool _)⟩
 ·
  cases h
noncomputable def aCs (aAv:(List UInt8)):Option ((List UInt8) × (List UInt8) × Bool) :=
 (aBJ aAv ([47]:List UInt8)).bind fun x1=>(gd ((!x1.2.2)==false) (yS x1.2.1 ([47]:List UInt8))).bind fun x3=>cond (cond (!x1.2.2) true x3) (some (([]:List UInt8),([]:List UInt8),false)) (some (x1.1,x1.2.1,true))
theorem aLK {aAv:(List UInt8)}{z:((List UInt8) × (List UInt8) × Bool)} (h:aCs aAv=some z):cQ Tryz.prog 162 [.c (.str aAv)] [] (.tup [.c (.str z.1),.c (.str z.2.1),.c (.bool z.2.2)]) []:=by
 unfold aCs at h
 refine dF (fn:=Tryz.f162) [0,2,3,4,5,6,7,19] (by kernel_rfl) Tryz.func162 r (by kernel_rfl) (by kernel_rfl)<|aH<|sS r<|sS r<|sB r<|aG (fr':=[(0,aS)]) r r<|aH<|mS r<|bx h fun x1 y1 h2=>lS (bL (v:=.tup [aS,aS,aB]) r (aKm y1) jN r r r)<|mV (v:=.tup [aS,aS,aB]) r<|aR r (xJ (v:=aS) r r)<|aR r (xJ (v:=aS) r r)<|aR r (xJ (v:=aB) r r)<|sS r<|sS r<|sB r<|aG (fr':=[(5,aS),(6,aS),(7,aB)]) r r<|aZ<|aH<|mB r<|aR r (fE r)<|mB r<|og r r r (fun u=>(bN (v:=aS) r))<|bx h2 fun x3 y3 h4=>sX r r (fun u=>bL (v:=aB) r (aF8 (cU y3 u)) ⟨(eW (gx r u) lr),lr,trivial⟩ (fT (by repeat (first | exact eN | refine aY r ?_ | refine aY (pP r) ?_ | refine aY pO ?_))) r r) ?_
 refine aR r (cN r r r (fun e=>fJ e))<|aG (fr':=[(5,aS),(6,aS),(19,aB)]) r r<|cG h4 r (fun b5 h5=>?_) (fun b5 h5=>?_)
 ·
  refine aH<|sS r<|sS r<|sB r<|aG (fr':=[(2,aS),(3,aS),(4,aB)]) r r<|bK<|aP ?_
  obtain rfl:=sy h5
  exact bJ (rs':=[.tmp 2,.tmp 3,.tmp 4]) r<|bS (v:=aS) r<|bS (v:=aS) r<|bS (v:=aB) r<|bI<|aN [] r r r (mR r kA) aD
 ·
  refine bF<|cZ<|aH<|mS r<|mS r<|sS r<|sS r<|sB r<|aG (fr':=[(2,aS),(3,aS),(4,aB)]) r r<|bK ?_
  obtain rfl:=sy h5
  exact bJ (rs':=[.tmp 2,.tmp 3,.tmp 4]) r<|bS (v:=aS) r<|bS (v:=aS) r<|bS (v:=aB) r<|bI<|aN [] r r r (mR r kA) aD
noncomputable def yA (p0s:(List UInt8)):Option Bool :=
 (aCs p0s).bind fun x1=>some (cond (decide (p0s=([]:List UInt8))) true (cond x1.2.2 (decide (((p0s).length:Int)≤4096)) false))
theorem aHH {p0s:(List UInt8)}{z:Bool} (h:yA p0s=some z):cQ Tryz.prog 103 [.c (.str p0s)] [] (.c (.bool z)) []:=by
 unfold yA at h
 refine dF (fn:=Tryz.f103) [0,2,5] (by kernel_rfl) Tryz.func103 r (by kernel_rfl) (by kernel_rfl)<|aH<|sB r<|aG (fr':=[(0,aS)]) r r<|aH<|mS r<|bx h fun x1 y1 h2=>lS (bL (v:=.tup [aS,aS,aB]) r (aLK y1) ⟨lr,trivial⟩ r r r)<|mV (v:=.tup [aS,aS,aB]) r<|aR r (xJ (v:=aS) r r)<|aR r (xJ (v:=aS) r r)<|aR r (xJ (v:=aB) r r)<|sS r<|sS r<|sB r<|aG (fr':=[(0,aS),(5,aB)]) r r<|aH<|mS r<|aR r (qX r r)<|mB r<|og r r r (fun u=>(bN (v:=aB) r))<|og r r r (fun u=>(bN (v:=aB) (gx r u)))<|fD r r (fun u=>fS r (bN (v:=aS) r))<|fD r r (fun u=>fS r (kT uU (gx r u)))<|fD r r (fun u=>fS r (nM (gx r u) r))<|og r r r (fun u=>(bV (gx r u) r r (fun e=>pX u (fJ e))))<|aR r (cN r r r (fun e=>fJ e))<|sB r<|aG (fr':=[(2,aB)]) r r<|bK ?_
 obtain rfl:=sy h2
 exact bJ (rs':=[.tmp 2]) r<|bS (v:=aB) r<|bI<|aN [] r r r lr aD
noncomputable def zW (p0c:bY):Option Bool :=
 (sH p0c).bind fun x1=>some (!x1)
theorem aGZ {p0c:bY}{z:Bool} (h:zW p0c=some z):cQ Tryz.prog 105 [.agg (AV.cs (dK p0c))] [] (.c (.bool z)) []:=by
 unfold zW at h
 refine dF (fn:=Tryz.f105) [0,1,2] (by kernel_rfl) Tryz.func105 r (by kernel_rfl) (by kernel_rfl)<|aH<|jK (v:=.agg aW) (n:=0) (cs:=aW) (σ':=[aW]) r r r r r<|sB r<|aG (fr':=[(1,aE)]) r r<|aH<|aR r (dL (us:=aW) rB r r r r)<|bx h fun x1 y1 h2=>lS (bL (v:=aB) r (zZ y1) ⟨(bQ r aDF),trivial⟩ r r r)<|aR r (fE r)<|sB r<|aG (fr':=[(2,aB)]) r r<|bK ?_
 obtain rfl:=sy h2
 exact bJ (rs':=[.tmp 2]) r<|bS (v:=aB) r<|bI<|aN [] r r r lr aD
noncomputable def gE (p0s:(List bY)) (s4:Int):Option (dU Int (Fl Int Unit)) :=
 cond (decide (s4<((p0s).length:Int))) ((nG p0s s4).bind fun x6=>(zW x6).bind fun x8=>cond x8 (some (dU.out (Fl.done s4))) (some (dU.next (IntKind.wrap .i64 (s4+1))))) (some (dU.out (Fl.go ())))
noncomputable def iL (p0s:(List bY)):Option Int :=
 (fK (gE p0s) (0)).bind fun x1=>Fl.next x1 (fun j3=>(some (-1)))
theorem qJ {p0s:(List bY)}{z:Int} (h:iL p0s=some z):cQ Tryz.prog 163 [.c (PV.ls 20 dK p0s),.fn 105 []] [] (ci z) []:=by
 unfold iL at h
 refine dF (fn:=Tryz.f163) [0,1,4,5,7,8,9,16] (by kernel_rfl) Tryz.func163 r (by kernel_rfl) (by kernel_rfl)<|aH<|sI r<|aG (fr':=[(0,aL),(1,.fn _ [])]) r r<|aZ<|aH<|mL r<|aR r (hZ aId (eK r))<|mI r<|aG (fr':=[(0,aL),(1,.fn _ []),(7,aI),(8,aI)]) r r<|bx h fun x1 y1 h2=>gZ lB (fun j3=>x1=Fl.go j3) (fun (j3:Unit)=>([]:Fr)) (fun (j3:Unit)=>([]:St)) ?_ ?_
 ·
  refine cH<|gV _ (fun (s4:Int)=>([(0,.c (PV.ls 20 dK p0s)),(1,.fn 105 []),(7,ci ((p0s).length:Int)),(8,ci s4)]:Fr)) (fun (s4:Int)=>([]:St)) y1 (bC [] 0 r r r r kL4 aD) ?_
  intro s4 st4 hs4 ho4
  unfold gE at hs4
  refine aH<|aR r (gI r r)<|aG (fr':=[(0,aL),(1,.fn _ []),(7,aI),(8,aI),(9,aB)]) r r<|aZ<|cG hs4 r (fun b5 h5=>?_) (fun b5 h5=>?_)
  ·
   refine bF<|cZ<|aZ<|cH<|aH<|mI r<|sI r<|aG (fr':=[(0,aL),(1,.fn _ []),(5,aI),(7,aI),(8,aI)]) r r<|aH<|mV (v:=.fn _ []) r<|mL r<|mI r<|bx h5 fun x6 y6 h7=>aR r (lF (cs:=[PV.int _ _,PV.int _ _,PV.str _,PV.str _,PV.int _ _,PV.int _ _,PV.int _ _,PV.str _,PV.ls _ _ _,PV.ls _ _ _,PV.str _,PV.int _ _,PV.int _ _,PV.int _ _,PV.int _ _,PV.int _ _,PV.int _ _,PV.int _ _,PV.int _ _,PV.ls _ _ _]) aLF (eK r) r y6 r)<|aR r (lT (us:=[PV.int _ _,PV.int _ _,PV.str _,PV.str _,PV.int _ _,PV.int _ _,PV.int _ _,PV.str _,PV.ls _ _ _,PV.ls _ _ _,PV.str _,PV.int _ _,PV.int _ _,PV.int _ _,PV.int _ _,PV.int _ _,PV.int _ _,PV.int _ _,PV.int _ _,PV.ls _ _ _]) rB r r r)<|bx h7 fun x8 y8 h9=>lS (bL (v:=aB) r (aGZ y8) ⟨(bQ r aDF),trivial⟩ r r r)<|aG (fr':=[(0,aL),(1,.fn _ []),(5,aI),(7,aI),(8,aI),(16,aB)]) r r<|cG h9 r (fun b10 h10=>?_) (fun b10 h10=>?_)
   ·
    refine aH<|mI r<|sI r<|aG (fr':=[(4,aI)]) r r<|bK<|bO<|aP<|aP<|bO<|aP<|aP ?_
    have h11:=eR h10 ho4
    have h12:=fL h11 h2
    obtain rfl:=sy h12
    exact bJ (rs':=[.tmp 4]) r<|bS (v:=aI) r<|bI<|aN [] r r r lr aD
   ·
    exact bF<|cW<|cZ<|bB<|aR r (gC r r)<|mI r<|dM (fr':=[(0,aL),(1,.fn _ []),(5,aI),(7,aI),(8,aI),(16,aB)]) r<|zO _ (sy h10) (bC [] 0 r r r r kL4 aD)
  ·
   refine hG<|cY<|cY<|fP ?_
   have h14:=eR h5 ho4
   exact iQ _ (sy h14) (bC [] 0 r r r r trivial aD)
 ·
  intro j3 hj15
  have h15:=lV hj15 h2
  refine cZ<|aH<|sI r<|aG (fr':=[(4,aI)]) r r<|bK ?_
  obtain rfl:=sy h15
  exact bJ (rs':=[.tmp 4]) r<|bS (v:=aI) r<|bI<|aN [] r r r lr aD
noncomputable def gD (p0s:(List bY)):Option Bool :=
 (iL p0s).bind fun x1=>some (decide (0≤x1))
theorem pS {p0s:(List bY)}{z:Bool} (h:gD p0s=some z):cQ Tryz.prog 104 [.c (PV.ls 20 dK p0s),.fn 105 []] [] (.c (.bool z)) []:=by
 unfold gD at h
 refine dF (fn:=Tryz.f104) [0,1,4] (by kernel_rfl) Tryz.func104 r (by kernel_rfl) (by kernel_rfl)<|aH<|sB r<|aG (fr':=[(0,aL),(1,.fn _ [])]) r r<|aH<|mL r<|mV (v:=.fn _ []) r<|bx h fun x1 y1 h2=>lS (bL (v:=aI) r (qJ y1) jN r r r)<|aR r (oI r r)<|sB r<|aG (fr':=[(4,aB)]) r r<|bK ?_
 obtain rfl:=sy h2
 exact bJ (rs':=[.tmp 4]) r<|bS (v:=aB) r<|bI<|aN [] r r r lr aD
noncomputable def xZ (p0q:dE):Option Bool :=
 cond (decide (p0q.Kind=1)) ((oM p0q.N 0 2).bind fun x2=>some x2) (cond (decide (p0q.Kind=8)) ((oM p0q.N 1 30).bind fun x6=>some x6) (cond (decide (p0q.Kind=9)) ((oM p0q.N 1 1000).bind fun x10=>some x10) (cond (decide (p0q.Kind=15)) (some (cond (cond (decide (p0q.N=20)) true (decide (p0q.N=21))) true (decide (p0q.N=22)))) (cond (decide (p0q.Kind=16)) (some (cond (decide (p0q.N=24)) true (decide (p0q.N=25)))) (cond (decide (p0q.Kind=17)) (some (decide (1≤p0q.N))) (some true))))))
theorem aHG {p0q:dE}{z:Bool} (h:xZ p0q=some z):cQ Tryz.prog 107 [.agg (AV.cs (nF p0q))] [] (.c (.bool z)) []:=by
 unfold xZ at h
 refine dF (fn:=Tryz.f107) [0,1,2,4,5,10,15,20,35,45] (by kernel_rfl) Tryz.func107 r (by kernel_rfl) (by kernel_rfl)<|aH<|jK (v:=.agg aF) (n:=0) (cs:=aF) (σ':=[aF]) r r r r r<|sB r<|aG (fr':=[(1,aE)]) r r<|aZ<|aH<|aR r (bD tA r)<|aR r (aK (v:=aI) fM r r r)<|aG (fr':=[(1,aE),(4,aI)]) r r<|cH<|aH<|aR r (bU r r)<|sB r<|aG (fr':=[(1,aE),(4,aI),(5,aB)]) r r<|cG h r (fun b1 h1=>?_) (fun b1 h1=>?_)
 ·
  refine aH<|aR r (bD tB r)<|aR r (aK (v:=aI) fM r r r)<|bx h1 fun x2 y2 h3=>lS (bL (v:=aB) r (pK y2) kA r r r)<|sB r<|aG (fr':=[(2,aB)]) r r<|bK<|bO<|aP ?_
  obtain rfl:=sy h3
  exact bJ (rs':=[.tmp 2]) r<|bS (v:=aB) r<|bI<|aN [] r r r lr aD
 ·
  refine aH<|aR r (bU r r)<|sB r<|aG (fr':=[(1,aE),(4,aI),(10,aB)]) r r<|cG h1 r (fun b5 h5=>?_) (fun b5 h5=>?_)
  ·
   refine aH<|aR r (bD tB r)<|aR r (aK (v:=aI) fM r r r)<|bx h5 fun x6 y6 h7=>lS (bL (v:=aB) r (pK y6) kA r r r)<|sB r<|aG (fr':=[(2,aB)]) r r<|bK<|bO<|aP ?_
   obtain rfl:=sy h7
   exact bJ (rs':=[.tmp 2]) r<|bS (v:=aB) r<|bI<|aN [] r r r lr aD
  ·
   refine aH<|aR r (bU r r)<|sB r<|aG (fr':=[(1,aE),(4,aI),(15,aB)]) r r<|cG h5 r (fun b9 h9=>?_) (fun b9 h9=>?_)
   ·
    refine aH<|aR r (bD tB r)<|aR r (aK (v:=aI) fM r r r)<|bx h9 fun x10 y10 h11=>lS (bL (v:=aB) r (pK y10) kA r r r)<|sB r<|aG (fr':=[(2,aB)]) r r<|bK<|bO<|aP ?_
    obtain rfl:=sy h11
    exact bJ (rs':=[.tmp 2]) r<|bS (v:=aB) r<|bI<|aN [] r r r lr aD
   ·
    refine aH<|aR r (bU r r)<|sB r<|aG (fr':=[(1,aE),(4,aI),(20,aB)]) r r<|cG h9 r (fun b13 h13=>?_) (fun b13 h13=>?_)
    ·
     refine aH<|aR r (bD tB r)<|aR r (aK (v:=aI) fM r r r)<|aR r (bU r r)<|mB r<|og r r r (fun u=>(bD tB r))<|og r r r (fun u=>(aK (v:=aI) fM (gx r u) r r))<|og r r r (fun u=>(bU (gx r u) r))<|aR r (cN r r r (fun e=>fJ e))<|mB r<|og r r r (fun u=>(bD tB r))<|og r r r (fun u=>(aK (v:=aI) fM (gx r u) r r))<|og r r r (fun u=>(bU (gx r u) r))<|aR r (cN r r r (fun e=>fJ e))<|sB r<|aG (fr':=[(2,aB)]) r r<|bK<|bO<|aP ?_
     obtain rfl:=sy h13
     exact bJ (rs':=[.tmp 2]) r<|bS (v:=aB) r<|bI<|aN [] r r r lr aD
    ·
     refine aH<|aR r (bU r r)<|sB r<|aG (fr':=[(1,aE),(4,aI),(35,aB)]) r r<|cG h13 r (fun b15 h15=>?_) (fun b15 h15=>?_)
     ·
      refine aH<|aR r (bD tB r)<|aR r (aK (v:=aI) fM r r r)<|aR r (bU r r)<|mB r<|og r r r (fun u=>(bD tB r))<|og r r r (fun u=>(aK (v:=aI) fM (gx r u) r r))<|og r r r (fun u=>(bU (gx r u) r))<|aR r (cN r r r (fun e=>fJ e))<|sB r<|aG (fr':=[(2,aB)]) r r<|bK<|bO<|aP ?_
      obtain rfl:=sy h15
      exact bJ (rs':=[.tmp 2]) r<|bS (v:=aB) r<|bI<|aN [] r r r lr aD
     ·
      refine aH<|aR r (bU r r)<|sB r<|aG (fr':=[(1,aE),(45,aB)]) r r<|cG h15 r (fun b17 h17=>?_) (fun b17 h17=>?_)
      ·
       refine aH<|aR r (bD tB r)<|aR r (aK (v:=aI) fM r r r)<|aR r (oI r r)<|sB r<|aG (fr':=[(2,aB)]) r r<|bK<|bO<|aP ?_
       obtain rfl:=sy h17
       exact bJ (rs':=[.tmp 2]) r<|bS (v:=aB) r<|bI<|aN [] r r r lr aD
      ·
       refine bF<|cW<|cZ<|aH<|sB r<|aG (fr':=[(2,aB)]) r r<|bK ?_
       obtain rfl:=sy h17
       exact bJ (rs':=[.tmp 2]) r<|bS (v:=aB) r<|bI<|aN [] r r r lr aD
noncomputable def zM (p0q:dE) (p1u:iP):Option Bool :=
 cond (decide (p0q.Kind=15)) ((yB p0q.ID).bind fun x2=>some (cond x2 (decide (((p0q.Name).length:Int)≤4096)) false)) (cond (decide (p0q.Kind=16)) (some (decide (((p0q.Name).length:Int)≤4096))) (cond (decide (p0q.Kind=4)) (some (decide (((p0q.Name).length:Int)≤64))) (cond (decide (p0q.Kind=11)) ((uO p0q.Name).bind fun x10=>some x10) ((gd ((!p1u.id_)==false) (uO p0q.ID)).bind fun x13=>(gd (((cond (!p1u.id_) true x13)==true)&&((!p1u.name_)==false)) (sW p0q.Name)).bind fun x15=>some (cond (cond (!p1u.id_) true x13) (cond (!p1u.name_) true x15) false)))))
theorem aIl {p0q:dE}{p1u:iP}{z:Bool} (h:zM p0q p1u=some z):cQ Tryz.prog 108 [.agg (AV.cs (nF p0q)),.agg (AV.cs (aCF p1u))] [] (.c (.bool z)) []:=by
 unfold zM at h
 refine dF (fn:=Tryz.f108) [0,1,2,3,4,6,7,18,24,30] (by kernel_rfl) Tryz.func108 r (by kernel_rfl) (by kernel_rfl)<|aH<|jK (v:=.agg aF) (n:=0) (cs:=aF) (σ':=[aF]) r r r r r<|jK (v:=.agg bX) (n:=1) (cs:=bX) (σ':=[aF,bX]) r r r r r<|sB r<|aG (fr':=[(2,aE),(3,aU)]) r r<|aZ<|aH<|aR r (bD tA r)<|aR r (aK (v:=aI) fM r r r)<|aG (fr':=[(2,aE),(3,aU),(6,aI)]) r r<|cH<|aH<|aR r (bU r r)<|sB r<|aG (fr':=[(2,aE),(3,aU),(6,aI),(7,aB)]) r r<|cG h r (fun b1 h1=>?_) (fun b1 h1=>?_)
 ·
  refine aH<|aR r (bD aCH r)<|aR r (aK (v:=aS) lP r r r)<|bx h1 fun x2 y2 h3=>lS (bL (v:=aB) r (aDg y2) ⟨lr,trivial⟩ r r r)<|mB r<|og r r r (fun u=>(bD yC r))<|og r r r (fun u=>(aK (v:=aS) lP (gx r u) r r))<|og r r r (fun u=>(kT uU (gx r u)))<|og r r r (fun u=>(nM (gx r u) r))<|aR r (bV r r r (fun e=>fJ e))<|sB r<|aG (fr':=[(4,aB)]) r r<|bK<|bO<|aP ?_
  obtain rfl:=sy h3
  exact bJ (rs':=[.tmp 4]) r<|bS (v:=aB) r<|bI<|aN [] r r r lr aD
 ·
  refine aH<|aR r (bU r r)<|sB r<|aG (fr':=[(2,aE),(3,aU),(6,aI),(18,aB)]) r r<|cG h1 r (fun b5 h5=>?_) (fun b5 h5=>?_)
  ·
   refine aH<|aR r (bD yC r)<|aR r (aK (v:=aS) lP r r r)<|aR r (kT uU r)<|aR r (nM r r)<|sB r<|aG (fr':=[(4,aB)]) r r<|bK<|bO<|aP ?_
   obtain rfl:=sy h5
   exact bJ (rs':=[.tmp 4]) r<|bS (v:=aB) r<|bI<|aN [] r r r lr aD
  ·
   refine aH<|aR r (bU r r)<|sB r<|aG (fr':=[(2,aE),(3,aU),(6,aI),(24,aB)]) r r<|cG h5 r (fun b7 h7=>?_) (fun b7 h7=>?_)
   ·
    refine aH<|aR r (bD yC r)<|aR r (aK (v:=aS) lP r r r)<|aR r (kT uU r)<|aR r (nM r r)<|sB r<|aG (fr':=[(4,aB)]) r r<|bK<|bO<|aP ?_
    obtain rfl:=sy h7
    exact bJ (rs':=[.tmp 4]) r<|bS (v:=aB) r<|bI<|aN [] r r r lr aD
   ·
    refine aH<|aR r (bU r r)<|sB r<|aG (fr':=[(2,aE),(3,aU),(30,aB)]) r r<|cG h7 r (fun b9 h9=>?_) (fun b9 h9=>?_)
    ·
     refine aH<|aR r (bD yC r)<|aR r (aK (v:=aS) lP r r r)<|bx h9 fun x10 y10 h11=>lS (bL (v:=aB) r (aBX y10) ⟨lr,trivial⟩ r r r)<|sB r<|aG (fr':=[(4,aB)]) r r<|bK<|bO<|aP ?_
     obtain rfl:=sy h11
     exact bJ (rs':=[.tmp 4]) r<|bS (v:=aB) r<|bI<|aN [] r r r lr aD
    ·
     refine bF<|cW<|cZ<|aH<|aR r (bD aOR r)<|aR r (aK (v:=aB) tv4 r r r)<|aR r (fE r)<|mB r<|og r r r (fun u=>(bD aCH r))<|og r r r (fun u=>(aK (v:=aS) lP (gx r u) r r))<|bx h9 fun x13 y13 h14=>sX r r (fun u=>bL (v:=aB) r (aBX (cU y13 u)) ⟨(eW (gx r u) lr),trivial⟩ (fT (by repeat (first | exact eN | refine aY r ?_ | refine aY (pP r) ?_ | refine aY pO ?_))) r r) ?_
     refine aR r (cN r r r (fun e=>fJ e))<|mB r<|og r r r (fun u=>(bD aOS r))<|og r r r (fun u=>(aK (v:=aB) tv4 (gx r u) r r))<|og r r r (fun u=>(fE (gx r u)))<|og r r r (fun u=>(bN (v:=aB) (gx r u)))<|fD r r (fun u=>fS r (bD yC r))<|fD r r (fun u=>fS r (aK (v:=aS) lP (gx r u) r r))<|bx h14 fun x15 y15 h16=>fD r r (fun u=>bL (v:=aB) r (wC (cU y15 u)) ⟨(eW (gx r u) lr),trivial⟩ (fT (by repeat (first | exact eN | refine aY r ?_ | refine aY (pP r) ?_ | refine aY pO ?_))) r r) ?_
     refine og r r r (fun u=>(cN (gx r u) r r (fun e=>pX u (fJ e))))<|aR r (bV r r r (fun e=>fJ e))<|sB r<|aG (fr':=[(4,aB)]) r r<|bK ?_
     obtain rfl:=sy h16
     exact bJ (rs':=[.tmp 4]) r<|bS (v:=aB) r<|bI<|aN [] r r r lr aD
noncomputable def xY (dN:Int):Option iP :=
 cond (decide (dN=1)) (some (iP.mk true true false false true true true false true)) (((cond (decide (dN=2)) (some (decide (dN=2))) (some (decide (dN=5)))):Option Bool).bind fun x3=>(cond x3 (some (iP.mk true true false false false false true false false)) (cond (decide (dN=3)) (some (iP.mk true false false false false false false false false)) (cond (decide (dN=4)) (some (iP.mk false true false false false false false false false)) (cond (decide (dN=6)) (some (iP.mk false false false true false false false false false)) (cond (decide (dN=7)) (some (iP.mk false false true false false false true true false)) (cond (decide (dN=8)) (some (iP.mk false false true false false true false false false)) (cond (decide (dN=9)) (some (iP.mk false false false false true true false false false)) (((cond (decide (dN=10)) (some (decide (dN=10))) (cond (decide (dN=12)) (some (decide (dN=12))) (some (decide (dN=13))))):Option Bool).bind fun x22=>(cond x22 (some (iP.mk false false true false true false true false false)) (cond (decide (dN=11)) (some (iP.mk false true true false true false true false false)) (cond (decide (dN=15)) (some (iP.mk true true false false true true true false false)) (cond (decide (dN=16)) (some (iP.mk false true false false true true false false false)) (cond (decide (dN=17)) (some (iP.mk false false false false false true false false false)) (some (iP.mk false false false false false false false false false))))))))))))))))
theorem aHF {dN:Int}{z:iP} (h:xY dN=some z):cQ Tryz.prog 97 [ci dN] [] (.agg (AV.cs (aCF z))) []:=by
 unfold xY at h
 refine dF (fn:=Tryz.f97) [0,2,3,4,7,11,14,17,20,23,26,29,34,37,40,43] (by kernel_rfl) Tryz.func97 r (by kernel_rfl) (by kernel_rfl)<|aH<|hO (n:=0) (cs:=bX) (σ':=[bX]) aRy r r r<|aG (fr':=[(0,aI),(2,aE)]) r r<|aZ<|aH<|mI r<|aG (fr':=[(2,aE),(3,aI)]) r r<|cH<|aZ<|bB<|aR r (bU r r)<|sB r<|aG (fr':=[(2,aE),(3,aI),(4,aB)]) r r<|cG h r (fun b1 h1=>?_) (fun b1 h1=>?_)
 ·
  refine aH<|aR r (iD (c0:=bX) (cs:=bX) aC0 r (eC (v:=aB) (us:=[_]) (cs':=u9) r r r r r r (eC (v:=aB) (us:=[_]) (cs':=u9) r r r r r r (eC (v:=aB) (us:=[_]) (cs':=u9) r r r r r r (eC (v:=aB) (us:=[_]) (cs':=u9) r r r r r r (eC (v:=aB) (us:=[_]) (cs':=u9) r r r r r r (eC (v:=aB) (us:=[_]) (cs':=u9) r r r r r r iC)))))))<|bM (v:=.agg bX) (us:=bX) (cs:=bX) (σ':=[bX]) r tC r r r r r r r r<|aG (fr':=[(2,aE)]) r r<|bK<|bO<|aP ?_
  obtain rfl:=sy h1
  exact bJ (rs':=[.cell 2 116]) r<|dY (us:=bX) (cs:=bX) tC r r r r<|bI<|aN [] r r r (bQ r kR9) aD
 ·
  obtain ⟨x3,y3,h4⟩:=iW h1
  refine hH (fun j5=>x3=j5) (fun (j5:Bool)=>([(2,aE),(3,ci dN),(7,.c (.bool j5))]:Fr)) (fun (j5:Bool)=>([[.c (.bool false),.c (.bool false),.c (.bool false),.c (.bool false),.c (.bool false),.c (.bool false),.c (.bool false),.c (.bool false),.c (.bool false)]]:St)) ?_ ?_
  ·
   refine aH<|aR r (bU r r)<|sB r<|aG (fr':=[(2,aE),(3,aI),(7,aB)]) r r<|cG y3 r (fun b6 h6=>?_) (fun b6 h6=>?_)
   ·
    exact bF<|iQ _ (sy h6) (bC [] 1 r r r r kA (bR r aD))
   ·
    exact bB<|aR r (bU r r)<|sB r<|dM (fr':=[(2,aE),(3,aI),(7,aB)]) r<|iQ _ (sy h6) (bC [] 1 r r r r kA (bR r aD))
  ·
   intro j5 hj7
   subst hj7
   refine cG h4 r (fun b8 h8=>?_) (fun b8 h8=>?_)
   ·
    refine aH<|aR r (iD (c0:=bX) (cs:=bX) aC0 r (eC (v:=aB) (us:=[_]) (cs':=u9) r r r r r r (eC (v:=aB) (us:=[_]) (cs':=u9) r r r r r r (eC (v:=aB) (us:=[_]) (cs':=u9) r r r r r r iC))))<|bM (v:=.agg bX) (us:=bX) (cs:=bX) (σ':=[bX]) r tC r r r r r r r r<|aG (fr':=[(2,aE)]) r r<|bK<|bO<|aP ?_
    obtain rfl:=sy h8
    exact bJ (rs':=[.cell 2 116]) r<|dY (us:=bX) (cs:=bX) tC r r r r<|bI<|aN [] r r r (bQ r kR9) aD
   ·
    refine aH<|aR r (bU r r)<|sB r<|aG (fr':=[(2,aE),(3,aI),(11,aB)]) r r<|cG h8 r (fun b10 h10=>?_) (fun b10 h10=>?_)
    ·
     refine aH<|aR r (iD (c0:=bX) (cs:=bX) aC0 r (eC (v:=aB) (us:=[_]) (cs':=u9) r r r r r r iC))<|bM (v:=.agg bX) (us:=bX) (cs:=bX) (σ':=[bX]) r tC r r r r r r r r<|aG (fr':=[(2,aE)]) r r<|bK<|bO<|aP ?_
     obtain rfl:=sy h10
     exact bJ (rs':=[.cell 2 116]) r<|dY (us:=bX) (cs:=bX) tC r r r r<|bI<|aN [] r r r (bQ r kR9) aD
    ·
     refine aH<|aR r (bU r r)<|sB r<|aG (fr':=[(2,aE),(3,aI),(14,aB)]) r r<|cG h10 r (fun b12 h12=>?_) (fun b12 h12=>?_)
     ·
      refine aH<|aR r (iD (c0:=bX) (cs:=bX) aC0 r (eC (v:=aB) (us:=[_]) (cs':=u9) r r r r r r iC))<|bM (v:=.agg bX) (us:=bX) (cs:=bX) (σ':=[bX]) r tC r r r r r r r r<|aG (fr':=[(2,aE)]) r r<|bK<|bO<|aP ?_
      obtain rfl:=sy h12
      exact bJ (rs':=[.cell 2 116]) r<|dY (us:=bX) (cs:=bX) tC r r r r<|bI<|aN [] r r r (bQ r kR9) aD
     ·
      refine aH<|aR r (bU r r)<|sB r<|aG (fr':=[(2,aE),(3,aI),(17,aB)]) r r<|cG h12 r (fun b14 h14=>?_) (fun b14 h14=>?_)
      ·
       refine aH<|aR r (iD (c0:=bX) (cs:=bX) aC0 r (eC (v:=aB) (us:=[_]) (cs':=u9) r r r r r r iC))<|bM (v:=.agg bX) (us:=bX) (cs:=bX) (σ':=[bX]) r tC r r r r r r r r<|aG (fr':=[(2,aE)]) r r<|bK<|bO<|aP ?_
       obtain rfl:=sy h14
       exact bJ (rs':=[.cell 2 116]) r<|dY (us:=bX) (cs:=bX) tC r r r r<|bI<|aN [] r r r (bQ r kR9) aD
      ·
       refine aH<|aR r (bU r r)<|sB r<|aG (fr':=[(2,aE),(3,aI),(20,aB)]) r r<|cG h14 r (fun b16 h16=>?_) (fun b16 h16=>?_)
       ·
        refine aH<|aR r (iD (c0:=bX) (cs:=bX) aC0 r (eC (v:=aB) (us:=[_]) (cs':=u9) r r r r r r (eC (v:=aB) (us:=[_]) (cs':=u9) r r r r r r (eC (v:=aB) (us:=[_]) (cs':=u9) r r r r r r iC))))<|bM (v:=.agg bX) (us:=bX) (cs:=bX) (σ':=[bX]) r tC r r r r r r r r<|aG (fr':=[(2,aE)]) r r<|bK<|bO<|aP ?_
        obtain rfl:=sy h16
        exact bJ (rs':=[.cell 2 116]) r<|dY (us:=bX) (cs:=bX) tC r r r r<|bI<|aN [] r r r (bQ r kR9) aD
       ·
        refine aH<|aR r (bU r r)<|sB r<|aG (fr':=[(2,aE),(3,aI),(23,aB)]) r r<|cG h16 r (fun b18 h18=>?_) (fun b18 h18=>?_)
        ·
         refine aH<|aR r (iD (c0:=bX) (cs:=bX) aC0 r (eC (v:=aB) (us:=[_]) (cs':=u9) r r r r r r (eC (v:=aB) (us:=[_]) (cs':=u9) r r r r r r iC)))<|bM (v:=.agg bX) (us:=bX) (cs:=bX) (σ':=[bX]) r tC r r r r r r r r<|aG (fr':=[(2,aE)]) r r<|bK<|bO<|aP ?_
         obtain rfl:=sy h18
         exact bJ (rs':=[.cell 2 116]) r<|dY (us:=bX) (cs:=bX) tC r r r r<|bI<|aN [] r r r (bQ r kR9) aD
        ·
         refine aH<|aR r (bU r r)<|sB r<|aG (fr':=[(2,aE),(3,aI),(26,aB)]) r r<|cG h18 r (fun b20 h20=>?_) (fun b20 h20=>?_)
         ·
          refine aH<|aR r (iD (c0:=bX) (cs:=bX) aC0 r (eC (v:=aB) (us:=[_]) (cs':=u9) r r r r r r (eC (v:=aB) (us:=[_]) (cs':=u9) r r r r r r iC)))<|bM (v:=.agg bX) (us:=bX) (cs:=bX) (σ':=[bX]) r tC r r r r r r r r<|aG (fr':=[(2,aE)]) r r<|bK<|bO<|aP ?_
          obtain rfl:=sy h20
          exact bJ (rs':=[.cell 2 116]) r<|dY (us:=bX) (cs:=bX) tC r r r r<|bI<|aN [] r r r (bQ r kR9) aD
         ·
          obtain ⟨x22,y22,h23⟩:=iW h20
          refine hH (fun j24=>x22=j24) (fun (j24:Bool)=>([(2,aE),(3,ci dN),(29,.c (.bool j24))]:Fr)) (fun (j24:Bool)=>([[.c (.bool false),.c (.bool false),.c (.bool false),.c (.bool false),.c (.bool false),.c (.bool false),.c (.bool false),.c (.bool false),.c (.bool false)]]:St)) ?_ ?_
          ·
           refine aH<|aR r (bU r r)<|sB r<|aG (fr':=[(2,aE),(3,aI),(29,aB)]) r r<|cG y22 r (fun b25 h25=>?_) (fun b25 h25=>?_)
           ·
            exact bF<|iQ _ (sy h25) (bC [] 1 r r r r kA (bR r aD))
           ·
            refine aH<|aR r (bU r r)<|sB r<|aG (fr':=[(2,aE),(3,aI),(29,aB)]) r r<|cG h25 r (fun b26 h26=>?_) (fun b26 h26=>?_)
            ·
             exact bF<|iQ _ (sy h26) (bC [] 1 r r r r kA (bR r aD))
            ·
             exact bB<|aR r (bU r r)<|sB r<|dM (fr':=[(2,aE),(3,aI),(29,aB)]) r<|iQ _ (sy h26) (bC [] 1 r r r r kA (bR r aD))
          ·
           intro j24 hj27
           subst hj27
           refine cG h23 r (fun b28 h28=>?_) (fun b28 h28=>?_)
           ·
            refine aH<|aR r (iD (c0:=bX) (cs:=bX) aC0 r (eC (v:=aB) (us:=[_]) (cs':=u9) r r r r r r (eC (v:=aB) (us:=[_]) (cs':=u9) r r r r r r (eC (v:=aB) (us:=[_]) (cs':=u9) r r r r r r iC))))<|bM (v:=.agg bX) (us:=bX) (cs:=bX) (σ':=[bX]) r tC r r r r r r r r<|aG (fr':=[(2,aE)]) r r<|bK<|bO<|aP ?_
            obtain rfl:=sy h28
            exact bJ (rs':=[.cell 2 116]) r<|dY (us:=bX) (cs:=bX) tC r r r r<|bI<|aN [] r r r (bQ r kR9) aD
           ·
            refine aH<|aR r (bU r r)<|sB r<|aG (fr':=[(2,aE),(3,aI),(34,aB)]) r r<|cG h28 r (fun b30 h30=>?_) (fun b30 h30=>?_)
            ·
             refine aH<|aR r (iD (c0:=bX) (cs:=bX) aC0 r (eC (v:=aB) (us:=[_]) (cs':=u9) r r r r r r (eC (v:=aB) (us:=[_]) (cs':=u9) r r r r r r (eC (v:=aB) (us:=[_]) (cs':=u9) r r r r r r (eC (v:=aB) (us:=[_]) (cs':=u9) r r r r r r iC)))))<|bM (v:=.agg bX) (us:=bX) (cs:=bX) (σ':=[bX]) r tC r r r r r r r r<|aG (fr':=[(2,aE)]) r r<|bK<|bO<|aP ?_
             obtain rfl:=sy h30
             exact bJ (rs':=[.cell 2 116]) r<|dY (us:=bX) (cs:=bX) tC r r r r<|bI<|aN [] r r r (bQ r kR9) aD
            ·
             refine aH<|aR r (bU r r)<|sB r<|aG (fr':=[(2,aE),(3,aI),(37,aB)]) r r<|cG h30 r (fun b32 h32=>?_) (fun b32 h32=>?_)
             ·
              refine aH<|aR r (iD (c0:=bX) (cs:=bX) aC0 r (eC (v:=aB) (us:=[_]) (cs':=u9) r r r r r r (eC (v:=aB) (us:=[_]) (cs':=u9) r r r r r r (eC (v:=aB) (us:=[_]) (cs':=u9) r r r r r r (eC (v:=aB) (us:=[_]) (cs':=u9) r r r r r r (eC (v:=aB) (us:=[_]) (cs':=u9) r r r r r r iC))))))<|bM (v:=.agg bX) (us:=bX) (cs:=bX) (σ':=[bX]) r tC r r r r r r r r<|aG (fr':=[(2,aE)]) r r<|bK<|bO<|aP ?_
              obtain rfl:=sy h32
              exact bJ (rs':=[.cell 2 116]) r<|dY (us:=bX) (cs:=bX) tC r r r r<|bI<|aN [] r r r (bQ r kR9) aD
             ·
              refine aH<|aR r (bU r r)<|sB r<|aG (fr':=[(2,aE),(3,aI),(40,aB)]) r r<|cG h32 r (fun b34 h34=>?_) (fun b34 h34=>?_)
              ·
               refine aH<|aR r (iD (c0:=bX) (cs:=bX) aC0 r (eC (v:=aB) (us:=[_]) (cs':=u9) r r r r r r (eC (v:=aB) (us:=[_]) (cs':=u9) r r r r r r (eC (v:=aB) (us:=[_]) (cs':=u9) r r r r r r iC))))<|bM (v:=.agg bX) (us:=bX) (cs:=bX) (σ':=[bX]) r tC r r r r r r r r<|aG (fr':=[(2,aE)]) r r<|bK<|bO<|aP ?_
               obtain rfl:=sy h34
               exact bJ (rs':=[.cell 2 116]) r<|dY (us:=bX) (cs:=bX) tC r r r r<|bI<|aN [] r r r (bQ r kR9) aD
              ·
               refine aH<|aR r (bU r r)<|sB r<|aG (fr':=[(2,aE),(43,aB)]) r r<|cG h34 r (fun b36 h36=>?_) (fun b36 h36=>?_)
               ·
                refine aH<|aR r (iD (c0:=bX) (cs:=bX) aC0 r (eC (v:=aB) (us:=[_]) (cs':=u9) r r r r r r iC))<|bM (v:=.agg bX) (us:=bX) (cs:=bX) (σ':=[bX]) r tC r r r r r r r r<|aG (fr':=[(2,aE)]) r r<|bK<|bO<|aP ?_
                obtain rfl:=sy h36
                exact bJ (rs':=[.cell 2 116]) r<|dY (us:=bX) (cs:=bX) tC r r r r<|bI<|aN [] r r r (bQ r kR9) aD
               ·
                refine bF<|cW<|cZ<|aH<|aR r (iD (c0:=bX) (cs:=bX) aC0 r iC)<|bM (v:=.agg bX) (us:=bX) (cs:=bX) (σ':=[bX]) r tC r r r r r r r r<|aG (fr':=[(2,aE)]) r r<|bK ?_
                obtain rfl:=sy h36
                exact bJ (rs':=[.cell 2 116]) r<|dY (us:=bX) (cs:=bX) tC r r r r<|bI<|aN [] r r r (bQ r kR9) aD
noncomputable def aAM (p0q:dE) (p1u:iP):Option Bool :=
 (gd (((cond (cond (cond (cond (cond (cond p1u.id_ true (decide (p0q.ID=([]:List UInt8)))) (cond p1u.name_ true (decide (p0q.Name=([]:List UInt8)))) false) (cond p1u.token_ true (decide (p0q.Token=0))) false) (cond p1u.event_ true (decide (p0q.Event=0))) false) (cond p1u.seq_ true (decide (p0q.Seq=0))) false) (cond p1u.n_ true (decide (p0q.N=0))) false)==true)&&(p1u.data_==false)) (aCN p0q.Data (aQ.mk 0 0 ([]:List UInt8) ([]:(List aQ)) ([]:(List (List UInt8)))))).bind fun x1=>(gd ((cond (cond (cond (cond (cond (cond (cond (cond (cond p1u.id_ true (decide (p0q.ID=([]:List UInt8)))) (cond p1u.name_ true (decide (p0q.Name=([]:List UInt8)))) false) (cond p1u.token_ true (decide (p0q.Token=0))) false) (cond p1u.event_ true (decide (p0q.Event=0))) false) (cond p1u.seq_ true (decide (p0q.Seq=0))) false) (cond p1u.n_ true (decide (p0q.N=0))) false) (cond p1u.data_ true x1) false) (cond p1u.commands_ true (decide (((p0q.Commands).length:Int)=0))) false) (cond p1u.parent_ true (decide (p0q.Parent=([]:List UInt8)))) false)==true) (oK p0q.Opts (dS.mk ([]:List UInt8) 0 0 0 0 0 0 0 0 ([]:(List (List UInt8)))))).bind fun x3=>some (cond (cond (cond (cond (cond (cond (cond (cond (cond (cond p1u.id_ true (decide (p0q.ID=([]:List UInt8)))) (cond p1u.name_ true (decide (p0q.Name=([]:List UInt8)))) false) (cond p1u.token_ true (decide (p0q.Token=0))) false) (cond p1u.event_ true (decide (p0q.Event=0))) false) (cond p1u.seq_ true (decide (p0q.Seq=0))) false) (cond p1u.n_ true (decide (p0q.N=0))) false) (cond p1u.data_ true x1) false) (cond p1u.commands_ true (decide (((p0q.Commands).length:Int)=0))) false) (cond p1u.parent_ true (decide (p0q.Parent=([]:List UInt8)))) false) x3 false)
theorem aJO {p0q:dE}{p1u:iP}{z:Bool} (h:aAM p0q p1u=some z):cQ Tryz.prog 99 [.agg (AV.cs (nF p0q)),.agg (AV.cs (aCF p1u))] [] (.c (.bool z)) []:=by
 unfold aAM at h
 refine dF (fn:=Tryz.f99) [0,1,2,3,4] (by kernel_rfl) Tryz.func99 r (by kernel_rfl) (by kernel_rfl)<|aH<|jK (v:=.agg aF) (n:=0) (cs:=aF) (σ':=[aF]) r r r r r<|jK (v:=.agg bX) (n:=1) (cs:=bX) (σ':=[aF,bX]) r r r r r<|sB r<|aG (fr':=[(2,aE),(3,aU)]) r r<|aH<|aR r (bD aOR r)<|aR r (aK (v:=aB) tv4 r r r)<|mB r<|og r r r (fun u=>(bD aCH r))<|og r r r (fun u=>(aK (v:=aS) lP (gx r u) r r))<|og r r r (fun u=>(qX (gx r u) r))<|aR r (cN r r r (fun e=>fJ e))<|mB r<|og r r r (fun u=>(bD aOS r))<|og r r r (fun u=>(aK (v:=aB) tv4 (gx r u) r r))<|og r r r (fun u=>(bN (v:=aB) (gx r u)))<|fD r r (fun u=>fS r (bD yC r))<|fD r r (fun u=>fS r (aK (v:=aS) lP (gx r u) r r))<|fD r r (fun u=>fS r (qX (gx r u) r))<|og r r r (fun u=>(cN (gx r u) r r (fun e=>pX u (fJ e))))<|aR r (bV r r r (fun e=>fJ e))<|mB r<|og r r r (fun u=>(bD aOT r))<|og r r r (fun u=>(aK (v:=aB) tv4 (gx r u) r r))<|og r r r (fun u=>(bN (v:=aB) (gx r u)))<|fD r r (fun u=>fS r (bD aBW r))<|fD r r (fun u=>fS r (aK (v:=aI) fM (gx r u) r r))<|fD r r (fun u=>fS r (bU (gx r u) r))<|og r r r (fun u=>(cN (gx r u) r r (fun e=>pX u (fJ e))))<|aR r (bV r r r (fun e=>fJ e))<|mB r<|og r r r (fun u=>(bD aOU r))<|og r r r (fun u=>(aK (v:=aB) tv4 (gx r u) r r))<|og r r r (fun u=>(bN (v:=aB) (gx r u)))<|fD r r (fun u=>fS r (bD aDZ r))<|fD r r (fun u=>fS r (aK (v:=aI) fM (gx r u) r r))<|fD r r (fun u=>fS r (bU (gx r u) r))<|og r r r (fun u=>(cN (gx r u) r r (fun e=>pX u (fJ e))))<|aR r (bV r r r (fun e=>fJ e))<|mB r<|og r r r (fun u=>(bD aOV r))<|og r r r (fun u=>(aK (v:=aB) tv4 (gx r u) r r))<|og r r r (fun u=>(bN (v:=aB) (gx r u)))<|fD r r (fun u=>fS r (bD aCI r))<|fD r r (fun u=>fS r (aK (v:=aI) fM (gx r u) r r))<|fD r r (fun u=>fS r (bU (gx r u) r))<|og r r r (fun u=>(cN (gx r u) r r (fun e=>pX u (fJ e))))<|aR r (bV r r r (fun e=>fJ e))<|mB r<|og r r r (fun u=>(bD aSn r))<|og r r r (fun u=>(aK (v:=aB) tv4 (gx r u) r r))<|og r r r (fun u=>(bN (v:=aB) (gx r u)))<|fD r r (fun u=>fS r (bD tB r))<|fD r r (fun u=>fS r (aK (v:=aI) fM (gx r u) r r))<|fD r r (fun u=>fS r (bU (gx r u) r))<|og r r r (fun u=>(cN (gx r u) r r (fun e=>pX u (fJ e))))<|aR r (bV r r r (fun e=>fJ e))<|mB r<|og r r r (fun u=>(bD aSo r))<|og r r r (fun u=>(aK (v:=aB) tv4 (gx r u) r r))<|og r r r (fun u=>(bN (v:=aB) (gx r u)))<|fD r r (fun u=>fS r (bD aB7 r))<|fD r r (fun u=>fS r (dL (us:=cE) iO (gx r u) r r r))<|fD r r (fun u=>fS r (fV (cs:=cB) aFl r))<|bx h fun x1 y1 h2=>fD r r (fun u=>bL (v:=aB) r (aD9 (cU y1 u)) ⟨(eW (gx r u) (bQ r kR5)),(eW (gx r u) (bQ r ⟨r,r,r,⟨_,r⟩,⟨_,r⟩,trivial⟩)),trivial⟩ (fT (by repeat (first | exact eN | refine aY r ?_ | refine aY (pP r) ?_ | refine aY pO ?_))) r r) ?_
 refine og r r r (fun u=>(cN (gx r u) r r (fun e=>pX u (fJ e))))<|aR r (bV r r r (fun e=>fJ e))<|mB r<|og r r r (fun u=>(bD aSp r))<|og r r r (fun u=>(aK (v:=aB) tv4 (gx r u) r r))<|og r r r (fun u=>(bN (v:=aB) (gx r u)))<|fD r r (fun u=>fS r (bD xI r))<|fD r r (fun u=>fS r (aK (v:=aL) aGO (gx r u) r r))<|fD r r (fun u=>fS r (hZ aId (eK (gx r u))))<|fD r r (fun u=>fS r (bU (gx r u) r))<|og r r r (fun u=>(cN (gx r u) r r (fun e=>pX u (fJ e))))<|aR r (bV r r r (fun e=>fJ e))<|mB r<|og r r r (fun u=>(bD aSq r))<|og r r r (fun u=>(aK (v:=aB) tv4 (gx r u) r r))<|og r r r (fun u=>(bN (v:=aB) (gx r u)))<|fD r r (fun u=>fS r (bD aAQ r))<|fD r r (fun u=>fS r (aK (v:=aS) lP (gx r u) r r))<|fD r r (fun u=>fS r (qX (gx r u) r))<|og r r r (fun u=>(cN (gx r u) r r (fun e=>pX u (fJ e))))<|aR r (bV r r r (fun e=>fJ e))<|mB r<|og r r r (fun u=>(bD aLA r))<|og r r r (fun u=>(dL (us:=dO) yT (gx r u) r r r))<|og r r r (fun u=>(iD (c0:=bG) (cs:=bG) aM6 r iC))<|bx h2 fun x3 y3 h4=>sX r r (fun u=>bL (v:=aB) r (yH (cU y3 u)) ⟨(eW (gx r u) (bQ r aBA)),(eW (gx r u) (bQ r ⟨r,r,r,r,r,r,r,r,r,⟨_,r⟩,trivial⟩)),trivial⟩ (fT (by repeat (first | exact eN | refine aY r ?_ | refine aY (pP r) ?_ | refine aY pO ?_))) r r) ?_
 refine aR r (bV r r r (fun e=>fJ e))<|sB r<|aG (fr':=[(4,aB)]) r r<|bK ?_
 obtain rfl:=sy h4
 exact bJ (rs':=[.tmp 4]) r<|bS (v:=aB) r<|bI<|aN [] r r r lr aD
