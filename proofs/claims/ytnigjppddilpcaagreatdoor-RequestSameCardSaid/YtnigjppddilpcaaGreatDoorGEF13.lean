import Derived.Test.YtnigjppddilpcaaGreatDoorGETy
import Derived.Test.YtnigjppddilpcaaGreatDoorGEF0
import Derived.Test.YtnigjppddilpcaaGreatDoorGEF1
import Derived.Test.YtnigjppddilpcaaGreatDoorGEF2
import Derived.Test.YtnigjppddilpcaaGreatDoorGEF3
import Derived.Test.YtnigjppddilpcaaGreatDoorGEF4
import Derived.Test.YtnigjppddilpcaaGreatDoorGEF6
import Derived.Test.YtnigjppddilpcaaGreatDoorGEF10
import Derived.Test.YtnigjppddilpcaaGreatDoorGEF12
namespace Go.Proofs.YtnigjppddilpcaaGreatDoor
open Go Abs
set_option maxRecDepth 100000
set_option linter.unusedVariables false
set_option linter.unusedSimpArgs false
noncomputable def nI (p0n:Int) (tK:Int) (pM:Int):Option Bool :=
 some (cond (decide (tK≤p0n)) (decide (p0n≤pM)) false)
theorem pF {p0n:Int}{tK:Int}{pM:Int}{z:Bool} (h:nI p0n tK pM=some z):dE Tryz.prog 98 [ci p0n,ci tK,ci pM] [] (.c (.bool z)) []:=by
 unfold nI at h
 refine eJ (fn:=Tryz.f98) [0,1,2,6] (by kernel_rfl) Tryz.func98 r (by kernel_rfl) (by kernel_rfl)<|aT<|sB r<|aR (fr':=[(0,aI),(1,aI),(2,aI)]) r r<|aT<|mI r<|mI r<|aW r (xD r r)<|mB r<|og r r r (fun u=>(bP (v:=aI) r))<|og r r r (fun u=>(bP (v:=aI) r))<|og r r r (fun u=>(aAn (gx r u) (gx r u)))<|aW r (cD r r r (fun e=>hD e))<|sB r<|aR (fr':=[(6,aB)]) r r<|cB ?_
 obtain rfl:=sy h
 exact bZ (rs':=[.tmp 6]) r<|cM (v:=aB) r<|bX<|aZ [] r r r lr aH
noncomputable def aBg (p0s:(List UInt8)) (s4:Int):Option (dG Int (Fl Bool Unit)) :=
 cond (decide (s4<((p0s).length:Int))) ((nF p0s s4).bind fun x6=>(gd ((decide (((x6).toNat:Int)<33))==false) (nF p0s s4)).bind fun x8=>(gd ((cond (decide (((x6).toNat:Int)<33)) true (decide (126<((x8).toNat:Int))))==false) (nF p0s s4)).bind fun x10=>(gd ((cond (cond (decide (((x6).toNat:Int)<33)) true (decide (126<((x8).toNat:Int)))) true (decide (((x10).toNat:Int)=47)))==false) (nF p0s s4)).bind fun x12=>cond (cond (cond (cond (decide (((x6).toNat:Int)<33)) true (decide (126<((x8).toNat:Int)))) true (decide (((x10).toNat:Int)=47))) true (decide (((x12).toNat:Int)=34))) (some (dG.out (Fl.done false))) (some (dG.next (IntKind.wrap .i64 (s4+1))))) (some (dG.out (Fl.go ())))
noncomputable def qT (p0s:(List UInt8)):Option Bool :=
 (fX (aBg p0s) (0)).bind fun x1=>Fl.next x1 (fun j3=>((nI ((p0s).length:Int) 1 64).bind fun x20=>some x20))
theorem zA {p0s:(List UInt8)}{z:Bool} (h:qT p0s=some z):dE Tryz.prog 101 [.c (.str p0s)] [] (.c (.bool z)) []:=by
 unfold qT at h
 refine eJ (fn:=Tryz.f101) [0,2,3,5,6,7,30] (by kernel_rfl) Tryz.func101 r (by kernel_rfl) (by kernel_rfl)<|aT<|sB r<|aR (fr':=[(0,aS)]) r r<|bC<|aT<|mS r<|aW r (rN zG r)<|mI r<|aR (fr':=[(0,aS),(5,aI),(6,aI)]) r r<|bx h fun x1 y1 h2=>kC pL (fun j3=>x1=Fl.go j3) (fun (j3:Unit)=>([(0,.c (.str p0s))]:Fr)) (fun (j3:Unit)=>([]:St)) ?_ ?_
 ·
  refine dA<|jS _ (fun (s4:Int)=>([(0,.c (.str p0s)),(5,ci ((p0s).length:Int)),(6,ci s4)]:Fr)) (fun (s4:Int)=>([]:St)) y1 (cR [] 0 r r r r wE aH) ?_
  intro s4 st4 hs4 ho4
  unfold aBg at hs4
  refine aT<|aW r (iJ r r)<|aR (fr':=[(0,aS),(5,aI),(6,aI),(7,aB)]) r r<|bC<|eS hs4 r (fun b5 h5=>?_) (fun b5 h5=>?_)
  ·
   refine cE<|eA<|bC<|dA<|aT<|mI r<|sI r<|aR (fr':=[(0,aS),(3,aI),(5,aI),(6,aI)]) r r<|aT<|mS r<|mI r<|bx h5 fun x6 y6 h7=>aW r (aG4 zG r r y6)<|aW r (iJ r r)<|mB r<|og r r r (fun u=>(bP (v:=aS) r))<|og r r r (fun u=>(bP (v:=aI) r))<|bx h7 fun x8 y8 h9=>og r r r (fun u=>(aG4 zG (gx r u) (gx r u) (eQ y8 u)))<|og r r r (fun u=>(uW (gx r u) r))<|aW r (dD r r r (fun e=>hD e))<|mB r<|og r r r (fun u=>(bP (v:=aS) r))<|og r r r (fun u=>(bP (v:=aI) r))<|bx h9 fun x10 y10 h11=>og r r r (fun u=>(aG4 zG (gx r u) (gx r u) (eQ y10 u)))<|og r r r (fun u=>(dZ (gx r u) r))<|aW r (dD r r r (fun e=>hD e))<|mB r<|og r r r (fun u=>(bP (v:=aS) r))<|og r r r (fun u=>(bP (v:=aI) r))<|bx h11 fun x12 y12 h13=>og r r r (fun u=>(aG4 zG (gx r u) (gx r u) (eQ y12 u)))<|og r r r (fun u=>(dZ (gx r u) r))<|aW r (dD r r r (fun e=>hD e))<|aR (fr':=[(0,aS),(5,aI),(6,aI),(30,aB)]) r r<|eS h13 r (fun b14 h14=>?_) (fun b14 h14=>?_)
   ·
    refine aT<|sB r<|aR (fr':=[(2,aB)]) r r<|cB<|cL<|aV<|aV<|cL<|aV<|aV ?_
    have h15:=gN h14 ho4
    have h16:=hU h15 h2
    obtain rfl:=sy h16
    exact bZ (rs':=[.tmp 2]) r<|cM (v:=aB) r<|bX<|aZ [] r r r lr aH
   ·
    exact cE<|eW<|eA<|bN<|aW r (iH r r)<|mI r<|fG (fr':=[(0,aS),(5,aI),(6,aI),(30,aB)]) r<|e_l _ (sy h14) (cR [] 0 r r r r wE aH)
  ·
   refine kF<|eL<|eL<|iM ?_
   have h18:=gN h5 ho4
   exact tB _ (sy h18) (cR [] 0 r r r r ⟨lr,trivial⟩ aH)
 ·
  intro j3 hj19
  have h19:=qP hj19 h2
  refine eA<|aT<|mS r<|aW r (rN zG r)<|bx h19 fun x20 y20 h21=>qB (bR (v:=aB) r (pF y20) wE r r r)<|sB r<|aR (fr':=[(2,aB)]) r r<|cB ?_
  obtain rfl:=sy h21
  exact bZ (rs':=[.tmp 2]) r<|cM (v:=aB) r<|bX<|aZ [] r r r lr aH
noncomputable def vY (p0s:(List UInt8)):Option Bool :=
 (yE p0s).bind fun x1=>some (cond (decide (p0s=([]:List UInt8))) true x1.2)
theorem aDx {p0s:(List UInt8)}{z:Bool} (h:vY p0s=some z):dE Tryz.prog 102 [.c (.str p0s)] [] (.c (.bool z)) []:=by
 unfold vY at h
 refine eJ (fn:=Tryz.f102) [0,2,4] (by kernel_rfl) Tryz.func102 r (by kernel_rfl) (by kernel_rfl)<|aT<|sB r<|aR (fr':=[(0,aS)]) r r<|aT<|mS r<|bx h fun x1 y1 h2=>qB (bR (v:=.tup [aI,aB]) r (aIb y1) ⟨lr,trivial⟩ r r r)<|mV (v:=.tup [aI,aB]) r<|aW r (aCr (v:=aI) r r)<|aW r (aCr (v:=aB) r r)<|sI r<|sB r<|aR (fr':=[(0,aS),(4,aB)]) r r<|aT<|mS r<|aW r (oS r r)<|mB r<|og r r r (fun u=>(bP (v:=aB) r))<|aW r (dD r r r (fun e=>hD e))<|sB r<|aR (fr':=[(2,aB)]) r r<|cB ?_
 obtain rfl:=sy h2
 exact bZ (rs':=[.tmp 2]) r<|cM (v:=aB) r<|bX<|aZ [] r r r lr aH
noncomputable def tA (p0C:(List UInt8)) (p1o:(List UInt8)):Option Int :=
 match p1o with
 | [c]=>some (Lib.indexByte p0C c)
 | _=>none
theorem aDf {p0C:(List UInt8)}{p1o:(List UInt8)}{z:Int} (h:tA p0C p1o=some z):dE Tryz.prog 224 [.c (.str p0C),.c (.str p1o)] [] (ci z) []:=by
 unfold tA at h
 split at h
 ·
  rename_i c
  cases h
  refine aDA (by kernel_rfl) fun g w vs hv hI hg=>?_
  rw [aMV hv]
  refine (Tryz.stringslite_Index_one ⟨p0C.toArray⟩ c w).mono fun e w'=>?_
  rintro ⟨rfl,rfl⟩
  exact ⟨_,r,RowKit.Below.refl _ _,fun g'=>.c (.int _ _)⟩
 ·
  cases h
noncomputable def vE (p0s:(List UInt8)) (aCq:(List UInt8)):Option ((List UInt8) × (List UInt8) × Bool) :=
 (tA p0s aCq).bind fun x1=>cond (decide (0≤x1)) ((aPu p0s x1).bind fun x4=>(aMs p0s (IntKind.wrap .i64 (x1+((aCq).length:Int)))).bind fun x6=>some ((List.take (Int.toNat x1) p0s),(List.drop (Int.toNat (IntKind.wrap .i64 (x1+((aCq).length:Int)))) p0s),true)) (some (p0s,([]:List UInt8),false))
theorem aEH {p0s:(List UInt8)}{aCq:(List UInt8)}{z:((List UInt8) × (List UInt8) × Bool)} (h:vE p0s aCq=some z):dE Tryz.prog 214 [.c (.str p0s),.c (.str aCq)] [] (.tup [.c (.str z.1),.c (.str z.2.1),.c (.bool z.2.2)]) []:=by
 unfold vE at h
 refine eJ (fn:=Tryz.f214) [0,1,4,5,6,7,12] (by kernel_rfl) Tryz.func214 r (by kernel_rfl) (by kernel_rfl)<|aT<|sS r<|sS r<|sB r<|aR (fr':=[(0,aS),(1,aS)]) r r<|bC<|aT<|mS r<|mS r<|bx h fun x1 y1 h2=>qB (bR (v:=aI) r (aDf y1) pV r r r)<|sI r<|aR (fr':=[(0,aS),(1,aS),(7,aI)]) r r<|aT<|mI r<|aW r (xD r r)<|aR (fr':=[(0,aS),(1,aS),(7,aI),(12,aB)]) r r<|eS h2 r (fun b3 h3=>?_) (fun b3 h3=>?_)
 ·
  refine bC<|lS [.q 0,.q 1,.q 2,.q 3,.q 4,.q 5,.q 6,.q 7,.q 8,.n 9 [3,4,5,6,7,8],.n 10 [],.n 11 []] [(some 13,[0]),(some 14,[7]),(some 15,[13,14]),(some 16,[0]),(some 17,[7]),(some 18,[1]),(some 19,[18]),(some 20,[17,19]),(some 21,[16,20]),(some 4,[15]),(some 5,[21]),(some 6,[])] [0,0,3,0,0,0,32,112,248,7,1023,2047] (by kernel_rfl)<|dq r r (bP (v:=aS) r)<|dq r r (bP (v:=aI) r)<|bx h3 fun x4 y4 h5=>dq r r (aQc zG r r (aNY y4).1)<|dq r r (bP (v:=aS) r)<|dq r r (bP (v:=aI) r)<|dq r r (bP (v:=aS) r)<|dq r r (rN zG r)<|dq r r (iH r r)<|bx h5 fun x6 y6 h7=>dq r r (aMT zG r r (aFc y6).1)<|d_n r ?_ r
  refine sS r<|aCp<|⟨(aFT (v:=aS) r r (aAE r (bP (v:=aS) r)) (aFT (v:=aI) r r (aAE r (bP (v:=aI) r)) (aFT (v:=aS) r r (aAE r (bP (v:=aS) r)) (aFT (v:=aI) r r (aAE r (rN zG r)) (aFT (v:=aI) r r (aAE r (iH r r)) (aFT (v:=aS) r r (aAE r (aMT zG r r (aFc y6).1)) tL)))))),?_⟩
  refine d_n r ?_ r
  refine sS r<|aCp<|⟨tL,?_⟩
  refine d_n r ?_ r
  refine sB r<|aCp<|⟨tL,?_⟩
  refine zJ (fr':=[(4,aS),(5,aS),(6,aB)]) r r<|cB<|aV ?_
  obtain rfl:=sy h7
  exact bZ (rs':=[.tmp 4,.tmp 5,.tmp 6]) r<|cM (v:=aS) r<|cM (v:=aS) r<|cM (v:=aB) r<|bX<|aZ [] r r r (wJ r wE) aH
 ·
  refine cE<|eA<|aT<|mS r<|sS r<|sS r<|sB r<|aR (fr':=[(4,aS),(5,aS),(6,aB)]) r r<|cB ?_
  obtain rfl:=sy h3
  exact bZ (rs':=[.tmp 4,.tmp 5,.tmp 6]) r<|cM (v:=aS) r<|cM (v:=aS) r<|cM (v:=aB) r<|bX<|aZ [] r r r (wJ r wE) aH
noncomputable def yI (p0s:(List UInt8)) (aCq:(List UInt8)):Option ((List UInt8) × (List UInt8) × Bool) :=
 (vE p0s aCq).bind fun x1=>some (x1.1,x1.2.1,x1.2.2)
theorem aId {p0s:(List UInt8)}{aCq:(List UInt8)}{z:((List UInt8) × (List UInt8) × Bool)} (h:yI p0s aCq=some z):dE Tryz.prog 197 [.c (.str p0s),.c (.str aCq)] [] (.tup [.c (.str z.1),.c (.str z.2.1),.c (.bool z.2.2)]) []:=by
 unfold yI at h
 refine eJ (fn:=Tryz.f197) [0,1,4,5,6] (by kernel_rfl) Tryz.func197 r (by kernel_rfl) (by kernel_rfl)<|aT<|sS r<|sS r<|sB r<|aR (fr':=[(0,aS),(1,aS)]) r r<|aT<|mS r<|mS r<|bx h fun x1 y1 h2=>qB (bR (v:=.tup [aS,aS,aB]) r (aEH y1) pV r r r)<|aW r (aCr (v:=aS) r r)<|aW r (aCr (v:=aS) r r)<|aW r (aCr (v:=aB) r r)<|sS r<|sS r<|sB r<|aR (fr':=[(4,aS),(5,aS),(6,aB)]) r r<|cB ?_
 obtain rfl:=sy h2
 exact bZ (rs':=[.tmp 4,.tmp 5,.tmp 6]) r<|cM (v:=aS) r<|cM (v:=aS) r<|cM (v:=aB) r<|bX<|aZ [] r r r (wJ r wE) aH
noncomputable def uE (p0s:(List UInt8)) (aEj:(List UInt8)):Option Bool :=
 match aEj with
 | [c]=>some (decide (0≤Lib.indexByte p0s c))
 | _=>none
theorem aDV {p0s:(List UInt8)}{aEj:(List UInt8)}{z:Bool} (h:uE p0s aEj=some z):dE Tryz.prog 198 [.c (.str p0s),.c (.str aEj)] [] (.c (.bool z)) []:=by
 unfold uE at h
 split at h
 ·
  rename_i c
  cases h
  refine aDA (by kernel_rfl) fun g w vs hv hI hg=>?_
  rw [aMV hv]
  refine (Tryz.strings_Contains_one ⟨p0s.toArray⟩ c w).mono fun e w'=>?_
  rintro ⟨rfl,rfl⟩
  exact ⟨_,r,RowKit.Below.refl _ _,fun g'=>.c (.bool _)⟩
 ·
  cases h
noncomputable def aAk (aAK:(List UInt8)):Option ((List UInt8) × (List UInt8) × Bool) :=
 (yI aAK ([47]:List UInt8)).bind fun x1=>(gd ((!x1.2.2)==false) (uE x1.2.1 ([47]:List UInt8))).bind fun x3=>cond (cond (!x1.2.2) true x3) (some (([]:List UInt8),([]:List UInt8),false)) (some (x1.1,x1.2.1,true))
theorem aJL {aAK:(List UInt8)}{z:((List UInt8) × (List UInt8) × Bool)} (h:aAk aAK=some z):dE Tryz.prog 162 [.c (.str aAK)] [] (.tup [.c (.str z.1),.c (.str z.2.1),.c (.bool z.2.2)]) []:=by
 unfold aAk at h
 refine eJ (fn:=Tryz.f162) [0,2,3,4,5,6,7,19] (by kernel_rfl) Tryz.func162 r (by kernel_rfl) (by kernel_rfl)<|aT<|sS r<|sS r<|sB r<|aR (fr':=[(0,aS)]) r r<|aT<|mS r<|bx h fun x1 y1 h2=>qB (bR (v:=.tup [aS,aS,aB]) r (aId y1) pV r r r)<|mV (v:=.tup [aS,aS,aB]) r<|aW r (aCr (v:=aS) r r)<|aW r (aCr (v:=aS) r r)<|aW r (aCr (v:=aB) r r)<|sS r<|sS r<|sB r<|aR (fr':=[(5,aS),(6,aS),(7,aB)]) r r<|bC<|aT<|mB r<|aW r (hY r)<|mB r<|og r r r (fun u=>(bP (v:=aS) r))<|bx h2 fun x3 y3 h4=>zB r r (fun u=>bR (v:=aB) r (aDV (eQ y3 u)) ⟨(fY (gx r u) lr),lr,trivial⟩ (iN (by repeat (first | exact gK | refine bI r ?_ | refine bI (vT r) ?_ | refine bI vS ?_))) r r) ?_
 refine aW r (dD r r r (fun e=>hD e))<|aR (fr':=[(5,aS),(6,aS),(19,aB)]) r r<|eS h4 r (fun b5 h5=>?_) (fun b5 h5=>?_)
 ·
  refine aT<|sS r<|sS r<|sB r<|aR (fr':=[(2,aS),(3,aS),(4,aB)]) r r<|cB<|aV ?_
  obtain rfl:=sy h5
  exact bZ (rs':=[.tmp 2,.tmp 3,.tmp 4]) r<|cM (v:=aS) r<|cM (v:=aS) r<|cM (v:=aB) r<|bX<|aZ [] r r r (wJ r wE) aH
 ·
  refine cE<|eA<|aT<|mS r<|mS r<|sS r<|sS r<|sB r<|aR (fr':=[(2,aS),(3,aS),(4,aB)]) r r<|cB ?_
  obtain rfl:=sy h5
  exact bZ (rs':=[.tmp 2,.tmp 3,.tmp 4]) r<|cM (v:=aS) r<|cM (v:=aS) r<|cM (v:=aB) r<|bX<|aZ [] r r r (wJ r wE) aH
noncomputable def tT (p0s:(List UInt8)):Option Bool :=
 (aAk p0s).bind fun x1=>some (cond (decide (p0s=([]:List UInt8))) true (cond x1.2.2 (decide (((p0s).length:Int)≤4096)) false))
theorem aFm {p0s:(List UInt8)}{z:Bool} (h:tT p0s=some z):dE Tryz.prog 103 [.c (.str p0s)] [] (.c (.bool z)) []:=by
 unfold tT at h
 refine eJ (fn:=Tryz.f103) [0,2,5] (by kernel_rfl) Tryz.func103 r (by kernel_rfl) (by kernel_rfl)<|aT<|sB r<|aR (fr':=[(0,aS)]) r r<|aT<|mS r<|bx h fun x1 y1 h2=>qB (bR (v:=.tup [aS,aS,aB]) r (aJL y1) ⟨lr,trivial⟩ r r r)<|mV (v:=.tup [aS,aS,aB]) r<|aW r (aCr (v:=aS) r r)<|aW r (aCr (v:=aS) r r)<|aW r (aCr (v:=aB) r r)<|sS r<|sS r<|sB r<|aR (fr':=[(0,aS),(5,aB)]) r r<|aT<|mS r<|aW r (oS r r)<|mB r<|og r r r (fun u=>(bP (v:=aB) r))<|og r r r (fun u=>(bP (v:=aB) (gx r u)))<|hS r r (fun u=>iG r (bP (v:=aS) r))<|hS r r (fun u=>iG r (rN zG (gx r u)))<|hS r r (fun u=>iG r (aAn (gx r u) r))<|og r r r (fun u=>(cD (gx r u) r r (fun e=>wC u (hD e))))<|aW r (dD r r r (fun e=>hD e))<|sB r<|aR (fr':=[(2,aB)]) r r<|cB ?_
 obtain rfl:=sy h2
 exact bZ (rs':=[.tmp 2]) r<|cM (v:=aB) r<|bX<|aZ [] r r r lr aH
noncomputable def vD (p0c:bL):Option Bool :=
 (qR p0c).bind fun x1=>some (!x1)
theorem aEG {p0c:bL}{z:Bool} (h:vD p0c=some z):dE Tryz.prog 105 [.agg (AV.cs (dM p0c))] [] (.c (.bool z)) []:=by
 unfold vD at h
 refine eJ (fn:=Tryz.f105) [0,1,2] (by kernel_rfl) Tryz.func105 r (by kernel_rfl) (by kernel_rfl)<|aT<|jB (v:=.agg aU) (n:=0) (cs:=aU) (σ':=[aU]) r r r r r<|sB r<|aR (fr':=[(1,aF)]) r r<|aT<|aW r (dN (us:=aU) uJ r r r r)<|bx h fun x1 y1 h2=>qB (bR (v:=aB) r (yZ y1) ⟨(bV r aFQ),trivial⟩ r r r)<|aW r (hY r)<|sB r<|aR (fr':=[(2,aB)]) r r<|cB ?_
 obtain rfl:=sy h2
 exact bZ (rs':=[.tmp 2]) r<|cM (v:=aB) r<|bX<|aZ [] r r r lr aH
noncomputable def fA (p0s:(List bL)) (s4:Int):Option (dG Int (Fl Int Unit)) :=
 cond (decide (s4<((p0s).length:Int))) ((nF p0s s4).bind fun x6=>(vD x6).bind fun x8=>cond x8 (some (dG.out (Fl.done s4))) (some (dG.next (IntKind.wrap .i64 (s4+1))))) (some (dG.out (Fl.go ())))
noncomputable def gB (p0s:(List bL)):Option Int :=
 (fX (fA p0s) (0)).bind fun x1=>Fl.next x1 (fun j3=>(some (-1)))
theorem nL {p0s:(List bL)}{z:Int} (h:gB p0s=some z):dE Tryz.prog 163 [.c (PV.ls 20 dM p0s),.fn 105 []] [] (ci z) []:=by
 unfold gB at h
 refine eJ (fn:=Tryz.f163) [0,1,4,5,7,8,9,16] (by kernel_rfl) Tryz.func163 r (by kernel_rfl) (by kernel_rfl)<|aT<|sI r<|aR (fr':=[(0,aL),(1,.fn _ [])]) r r<|bC<|aT<|mL r<|aW r (iR aEA (fQ r))<|mI r<|aR (fr':=[(0,aL),(1,.fn _ []),(7,aI),(8,aI)]) r r<|bx h fun x1 y1 h2=>kC pL (fun j3=>x1=Fl.go j3) (fun (j3:Unit)=>([]:Fr)) (fun (j3:Unit)=>([]:St)) ?_ ?_
 ·
  refine dA<|jS _ (fun (s4:Int)=>([(0,.c (PV.ls 20 dM p0s)),(1,.fn 105 []),(7,ci ((p0s).length:Int)),(8,ci s4)]:Fr)) (fun (s4:Int)=>([]:St)) y1 (cR [] 0 r r r r kL4 aH) ?_
  intro s4 st4 hs4 ho4
  unfold fA at hs4
  refine aT<|aW r (iJ r r)<|aR (fr':=[(0,aL),(1,.fn _ []),(7,aI),(8,aI),(9,aB)]) r r<|bC<|eS hs4 r (fun b5 h5=>?_) (fun b5 h5=>?_)
  ·
   refine cE<|eA<|bC<|dA<|aT<|mI r<|sI r<|aR (fr':=[(0,aL),(1,.fn _ []),(5,aI),(7,aI),(8,aI)]) r r<|aT<|mV (v:=.fn _ []) r<|mL r<|mI r<|bx h5 fun x6 y6 h7=>aW r (rD (cs:=[PV.int _ _,PV.int _ _,PV.str _,PV.str _,PV.int _ _,PV.int _ _,PV.int _ _,PV.str _,PV.ls _ _ _,PV.ls _ _ _,PV.str _,PV.int _ _,PV.int _ _,PV.int _ _,PV.int _ _,PV.int _ _,PV.int _ _,PV.int _ _,PV.int _ _,PV.ls _ _ _]) aLm (fQ r) r y6 r)<|aW r (lV (us:=[PV.int _ _,PV.int _ _,PV.str _,PV.str _,PV.int _ _,PV.int _ _,PV.int _ _,PV.str _,PV.ls _ _ _,PV.ls _ _ _,PV.str _,PV.int _ _,PV.int _ _,PV.int _ _,PV.int _ _,PV.int _ _,PV.int _ _,PV.int _ _,PV.int _ _,PV.ls _ _ _]) uJ r r r)<|bx h7 fun x8 y8 h9=>qB (bR (v:=aB) r (aEG y8) ⟨(bV r aFQ),trivial⟩ r r r)<|aR (fr':=[(0,aL),(1,.fn _ []),(5,aI),(7,aI),(8,aI),(16,aB)]) r r<|eS h9 r (fun b10 h10=>?_) (fun b10 h10=>?_)
   ·
    refine aT<|mI r<|sI r<|aR (fr':=[(4,aI)]) r r<|cB<|cL<|aV<|aV<|cL<|aV<|aV ?_
    have h11:=gN h10 ho4
    have h12:=hU h11 h2
    obtain rfl:=sy h12
    exact bZ (rs':=[.tmp 4]) r<|cM (v:=aI) r<|bX<|aZ [] r r r lr aH
   ·
    exact cE<|eW<|eA<|bN<|aW r (iH r r)<|mI r<|fG (fr':=[(0,aL),(1,.fn _ []),(5,aI),(7,aI),(8,aI),(16,aB)]) r<|e_l _ (sy h10) (cR [] 0 r r r r kL4 aH)
  ·
   refine kF<|eL<|eL<|iM ?_
   have h14:=gN h5 ho4
   exact tB _ (sy h14) (cR [] 0 r r r r trivial aH)
 ·
  intro j3 hj15
  have h15:=qP hj15 h2
  refine eA<|aT<|sI r<|aR (fr':=[(4,aI)]) r r<|cB ?_
  obtain rfl:=sy h15
  exact bZ (rs':=[.tmp 4]) r<|cM (v:=aI) r<|bX<|aZ [] r r r lr aH
noncomputable def eZ (p0s:(List bL)):Option Bool :=
 (gB p0s).bind fun x1=>some (decide (0≤x1))
theorem mO {p0s:(List bL)}{z:Bool} (h:eZ p0s=some z):dE Tryz.prog 104 [.c (PV.ls 20 dM p0s),.fn 105 []] [] (.c (.bool z)) []:=by
 unfold eZ at h
 refine eJ (fn:=Tryz.f104) [0,1,4] (by kernel_rfl) Tryz.func104 r (by kernel_rfl) (by kernel_rfl)<|aT<|sB r<|aR (fr':=[(0,aL),(1,.fn _ [])]) r r<|aT<|mL r<|mV (v:=.fn _ []) r<|bx h fun x1 y1 h2=>qB (bR (v:=aI) r (nL y1) pV r r r)<|aW r (xD r r)<|sB r<|aR (fr':=[(4,aB)]) r r<|cB ?_
 obtain rfl:=sy h2
 exact bZ (rs':=[.tmp 4]) r<|cM (v:=aB) r<|bX<|aZ [] r r r lr aH
noncomputable def tS (p0q:bO):Option Bool :=
 cond (decide (p0q.Kind=1)) ((nI p0q.N 0 2).bind fun x2=>some x2) (cond (decide (p0q.Kind=8)) ((nI p0q.N 1 30).bind fun x6=>some x6) (cond (decide (p0q.Kind=9)) ((nI p0q.N 1 1000).bind fun x10=>some x10) (cond (decide (p0q.Kind=15)) (some (cond (cond (decide (p0q.N=20)) true (decide (p0q.N=21))) true (decide (p0q.N=22)))) (cond (decide (p0q.Kind=16)) (some (cond (decide (p0q.N=24)) true (decide (p0q.N=25)))) (cond (decide (p0q.Kind=17)) (some (decide (1≤p0q.N))) (some true))))))
theorem aFl {p0q:bO}{z:Bool} (h:tS p0q=some z):dE Tryz.prog 107 [.agg (AV.cs (iT p0q))] [] (.c (.bool z)) []:=by
 unfold tS at h
 refine eJ (fn:=Tryz.f107) [0,1,2,4,5,10,15,20,35,45] (by kernel_rfl) Tryz.func107 r (by kernel_rfl) (by kernel_rfl)<|aT<|jB (v:=.agg aJ) (n:=0) (cs:=aJ) (σ':=[aJ]) r r r r r<|sB r<|aR (fr':=[(1,aF)]) r r<|bC<|aT<|aW r (bH xS r)<|aW r (aK (v:=aI) gZ r r r)<|aR (fr':=[(1,aF),(4,aI)]) r r<|dA<|aT<|aW r (dZ r r)<|sB r<|aR (fr':=[(1,aF),(4,aI),(5,aB)]) r r<|eS h r (fun b1 h1=>?_) (fun b1 h1=>?_)
 ·
  refine aT<|aW r (bH uR r)<|aW r (aK (v:=aI) gZ r r r)<|bx h1 fun x2 y2 h3=>qB (bR (v:=aB) r (pF y2) wE r r r)<|sB r<|aR (fr':=[(2,aB)]) r r<|cB<|cL<|aV ?_
  obtain rfl:=sy h3
  exact bZ (rs':=[.tmp 2]) r<|cM (v:=aB) r<|bX<|aZ [] r r r lr aH
 ·
  refine aT<|aW r (dZ r r)<|sB r<|aR (fr':=[(1,aF),(4,aI),(10,aB)]) r r<|eS h1 r (fun b5 h5=>?_) (fun b5 h5=>?_)
  ·
   refine aT<|aW r (bH uR r)<|aW r (aK (v:=aI) gZ r r r)<|bx h5 fun x6 y6 h7=>qB (bR (v:=aB) r (pF y6) wE r r r)<|sB r<|aR (fr':=[(2,aB)]) r r<|cB<|cL<|aV ?_
   obtain rfl:=sy h7
   exact bZ (rs':=[.tmp 2]) r<|cM (v:=aB) r<|bX<|aZ [] r r r lr aH
  ·
   refine aT<|aW r (dZ r r)<|sB r<|aR (fr':=[(1,aF),(4,aI),(15,aB)]) r r<|eS h5 r (fun b9 h9=>?_) (fun b9 h9=>?_)
   ·
    refine aT<|aW r (bH uR r)<|aW r (aK (v:=aI) gZ r r r)<|bx h9 fun x10 y10 h11=>qB (bR (v:=aB) r (pF y10) wE r r r)<|sB r<|aR (fr':=[(2,aB)]) r r<|cB<|cL<|aV ?_
    obtain rfl:=sy h11
    exact bZ (rs':=[.tmp 2]) r<|cM (v:=aB) r<|bX<|aZ [] r r r lr aH
   ·
    refine aT<|aW r (dZ r r)<|sB r<|aR (fr':=[(1,aF),(4,aI),(20,aB)]) r r<|eS h9 r (fun b13 h13=>?_) (fun b13 h13=>?_)
    ·
     refine aT<|aW r (bH uR r)<|aW r (aK (v:=aI) gZ r r r)<|aW r (dZ r r)<|mB r<|og r r r (fun u=>(bH uR r))<|og r r r (fun u=>(aK (v:=aI) gZ (gx r u) r r))<|og r r r (fun u=>(dZ (gx r u) r))<|aW r (dD r r r (fun e=>hD e))<|mB r<|og r r r (fun u=>(bH uR r))<|og r r r (fun u=>(aK (v:=aI) gZ (gx r u) r r))<|og r r r (fun u=>(dZ (gx r u) r))<|aW r (dD r r r (fun e=>hD e))<|sB r<|aR (fr':=[(2,aB)]) r r<|cB<|cL<|aV ?_
     obtain rfl:=sy h13
     exact bZ (rs':=[.tmp 2]) r<|cM (v:=aB) r<|bX<|aZ [] r r r lr aH
    ·
     refine aT<|aW r (dZ r r)<|sB r<|aR (fr':=[(1,aF),(4,aI),(35,aB)]) r r<|eS h13 r (fun b15 h15=>?_) (fun b15 h15=>?_)
     ·
      refine aT<|aW r (bH uR r)<|aW r (aK (v:=aI) gZ r r r)<|aW r (dZ r r)<|mB r<|og r r r (fun u=>(bH uR r))<|og r r r (fun u=>(aK (v:=aI) gZ (gx r u) r r))<|og r r r (fun u=>(dZ (gx r u) r))<|aW r (dD r r r (fun e=>hD e))<|sB r<|aR (fr':=[(2,aB)]) r r<|cB<|cL<|aV ?_
      obtain rfl:=sy h15
      exact bZ (rs':=[.tmp 2]) r<|cM (v:=aB) r<|bX<|aZ [] r r r lr aH
     ·
      refine aT<|aW r (dZ r r)<|sB r<|aR (fr':=[(1,aF),(45,aB)]) r r<|eS h15 r (fun b17 h17=>?_) (fun b17 h17=>?_)
      ·
       refine aT<|aW r (bH uR r)<|aW r (aK (v:=aI) gZ r r r)<|aW r (xD r r)<|sB r<|aR (fr':=[(2,aB)]) r r<|cB<|cL<|aV ?_
       obtain rfl:=sy h17
       exact bZ (rs':=[.tmp 2]) r<|cM (v:=aB) r<|bX<|aZ [] r r r lr aH
      ·
       refine cE<|eW<|eA<|aT<|sB r<|aR (fr':=[(2,aB)]) r r<|cB ?_
       obtain rfl:=sy h17
       exact bZ (rs':=[.tmp 2]) r<|cM (v:=aB) r<|bX<|aZ [] r r r lr aH
noncomputable def uY (p0q:bO) (p1u:gE):Option Bool :=
 cond (decide (p0q.Kind=15)) ((vY p0q.ID).bind fun x2=>some (cond x2 (decide (((p0q.Name).length:Int)≤4096)) false)) (cond (decide (p0q.Kind=16)) (some (decide (((p0q.Name).length:Int)≤4096))) (cond (decide (p0q.Kind=4)) (some (decide (((p0q.Name).length:Int)≤64))) (cond (decide (p0q.Kind=11)) ((qT p0q.Name).bind fun x10=>some x10) ((gd ((!p1u.id_)==false) (qT p0q.ID)).bind fun x13=>(gd (((cond (!p1u.id_) true x13)==true)&&((!p1u.name_)==false)) (tJ p0q.Name)).bind fun x15=>some (cond (cond (!p1u.id_) true x13) (cond (!p1u.name_) true x15) false)))))
theorem aF8 {p0q:bO}{p1u:gE}{z:Bool} (h:uY p0q p1u=some z):dE Tryz.prog 108 [.agg (AV.cs (iT p0q)),.agg (AV.cs (aAw p1u))] [] (.c (.bool z)) []:=by
 unfold uY at h
 refine eJ (fn:=Tryz.f108) [0,1,2,3,4,6,7,18,24,30] (by kernel_rfl) Tryz.func108 r (by kernel_rfl) (by kernel_rfl)<|aT<|jB (v:=.agg aJ) (n:=0) (cs:=aJ) (σ':=[aJ]) r r r r r<|jB (v:=.agg bD) (n:=1) (cs:=bD) (σ':=[aJ,bD]) r r r r r<|sB r<|aR (fr':=[(2,aF),(3,bK)]) r r<|bC<|aT<|aW r (bH xS r)<|aW r (aK (v:=aI) gZ r r r)<|aR (fr':=[(2,aF),(3,bK),(6,aI)]) r r<|dA<|aT<|aW r (dZ r r)<|sB r<|aR (fr':=[(2,aF),(3,bK),(6,aI),(7,aB)]) r r<|eS h r (fun b1 h1=>?_) (fun b1 h1=>?_)
 ·
  refine aT<|aW r (bH aBN r)<|aW r (aK (v:=aS) oG r r r)<|bx h1 fun x2 y2 h3=>qB (bR (v:=aB) r (aDx y2) ⟨lr,trivial⟩ r r r)<|mB r<|og r r r (fun u=>(bH yY r))<|og r r r (fun u=>(aK (v:=aS) oG (gx r u) r r))<|og r r r (fun u=>(rN zG (gx r u)))<|og r r r (fun u=>(aAn (gx r u) r))<|aW r (cD r r r (fun e=>hD e))<|sB r<|aR (fr':=[(4,aB)]) r r<|cB<|cL<|aV ?_
  obtain rfl:=sy h3
  exact bZ (rs':=[.tmp 4]) r<|cM (v:=aB) r<|bX<|aZ [] r r r lr aH
 ·
  refine aT<|aW r (dZ r r)<|sB r<|aR (fr':=[(2,aF),(3,bK),(6,aI),(18,aB)]) r r<|eS h1 r (fun b5 h5=>?_) (fun b5 h5=>?_)
  ·
   refine aT<|aW r (bH yY r)<|aW r (aK (v:=aS) oG r r r)<|aW r (rN zG r)<|aW r (aAn r r)<|sB r<|aR (fr':=[(4,aB)]) r r<|cB<|cL<|aV ?_
   obtain rfl:=sy h5
   exact bZ (rs':=[.tmp 4]) r<|cM (v:=aB) r<|bX<|aZ [] r r r lr aH
  ·
   refine aT<|aW r (dZ r r)<|sB r<|aR (fr':=[(2,aF),(3,bK),(6,aI),(24,aB)]) r r<|eS h5 r (fun b7 h7=>?_) (fun b7 h7=>?_)
   ·
    refine aT<|aW r (bH yY r)<|aW r (aK (v:=aS) oG r r r)<|aW r (rN zG r)<|aW r (aAn r r)<|sB r<|aR (fr':=[(4,aB)]) r r<|cB<|cL<|aV ?_
    obtain rfl:=sy h7
    exact bZ (rs':=[.tmp 4]) r<|cM (v:=aB) r<|bX<|aZ [] r r r lr aH
   ·
    refine aT<|aW r (dZ r r)<|sB r<|aR (fr':=[(2,aF),(3,bK),(30,aB)]) r r<|eS h7 r (fun b9 h9=>?_) (fun b9 h9=>?_)
    ·
     refine aT<|aW r (bH yY r)<|aW r (aK (v:=aS) oG r r r)<|bx h9 fun x10 y10 h11=>qB (bR (v:=aB) r (zA y10) ⟨lr,trivial⟩ r r r)<|sB r<|aR (fr':=[(4,aB)]) r r<|cB<|cL<|aV ?_
     obtain rfl:=sy h11
     exact bZ (rs':=[.tmp 4]) r<|cM (v:=aB) r<|bX<|aZ [] r r r lr aH
    ·
     refine cE<|eW<|eA<|aT<|aW r (bH aMZ r)<|aW r (aK (v:=aB) tv4 r r r)<|aW r (hY r)<|mB r<|og r r r (fun u=>(bH aBN r))<|og r r r (fun u=>(aK (v:=aS) oG (gx r u) r r))<|bx h9 fun x13 y13 h14=>zB r r (fun u=>bR (v:=aB) r (zA (eQ y13 u)) ⟨(fY (gx r u) lr),trivial⟩ (iN (by repeat (first | exact gK | refine bI r ?_ | refine bI (vT r) ?_ | refine bI vS ?_))) r r) ?_
     refine aW r (dD r r r (fun e=>hD e))<|mB r<|og r r r (fun u=>(bH aM0 r))<|og r r r (fun u=>(aK (v:=aB) tv4 (gx r u) r r))<|og r r r (fun u=>(hY (gx r u)))<|og r r r (fun u=>(bP (v:=aB) (gx r u)))<|hS r r (fun u=>iG r (bH yY r))<|hS r r (fun u=>iG r (aK (v:=aS) oG (gx r u) r r))<|bx h14 fun x15 y15 h16=>hS r r (fun u=>bR (v:=aB) r (zY (eQ y15 u)) ⟨(fY (gx r u) lr),trivial⟩ (iN (by repeat (first | exact gK | refine bI r ?_ | refine bI (vT r) ?_ | refine bI vS ?_))) r r) ?_
     refine og r r r (fun u=>(dD (gx r u) r r (fun e=>wC u (hD e))))<|aW r (cD r r r (fun e=>hD e))<|sB r<|aR (fr':=[(4,aB)]) r r<|cB ?_
     obtain rfl:=sy h16
     exact bZ (rs':=[.tmp 4]) r<|cM (v:=aB) r<|bX<|aZ [] r r r lr aH
noncomputable def tR (jT:Int):Option gE :=
 cond (decide (jT=1)) (some (gE.mk true true false false true true true false true)) (((cond (decide (jT=2)) (some (decide (jT=2))) (some (decide (jT=5)))):Option Bool).bind fun x3=>(cond x3 (some (gE.mk true true false false false false true false false)) (cond (decide (jT=3)) (some (gE.mk true false false false false false false false false)) (cond (decide (jT=4)) (some (gE.mk false true false false false false false false false)) (cond (decide (jT=6)) (some (gE.mk false false false true false false false false false)) (cond (decide (jT=7)) (some (gE.mk false false true false false false true true false)) (cond (decide (jT=8)) (some (gE.mk false false true false false true false false false)) (cond (decide (jT=9)) (some (gE.mk false false false false true true false false false)) (((cond (decide (jT=10)) (some (decide (jT=10))) (cond (decide (jT=12)) (some (decide (jT=12))) (some (decide (jT=13))))):Option Bool).bind fun x22=>(cond x22 (some (gE.mk false false true false true false true false false)) (cond (decide (jT=11)) (some (gE.mk false true true false true false true false false)) (cond (decide (jT=15)) (some (gE.mk true true false false true true true false false)) (cond (decide (jT=16)) (some (gE.mk false true false false true true false false false)) (cond (decide (jT=17)) (some (gE.mk false false false false false true false false false)) (some (gE.mk false false false false false false false false false))))))))))))))))
theorem aFk {jT:Int}{z:gE} (h:tR jT=some z):dE Tryz.prog 97 [ci jT] [] (.agg (AV.cs (aAw z))) []:=by
 unfold tR at h
 refine eJ (fn:=Tryz.f97) [0,2,3,4,7,11,14,17,20,23,26,29,34,37,40,43] (by kernel_rfl) Tryz.func97 r (by kernel_rfl) (by kernel_rfl)<|aT<|kT (n:=0) (cs:=bD) (σ':=[bD]) aPy r r r<|aR (fr':=[(0,aI),(2,aF)]) r r<|bC<|aT<|mI r<|aR (fr':=[(2,aF),(3,aI)]) r r<|dA<|bC<|bN<|aW r (dZ r r)<|sB r<|aR (fr':=[(2,aF),(3,aI),(4,aB)]) r r<|eS h r (fun b1 h1=>?_) (fun b1 h1=>?_)
 ·
  refine aT<|aW r (lA (c0:=bD) (cs:=bD) aAT r (fT (v:=aB) (us:=[_]) (cs':=u9) r r r r r r (fT (v:=aB) (us:=[_]) (cs':=u9) r r r r r r (fT (v:=aB) (us:=[_]) (cs':=u9) r r r r r r (fT (v:=aB) (us:=[_]) (cs':=u9) r r r r r r (fT (v:=aB) (us:=[_]) (cs':=u9) r r r r r r (fT (v:=aB) (us:=[_]) (cs':=u9) r r r r r r kY)))))))<|cY (v:=.agg bD) (us:=bD) (cs:=bD) (σ':=[bD]) r pP r r r r r r r r<|aR (fr':=[(2,aF)]) r r<|cB<|cL<|aV ?_
  obtain rfl:=sy h1
  exact bZ (rs':=[.cell 2 116]) r<|hZ (us:=bD) (cs:=bD) pP r r r r<|bX<|aZ [] r r r (bV r kR9) aH
 ·
  obtain ⟨x3,y3,h4⟩:=rB h1
  refine rH (fun j5=>x3=j5) (fun (j5:Bool)=>([(2,aF),(3,ci jT),(7,.c (.bool j5))]:Fr)) (fun (j5:Bool)=>([[.c (.bool false),.c (.bool false),.c (.bool false),.c (.bool false),.c (.bool false),.c (.bool false),.c (.bool false),.c (.bool false),.c (.bool false)]]:St)) ?_ ?_
  ·
   refine aT<|aW r (dZ r r)<|sB r<|aR (fr':=[(2,aF),(3,aI),(7,aB)]) r r<|eS y3 r (fun b6 h6=>?_) (fun b6 h6=>?_)
   ·
    exact cE<|tB _ (sy h6) (cR [] 1 r r r r wE (eU r aH))
   ·
    exact bN<|aW r (dZ r r)<|sB r<|fG (fr':=[(2,aF),(3,aI),(7,aB)]) r<|tB _ (sy h6) (cR [] 1 r r r r wE (eU r aH))
  ·
   intro j5 hj7
   subst hj7
   refine eS h4 r (fun b8 h8=>?_) (fun b8 h8=>?_)
   ·
    refine aT<|aW r (lA (c0:=bD) (cs:=bD) aAT r (fT (v:=aB) (us:=[_]) (cs':=u9) r r r r r r (fT (v:=aB) (us:=[_]) (cs':=u9) r r r r r r (fT (v:=aB) (us:=[_]) (cs':=u9) r r r r r r kY))))<|cY (v:=.agg bD) (us:=bD) (cs:=bD) (σ':=[bD]) r pP r r r r r r r r<|aR (fr':=[(2,aF)]) r r<|cB<|cL<|aV ?_
    obtain rfl:=sy h8
    exact bZ (rs':=[.cell 2 116]) r<|hZ (us:=bD) (cs:=bD) pP r r r r<|bX<|aZ [] r r r (bV r kR9) aH
   ·
    refine aT<|aW r (dZ r r)<|sB r<|aR (fr':=[(2,aF),(3,aI),(11,aB)]) r r<|eS h8 r (fun b10 h10=>?_) (fun b10 h10=>?_)
    ·
     refine aT<|aW r (lA (c0:=bD) (cs:=bD) aAT r (fT (v:=aB) (us:=[_]) (cs':=u9) r r r r r r kY))<|cY (v:=.agg bD) (us:=bD) (cs:=bD) (σ':=[bD]) r pP r r r r r r r r<|aR (fr':=[(2,aF)]) r r<|cB<|cL<|aV ?_
     obtain rfl:=sy h10
     exact bZ (rs':=[.cell 2 116]) r<|hZ (us:=bD) (cs:=bD) pP r r r r<|bX<|aZ [] r r r (bV r kR9) aH
    ·
     refine aT<|aW r (dZ r r)<|sB r<|aR (fr':=[(2,aF),(3,aI),(14,aB)]) r r<|eS h10 r (fun b12 h12=>?_) (fun b12 h12=>?_)
     ·
      refine aT<|aW r (lA (c0:=bD) (cs:=bD) aAT r (fT (v:=aB) (us:=[_]) (cs':=u9) r r r r r r kY))<|cY (v:=.agg bD) (us:=bD) (cs:=bD) (σ':=[bD]) r pP r r r r r r r r<|aR (fr':=[(2,aF)]) r r<|cB<|cL<|aV ?_
      obtain rfl:=sy h12
      exact bZ (rs':=[.cell 2 116]) r<|hZ (us:=bD) (cs:=bD) pP r r r r<|bX<|aZ [] r r r (bV r kR9) aH
     ·
      refine aT<|aW r (dZ r r)<|sB r<|aR (fr':=[(2,aF),(3,aI),(17,aB)]) r r<|eS h12 r (fun b14 h14=>?_) (fun b14 h14=>?_)
      ·
       refine aT<|aW r (lA (c0:=bD) (cs:=bD) aAT r (fT (v:=aB) (us:=[_]) (cs':=u9) r r r r r r kY))<|cY (v:=.agg bD) (us:=bD) (cs:=bD) (σ':=[bD]) r pP r r r r r r r r<|aR (fr':=[(2,aF)]) r r<|cB<|cL<|aV ?_
       obtain rfl:=sy h14
       exact bZ (rs':=[.cell 2 116]) r<|hZ (us:=bD) (cs:=bD) pP r r r r<|bX<|aZ [] r r r (bV r kR9) aH
      ·
       refine aT<|aW r (dZ r r)<|sB r<|aR (fr':=[(2,aF),(3,aI),(20,aB)]) r r<|eS h14 r (fun b16 h16=>?_) (fun b16 h16=>?_)
       ·
        refine aT<|aW r (lA (c0:=bD) (cs:=bD) aAT r (fT (v:=aB) (us:=[_]) (cs':=u9) r r r r r r (fT (v:=aB) (us:=[_]) (cs':=u9) r r r r r r (fT (v:=aB) (us:=[_]) (cs':=u9) r r r r r r kY))))<|cY (v:=.agg bD) (us:=bD) (cs:=bD) (σ':=[bD]) r pP r r r r r r r r<|aR (fr':=[(2,aF)]) r r<|cB<|cL<|aV ?_
        obtain rfl:=sy h16
        exact bZ (rs':=[.cell 2 116]) r<|hZ (us:=bD) (cs:=bD) pP r r r r<|bX<|aZ [] r r r (bV r kR9) aH
       ·
        refine aT<|aW r (dZ r r)<|sB r<|aR (fr':=[(2,aF),(3,aI),(23,aB)]) r r<|eS h16 r (fun b18 h18=>?_) (fun b18 h18=>?_)
        ·
         refine aT<|aW r (lA (c0:=bD) (cs:=bD) aAT r (fT (v:=aB) (us:=[_]) (cs':=u9) r r r r r r (fT (v:=aB) (us:=[_]) (cs':=u9) r r r r r r kY)))<|cY (v:=.agg bD) (us:=bD) (cs:=bD) (σ':=[bD]) r pP r r r r r r r r<|aR (fr':=[(2,aF)]) r r<|cB<|cL<|aV ?_
         obtain rfl:=sy h18
         exact bZ (rs':=[.cell 2 116]) r<|hZ (us:=bD) (cs:=bD) pP r r r r<|bX<|aZ [] r r r (bV r kR9) aH
        ·
         refine aT<|aW r (dZ r r)<|sB r<|aR (fr':=[(2,aF),(3,aI),(26,aB)]) r r<|eS h18 r (fun b20 h20=>?_) (fun b20 h20=>?_)
         ·
          refine aT<|aW r (lA (c0:=bD) (cs:=bD) aAT r (fT (v:=aB) (us:=[_]) (cs':=u9) r r r r r r (fT (v:=aB) (us:=[_]) (cs':=u9) r r r r r r kY)))<|cY (v:=.agg bD) (us:=bD) (cs:=bD) (σ':=[bD]) r pP r r r r r r r r<|aR (fr':=[(2,aF)]) r r<|cB<|cL<|aV ?_
          obtain rfl:=sy h20
          exact bZ (rs':=[.cell 2 116]) r<|hZ (us:=bD) (cs:=bD) pP r r r r<|bX<|aZ [] r r r (bV r kR9) aH
         ·
          obtain ⟨x22,y22,h23⟩:=rB h20
          refine rH (fun j24=>x22=j24) (fun (j24:Bool)=>([(2,aF),(3,ci jT),(29,.c (.bool j24))]:Fr)) (fun (j24:Bool)=>([[.c (.bool false),.c (.bool false),.c (.bool false),.c (.bool false),.c (.bool false),.c (.bool false),.c (.bool false),.c (.bool false),.c (.bool false)]]:St)) ?_ ?_
          ·
           refine aT<|aW r (dZ r r)<|sB r<|aR (fr':=[(2,aF),(3,aI),(29,aB)]) r r<|eS y22 r (fun b25 h25=>?_) (fun b25 h25=>?_)
           ·
            exact cE<|tB _ (sy h25) (cR [] 1 r r r r wE (eU r aH))
           ·
            refine aT<|aW r (dZ r r)<|sB r<|aR (fr':=[(2,aF),(3,aI),(29,aB)]) r r<|eS h25 r (fun b26 h26=>?_) (fun b26 h26=>?_)
            ·
             exact cE<|tB _ (sy h26) (cR [] 1 r r r r wE (eU r aH))
            ·
             exact bN<|aW r (dZ r r)<|sB r<|fG (fr':=[(2,aF),(3,aI),(29,aB)]) r<|tB _ (sy h26) (cR [] 1 r r r r wE (eU r aH))
          ·
           intro j24 hj27
           subst hj27
           refine eS h23 r (fun b28 h28=>?_) (fun b28 h28=>?_)
           ·
            refine aT<|aW r (lA (c0:=bD) (cs:=bD) aAT r (fT (v:=aB) (us:=[_]) (cs':=u9) r r r r r r (fT (v:=aB) (us:=[_]) (cs':=u9) r r r r r r (fT (v:=aB) (us:=[_]) (cs':=u9) r r r r r r kY))))<|cY (v:=.agg bD) (us:=bD) (cs:=bD) (σ':=[bD]) r pP r r r r r r r r<|aR (fr':=[(2,aF)]) r r<|cB<|cL<|aV ?_
            obtain rfl:=sy h28
            exact bZ (rs':=[.cell 2 116]) r<|hZ (us:=bD) (cs:=bD) pP r r r r<|bX<|aZ [] r r r (bV r kR9) aH
           ·
            refine aT<|aW r (dZ r r)<|sB r<|aR (fr':=[(2,aF),(3,aI),(34,aB)]) r r<|eS h28 r (fun b30 h30=>?_) (fun b30 h30=>?_)
            ·
             refine aT<|aW r (lA (c0:=bD) (cs:=bD) aAT r (fT (v:=aB) (us:=[_]) (cs':=u9) r r r r r r (fT (v:=aB) (us:=[_]) (cs':=u9) r r r r r r (fT (v:=aB) (us:=[_]) (cs':=u9) r r r r r r (fT (v:=aB) (us:=[_]) (cs':=u9) r r r r r r kY)))))<|cY (v:=.agg bD) (us:=bD) (cs:=bD) (σ':=[bD]) r pP r r r r r r r r<|aR (fr':=[(2,aF)]) r r<|cB<|cL<|aV ?_
             obtain rfl:=sy h30
             exact bZ (rs':=[.cell 2 116]) r<|hZ (us:=bD) (cs:=bD) pP r r r r<|bX<|aZ [] r r r (bV r kR9) aH
            ·
             refine aT<|aW r (dZ r r)<|sB r<|aR (fr':=[(2,aF),(3,aI),(37,aB)]) r r<|eS h30 r (fun b32 h32=>?_) (fun b32 h32=>?_)
             ·
              refine aT<|aW r (lA (c0:=bD) (cs:=bD) aAT r (fT (v:=aB) (us:=[_]) (cs':=u9) r r r r r r (fT (v:=aB) (us:=[_]) (cs':=u9) r r r r r r (fT (v:=aB) (us:=[_]) (cs':=u9) r r r r r r (fT (v:=aB) (us:=[_]) (cs':=u9) r r r r r r (fT (v:=aB) (us:=[_]) (cs':=u9) r r r r r r kY))))))<|cY (v:=.agg bD) (us:=bD) (cs:=bD) (σ':=[bD]) r pP r r r r r r r r<|aR (fr':=[(2,aF)]) r r<|cB<|cL<|aV ?_
              obtain rfl:=sy h32
              exact bZ (rs':=[.cell 2 116]) r<|hZ (us:=bD) (cs:=bD) pP r r r r<|bX<|aZ [] r r r (bV r kR9) aH
             ·
              refine aT<|aW r (dZ r r)<|sB r<|aR (fr':=[(2,aF),(3,aI),(40,aB)]) r r<|eS h32 r (fun b34 h34=>?_) (fun b34 h34=>?_)
              ·
               refine aT<|aW r (lA (c0:=bD) (cs:=bD) aAT r (fT (v:=aB) (us:=[_]) (cs':=u9) r r r r r r (fT (v:=aB) (us:=[_]) (cs':=u9) r r r r r r (fT (v:=aB) (us:=[_]) (cs':=u9) r r r r r r kY))))<|cY (v:=.agg bD) (us:=bD) (cs:=bD) (σ':=[bD]) r pP r r r r r r r r<|aR (fr':=[(2,aF)]) r r<|cB<|cL<|aV ?_
               obtain rfl:=sy h34
               exact bZ (rs':=[.cell 2 116]) r<|hZ (us:=bD) (cs:=bD) pP r r r r<|bX<|aZ [] r r r (bV r kR9) aH
              ·
               refine aT<|aW r (dZ r r)<|sB r<|aR (fr':=[(2,aF),(43,aB)]) r r<|eS h34 r (fun b36 h36=>?_) (fun b36 h36=>?_)
               ·
                refine aT<|aW r (lA (c0:=bD) (cs:=bD) aAT r (fT (v:=aB) (us:=[_]) (cs':=u9) r r r r r r kY))<|cY (v:=.agg bD) (us:=bD) (cs:=bD) (σ':=[bD]) r pP r r r r r r r r<|aR (fr':=[(2,aF)]) r r<|cB<|cL<|aV ?_
                obtain rfl:=sy h36
                exact bZ (rs':=[.cell 2 116]) r<|hZ (us:=bD) (cs:=bD) pP r r r r<|bX<|aZ [] r r r (bV r kR9) aH
               ·
                refine cE<|eW<|eA<|aT<|aW r (lA (c0:=bD) (cs:=bD) aAT r kY)<|cY (v:=.agg bD) (us:=bD) (cs:=bD) (σ':=[bD]) r pP r r r r r r r r<|aR (fr':=[(2,aF)]) r r<|cB ?_
                obtain rfl:=sy h36
                exact bZ (rs':=[.cell 2 116]) r<|hZ (us:=bD) (cs:=bD) pP r r r r<|bX<|aZ [] r r r (bV r kR9) aH
noncomputable def wR (p0q:bO) (p1u:gE):Option Bool :=
 (gd (((cond (cond (cond (cond (cond (cond p1u.id_ true (decide (p0q.ID=([]:List UInt8)))) (cond p1u.name_ true (decide (p0q.Name=([]:List UInt8)))) false) (cond p1u.token_ true (decide (p0q.Token=0))) false) (cond p1u.event_ true (decide (p0q.Event=0))) false) (cond p1u.seq_ true (decide (p0q.Seq=0))) false) (cond p1u.n_ true (decide (p0q.N=0))) false)==true)&&(p1u.data_==false)) (tV p0q.Data (aE.mk 0 0 ([]:List UInt8) ([]:(List aE)) ([]:(List (List UInt8)))))).bind fun x1=>(gd ((cond (cond (cond (cond (cond (cond (cond (cond (cond p1u.id_ true (decide (p0q.ID=([]:List UInt8)))) (cond p1u.name_ true (decide (p0q.Name=([]:List UInt8)))) false) (cond p1u.token_ true (decide (p0q.Token=0))) false) (cond p1u.event_ true (decide (p0q.Event=0))) false) (cond p1u.seq_ true (decide (p0q.Seq=0))) false) (cond p1u.n_ true (decide (p0q.N=0))) false) (cond p1u.data_ true x1) false) (cond p1u.commands_ true (decide (((p0q.Commands).length:Int)=0))) false) (cond p1u.parent_ true (decide (p0q.Parent=([]:List UInt8)))) false)==true) (jZ p0q.Opts (dB.mk ([]:List UInt8) 0 0 0 0 0 0 0 0 ([]:(List (List UInt8)))))).bind fun x3=>some (cond (cond (cond (cond (cond (cond (cond (cond (cond (cond p1u.id_ true (decide (p0q.ID=([]:List UInt8)))) (cond p1u.name_ true (decide (p0q.Name=([]:List UInt8)))) false) (cond p1u.token_ true (decide (p0q.Token=0))) false) (cond p1u.event_ true (decide (p0q.Event=0))) false) (cond p1u.seq_ true (decide (p0q.Seq=0))) false) (cond p1u.n_ true (decide (p0q.N=0))) false) (cond p1u.data_ true x1) false) (cond p1u.commands_ true (decide (((p0q.Commands).length:Int)=0))) false) (cond p1u.parent_ true (decide (p0q.Parent=([]:List UInt8)))) false) x3 false)
theorem aHI {p0q:bO}{p1u:gE}{z:Bool} (h:wR p0q p1u=some z):dE Tryz.prog 99 [.agg (AV.cs (iT p0q)),.agg (AV.cs (aAw p1u))] [] (.c (.bool z)) []:=by
 unfold wR at h
 refine eJ (fn:=Tryz.f99) [0,1,2,3,4] (by kernel_rfl) Tryz.func99 r (by kernel_rfl) (by kernel_rfl)<|aT<|jB (v:=.agg aJ) (n:=0) (cs:=aJ) (σ':=[aJ]) r r r r r<|jB (v:=.agg bD) (n:=1) (cs:=bD) (σ':=[aJ,bD]) r r r r r<|sB r<|aR (fr':=[(2,aF),(3,bK)]) r r<|aT<|aW r (bH aMZ r)<|aW r (aK (v:=aB) tv4 r r r)<|mB r<|og r r r (fun u=>(bH aBN r))<|og r r r (fun u=>(aK (v:=aS) oG (gx r u) r r))<|og r r r (fun u=>(oS (gx r u) r))<|aW r (dD r r r (fun e=>hD e))<|mB r<|og r r r (fun u=>(bH aM0 r))<|og r r r (fun u=>(aK (v:=aB) tv4 (gx r u) r r))<|og r r r (fun u=>(bP (v:=aB) (gx r u)))<|hS r r (fun u=>iG r (bH yY r))<|hS r r (fun u=>iG r (aK (v:=aS) oG (gx r u) r r))<|hS r r (fun u=>iG r (oS (gx r u) r))<|og r r r (fun u=>(dD (gx r u) r r (fun e=>wC u (hD e))))<|aW r (cD r r r (fun e=>hD e))<|mB r<|og r r r (fun u=>(bH aM1 r))<|og r r r (fun u=>(aK (v:=aB) tv4 (gx r u) r r))<|og r r r (fun u=>(bP (v:=aB) (gx r u)))<|hS r r (fun u=>iG r (bH aCI r))<|hS r r (fun u=>iG r (aK (v:=aI) gZ (gx r u) r r))<|hS r r (fun u=>iG r (dZ (gx r u) r))<|og r r r (fun u=>(dD (gx r u) r r (fun e=>wC u (hD e))))<|aW r (cD r r r (fun e=>hD e))<|mB r<|og r r r (fun u=>(bH aM2 r))<|og r r r (fun u=>(aK (v:=aB) tv4 (gx r u) r r))<|og r r r (fun u=>(bP (v:=aB) (gx r u)))<|hS r r (fun u=>iG r (bH aCJ r))<|hS r r (fun u=>iG r (aK (v:=aI) gZ (gx r u) r r))<|hS r r (fun u=>iG r (dZ (gx r u) r))<|og r r r (fun u=>(dD (gx r u) r r (fun e=>wC u (hD e))))<|aW r (cD r r r (fun e=>hD e))<|mB r<|og r r r (fun u=>(bH aM3 r))<|og r r r (fun u=>(aK (v:=aB) tv4 (gx r u) r r))<|og r r r (fun u=>(bP (v:=aB) (gx r u)))<|hS r r (fun u=>iG r (bH aCK r))<|hS r r (fun u=>iG r (aK (v:=aI) gZ (gx r u) r r))<|hS r r (fun u=>iG r (dZ (gx r u) r))<|og r r r (fun u=>(dD (gx r u) r r (fun e=>wC u (hD e))))<|aW r (cD r r r (fun e=>hD e))<|mB r<|og r r r (fun u=>(bH aQr r))<|og r r r (fun u=>(aK (v:=aB) tv4 (gx r u) r r))<|og r r r (fun u=>(bP (v:=aB) (gx r u)))<|hS r r (fun u=>iG r (bH uR r))<|hS r r (fun u=>iG r (aK (v:=aI) gZ (gx r u) r r))<|hS r r (fun u=>iG r (dZ (gx r u) r))<|og r r r (fun u=>(dD (gx r u) r r (fun e=>wC u (hD e))))<|aW r (cD r r r (fun e=>hD e))<|mB r<|og r r r (fun u=>(bH aQs r))<|og r r r (fun u=>(aK (v:=aB) tv4 (gx r u) r r))<|og r r r (fun u=>(bP (v:=aB) (gx r u)))<|hS r r (fun u=>iG r (bH aAW r))<|hS r r (fun u=>iG r (dN (us:=cK) jG (gx r u) r r r))<|hS r r (fun u=>iG r (mG (cs:=cJ) aH5 r))<|bx h fun x1 y1 h2=>hS r r (fun u=>bR (v:=aB) r (uI (eQ y1 u)) ⟨(fY (gx r u) (bV r kR5)),(fY (gx r u) (bV r ⟨r,r,r,⟨_,r⟩,⟨_,r⟩,trivial⟩)),trivial⟩ (iN (by repeat (first | exact gK | refine bI r ?_ | refine bI (vT r) ?_ | refine bI vS ?_))) r r) ?_
 refine og r r r (fun u=>(dD (gx r u) r r (fun e=>wC u (hD e))))<|aW r (cD r r r (fun e=>hD e))<|mB r<|og r r r (fun u=>(bH aQt r))<|og r r r (fun u=>(aK (v:=aB) tv4 (gx r u) r r))<|og r r r (fun u=>(bP (v:=aB) (gx r u)))<|hS r r (fun u=>iG r (bH vG r))<|hS r r (fun u=>iG r (aK (v:=aL) aF1 (gx r u) r r))<|hS r r (fun u=>iG r (iR aEA (fQ (gx r u))))<|hS r r (fun u=>iG r (dZ (gx r u) r))<|og r r r (fun u=>(dD (gx r u) r r (fun e=>wC u (hD e))))<|aW r (cD r r r (fun e=>hD e))<|mB r<|og r r r (fun u=>(bH aQu r))<|og r r r (fun u=>(aK (v:=aB) tv4 (gx r u) r r))<|og r r r (fun u=>(bP (v:=aB) (gx r u)))<|hS r r (fun u=>iG r (bH aAX r))<|hS r r (fun u=>iG r (aK (v:=aS) oG (gx r u) r r))<|hS r r (fun u=>iG r (oS (gx r u) r))<|og r r r (fun u=>(dD (gx r u) r r (fun e=>wC u (hD e))))<|aW r (cD r r r (fun e=>hD e))<|mB r<|og r r r (fun u=>(bH aEz r))<|og r r r (fun u=>(dN (us:=dK) zU (gx r u) r r r))<|og r r r (fun u=>(lA (c0:=bU) (cs:=bU) aRI r kY))<|bx h2 fun x3 y3 h4=>zB r r (fun u=>bR (v:=aB) r (oD (eQ y3 u)) ⟨(fY (gx r u) (bV r yM)),(fY (gx r u) (bV r ⟨r,r,r,r,r,r,r,r,r,⟨_,r⟩,trivial⟩)),trivial⟩ (iN (by repeat (first | exact gK | refine bI r ?_ | refine bI (vT r) ?_ | refine bI vS ?_))) r r) ?_
 refine aW r (cD r r r (fun e=>hD e))<|sB r<|aR (fr':=[(4,aB)]) r r<|cB ?_
 obtain rfl:=sy h4
 exact bZ (rs':=[.tmp 4]) r<|cM (v:=aB) r<|bX<|aZ [] r r r lr aH
