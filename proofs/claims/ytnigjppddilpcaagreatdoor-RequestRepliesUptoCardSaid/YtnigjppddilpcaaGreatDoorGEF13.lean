import Derived.Test.YtnigjppddilpcaaGreatDoorGETy
import Derived.Test.YtnigjppddilpcaaGreatDoorGEF0
import Derived.Test.YtnigjppddilpcaaGreatDoorGEF1
import Derived.Test.YtnigjppddilpcaaGreatDoorGEF2
import Derived.Test.YtnigjppddilpcaaGreatDoorGEF3
import Derived.Test.YtnigjppddilpcaaGreatDoorGEF4
import Derived.Test.YtnigjppddilpcaaGreatDoorGEF6
import Derived.Test.YtnigjppddilpcaaGreatDoorGEF10
import Derived.Test.YtnigjppddilpcaaGreatDoorGEF12
namespace Go.Proofs.YtnigjppddilpcaaGreatDoor
open Go Abs
set_option maxRecDepth 100000
set_option linter.unusedVariables false
set_option linter.unusedSimpArgs false
noncomputable def nU (p0n:Int) (oK:Int) (lO:Int):Option Bool :=
 some (cond (decide (oK≤p0n)) (decide (p0n≤lO)) false)
theorem oQ {p0n:Int}{oK:Int}{lO:Int}{z:Bool} (h:nU p0n oK lO=some z):cR Tryz.prog 98 [ci p0n,ci oK,ci lO] [] (.c (.bool z)) []:=by
 unfold nU at h
 refine dQ (fn:=Tryz.f98) [0,1,2,6] (by kernel_rfl) Tryz.func98 r (by kernel_rfl) (by kernel_rfl)<|aH<|sB r<|aG (fr':=[(0,aI),(1,aI),(2,aI)]) r r<|aH<|mI r<|mI r<|aN r (qR r r)<|mB r<|og r r r (fun u=>(bS (v:=aI) r))<|og r r r (fun u=>(bS (v:=aI) r))<|og r r r (fun u=>(qH (gx r u) (gx r u)))<|aN r (cB r r r (fun e=>fU e))<|sB r<|aG (fr':=[(6,aB)]) r r<|bJ ?_
 obtain rfl:=sy h
 exact bI (rs':=[.tmp 6]) r<|bX (v:=aB) r<|bG<|aP [] r r r lr aC
noncomputable def aDm (p0s:(List UInt8)) (s4:Int):Option (dU Int (Fl Bool Unit)) :=
 cond (decide (s4<((p0s).length:Int))) ((mP p0s s4).bind fun x6=>(gd ((decide (((x6).toNat:Int)<33))==false) (mP p0s s4)).bind fun x8=>(gd ((cond (decide (((x6).toNat:Int)<33)) true (decide (126<((x8).toNat:Int))))==false) (mP p0s s4)).bind fun x10=>(gd ((cond (cond (decide (((x6).toNat:Int)<33)) true (decide (126<((x8).toNat:Int)))) true (decide (((x10).toNat:Int)=47)))==false) (mP p0s s4)).bind fun x12=>cond (cond (cond (cond (decide (((x6).toNat:Int)<33)) true (decide (126<((x8).toNat:Int)))) true (decide (((x10).toNat:Int)=47))) true (decide (((x12).toNat:Int)=34))) (some (dU.out (Fl.done false))) (some (dU.next (IntKind.wrap .i64 (s4+1))))) (some (dU.out (Fl.go ())))
noncomputable def tX (p0s:(List UInt8)):Option Bool :=
 (gL (aDm p0s) (0)).bind fun x1=>Fl.next x1 (fun j3=>((nU ((p0s).length:Int) 1 64).bind fun x20=>some x20))
theorem aBJ {p0s:(List UInt8)}{z:Bool} (h:tX p0s=some z):cR Tryz.prog 101 [.c (.str p0s)] [] (.c (.bool z)) []:=by
 unfold tX at h
 refine dQ (fn:=Tryz.f101) [0,2,3,5,6,7,30] (by kernel_rfl) Tryz.func101 r (by kernel_rfl) (by kernel_rfl)<|aH<|sB r<|aG (fr':=[(0,aS)]) r r<|aU<|aH<|mS r<|aN r (kV uD r)<|mI r<|aG (fr':=[(0,aS),(5,aI),(6,aI)]) r r<|bx h fun x1 y1 h2=>gY kS (fun j3=>x1=Fl.go j3) (fun (j3:Unit)=>([(0,.c (.str p0s))]:Fr)) (fun (j3:Unit)=>([]:St)) ?_ ?_
 ·
  refine cE<|gU _ (fun (s4:Int)=>([(0,.c (.str p0s)),(5,ci ((p0s).length:Int)),(6,ci s4)]:Fr)) (fun (s4:Int)=>([]:St)) y1 (bH [] 0 r r r r lG aC) ?_
  intro s4 st4 hs4 ho4
  unfold aDm at hs4
  refine aH<|aN r (gC r r)<|aG (fr':=[(0,aS),(5,aI),(6,aI),(7,aB)]) r r<|aU<|cN hs4 r (fun b5 h5=>?_) (fun b5 h5=>?_)
  ·
   refine bL<|cY<|aU<|cE<|aH<|mI r<|sI r<|aG (fr':=[(0,aS),(3,aI),(5,aI),(6,aI)]) r r<|aH<|mS r<|mI r<|bx h5 fun x6 y6 h7=>aN r (aAU uD r r y6)<|aN r (gC r r)<|mB r<|og r r r (fun u=>(bS (v:=aS) r))<|og r r r (fun u=>(bS (v:=aI) r))<|bx h7 fun x8 y8 h9=>og r r r (fun u=>(aAU uD (gx r u) (gx r u) (cZ y8 u)))<|og r r r (fun u=>(sP (gx r u) r))<|aN r (cM r r r (fun e=>fU e))<|mB r<|og r r r (fun u=>(bS (v:=aS) r))<|og r r r (fun u=>(bS (v:=aI) r))<|bx h9 fun x10 y10 h11=>og r r r (fun u=>(aAU uD (gx r u) (gx r u) (cZ y10 u)))<|og r r r (fun u=>(cC (gx r u) r))<|aN r (cM r r r (fun e=>fU e))<|mB r<|og r r r (fun u=>(bS (v:=aS) r))<|og r r r (fun u=>(bS (v:=aI) r))<|bx h11 fun x12 y12 h13=>og r r r (fun u=>(aAU uD (gx r u) (gx r u) (cZ y12 u)))<|og r r r (fun u=>(cC (gx r u) r))<|aN r (cM r r r (fun e=>fU e))<|aG (fr':=[(0,aS),(5,aI),(6,aI),(30,aB)]) r r<|cN h13 r (fun b14 h14=>?_) (fun b14 h14=>?_)
   ·
    refine aH<|sB r<|aG (fr':=[(2,aB)]) r r<|bJ<|bM<|aQ<|aQ<|bM<|aQ<|aQ ?_
    have h15:=eZ h14 ho4
    have h16:=gT h15 h2
    obtain rfl:=sy h16
    exact bI (rs':=[.tmp 2]) r<|bX (v:=aB) r<|bG<|aP [] r r r lr aC
   ·
    exact bL<|dH<|cY<|bA<|aN r (fY r r)<|mI r<|dT (fr':=[(0,aS),(5,aI),(6,aI),(30,aB)]) r<|e_l _ (sy h14) (bH [] 0 r r r r lG aC)
  ·
   refine iA<|cX<|cX<|fS ?_
   have h18:=eZ h5 ho4
   exact kI _ (sy h18) (bH [] 0 r r r r ⟨lr,trivial⟩ aC)
 ·
  intro j3 hj19
  have h19:=mY hj19 h2
  refine cY<|aH<|mS r<|aN r (kV uD r)<|bx h19 fun x20 y20 h21=>kB (bC (v:=aB) r (oQ y20) lG r r r)<|sB r<|aG (fr':=[(2,aB)]) r r<|bJ ?_
  obtain rfl:=sy h21
  exact bI (rs':=[.tmp 2]) r<|bX (v:=aB) r<|bG<|aP [] r r r lr aC
noncomputable def xY (p0s:(List UInt8)):Option Bool :=
 (aAh p0s).bind fun x1=>some (cond (decide (p0s=([]:List UInt8))) true x1.2)
theorem aDa {p0s:(List UInt8)}{z:Bool} (h:xY p0s=some z):cR Tryz.prog 102 [.c (.str p0s)] [] (.c (.bool z)) []:=by
 unfold xY at h
 refine dQ (fn:=Tryz.f102) [0,2,4] (by kernel_rfl) Tryz.func102 r (by kernel_rfl) (by kernel_rfl)<|aH<|sB r<|aG (fr':=[(0,aS)]) r r<|aH<|mS r<|bx h fun x1 y1 h2=>kB (bC (v:=.tup [aI,aB]) r (aFG y1) ⟨lr,trivial⟩ r r r)<|mV (v:=.tup [aI,aB]) r<|aN r (aAu (v:=aI) r r)<|aN r (aAu (v:=aB) r r)<|sI r<|sB r<|aG (fr':=[(0,aS),(4,aB)]) r r<|aH<|mS r<|aN r (qZ r r)<|mB r<|og r r r (fun u=>(bS (v:=aB) r))<|aN r (cM r r r (fun e=>fU e))<|sB r<|aG (fr':=[(2,aB)]) r r<|bJ ?_
 obtain rfl:=sy h2
 exact bI (rs':=[.tmp 2]) r<|bX (v:=aB) r<|bG<|aP [] r r r lr aC
noncomputable def xA (p0C:(List UInt8)) (p1o:(List UInt8)):Option Int :=
 match p1o with
 | [c]=>some (Lib.indexByte p0C c)
 | _=>none
theorem aFn {p0C:(List UInt8)}{p1o:(List UInt8)}{z:Int} (h:xA p0C p1o=some z):cR Tryz.prog 224 [.c (.str p0C),.c (.str p1o)] [] (ci z) []:=by
 unfold xA at h
 split at h
 ·
  rename_i c
  cases h
  refine aFH (by kernel_rfl) fun g w vs hv hI hg=>?_
  rw [aPU hv]
  refine (Tryz.stringslite_Index_one ⟨p0C.toArray⟩ c w).mono fun e w'=>?_
  rintro ⟨rfl,rfl⟩
  exact ⟨_,r,RowKit.Below.refl _ _,fun g'=>.c (.int _ _)⟩
 ·
  cases h
noncomputable def zS (p0s:(List UInt8)) (aEz:(List UInt8)):Option ((List UInt8) × (List UInt8) × Bool) :=
 (xA p0s aEz).bind fun x1=>cond (decide (0≤x1)) ((aSE p0s x1).bind fun x4=>(aPk p0s (IntKind.wrap .i64 (x1+((aEz).length:Int)))).bind fun x6=>some ((List.take (Int.toNat x1) p0s),(List.drop (Int.toNat (IntKind.wrap .i64 (x1+((aEz).length:Int)))) p0s),true)) (some (p0s,([]:List UInt8),false))
theorem aHi {p0s:(List UInt8)}{aEz:(List UInt8)}{z:((List UInt8) × (List UInt8) × Bool)} (h:zS p0s aEz=some z):cR Tryz.prog 214 [.c (.str p0s),.c (.str aEz)] [] (.tup [.c (.str z.1),.c (.str z.2.1),.c (.bool z.2.2)]) []:=by
 unfold zS at h
 refine dQ (fn:=Tryz.f214) [0,1,4,5,6,7,12] (by kernel_rfl) Tryz.func214 r (by kernel_rfl) (by kernel_rfl)<|aH<|sS r<|sS r<|sB r<|aG (fr':=[(0,aS),(1,aS)]) r r<|aU<|aH<|mS r<|mS r<|bx h fun x1 y1 h2=>kB (bC (v:=aI) r (aFn y1) kU r r r)<|sI r<|aG (fr':=[(0,aS),(1,aS),(7,aI)]) r r<|aH<|mI r<|aN r (qR r r)<|aG (fr':=[(0,aS),(1,aS),(7,aI),(12,aB)]) r r<|cN h2 r (fun b3 h3=>?_) (fun b3 h3=>?_)
 ·
  refine aU<|mW [.q 0,.q 1,.q 2,.q 3,.q 4,.q 5,.q 6,.q 7,.q 8,.n 9 [3,4,5,6,7,8],.n 10 [],.n 11 []] [(some 13,[0]),(some 14,[7]),(some 15,[13,14]),(some 16,[0]),(some 17,[7]),(some 18,[1]),(some 19,[18]),(some 20,[17,19]),(some 21,[16,20]),(some 4,[15]),(some 5,[21]),(some 6,[])] [0,0,3,0,0,0,32,112,248,7,1023,2047] (by kernel_rfl)<|dq r r (bS (v:=aS) r)<|dq r r (bS (v:=aI) r)<|bx h3 fun x4 y4 h5=>dq r r (aTo uD r r (aQ6 y4).1)<|dq r r (bS (v:=aS) r)<|dq r r (bS (v:=aI) r)<|dq r r (bS (v:=aS) r)<|dq r r (kV uD r)<|dq r r (fY r r)<|bx h5 fun x6 y6 h7=>dq r r (aPS uD r r (aHL y6).1)<|d_n r ?_ r
  refine sS r<|aEx<|⟨(aIC (v:=aS) r r (aC3 r (bS (v:=aS) r)) (aIC (v:=aI) r r (aC3 r (bS (v:=aI) r)) (aIC (v:=aS) r r (aC3 r (bS (v:=aS) r)) (aIC (v:=aI) r r (aC3 r (kV uD r)) (aIC (v:=aI) r r (aC3 r (fY r r)) (aIC (v:=aS) r r (aC3 r (aPS uD r r (aHL y6).1)) xN)))))),?_⟩
  refine d_n r ?_ r
  refine sS r<|aEx<|⟨xN,?_⟩
  refine d_n r ?_ r
  refine sB r<|aEx<|⟨xN,?_⟩
  refine aBl (fr':=[(4,aS),(5,aS),(6,aB)]) r r<|bJ<|aQ ?_
  obtain rfl:=sy h7
  exact bI (rs':=[.tmp 4,.tmp 5,.tmp 6]) r<|bX (v:=aS) r<|bX (v:=aS) r<|bX (v:=aB) r<|bG<|aP [] r r r (qQ r lG) aC
 ·
  refine bL<|cY<|aH<|mS r<|sS r<|sS r<|sB r<|aG (fr':=[(4,aS),(5,aS),(6,aB)]) r r<|bJ ?_
  obtain rfl:=sy h3
  exact bI (rs':=[.tmp 4,.tmp 5,.tmp 6]) r<|bX (v:=aS) r<|bX (v:=aS) r<|bX (v:=aB) r<|bG<|aP [] r r r (qQ r lG) aC
noncomputable def aBv (p0s:(List UInt8)) (aEz:(List UInt8)):Option ((List UInt8) × (List UInt8) × Bool) :=
 (zS p0s aEz).bind fun x1=>some (x1.1,x1.2.1,x1.2.2)
theorem aK8 {p0s:(List UInt8)}{aEz:(List UInt8)}{z:((List UInt8) × (List UInt8) × Bool)} (h:aBv p0s aEz=some z):cR Tryz.prog 197 [.c (.str p0s),.c (.str aEz)] [] (.tup [.c (.str z.1),.c (.str z.2.1),.c (.bool z.2.2)]) []:=by
 unfold aBv at h
 refine dQ (fn:=Tryz.f197) [0,1,4,5,6] (by kernel_rfl) Tryz.func197 r (by kernel_rfl) (by kernel_rfl)<|aH<|sS r<|sS r<|sB r<|aG (fr':=[(0,aS),(1,aS)]) r r<|aH<|mS r<|mS r<|bx h fun x1 y1 h2=>kB (bC (v:=.tup [aS,aS,aB]) r (aHi y1) kU r r r)<|aN r (aAu (v:=aS) r r)<|aN r (aAu (v:=aS) r r)<|aN r (aAu (v:=aB) r r)<|sS r<|sS r<|sB r<|aG (fr':=[(4,aS),(5,aS),(6,aB)]) r r<|bJ ?_
 obtain rfl:=sy h2
 exact bI (rs':=[.tmp 4,.tmp 5,.tmp 6]) r<|bX (v:=aS) r<|bX (v:=aS) r<|bX (v:=aB) r<|bG<|aP [] r r r (qQ r lG) aC
noncomputable def yS (p0s:(List UInt8)) (aGK:(List UInt8)):Option Bool :=
 match aGK with
 | [c]=>some (decide (0≤Lib.indexByte p0s c))
 | _=>none
theorem aGh {p0s:(List UInt8)}{aGK:(List UInt8)}{z:Bool} (h:yS p0s aGK=some z):cR Tryz.prog 198 [.c (.str p0s),.c (.str aGK)] [] (.c (.bool z)) []:=by
 unfold yS at h
 split at h
 ·
  rename_i c
  cases h
  refine aFH (by kernel_rfl) fun g w vs hv hI hg=>?_
  rw [aPU hv]
  refine (Tryz.strings_Contains_one ⟨p0s.toArray⟩ c w).mono fun e w'=>?_
  rintro ⟨rfl,rfl⟩
  exact ⟨_,r,RowKit.Below.refl _ _,fun g'=>.c (.bool _)⟩
 ·
  cases h
noncomputable def aCc (aCL:(List UInt8)):Option ((List UInt8) × (List UInt8) × Bool) :=
 (aBv aCL ([47]:List UInt8)).bind fun x1=>(gd ((!x1.2.2)==false) (yS x1.2.1 ([47]:List UInt8))).bind fun x3=>cond (cond (!x1.2.2) true x3) (some (([]:List UInt8),([]:List UInt8),false)) (some (x1.1,x1.2.1,true))
theorem aMw {aCL:(List UInt8)}{z:((List UInt8) × (List UInt8) × Bool)} (h:aCc aCL=some z):cR Tryz.prog 162 [.c (.str aCL)] [] (.tup [.c (.str z.1),.c (.str z.2.1),.c (.bool z.2.2)]) []:=by
 unfold aCc at h
 refine dQ (fn:=Tryz.f162) [0,2,3,4,5,6,7,19] (by kernel_rfl) Tryz.func162 r (by kernel_rfl) (by kernel_rfl)<|aH<|sS r<|sS r<|sB r<|aG (fr':=[(0,aS)]) r r<|aH<|mS r<|bx h fun x1 y1 h2=>kB (bC (v:=.tup [aS,aS,aB]) r (aK8 y1) kU r r r)<|mV (v:=.tup [aS,aS,aB]) r<|aN r (aAu (v:=aS) r r)<|aN r (aAu (v:=aS) r r)<|aN r (aAu (v:=aB) r r)<|sS r<|sS r<|sB r<|aG (fr':=[(5,aS),(6,aS),(7,aB)]) r r<|aU<|aH<|mB r<|aN r (fP r)<|mB r<|og r r r (fun u=>(bS (v:=aS) r))<|bx h2 fun x3 y3 h4=>uP r r (fun u=>bC (v:=aB) r (aGh (cZ y3 u)) ⟨(fH (gx r u) lr),lr,trivial⟩ (gO (by repeat (first | exact fC | refine aZ r ?_ | refine aZ (rG r) ?_ | refine aZ rF ?_))) r r) ?_
 refine aN r (cM r r r (fun e=>fU e))<|aG (fr':=[(5,aS),(6,aS),(19,aB)]) r r<|cN h4 r (fun b5 h5=>?_) (fun b5 h5=>?_)
 ·
  refine aH<|sS r<|sS r<|sB r<|aG (fr':=[(2,aS),(3,aS),(4,aB)]) r r<|bJ<|aQ ?_
  obtain rfl:=sy h5
  exact bI (rs':=[.tmp 2,.tmp 3,.tmp 4]) r<|bX (v:=aS) r<|bX (v:=aS) r<|bX (v:=aB) r<|bG<|aP [] r r r (qQ r lG) aC
 ·
  refine bL<|cY<|aH<|mS r<|mS r<|sS r<|sS r<|sB r<|aG (fr':=[(2,aS),(3,aS),(4,aB)]) r r<|bJ ?_
  obtain rfl:=sy h5
  exact bI (rs':=[.tmp 2,.tmp 3,.tmp 4]) r<|bX (v:=aS) r<|bX (v:=aS) r<|bX (v:=aB) r<|bG<|aP [] r r r (qQ r lG) aC
noncomputable def xX (p0s:(List UInt8)):Option Bool :=
 (aCc p0s).bind fun x1=>some (cond (decide (p0s=([]:List UInt8))) true (cond x1.2.2 (decide (((p0s).length:Int)≤4096)) false))
theorem aH3 {p0s:(List UInt8)}{z:Bool} (h:xX p0s=some z):cR Tryz.prog 103 [.c (.str p0s)] [] (.c (.bool z)) []:=by
 unfold xX at h
 refine dQ (fn:=Tryz.f103) [0,2,5] (by kernel_rfl) Tryz.func103 r (by kernel_rfl) (by kernel_rfl)<|aH<|sB r<|aG (fr':=[(0,aS)]) r r<|aH<|mS r<|bx h fun x1 y1 h2=>kB (bC (v:=.tup [aS,aS,aB]) r (aMw y1) ⟨lr,trivial⟩ r r r)<|mV (v:=.tup [aS,aS,aB]) r<|aN r (aAu (v:=aS) r r)<|aN r (aAu (v:=aS) r r)<|aN r (aAu (v:=aB) r r)<|sS r<|sS r<|sB r<|aG (fr':=[(0,aS),(5,aB)]) r r<|aH<|mS r<|aN r (qZ r r)<|mB r<|og r r r (fun u=>(bS (v:=aB) r))<|og r r r (fun u=>(bS (v:=aB) (gx r u)))<|fI r r (fun u=>fT r (bS (v:=aS) r))<|fI r r (fun u=>fT r (kV uD (gx r u)))<|fI r r (fun u=>fT r (qH (gx r u) r))<|og r r r (fun u=>(cB (gx r u) r r (fun e=>qC u (fU e))))<|aN r (cM r r r (fun e=>fU e))<|sB r<|aG (fr':=[(2,aB)]) r r<|bJ ?_
 obtain rfl:=sy h2
 exact bI (rs':=[.tmp 2]) r<|bX (v:=aB) r<|bG<|aP [] r r r lr aC
noncomputable def zR (p0c:cK):Option Bool :=
 (rP p0c).bind fun x1=>some (!x1)
theorem aHh {p0c:cK}{z:Bool} (h:zR p0c=some z):cR Tryz.prog 105 [.agg (AV.cs (eV p0c))] [] (.c (.bool z)) []:=by
 unfold zR at h
 refine dQ (fn:=Tryz.f105) [0,1,2] (by kernel_rfl) Tryz.func105 r (by kernel_rfl) (by kernel_rfl)<|aH<|iR (v:=.agg aW) (n:=0) (cs:=aW) (σ':=[aW]) r r r r r<|sB r<|aG (fr':=[(1,aD)]) r r<|aH<|aN r (dN (us:=aW) uX r r r r)<|bx h fun x1 y1 h2=>kB (bC (v:=aB) r (zU y1) ⟨(bQ r aFh),trivial⟩ r r r)<|aN r (fP r)<|sB r<|aG (fr':=[(2,aB)]) r r<|bJ ?_
 obtain rfl:=sy h2
 exact bI (rs':=[.tmp 2]) r<|bX (v:=aB) r<|bG<|aP [] r r r lr aC
noncomputable def fW (p0s:(List cK)) (s4:Int):Option (dU Int (Fl Int Unit)) :=
 cond (decide (s4<((p0s).length:Int))) ((mP p0s s4).bind fun x6=>(zR x6).bind fun x8=>cond x8 (some (dU.out (Fl.done s4))) (some (dU.next (IntKind.wrap .i64 (s4+1))))) (some (dU.out (Fl.go ())))
noncomputable def iF (p0s:(List cK)):Option Int :=
 (gL (fW p0s) (0)).bind fun x1=>Fl.next x1 (fun j3=>(some (-1)))
theorem pM {p0s:(List cK)}{z:Int} (h:iF p0s=some z):cR Tryz.prog 163 [.c (PV.ls 20 eV p0s),.fn 105 []] [] (ci z) []:=by
 unfold iF at h
 refine dQ (fn:=Tryz.f163) [0,1,4,5,7,8,9,16] (by kernel_rfl) Tryz.func163 r (by kernel_rfl) (by kernel_rfl)<|aH<|sI r<|aG (fr':=[(0,aL),(1,.fn _ [])]) r r<|aU<|aH<|mL r<|aN r (gQ aMr (eD r))<|mI r<|aG (fr':=[(0,aL),(1,.fn _ []),(7,aI),(8,aI)]) r r<|bx h fun x1 y1 h2=>gY kS (fun j3=>x1=Fl.go j3) (fun (j3:Unit)=>([]:Fr)) (fun (j3:Unit)=>([]:St)) ?_ ?_
 ·
  refine cE<|gU _ (fun (s4:Int)=>([(0,.c (PV.ls 20 eV p0s)),(1,.fn 105 []),(7,ci ((p0s).length:Int)),(8,ci s4)]:Fr)) (fun (s4:Int)=>([]:St)) y1 (bH [] 0 r r r r kL4 aC) ?_
  intro s4 st4 hs4 ho4
  unfold fW at hs4
  refine aH<|aN r (gC r r)<|aG (fr':=[(0,aL),(1,.fn _ []),(7,aI),(8,aI),(9,aB)]) r r<|aU<|cN hs4 r (fun b5 h5=>?_) (fun b5 h5=>?_)
  ·
   refine bL<|cY<|aU<|cE<|aH<|mI r<|sI r<|aG (fr':=[(0,aL),(1,.fn _ []),(5,aI),(7,aI),(8,aI)]) r r<|aH<|mV (v:=.fn _ []) r<|mL r<|mI r<|bx h5 fun x6 y6 h7=>aN r (lT (cs:=[PV.int _ _,PV.int _ _,PV.str _,PV.str _,PV.int _ _,PV.int _ _,PV.int _ _,PV.str _,PV.ls _ _ _,PV.ls _ _ _,PV.str _,PV.int _ _,PV.int _ _,PV.int _ _,PV.int _ _,PV.int _ _,PV.int _ _,PV.int _ _,PV.int _ _,PV.ls _ _ _]) aRb (eD r) r y6 r)<|aN r (kT (us:=[PV.int _ _,PV.int _ _,PV.str _,PV.str _,PV.int _ _,PV.int _ _,PV.int _ _,PV.str _,PV.ls _ _ _,PV.ls _ _ _,PV.str _,PV.int _ _,PV.int _ _,PV.int _ _,PV.int _ _,PV.int _ _,PV.int _ _,PV.int _ _,PV.int _ _,PV.ls _ _ _]) uX r r r)<|bx h7 fun x8 y8 h9=>kB (bC (v:=aB) r (aHh y8) ⟨(bQ r aFh),trivial⟩ r r r)<|aG (fr':=[(0,aL),(1,.fn _ []),(5,aI),(7,aI),(8,aI),(16,aB)]) r r<|cN h9 r (fun b10 h10=>?_) (fun b10 h10=>?_)
   ·
    refine aH<|mI r<|sI r<|aG (fr':=[(4,aI)]) r r<|bJ<|bM<|aQ<|aQ<|bM<|aQ<|aQ ?_
    have h11:=eZ h10 ho4
    have h12:=gT h11 h2
    obtain rfl:=sy h12
    exact bI (rs':=[.tmp 4]) r<|bX (v:=aI) r<|bG<|aP [] r r r lr aC
   ·
    exact bL<|dH<|cY<|bA<|aN r (fY r r)<|mI r<|dT (fr':=[(0,aL),(1,.fn _ []),(5,aI),(7,aI),(8,aI),(16,aB)]) r<|e_l _ (sy h10) (bH [] 0 r r r r kL4 aC)
  ·
   refine iA<|cX<|cX<|fS ?_
   have h14:=eZ h5 ho4
   exact kI _ (sy h14) (bH [] 0 r r r r trivial aC)
 ·
  intro j3 hj15
  have h15:=mY hj15 h2
  refine cY<|aH<|sI r<|aG (fr':=[(4,aI)]) r r<|bJ ?_
  obtain rfl:=sy h15
  exact bI (rs':=[.tmp 4]) r<|bX (v:=aI) r<|bG<|aP [] r r r lr aC
noncomputable def fV (p0s:(List cK)):Option Bool :=
 (iF p0s).bind fun x1=>some (decide (0≤x1))
theorem oU {p0s:(List cK)}{z:Bool} (h:fV p0s=some z):cR Tryz.prog 104 [.c (PV.ls 20 eV p0s),.fn 105 []] [] (.c (.bool z)) []:=by
 unfold fV at h
 refine dQ (fn:=Tryz.f104) [0,1,4] (by kernel_rfl) Tryz.func104 r (by kernel_rfl) (by kernel_rfl)<|aH<|sB r<|aG (fr':=[(0,aL),(1,.fn _ [])]) r r<|aH<|mL r<|mV (v:=.fn _ []) r<|bx h fun x1 y1 h2=>kB (bC (v:=aI) r (pM y1) kU r r r)<|aN r (qR r r)<|sB r<|aG (fr':=[(4,aB)]) r r<|bJ ?_
 obtain rfl:=sy h2
 exact bI (rs':=[.tmp 4]) r<|bX (v:=aB) r<|bG<|aP [] r r r lr aC
noncomputable def xW (p0q:cW):Option Bool :=
 cond (decide (p0q.Kind=1)) ((nU p0q.N 0 2).bind fun x2=>some x2) (cond (decide (p0q.Kind=8)) ((nU p0q.N 1 30).bind fun x6=>some x6) (cond (decide (p0q.Kind=9)) ((nU p0q.N 1 1000).bind fun x10=>some x10) (cond (decide (p0q.Kind=15)) (some (cond (cond (decide (p0q.N=20)) true (decide (p0q.N=21))) true (decide (p0q.N=22)))) (cond (decide (p0q.Kind=16)) (some (cond (decide (p0q.N=24)) true (decide (p0q.N=25)))) (cond (decide (p0q.Kind=17)) (some (decide (1≤p0q.N))) (some true))))))
theorem aH2 {p0q:cW}{z:Bool} (h:xW p0q=some z):cR Tryz.prog 107 [.agg (AV.cs (nM p0q))] [] (.c (.bool z)) []:=by
 unfold xW at h
 refine dQ (fn:=Tryz.f107) [0,1,2,4,5,10,15,20,35,45] (by kernel_rfl) Tryz.func107 r (by kernel_rfl) (by kernel_rfl)<|aH<|iR (v:=.agg bT) (n:=0) (cs:=bT) (σ':=[bT]) r r r r r<|sB r<|aG (fr':=[(1,aD)]) r r<|aU<|aH<|aN r (bE aCt r)<|aN r (aJ (v:=aI) gA r r r)<|aG (fr':=[(1,aD),(4,aI)]) r r<|cE<|aH<|aN r (cC r r)<|sB r<|aG (fr':=[(1,aD),(4,aI),(5,aB)]) r r<|cN h r (fun b1 h1=>?_) (fun b1 h1=>?_)
 ·
  refine aH<|aN r (bE aAK r)<|aN r (aJ (v:=aI) gA r r r)<|bx h1 fun x2 y2 h3=>kB (bC (v:=aB) r (oQ y2) lG r r r)<|sB r<|aG (fr':=[(2,aB)]) r r<|bJ<|bM<|aQ ?_
  obtain rfl:=sy h3
  exact bI (rs':=[.tmp 2]) r<|bX (v:=aB) r<|bG<|aP [] r r r lr aC
 ·
  refine aH<|aN r (cC r r)<|sB r<|aG (fr':=[(1,aD),(4,aI),(10,aB)]) r r<|cN h1 r (fun b5 h5=>?_) (fun b5 h5=>?_)
  ·
   refine aH<|aN r (bE aAK r)<|aN r (aJ (v:=aI) gA r r r)<|bx h5 fun x6 y6 h7=>kB (bC (v:=aB) r (oQ y6) lG r r r)<|sB r<|aG (fr':=[(2,aB)]) r r<|bJ<|bM<|aQ ?_
   obtain rfl:=sy h7
   exact bI (rs':=[.tmp 2]) r<|bX (v:=aB) r<|bG<|aP [] r r r lr aC
  ·
   refine aH<|aN r (cC r r)<|sB r<|aG (fr':=[(1,aD),(4,aI),(15,aB)]) r r<|cN h5 r (fun b9 h9=>?_) (fun b9 h9=>?_)
   ·
    refine aH<|aN r (bE aAK r)<|aN r (aJ (v:=aI) gA r r r)<|bx h9 fun x10 y10 h11=>kB (bC (v:=aB) r (oQ y10) lG r r r)<|sB r<|aG (fr':=[(2,aB)]) r r<|bJ<|bM<|aQ ?_
    obtain rfl:=sy h11
    exact bI (rs':=[.tmp 2]) r<|bX (v:=aB) r<|bG<|aP [] r r r lr aC
   ·
    refine aH<|aN r (cC r r)<|sB r<|aG (fr':=[(1,aD),(4,aI),(20,aB)]) r r<|cN h9 r (fun b13 h13=>?_) (fun b13 h13=>?_)
    ·
     refine aH<|aN r (bE aAK r)<|aN r (aJ (v:=aI) gA r r r)<|aN r (cC r r)<|mB r<|og r r r (fun u=>(bE aAK r))<|og r r r (fun u=>(aJ (v:=aI) gA (gx r u) r r))<|og r r r (fun u=>(cC (gx r u) r))<|aN r (cM r r r (fun e=>fU e))<|mB r<|og r r r (fun u=>(bE aAK r))<|og r r r (fun u=>(aJ (v:=aI) gA (gx r u) r r))<|og r r r (fun u=>(cC (gx r u) r))<|aN r (cM r r r (fun e=>fU e))<|sB r<|aG (fr':=[(2,aB)]) r r<|bJ<|bM<|aQ ?_
     obtain rfl:=sy h13
     exact bI (rs':=[.tmp 2]) r<|bX (v:=aB) r<|bG<|aP [] r r r lr aC
    ·
     refine aH<|aN r (cC r r)<|sB r<|aG (fr':=[(1,aD),(4,aI),(35,aB)]) r r<|cN h13 r (fun b15 h15=>?_) (fun b15 h15=>?_)
     ·
      refine aH<|aN r (bE aAK r)<|aN r (aJ (v:=aI) gA r r r)<|aN r (cC r r)<|mB r<|og r r r (fun u=>(bE aAK r))<|og r r r (fun u=>(aJ (v:=aI) gA (gx r u) r r))<|og r r r (fun u=>(cC (gx r u) r))<|aN r (cM r r r (fun e=>fU e))<|sB r<|aG (fr':=[(2,aB)]) r r<|bJ<|bM<|aQ ?_
      obtain rfl:=sy h15
      exact bI (rs':=[.tmp 2]) r<|bX (v:=aB) r<|bG<|aP [] r r r lr aC
     ·
      refine aH<|aN r (cC r r)<|sB r<|aG (fr':=[(1,aD),(45,aB)]) r r<|cN h15 r (fun b17 h17=>?_) (fun b17 h17=>?_)
      ·
       refine aH<|aN r (bE aAK r)<|aN r (aJ (v:=aI) gA r r r)<|aN r (qR r r)<|sB r<|aG (fr':=[(2,aB)]) r r<|bJ<|bM<|aQ ?_
       obtain rfl:=sy h17
       exact bI (rs':=[.tmp 2]) r<|bX (v:=aB) r<|bG<|aP [] r r r lr aC
      ·
       refine bL<|dH<|cY<|aH<|sB r<|aG (fr':=[(2,aB)]) r r<|bJ ?_
       obtain rfl:=sy h17
       exact bI (rs':=[.tmp 2]) r<|bX (v:=aB) r<|bG<|aP [] r r r lr aC
noncomputable def zJ (p0q:cW) (p1u:iK):Option Bool :=
 cond (decide (p0q.Kind=15)) ((xY p0q.ID).bind fun x2=>some (cond x2 (decide (((p0q.Name).length:Int)≤4096)) false)) (cond (decide (p0q.Kind=16)) (some (decide (((p0q.Name).length:Int)≤4096))) (cond (decide (p0q.Kind=4)) (some (decide (((p0q.Name).length:Int)≤64))) (cond (decide (p0q.Kind=11)) ((tX p0q.Name).bind fun x10=>some x10) ((gd ((!p1u.id_)==false) (tX p0q.ID)).bind fun x13=>(gd (((cond (!p1u.id_) true x13)==true)&&((!p1u.name_)==false)) (rY p0q.Name)).bind fun x15=>some (cond (cond (!p1u.id_) true x13) (cond (!p1u.name_) true x15) false)))))
theorem aIS {p0q:cW}{p1u:iK}{z:Bool} (h:zJ p0q p1u=some z):cR Tryz.prog 108 [.agg (AV.cs (nM p0q)),.agg (AV.cs (aCo p1u))] [] (.c (.bool z)) []:=by
 unfold zJ at h
 refine dQ (fn:=Tryz.f108) [0,1,2,3,4,6,7,18,24,30] (by kernel_rfl) Tryz.func108 r (by kernel_rfl) (by kernel_rfl)<|aH<|iR (v:=.agg bT) (n:=0) (cs:=bT) (σ':=[bT]) r r r r r<|iR (v:=.agg bW) (n:=1) (cs:=bW) (σ':=[bT,bW]) r r r r r<|sB r<|aG (fr':=[(2,aD),(3,bK)]) r r<|aU<|aH<|aN r (bE aCt r)<|aN r (aJ (v:=aI) gA r r r)<|aG (fr':=[(2,aD),(3,bK),(6,aI)]) r r<|cE<|aH<|aN r (cC r r)<|sB r<|aG (fr':=[(2,aD),(3,bK),(6,aI),(7,aB)]) r r<|cN h r (fun b1 h1=>?_) (fun b1 h1=>?_)
 ·
  refine aH<|aN r (bE aF7 r)<|aN r (aJ (v:=aS) mG r r r)<|bx h1 fun x2 y2 h3=>kB (bC (v:=aB) r (aDa y2) ⟨lr,trivial⟩ r r r)<|mB r<|og r r r (fun u=>(bE aC6 r))<|og r r r (fun u=>(aJ (v:=aS) mG (gx r u) r r))<|og r r r (fun u=>(kV uD (gx r u)))<|og r r r (fun u=>(qH (gx r u) r))<|aN r (cB r r r (fun e=>fU e))<|sB r<|aG (fr':=[(4,aB)]) r r<|bJ<|bM<|aQ ?_
  obtain rfl:=sy h3
  exact bI (rs':=[.tmp 4]) r<|bX (v:=aB) r<|bG<|aP [] r r r lr aC
 ·
  refine aH<|aN r (cC r r)<|sB r<|aG (fr':=[(2,aD),(3,bK),(6,aI),(18,aB)]) r r<|cN h1 r (fun b5 h5=>?_) (fun b5 h5=>?_)
  ·
   refine aH<|aN r (bE aC6 r)<|aN r (aJ (v:=aS) mG r r r)<|aN r (kV uD r)<|aN r (qH r r)<|sB r<|aG (fr':=[(4,aB)]) r r<|bJ<|bM<|aQ ?_
   obtain rfl:=sy h5
   exact bI (rs':=[.tmp 4]) r<|bX (v:=aB) r<|bG<|aP [] r r r lr aC
  ·
   refine aH<|aN r (cC r r)<|sB r<|aG (fr':=[(2,aD),(3,bK),(6,aI),(24,aB)]) r r<|cN h5 r (fun b7 h7=>?_) (fun b7 h7=>?_)
   ·
    refine aH<|aN r (bE aC6 r)<|aN r (aJ (v:=aS) mG r r r)<|aN r (kV uD r)<|aN r (qH r r)<|sB r<|aG (fr':=[(4,aB)]) r r<|bJ<|bM<|aQ ?_
    obtain rfl:=sy h7
    exact bI (rs':=[.tmp 4]) r<|bX (v:=aB) r<|bG<|aP [] r r r lr aC
   ·
    refine aH<|aN r (cC r r)<|sB r<|aG (fr':=[(2,aD),(3,bK),(30,aB)]) r r<|cN h7 r (fun b9 h9=>?_) (fun b9 h9=>?_)
    ·
     refine aH<|aN r (bE aC6 r)<|aN r (aJ (v:=aS) mG r r r)<|bx h9 fun x10 y10 h11=>kB (bC (v:=aB) r (aBJ y10) ⟨lr,trivial⟩ r r r)<|sB r<|aG (fr':=[(4,aB)]) r r<|bJ<|bM<|aQ ?_
     obtain rfl:=sy h11
     exact bI (rs':=[.tmp 4]) r<|bX (v:=aB) r<|bG<|aP [] r r r lr aC
    ·
     refine bL<|dH<|cY<|aH<|aN r (bE aP0 r)<|aN r (aJ (v:=aB) tv4 r r r)<|aN r (fP r)<|mB r<|og r r r (fun u=>(bE aF7 r))<|og r r r (fun u=>(aJ (v:=aS) mG (gx r u) r r))<|bx h9 fun x13 y13 h14=>uP r r (fun u=>bC (v:=aB) r (aBJ (cZ y13 u)) ⟨(fH (gx r u) lr),trivial⟩ (gO (by repeat (first | exact fC | refine aZ r ?_ | refine aZ (rG r) ?_ | refine aZ rF ?_))) r r) ?_
     refine aN r (cM r r r (fun e=>fU e))<|mB r<|og r r r (fun u=>(bE aP1 r))<|og r r r (fun u=>(aJ (v:=aB) tv4 (gx r u) r r))<|og r r r (fun u=>(fP (gx r u)))<|og r r r (fun u=>(bS (v:=aB) (gx r u)))<|fI r r (fun u=>fT r (bE aC6 r))<|fI r r (fun u=>fT r (aJ (v:=aS) mG (gx r u) r r))<|bx h14 fun x15 y15 h16=>fI r r (fun u=>bC (v:=aB) r (vV (cZ y15 u)) ⟨(fH (gx r u) lr),trivial⟩ (gO (by repeat (first | exact fC | refine aZ r ?_ | refine aZ (rG r) ?_ | refine aZ rF ?_))) r r) ?_
     refine og r r r (fun u=>(cM (gx r u) r r (fun e=>qC u (fU e))))<|aN r (cB r r r (fun e=>fU e))<|sB r<|aG (fr':=[(4,aB)]) r r<|bJ ?_
     obtain rfl:=sy h16
     exact bI (rs':=[.tmp 4]) r<|bX (v:=aB) r<|bG<|aP [] r r r lr aC
noncomputable def xV (dG:Int):Option iK :=
 cond (decide (dG=1)) (some (iK.mk true true false false true true true false true)) (((cond (decide (dG=2)) (some (decide (dG=2))) (some (decide (dG=5)))):Option Bool).bind fun x3=>(cond x3 (some (iK.mk true true false false false false true false false)) (cond (decide (dG=3)) (some (iK.mk true false false false false false false false false)) (cond (decide (dG=4)) (some (iK.mk false true false false false false false false false)) (cond (decide (dG=6)) (some (iK.mk false false false true false false false false false)) (cond (decide (dG=7)) (some (iK.mk false false true false false false true true false)) (cond (decide (dG=8)) (some (iK.mk false false true false false true false false false)) (cond (decide (dG=9)) (some (iK.mk false false false false true true false false false)) (((cond (decide (dG=10)) (some (decide (dG=10))) (cond (decide (dG=12)) (some (decide (dG=12))) (some (decide (dG=13))))):Option Bool).bind fun x22=>(cond x22 (some (iK.mk false false true false true false true false false)) (cond (decide (dG=11)) (some (iK.mk false true true false true false true false false)) (cond (decide (dG=15)) (some (iK.mk true true false false true true true false false)) (cond (decide (dG=16)) (some (iK.mk false true false false true true false false false)) (cond (decide (dG=17)) (some (iK.mk false false false false false true false false false)) (some (iK.mk false false false false false false false false false))))))))))))))))
theorem aH1 {dG:Int}{z:iK} (h:xV dG=some z):cR Tryz.prog 97 [ci dG] [] (.agg (AV.cs (aCo z))) []:=by
 unfold xV at h
 refine dQ (fn:=Tryz.f97) [0,2,3,4,7,11,14,17,20,23,26,29,34,37,40,43] (by kernel_rfl) Tryz.func97 r (by kernel_rfl) (by kernel_rfl)<|aH<|jT (n:=0) (cs:=bW) (σ':=[bW]) aSK r r r<|aG (fr':=[(0,aI),(2,aD)]) r r<|aU<|aH<|mI r<|aG (fr':=[(2,aD),(3,aI)]) r r<|cE<|aU<|bA<|aN r (cC r r)<|sB r<|aG (fr':=[(2,aD),(3,aI),(4,aB)]) r r<|cN h r (fun b1 h1=>?_) (fun b1 h1=>?_)
 ·
  refine aH<|aN r (jY (c0:=bW) (cs:=bW) aCR r (fD (v:=aB) (us:=[_]) (cs':=u9) r r r r r r (fD (v:=aB) (us:=[_]) (cs':=u9) r r r r r r (fD (v:=aB) (us:=[_]) (cs':=u9) r r r r r r (fD (v:=aB) (us:=[_]) (cs':=u9) r r r r r r (fD (v:=aB) (us:=[_]) (cs':=u9) r r r r r r (fD (v:=aB) (us:=[_]) (cs':=u9) r r r r r r jX)))))))<|cD (v:=.agg bW) (us:=bW) (cs:=bW) (σ':=[bW]) r sD r r r r r r r r<|aG (fr':=[(2,aD)]) r r<|bJ<|bM<|aQ ?_
  obtain rfl:=sy h1
  exact bI (rs':=[.cell 2 116]) r<|eN (us:=bW) (cs:=bW) sD r r r r<|bG<|aP [] r r r (bQ r kR9) aC
 ·
  obtain ⟨x3,y3,h4⟩:=lB h1
  refine jR (fun j5=>x3=j5) (fun (j5:Bool)=>([(2,aD),(3,ci dG),(7,.c (.bool j5))]:Fr)) (fun (j5:Bool)=>([[.c (.bool false),.c (.bool false),.c (.bool false),.c (.bool false),.c (.bool false),.c (.bool false),.c (.bool false),.c (.bool false),.c (.bool false)]]:St)) ?_ ?_
  ·
   refine aH<|aN r (cC r r)<|sB r<|aG (fr':=[(2,aD),(3,aI),(7,aB)]) r r<|cN y3 r (fun b6 h6=>?_) (fun b6 h6=>?_)
   ·
    exact bL<|kI _ (sy h6) (bH [] 1 r r r r lG (cV r aC))
   ·
    exact bA<|aN r (cC r r)<|sB r<|dT (fr':=[(2,aD),(3,aI),(7,aB)]) r<|kI _ (sy h6) (bH [] 1 r r r r lG (cV r aC))
  ·
   intro j5 hj7
   subst hj7
   refine cN h4 r (fun b8 h8=>?_) (fun b8 h8=>?_)
   ·
    refine aH<|aN r (jY (c0:=bW) (cs:=bW) aCR r (fD (v:=aB) (us:=[_]) (cs':=u9) r r r r r r (fD (v:=aB) (us:=[_]) (cs':=u9) r r r r r r (fD (v:=aB) (us:=[_]) (cs':=u9) r r r r r r jX))))<|cD (v:=.agg bW) (us:=bW) (cs:=bW) (σ':=[bW]) r sD r r r r r r r r<|aG (fr':=[(2,aD)]) r r<|bJ<|bM<|aQ ?_
    obtain rfl:=sy h8
    exact bI (rs':=[.cell 2 116]) r<|eN (us:=bW) (cs:=bW) sD r r r r<|bG<|aP [] r r r (bQ r kR9) aC
   ·
    refine aH<|aN r (cC r r)<|sB r<|aG (fr':=[(2,aD),(3,aI),(11,aB)]) r r<|cN h8 r (fun b10 h10=>?_) (fun b10 h10=>?_)
    ·
     refine aH<|aN r (jY (c0:=bW) (cs:=bW) aCR r (fD (v:=aB) (us:=[_]) (cs':=u9) r r r r r r jX))<|cD (v:=.agg bW) (us:=bW) (cs:=bW) (σ':=[bW]) r sD r r r r r r r r<|aG (fr':=[(2,aD)]) r r<|bJ<|bM<|aQ ?_
     obtain rfl:=sy h10
     exact bI (rs':=[.cell 2 116]) r<|eN (us:=bW) (cs:=bW) sD r r r r<|bG<|aP [] r r r (bQ r kR9) aC
    ·
     refine aH<|aN r (cC r r)<|sB r<|aG (fr':=[(2,aD),(3,aI),(14,aB)]) r r<|cN h10 r (fun b12 h12=>?_) (fun b12 h12=>?_)
     ·
      refine aH<|aN r (jY (c0:=bW) (cs:=bW) aCR r (fD (v:=aB) (us:=[_]) (cs':=u9) r r r r r r jX))<|cD (v:=.agg bW) (us:=bW) (cs:=bW) (σ':=[bW]) r sD r r r r r r r r<|aG (fr':=[(2,aD)]) r r<|bJ<|bM<|aQ ?_
      obtain rfl:=sy h12
      exact bI (rs':=[.cell 2 116]) r<|eN (us:=bW) (cs:=bW) sD r r r r<|bG<|aP [] r r r (bQ r kR9) aC
     ·
      refine aH<|aN r (cC r r)<|sB r<|aG (fr':=[(2,aD),(3,aI),(17,aB)]) r r<|cN h12 r (fun b14 h14=>?_) (fun b14 h14=>?_)
      ·
       refine aH<|aN r (jY (c0:=bW) (cs:=bW) aCR r (fD (v:=aB) (us:=[_]) (cs':=u9) r r r r r r jX))<|cD (v:=.agg bW) (us:=bW) (cs:=bW) (σ':=[bW]) r sD r r r r r r r r<|aG (fr':=[(2,aD)]) r r<|bJ<|bM<|aQ ?_
       obtain rfl:=sy h14
       exact bI (rs':=[.cell 2 116]) r<|eN (us:=bW) (cs:=bW) sD r r r r<|bG<|aP [] r r r (bQ r kR9) aC
      ·
       refine aH<|aN r (cC r r)<|sB r<|aG (fr':=[(2,aD),(3,aI),(20,aB)]) r r<|cN h14 r (fun b16 h16=>?_) (fun b16 h16=>?_)
       ·
        refine aH<|aN r (jY (c0:=bW) (cs:=bW) aCR r (fD (v:=aB) (us:=[_]) (cs':=u9) r r r r r r (fD (v:=aB) (us:=[_]) (cs':=u9) r r r r r r (fD (v:=aB) (us:=[_]) (cs':=u9) r r r r r r jX))))<|cD (v:=.agg bW) (us:=bW) (cs:=bW) (σ':=[bW]) r sD r r r r r r r r<|aG (fr':=[(2,aD)]) r r<|bJ<|bM<|aQ ?_
        obtain rfl:=sy h16
        exact bI (rs':=[.cell 2 116]) r<|eN (us:=bW) (cs:=bW) sD r r r r<|bG<|aP [] r r r (bQ r kR9) aC
       ·
        refine aH<|aN r (cC r r)<|sB r<|aG (fr':=[(2,aD),(3,aI),(23,aB)]) r r<|cN h16 r (fun b18 h18=>?_) (fun b18 h18=>?_)
        ·
         refine aH<|aN r (jY (c0:=bW) (cs:=bW) aCR r (fD (v:=aB) (us:=[_]) (cs':=u9) r r r r r r (fD (v:=aB) (us:=[_]) (cs':=u9) r r r r r r jX)))<|cD (v:=.agg bW) (us:=bW) (cs:=bW) (σ':=[bW]) r sD r r r r r r r r<|aG (fr':=[(2,aD)]) r r<|bJ<|bM<|aQ ?_
         obtain rfl:=sy h18
         exact bI (rs':=[.cell 2 116]) r<|eN (us:=bW) (cs:=bW) sD r r r r<|bG<|aP [] r r r (bQ r kR9) aC
        ·
         refine aH<|aN r (cC r r)<|sB r<|aG (fr':=[(2,aD),(3,aI),(26,aB)]) r r<|cN h18 r (fun b20 h20=>?_) (fun b20 h20=>?_)
         ·
          refine aH<|aN r (jY (c0:=bW) (cs:=bW) aCR r (fD (v:=aB) (us:=[_]) (cs':=u9) r r r r r r (fD (v:=aB) (us:=[_]) (cs':=u9) r r r r r r jX)))<|cD (v:=.agg bW) (us:=bW) (cs:=bW) (σ':=[bW]) r sD r r r r r r r r<|aG (fr':=[(2,aD)]) r r<|bJ<|bM<|aQ ?_
          obtain rfl:=sy h20
          exact bI (rs':=[.cell 2 116]) r<|eN (us:=bW) (cs:=bW) sD r r r r<|bG<|aP [] r r r (bQ r kR9) aC
         ·
          obtain ⟨x22,y22,h23⟩:=lB h20
          refine jR (fun j24=>x22=j24) (fun (j24:Bool)=>([(2,aD),(3,ci dG),(29,.c (.bool j24))]:Fr)) (fun (j24:Bool)=>([[.c (.bool false),.c (.bool false),.c (.bool false),.c (.bool false),.c (.bool false),.c (.bool false),.c (.bool false),.c (.bool false),.c (.bool false)]]:St)) ?_ ?_
          ·
           refine aH<|aN r (cC r r)<|sB r<|aG (fr':=[(2,aD),(3,aI),(29,aB)]) r r<|cN y22 r (fun b25 h25=>?_) (fun b25 h25=>?_)
           ·
            exact bL<|kI _ (sy h25) (bH [] 1 r r r r lG (cV r aC))
           ·
            refine aH<|aN r (cC r r)<|sB r<|aG (fr':=[(2,aD),(3,aI),(29,aB)]) r r<|cN h25 r (fun b26 h26=>?_) (fun b26 h26=>?_)
            ·
             exact bL<|kI _ (sy h26) (bH [] 1 r r r r lG (cV r aC))
            ·
             exact bA<|aN r (cC r r)<|sB r<|dT (fr':=[(2,aD),(3,aI),(29,aB)]) r<|kI _ (sy h26) (bH [] 1 r r r r lG (cV r aC))
          ·
           intro j24 hj27
           subst hj27
           refine cN h23 r (fun b28 h28=>?_) (fun b28 h28=>?_)
           ·
            refine aH<|aN r (jY (c0:=bW) (cs:=bW) aCR r (fD (v:=aB) (us:=[_]) (cs':=u9) r r r r r r (fD (v:=aB) (us:=[_]) (cs':=u9) r r r r r r (fD (v:=aB) (us:=[_]) (cs':=u9) r r r r r r jX))))<|cD (v:=.agg bW) (us:=bW) (cs:=bW) (σ':=[bW]) r sD r r r r r r r r<|aG (fr':=[(2,aD)]) r r<|bJ<|bM<|aQ ?_
            obtain rfl:=sy h28
            exact bI (rs':=[.cell 2 116]) r<|eN (us:=bW) (cs:=bW) sD r r r r<|bG<|aP [] r r r (bQ r kR9) aC
           ·
            refine aH<|aN r (cC r r)<|sB r<|aG (fr':=[(2,aD),(3,aI),(34,aB)]) r r<|cN h28 r (fun b30 h30=>?_) (fun b30 h30=>?_)
            ·
             refine aH<|aN r (jY (c0:=bW) (cs:=bW) aCR r (fD (v:=aB) (us:=[_]) (cs':=u9) r r r r r r (fD (v:=aB) (us:=[_]) (cs':=u9) r r r r r r (fD (v:=aB) (us:=[_]) (cs':=u9) r r r r r r (fD (v:=aB) (us:=[_]) (cs':=u9) r r r r r r jX)))))<|cD (v:=.agg bW) (us:=bW) (cs:=bW) (σ':=[bW]) r sD r r r r r r r r<|aG (fr':=[(2,aD)]) r r<|bJ<|bM<|aQ ?_
             obtain rfl:=sy h30
             exact bI (rs':=[.cell 2 116]) r<|eN (us:=bW) (cs:=bW) sD r r r r<|bG<|aP [] r r r (bQ r kR9) aC
            ·
             refine aH<|aN r (cC r r)<|sB r<|aG (fr':=[(2,aD),(3,aI),(37,aB)]) r r<|cN h30 r (fun b32 h32=>?_) (fun b32 h32=>?_)
             ·
              refine aH<|aN r (jY (c0:=bW) (cs:=bW) aCR r (fD (v:=aB) (us:=[_]) (cs':=u9) r r r r r r (fD (v:=aB) (us:=[_]) (cs':=u9) r r r r r r (fD (v:=aB) (us:=[_]) (cs':=u9) r r r r r r (fD (v:=aB) (us:=[_]) (cs':=u9) r r r r r r (fD (v:=aB) (us:=[_]) (cs':=u9) r r r r r r jX))))))<|cD (v:=.agg bW) (us:=bW) (cs:=bW) (σ':=[bW]) r sD r r r r r r r r<|aG (fr':=[(2,aD)]) r r<|bJ<|bM<|aQ ?_
              obtain rfl:=sy h32
              exact bI (rs':=[.cell 2 116]) r<|eN (us:=bW) (cs:=bW) sD r r r r<|bG<|aP [] r r r (bQ r kR9) aC
             ·
              refine aH<|aN r (cC r r)<|sB r<|aG (fr':=[(2,aD),(3,aI),(40,aB)]) r r<|cN h32 r (fun b34 h34=>?_) (fun b34 h34=>?_)
              ·
               refine aH<|aN r (jY (c0:=bW) (cs:=bW) aCR r (fD (v:=aB) (us:=[_]) (cs':=u9) r r r r r r (fD (v:=aB) (us:=[_]) (cs':=u9) r r r r r r (fD (v:=aB) (us:=[_]) (cs':=u9) r r r r r r jX))))<|cD (v:=.agg bW) (us:=bW) (cs:=bW) (σ':=[bW]) r sD r r r r r r r r<|aG (fr':=[(2,aD)]) r r<|bJ<|bM<|aQ ?_
               obtain rfl:=sy h34
               exact bI (rs':=[.cell 2 116]) r<|eN (us:=bW) (cs:=bW) sD r r r r<|bG<|aP [] r r r (bQ r kR9) aC
              ·
               refine aH<|aN r (cC r r)<|sB r<|aG (fr':=[(2,aD),(43,aB)]) r r<|cN h34 r (fun b36 h36=>?_) (fun b36 h36=>?_)
               ·
                refine aH<|aN r (jY (c0:=bW) (cs:=bW) aCR r (fD (v:=aB) (us:=[_]) (cs':=u9) r r r r r r jX))<|cD (v:=.agg bW) (us:=bW) (cs:=bW) (σ':=[bW]) r sD r r r r r r r r<|aG (fr':=[(2,aD)]) r r<|bJ<|bM<|aQ ?_
                obtain rfl:=sy h36
                exact bI (rs':=[.cell 2 116]) r<|eN (us:=bW) (cs:=bW) sD r r r r<|bG<|aP [] r r r (bQ r kR9) aC
               ·
                refine bL<|dH<|cY<|aH<|aN r (jY (c0:=bW) (cs:=bW) aCR r jX)<|cD (v:=.agg bW) (us:=bW) (cs:=bW) (σ':=[bW]) r sD r r r r r r r r<|aG (fr':=[(2,aD)]) r r<|bJ ?_
                obtain rfl:=sy h36
                exact bI (rs':=[.cell 2 116]) r<|eN (us:=bW) (cs:=bW) sD r r r r<|bG<|aP [] r r r (bQ r kR9) aC
noncomputable def aAG (p0q:cW) (p1u:iK):Option Bool :=
 (gd (((cond (cond (cond (cond (cond (cond p1u.id_ true (decide (p0q.ID=([]:List UInt8)))) (cond p1u.name_ true (decide (p0q.Name=([]:List UInt8)))) false) (cond p1u.token_ true (decide (p0q.Token=0))) false) (cond p1u.event_ true (decide (p0q.Event=0))) false) (cond p1u.seq_ true (decide (p0q.Seq=0))) false) (cond p1u.n_ true (decide (p0q.N=0))) false)==true)&&(p1u.data_==false)) (aCA p0q.Data (aK.mk 0 0 ([]:List UInt8) ([]:(List aK)) ([]:(List (List UInt8)))))).bind fun x1=>(gd ((cond (cond (cond (cond (cond (cond (cond (cond (cond p1u.id_ true (decide (p0q.ID=([]:List UInt8)))) (cond p1u.name_ true (decide (p0q.Name=([]:List UInt8)))) false) (cond p1u.token_ true (decide (p0q.Token=0))) false) (cond p1u.event_ true (decide (p0q.Event=0))) false) (cond p1u.seq_ true (decide (p0q.Seq=0))) false) (cond p1u.n_ true (decide (p0q.N=0))) false) (cond p1u.data_ true x1) false) (cond p1u.commands_ true (decide (((p0q.Commands).length:Int)=0))) false) (cond p1u.parent_ true (decide (p0q.Parent=([]:List UInt8)))) false)==true) (nS p0q.Opts (dR.mk ([]:List UInt8) 0 0 0 0 0 0 0 0 ([]:(List (List UInt8)))))).bind fun x3=>some (cond (cond (cond (cond (cond (cond (cond (cond (cond (cond p1u.id_ true (decide (p0q.ID=([]:List UInt8)))) (cond p1u.name_ true (decide (p0q.Name=([]:List UInt8)))) false) (cond p1u.token_ true (decide (p0q.Token=0))) false) (cond p1u.event_ true (decide (p0q.Event=0))) false) (cond p1u.seq_ true (decide (p0q.Seq=0))) false) (cond p1u.n_ true (decide (p0q.N=0))) false) (cond p1u.data_ true x1) false) (cond p1u.commands_ true (decide (((p0q.Commands).length:Int)=0))) false) (cond p1u.parent_ true (decide (p0q.Parent=([]:List UInt8)))) false) x3 false)
theorem aKw {p0q:cW}{p1u:iK}{z:Bool} (h:aAG p0q p1u=some z):cR Tryz.prog 99 [.agg (AV.cs (nM p0q)),.agg (AV.cs (aCo p1u))] [] (.c (.bool z)) []:=by
 unfold aAG at h
 refine dQ (fn:=Tryz.f99) [0,1,2,3,4] (by kernel_rfl) Tryz.func99 r (by kernel_rfl) (by kernel_rfl)<|aH<|iR (v:=.agg bT) (n:=0) (cs:=bT) (σ':=[bT]) r r r r r<|iR (v:=.agg bW) (n:=1) (cs:=bW) (σ':=[bT,bW]) r r r r r<|sB r<|aG (fr':=[(2,aD),(3,bK)]) r r<|aH<|aN r (bE aP0 r)<|aN r (aJ (v:=aB) tv4 r r r)<|mB r<|og r r r (fun u=>(bE aF7 r))<|og r r r (fun u=>(aJ (v:=aS) mG (gx r u) r r))<|og r r r (fun u=>(qZ (gx r u) r))<|aN r (cM r r r (fun e=>fU e))<|mB r<|og r r r (fun u=>(bE aP1 r))<|og r r r (fun u=>(aJ (v:=aB) tv4 (gx r u) r r))<|og r r r (fun u=>(bS (v:=aB) (gx r u)))<|fI r r (fun u=>fT r (bE aC6 r))<|fI r r (fun u=>fT r (aJ (v:=aS) mG (gx r u) r r))<|fI r r (fun u=>fT r (qZ (gx r u) r))<|og r r r (fun u=>(cM (gx r u) r r (fun e=>qC u (fU e))))<|aN r (cB r r r (fun e=>fU e))<|mB r<|og r r r (fun u=>(bE aP2 r))<|og r r r (fun u=>(aJ (v:=aB) tv4 (gx r u) r r))<|og r r r (fun u=>(bS (v:=aB) (gx r u)))<|fI r r (fun u=>fT r (bE aHO r))<|fI r r (fun u=>fT r (aJ (v:=aI) gA (gx r u) r r))<|fI r r (fun u=>fT r (cC (gx r u) r))<|og r r r (fun u=>(cM (gx r u) r r (fun e=>qC u (fU e))))<|aN r (cB r r r (fun e=>fU e))<|mB r<|og r r r (fun u=>(bE aP3 r))<|og r r r (fun u=>(aJ (v:=aB) tv4 (gx r u) r r))<|og r r r (fun u=>(bS (v:=aB) (gx r u)))<|fI r r (fun u=>fT r (bE aHP r))<|fI r r (fun u=>fT r (aJ (v:=aI) gA (gx r u) r r))<|fI r r (fun u=>fT r (cC (gx r u) r))<|og r r r (fun u=>(cM (gx r u) r r (fun e=>qC u (fU e))))<|aN r (cB r r r (fun e=>fU e))<|mB r<|og r r r (fun u=>(bE aP4 r))<|og r r r (fun u=>(aJ (v:=aB) tv4 (gx r u) r r))<|og r r r (fun u=>(bS (v:=aB) (gx r u)))<|fI r r (fun u=>fT r (bE aHQ r))<|fI r r (fun u=>fT r (aJ (v:=aI) gA (gx r u) r r))<|fI r r (fun u=>fT r (cC (gx r u) r))<|og r r r (fun u=>(cM (gx r u) r r (fun e=>qC u (fU e))))<|aN r (cB r r r (fun e=>fU e))<|mB r<|og r r r (fun u=>(bE aTC r))<|og r r r (fun u=>(aJ (v:=aB) tv4 (gx r u) r r))<|og r r r (fun u=>(bS (v:=aB) (gx r u)))<|fI r r (fun u=>fT r (bE aAK r))<|fI r r (fun u=>fT r (aJ (v:=aI) gA (gx r u) r r))<|fI r r (fun u=>fT r (cC (gx r u) r))<|og r r r (fun u=>(cM (gx r u) r r (fun e=>qC u (fU e))))<|aN r (cB r r r (fun e=>fU e))<|mB r<|og r r r (fun u=>(bE aTD r))<|og r r r (fun u=>(aJ (v:=aB) tv4 (gx r u) r r))<|og r r r (fun u=>(bS (v:=aB) (gx r u)))<|fI r r (fun u=>fT r (bE aFc r))<|fI r r (fun u=>fT r (dN (us:=cH) jC (gx r u) r r r))<|fI r r (fun u=>fT r (gD (cs:=dF) aIK r))<|bx h fun x1 y1 h2=>fI r r (fun u=>bC (v:=aB) r (aDY (cZ y1 u)) ⟨(fH (gx r u) (bQ r zA)),(fH (gx r u) (bQ r ⟨r,r,r,⟨_,r⟩,⟨_,r⟩,trivial⟩)),trivial⟩ (gO (by repeat (first | exact fC | refine aZ r ?_ | refine aZ (rG r) ?_ | refine aZ rF ?_))) r r) ?_
 refine og r r r (fun u=>(cM (gx r u) r r (fun e=>qC u (fU e))))<|aN r (cB r r r (fun e=>fU e))<|mB r<|og r r r (fun u=>(bE aTE r))<|og r r r (fun u=>(aJ (v:=aB) tv4 (gx r u) r r))<|og r r r (fun u=>(bS (v:=aB) (gx r u)))<|fI r r (fun u=>fT r (bE aCU r))<|fI r r (fun u=>fT r (aJ (v:=aL) aN4 (gx r u) r r))<|fI r r (fun u=>fT r (gQ aMr (eD (gx r u))))<|fI r r (fun u=>fT r (cC (gx r u) r))<|og r r r (fun u=>(cM (gx r u) r r (fun e=>qC u (fU e))))<|aN r (cB r r r (fun e=>fU e))<|mB r<|og r r r (fun u=>(bE aTF r))<|og r r r (fun u=>(aJ (v:=aB) tv4 (gx r u) r r))<|og r r r (fun u=>(bS (v:=aB) (gx r u)))<|fI r r (fun u=>fT r (bE aFd r))<|fI r r (fun u=>fT r (aJ (v:=aS) mG (gx r u) r r))<|fI r r (fun u=>fT r (qZ (gx r u) r))<|og r r r (fun u=>(cM (gx r u) r r (fun e=>qC u (fU e))))<|aN r (cB r r r (fun e=>fU e))<|mB r<|og r r r (fun u=>(bE aMp r))<|og r r r (fun u=>(dN (us:=dE) aAm (gx r u) r r r))<|og r r r (fun u=>(jY (c0:=cP) (cs:=cP) aRa r jX))<|bx h2 fun x3 y3 h4=>uP r r (fun u=>bC (v:=aB) r (yE (cZ y3 u)) ⟨(fH (gx r u) (bQ r zX)),(fH (gx r u) (bQ r ⟨r,r,r,r,r,r,r,r,r,⟨_,r⟩,trivial⟩)),trivial⟩ (gO (by repeat (first | exact fC | refine aZ r ?_ | refine aZ (rG r) ?_ | refine aZ rF ?_))) r r) ?_
 refine aN r (cB r r r (fun e=>fU e))<|sB r<|aG (fr':=[(4,aB)]) r r<|bJ ?_
 obtain rfl:=sy h4
 exact bI (rs':=[.tmp 4]) r<|bX (v:=aB) r<|bG<|aP [] r r r lr aC
