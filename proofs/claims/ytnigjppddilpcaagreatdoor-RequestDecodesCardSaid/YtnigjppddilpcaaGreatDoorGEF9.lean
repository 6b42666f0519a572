import Derived.Test.YtnigjppddilpcaaGreatDoorGETy
import Derived.Test.YtnigjppddilpcaaGreatDoorGEF6
import Derived.Test.YtnigjppddilpcaaGreatDoorGEF7
import Derived.Test.YtnigjppddilpcaaGreatDoorGEF8
namespace Go.Proofs.YtnigjppddilpcaaGreatDoor
open Go Abs
set_option maxRecDepth 100000
set_option linter.unusedVariables false
set_option linter.unusedSimpArgs false
noncomputable def aCA (p0e:dH):Option Bool :=
 (aCB p0e.Kind).bind fun x1=>(gd (x1.seq_==true) (vF p0e.Seq 1 2000)).bind fun x3=>(gd (((cond (cond x1.seq_ (!x3) false) true (cond (!x1.seq_) (!decide (p0e.Seq=0)) false))==false)&&(x1.ref_==true)) (vF p0e.Ref 1 2000)).bind fun x5=>cond (cond (cond (cond (cond x1.seq_ (!x3) false) true (cond (!x1.seq_) (!decide (p0e.Seq=0)) false)) true (cond x1.ref_ (!x5) false)) true (cond (!x1.ref_) (!decide (p0e.Ref=0)) false)) (some false) (cond (cond (cond (cond (cond (!x1.n_) (!decide (p0e.N=0)) false) true (cond (!x1.code_) (!decide (p0e.Code=0)) false)) true (cond (!x1.name_) (!decide (p0e.Name=([]:List UInt8))) false)) true (cond (!x1.key_) (!decide (p0e.Key=([]:List UInt8))) false)) (some false) ((tX p0e.Data).bind fun x11=>cond (cond (!x11) true (cond (!x1.data_) (!decide (p0e.Data.Kind=0)) false)) (some false) ((gd (x1.opts_==false) (oU p0e.Opts (dS.mk ([]:List UInt8) 0 0 0 0 0 0 0 0 ([]:(List (List UInt8)))))).bind fun x15=>some (cond x1.opts_ true x15))))
theorem aLO {p0e:dH}{z:Bool} (h:aCA p0e=some z):cQ Tryz.prog 82 [.agg (AV.cs (gT p0e))] [] (.c (.bool z)) []:=by
 unfold aCA at h
 refine dF (fn:=Tryz.f82) [0,1,2,3,44,82,97] (by kernel_rfl) Tryz.func82 r (by kernel_rfl) (by kernel_rfl)<|aH<|jK (v:=.agg bA) (n:=0) (cs:=bA) (σ':=[bA]) r r r r r<|sB r<|aG (fr':=[(1,aE)]) r r<|aH<|aR r (bD aBU r)<|aR r (aK (v:=aI) fM r r r)<|bx h fun x1 y1 h2=>lS (bL (v:=.agg bP) r (aLP y1) ⟨lr,trivial⟩ r r r)<|hO (n:=1) (cs:=bP) (σ':=[bA,bP]) aRA r r r<|bM (v:=.agg bP) (us:=bP) (cs:=bP) (σ':=[bA,bP]) r mT r r r r r r r r<|aG (fr':=[(1,aE),(3,aU)]) r r<|aZ<|aH<|aR r (bD aOY r)<|aR r (aK (v:=aB) tv4 r r r)<|mB r<|og r r r (fun u=>(bD aDV r))<|og r r r (fun u=>(aK (v:=aI) fM (gx r u) r r))<|bx h2 fun x3 y3 h4=>sX r r (fun u=>bL (v:=aB) r (wG (cU y3 u)) ⟨(eW (gx r u) lr),lr,lr,trivial⟩ (fT (by repeat (first | exact eN | refine aY r ?_ | refine aY (pP r) ?_ | refine aY pO ?_))) r r) ?_
 refine og r r r (fun u=>(fE (gx r u)))<|aR r (bV r r r (fun e=>fJ e))<|mB r<|og r r r (fun u=>(bD aOY r))<|og r r r (fun u=>(aK (v:=aB) tv4 (gx r u) r r))<|og r r r (fun u=>(fE (gx r u)))<|og r r r (fun u=>(bN (v:=aB) (gx r u)))<|fD r r (fun u=>fS r (bD aDV r))<|fD r r (fun u=>fS r (aK (v:=aI) fM (gx r u) r r))<|fD r r (fun u=>fS r (iS (gx r u) r))<|og r r r (fun u=>(bV (gx r u) r r (fun e=>pX u (fJ e))))<|aR r (cN r r r (fun e=>fJ e))<|mB r<|og r r r (fun u=>(bD aOZ r))<|og r r r (fun u=>(aK (v:=aB) tv4 (gx r u) r r))<|og r r r (fun u=>(bN (v:=aB) (gx r u)))<|fD r r (fun u=>fS r (bD aDW r))<|fD r r (fun u=>fS r (aK (v:=aI) fM (gx r u) r r))<|bx h4 fun x5 y5 h6=>fD r r (fun u=>bL (v:=aB) r (wG (cU y5 u)) ⟨(eW (gx r u) lr),lr,lr,trivial⟩ (fT (by repeat (first | exact eN | refine aY r ?_ | refine aY (pP r) ?_ | refine aY pO ?_))) r r) ?_
 refine fD r r (fun u=>fS r (fE (gx r u)))<|og r r r (fun u=>(bV (gx r u) r r (fun e=>pX u (fJ e))))<|aR r (cN r r r (fun e=>fJ e))<|mB r<|og r r r (fun u=>(bD aOZ r))<|og r r r (fun u=>(aK (v:=aB) tv4 (gx r u) r r))<|og r r r (fun u=>(fE (gx r u)))<|og r r r (fun u=>(bN (v:=aB) (gx r u)))<|fD r r (fun u=>fS r (bD aDW r))<|fD r r (fun u=>fS r (aK (v:=aI) fM (gx r u) r r))<|fD r r (fun u=>fS r (iS (gx r u) r))<|og r r r (fun u=>(bV (gx r u) r r (fun e=>pX u (fJ e))))<|aR r (cN r r r (fun e=>fJ e))<|aG (fr':=[(1,aE),(3,aU),(44,aB)]) r r<|cG h6 r (fun b7 h7=>?_) (fun b7 h7=>?_)
 ·
  refine aH<|sB r<|aG (fr':=[(2,aB)]) r r<|bK<|aP ?_
  obtain rfl:=sy h7
  exact bJ (rs':=[.tmp 2]) r<|bS (v:=aB) r<|bI<|aN [] r r r lr aD
 ·
  refine bF<|cZ<|aZ<|aH<|aR r (bD aSw r)<|aR r (aK (v:=aB) tv4 r r r)<|aR r (fE r)<|mB r<|og r r r (fun u=>(bD aBh r))<|og r r r (fun u=>(aK (v:=aI) fM (gx r u) r r))<|og r r r (fun u=>(iS (gx r u) r))<|aR r (bV r r r (fun e=>fJ e))<|mB r<|og r r r (fun u=>(bD aSx r))<|og r r r (fun u=>(aK (v:=aB) tv4 (gx r u) r r))<|og r r r (fun u=>(fE (gx r u)))<|og r r r (fun u=>(bN (v:=aB) (gx r u)))<|fD r r (fun u=>fS r (bD aDc r))<|fD r r (fun u=>fS r (aK (v:=aI) fM (gx r u) r r))<|fD r r (fun u=>fS r (iS (gx r u) r))<|og r r r (fun u=>(bV (gx r u) r r (fun e=>pX u (fJ e))))<|aR r (cN r r r (fun e=>fJ e))<|mB r<|og r r r (fun u=>(bD aSy r))<|og r r r (fun u=>(aK (v:=aB) tv4 (gx r u) r r))<|og r r r (fun u=>(fE (gx r u)))<|og r r r (fun u=>(bN (v:=aB) (gx r u)))<|fD r r (fun u=>fS r (bD yZ r))<|fD r r (fun u=>fS r (aK (v:=aS) lP (gx r u) r r))<|fD r r (fun u=>fS r (wZ (gx r u) r))<|og r r r (fun u=>(bV (gx r u) r r (fun e=>pX u (fJ e))))<|aR r (cN r r r (fun e=>fJ e))<|mB r<|og r r r (fun u=>(bD aSz r))<|og r r r (fun u=>(aK (v:=aB) tv4 (gx r u) r r))<|og r r r (fun u=>(fE (gx r u)))<|og r r r (fun u=>(bN (v:=aB) (gx r u)))<|fD r r (fun u=>fS r (bD zB r))<|fD r r (fun u=>fS r (aK (v:=aS) lP (gx r u) r r))<|fD r r (fun u=>fS r (wZ (gx r u) r))<|og r r r (fun u=>(bV (gx r u) r r (fun e=>pX u (fJ e))))<|aR r (cN r r r (fun e=>fJ e))<|aG (fr':=[(1,aE),(3,aU),(82,aB)]) r r<|cG h7 r (fun b9 h9=>?_) (fun b9 h9=>?_)
  ·
   refine aH<|sB r<|aG (fr':=[(2,aB)]) r r<|bK<|aP ?_
   obtain rfl:=sy h9
   exact bJ (rs':=[.tmp 2]) r<|bS (v:=aB) r<|bI<|aN [] r r r lr aD
  ·
   refine bF<|cZ<|aZ<|aH<|aR r (bD aBV r)<|aR r (dL (us:=cE) iO r r r r)<|bx h9 fun x11 y11 h12=>lS (bL (v:=aB) r (zN y11) ⟨(bQ r kR5),trivial⟩ r r r)<|aR r (fE r)<|mB r<|og r r r (fun u=>(bD aSA r))<|og r r r (fun u=>(aK (v:=aB) tv4 (gx r u) r r))<|og r r r (fun u=>(fE (gx r u)))<|og r r r (fun u=>(bN (v:=aB) (gx r u)))<|fD r r (fun u=>fS r (bD aBV r))<|fD r r (fun u=>fS r (bD mE (gx r u)))<|fD r r (fun u=>fS r (aK (v:=aI) fM (gx r u) r r))<|fD r r (fun u=>fS r (iS (gx r u) r))<|og r r r (fun u=>(bV (gx r u) r r (fun e=>pX u (fJ e))))<|aR r (cN r r r (fun e=>fJ e))<|aG (fr':=[(1,aE),(3,aU),(97,aB)]) r r<|cG h12 r (fun b13 h13=>?_) (fun b13 h13=>?_)
   ·
    refine aH<|sB r<|aG (fr':=[(2,aB)]) r r<|bK<|aP ?_
    obtain rfl:=sy h13
    exact bJ (rs':=[.tmp 2]) r<|bS (v:=aB) r<|bI<|aN [] r r r lr aD
   ·
    refine bF<|cZ<|aH<|aR r (bD aSB r)<|aR r (aK (v:=aB) tv4 r r r)<|mB r<|og r r r (fun u=>(bD aC1 r))<|og r r r (fun u=>(dL (us:=dO) yT (gx r u) r r r))<|og r r r (fun u=>(iD (c0:=bG) (cs:=bG) aM6 r iC))<|bx h13 fun x15 y15 h16=>sX r r (fun u=>bL (v:=aB) r (wF (cU y15 u)) ⟨(eW (gx r u) (bQ r aBA)),(eW (gx r u) (bQ r ⟨r,r,r,r,r,r,r,r,r,⟨_,r⟩,trivial⟩)),trivial⟩ (fT (by repeat (first | exact eN | refine aY r ?_ | refine aY (pP r) ?_ | refine aY pO ?_))) r r) ?_
    refine aR r (cN r r r (fun e=>fJ e))<|sB r<|aG (fr':=[(2,aB)]) r r<|bK ?_
    obtain rfl:=sy h16
    exact bJ (rs':=[.tmp 2]) r<|bS (v:=aB) r<|bI<|aN [] r r r lr aD
noncomputable def aAI  : Option (List Int) :=
 some ([7,12,14,16,19,23,18,27,28,29,30,31,32,35]:List Int)
theorem aHE  {z:(List Int)} (h:aAI=some z):cQ Tryz.prog 189 [] [] (AV.os 0 1 (aHr .i64) z) []:=by
 unfold aAI at h
 refine dF (fn:=Tryz.f189) [0] (by kernel_rfl) Tryz.func189 r (by kernel_rfl) (by kernel_rfl)<|aH<|sV (v:=AV.nil) r<|aG (fr':=[]) r r<|aH<|uL (row:=(aHr .i64)) (xs:=([(7:Int),(12:Int),(14:Int),(16:Int),(19:Int),(23:Int),(18:Int),(27:Int),(28:Int),(29:Int),(30:Int),(31:Int),(32:Int),(35:Int)]:List Int)) (rows:=[[_],[_],[_],[_],[_],[_],[_],[_],[_],[_],[_],[_],[_],[_]]) (σ':=[]) [0] aB8 r r r (gB r (gB r (gB r (gB r (gB r (gB r (gB r (gB r (gB r (gB r (gB r (gB r (gB r (gB r oB)))))))))))))) r r<|sV (v:=aO) r<|aG (fr':=[(0,aO)]) r r<|bK ?_
 obtain rfl:=sy h
 exact bJ (rs':=[.tmp 0]) r<|bS (v:=aO) r<|bI<|aN [16] r r r lr aD
noncomputable def yQ (x1:(List Int)) (dN:Int) (s6:Int):Option (dU Int (Fl Int Unit)) :=
 cond (decide (s6<((x1).length:Int))) ((nG x1 s6).bind fun x8=>cond (decide (x8=dN)) (some (dU.out (Fl.done (IntKind.wrap .i64 (s6+1))))) (some (dU.next (IntKind.wrap .i64 (s6+1))))) (some (dU.out (Fl.go ())))
noncomputable def wT (dN:Int):Option Int :=
 (aAI).bind fun x1=>(fK (yQ x1 dN) (0)).bind fun x3=>Fl.next x3 (fun j5=>(some 0))
theorem aEj {dN:Int}{z:Int} (h:wT dN=some z):cQ Tryz.prog 154 [ci dN] [] (ci z) []:=by
 unfold wT at h
 refine dF (fn:=Tryz.f154) [0,2,3,4,9,17] (by kernel_rfl) Tryz.func154 r (by kernel_rfl) (by kernel_rfl)<|aH<|sI r<|aG (fr':=[(0,aI)]) r r<|aZ<|bB ?_
 obtain ⟨x1,y1,h2⟩:=iW h
 refine lS (bL (v:=aO) r (aHE y1) trivial r r r)<|sV (v:=aO) r<|aG (fr':=[(0,aI),(3,aO)]) r r<|aZ<|aH<|sI r<|aG (fr':=[(0,aI),(3,aO),(4,aI)]) r r<|bx h2 fun x3 y3 h4=>gZ lB (fun j5=>x3=Fl.go j5) (fun (j5:Unit)=>([]:Fr)) (fun (j5:Unit)=>([]:St)) ?_ ?_
 ·
  refine cH<|gV _ (fun (s6:Int)=>([(0,ci dN),(3,AV.os 0 1 (aHr .i64) x1),(4,ci s6)]:Fr)) (fun (s6:Int)=>([]:St)) y3 (bC [80] 0 r r r r kA aD) ?_
  intro s6 st6 hs6 ho6
  unfold yQ at hs6
  refine aZ<|aH<|mI r<|mV (v:=aO) r<|aR r (hZ aRv (oC r))<|aR r (gI r r)<|aG (fr':=[(0,aI),(3,aO),(4,aI),(9,aB)]) r r<|cG hs6 r (fun b7 h7=>?_) (fun b7 h7=>?_)
  ·
   refine bF<|cZ<|aZ<|cH<|aH<|mV (v:=aO) r<|mI r<|bx h7 fun x8 y8 h9=>aR r (lF (cs:=[PV.int _ _]) aB8 (oC r) r y8 r)<|aR r (gP (p:=PV.int _ _) fM r r)<|mI r<|aR r (bU r r)<|aG (fr':=[(0,aI),(3,aO),(4,aI),(17,aB)]) r r<|cG h9 r (fun b10 h10=>?_) (fun b10 h10=>?_)
   ·
    refine aH<|mI r<|aR r (gC r r)<|sI r<|aG (fr':=[(2,aI)]) r r<|bK<|bO<|aP<|aP<|bO<|aP<|aP ?_
    have h11:=eR h10 ho6
    have h12:=fL h11 h4
    obtain rfl:=sy h12
    exact bJ (rs':=[.tmp 2]) r<|bS (v:=aI) r<|bI<|aN [] r r r lr aD
   ·
    exact bF<|cW<|cZ<|bB<|mI r<|aR r (gC r r)<|sI r<|dM (fr':=[(0,aI),(3,aO),(4,aI),(17,aB)]) r<|zO _ (sy h10) (bC [0] 0 r r r r kA aD)
  ·
   refine hG<|cY<|cY<|fP ?_
   have h14:=eR h7 ho6
   exact iQ _ (sy h14) (bC [] 0 r r r r trivial aD)
 ·
  intro j5 hj15
  have h15:=lV hj15 h4
  refine cZ<|aH<|sI r<|aG (fr':=[(2,aI)]) r r<|bK ?_
  obtain rfl:=sy h15
  exact bJ (rs':=[.tmp 2]) r<|bS (v:=aI) r<|bI<|aN [] r r r lr aD
noncomputable def wM (dN:Int):Option Bool :=
 (wT dN).bind fun x1=>some (decide (0<x1))
theorem aGW {dN:Int}{z:Bool} (h:wM dN=some z):cQ Tryz.prog 83 [ci dN] [] (.c (.bool z)) []:=by
 unfold wM at h
 refine dF (fn:=Tryz.f83) [0,2] (by kernel_rfl) Tryz.func83 r (by kernel_rfl) (by kernel_rfl)<|aH<|sB r<|aG (fr':=[(0,aI)]) r r<|aH<|mI r<|bx h fun x1 y1 h2=>lS (bL (v:=aI) r (aEj y1) ⟨lr,trivial⟩ r r r)<|aR r (qW r r)<|sB r<|aG (fr':=[(2,aB)]) r r<|bK ?_
 obtain rfl:=sy h2
 exact bJ (rs':=[.tmp 2]) r<|bS (v:=aB) r<|bI<|aN [] r r r lr aD
noncomputable def aAH (p0s:(List UInt8)) (s6:Int):Option (dU Int (Fl Bool Unit)) :=
 cond (decide (s6<((p0s).length:Int))) ((nG p0s s6).bind fun x8=>(gd ((decide (((x8).toNat:Int)<33))==false) (nG p0s s6)).bind fun x10=>(gd ((cond (decide (((x8).toNat:Int)<33)) true (decide (126<((x10).toNat:Int))))==false) (nG p0s s6)).bind fun x12=>(gd ((cond (cond (decide (((x8).toNat:Int)<33)) true (decide (126<((x10).toNat:Int)))) true (decide (((x12).toNat:Int)=47)))==false) (nG p0s s6)).bind fun x14=>cond (cond (cond (cond (decide (((x8).toNat:Int)<33)) true (decide (126<((x10).toNat:Int)))) true (decide (((x12).toNat:Int)=47))) true (decide (((x14).toNat:Int)=34))) (some (dU.out (Fl.done false))) (some (dU.next (IntKind.wrap .i64 (s6+1))))) (some (dU.out (Fl.go ())))
noncomputable def vO (p0s:(List UInt8)):Option Bool :=
 cond (cond (decide (((p0s).length:Int)<1)) true (decide (64<((p0s).length:Int)))) (some false) ((fK (aAH p0s) (0)).bind fun x3=>Fl.next x3 (fun j5=>(some true)))
theorem aBt {p0s:(List UInt8)}{z:Bool} (h:vO p0s=some z):cQ Tryz.prog 113 [.c (.str p0s)] [] (.c (.bool z)) []:=by
 unfold vO at h
 refine dF (fn:=Tryz.f113) [0,2,3,11,15,39] (by kernel_rfl) Tryz.func113 r (by kernel_rfl) (by kernel_rfl)<|aH<|sB r<|aG (fr':=[(0,aS)]) r r<|aZ<|aH<|mS r<|aR r (kT uU r)<|aR r (gI r r)<|mB r<|og r r r (fun u=>(bN (v:=aS) r))<|og r r r (fun u=>(kT uU (gx r u)))<|og r r r (fun u=>(qW (gx r u) r))<|aR r (cN r r r (fun e=>fJ e))<|aG (fr':=[(0,aS),(11,aB)]) r r<|cG h r (fun b1 h1=>?_) (fun b1 h1=>?_)
 ·
  refine aH<|sB r<|aG (fr':=[(2,aB)]) r r<|bK<|aP ?_
  obtain rfl:=sy h1
  exact bJ (rs':=[.tmp 2]) r<|bS (v:=aB) r<|bI<|aN [] r r r lr aD
 ·
  refine bF<|cZ<|aZ<|aH<|sI r<|aG (fr':=[(0,aS),(3,aI)]) r r<|bx h1 fun x3 y3 h4=>gZ lB (fun j5=>x3=Fl.go j5) (fun (j5:Unit)=>([]:Fr)) (fun (j5:Unit)=>([]:St)) ?_ ?_
  ·
   refine cH<|gV _ (fun (s6:Int)=>([(0,.c (.str p0s)),(3,ci s6)]:Fr)) (fun (s6:Int)=>([]:St)) y3 (bC [] 0 r r r r jN aD) ?_
   intro s6 st6 hs6 ho6
   unfold aAH at hs6
   refine aZ<|aH<|mI r<|mS r<|aR r (kT uU r)<|aR r (gI r r)<|aG (fr':=[(0,aS),(3,aI),(15,aB)]) r r<|cG hs6 r (fun b7 h7=>?_) (fun b7 h7=>?_)
   ·
    refine bF<|cZ<|aZ<|cH<|aH<|mS r<|mI r<|bx h7 fun x8 y8 h9=>aR r (aAx uU r r y8)<|aR r (gI r r)<|mB r<|og r r r (fun u=>(bN (v:=aS) r))<|og r r r (fun u=>(bN (v:=aI) r))<|bx h9 fun x10 y10 h11=>og r r r (fun u=>(aAx uU (gx r u) (gx r u) (cU y10 u)))<|og r r r (fun u=>(qW (gx r u) r))<|aR r (cN r r r (fun e=>fJ e))<|mB r<|og r r r (fun u=>(bN (v:=aS) r))<|og r r r (fun u=>(bN (v:=aI) r))<|bx h11 fun x12 y12 h13=>og r r r (fun u=>(aAx uU (gx r u) (gx r u) (cU y12 u)))<|og r r r (fun u=>(bU (gx r u) r))<|aR r (cN r r r (fun e=>fJ e))<|mB r<|og r r r (fun u=>(bN (v:=aS) r))<|og r r r (fun u=>(bN (v:=aI) r))<|bx h13 fun x14 y14 h15=>og r r r (fun u=>(aAx uU (gx r u) (gx r u) (cU y14 u)))<|og r r r (fun u=>(bU (gx r u) r))<|aR r (cN r r r (fun e=>fJ e))<|aG (fr':=[(0,aS),(3,aI),(39,aB)]) r r<|cG h15 r (fun b16 h16=>?_) (fun b16 h16=>?_)
    ·
     refine aH<|sB r<|aG (fr':=[(2,aB)]) r r<|bK<|bO<|aP<|aP<|bO<|aP<|aP ?_
     have h17:=eR h16 ho6
     have h18:=fL h17 h4
     obtain rfl:=sy h18
     exact bJ (rs':=[.tmp 2]) r<|bS (v:=aB) r<|bI<|aN [] r r r lr aD
    ·
     exact bF<|cW<|cZ<|bB<|mI r<|aR r (gC r r)<|sI r<|dM (fr':=[(0,aS),(3,aI),(39,aB)]) r<|zO _ (sy h16) (bC [] 0 r r r r jN aD)
   ·
    refine hG<|cY<|cY<|fP ?_
    have h20:=eR h7 ho6
    exact iQ _ (sy h20) (bC [] 0 r r r r trivial aD)
  ·
   intro j5 hj21
   have h21:=lV hj21 h4
   refine cZ<|aH<|sB r<|aG (fr':=[(2,aB)]) r r<|bK ?_
   obtain rfl:=sy h21
   exact bJ (rs':=[.tmp 2]) r<|bS (v:=aB) r<|bI<|aN [] r r r lr aD
noncomputable def aAd (p0a:bY) (p1b:bY):Option Bool :=
 (gd ((cond (cond (cond (cond (decide (p0a.Kind=p1b.Kind)) (decide (p0a.Seq=p1b.Seq)) false) (decide (p0a.Name=p1b.Name)) false) (decide (p0a.Key=p1b.Key)) false) (decide (p0a.N=p1b.N)) false)==true) (aBc p0a.Data p1b.Data)).bind fun x1=>(gd ((cond (cond (cond (cond (cond (decide (p0a.Kind=p1b.Kind)) (decide (p0a.Seq=p1b.Seq)) false) (decide (p0a.Name=p1b.Name)) false) (decide (p0a.Key=p1b.Key)) false) (decide (p0a.N=p1b.N)) false) x1 false)==true) (oU p0a.Opts p1b.Opts)).bind fun x3=>some (cond (cond (cond (cond (cond (cond (decide (p0a.Kind=p1b.Kind)) (decide (p0a.Seq=p1b.Seq)) false) (decide (p0a.Name=p1b.Name)) false) (decide (p0a.Key=p1b.Key)) false) (decide (p0a.N=p1b.N)) false) x1 false) x3 false)
theorem aGV {p0a:bY}{p1b:bY}{z:Bool} (h:aAd p0a p1b=some z):cQ Tryz.prog 155 [.agg (AV.cs (dK p0a)),.agg (AV.cs (dK p1b))] [] (.c (.bool z)) []:=by
 unfold aAd at h
 refine dF (fn:=Tryz.f155) [0,1,2,3,4] (by kernel_rfl) Tryz.func155 r (by kernel_rfl) (by kernel_rfl)<|aH<|jK (v:=.agg aW) (n:=0) (cs:=aW) (σ':=[aW]) r r r r r<|jK (v:=.agg aW) (n:=1) (cs:=aW) (σ':=[aW,aW]) r r r r r<|sB r<|aG (fr':=[(2,aE),(3,aU)]) r r<|aH<|aR r (bD tJ r)<|aR r (aK (v:=aI) fM r r r)<|aR r (bD tJ r)<|aR r (aK (v:=aI) fM r r r)<|aR r (bU r r)<|mB r<|og r r r (fun u=>(bD aB5 r))<|og r r r (fun u=>(aK (v:=aI) fM (gx r u) r r))<|og r r r (fun u=>(bD aB5 r))<|og r r r (fun u=>(aK (v:=aI) fM (gx r u) r r))<|og r r r (fun u=>(bU (gx r u) (gx r u)))<|aR r (bV r r r (fun e=>fJ e))<|mB r<|og r r r (fun u=>(bD aAP r))<|og r r r (fun u=>(aK (v:=aS) lP (gx r u) r r))<|og r r r (fun u=>(bD aAP r))<|og r r r (fun u=>(aK (v:=aS) lP (gx r u) r r))<|og r r r (fun u=>(qX (gx r u) (gx r u)))<|aR r (bV r r r (fun e=>fJ e))<|mB r<|og r r r (fun u=>(bD aB6 r))<|og r r r (fun u=>(aK (v:=aS) lP (gx r u) r r))<|og r r r (fun u=>(bD aB6 r))<|og r r r (fun u=>(aK (v:=aS) lP (gx r u) r r))<|og r r r (fun u=>(qX (gx r u) (gx r u)))<|aR r (bV r r r (fun e=>fJ e))<|mB r<|og r r r (fun u=>(bD uF r))<|og r r r (fun u=>(aK (v:=aI) fM (gx r u) r r))<|og r r r (fun u=>(bD uF r))<|og r r r (fun u=>(aK (v:=aI) fM (gx r u) r r))<|og r r r (fun u=>(bU (gx r u) (gx r u)))<|aR r (bV r r r (fun e=>fJ e))<|mB r<|og r r r (fun u=>(bD vW r))<|og r r r (fun u=>(dL (us:=cE) iO (gx r u) r r r))<|og r r r (fun u=>(bD vW r))<|og r r r (fun u=>(dL (us:=cE) iO (gx r u) r r r))<|bx h fun x1 y1 h2=>sX r r (fun u=>bL (v:=aB) r (aCb (cU y1 u)) ⟨(eW (gx r u) (bQ r kR5)),(eW (gx r u) (bQ r kR5)),trivial⟩ (fT (by repeat (first | exact eN | refine aY r ?_ | refine aY (pP r) ?_ | refine aY pO ?_))) r r) ?_
 refine aR r (bV r r r (fun e=>fJ e))<|mB r<|og r r r (fun u=>(bD aBp r))<|og r r r (fun u=>(dL (us:=dO) yT (gx r u) r r r))<|og r r r (fun u=>(bD aBp r))<|og r r r (fun u=>(dL (us:=dO) yT (gx r u) r r r))<|bx h2 fun x3 y3 h4=>sX r r (fun u=>bL (v:=aB) r (wF (cU y3 u)) ⟨(eW (gx r u) (bQ r aBA)),(eW (gx r u) (bQ r aBA)),trivial⟩ (fT (by repeat (first | exact eN | refine aY r ?_ | refine aY (pP r) ?_ | refine aY pO ?_))) r r) ?_
 refine aR r (bV r r r (fun e=>fJ e))<|sB r<|aG (fr':=[(4,aB)]) r r<|bK ?_
 obtain rfl:=sy h4
 exact bJ (rs':=[.tmp 4]) r<|bS (v:=aB) r<|bI<|aN [] r r r lr aD
noncomputable def aCy (p0c:bY):Option bY :=
 ((((cond (decide (p0c.Kind=1)) (some (decide (p0c.Kind=1))) (cond (decide (p0c.Kind=2)) (some (decide (p0c.Kind=2))) (cond (decide (p0c.Kind=3)) (some (decide (p0c.Kind=3))) (cond (decide (p0c.Kind=4)) (some (decide (p0c.Kind=4))) (cond (decide (p0c.Kind=5)) (some (decide (p0c.Kind=5))) (some (decide (p0c.Kind=6)))))))):Option Bool).bind fun x4=>(cond x4 (some 0) (some p0c.Seq))):Option Int).bind fun x1=>(((((cond (decide (p0c.Kind=1)) (some (decide (p0c.Kind=1))) (cond (decide (p0c.Kind=5)) (some (decide (p0c.Kind=5))) (cond (decide (p0c.Kind=6)) (some (decide (p0c.Kind=6))) (cond (decide (p0c.Kind=7)) (some (decide (p0c.Kind=7))) (cond (decide (p0c.Kind=8)) (some (decide (p0c.Kind=8))) (some (decide (p0c.Kind=12)))))))):Option Bool).bind fun x18=>(cond x18 (some ([]:List UInt8)) (some p0c.Name))):Option (List UInt8)).bind fun x15=>(((((cond (decide (p0c.Kind=5)) (some (decide (p0c.Kind=5))) (cond (decide (p0c.Kind=6)) (some (decide (p0c.Kind=6))) (cond (decide (p0c.Kind=8)) (some (decide (p0c.Kind=8))) (some (decide (p0c.Kind=9)))))):Option Bool).bind fun x32=>(cond x32 (some ([]:List UInt8)) (some p0c.Key))):Option (List UInt8)).bind fun x29=>(((((cond (decide (p0c.Kind=3)) (some (decide (p0c.Kind=3))) (cond (decide (p0c.Kind=5)) (some (decide (p0c.Kind=5))) (cond (decide (p0c.Kind=7)) (some (decide (p0c.Kind=7))) (some (decide (p0c.Kind=9)))))):Option Bool).bind fun x44=>(cond x44 (some 0) (some p0c.N))):Option Int).bind fun x41=>(((((cond (decide (p0c.Kind=2)) (some (decide (p0c.Kind=2))) (cond (decide (p0c.Kind=3)) (some (decide (p0c.Kind=3))) (some (decide (p0c.Kind=4))))):Option Bool).bind fun x56=>(cond x56 (some (bY.mk p0c.Kind x1 x15 x29 x41 p0c.Data p0c.Opts)) (some (bY.mk p0c.Kind x1 x15 x29 x41 (aQ.mk 0 0 ([]:List UInt8) ([]:(List aQ)) ([]:(List (List UInt8)))) p0c.Opts)))):Option bY).bind fun x53=>(cond (decide (x53.Kind=1)) (some (bY.mk x53.Kind x53.Seq x53.Name x53.Key x53.N x53.Data (dS.mk ([]:List UInt8) 0 0 0 0 0 0 0 0 ([]:(List (List UInt8)))))) (some x53))))))
theorem aLM {p0c:bY}{z:bY} (h:aCy p0c=some z):cQ Tryz.prog 156 [.agg (AV.cs (dK p0c))] [] (.agg (AV.cs (dK z))) []:=by
 unfold aCy at h
 refine dF (fn:=Tryz.f156) [0,1,2,4,5,14,15,24,25,32,33,40,43,49] (by kernel_rfl) Tryz.func156 r (by kernel_rfl) (by kernel_rfl)<|aH<|jK (v:=.agg aW) (n:=0) (cs:=aW) (σ':=[aW]) r r r r r<|hO (n:=1) (cs:=aM) (σ':=[aW,aM]) aGQ r r r<|aG (fr':=[(1,aE),(2,aU)]) r r<|bx h fun x1 y1 h2=>hH (fun j3=>x1=j3) (fun (j3:Int)=>([(1,aE),(2,aU)]:Fr)) (fun (j3:Int)=>([[ci p0c.Kind,ci j3,.c (.str p0c.Name),.c (.str p0c.Key),ci p0c.N,ci p0c.Data.Kind,ci p0c.Data.Int,.c (.str p0c.Data.Text),.c (PV.ls 5 bT p0c.Data.Items),.c (PV.ls 1 fI p0c.Data.Keys),.c (.str p0c.Opts.Queue),ci p0c.Opts.ToStart,ci p0c.Opts.ToClose,ci p0c.Opts.Total,ci p0c.Opts.Beat,ci p0c.Opts.First,ci p0c.Opts.Coef,ci p0c.Opts.Most,ci p0c.Opts.Attempts,.c (PV.ls 1 fI p0c.Opts.Fatal)],[ci 0,ci 0,.c (.str ([]:List UInt8)),.c (.str ([]:List UInt8)),ci 0,ci 0,ci 0,.c (.str ([]:List UInt8)),AV.nil,AV.nil,.c (.str ([]:List UInt8)),ci 0,ci 0,ci 0,ci 0,ci 0,ci 0,ci 0,ci 0,AV.nil]]:St)) ?_ ?_
 ·
  refine aH<|aR r (bD tJ r)<|aR r (aK (v:=aI) fM r r r)<|aG (fr':=[(1,aE),(2,aU),(4,aI)]) r r<|cH<|bx y1 fun x4 y4 h5=>hH (fun j6=>x4=j6) (fun (j6:Bool)=>([(1,aE),(2,aU),(5,.c (.bool j6))]:Fr)) (fun (j6:Bool)=>([[ci p0c.Kind,ci p0c.Seq,.c (.str p0c.Name),.c (.str p0c.Key),ci p0c.N,ci p0c.Data.Kind,ci p0c.Data.Int,.c (.str p0c.Data.Text),.c (PV.ls 5 bT p0c.Data.Items),.c (PV.ls 1 fI p0c.Data.Keys),.c (.str p0c.Opts.Queue),ci p0c.Opts.ToStart,ci p0c.Opts.ToClose,ci p0c.Opts.Total,ci p0c.Opts.Beat,ci p0c.Opts.First,ci p0c.Opts.Coef,ci p0c.Opts.Most,ci p0c.Opts.Attempts,.c (PV.ls 1 fI p0c.Opts.Fatal)],[ci 0,ci 0,.c (.str ([]:List UInt8)),.c (.str ([]:List UInt8)),ci 0,ci 0,ci 0,.c (.str ([]:List UInt8)),AV.nil,AV.nil,.c (.str ([]:List UInt8)),ci 0,ci 0,ci 0,ci 0,ci 0,ci 0,ci 0,ci 0,AV.nil]]:St)) ?_ ?_
  ·
   refine aH<|aR r (bU r r)<|sB r<|aG (fr':=[(1,aE),(2,aU),(4,aI),(5,aB)]) r r<|cG y4 r (fun b7 h7=>?_) (fun b7 h7=>?_)
   ·
    exact bF<|iQ _ (sy h7) (bC [] 2 r r r r kA (bR r (bR r aD)))
   ·
    refine aH<|aR r (bU r r)<|sB r<|aG (fr':=[(1,aE),(2,aU),(4,aI),(5,aB)]) r r<|cG h7 r (fun b8 h8=>?_) (fun b8 h8=>?_)
    ·
     exact bF<|iQ _ (sy h8) (bC [] 2 r r r r kA (bR r (bR r aD)))
    ·
     refine aH<|aR r (bU r r)<|sB r<|aG (fr':=[(1,aE),(2,aU),(4,aI),(5,aB)]) r r<|cG h8 r (fun b9 h9=>?_) (fun b9 h9=>?_)
     ·
      exact bF<|iQ _ (sy h9) (bC [] 2 r r r r kA (bR r (bR r aD)))
     ·
      refine aH<|aR r (bU r r)<|sB r<|aG (fr':=[(1,aE),(2,aU),(4,aI),(5,aB)]) r r<|cG h9 r (fun b10 h10=>?_) (fun b10 h10=>?_)
      ·
       exact bF<|iQ _ (sy h10) (bC [] 2 r r r r kA (bR r (bR r aD)))
      ·
       refine aH<|aR r (bU r r)<|sB r<|aG (fr':=[(1,aE),(2,aU),(4,aI),(5,aB)]) r r<|cG h10 r (fun b11 h11=>?_) (fun b11 h11=>?_)
       ·
        exact bF<|iQ _ (sy h11) (bC [] 2 r r r r kA (bR r (bR r aD)))
       ·
        exact bB<|aR r (bU r r)<|sB r<|dM (fr':=[(1,aE),(2,aU),(4,aI),(5,aB)]) r<|iQ _ (sy h11) (bC [] 2 r r r r kA (bR r (bR r aD)))
  ·
   intro j6 hj12
   subst hj12
   refine cG h5 r (fun b13 h13=>?_) (fun b13 h13=>?_)
   ·
    exact bB<|aR r (bD aB5 r)<|bM (v:=aI) (us:=[aI]) (cs:=aW) (σ':=[aW,aM]) r fM r r r r r r r r<|dM (fr':=[(1,aE),(2,aU),(5,aB)]) r<|cW<|iQ _ (sy h13) (bC [] 2 r r r r jN (bR r (bR r aD)))
   ·
    exact bF<|cW<|iQ _ (sy h13) (bC [] 2 r r r r jN (bR r (bR r aD)))
 ·
  intro j3 hj14
  subst hj14
  obtain ⟨x15,y15,h16⟩:=iW h2
  refine hH (fun j17=>x15=j17) (fun (j17:(List UInt8))=>([(1,aE),(2,aU)]:Fr)) (fun (j17:(List UInt8))=>([[ci p0c.Kind,ci x1,.c (.str j17),.c (.str p0c.Key),ci p0c.N,ci p0c.Data.Kind,ci p0c.Data.Int,.c (.str p0c.Data.Text),.c (PV.ls 5 bT p0c.Data.Items),.c (PV.ls 1 fI p0c.Data.Keys),.c (.str p0c.Opts.Queue),ci p0c.Opts.ToStart,ci p0c.Opts.ToClose,ci p0c.Opts.Total,ci p0c.Opts.Beat,ci p0c.Opts.First,ci p0c.Opts.Coef,ci p0c.Opts.Most,ci p0c.Opts.Attempts,.c (PV.ls 1 fI p0c.Opts.Fatal)],[ci 0,ci 0,.c (.str ([]:List UInt8)),.c (.str ([]:List UInt8)),ci 0,ci 0,ci 0,.c (.str ([]:List UInt8)),AV.nil,AV.nil,.c (.str ([]:List UInt8)),ci 0,ci 0,ci 0,ci 0,ci 0,ci 0,ci 0,ci 0,AV.nil]]:St)) ?_ ?_
  ·
   refine aH<|aR r (bD tJ r)<|aR r (aK (v:=aI) fM r r r)<|aG (fr':=[(1,aE),(2,aU),(14,aI)]) r r<|cH<|bx y15 fun x18 y18 h19=>hH (fun j20=>x18=j20) (fun (j20:Bool)=>([(1,aE),(2,aU),(15,.c (.bool j20))]:Fr)) (fun (j20:Bool)=>([[ci p0c.Kind,ci x1,.c (.str p0c.Name),.c (.str p0c.Key),ci p0c.N,ci p0c.Data.Kind,ci p0c.Data.Int,.c (.str p0c.Data.Text),.c (PV.ls 5 bT p0c.Data.Items),.c (PV.ls 1 fI p0c.Data.Keys),.c (.str p0c.Opts.Queue),ci p0c.Opts.ToStart,ci p0c.Opts.ToClose,ci p0c.Opts.Total,ci p0c.Opts.Beat,ci p0c.Opts.First,ci p0c.Opts.Coef,ci p0c.Opts.Most,ci p0c.Opts.Attempts,.c (PV.ls 1 fI p0c.Opts.Fatal)],[ci 0,ci 0,.c (.str ([]:List UInt8)),.c (.str ([]:List UInt8)),ci 0,ci 0,ci 0,.c (.str ([]:List UInt8)),AV.nil,AV.nil,.c (.str ([]:List UInt8)),ci 0,ci 0,ci 0,ci 0,ci 0,ci 0,ci 0,ci 0,AV.nil]]:St)) ?_ ?_
   ·
    refine aH<|aR r (bU r r)<|sB r<|aG (fr':=[(1,aE),(2,aU),(14,aI),(15,aB)]) r r<|cG y18 r (fun b21 h21=>?_) (fun b21 h21=>?_)
    ·
     exact bF<|iQ _ (sy h21) (bC [] 2 r r r r kA (bR r (bR r aD)))
    ·
     refine aH<|aR r (bU r r)<|sB r<|aG (fr':=[(1,aE),(2,aU),(14,aI),(15,aB)]) r r<|cG h21 r (fun b22 h22=>?_) (fun b22 h22=>?_)
     ·
      exact bF<|iQ _ (sy h22) (bC [] 2 r r r r kA (bR r (bR r aD)))
     ·
      refine aH<|aR r (bU r r)<|sB r<|aG (fr':=[(1,aE),(2,aU),(14,aI),(15,aB)]) r r<|cG h22 r (fun b23 h23=>?_) (fun b23 h23=>?_)
      ·
       exact bF<|iQ _ (sy h23) (bC [] 2 r r r r kA (bR r (bR r aD)))
      ·
       refine aH<|aR r (bU r r)<|sB r<|aG (fr':=[(1,aE),(2,aU),(14,aI),(15,aB)]) r r<|cG h23 r (fun b24 h24=>?_) (fun b24 h24=>?_)
       ·
        exact bF<|iQ _ (sy h24) (bC [] 2 r r r r kA (bR r (bR r aD)))
       ·
        refine aH<|aR r (bU r r)<|sB r<|aG (fr':=[(1,aE),(2,aU),(14,aI),(15,aB)]) r r<|cG h24 r (fun b25 h25=>?_) (fun b25 h25=>?_)
        ·
         exact bF<|iQ _ (sy h25) (bC [] 2 r r r r kA (bR r (bR r aD)))
        ·
         exact bB<|aR r (bU r r)<|sB r<|dM (fr':=[(1,aE),(2,aU),(14,aI),(15,aB)]) r<|iQ _ (sy h25) (bC [] 2 r r r r kA (bR r (bR r aD)))
   ·
    intro j20 hj26
    subst hj26
    refine cG h19 r (fun b27 h27=>?_) (fun b27 h27=>?_)
    ·
     exact bB<|aR r (bD aAP r)<|bM (v:=aS) (us:=[aS]) (cs:=aW) (σ':=[aW,aM]) r lP r r r r r r r r<|dM (fr':=[(1,aE),(2,aU),(15,aB)]) r<|cW<|iQ _ (sy h27) (bC [] 2 r r r r jN (bR r (bR r aD)))
    ·
     exact bF<|cW<|iQ _ (sy h27) (bC [] 2 r r r r jN (bR r (bR r aD)))
  ·
   intro j17 hj28
   subst hj28
   obtain ⟨x29,y29,h30⟩:=iW h16
   refine hH (fun j31=>x29=j31) (fun (j31:(List UInt8))=>([(1,aE),(2,aU)]:Fr)) (fun (j31:(List UInt8))=>([[ci p0c.Kind,ci x1,.c (.str x15),.c (.str j31),ci p0c.N,ci p0c.Data.Kind,ci p0c.Data.Int,.c (.str p0c.Data.Text),.c (PV.ls 5 bT p0c.Data.Items),.c (PV.ls 1 fI p0c.Data.Keys),.c (.str p0c.Opts.Queue),ci p0c.Opts.ToStart,ci p0c.Opts.ToClose,ci p0c.Opts.Total,ci p0c.Opts.Beat,ci p0c.Opts.First,ci p0c.Opts.Coef,ci p0c.Opts.Most,ci p0c.Opts.Attempts,.c (PV.ls 1 fI p0c.Opts.Fatal)],[ci 0,ci 0,.c (.str ([]:List UInt8)),.c (.str ([]:List UInt8)),ci 0,ci 0,ci 0,.c (.str ([]:List UInt8)),AV.nil,AV.nil,.c (.str ([]:List UInt8)),ci 0,ci 0,ci 0,ci 0,ci 0,ci 0,ci 0,ci 0,AV.nil]]:St)) ?_ ?_
   ·
    refine aH<|aR r (bD tJ r)<|aR r (aK (v:=aI) fM r r r)<|aG (fr':=[(1,aE),(2,aU),(24,aI)]) r r<|cH<|bx y29 fun x32 y32 h33=>hH (fun j34=>x32=j34) (fun (j34:Bool)=>([(1,aE),(2,aU),(25,.c (.bool j34))]:Fr)) (fun (j34:Bool)=>([[ci p0c.Kind,ci x1,.c (.str x15),.c (.str p0c.Key),ci p0c.N,ci p0c.Data.Kind,ci p0c.Data.Int,.c (.str p0c.Data.Text),.c (PV.ls 5 bT p0c.Data.Items),.c (PV.ls 1 fI p0c.Data.Keys),.c (.str p0c.Opts.Queue),ci p0c.Opts.ToStart,ci p0c.Opts.ToClose,ci p0c.Opts.Total,ci p0c.Opts.Beat,ci p0c.Opts.First,ci p0c.Opts.Coef,ci p0c.Opts.Most,ci p0c.Opts.Attempts,.c (PV.ls 1 fI p0c.Opts.Fatal)],[ci 0,ci 0,.c (.str ([]:List UInt8)),.c (.str ([]:List UInt8)),ci 0,ci 0,ci 0,.c (.str ([]:List UInt8)),AV.nil,AV.nil,.c (.str ([]:List UInt8)),ci 0,ci 0,ci 0,ci 0,ci 0,ci 0,ci 0,ci 0,AV.nil]]:St)) ?_ ?_
    ·
     refine aH<|aR r (bU r r)<|sB r<|aG (fr':=[(1,aE),(2,aU),(24,aI),(25,aB)]) r r<|cG y32 r (fun b35 h35=>?_) (fun b35 h35=>?_)
     ·
      exact bF<|iQ _ (sy h35) (bC [] 2 r r r r kA (bR r (bR r aD)))
     ·
      refine aH<|aR r (bU r r)<|sB r<|aG (fr':=[(1,aE),(2,aU),(24,aI),(25,aB)]) r r<|cG h35 r (fun b36 h36=>?_) (fun b36 h36=>?_)
      ·
       exact bF<|iQ _ (sy h36) (bC [] 2 r r r r kA (bR r (bR r aD)))
      ·
       refine aH<|aR r (bU r r)<|sB r<|aG (fr':=[(1,aE),(2,aU),(24,aI),(25,aB)]) r r<|cG h36 r (fun b37 h37=>?_) (fun b37 h37=>?_)
       ·
        exact bF<|iQ _ (sy h37) (bC [] 2 r r r r kA (bR r (bR r aD)))
       ·
        exact bB<|aR r (bU r r)<|sB r<|dM (fr':=[(1,aE),(2,aU),(24,aI),(25,aB)]) r<|iQ _ (sy h37) (bC [] 2 r r r r kA (bR r (bR r aD)))
    ·
     intro j34 hj38
     subst hj38
     refine cG h33 r (fun b39 h39=>?_) (fun b39 h39=>?_)
     ·
      exact bB<|aR r (bD aB6 r)<|bM (v:=aS) (us:=[aS]) (cs:=aW) (σ':=[aW,aM]) r lP r r r r r r r r<|dM (fr':=[(1,aE),(2,aU),(25,aB)]) r<|cW<|iQ _ (sy h39) (bC [] 2 r r r r jN (bR r (bR r aD)))
     ·
      exact bF<|cW<|iQ _ (sy h39) (bC [] 2 r r r r jN (bR r (bR r aD)))
   ·
    intro j31 hj40
    subst hj40
    obtain ⟨x41,y41,h42⟩:=iW h30
    refine hH (fun j43=>x41=j43) (fun (j43:Int)=>([(1,aE),(2,aU)]:Fr)) (fun (j43:Int)=>([[ci p0c.Kind,ci x1,.c (.str x15),.c (.str x29),ci j43,ci p0c.Data.Kind,ci p0c.Data.Int,.c (.str p0c.Data.Text),.c (PV.ls 5 bT p0c.Data.Items),.c (PV.ls 1 fI p0c.Data.Keys),.c (.str p0c.Opts.Queue),ci p0c.Opts.ToStart,ci p0c.Opts.ToClose,ci p0c.Opts.Total,ci p0c.Opts.Beat,ci p0c.Opts.First,ci p0c.Opts.Coef,ci p0c.Opts.Most,ci p0c.Opts.Attempts,.c (PV.ls 1 fI p0c.Opts.Fatal)],[ci 0,ci 0,.c (.str ([]:List UInt8)),.c (.str ([]:List UInt8)),ci 0,ci 0,ci 0,.c (.str ([]:List UInt8)),AV.nil,AV.nil,.c (.str ([]:List UInt8)),ci 0,ci 0,ci 0,ci 0,ci 0,ci 0,ci 0,ci 0,AV.nil]]:St)) ?_ ?_
    ·
     refine aH<|aR r (bD tJ r)<|aR r (aK (v:=aI) fM r r r)<|aG (fr':=[(1,aE),(2,aU),(32,aI)]) r r<|cH<|bx y41 fun x44 y44 h45=>hH (fun j46=>x44=j46) (fun (j46:Bool)=>([(1,aE),(2,aU),(33,.c (.bool j46))]:Fr)) (fun (j46:Bool)=>([[ci p0c.Kind,ci x1,.c (.str x15),.c (.str x29),ci p0c.N,ci p0c.Data.Kind,ci p0c.Data.Int,.c (.str p0c.Data.Text),.c (PV.ls 5 bT p0c.Data.Items),.c (PV.ls 1 fI p0c.Data.Keys),.c (.str p0c.Opts.Queue),ci p0c.Opts.ToStart,ci p0c.Opts.ToClose,ci p0c.Opts.Total,ci p0c.Opts.Beat,ci p0c.Opts.First,ci p0c.Opts.Coef,ci p0c.Opts.Most,ci p0c.Opts.Attempts,.c (PV.ls 1 fI p0c.Opts.Fatal)],[ci 0,ci 0,.c (.str ([]:List UInt8)),.c (.str ([]:List UInt8)),ci 0,ci 0,ci 0,.c (.str ([]:List UInt8)),AV.nil,AV.nil,.c (.str ([]:List UInt8)),ci 0,ci 0,ci 0,ci 0,ci 0,ci 0,ci 0,ci 0,AV.nil]]:St)) ?_ ?_
     ·
      refine aH<|aR r (bU r r)<|sB r<|aG (fr':=[(1,aE),(2,aU),(32,aI),(33,aB)]) r r<|cG y44 r (fun b47 h47=>?_) (fun b47 h47=>?_)
      ·
       exact bF<|iQ _ (sy h47) (bC [] 2 r r r r kA (bR r (bR r aD)))
      ·
       refine aH<|aR r (bU r r)<|sB r<|aG (fr':=[(1,aE),(2,aU),(32,aI),(33,aB)]) r r<|cG h47 r (fun b48 h48=>?_) (fun b48 h48=>?_)
       ·
        exact bF<|iQ _ (sy h48) (bC [] 2 r r r r kA (bR r (bR r aD)))
       ·
        refine aH<|aR r (bU r r)<|sB r<|aG (fr':=[(1,aE),(2,aU),(32,aI),(33,aB)]) r r<|cG h48 r (fun b49 h49=>?_) (fun b49 h49=>?_)
        ·
         exact bF<|iQ _ (sy h49) (bC [] 2 r r r r kA (bR r (bR r aD)))
        ·
         exact bB<|aR r (bU r r)<|sB r<|dM (fr':=[(1,aE),(2,aU),(32,aI),(33,aB)]) r<|iQ _ (sy h49) (bC [] 2 r r r r kA (bR r (bR r aD)))
     ·
      intro j46 hj50
      subst hj50
      refine cG h45 r (fun b51 h51=>?_) (fun b51 h51=>?_)
      ·
       exact bB<|aR r (bD uF r)<|bM (v:=aI) (us:=[aI]) (cs:=aW) (σ':=[aW,aM]) r fM r r r r r r r r<|dM (fr':=[(1,aE),(2,aU),(33,aB)]) r<|cW<|iQ _ (sy h51) (bC [] 2 r r r r jN (bR r (bR r aD)))
      ·
       exact bF<|cW<|iQ _ (sy h51) (bC [] 2 r r r r jN (bR r (bR r aD)))
    ·
     intro j43 hj52
     subst hj52
     obtain ⟨x53,y53,h54⟩:=iW h42
     refine hH (fun j55=>x53=j55) (fun (j55:bY)=>([(1,aE),(2,aU)]:Fr)) (fun (j55:bY)=>([[ci j55.Kind,ci j55.Seq,.c (.str j55.Name),.c (.str j55.Key),ci j55.N,ci j55.Data.Kind,ci j55.Data.Int,.c (.str j55.Data.Text),.c (PV.ls 5 bT j55.Data.Items),.c (PV.ls 1 fI j55.Data.Keys),.c (.str j55.Opts.Queue),ci j55.Opts.ToStart,ci j55.Opts.ToClose,ci j55.Opts.Total,ci j55.Opts.Beat,ci j55.Opts.First,ci j55.Opts.Coef,ci j55.Opts.Most,ci j55.Opts.Attempts,.c (PV.ls 1 fI j55.Opts.Fatal)],[ci 0,ci 0,.c (.str ([]:List UInt8)),.c (.str ([]:List UInt8)),ci 0,ci 0,ci 0,.c (.str ([]:List UInt8)),AV.nil,AV.nil,.c (.str ([]:List UInt8)),ci 0,ci 0,ci 0,ci 0,ci 0,ci 0,ci 0,ci 0,AV.nil]]:St)) ?_ ?_
     ·
      refine aH<|aR r (bD tJ r)<|aR r (aK (v:=aI) fM r r r)<|aG (fr':=[(1,aE),(2,aU),(40,aI)]) r r<|cH<|bx y53 fun x56 y56 h57=>hH (fun j58=>x56=j58) (fun (j58:Bool)=>([(1,aE),(2,aU),(43,.c (.bool j58))]:Fr)) (fun (j58:Bool)=>([[ci p0c.Kind,ci x1,.c (.str x15),.c (.str x29),ci x41,ci p0c.Data.Kind,ci p0c.Data.Int,.c (.str p0c.Data.Text),.c (PV.ls 5 bT p0c.Data.Items),.c (PV.ls 1 fI p0c.Data.Keys),.c (.str p0c.Opts.Queue),ci p0c.Opts.ToStart,ci p0c.Opts.ToClose,ci p0c.Opts.Total,ci p0c.Opts.Beat,ci p0c.Opts.First,ci p0c.Opts.Coef,ci p0c.Opts.Most,ci p0c.Opts.Attempts,.c (PV.ls 1 fI p0c.Opts.Fatal)],[ci 0,ci 0,.c (.str ([]:List UInt8)),.c (.str ([]:List UInt8)),ci 0,ci 0,ci 0,.c (.str ([]:List UInt8)),AV.nil,AV.nil,.c (.str ([]:List UInt8)),ci 0,ci 0,ci 0,ci 0,ci 0,ci 0,ci 0,ci 0,AV.nil]]:St)) ?_ ?_
      ·
       refine aH<|aR r (bU r r)<|sB r<|aG (fr':=[(1,aE),(2,aU),(40,aI),(43,aB)]) r r<|cG y56 r (fun b59 h59=>?_) (fun b59 h59=>?_)
       ·
        exact bF<|iQ _ (sy h59) (bC [] 2 r r r r kA (bR r (bR r aD)))
       ·
        refine aH<|aR r (bU r r)<|sB r<|aG (fr':=[(1,aE),(2,aU),(40,aI),(43,aB)]) r r<|cG h59 r (fun b60 h60=>?_) (fun b60 h60=>?_)
        ·
         exact bF<|iQ _ (sy h60) (bC [] 2 r r r r kA (bR r (bR r aD)))
        ·
         exact bB<|aR r (bU r r)<|sB r<|dM (fr':=[(1,aE),(2,aU),(40,aI),(43,aB)]) r<|iQ _ (sy h60) (bC [] 2 r r r r kA (bR r (bR r aD)))
      ·
       intro j58 hj61
       subst hj61
       refine cG h57 r (fun b62 h62=>?_) (fun b62 h62=>?_)
       ·
        exact bF<|cW<|iQ _ (sy h62) (bC [] 2 r r r r jN (bR r (bR r aD)))
       ·
        exact bB<|aR r (fV (cs:=cB) aFl r)<|aR r (bD vW r)<|bM (v:=.agg cB) (us:=cB) (cs:=aW) (σ':=[aEn,aM]) r iO r r r r r r r r<|dM (fr':=[(1,aE),(2,aU),(43,aB)]) r<|cW<|iQ _ (sy h62) (bC [] 2 r r r r jN (qI ⟨lr,lr,lr,lr,lr,lr,lr,lr,aA7,aA7,lr,lr,lr,lr,lr,lr,lr,lr,lr,lr,trivial⟩ (bR r aD)))
     ·
      intro j55 hj63
      subst hj63
      refine aZ<|aH<|aR r (bD tJ r)<|aR r (aK (v:=aI) fM r r r)<|aR r (bU r r)<|aG (fr':=[(1,aE),(2,aU),(49,aB)]) r r<|cG h54 r (fun b64 h64=>?_) (fun b64 h64=>?_)
      ·
       refine bB<|aR r (iD (c0:=bG) (cs:=bG) aM6 r iC)<|aR r (bD aBp r)<|bM (v:=.agg bG) (us:=bG) (cs:=aW) (σ':=[iA,aM]) r yT r r r r r r r r<|aG (fr':=[(1,aE),(2,aU)]) r r<|aH<|aR r (dL (us:=iA) rB r r r r)<|bM (v:=.agg iA) (us:=iA) (cs:=aM) (σ':=[iA,iA]) r rB r r r r r r r r<|aG (fr':=[(2,aU)]) r r<|bK ?_
       obtain rfl:=sy h64
       exact bJ (rs':=[.cell 2 103]) r<|dY (us:=iA) (cs:=iA) rB r r r r<|bI<|aN [] r r r (bQ r ⟨r,r,r,r,r,r,r,r,r,r,r,r,r,r,r,r,r,r,r,⟨_,r⟩,trivial⟩) aD
      ·
       refine bF<|cZ<|aH<|aR r (dL (us:=aW) rB r r r r)<|bM (v:=.agg aW) (us:=aW) (cs:=aM) (σ':=[aW,aW]) r rB r r r r r r r r<|aG (fr':=[(2,aU)]) r r<|bK ?_
       obtain rfl:=sy h64
       exact bJ (rs':=[.cell 2 103]) r<|dY (us:=aW) (cs:=aW) rB r r r r<|bI<|aN [] r r r (bQ r aDF) aD
noncomputable def xT (p0v:aQ) (s8:Int):Option (dU Int (Fl Bool Unit)) :=
 (nG p0v.Items 1).bind fun x9=>cond (decide (s8<((x9.Items).length:Int))) ((nG p0v.Items 1).bind fun x12=>(nG x12.Items s8).bind fun x14=>(gd ((cond (!decide (x14.Kind=4)) true (!decide (((x14.Items).length:Int)=2)))==false) (nG x14.Items 0)).bind fun x16=>(gd ((cond (cond (!decide (x14.Kind=4)) true (!decide (((x14.Items).length:Int)=2))) true (!decide (x16.Kind=3)))==false) (nG x14.Items 0)).bind fun x18=>(gd ((cond (cond (!decide (x14.Kind=4)) true (!decide (((x14.Items).length:Int)=2))) true (!decide (x16.Kind=3)))==false) (qY x18.Text)).bind fun x20=>cond (cond (cond (cond (!decide (x14.Kind=4)) true (!decide (((x14.Items).length:Int)=2))) true (!decide (x16.Kind=3))) true (!x20)) (some (dU.out (Fl.done false))) (some (dU.next (IntKind.wrap .i64 (s8+1))))) (some (dU.out (Fl.go ())))
noncomputable def aBG (p0v:aQ):Option Bool :=
 (gd ((cond (!decide (p0v.Kind=4)) true (!decide (((p0v.Items).length:Int)=2)))==false) (nG p0v.Items 1)).bind fun x1=>cond (cond (cond (!decide (p0v.Kind=4)) true (!decide (((p0v.Items).length:Int)=2))) true (!decide (x1.Kind=4))) (some false) ((fK (xT p0v) (0)).bind fun x5=>Fl.next x5 (fun j7=>(some true)))
theorem aKj {p0v:aQ}{z:Bool} (h:aBG p0v=some z):cQ Tryz.prog 157 [.agg (AV.cs (fA p0v))] [] (.c (.bool z)) []:=by
 unfold aBG at h
 refine dF (fn:=Tryz.f157) [0,1,2,3,4,21,29,65] (by kernel_rfl) Tryz.func157 r (by kernel_rfl) (by kernel_rfl)<|aH<|jK (v:=.agg cE) (n:=0) (cs:=cE) (σ':=[cE]) r r r r r<|sB r<|aG (fr':=[(1,aE)]) r r<|aZ<|aH<|aR r (bD mE r)<|aR r (aK (v:=aI) fM r r r)<|aR r (iS r r)<|mB r<|og r r r (fun u=>(bD iJ r))<|og r r r (fun u=>(aK (v:=aL) nS (gx r u) r r))<|og r r r (fun u=>(hZ vX (eK (gx r u))))<|og r r r (fun u=>(iS (gx r u) r))<|aR r (cN r r r (fun e=>fJ e))<|mB r<|og r r r (fun u=>(bD iJ r))<|og r r r (fun u=>(aK (v:=aL) nS (gx r u) r r))<|bx h fun x1 y1 h2=>og r r r (fun u=>(lF (cs:=[PV.int _ _,PV.int _ _,PV.str _,PV.ls _ _ _,PV.ls _ _ _]) uV (eK (gx r u)) r (cU y1 u) (eJ _)))<|og r r r (fun u=>(zI mE (gx r u)))<|og r r r (fun u=>(gP (p:=PV.int _ _) fM (gx r u) r))<|og r r r (fun u=>(iS (gx r u) r))<|aR r (cN r r r (fun e=>fJ e))<|aG (fr':=[(1,aE),(21,aB)]) r r<|cG h2 r (fun b3 h3=>?_) (fun b3 h3=>?_)
 ·
  refine aH<|sB r<|aG (fr':=[(2,aB)]) r r<|bK<|aP ?_
  obtain rfl:=sy h3
  exact bJ (rs':=[.tmp 2]) r<|bS (v:=aB) r<|bI<|aN [] r r r lr aD
 ·
  refine bF<|cZ<|aZ<|aH<|sI r<|aG (fr':=[(1,aE),(3,aI)]) r r<|bx h3 fun x5 y5 h6=>gZ lB (fun j7=>x5=Fl.go j7) (fun (j7:Unit)=>([]:Fr)) (fun (j7:Unit)=>([[ci p0v.Kind,ci p0v.Int,.c (.str p0v.Text),.c (PV.ls 5 bT p0v.Items),.c (PV.ls 1 fI p0v.Keys)]]:St)) ?_ ?_
  ·
   refine cH<|gV _ (fun (s8:Int)=>([(1,aE),(3,ci s8)]:Fr)) (fun (s8:Int)=>([[ci p0v.Kind,ci p0v.Int,.c (.str p0v.Text),.c (PV.ls 5 bT p0v.Items),.c (PV.ls 1 fI p0v.Keys)]]:St)) y5 (bC [] 1 r r r r jN (bR r aD)) ?_
   intro s8 st8 hs8 ho8
   unfold xT at hs8
   refine aZ<|aH<|mI r<|aR r (bD iJ r)<|aR r (aK (v:=aL) nS r r r)<|bx hs8 fun x9 y9 h10=>aR r (lF (cs:=[PV.int _ _,PV.int _ _,PV.str _,PV.ls _ _ _,PV.ls _ _ _]) uV (eK r) r y9 (eJ _))<|aR r (zI iJ r)<|aR r (gP (p:=PV.ls _ _ _) nS r r)<|aR r (hZ vX (eK r))<|aR r (gI r r)<|aG (fr':=[(1,aE),(3,aI),(29,aB)]) r r<|cG h10 r (fun b11 h11=>?_) (fun b11 h11=>?_)
   ·
    refine bF<|cZ<|aZ<|cH<|aH<|aR r (bD iJ r)<|aR r (aK (v:=aL) nS r r r)<|bx h11 fun x12 y12 h13=>aR r (lF (cs:=[PV.int _ _,PV.int _ _,PV.str _,PV.ls _ _ _,PV.ls _ _ _]) uV (eK r) r y12 (eJ _))<|aR r (zI iJ r)<|aR r (gP (p:=PV.ls _ _ _) nS r r)<|mI r<|bx h13 fun x14 y14 h15=>aR r (lF (cs:=[PV.int _ _,PV.int _ _,PV.str _,PV.ls _ _ _,PV.ls _ _ _]) uV (eK r) r y14 (eJ _))<|aR r (lT (us:=[PV.int _ _,PV.int _ _,PV.str _,PV.ls _ _ _,PV.ls _ _ _]) iO r r r)<|hO (n:=1) (cs:=cB) (σ':=[cE,cB]) aD2 r r r<|bM (v:=.agg cE) (us:=cE) (cs:=cB) (σ':=[cE,cE]) r iO r r r r r r r r<|aG (fr':=[(1,aE),(3,aI),(4,aU)]) r r<|aH<|aR r (bD mE r)<|aR r (aK (v:=aI) fM r r r)<|aR r (iS r r)<|mB r<|og r r r (fun u=>(bD iJ r))<|og r r r (fun u=>(aK (v:=aL) nS (gx r u) r r))<|og r r r (fun u=>(hZ vX (eK (gx r u))))<|og r r r (fun u=>(iS (gx r u) r))<|aR r (cN r r r (fun e=>fJ e))<|mB r<|og r r r (fun u=>(bD iJ r))<|og r r r (fun u=>(aK (v:=aL) nS (gx r u) r r))<|bx h15 fun x16 y16 h17=>og r r r (fun u=>(lF (cs:=[PV.int _ _,PV.int _ _,PV.str _,PV.ls _ _ _,PV.ls _ _ _]) uV (eK (gx r u)) r (cU y16 u) (eJ _)))<|og r r r (fun u=>(zI mE (gx r u)))<|og r r r (fun u=>(gP (p:=PV.int _ _) fM (gx r u) r))<|og r r r (fun u=>(iS (gx r u) r))<|aR r (cN r r r (fun e=>fJ e))<|mB r<|og r r r (fun u=>(bD iJ r))<|og r r r (fun u=>(aK (v:=aL) nS (gx r u) r r))<|bx h17 fun x18 y18 h19=>og r r r (fun u=>(lF (cs:=[PV.int _ _,PV.int _ _,PV.str _,PV.ls _ _ _,PV.ls _ _ _]) uV (eK (gx r u)) r (cU y18 u) (eJ _)))<|og r r r (fun u=>(zI uP (gx r u)))<|og r r r (fun u=>(gP (p:=PV.str _) lP (gx r u) r))<|bx h19 fun x20 y20 h21=>sX r r (fun u=>bL (v:=aB) r (uR (cU y20 u)) ⟨(eW (gx r u) lr),trivial⟩ (fT (by repeat (first | exact eN | refine aY r ?_ | refine aY (pP r) ?_ | refine aY pO ?_))) r r) ?_
    refine og r r r (fun u=>(fE (gx r u)))<|aR r (cN r r r (fun e=>fJ e))<|aG (fr':=[(1,aE),(3,aI),(65,aB)]) r r<|cG h21 r (fun b22 h22=>?_) (fun b22 h22=>?_)
    ·
     refine aH<|sB r<|aG (fr':=[(2,aB)]) r r<|bK<|bO<|aP<|aP<|bO<|aP<|aP ?_
     have h23:=eR h22 ho8
     have h24:=fL h23 h6
     obtain rfl:=sy h24
     exact bJ (rs':=[.tmp 2]) r<|bS (v:=aB) r<|bI<|aN [] r r r lr aD
    ·
     exact bF<|cW<|cZ<|bB<|mI r<|aR r (gC r r)<|sI r<|dM (fr':=[(1,aE),(3,aI),(65,aB)]) r<|zO _ (sy h22) (bC [] 1 r r r r jN (bR r aD))
   ·
    refine hG<|cY<|cY<|fP ?_
    have h26:=eR h11 ho8
    exact iQ _ (sy h26) (bC [] 1 r r r r trivial (bR r aD))
  ·
   intro j7 hj27
   have h27:=lV hj27 h6
   refine cZ<|aH<|sB r<|aG (fr':=[(2,aB)]) r r<|bK ?_
   obtain rfl:=sy h27
   exact bJ (rs':=[.tmp 2]) r<|bS (v:=aB) r<|bI<|aN [] r r r lr aD
noncomputable def xU (p0C:bY):Option Bool :=
 (uA p0C.Kind 1 14).bind fun x1=>(gd ((!x1)==false) (aCy p0C)).bind fun x3=>(gd ((!x1)==false) (aAd x3 (bY.mk p0C.Kind 0 ([]:List UInt8) ([]:List UInt8) 0 (aQ.mk 0 0 ([]:List UInt8) ([]:(List aQ)) ([]:(List (List UInt8)))) (dS.mk ([]:List UInt8) 0 0 0 0 0 0 0 0 ([]:(List (List UInt8))))))).bind fun x5=>(gd ((cond (!x1) true (!x5))==false) (tX p0C.Data)).bind fun x7=>cond (cond (cond (!x1) true (!x5)) true (!x7)) (some false) ((uA p0C.Seq 1 2000).bind fun x11=>(qY p0C.Name).bind fun x13=>(vO p0C.Key).bind fun x15=>cond (decide (p0C.Kind=1)) ((gd ((cond x11 x13 false)==true) (rM p0C.Opts)).bind fun x18=>some (cond (cond x11 x13 false) x18 false)) (((cond (decide (p0C.Kind=2)) (some (decide (p0C.Kind=2))) (some (decide (p0C.Kind=4)))):Option Bool).bind fun x21=>(cond x21 (some x11) (cond (decide (p0C.Kind=3)) ((gd (x11==true) (uA p0C.N 1 1099511627776)).bind fun x29=>some (cond x11 x29 false)) (cond (decide (p0C.Kind=5)) ((gd ((cond (cond x11 x13 false) x15 false)==true) (uA p0C.N 0 2)).bind fun x33=>some (cond (cond (cond x11 x13 false) x15 false) x33 false)) (cond (decide (p0C.Kind=6)) (some (cond (cond x11 x13 false) x15 false)) (cond (decide (p0C.Kind=7)) ((gd ((x13==true)&&((decide (p0C.N=(-1)))==false)) (uA p0C.N 0 2147483647)).bind fun x39=>some (cond x13 (cond (decide (p0C.N=(-1))) true (cond x39 (decide (p0C.Data.Kind=0)) false)) false)) (cond (decide (p0C.Kind=8)) (some (cond x15 x13 false)) (cond (decide (p0C.Kind=9)) ((gd (x15==true) (uA p0C.N 0 1)).bind fun x45=>some (cond x15 x45 false)) (cond (decide (p0C.Kind=10)) (some (decide (p0C.Data.Kind=5))) (cond (decide (p0C.Kind=12)) (some (decide (((p0C.Name).length:Int)≤4096))) (cond (decide (p0C.Kind=14)) ((aBG p0C.Data).bind fun x53=>some x53) (some true)))))))))))))
theorem aDe {p0C:bY}{z:Bool} (h:xU p0C=some z):cQ Tryz.prog 84 [.agg (AV.cs (dK p0C))] [] (.c (.bool z)) []:=by
 unfold xU at h
 refine dF (fn:=Tryz.f84) [0,1,2,3,4,5,24,35,36,47,51,59,73,82,101,107,115,121,127] (by kernel_rfl) Tryz.func84 r (by kernel_rfl) (by kernel_rfl)<|aH<|jK (v:=.agg aW) (n:=0) (cs:=aW) (σ':=[aW]) r r r r r<|sB r<|aG (fr':=[(1,aE)]) r r<|aZ<|aZ<|kV [.q 0,.q 1,.q 2,.q 3,.q 4,.q 5,.q 6,.q 7,.q 8,.q 9,.q 10,.q 11,.q 12,.q 13,.q 14,.q 15,.q 16,.q 17,.q 18] [(some 6,[1]),(some 7,[6]),(some 8,[7]),(some 9,[8]),(some 10,[9]),(some 11,[1,10]),(some 12,[11,10]),(some 13,[1,10]),(some 14,[13,10]),(some 15,[14,10]),(some 16,[12,15,10]),(some 17,[16,10]),(some 18,[10,17]),(some 19,[18]),(some 20,[1,19]),(some 21,[20,19]),(some 22,[21,19]),(some 23,[22,19]),(some 24,[19,23])] [0,1,3,7,15,31,63,31,159,415,1023,2047,4095,8191,16383,32767,65535,131071,262143] (by kernel_rfl)<|dq r r (bD tJ r)<|dq r r (aK (v:=aI) fM r r r)<|bx h fun x1 y1 h2=>d_q r (xF (v:=aB) r (uS y1) kA r)<|dq r r (fE r)<|dq r r (bN (v:=aB) r)<|d_g r r r (fun u=>kU r (dL (us:=aW) rB r r r r))<|bx h2 fun x3 y3 h4=>d_g r r r (fun u=>xF (v:=.agg aW) r (aLM (cU y3 u)) ⟨(eW (gx r u) (bQ r aDF)),trivial⟩ r)<|d_g r r r (fun u=>kU r (bD tJ r))<|d_g r r r (fun u=>kU r (aK (v:=aI) fM (gx r u) r r))<|d_g r r r (fun u=>kU r (iD (c0:=aM) (cs:=aM) aKP r (eC (v:=aI) (us:=[_]) (cs':=u20) r (gx r u) r r r r iC)))<|bx h4 fun x5 y5 h6=>d_g r r r (fun u=>xF (v:=aB) r (aGV (cU y5 u)) ⟨(eW (gx r u) (bQ r aDF)),(eW (gx r u) (bQ r ⟨r,r,r,r,r,r,r,r,⟨_,r⟩,⟨_,r⟩,r,r,r,r,r,r,r,r,r,⟨_,r⟩,trivial⟩)),trivial⟩ r)<|d_g r r r (fun u=>kU r (fE (gx r u)))<|dq r r (cN r r r (fun e=>fJ e))<|dq r r (bN (v:=aB) r)<|d_g r r r (fun u=>kU r (bD vW r))<|d_g r r r (fun u=>kU r (dL (us:=cE) iO (gx r u) r r r))<|bx h6 fun x7 y7 h8=>d_g r r r (fun u=>xF (v:=aB) r (zN (cU y7 u)) ⟨(eW (gx r u) (bQ r kR5)),trivial⟩ r)<|d_g r r r (fun u=>kU r (fE (gx r u)))<|dq r r (cN r r r (fun e=>fJ e))<|aAq (fr':=[(1,aE),(24,aB)]) r r<|cG h8 r (fun b9 h9=>?_) (fun b9 h9=>?_)
 ·
  refine aH<|sB r<|aG (fr':=[(2,aB)]) r r<|bK<|aP ?_
  obtain rfl:=sy h9
  exact bJ (rs':=[.tmp 2]) r<|bS (v:=aB) r<|bI<|aN [] r r r lr aD
 ·
  refine bF<|cZ<|aH<|aR r (bD aB5 r)<|aR r (aK (v:=aI) fM r r r)<|bx h9 fun x11 y11 h12=>lS (bL (v:=aB) r (uS y11) kA r r r)<|sB r<|aG (fr':=[(1,aE),(3,aB)]) r r<|aH<|aR r (bD aAP r)<|aR r (aK (v:=aS) lP r r r)<|bx h12 fun x13 y13 h14=>lS (bL (v:=aB) r (uR y13) ⟨lr,trivial⟩ r r r)<|sB r<|aG (fr':=[(1,aE),(3,aB),(4,aB)]) r r<|aH<|aR r (bD aB6 r)<|aR r (aK (v:=aS) lP r r r)<|bx h14 fun x15 y15 h16=>lS (bL (v:=aB) r (aBt y15) ⟨lr,trivial⟩ r r r)<|sB r<|aG (fr':=[(1,aE),(3,aB),(4,aB),(5,aB)]) r r<|aZ<|aH<|aR r (bD tJ r)<|aR r (aK (v:=aI) fM r r r)<|aG (fr':=[(1,aE),(3,aB),(4,aB),(5,aB),(35,aI)]) r r<|cH<|aH<|aR r (bU r r)<|sB r<|aG (fr':=[(1,aE),(3,aB),(4,aB),(5,aB),(35,aI),(36,aB)]) r r<|cG h16 r (fun b17 h17=>?_) (fun b17 h17=>?_)
  ·
   refine aH<|mB r<|mB r<|og r r r (fun u=>(bN (v:=aB) r))<|aR r (bV r r r (fun e=>fJ e))<|mB r<|og r r r (fun u=>(bD aBp r))<|og r r r (fun u=>(dL (us:=dO) yT (gx r u) r r r))<|bx h17 fun x18 y18 h19=>sX r r (fun u=>bL (v:=aB) r (aB0 (cU y18 u)) ⟨(eW (gx r u) (bQ r aBA)),trivial⟩ (fT (by repeat (first | exact eN | refine aY r ?_ | refine aY (pP r) ?_ | refine aY pO ?_))) r r) ?_
   refine aR r (bV r r r (fun e=>fJ e))<|sB r<|aG (fr':=[(2,aB)]) r r<|bK<|bO<|aP ?_
   obtain rfl:=sy h19
   exact bJ (rs':=[.tmp 2]) r<|bS (v:=aB) r<|bI<|aN [] r r r lr aD
  ·
   obtain ⟨x21,y21,h22⟩:=iW h17
   refine hH (fun j23=>x21=j23) (fun (j23:Bool)=>([(1,aE),(3,.c (.bool x11)),(4,.c (.bool x13)),(5,.c (.bool x15)),(35,ci p0C.Kind),(47,.c (.bool j23))]:Fr)) (fun (j23:Bool)=>([[ci p0C.Kind,ci p0C.Seq,.c (.str p0C.Name),.c (.str p0C.Key),ci p0C.N,ci p0C.Data.Kind,ci p0C.Data.Int,.c (.str p0C.Data.Text),.c (PV.ls 5 bT p0C.Data.Items),.c (PV.ls 1 fI p0C.Data.Keys),.c (.str p0C.Opts.Queue),ci p0C.Opts.ToStart,ci p0C.Opts.ToClose,ci p0C.Opts.Total,ci p0C.Opts.Beat,ci p0C.Opts.First,ci p0C.Opts.Coef,ci p0C.Opts.Most,ci p0C.Opts.Attempts,.c (PV.ls 1 fI p0C.Opts.Fatal)]]:St)) ?_ ?_
   ·
    refine aH<|aR r (bU r r)<|sB r<|aG (fr':=[(1,aE),(3,aB),(4,aB),(5,aB),(35,aI),(47,aB)]) r r<|cG y21 r (fun b24 h24=>?_) (fun b24 h24=>?_)
    ·
     exact bF<|iQ _ (sy h24) (bC [] 1 r r r r kL6 (bR r aD))
    ·
     exact bB<|aR r (bU r r)<|sB r<|dM (fr':=[(1,aE),(3,aB),(4,aB),(5,aB),(35,aI),(47,aB)]) r<|iQ _ (sy h24) (bC [] 1 r r r r kL6 (bR r aD))
   ·
    intro j23 hj25
    subst hj25
    refine cG h22 r (fun b26 h26=>?_) (fun b26 h26=>?_)
    ·
     refine aH<|mB r<|sB r<|aG (fr':=[(2,aB)]) r r<|bK<|bO<|aP ?_
     obtain rfl:=sy h26
     exact bJ (rs':=[.tmp 2]) r<|bS (v:=aB) r<|bI<|aN [] r r r lr aD
    ·
     refine aH<|aR r (bU r r)<|sB r<|aG (fr':=[(1,aE),(3,aB),(4,aB),(5,aB),(35,aI),(51,aB)]) r r<|cG h26 r (fun b28 h28=>?_) (fun b28 h28=>?_)
     ·
      refine aH<|mB r<|mB r<|og r r r (fun u=>(bD uF r))<|og r r r (fun u=>(aK (v:=aI) fM (gx r u) r r))<|bx h28 fun x29 y29 h30=>sX r r (fun u=>bL (v:=aB) r (uS (cU y29 u)) ⟨(eW (gx r u) lr),lr,lr,trivial⟩ (fT (by repeat (first | exact eN | refine aY r ?_ | refine aY (pP r) ?_ | refine aY pO ?_))) r r) ?_
      refine aR r (bV r r r (fun e=>fJ e))<|sB r<|aG (fr':=[(2,aB)]) r r<|bK<|bO<|aP ?_
      obtain rfl:=sy h30
      exact bJ (rs':=[.tmp 2]) r<|bS (v:=aB) r<|bI<|aN [] r r r lr aD
     ·
      refine aH<|aR r (bU r r)<|sB r<|aG (fr':=[(1,aE),(3,aB),(4,aB),(5,aB),(35,aI),(59,aB)]) r r<|cG h28 r (fun b32 h32=>?_) (fun b32 h32=>?_)
      ·
       refine aH<|mB r<|mB r<|og r r r (fun u=>(bN (v:=aB) r))<|aR r (bV r r r (fun e=>fJ e))<|mB r<|og r r r (fun u=>(bN (v:=aB) r))<|aR r (bV r r r (fun e=>fJ e))<|mB r<|og r r r (fun u=>(bD uF r))<|og r r r (fun u=>(aK (v:=aI) fM (gx r u) r r))<|bx h32 fun x33 y33 h34=>sX r r (fun u=>bL (v:=aB) r (uS (cU y33 u)) ⟨(eW (gx r u) lr),lr,lr,trivial⟩ (fT (by repeat (first | exact eN | refine aY r ?_ | refine aY (pP r) ?_ | refine aY pO ?_))) r r) ?_
       refine aR r (bV r r r (fun e=>fJ e))<|sB r<|aG (fr':=[(2,aB)]) r r<|bK<|bO<|aP ?_
       obtain rfl:=sy h34
       exact bJ (rs':=[.tmp 2]) r<|bS (v:=aB) r<|bI<|aN [] r r r lr aD
      ·
       refine aH<|aR r (bU r r)<|sB r<|aG (fr':=[(1,aE),(3,aB),(4,aB),(5,aB),(35,aI),(73,aB)]) r r<|cG h32 r (fun b36 h36=>?_) (fun b36 h36=>?_)
       ·
        refine aH<|mB r<|mB r<|og r r r (fun u=>(bN (v:=aB) r))<|aR r (bV r r r (fun e=>fJ e))<|mB r<|og r r r (fun u=>(bN (v:=aB) r))<|aR r (bV r r r (fun e=>fJ e))<|sB r<|aG (fr':=[(2,aB)]) r r<|bK<|bO<|aP ?_
        obtain rfl:=sy h36
        exact bJ (rs':=[.tmp 2]) r<|bS (v:=aB) r<|bI<|aN [] r r r lr aD
       ·
        refine aH<|aR r (bU r r)<|sB r<|aG (fr':=[(1,aE),(4,aB),(5,aB),(35,aI),(82,aB)]) r r<|cG h36 r (fun b38 h38=>?_) (fun b38 h38=>?_)
        ·
         refine aH<|mB r<|mB r<|og r r r (fun u=>(bD uF r))<|og r r r (fun u=>(aK (v:=aI) fM (gx r u) r r))<|og r r r (fun u=>(bU (gx r u) r))<|og r r r (fun u=>(bN (v:=aB) (gx r u)))<|fD r r (fun u=>fS r (bD uF r))<|fD r r (fun u=>fS r (aK (v:=aI) fM (gx r u) r r))<|bx h38 fun x39 y39 h40=>fD r r (fun u=>bL (v:=aB) r (uS (cU y39 u)) ⟨(eW (gx r u) lr),lr,lr,trivial⟩ (fT (by repeat (first | exact eN | refine aY r ?_ | refine aY (pP r) ?_ | refine aY pO ?_))) r r) ?_
         refine fD r r (fun u=>fS r (bN (v:=aB) (gx r u)))<|fD r r (fun u=>fS r (bD vW r))<|fD r r (fun u=>fS r (bD mE (gx r u)))<|fD r r (fun u=>fS r (aK (v:=aI) fM (gx r u) r r))<|fD r r (fun u=>fS r (bU (gx r u) r))<|fD r r (fun u=>fS r (bV (gx r u) r r (fun e=>pX u (fJ e))))<|og r r r (fun u=>(cN (gx r u) r r (fun e=>pX u (fJ e))))<|aR r (bV r r r (fun e=>fJ e))<|sB r<|aG (fr':=[(2,aB)]) r r<|bK<|bO<|aP ?_
         obtain rfl:=sy h40
         exact bJ (rs':=[.tmp 2]) r<|bS (v:=aB) r<|bI<|aN [] r r r lr aD
        ·
         refine aH<|aR r (bU r r)<|sB r<|aG (fr':=[(1,aE),(4,aB),(5,aB),(35,aI),(101,aB)]) r r<|cG h38 r (fun b42 h42=>?_) (fun b42 h42=>?_)
         ·
          refine aH<|mB r<|mB r<|og r r r (fun u=>(bN (v:=aB) r))<|aR r (bV r r r (fun e=>fJ e))<|sB r<|aG (fr':=[(2,aB)]) r r<|bK<|bO<|aP ?_
          obtain rfl:=sy h42
          exact bJ (rs':=[.tmp 2]) r<|bS (v:=aB) r<|bI<|aN [] r r r lr aD
         ·
          refine aH<|aR r (bU r r)<|sB r<|aG (fr':=[(1,aE),(5,aB),(35,aI),(107,aB)]) r r<|cG h42 r (fun b44 h44=>?_) (fun b44 h44=>?_)
          ·
           refine aH<|mB r<|mB r<|og r r r (fun u=>(bD uF r))<|og r r r (fun u=>(aK (v:=aI) fM (gx r u) r r))<|bx h44 fun x45 y45 h46=>sX r r (fun u=>bL (v:=aB) r (uS (cU y45 u)) ⟨(eW (gx r u) lr),lr,lr,trivial⟩ (fT (by repeat (first | exact eN | refine aY r ?_ | refine aY (pP r) ?_ | refine aY pO ?_))) r r) ?_
           refine aR r (bV r r r (fun e=>fJ e))<|sB r<|aG (fr':=[(2,aB)]) r r<|bK<|bO<|aP ?_
           obtain rfl:=sy h46
           exact bJ (rs':=[.tmp 2]) r<|bS (v:=aB) r<|bI<|aN [] r r r lr aD
          ·
           refine aH<|aR r (bU r r)<|sB r<|aG (fr':=[(1,aE),(35,aI),(115,aB)]) r r<|cG h44 r (fun b48 h48=>?_) (fun b48 h48=>?_)
           ·
            refine aH<|aR r (bD vW r)<|aR r (bD mE r)<|aR r (aK (v:=aI) fM r r r)<|aR r (bU r r)<|sB r<|aG (fr':=[(2,aB)]) r r<|bK<|bO<|aP ?_
            obtain rfl:=sy h48
            exact bJ (rs':=[.tmp 2]) r<|bS (v:=aB) r<|bI<|aN [] r r r lr aD
           ·
            refine aH<|aR r (bU r r)<|sB r<|aG (fr':=[(1,aE),(35,aI),(121,aB)]) r r<|cG h48 r (fun b50 h50=>?_) (fun b50 h50=>?_)
            ·
             refine aH<|aR r (bD aAP r)<|aR r (aK (v:=aS) lP r r r)<|aR r (kT uU r)<|aR r (nM r r)<|sB r<|aG (fr':=[(2,aB)]) r r<|bK<|bO<|aP ?_
             obtain rfl:=sy h50
             exact bJ (rs':=[.tmp 2]) r<|bS (v:=aB) r<|bI<|aN [] r r r lr aD
            ·
             refine aH<|aR r (bU r r)<|sB r<|aG (fr':=[(1,aE),(127,aB)]) r r<|cG h50 r (fun b52 h52=>?_) (fun b52 h52=>?_)
             ·
              refine aH<|aR r (bD vW r)<|aR r (dL (us:=cE) iO r r r r)<|bx h52 fun x53 y53 h54=>lS (bL (v:=aB) r (aKj y53) ⟨(bQ r kR5),trivial⟩ r r r)<|sB r<|aG (fr':=[(2,aB)]) r r<|bK<|bO<|aP ?_
              obtain rfl:=sy h54
              exact bJ (rs':=[.tmp 2]) r<|bS (v:=aB) r<|bI<|aN [] r r r lr aD
             ·
              refine bF<|cW<|cZ<|aH<|sB r<|aG (fr':=[(2,aB)]) r r<|bK ?_
              obtain rfl:=sy h52
              exact bJ (rs':=[.tmp 2]) r<|bS (v:=aB) r<|bI<|aN [] r r r lr aD
