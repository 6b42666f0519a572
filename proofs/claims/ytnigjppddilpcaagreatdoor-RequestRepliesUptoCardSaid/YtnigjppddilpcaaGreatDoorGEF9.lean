import Derived.Test.YtnigjppddilpcaaGreatDoorGETy
import Derived.Test.YtnigjppddilpcaaGreatDoorGEF6
import Derived.Test.YtnigjppddilpcaaGreatDoorGEF7
import Derived.Test.YtnigjppddilpcaaGreatDoorGEF8
namespace Go.Proofs.YtnigjppddilpcaaGreatDoor
open Go Abs
set_option maxRecDepth 100000
set_option linter.unusedVariables false
set_option linter.unusedSimpArgs false
noncomputable def aCj (p0e:dP):Option Bool :=
 (aCk p0e.Kind).bind fun x1=>(gd (x1.seq_==true) (uS p0e.Seq 1 2000)).bind fun x3=>(gd (((cond (cond x1.seq_ (!x3) false) true (cond (!x1.seq_) (!decide (p0e.Seq=0)) false))==false)&&(x1.ref_==true)) (uS p0e.Ref 1 2000)).bind fun x5=>cond (cond (cond (cond (cond x1.seq_ (!x3) false) true (cond (!x1.seq_) (!decide (p0e.Seq=0)) false)) true (cond x1.ref_ (!x5) false)) true (cond (!x1.ref_) (!decide (p0e.Ref=0)) false)) (some false) (cond (cond (cond (cond (cond (!x1.n_) (!decide (p0e.N=0)) false) true (cond (!x1.code_) (!decide (p0e.Code=0)) false)) true (cond (!x1.name_) (!decide (p0e.Name=([]:List UInt8))) false)) true (cond (!x1.key_) (!decide (p0e.Key=([]:List UInt8))) false)) (some false) ((tM p0e.Data).bind fun x11=>cond (cond (!x11) true (cond (!x1.data_) (!decide (p0e.Data.Kind=0)) false)) (some false) ((gd (x1.opts_==false) (oA p0e.Opts (dR.mk ([]:List UInt8) 0 0 0 0 0 0 0 0 ([]:(List (List UInt8)))))).bind fun x15=>some (cond x1.opts_ true x15))))
theorem aMA {p0e:dP}{z:Bool} (h:aCj p0e=some z):cR Tryz.prog 82 [.agg (AV.cs (eU p0e))] [] (.c (.bool z)) []:=by
 unfold aCj at h
 refine dQ (fn:=Tryz.f82) [0,1,2,3,44,82,97] (by kernel_rfl) Tryz.func82 r (by kernel_rfl) (by kernel_rfl)<|aH<|iR (v:=.agg aT) (n:=0) (cs:=aT) (σ':=[aT]) r r r r r<|sB r<|aG (fr':=[(1,aD)]) r r<|aH<|aN r (bE aAJ r)<|aN r (aJ (v:=aI) gA r r r)<|bx h fun x1 y1 h2=>kB (bC (v:=.agg bF) r (aMB y1) ⟨lr,trivial⟩ r r r)<|jT (n:=1) (cs:=bF) (σ':=[aT,bF]) aSM r r r<|cD (v:=.agg bF) (us:=bF) (cs:=bF) (σ':=[aT,bF]) r mD r r r r r r r r<|aG (fr':=[(1,aD),(3,bK)]) r r<|aU<|aH<|aN r (bE aP7 r)<|aN r (aJ (v:=aB) tv4 r r r)<|mB r<|og r r r (fun u=>(bE aCr r))<|og r r r (fun u=>(aJ (v:=aI) gA (gx r u) r r))<|bx h2 fun x3 y3 h4=>uP r r (fun u=>bC (v:=aB) r (vY (cZ y3 u)) ⟨(fH (gx r u) lr),lr,lr,trivial⟩ (gO (by repeat (first | exact fC | refine aZ r ?_ | refine aZ (rG r) ?_ | refine aZ rF ?_))) r r) ?_
 refine og r r r (fun u=>(fP (gx r u)))<|aN r (cB r r r (fun e=>fU e))<|mB r<|og r r r (fun u=>(bE aP7 r))<|og r r r (fun u=>(aJ (v:=aB) tv4 (gx r u) r r))<|og r r r (fun u=>(fP (gx r u)))<|og r r r (fun u=>(bS (v:=aB) (gx r u)))<|fI r r (fun u=>fT r (bE aCr r))<|fI r r (fun u=>fT r (aJ (v:=aI) gA (gx r u) r r))<|fI r r (fun u=>fT r (iY (gx r u) r))<|og r r r (fun u=>(cB (gx r u) r r (fun e=>qC u (fU e))))<|aN r (cM r r r (fun e=>fU e))<|mB r<|og r r r (fun u=>(bE aP8 r))<|og r r r (fun u=>(aJ (v:=aB) tv4 (gx r u) r r))<|og r r r (fun u=>(bS (v:=aB) (gx r u)))<|fI r r (fun u=>fT r (bE aCs r))<|fI r r (fun u=>fT r (aJ (v:=aI) gA (gx r u) r r))<|bx h4 fun x5 y5 h6=>fI r r (fun u=>bC (v:=aB) r (vY (cZ y5 u)) ⟨(fH (gx r u) lr),lr,lr,trivial⟩ (gO (by repeat (first | exact fC | refine aZ r ?_ | refine aZ (rG r) ?_ | refine aZ rF ?_))) r r) ?_
 refine fI r r (fun u=>fT r (fP (gx r u)))<|og r r r (fun u=>(cB (gx r u) r r (fun e=>qC u (fU e))))<|aN r (cM r r r (fun e=>fU e))<|mB r<|og r r r (fun u=>(bE aP8 r))<|og r r r (fun u=>(aJ (v:=aB) tv4 (gx r u) r r))<|og r r r (fun u=>(fP (gx r u)))<|og r r r (fun u=>(bS (v:=aB) (gx r u)))<|fI r r (fun u=>fT r (bE aCs r))<|fI r r (fun u=>fT r (aJ (v:=aI) gA (gx r u) r r))<|fI r r (fun u=>fT r (iY (gx r u) r))<|og r r r (fun u=>(cB (gx r u) r r (fun e=>qC u (fU e))))<|aN r (cM r r r (fun e=>fU e))<|aG (fr':=[(1,aD),(3,bK),(44,aB)]) r r<|cN h6 r (fun b7 h7=>?_) (fun b7 h7=>?_)
 ·
  refine aH<|sB r<|aG (fr':=[(2,aB)]) r r<|bJ<|aQ ?_
  obtain rfl:=sy h7
  exact bI (rs':=[.tmp 2]) r<|bX (v:=aB) r<|bG<|aP [] r r r lr aC
 ·
  refine bL<|cY<|aU<|aH<|aN r (bE aTL r)<|aN r (aJ (v:=aB) tv4 r r r)<|aN r (fP r)<|mB r<|og r r r (fun u=>(bE aAd r))<|og r r r (fun u=>(aJ (v:=aI) gA (gx r u) r r))<|og r r r (fun u=>(iY (gx r u) r))<|aN r (cB r r r (fun e=>fU e))<|mB r<|og r r r (fun u=>(bE aTM r))<|og r r r (fun u=>(aJ (v:=aB) tv4 (gx r u) r r))<|og r r r (fun u=>(fP (gx r u)))<|og r r r (fun u=>(bS (v:=aB) (gx r u)))<|fI r r (fun u=>fT r (bE aBH r))<|fI r r (fun u=>fT r (aJ (v:=aI) gA (gx r u) r r))<|fI r r (fun u=>fT r (iY (gx r u) r))<|og r r r (fun u=>(cB (gx r u) r r (fun e=>qC u (fU e))))<|aN r (cM r r r (fun e=>fU e))<|mB r<|og r r r (fun u=>(bE aTN r))<|og r r r (fun u=>(aJ (v:=aB) tv4 (gx r u) r r))<|og r r r (fun u=>(fP (gx r u)))<|og r r r (fun u=>(bS (v:=aB) (gx r u)))<|fI r r (fun u=>fT r (bE xZ r))<|fI r r (fun u=>fT r (aJ (v:=aS) mG (gx r u) r r))<|fI r r (fun u=>fT r (vK (gx r u) r))<|og r r r (fun u=>(cB (gx r u) r r (fun e=>qC u (fU e))))<|aN r (cM r r r (fun e=>fU e))<|mB r<|og r r r (fun u=>(bE aTO r))<|og r r r (fun u=>(aJ (v:=aB) tv4 (gx r u) r r))<|og r r r (fun u=>(fP (gx r u)))<|og r r r (fun u=>(bS (v:=aB) (gx r u)))<|fI r r (fun u=>fT r (bE yA r))<|fI r r (fun u=>fT r (aJ (v:=aS) mG (gx r u) r r))<|fI r r (fun u=>fT r (vK (gx r u) r))<|og r r r (fun u=>(cB (gx r u) r r (fun e=>qC u (fU e))))<|aN r (cM r r r (fun e=>fU e))<|aG (fr':=[(1,aD),(3,bK),(82,aB)]) r r<|cN h7 r (fun b9 h9=>?_) (fun b9 h9=>?_)
  ·
   refine aH<|sB r<|aG (fr':=[(2,aB)]) r r<|bJ<|aQ ?_
   obtain rfl:=sy h9
   exact bI (rs':=[.tmp 2]) r<|bX (v:=aB) r<|bG<|aP [] r r r lr aC
  ·
   refine bL<|cY<|aU<|aH<|aN r (bE aA5 r)<|aN r (dN (us:=cH) jC r r r r)<|bx h9 fun x11 y11 h12=>kB (bC (v:=aB) r (aBh y11) ⟨(bQ r zA),trivial⟩ r r r)<|aN r (fP r)<|mB r<|og r r r (fun u=>(bE aTP r))<|og r r r (fun u=>(aJ (v:=aB) tv4 (gx r u) r r))<|og r r r (fun u=>(fP (gx r u)))<|og r r r (fun u=>(bS (v:=aB) (gx r u)))<|fI r r (fun u=>fT r (bE aA5 r))<|fI r r (fun u=>fT r (bE lU (gx r u)))<|fI r r (fun u=>fT r (aJ (v:=aI) gA (gx r u) r r))<|fI r r (fun u=>fT r (iY (gx r u) r))<|og r r r (fun u=>(cB (gx r u) r r (fun e=>qC u (fU e))))<|aN r (cM r r r (fun e=>fU e))<|aG (fr':=[(1,aD),(3,bK),(97,aB)]) r r<|cN h12 r (fun b13 h13=>?_) (fun b13 h13=>?_)
   ·
    refine aH<|sB r<|aG (fr':=[(2,aB)]) r r<|bJ<|aQ ?_
    obtain rfl:=sy h13
    exact bI (rs':=[.tmp 2]) r<|bX (v:=aB) r<|bG<|aP [] r r r lr aC
   ·
    refine bL<|cY<|aH<|aN r (bE aTQ r)<|aN r (aJ (v:=aB) tv4 r r r)<|mB r<|og r r r (fun u=>(bE aBW r))<|og r r r (fun u=>(dN (us:=dE) aAm (gx r u) r r r))<|og r r r (fun u=>(jY (c0:=cP) (cs:=cP) aRa r jX))<|bx h13 fun x15 y15 h16=>uP r r (fun u=>bC (v:=aB) r (vW (cZ y15 u)) ⟨(fH (gx r u) (bQ r zX)),(fH (gx r u) (bQ r ⟨r,r,r,r,r,r,r,r,r,⟨_,r⟩,trivial⟩)),trivial⟩ (gO (by repeat (first | exact fC | refine aZ r ?_ | refine aZ (rG r) ?_ | refine aZ rF ?_))) r r) ?_
    refine aN r (cM r r r (fun e=>fU e))<|sB r<|aG (fr':=[(2,aB)]) r r<|bJ ?_
    obtain rfl:=sy h16
    exact bI (rs':=[.tmp 2]) r<|bX (v:=aB) r<|bG<|aP [] r r r lr aC
noncomputable def aAE  : Option (List Int) :=
 some ([7,12,14,16,19,23,18,27,28,29,30,31,32,35]:List Int)
theorem aHZ  {z:(List Int)} (h:aAE=some z):cR Tryz.prog 189 [] [] (AV.os 0 1 (aFU .i64) z) []:=by
 unfold aAE at h
 refine dQ (fn:=Tryz.f189) [0] (by kernel_rfl) Tryz.func189 r (by kernel_rfl) (by kernel_rfl)<|aH<|sV (v:=AV.nil) r<|aG (fr':=[]) r r<|aH<|sW (row:=(aFU .i64)) (xs:=([(7:Int),(12:Int),(14:Int),(16:Int),(19:Int),(23:Int),(18:Int),(27:Int),(28:Int),(29:Int),(30:Int),(31:Int),(32:Int),(35:Int)]:List Int)) (rows:=[[_],[_],[_],[_],[_],[_],[_],[_],[_],[_],[_],[_],[_],[_]]) (σ':=[]) [0] aG6 r r r (eI r (eI r (eI r (eI r (eI r (eI r (eI r (eI r (eI r (eI r (eI r (eI r (eI r (eI r mX)))))))))))))) r r<|sV (v:=aO) r<|aG (fr':=[(0,aO)]) r r<|bJ ?_
 obtain rfl:=sy h
 exact bI (rs':=[.tmp 0]) r<|bX (v:=aO) r<|bG<|aP [16] r r r lr aC
noncomputable def yR (x1:(List Int)) (dG:Int) (s6:Int):Option (dU Int (Fl Int Unit)) :=
 cond (decide (s6<((x1).length:Int))) ((mP x1 s6).bind fun x8=>cond (decide (x8=dG)) (some (dU.out (Fl.done (IntKind.wrap .i64 (s6+1))))) (some (dU.next (IntKind.wrap .i64 (s6+1))))) (some (dU.out (Fl.go ())))
noncomputable def wL (dG:Int):Option Int :=
 (aAE).bind fun x1=>(gL (yR x1 dG) (0)).bind fun x3=>Fl.next x3 (fun j5=>(some 0))
theorem aD4 {dG:Int}{z:Int} (h:wL dG=some z):cR Tryz.prog 154 [ci dG] [] (ci z) []:=by
 unfold wL at h
 refine dQ (fn:=Tryz.f154) [0,2,3,4,9,17] (by kernel_rfl) Tryz.func154 r (by kernel_rfl) (by kernel_rfl)<|aH<|sI r<|aG (fr':=[(0,aI)]) r r<|aU<|bA ?_
 obtain ⟨x1,y1,h2⟩:=lB h
 refine kB (bC (v:=aO) r (aHZ y1) trivial r r r)<|sV (v:=aO) r<|aG (fr':=[(0,aI),(3,aO)]) r r<|aU<|aH<|sI r<|aG (fr':=[(0,aI),(3,aO),(4,aI)]) r r<|bx h2 fun x3 y3 h4=>gY kS (fun j5=>x3=Fl.go j5) (fun (j5:Unit)=>([]:Fr)) (fun (j5:Unit)=>([]:St)) ?_ ?_
 ·
  refine cE<|gU _ (fun (s6:Int)=>([(0,ci dG),(3,AV.os 0 1 (aFU .i64) x1),(4,ci s6)]:Fr)) (fun (s6:Int)=>([]:St)) y3 (bH [80] 0 r r r r lG aC) ?_
  intro s6 st6 hs6 ho6
  unfold yR at hs6
  refine aU<|aH<|mI r<|mV (v:=aO) r<|aN r (gQ aPo (rQ r))<|aN r (gC r r)<|aG (fr':=[(0,aI),(3,aO),(4,aI),(9,aB)]) r r<|cN hs6 r (fun b7 h7=>?_) (fun b7 h7=>?_)
  ·
   refine bL<|cY<|aU<|cE<|aH<|mV (v:=aO) r<|mI r<|bx h7 fun x8 y8 h9=>aN r (lT (cs:=[PV.int _ _]) aG6 (rQ r) r y8 r)<|aN r (iO (p:=PV.int _ _) gA r r)<|mI r<|aN r (cC r r)<|aG (fr':=[(0,aI),(3,aO),(4,aI),(17,aB)]) r r<|cN h9 r (fun b10 h10=>?_) (fun b10 h10=>?_)
   ·
    refine aH<|mI r<|aN r (fY r r)<|sI r<|aG (fr':=[(2,aI)]) r r<|bJ<|bM<|aQ<|aQ<|bM<|aQ<|aQ ?_
    have h11:=eZ h10 ho6
    have h12:=gT h11 h4
    obtain rfl:=sy h12
    exact bI (rs':=[.tmp 2]) r<|bX (v:=aI) r<|bG<|aP [] r r r lr aC
   ·
    exact bL<|dH<|cY<|bA<|mI r<|aN r (fY r r)<|sI r<|dT (fr':=[(0,aI),(3,aO),(4,aI),(17,aB)]) r<|e_l _ (sy h10) (bH [0] 0 r r r r lG aC)
  ·
   refine iA<|cX<|cX<|fS ?_
   have h14:=eZ h7 ho6
   exact kI _ (sy h14) (bH [] 0 r r r r trivial aC)
 ·
  intro j5 hj15
  have h15:=mY hj15 h4
  refine cY<|aH<|sI r<|aG (fr':=[(2,aI)]) r r<|bJ ?_
  obtain rfl:=sy h15
  exact bI (rs':=[.tmp 2]) r<|bX (v:=aI) r<|bG<|aP [] r r r lr aC
noncomputable def wD (dG:Int):Option Bool :=
 (wL dG).bind fun x1=>some (decide (0<x1))
theorem aHe {dG:Int}{z:Bool} (h:wD dG=some z):cR Tryz.prog 83 [ci dG] [] (.c (.bool z)) []:=by
 unfold wD at h
 refine dQ (fn:=Tryz.f83) [0,2] (by kernel_rfl) Tryz.func83 r (by kernel_rfl) (by kernel_rfl)<|aH<|sB r<|aG (fr':=[(0,aI)]) r r<|aH<|mI r<|bx h fun x1 y1 h2=>kB (bC (v:=aI) r (aD4 y1) ⟨lr,trivial⟩ r r r)<|aN r (sP r r)<|sB r<|aG (fr':=[(2,aB)]) r r<|bJ ?_
 obtain rfl:=sy h2
 exact bI (rs':=[.tmp 2]) r<|bX (v:=aB) r<|bG<|aP [] r r r lr aC
noncomputable def aAD (p0s:(List UInt8)) (s6:Int):Option (dU Int (Fl Bool Unit)) :=
 cond (decide (s6<((p0s).length:Int))) ((mP p0s s6).bind fun x8=>(gd ((decide (((x8).toNat:Int)<33))==false) (mP p0s s6)).bind fun x10=>(gd ((cond (decide (((x8).toNat:Int)<33)) true (decide (126<((x10).toNat:Int))))==false) (mP p0s s6)).bind fun x12=>(gd ((cond (cond (decide (((x8).toNat:Int)<33)) true (decide (126<((x10).toNat:Int)))) true (decide (((x12).toNat:Int)=47)))==false) (mP p0s s6)).bind fun x14=>cond (cond (cond (cond (decide (((x8).toNat:Int)<33)) true (decide (126<((x10).toNat:Int)))) true (decide (((x12).toNat:Int)=47))) true (decide (((x14).toNat:Int)=34))) (some (dU.out (Fl.done false))) (some (dU.next (IntKind.wrap .i64 (s6+1))))) (some (dU.out (Fl.go ())))
noncomputable def vD (p0s:(List UInt8)):Option Bool :=
 cond (cond (decide (((p0s).length:Int)<1)) true (decide (64<((p0s).length:Int)))) (some false) ((gL (aAD p0s) (0)).bind fun x3=>Fl.next x3 (fun j5=>(some true)))
theorem aK3 {p0s:(List UInt8)}{z:Bool} (h:vD p0s=some z):cR Tryz.prog 113 [.c (.str p0s)] [] (.c (.bool z)) []:=by
 unfold vD at h
 refine dQ (fn:=Tryz.f113) [0,2,3,11,15,39] (by kernel_rfl) Tryz.func113 r (by kernel_rfl) (by kernel_rfl)<|aH<|sB r<|aG (fr':=[(0,aS)]) r r<|aU<|aH<|mS r<|aN r (kV uD r)<|aN r (gC r r)<|mB r<|og r r r (fun u=>(bS (v:=aS) r))<|og r r r (fun u=>(kV uD (gx r u)))<|og r r r (fun u=>(sP (gx r u) r))<|aN r (cM r r r (fun e=>fU e))<|aG (fr':=[(0,aS),(11,aB)]) r r<|cN h r (fun b1 h1=>?_) (fun b1 h1=>?_)
 ·
  refine aH<|sB r<|aG (fr':=[(2,aB)]) r r<|bJ<|aQ ?_
  obtain rfl:=sy h1
  exact bI (rs':=[.tmp 2]) r<|bX (v:=aB) r<|bG<|aP [] r r r lr aC
 ·
  refine bL<|cY<|aU<|aH<|sI r<|aG (fr':=[(0,aS),(3,aI)]) r r<|bx h1 fun x3 y3 h4=>gY kS (fun j5=>x3=Fl.go j5) (fun (j5:Unit)=>([]:Fr)) (fun (j5:Unit)=>([]:St)) ?_ ?_
  ·
   refine cE<|gU _ (fun (s6:Int)=>([(0,.c (.str p0s)),(3,ci s6)]:Fr)) (fun (s6:Int)=>([]:St)) y3 (bH [] 0 r r r r kU aC) ?_
   intro s6 st6 hs6 ho6
   unfold aAD at hs6
   refine aU<|aH<|mI r<|mS r<|aN r (kV uD r)<|aN r (gC r r)<|aG (fr':=[(0,aS),(3,aI),(15,aB)]) r r<|cN hs6 r (fun b7 h7=>?_) (fun b7 h7=>?_)
   ·
    refine bL<|cY<|aU<|cE<|aH<|mS r<|mI r<|bx h7 fun x8 y8 h9=>aN r (aAU uD r r y8)<|aN r (gC r r)<|mB r<|og r r r (fun u=>(bS (v:=aS) r))<|og r r r (fun u=>(bS (v:=aI) r))<|bx h9 fun x10 y10 h11=>og r r r (fun u=>(aAU uD (gx r u) (gx r u) (cZ y10 u)))<|og r r r (fun u=>(sP (gx r u) r))<|aN r (cM r r r (fun e=>fU e))<|mB r<|og r r r (fun u=>(bS (v:=aS) r))<|og r r r (fun u=>(bS (v:=aI) r))<|bx h11 fun x12 y12 h13=>og r r r (fun u=>(aAU uD (gx r u) (gx r u) (cZ y12 u)))<|og r r r (fun u=>(cC (gx r u) r))<|aN r (cM r r r (fun e=>fU e))<|mB r<|og r r r (fun u=>(bS (v:=aS) r))<|og r r r (fun u=>(bS (v:=aI) r))<|bx h13 fun x14 y14 h15=>og r r r (fun u=>(aAU uD (gx r u) (gx r u) (cZ y14 u)))<|og r r r (fun u=>(cC (gx r u) r))<|aN r (cM r r r (fun e=>fU e))<|aG (fr':=[(0,aS),(3,aI),(39,aB)]) r r<|cN h15 r (fun b16 h16=>?_) (fun b16 h16=>?_)
    ·
     refine aH<|sB r<|aG (fr':=[(2,aB)]) r r<|bJ<|bM<|aQ<|aQ<|bM<|aQ<|aQ ?_
     have h17:=eZ h16 ho6
     have h18:=gT h17 h4
     obtain rfl:=sy h18
     exact bI (rs':=[.tmp 2]) r<|bX (v:=aB) r<|bG<|aP [] r r r lr aC
    ·
     exact bL<|dH<|cY<|bA<|mI r<|aN r (fY r r)<|sI r<|dT (fr':=[(0,aS),(3,aI),(39,aB)]) r<|e_l _ (sy h16) (bH [] 0 r r r r kU aC)
   ·
    refine iA<|cX<|cX<|fS ?_
    have h20:=eZ h7 ho6
    exact kI _ (sy h20) (bH [] 0 r r r r trivial aC)
  ·
   intro j5 hj21
   have h21:=mY hj21 h4
   refine cY<|aH<|sB r<|aG (fr':=[(2,aB)]) r r<|bJ ?_
   obtain rfl:=sy h21
   exact bI (rs':=[.tmp 2]) r<|bX (v:=aB) r<|bG<|aP [] r r r lr aC
noncomputable def aAc (p0a:cK) (p1b:cK):Option Bool :=
 (gd ((cond (cond (cond (cond (decide (p0a.Kind=p1b.Kind)) (decide (p0a.Seq=p1b.Seq)) false) (decide (p0a.Name=p1b.Name)) false) (decide (p0a.Key=p1b.Key)) false) (decide (p0a.N=p1b.N)) false)==true) (aA1 p0a.Data p1b.Data)).bind fun x1=>(gd ((cond (cond (cond (cond (cond (decide (p0a.Kind=p1b.Kind)) (decide (p0a.Seq=p1b.Seq)) false) (decide (p0a.Name=p1b.Name)) false) (decide (p0a.Key=p1b.Key)) false) (decide (p0a.N=p1b.N)) false) x1 false)==true) (oA p0a.Opts p1b.Opts)).bind fun x3=>some (cond (cond (cond (cond (cond (cond (decide (p0a.Kind=p1b.Kind)) (decide (p0a.Seq=p1b.Seq)) false) (decide (p0a.Name=p1b.Name)) false) (decide (p0a.Key=p1b.Key)) false) (decide (p0a.N=p1b.N)) false) x1 false) x3 false)
theorem aHd {p0a:cK}{p1b:cK}{z:Bool} (h:aAc p0a p1b=some z):cR Tryz.prog 155 [.agg (AV.cs (eV p0a)),.agg (AV.cs (eV p1b))] [] (.c (.bool z)) []:=by
 unfold aAc at h
 refine dQ (fn:=Tryz.f155) [0,1,2,3,4] (by kernel_rfl) Tryz.func155 r (by kernel_rfl) (by kernel_rfl)<|aH<|iR (v:=.agg aW) (n:=0) (cs:=aW) (σ':=[aW]) r r r r r<|iR (v:=.agg aW) (n:=1) (cs:=aW) (σ':=[aW,aW]) r r r r r<|sB r<|aG (fr':=[(2,aD),(3,bK)]) r r<|aH<|aN r (bE sN r)<|aN r (aJ (v:=aI) gA r r r)<|aN r (bE sN r)<|aN r (aJ (v:=aI) gA r r r)<|aN r (cC r r)<|mB r<|og r r r (fun u=>(bE aCS r))<|og r r r (fun u=>(aJ (v:=aI) gA (gx r u) r r))<|og r r r (fun u=>(bE aCS r))<|og r r r (fun u=>(aJ (v:=aI) gA (gx r u) r r))<|og r r r (fun u=>(cC (gx r u) (gx r u)))<|aN r (cB r r r (fun e=>fU e))<|mB r<|og r r r (fun u=>(bE aBd r))<|og r r r (fun u=>(aJ (v:=aS) mG (gx r u) r r))<|og r r r (fun u=>(bE aBd r))<|og r r r (fun u=>(aJ (v:=aS) mG (gx r u) r r))<|og r r r (fun u=>(qZ (gx r u) (gx r u)))<|aN r (cB r r r (fun e=>fU e))<|mB r<|og r r r (fun u=>(bE aCT r))<|og r r r (fun u=>(aJ (v:=aS) mG (gx r u) r r))<|og r r r (fun u=>(bE aCT r))<|og r r r (fun u=>(aJ (v:=aS) mG (gx r u) r r))<|og r r r (fun u=>(qZ (gx r u) (gx r u)))<|aN r (cB r r r (fun e=>fU e))<|mB r<|og r r r (fun u=>(bE uI r))<|og r r r (fun u=>(aJ (v:=aI) gA (gx r u) r r))<|og r r r (fun u=>(bE uI r))<|og r r r (fun u=>(aJ (v:=aI) gA (gx r u) r r))<|og r r r (fun u=>(cC (gx r u) (gx r u)))<|aN r (cB r r r (fun e=>fU e))<|mB r<|og r r r (fun u=>(bE xC r))<|og r r r (fun u=>(dN (us:=cH) jC (gx r u) r r r))<|og r r r (fun u=>(bE xC r))<|og r r r (fun u=>(dN (us:=cH) jC (gx r u) r r r))<|bx h fun x1 y1 h2=>uP r r (fun u=>bC (v:=aB) r (aBZ (cZ y1 u)) ⟨(fH (gx r u) (bQ r zA)),(fH (gx r u) (bQ r zA)),trivial⟩ (gO (by repeat (first | exact fC | refine aZ r ?_ | refine aZ (rG r) ?_ | refine aZ rF ?_))) r r) ?_
 refine aN r (cB r r r (fun e=>fU e))<|mB r<|og r r r (fun u=>(bE aBV r))<|og r r r (fun u=>(dN (us:=dE) aAm (gx r u) r r r))<|og r r r (fun u=>(bE aBV r))<|og r r r (fun u=>(dN (us:=dE) aAm (gx r u) r r r))<|bx h2 fun x3 y3 h4=>uP r r (fun u=>bC (v:=aB) r (vW (cZ y3 u)) ⟨(fH (gx r u) (bQ r zX)),(fH (gx r u) (bQ r zX)),trivial⟩ (gO (by repeat (first | exact fC | refine aZ r ?_ | refine aZ (rG r) ?_ | refine aZ rF ?_))) r r) ?_
 refine aN r (cB r r r (fun e=>fU e))<|sB r<|aG (fr':=[(4,aB)]) r r<|bJ ?_
 obtain rfl:=sy h4
 exact bI (rs':=[.tmp 4]) r<|bX (v:=aB) r<|bG<|aP [] r r r lr aC
noncomputable def aCh (p0c:cK):Option cK :=
 ((((cond (decide (p0c.Kind=1)) (some (decide (p0c.Kind=1))) (cond (decide (p0c.Kind=2)) (some (decide (p0c.Kind=2))) (cond (decide (p0c.Kind=3)) (some (decide (p0c.Kind=3))) (cond (decide (p0c.Kind=4)) (some (decide (p0c.Kind=4))) (cond (decide (p0c.Kind=5)) (some (decide (p0c.Kind=5))) (some (decide (p0c.Kind=6)))))))):Option Bool).bind fun x4=>(cond x4 (some 0) (some p0c.Seq))):Option Int).bind fun x1=>(((((cond (decide (p0c.Kind=1)) (some (decide (p0c.Kind=1))) (cond (decide (p0c.Kind=5)) (some (decide (p0c.Kind=5))) (cond (decide (p0c.Kind=6)) (some (decide (p0c.Kind=6))) (cond (decide (p0c.Kind=7)) (some (decide (p0c.Kind=7))) (cond (decide (p0c.Kind=8)) (some (decide (p0c.Kind=8))) (some (decide (p0c.Kind=12)))))))):Option Bool).bind fun x18=>(cond x18 (some ([]:List UInt8)) (some p0c.Name))):Option (List UInt8)).bind fun x15=>(((((cond (decide (p0c.Kind=5)) (some (decide (p0c.Kind=5))) (cond (decide (p0c.Kind=6)) (some (decide (p0c.Kind=6))) (cond (decide (p0c.Kind=8)) (some (decide (p0c.Kind=8))) (some (decide (p0c.Kind=9)))))):Option Bool).bind fun x32=>(cond x32 (some ([]:List UInt8)) (some p0c.Key))):Option (List UInt8)).bind fun x29=>(((((cond (decide (p0c.Kind=3)) (some (decide (p0c.Kind=3))) (cond (decide (p0c.Kind=5)) (some (decide (p0c.Kind=5))) (cond (decide (p0c.Kind=7)) (some (decide (p0c.Kind=7))) (some (decide (p0c.Kind=9)))))):Option Bool).bind fun x44=>(cond x44 (some 0) (some p0c.N))):Option Int).bind fun x41=>(((((cond (decide (p0c.Kind=2)) (some (decide (p0c.Kind=2))) (cond (decide (p0c.Kind=3)) (some (decide (p0c.Kind=3))) (some (decide (p0c.Kind=4))))):Option Bool).bind fun x56=>(cond x56 (some (cK.mk p0c.Kind x1 x15 x29 x41 p0c.Data p0c.Opts)) (some (cK.mk p0c.Kind x1 x15 x29 x41 (aK.mk 0 0 ([]:List UInt8) ([]:(List aK)) ([]:(List (List UInt8)))) p0c.Opts)))):Option cK).bind fun x53=>(cond (decide (x53.Kind=1)) (some (cK.mk x53.Kind x53.Seq x53.Name x53.Key x53.N x53.Data (dR.mk ([]:List UInt8) 0 0 0 0 0 0 0 0 ([]:(List (List UInt8)))))) (some x53))))))
theorem aMy {p0c:cK}{z:cK} (h:aCh p0c=some z):cR Tryz.prog 156 [.agg (AV.cs (eV p0c))] [] (.agg (AV.cs (eV z))) []:=by
 unfold aCh at h
 refine dQ (fn:=Tryz.f156) [0,1,2,4,5,14,15,24,25,32,33,40,43,49] (by kernel_rfl) Tryz.func156 r (by kernel_rfl) (by kernel_rfl)<|aH<|iR (v:=.agg aW) (n:=0) (cs:=aW) (σ':=[aW]) r r r r r<|jT (n:=1) (cs:=bD) (σ':=[aW,bD]) aKh r r r<|aG (fr':=[(1,aD),(2,bK)]) r r<|bx h fun x1 y1 h2=>jR (fun j3=>x1=j3) (fun (j3:Int)=>([(1,aD),(2,bK)]:Fr)) (fun (j3:Int)=>([[ci p0c.Kind,ci j3,.c (.str p0c.Name),.c (.str p0c.Key),ci p0c.N,ci p0c.Data.Kind,ci p0c.Data.Int,.c (.str p0c.Data.Text),.c (PV.ls 5 bO p0c.Data.Items),.c (PV.ls 1 fZ p0c.Data.Keys),.c (.str p0c.Opts.Queue),ci p0c.Opts.ToStart,ci p0c.Opts.ToClose,ci p0c.Opts.Total,ci p0c.Opts.Beat,ci p0c.Opts.First,ci p0c.Opts.Coef,ci p0c.Opts.Most,ci p0c.Opts.Attempts,.c (PV.ls 1 fZ p0c.Opts.Fatal)],[ci 0,ci 0,.c (.str ([]:List UInt8)),.c (.str ([]:List UInt8)),ci 0,ci 0,ci 0,.c (.str ([]:List UInt8)),AV.nil,AV.nil,.c (.str ([]:List UInt8)),ci 0,ci 0,ci 0,ci 0,ci 0,ci 0,ci 0,ci 0,AV.nil]]:St)) ?_ ?_
 ·
  refine aH<|aN r (bE sN r)<|aN r (aJ (v:=aI) gA r r r)<|aG (fr':=[(1,aD),(2,bK),(4,aI)]) r r<|cE<|bx y1 fun x4 y4 h5=>jR (fun j6=>x4=j6) (fun (j6:Bool)=>([(1,aD),(2,bK),(5,.c (.bool j6))]:Fr)) (fun (j6:Bool)=>([[ci p0c.Kind,ci p0c.Seq,.c (.str p0c.Name),.c (.str p0c.Key),ci p0c.N,ci p0c.Data.Kind,ci p0c.Data.Int,.c (.str p0c.Data.Text),.c (PV.ls 5 bO p0c.Data.Items),.c (PV.ls 1 fZ p0c.Data.Keys),.c (.str p0c.Opts.Queue),ci p0c.Opts.ToStart,ci p0c.Opts.ToClose,ci p0c.Opts.Total,ci p0c.Opts.Beat,ci p0c.Opts.First,ci p0c.Opts.Coef,ci p0c.Opts.Most,ci p0c.Opts.Attempts,.c (PV.ls 1 fZ p0c.Opts.Fatal)],[ci 0,ci 0,.c (.str ([]:List UInt8)),.c (.str ([]:List UInt8)),ci 0,ci 0,ci 0,.c (.str ([]:List UInt8)),AV.nil,AV.nil,.c (.str ([]:List UInt8)),ci 0,ci 0,ci 0,ci 0,ci 0,ci 0,ci 0,ci 0,AV.nil]]:St)) ?_ ?_
  ·
   refine aH<|aN r (cC r r)<|sB r<|aG (fr':=[(1,aD),(2,bK),(4,aI),(5,aB)]) r r<|cN y4 r (fun b7 h7=>?_) (fun b7 h7=>?_)
   ·
    exact bL<|kI _ (sy h7) (bH [] 2 r r r r lG (cV r (cV r aC)))
   ·
    refine aH<|aN r (cC r r)<|sB r<|aG (fr':=[(1,aD),(2,bK),(4,aI),(5,aB)]) r r<|cN h7 r (fun b8 h8=>?_) (fun b8 h8=>?_)
    ·
     exact bL<|kI _ (sy h8) (bH [] 2 r r r r lG (cV r (cV r aC)))
    ·
     refine aH<|aN r (cC r r)<|sB r<|aG (fr':=[(1,aD),(2,bK),(4,aI),(5,aB)]) r r<|cN h8 r (fun b9 h9=>?_) (fun b9 h9=>?_)
     ·
      exact bL<|kI _ (sy h9) (bH [] 2 r r r r lG (cV r (cV r aC)))
     ·
      refine aH<|aN r (cC r r)<|sB r<|aG (fr':=[(1,aD),(2,bK),(4,aI),(5,aB)]) r r<|cN h9 r (fun b10 h10=>?_) (fun b10 h10=>?_)
      ·
       exact bL<|kI _ (sy h10) (bH [] 2 r r r r lG (cV r (cV r aC)))
      ·
       refine aH<|aN r (cC r r)<|sB r<|aG (fr':=[(1,aD),(2,bK),(4,aI),(5,aB)]) r r<|cN h10 r (fun b11 h11=>?_) (fun b11 h11=>?_)
       ·
        exact bL<|kI _ (sy h11) (bH [] 2 r r r r lG (cV r (cV r aC)))
       ·
        exact bA<|aN r (cC r r)<|sB r<|dT (fr':=[(1,aD),(2,bK),(4,aI),(5,aB)]) r<|kI _ (sy h11) (bH [] 2 r r r r lG (cV r (cV r aC)))
  ·
   intro j6 hj12
   subst hj12
   refine cN h5 r (fun b13 h13=>?_) (fun b13 h13=>?_)
   ·
    exact bA<|aN r (bE aCS r)<|cD (v:=aI) (us:=[aI]) (cs:=aW) (σ':=[aW,bD]) r gA r r r r r r r r<|dT (fr':=[(1,aD),(2,bK),(5,aB)]) r<|dH<|kI _ (sy h13) (bH [] 2 r r r r kU (cV r (cV r aC)))
   ·
    exact bL<|dH<|kI _ (sy h13) (bH [] 2 r r r r kU (cV r (cV r aC)))
 ·
  intro j3 hj14
  subst hj14
  obtain ⟨x15,y15,h16⟩:=lB h2
  refine jR (fun j17=>x15=j17) (fun (j17:(List UInt8))=>([(1,aD),(2,bK)]:Fr)) (fun (j17:(List UInt8))=>([[ci p0c.Kind,ci x1,.c (.str j17),.c (.str p0c.Key),ci p0c.N,ci p0c.Data.Kind,ci p0c.Data.Int,.c (.str p0c.Data.Text),.c (PV.ls 5 bO p0c.Data.Items),.c (PV.ls 1 fZ p0c.Data.Keys),.c (.str p0c.Opts.Queue),ci p0c.Opts.ToStart,ci p0c.Opts.ToClose,ci p0c.Opts.Total,ci p0c.Opts.Beat,ci p0c.Opts.First,ci p0c.Opts.Coef,ci p0c.Opts.Most,ci p0c.Opts.Attempts,.c (PV.ls 1 fZ p0c.Opts.Fatal)],[ci 0,ci 0,.c (.str ([]:List UInt8)),.c (.str ([]:List UInt8)),ci 0,ci 0,ci 0,.c (.str ([]:List UInt8)),AV.nil,AV.nil,.c (.str ([]:List UInt8)),ci 0,ci 0,ci 0,ci 0,ci 0,ci 0,ci 0,ci 0,AV.nil]]:St)) ?_ ?_
  ·
   refine aH<|aN r (bE sN r)<|aN r (aJ (v:=aI) gA r r r)<|aG (fr':=[(1,aD),(2,bK),(14,aI)]) r r<|cE<|bx y15 fun x18 y18 h19=>jR (fun j20=>x18=j20) (fun (j20:Bool)=>([(1,aD),(2,bK),(15,.c (.bool j20))]:Fr)) (fun (j20:Bool)=>([[ci p0c.Kind,ci x1,.c (.str p0c.Name),.c (.str p0c.Key),ci p0c.N,ci p0c.Data.Kind,ci p0c.Data.Int,.c (.str p0c.Data.Text),.c (PV.ls 5 bO p0c.Data.Items),.c (PV.ls 1 fZ p0c.Data.Keys),.c (.str p0c.Opts.Queue),ci p0c.Opts.ToStart,ci p0c.Opts.ToClose,ci p0c.Opts.Total,ci p0c.Opts.Beat,ci p0c.Opts.First,ci p0c.Opts.Coef,ci p0c.Opts.Most,ci p0c.Opts.Attempts,.c (PV.ls 1 fZ p0c.Opts.Fatal)],[ci 0,ci 0,.c (.str ([]:List UInt8)),.c (.str ([]:List UInt8)),ci 0,ci 0,ci 0,.c (.str ([]:List UInt8)),AV.nil,AV.nil,.c (.str ([]:List UInt8)),ci 0,ci 0,ci 0,ci 0,ci 0,ci 0,ci 0,ci 0,AV.nil]]:St)) ?_ ?_
   ·
    refine aH<|aN r (cC r r)<|sB r<|aG (fr':=[(1,aD),(2,bK),(14,aI),(15,aB)]) r r<|cN y18 r (fun b21 h21=>?_) (fun b21 h21=>?_)
    ·
     exact bL<|kI _ (sy h21) (bH [] 2 r r r r lG (cV r (cV r aC)))
    ·
     refine aH<|aN r (cC r r)<|sB r<|aG (fr':=[(1,aD),(2,bK),(14,aI),(15,aB)]) r r<|cN h21 r (fun b22 h22=>?_) (fun b22 h22=>?_)
     ·
      exact bL<|kI _ (sy h22) (bH [] 2 r r r r lG (cV r (cV r aC)))
     ·
      refine aH<|aN r (cC r r)<|sB r<|aG (fr':=[(1,aD),(2,bK),(14,aI),(15,aB)]) r r<|cN h22 r (fun b23 h23=>?_) (fun b23 h23=>?_)
      ·
       exact bL<|kI _ (sy h23) (bH [] 2 r r r r lG (cV r (cV r aC)))
      ·
       refine aH<|aN r (cC r r)<|sB r<|aG (fr':=[(1,aD),(2,bK),(14,aI),(15,aB)]) r r<|cN h23 r (fun b24 h24=>?_) (fun b24 h24=>?_)
       ·
        exact bL<|kI _ (sy h24) (bH [] 2 r r r r lG (cV r (cV r aC)))
       ·
        refine aH<|aN r (cC r r)<|sB r<|aG (fr':=[(1,aD),(2,bK),(14,aI),(15,aB)]) r r<|cN h24 r (fun b25 h25=>?_) (fun b25 h25=>?_)
        ·
         exact bL<|kI _ (sy h25) (bH [] 2 r r r r lG (cV r (cV r aC)))
        ·
         exact bA<|aN r (cC r r)<|sB r<|dT (fr':=[(1,aD),(2,bK),(14,aI),(15,aB)]) r<|kI _ (sy h25) (bH [] 2 r r r r lG (cV r (cV r aC)))
   ·
    intro j20 hj26
    subst hj26
    refine cN h19 r (fun b27 h27=>?_) (fun b27 h27=>?_)
    ·
     exact bA<|aN r (bE aBd r)<|cD (v:=aS) (us:=[aS]) (cs:=aW) (σ':=[aW,bD]) r mG r r r r r r r r<|dT (fr':=[(1,aD),(2,bK),(15,aB)]) r<|dH<|kI _ (sy h27) (bH [] 2 r r r r kU (cV r (cV r aC)))
    ·
     exact bL<|dH<|kI _ (sy h27) (bH [] 2 r r r r kU (cV r (cV r aC)))
  ·
   intro j17 hj28
   subst hj28
   obtain ⟨x29,y29,h30⟩:=lB h16
   refine jR (fun j31=>x29=j31) (fun (j31:(List UInt8))=>([(1,aD),(2,bK)]:Fr)) (fun (j31:(List UInt8))=>([[ci p0c.Kind,ci x1,.c (.str x15),.c (.str j31),ci p0c.N,ci p0c.Data.Kind,ci p0c.Data.Int,.c (.str p0c.Data.Text),.c (PV.ls 5 bO p0c.Data.Items),.c (PV.ls 1 fZ p0c.Data.Keys),.c (.str p0c.Opts.Queue),ci p0c.Opts.ToStart,ci p0c.Opts.ToClose,ci p0c.Opts.Total,ci p0c.Opts.Beat,ci p0c.Opts.First,ci p0c.Opts.Coef,ci p0c.Opts.Most,ci p0c.Opts.Attempts,.c (PV.ls 1 fZ p0c.Opts.Fatal)],[ci 0,ci 0,.c (.str ([]:List UInt8)),.c (.str ([]:List UInt8)),ci 0,ci 0,ci 0,.c (.str ([]:List UInt8)),AV.nil,AV.nil,.c (.str ([]:List UInt8)),ci 0,ci 0,ci 0,ci 0,ci 0,ci 0,ci 0,ci 0,AV.nil]]:St)) ?_ ?_
   ·
    refine aH<|aN r (bE sN r)<|aN r (aJ (v:=aI) gA r r r)<|aG (fr':=[(1,aD),(2,bK),(24,aI)]) r r<|cE<|bx y29 fun x32 y32 h33=>jR (fun j34=>x32=j34) (fun (j34:Bool)=>([(1,aD),(2,bK),(25,.c (.bool j34))]:Fr)) (fun (j34:Bool)=>([[ci p0c.Kind,ci x1,.c (.str x15),.c (.str p0c.Key),ci p0c.N,ci p0c.Data.Kind,ci p0c.Data.Int,.c (.str p0c.Data.Text),.c (PV.ls 5 bO p0c.Data.Items),.c (PV.ls 1 fZ p0c.Data.Keys),.c (.str p0c.Opts.Queue),ci p0c.Opts.ToStart,ci p0c.Opts.ToClose,ci p0c.Opts.Total,ci p0c.Opts.Beat,ci p0c.Opts.First,ci p0c.Opts.Coef,ci p0c.Opts.Most,ci p0c.Opts.Attempts,.c (PV.ls 1 fZ p0c.Opts.Fatal)],[ci 0,ci 0,.c (.str ([]:List UInt8)),.c (.str ([]:List UInt8)),ci 0,ci 0,ci 0,.c (.str ([]:List UInt8)),AV.nil,AV.nil,.c (.str ([]:List UInt8)),ci 0,ci 0,ci 0,ci 0,ci 0,ci 0,ci 0,ci 0,AV.nil]]:St)) ?_ ?_
    ·
     refine aH<|aN r (cC r r)<|sB r<|aG (fr':=[(1,aD),(2,bK),(24,aI),(25,aB)]) r r<|cN y32 r (fun b35 h35=>?_) (fun b35 h35=>?_)
     ·
      exact bL<|kI _ (sy h35) (bH [] 2 r r r r lG (cV r (cV r aC)))
     ·
      refine aH<|aN r (cC r r)<|sB r<|aG (fr':=[(1,aD),(2,bK),(24,aI),(25,aB)]) r r<|cN h35 r (fun b36 h36=>?_) (fun b36 h36=>?_)
      ·
       exact bL<|kI _ (sy h36) (bH [] 2 r r r r lG (cV r (cV r aC)))
      ·
       refine aH<|aN r (cC r r)<|sB r<|aG (fr':=[(1,aD),(2,bK),(24,aI),(25,aB)]) r r<|cN h36 r (fun b37 h37=>?_) (fun b37 h37=>?_)
       ·
        exact bL<|kI _ (sy h37) (bH [] 2 r r r r lG (cV r (cV r aC)))
       ·
        exact bA<|aN r (cC r r)<|sB r<|dT (fr':=[(1,aD),(2,bK),(24,aI),(25,aB)]) r<|kI _ (sy h37) (bH [] 2 r r r r lG (cV r (cV r aC)))
    ·
     intro j34 hj38
     subst hj38
     refine cN h33 r (fun b39 h39=>?_) (fun b39 h39=>?_)
     ·
      exact bA<|aN r (bE aCT r)<|cD (v:=aS) (us:=[aS]) (cs:=aW) (σ':=[aW,bD]) r mG r r r r r r r r<|dT (fr':=[(1,aD),(2,bK),(25,aB)]) r<|dH<|kI _ (sy h39) (bH [] 2 r r r r kU (cV r (cV r aC)))
     ·
      exact bL<|dH<|kI _ (sy h39) (bH [] 2 r r r r kU (cV r (cV r aC)))
   ·
    intro j31 hj40
    subst hj40
    obtain ⟨x41,y41,h42⟩:=lB h30
    refine jR (fun j43=>x41=j43) (fun (j43:Int)=>([(1,aD),(2,bK)]:Fr)) (fun (j43:Int)=>([[ci p0c.Kind,ci x1,.c (.str x15),.c (.str x29),ci j43,ci p0c.Data.Kind,ci p0c.Data.Int,.c (.str p0c.Data.Text),.c (PV.ls 5 bO p0c.Data.Items),.c (PV.ls 1 fZ p0c.Data.Keys),.c (.str p0c.Opts.Queue),ci p0c.Opts.ToStart,ci p0c.Opts.ToClose,ci p0c.Opts.Total,ci p0c.Opts.Beat,ci p0c.Opts.First,ci p0c.Opts.Coef,ci p0c.Opts.Most,ci p0c.Opts.Attempts,.c (PV.ls 1 fZ p0c.Opts.Fatal)],[ci 0,ci 0,.c (.str ([]:List UInt8)),.c (.str ([]:List UInt8)),ci 0,ci 0,ci 0,.c (.str ([]:List UInt8)),AV.nil,AV.nil,.c (.str ([]:List UInt8)),ci 0,ci 0,ci 0,ci 0,ci 0,ci 0,ci 0,ci 0,AV.nil]]:St)) ?_ ?_
    ·
     refine aH<|aN r (bE sN r)<|aN r (aJ (v:=aI) gA r r r)<|aG (fr':=[(1,aD),(2,bK),(32,aI)]) r r<|cE<|bx y41 fun x44 y44 h45=>jR (fun j46=>x44=j46) (fun (j46:Bool)=>([(1,aD),(2,bK),(33,.c (.bool j46))]:Fr)) (fun (j46:Bool)=>([[ci p0c.Kind,ci x1,.c (.str x15),.c (.str x29),ci p0c.N,ci p0c.Data.Kind,ci p0c.Data.Int,.c (.str p0c.Data.Text),.c (PV.ls 5 bO p0c.Data.Items),.c (PV.ls 1 fZ p0c.Data.Keys),.c (.str p0c.Opts.Queue),ci p0c.Opts.ToStart,ci p0c.Opts.ToClose,ci p0c.Opts.Total,ci p0c.Opts.Beat,ci p0c.Opts.First,ci p0c.Opts.Coef,ci p0c.Opts.Most,ci p0c.Opts.Attempts,.c (PV.ls 1 fZ p0c.Opts.Fatal)],[ci 0,ci 0,.c (.str ([]:List UInt8)),.c (.str ([]:List UInt8)),ci 0,ci 0,ci 0,.c (.str ([]:List UInt8)),AV.nil,AV.nil,.c (.str ([]:List UInt8)),ci 0,ci 0,ci 0,ci 0,ci 0,ci 0,ci 0,ci 0,AV.nil]]:St)) ?_ ?_
     ·
      refine aH<|aN r (cC r r)<|sB r<|aG (fr':=[(1,aD),(2,bK),(32,aI),(33,aB)]) r r<|cN y44 r (fun b47 h47=>?_) (fun b47 h47=>?_)
      ·
       exact bL<|kI _ (sy h47) (bH [] 2 r r r r lG (cV r (cV r aC)))
      ·
       refine aH<|aN r (cC r r)<|sB r<|aG (fr':=[(1,aD),(2,bK),(32,aI),(33,aB)]) r r<|cN h47 r (fun b48 h48=>?_) (fun b48 h48=>?_)
       ·
        exact bL<|kI _ (sy h48) (bH [] 2 r r r r lG (cV r (cV r aC)))
       ·
        refine aH<|aN r (cC r r)<|sB r<|aG (fr':=[(1,aD),(2,bK),(32,aI),(33,aB)]) r r<|cN h48 r (fun b49 h49=>?_) (fun b49 h49=>?_)
        ·
         exact bL<|kI _ (sy h49) (bH [] 2 r r r r lG (cV r (cV r aC)))
        ·
         exact bA<|aN r (cC r r)<|sB r<|dT (fr':=[(1,aD),(2,bK),(32,aI),(33,aB)]) r<|kI _ (sy h49) (bH [] 2 r r r r lG (cV r (cV r aC)))
     ·
      intro j46 hj50
      subst hj50
      refine cN h45 r (fun b51 h51=>?_) (fun b51 h51=>?_)
      ·
       exact bA<|aN r (bE uI r)<|cD (v:=aI) (us:=[aI]) (cs:=aW) (σ':=[aW,bD]) r gA r r r r r r r r<|dT (fr':=[(1,aD),(2,bK),(33,aB)]) r<|dH<|kI _ (sy h51) (bH [] 2 r r r r kU (cV r (cV r aC)))
      ·
       exact bL<|dH<|kI _ (sy h51) (bH [] 2 r r r r kU (cV r (cV r aC)))
    ·
     intro j43 hj52
     subst hj52
     obtain ⟨x53,y53,h54⟩:=lB h42
     refine jR (fun j55=>x53=j55) (fun (j55:cK)=>([(1,aD),(2,bK)]:Fr)) (fun (j55:cK)=>([[ci j55.Kind,ci j55.Seq,.c (.str j55.Name),.c (.str j55.Key),ci j55.N,ci j55.Data.Kind,ci j55.Data.Int,.c (.str j55.Data.Text),.c (PV.ls 5 bO j55.Data.Items),.c (PV.ls 1 fZ j55.Data.Keys),.c (.str j55.Opts.Queue),ci j55.Opts.ToStart,ci j55.Opts.ToClose,ci j55.Opts.Total,ci j55.Opts.Beat,ci j55.Opts.First,ci j55.Opts.Coef,ci j55.Opts.Most,ci j55.Opts.Attempts,.c (PV.ls 1 fZ j55.Opts.Fatal)],[ci 0,ci 0,.c (.str ([]:List UInt8)),.c (.str ([]:List UInt8)),ci 0,ci 0,ci 0,.c (.str ([]:List UInt8)),AV.nil,AV.nil,.c (.str ([]:List UInt8)),ci 0,ci 0,ci 0,ci 0,ci 0,ci 0,ci 0,ci 0,AV.nil]]:St)) ?_ ?_
     ·
      refine aH<|aN r (bE sN r)<|aN r (aJ (v:=aI) gA r r r)<|aG (fr':=[(1,aD),(2,bK),(40,aI)]) r r<|cE<|bx y53 fun x56 y56 h57=>jR (fun j58=>x56=j58) (fun (j58:Bool)=>([(1,aD),(2,bK),(43,.c (.bool j58))]:Fr)) (fun (j58:Bool)=>([[ci p0c.Kind,ci x1,.c (.str x15),.c (.str x29),ci x41,ci p0c.Data.Kind,ci p0c.Data.Int,.c (.str p0c.Data.Text),.c (PV.ls 5 bO p0c.Data.Items),.c (PV.ls 1 fZ p0c.Data.Keys),.c (.str p0c.Opts.Queue),ci p0c.Opts.ToStart,ci p0c.Opts.ToClose,ci p0c.Opts.Total,ci p0c.Opts.Beat,ci p0c.Opts.First,ci p0c.Opts.Coef,ci p0c.Opts.Most,ci p0c.Opts.Attempts,.c (PV.ls 1 fZ p0c.Opts.Fatal)],[ci 0,ci 0,.c (.str ([]:List UInt8)),.c (.str ([]:List UInt8)),ci 0,ci 0,ci 0,.c (.str ([]:List UInt8)),AV.nil,AV.nil,.c (.str ([]:List UInt8)),ci 0,ci 0,ci 0,ci 0,ci 0,ci 0,ci 0,ci 0,AV.nil]]:St)) ?_ ?_
      ·
       refine aH<|aN r (cC r r)<|sB r<|aG (fr':=[(1,aD),(2,bK),(40,aI),(43,aB)]) r r<|cN y56 r (fun b59 h59=>?_) (fun b59 h59=>?_)
       ·
        exact bL<|kI _ (sy h59) (bH [] 2 r r r r lG (cV r (cV r aC)))
       ·
        refine aH<|aN r (cC r r)<|sB r<|aG (fr':=[(1,aD),(2,bK),(40,aI),(43,aB)]) r r<|cN h59 r (fun b60 h60=>?_) (fun b60 h60=>?_)
        ·
         exact bL<|kI _ (sy h60) (bH [] 2 r r r r lG (cV r (cV r aC)))
        ·
         exact bA<|aN r (cC r r)<|sB r<|dT (fr':=[(1,aD),(2,bK),(40,aI),(43,aB)]) r<|kI _ (sy h60) (bH [] 2 r r r r lG (cV r (cV r aC)))
      ·
       intro j58 hj61
       subst hj61
       refine cN h57 r (fun b62 h62=>?_) (fun b62 h62=>?_)
       ·
        exact bL<|dH<|kI _ (sy h62) (bH [] 2 r r r r kU (cV r (cV r aC)))
       ·
        exact bA<|aN r (gD (cs:=dF) aIK r)<|aN r (bE xC r)<|cD (v:=.agg dF) (us:=dF) (cs:=aW) (σ':=[aD7,bD]) r jC r r r r r r r r<|dT (fr':=[(1,aD),(2,bK),(43,aB)]) r<|dH<|kI _ (sy h62) (bH [] 2 r r r r kU (aBU ⟨lr,lr,lr,lr,lr,lr,lr,lr,aJG,aJG,lr,lr,lr,lr,lr,lr,lr,lr,lr,lr,trivial⟩ (cV r aC)))
     ·
      intro j55 hj63
      subst hj63
      refine aU<|aH<|aN r (bE sN r)<|aN r (aJ (v:=aI) gA r r r)<|aN r (cC r r)<|aG (fr':=[(1,aD),(2,bK),(49,aB)]) r r<|cN h54 r (fun b64 h64=>?_) (fun b64 h64=>?_)
      ·
       refine bA<|aN r (jY (c0:=cP) (cs:=cP) aRa r jX)<|aN r (bE aBV r)<|cD (v:=.agg cP) (us:=cP) (cs:=aW) (σ':=[jD,bD]) r aAm r r r r r r r r<|aG (fr':=[(1,aD),(2,bK)]) r r<|aH<|aN r (dN (us:=jD) uX r r r r)<|cD (v:=.agg jD) (us:=jD) (cs:=bD) (σ':=[jD,jD]) r uX r r r r r r r r<|aG (fr':=[(2,bK)]) r r<|bJ ?_
       obtain rfl:=sy h64
       exact bI (rs':=[.cell 2 103]) r<|eN (us:=jD) (cs:=jD) uX r r r r<|bG<|aP [] r r r (bQ r ⟨r,r,r,r,r,r,r,r,r,r,r,r,r,r,r,r,r,r,r,⟨_,r⟩,trivial⟩) aC
      ·
       refine bL<|cY<|aH<|aN r (dN (us:=aW) uX r r r r)<|cD (v:=.agg aW) (us:=aW) (cs:=bD) (σ':=[aW,aW]) r uX r r r r r r r r<|aG (fr':=[(2,bK)]) r r<|bJ ?_
       obtain rfl:=sy h64
       exact bI (rs':=[.cell 2 103]) r<|eN (us:=aW) (cs:=aW) uX r r r r<|bG<|aP [] r r r (bQ r aFh) aC
noncomputable def xQ (p0v:aK) (s8:Int):Option (dU Int (Fl Bool Unit)) :=
 (mP p0v.Items 1).bind fun x9=>cond (decide (s8<((x9.Items).length:Int))) ((mP p0v.Items 1).bind fun x12=>(mP x12.Items s8).bind fun x14=>(gd ((cond (!decide (x14.Kind=4)) true (!decide (((x14.Items).length:Int)=2)))==false) (mP x14.Items 0)).bind fun x16=>(gd ((cond (cond (!decide (x14.Kind=4)) true (!decide (((x14.Items).length:Int)=2))) true (!decide (x16.Kind=3)))==false) (mP x14.Items 0)).bind fun x18=>(gd ((cond (cond (!decide (x14.Kind=4)) true (!decide (((x14.Items).length:Int)=2))) true (!decide (x16.Kind=3)))==false) (qI x18.Text)).bind fun x20=>cond (cond (cond (cond (!decide (x14.Kind=4)) true (!decide (((x14.Items).length:Int)=2))) true (!decide (x16.Kind=3))) true (!x20)) (some (dU.out (Fl.done false))) (some (dU.next (IntKind.wrap .i64 (s8+1))))) (some (dU.out (Fl.go ())))
noncomputable def aBs (p0v:aK):Option Bool :=
 (gd ((cond (!decide (p0v.Kind=4)) true (!decide (((p0v.Items).length:Int)=2)))==false) (mP p0v.Items 1)).bind fun x1=>cond (cond (cond (!decide (p0v.Kind=4)) true (!decide (((p0v.Items).length:Int)=2))) true (!decide (x1.Kind=4))) (some false) ((gL (xQ p0v) (0)).bind fun x5=>Fl.next x5 (fun j7=>(some true)))
theorem aK4 {p0v:aK}{z:Bool} (h:aBs p0v=some z):cR Tryz.prog 157 [.agg (AV.cs (fA p0v))] [] (.c (.bool z)) []:=by
 unfold aBs at h
 refine dQ (fn:=Tryz.f157) [0,1,2,3,4,21,29,65] (by kernel_rfl) Tryz.func157 r (by kernel_rfl) (by kernel_rfl)<|aH<|iR (v:=.agg cH) (n:=0) (cs:=cH) (σ':=[cH]) r r r r r<|sB r<|aG (fr':=[(1,aD)]) r r<|aU<|aH<|aN r (bE lU r)<|aN r (aJ (v:=aI) gA r r r)<|aN r (iY r r)<|mB r<|og r r r (fun u=>(bE iH r))<|og r r r (fun u=>(aJ (v:=aL) nJ (gx r u) r r))<|og r r r (fun u=>(gQ vC (eD (gx r u))))<|og r r r (fun u=>(iY (gx r u) r))<|aN r (cM r r r (fun e=>fU e))<|mB r<|og r r r (fun u=>(bE iH r))<|og r r r (fun u=>(aJ (v:=aL) nJ (gx r u) r r))<|bx h fun x1 y1 h2=>og r r r (fun u=>(lT (cs:=[PV.int _ _,PV.int _ _,PV.str _,PV.ls _ _ _,PV.ls _ _ _]) uW (eD (gx r u)) r (cZ y1 u) (eA _)))<|og r r r (fun u=>(zF lU (gx r u)))<|og r r r (fun u=>(iO (p:=PV.int _ _) gA (gx r u) r))<|og r r r (fun u=>(iY (gx r u) r))<|aN r (cM r r r (fun e=>fU e))<|aG (fr':=[(1,aD),(21,aB)]) r r<|cN h2 r (fun b3 h3=>?_) (fun b3 h3=>?_)
 ·
  refine aH<|sB r<|aG (fr':=[(2,aB)]) r r<|bJ<|aQ ?_
  obtain rfl:=sy h3
  exact bI (rs':=[.tmp 2]) r<|bX (v:=aB) r<|bG<|aP [] r r r lr aC
 ·
  refine bL<|cY<|aU<|aH<|sI r<|aG (fr':=[(1,aD),(3,aI)]) r r<|bx h3 fun x5 y5 h6=>gY kS (fun j7=>x5=Fl.go j7) (fun (j7:Unit)=>([]:Fr)) (fun (j7:Unit)=>([[ci p0v.Kind,ci p0v.Int,.c (.str p0v.Text),.c (PV.ls 5 bO p0v.Items),.c (PV.ls 1 fZ p0v.Keys)]]:St)) ?_ ?_
  ·
   refine cE<|gU _ (fun (s8:Int)=>([(1,aD),(3,ci s8)]:Fr)) (fun (s8:Int)=>([[ci p0v.Kind,ci p0v.Int,.c (.str p0v.Text),.c (PV.ls 5 bO p0v.Items),.c (PV.ls 1 fZ p0v.Keys)]]:St)) y5 (bH [] 1 r r r r kU (cV r aC)) ?_
   intro s8 st8 hs8 ho8
   unfold xQ at hs8
   refine aU<|aH<|mI r<|aN r (bE iH r)<|aN r (aJ (v:=aL) nJ r r r)<|bx hs8 fun x9 y9 h10=>aN r (lT (cs:=[PV.int _ _,PV.int _ _,PV.str _,PV.ls _ _ _,PV.ls _ _ _]) uW (eD r) r y9 (eA _))<|aN r (zF iH r)<|aN r (iO (p:=PV.ls _ _ _) nJ r r)<|aN r (gQ vC (eD r))<|aN r (gC r r)<|aG (fr':=[(1,aD),(3,aI),(29,aB)]) r r<|cN h10 r (fun b11 h11=>?_) (fun b11 h11=>?_)
   ·
    refine bL<|cY<|aU<|cE<|aH<|aN r (bE iH r)<|aN r (aJ (v:=aL) nJ r r r)<|bx h11 fun x12 y12 h13=>aN r (lT (cs:=[PV.int _ _,PV.int _ _,PV.str _,PV.ls _ _ _,PV.ls _ _ _]) uW (eD r) r y12 (eA _))<|aN r (zF iH r)<|aN r (iO (p:=PV.ls _ _ _) nJ r r)<|mI r<|bx h13 fun x14 y14 h15=>aN r (lT (cs:=[PV.int _ _,PV.int _ _,PV.str _,PV.ls _ _ _,PV.ls _ _ _]) uW (eD r) r y14 (eA _))<|aN r (kT (us:=[PV.int _ _,PV.int _ _,PV.str _,PV.ls _ _ _,PV.ls _ _ _]) jC r r r)<|jT (n:=1) (cs:=dF) (σ':=[cH,dF]) aG8 r r r<|cD (v:=.agg cH) (us:=cH) (cs:=dF) (σ':=[cH,cH]) r jC r r r r r r r r<|aG (fr':=[(1,aD),(3,aI),(4,bK)]) r r<|aH<|aN r (bE lU r)<|aN r (aJ (v:=aI) gA r r r)<|aN r (iY r r)<|mB r<|og r r r (fun u=>(bE iH r))<|og r r r (fun u=>(aJ (v:=aL) nJ (gx r u) r r))<|og r r r (fun u=>(gQ vC (eD (gx r u))))<|og r r r (fun u=>(iY (gx r u) r))<|aN r (cM r r r (fun e=>fU e))<|mB r<|og r r r (fun u=>(bE iH r))<|og r r r (fun u=>(aJ (v:=aL) nJ (gx r u) r r))<|bx h15 fun x16 y16 h17=>og r r r (fun u=>(lT (cs:=[PV.int _ _,PV.int _ _,PV.str _,PV.ls _ _ _,PV.ls _ _ _]) uW (eD (gx r u)) r (cZ y16 u) (eA _)))<|og r r r (fun u=>(zF lU (gx r u)))<|og r r r (fun u=>(iO (p:=PV.int _ _) gA (gx r u) r))<|og r r r (fun u=>(iY (gx r u) r))<|aN r (cM r r r (fun e=>fU e))<|mB r<|og r r r (fun u=>(bE iH r))<|og r r r (fun u=>(aJ (v:=aL) nJ (gx r u) r r))<|bx h17 fun x18 y18 h19=>og r r r (fun u=>(lT (cs:=[PV.int _ _,PV.int _ _,PV.str _,PV.ls _ _ _,PV.ls _ _ _]) uW (eD (gx r u)) r (cZ y18 u) (eA _)))<|og r r r (fun u=>(zF tZ (gx r u)))<|og r r r (fun u=>(iO (p:=PV.str _) mG (gx r u) r))<|bx h19 fun x20 y20 h21=>uP r r (fun u=>bC (v:=aB) r (wN (cZ y20 u)) ⟨(fH (gx r u) lr),trivial⟩ (gO (by repeat (first | exact fC | refine aZ r ?_ | refine aZ (rG r) ?_ | refine aZ rF ?_))) r r) ?_
    refine og r r r (fun u=>(fP (gx r u)))<|aN r (cM r r r (fun e=>fU e))<|aG (fr':=[(1,aD),(3,aI),(65,aB)]) r r<|cN h21 r (fun b22 h22=>?_) (fun b22 h22=>?_)
    ·
     refine aH<|sB r<|aG (fr':=[(2,aB)]) r r<|bJ<|bM<|aQ<|aQ<|bM<|aQ<|aQ ?_
     have h23:=eZ h22 ho8
     have h24:=gT h23 h6
     obtain rfl:=sy h24
     exact bI (rs':=[.tmp 2]) r<|bX (v:=aB) r<|bG<|aP [] r r r lr aC
    ·
     exact bL<|dH<|cY<|bA<|mI r<|aN r (fY r r)<|sI r<|dT (fr':=[(1,aD),(3,aI),(65,aB)]) r<|e_l _ (sy h22) (bH [] 1 r r r r kU (cV r aC))
   ·
    refine iA<|cX<|cX<|fS ?_
    have h26:=eZ h11 ho8
    exact kI _ (sy h26) (bH [] 1 r r r r trivial (cV r aC))
  ·
   intro j7 hj27
   have h27:=mY hj27 h6
   refine cY<|aH<|sB r<|aG (fr':=[(2,aB)]) r r<|bJ ?_
   obtain rfl:=sy h27
   exact bI (rs':=[.tmp 2]) r<|bX (v:=aB) r<|bG<|aP [] r r r lr aC
noncomputable def xR (p0C:cK):Option Bool :=
 (uR p0C.Kind 1 14).bind fun x1=>(gd ((!x1)==false) (aCh p0C)).bind fun x3=>(gd ((!x1)==false) (aAc x3 (cK.mk p0C.Kind 0 ([]:List UInt8) ([]:List UInt8) 0 (aK.mk 0 0 ([]:List UInt8) ([]:(List aK)) ([]:(List (List UInt8)))) (dR.mk ([]:List UInt8) 0 0 0 0 0 0 0 0 ([]:(List (List UInt8))))))).bind fun x5=>(gd ((cond (!x1) true (!x5))==false) (tM p0C.Data)).bind fun x7=>cond (cond (cond (!x1) true (!x5)) true (!x7)) (some false) ((uR p0C.Seq 1 2000).bind fun x11=>(qI p0C.Name).bind fun x13=>(vD p0C.Key).bind fun x15=>cond (decide (p0C.Kind=1)) ((gd ((cond x11 x13 false)==true) (qT p0C.Opts)).bind fun x18=>some (cond (cond x11 x13 false) x18 false)) (((cond (decide (p0C.Kind=2)) (some (decide (p0C.Kind=2))) (some (decide (p0C.Kind=4)))):Option Bool).bind fun x21=>(cond x21 (some x11) (cond (decide (p0C.Kind=3)) ((gd (x11==true) (uR p0C.N 1 1099511627776)).bind fun x29=>some (cond x11 x29 false)) (cond (decide (p0C.Kind=5)) ((gd ((cond (cond x11 x13 false) x15 false)==true) (uR p0C.N 0 2)).bind fun x33=>some (cond (cond (cond x11 x13 false) x15 false) x33 false)) (cond (decide (p0C.Kind=6)) (some (cond (cond x11 x13 false) x15 false)) (cond (decide (p0C.Kind=7)) ((gd ((x13==true)&&((decide (p0C.N=(-1)))==false)) (uR p0C.N 0 2147483647)).bind fun x39=>some (cond x13 (cond (decide (p0C.N=(-1))) true (cond x39 (decide (p0C.Data.Kind=0)) false)) false)) (cond (decide (p0C.Kind=8)) (some (cond x15 x13 false)) (cond (decide (p0C.Kind=9)) ((gd (x15==true) (uR p0C.N 0 1)).bind fun x45=>some (cond x15 x45 false)) (cond (decide (p0C.Kind=10)) (some (decide (p0C.Data.Kind=5))) (cond (decide (p0C.Kind=12)) (some (decide (((p0C.Name).length:Int)≤4096))) (cond (decide (p0C.Kind=14)) ((aBs p0C.Data).bind fun x53=>some x53) (some true)))))))))))))
theorem aK5 {p0C:cK}{z:Bool} (h:xR p0C=some z):cR Tryz.prog 84 [.agg (AV.cs (eV p0C))] [] (.c (.bool z)) []:=by
 unfold xR at h
 refine dQ (fn:=Tryz.f84) [0,1,2,3,4,5,24,35,36,47,51,59,73,82,101,107,115,121,127] (by kernel_rfl) Tryz.func84 r (by kernel_rfl) (by kernel_rfl)<|aH<|iR (v:=.agg aW) (n:=0) (cs:=aW) (σ':=[aW]) r r r r r<|sB r<|aG (fr':=[(1,aD)]) r r<|aU<|aU<|mW [.q 0,.q 1,.q 2,.q 3,.q 4,.q 5,.q 6,.q 7,.q 8,.q 9,.q 10,.q 11,.q 12,.q 13,.q 14,.q 15,.q 16,.q 17,.q 18] [(some 6,[1]),(some 7,[6]),(some 8,[7]),(some 9,[8]),(some 10,[9]),(some 11,[1,10]),(some 12,[11,10]),(some 13,[1,10]),(some 14,[13,10]),(some 15,[14,10]),(some 16,[12,15,10]),(some 17,[16,10]),(some 18,[10,17]),(some 19,[18]),(some 20,[1,19]),(some 21,[20,19]),(some 22,[21,19]),(some 23,[22,19]),(some 24,[19,23])] [0,1,3,7,15,31,63,31,159,415,1023,2047,4095,8191,16383,32767,65535,131071,262143] (by kernel_rfl)<|dq r r (bE sN r)<|dq r r (aJ (v:=aI) gA r r r)<|bx h fun x1 y1 h2=>d_q r (aCP (v:=aB) r (vX y1) lG r)<|dq r r (fP r)<|dq r r (bS (v:=aB) r)<|d_g r r r (fun u=>aC3 r (dN (us:=aW) uX r r r r))<|bx h2 fun x3 y3 h4=>d_g r r r (fun u=>aCP (v:=.agg aW) r (aMy (cZ y3 u)) ⟨(fH (gx r u) (bQ r aFh)),trivial⟩ r)<|d_g r r r (fun u=>aC3 r (bE sN r))<|d_g r r r (fun u=>aC3 r (aJ (v:=aI) gA (gx r u) r r))<|d_g r r r (fun u=>aC3 r (jY (c0:=bD) (cs:=bD) aPZ r (fD (v:=aI) (us:=[_]) (cs':=u20) r (gx r u) r r r r jX)))<|bx h4 fun x5 y5 h6=>d_g r r r (fun u=>aCP (v:=aB) r (aHd (cZ y5 u)) ⟨(fH (gx r u) (bQ r aFh)),(fH (gx r u) (bQ r ⟨r,r,r,r,r,r,r,r,⟨_,r⟩,⟨_,r⟩,r,r,r,r,r,r,r,r,r,⟨_,r⟩,trivial⟩)),trivial⟩ r)<|d_g r r r (fun u=>aC3 r (fP (gx r u)))<|dq r r (cM r r r (fun e=>fU e))<|dq r r (bS (v:=aB) r)<|d_g r r r (fun u=>aC3 r (bE xC r))<|d_g r r r (fun u=>aC3 r (dN (us:=cH) jC (gx r u) r r r))<|bx h6 fun x7 y7 h8=>d_g r r r (fun u=>aCP (v:=aB) r (aBh (cZ y7 u)) ⟨(fH (gx r u) (bQ r zA)),trivial⟩ r)<|d_g r r r (fun u=>aC3 r (fP (gx r u)))<|dq r r (cM r r r (fun e=>fU e))<|aBl (fr':=[(1,aD),(24,aB)]) r r<|cN h8 r (fun b9 h9=>?_) (fun b9 h9=>?_)
 ·
  refine aH<|sB r<|aG (fr':=[(2,aB)]) r r<|bJ<|aQ ?_
  obtain rfl:=sy h9
  exact bI (rs':=[.tmp 2]) r<|bX (v:=aB) r<|bG<|aP [] r r r lr aC
 ·
  refine bL<|cY<|aH<|aN r (bE aCS r)<|aN r (aJ (v:=aI) gA r r r)<|bx h9 fun x11 y11 h12=>kB (bC (v:=aB) r (vX y11) lG r r r)<|sB r<|aG (fr':=[(1,aD),(3,aB)]) r r<|aH<|aN r (bE aBd r)<|aN r (aJ (v:=aS) mG r r r)<|bx h12 fun x13 y13 h14=>kB (bC (v:=aB) r (wN y13) ⟨lr,trivial⟩ r r r)<|sB r<|aG (fr':=[(1,aD),(3,aB),(4,aB)]) r r<|aH<|aN r (bE aCT r)<|aN r (aJ (v:=aS) mG r r r)<|bx h14 fun x15 y15 h16=>kB (bC (v:=aB) r (aK3 y15) ⟨lr,trivial⟩ r r r)<|sB r<|aG (fr':=[(1,aD),(3,aB),(4,aB),(5,aB)]) r r<|aU<|aH<|aN r (bE sN r)<|aN r (aJ (v:=aI) gA r r r)<|aG (fr':=[(1,aD),(3,aB),(4,aB),(5,aB),(35,aI)]) r r<|cE<|aH<|aN r (cC r r)<|sB r<|aG (fr':=[(1,aD),(3,aB),(4,aB),(5,aB),(35,aI),(36,aB)]) r r<|cN h16 r (fun b17 h17=>?_) (fun b17 h17=>?_)
  ·
   refine aH<|mB r<|mB r<|og r r r (fun u=>(bS (v:=aB) r))<|aN r (cB r r r (fun e=>fU e))<|mB r<|og r r r (fun u=>(bE aBV r))<|og r r r (fun u=>(dN (us:=dE) aAm (gx r u) r r r))<|bx h17 fun x18 y18 h19=>uP r r (fun u=>bC (v:=aB) r (aBN (cZ y18 u)) ⟨(fH (gx r u) (bQ r zX)),trivial⟩ (gO (by repeat (first | exact fC | refine aZ r ?_ | refine aZ (rG r) ?_ | refine aZ rF ?_))) r r) ?_
   refine aN r (cB r r r (fun e=>fU e))<|sB r<|aG (fr':=[(2,aB)]) r r<|bJ<|bM<|aQ ?_
   obtain rfl:=sy h19
   exact bI (rs':=[.tmp 2]) r<|bX (v:=aB) r<|bG<|aP [] r r r lr aC
  ·
   obtain ⟨x21,y21,h22⟩:=lB h17
   refine jR (fun j23=>x21=j23) (fun (j23:Bool)=>([(1,aD),(3,.c (.bool x11)),(4,.c (.bool x13)),(5,.c (.bool x15)),(35,ci p0C.Kind),(47,.c (.bool j23))]:Fr)) (fun (j23:Bool)=>([[ci p0C.Kind,ci p0C.Seq,.c (.str p0C.Name),.c (.str p0C.Key),ci p0C.N,ci p0C.Data.Kind,ci p0C.Data.Int,.c (.str p0C.Data.Text),.c (PV.ls 5 bO p0C.Data.Items),.c (PV.ls 1 fZ p0C.Data.Keys),.c (.str p0C.Opts.Queue),ci p0C.Opts.ToStart,ci p0C.Opts.ToClose,ci p0C.Opts.Total,ci p0C.Opts.Beat,ci p0C.Opts.First,ci p0C.Opts.Coef,ci p0C.Opts.Most,ci p0C.Opts.Attempts,.c (PV.ls 1 fZ p0C.Opts.Fatal)]]:St)) ?_ ?_
   ·
    refine aH<|aN r (cC r r)<|sB r<|aG (fr':=[(1,aD),(3,aB),(4,aB),(5,aB),(35,aI),(47,aB)]) r r<|cN y21 r (fun b24 h24=>?_) (fun b24 h24=>?_)
    ·
     exact bL<|kI _ (sy h24) (bH [] 1 r r r r kL6 (cV r aC))
    ·
     exact bA<|aN r (cC r r)<|sB r<|dT (fr':=[(1,aD),(3,aB),(4,aB),(5,aB),(35,aI),(47,aB)]) r<|kI _ (sy h24) (bH [] 1 r r r r kL6 (cV r aC))
   ·
    intro j23 hj25
    subst hj25
    refine cN h22 r (fun b26 h26=>?_) (fun b26 h26=>?_)
    ·
     refine aH<|mB r<|sB r<|aG (fr':=[(2,aB)]) r r<|bJ<|bM<|aQ ?_
     obtain rfl:=sy h26
     exact bI (rs':=[.tmp 2]) r<|bX (v:=aB) r<|bG<|aP [] r r r lr aC
    ·
     refine aH<|aN r (cC r r)<|sB r<|aG (fr':=[(1,aD),(3,aB),(4,aB),(5,aB),(35,aI),(51,aB)]) r r<|cN h26 r (fun b28 h28=>?_) (fun b28 h28=>?_)
     ·
      refine aH<|mB r<|mB r<|og r r r (fun u=>(bE uI r))<|og r r r (fun u=>(aJ (v:=aI) gA (gx r u) r r))<|bx h28 fun x29 y29 h30=>uP r r (fun u=>bC (v:=aB) r (vX (cZ y29 u)) ⟨(fH (gx r u) lr),lr,lr,trivial⟩ (gO (by repeat (first | exact fC | refine aZ r ?_ | refine aZ (rG r) ?_ | refine aZ rF ?_))) r r) ?_
      refine aN r (cB r r r (fun e=>fU e))<|sB r<|aG (fr':=[(2,aB)]) r r<|bJ<|bM<|aQ ?_
      obtain rfl:=sy h30
      exact bI (rs':=[.tmp 2]) r<|bX (v:=aB) r<|bG<|aP [] r r r lr aC
     ·
      refine aH<|aN r (cC r r)<|sB r<|aG (fr':=[(1,aD),(3,aB),(4,aB),(5,aB),(35,aI),(59,aB)]) r r<|cN h28 r (fun b32 h32=>?_) (fun b32 h32=>?_)
      ·
       refine aH<|mB r<|mB r<|og r r r (fun u=>(bS (v:=aB) r))<|aN r (cB r r r (fun e=>fU e))<|mB r<|og r r r (fun u=>(bS (v:=aB) r))<|aN r (cB r r r (fun e=>fU e))<|mB r<|og r r r (fun u=>(bE uI r))<|og r r r (fun u=>(aJ (v:=aI) gA (gx r u) r r))<|bx h32 fun x33 y33 h34=>uP r r (fun u=>bC (v:=aB) r (vX (cZ y33 u)) ⟨(fH (gx r u) lr),lr,lr,trivial⟩ (gO (by repeat (first | exact fC | refine aZ r ?_ | refine aZ (rG r) ?_ | refine aZ rF ?_))) r r) ?_
       refine aN r (cB r r r (fun e=>fU e))<|sB r<|aG (fr':=[(2,aB)]) r r<|bJ<|bM<|aQ ?_
       obtain rfl:=sy h34
       exact bI (rs':=[.tmp 2]) r<|bX (v:=aB) r<|bG<|aP [] r r r lr aC
      ·
       refine aH<|aN r (cC r r)<|sB r<|aG (fr':=[(1,aD),(3,aB),(4,aB),(5,aB),(35,aI),(73,aB)]) r r<|cN h32 r (fun b36 h36=>?_) (fun b36 h36=>?_)
       ·
        refine aH<|mB r<|mB r<|og r r r (fun u=>(bS (v:=aB) r))<|aN r (cB r r r (fun e=>fU e))<|mB r<|og r r r (fun u=>(bS (v:=aB) r))<|aN r (cB r r r (fun e=>fU e))<|sB r<|aG (fr':=[(2,aB)]) r r<|bJ<|bM<|aQ ?_
        obtain rfl:=sy h36
        exact bI (rs':=[.tmp 2]) r<|bX (v:=aB) r<|bG<|aP [] r r r lr aC
       ·
        refine aH<|aN r (cC r r)<|sB r<|aG (fr':=[(1,aD),(4,aB),(5,aB),(35,aI),(82,aB)]) r r<|cN h36 r (fun b38 h38=>?_) (fun b38 h38=>?_)
        ·
         refine aH<|mB r<|mB r<|og r r r (fun u=>(bE uI r))<|og r r r (fun u=>(aJ (v:=aI) gA (gx r u) r r))<|og r r r (fun u=>(cC (gx r u) r))<|og r r r (fun u=>(bS (v:=aB) (gx r u)))<|fI r r (fun u=>fT r (bE uI r))<|fI r r (fun u=>fT r (aJ (v:=aI) gA (gx r u) r r))<|bx h38 fun x39 y39 h40=>fI r r (fun u=>bC (v:=aB) r (vX (cZ y39 u)) ⟨(fH (gx r u) lr),lr,lr,trivial⟩ (gO (by repeat (first | exact fC | refine aZ r ?_ | refine aZ (rG r) ?_ | refine aZ rF ?_))) r r) ?_
         refine fI r r (fun u=>fT r (bS (v:=aB) (gx r u)))<|fI r r (fun u=>fT r (bE xC r))<|fI r r (fun u=>fT r (bE lU (gx r u)))<|fI r r (fun u=>fT r (aJ (v:=aI) gA (gx r u) r r))<|fI r r (fun u=>fT r (cC (gx r u) r))<|fI r r (fun u=>fT r (cB (gx r u) r r (fun e=>qC u (fU e))))<|og r r r (fun u=>(cM (gx r u) r r (fun e=>qC u (fU e))))<|aN r (cB r r r (fun e=>fU e))<|sB r<|aG (fr':=[(2,aB)]) r r<|bJ<|bM<|aQ ?_
         obtain rfl:=sy h40
         exact bI (rs':=[.tmp 2]) r<|bX (v:=aB) r<|bG<|aP [] r r r lr aC
        ·
         refine aH<|aN r (cC r r)<|sB r<|aG (fr':=[(1,aD),(4,aB),(5,aB),(35,aI),(101,aB)]) r r<|cN h38 r (fun b42 h42=>?_) (fun b42 h42=>?_)
         ·
          refine aH<|mB r<|mB r<|og r r r (fun u=>(bS (v:=aB) r))<|aN r (cB r r r (fun e=>fU e))<|sB r<|aG (fr':=[(2,aB)]) r r<|bJ<|bM<|aQ ?_
          obtain rfl:=sy h42
          exact bI (rs':=[.tmp 2]) r<|bX (v:=aB) r<|bG<|aP [] r r r lr aC
         ·
          refine aH<|aN r (cC r r)<|sB r<|aG (fr':=[(1,aD),(5,aB),(35,aI),(107,aB)]) r r<|cN h42 r (fun b44 h44=>?_) (fun b44 h44=>?_)
          ·
           refine aH<|mB r<|mB r<|og r r r (fun u=>(bE uI r))<|og r r r (fun u=>(aJ (v:=aI) gA (gx r u) r r))<|bx h44 fun x45 y45 h46=>uP r r (fun u=>bC (v:=aB) r (vX (cZ y45 u)) ⟨(fH (gx r u) lr),lr,lr,trivial⟩ (gO (by repeat (first | exact fC | refine aZ r ?_ | refine aZ (rG r) ?_ | refine aZ rF ?_))) r r) ?_
           refine aN r (cB r r r (fun e=>fU e))<|sB r<|aG (fr':=[(2,aB)]) r r<|bJ<|bM<|aQ ?_
           obtain rfl:=sy h46
           exact bI (rs':=[.tmp 2]) r<|bX (v:=aB) r<|bG<|aP [] r r r lr aC
          ·
           refine aH<|aN r (cC r r)<|sB r<|aG (fr':=[(1,aD),(35,aI),(115,aB)]) r r<|cN h44 r (fun b48 h48=>?_) (fun b48 h48=>?_)
           ·
            refine aH<|aN r (bE xC r)<|aN r (bE lU r)<|aN r (aJ (v:=aI) gA r r r)<|aN r (cC r r)<|sB r<|aG (fr':=[(2,aB)]) r r<|bJ<|bM<|aQ ?_
            obtain rfl:=sy h48
            exact bI (rs':=[.tmp 2]) r<|bX (v:=aB) r<|bG<|aP [] r r r lr aC
           ·
            refine aH<|aN r (cC r r)<|sB r<|aG (fr':=[(1,aD),(35,aI),(121,aB)]) r r<|cN h48 r (fun b50 h50=>?_) (fun b50 h50=>?_)
            ·
             refine aH<|aN r (bE aBd r)<|aN r (aJ (v:=aS) mG r r r)<|aN r (kV uD r)<|aN r (qH r r)<|sB r<|aG (fr':=[(2,aB)]) r r<|bJ<|bM<|aQ ?_
             obtain rfl:=sy h50
             exact bI (rs':=[.tmp 2]) r<|bX (v:=aB) r<|bG<|aP [] r r r lr aC
            ·
             refine aH<|aN r (cC r r)<|sB r<|aG (fr':=[(1,aD),(127,aB)]) r r<|cN h50 r (fun b52 h52=>?_) (fun b52 h52=>?_)
             ·
              refine aH<|aN r (bE xC r)<|aN r (dN (us:=cH) jC r r r r)<|bx h52 fun x53 y53 h54=>kB (bC (v:=aB) r (aK4 y53) ⟨(bQ r zA),trivial⟩ r r r)<|sB r<|aG (fr':=[(2,aB)]) r r<|bJ<|bM<|aQ ?_
              obtain rfl:=sy h54
              exact bI (rs':=[.tmp 2]) r<|bX (v:=aB) r<|bG<|aP [] r r r lr aC
             ·
              refine bL<|dH<|cY<|aH<|sB r<|aG (fr':=[(2,aB)]) r r<|bJ ?_
              obtain rfl:=sy h52
              exact bI (rs':=[.tmp 2]) r<|bX (v:=aB) r<|bG<|aP [] r r r lr aC
