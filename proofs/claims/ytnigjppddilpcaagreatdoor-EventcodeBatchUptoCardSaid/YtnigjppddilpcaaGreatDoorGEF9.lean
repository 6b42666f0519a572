import Derived.Test.YtnigjppddilpcaaGreatDoorGETy
import Derived.Test.YtnigjppddilpcaaGreatDoorGEF6
import Derived.Test.YtnigjppddilpcaaGreatDoorGEF7
import Derived.Test.YtnigjppddilpcaaGreatDoorGEF8
namespace Go.Proofs.YtnigjppddilpcaaGreatDoor
open Go Abs
set_option maxRecDepth 100000
set_option linter.unusedVariables false
set_option linter.unusedSimpArgs false
noncomputable def xB (p0e:bI):Option Bool :=
 (xC p0e.Kind).bind fun x1=>(gd (x1.seq_==true) (nG p0e.Seq (1:Int) (2000:Int))).bind fun x3=>(gd (((cond (cond x1.seq_ (!x3) false) true (cond (!x1.seq_) (!decide (p0e.Seq=(0:Int))) false))==false)&&(x1.ref_==true)) (nG p0e.Ref (1:Int) (2000:Int))).bind fun x5=>cond (cond (cond (cond (cond x1.seq_ (!x3) false) true (cond (!x1.seq_) (!decide (p0e.Seq=(0:Int))) false)) true (cond x1.ref_ (!x5) false)) true (cond (!x1.ref_) (!decide (p0e.Ref=(0:Int))) false)) (some false) (cond (cond (cond (cond (cond (!x1.n_) (!decide (p0e.N=(0:Int))) false) true (cond (!x1.code_) (!decide (p0e.Code=(0:Int))) false)) true (cond (!x1.name_) (!decide (p0e.Name=([]:List UInt8))) false)) true (cond (!x1.key_) (!decide (p0e.Key=([]:List UInt8))) false)) (some false) ((pV p0e.Data).bind fun x11=>cond (cond (!x11) true (cond (!x1.data_) (!decide (p0e.Data.Kind=(0:Int))) false)) (some false) ((gd (x1.opts_==false) (jL p0e.Opts (bG.mk ([]:List UInt8) (0:Int) (0:Int) (0:Int) (0:Int) (0:Int) (0:Int) (0:Int) (0:Int) ([]:(List (List UInt8)))))).bind fun x15=>some (cond x1.opts_ true x15))))
theorem aIg {p0e:bI}{res:Bool} (h:xB p0e=some res):bS Tryz.prog 82 [.agg (AV.cs (cD p0e))] [] (.c (.bool res)) []:=by
 unfold xB at h
 refine cJ (fn:=Tryz.f82) [0,1,2,3,44,82,97] (by kernel_rfl) Tryz.func82 r (by kernel_rfl) (by kernel_rfl)<|aH<|fS (v:=.agg aD) (n:=0) (cs:=aD) (σ':=[aD]) r r r r r<|sB r<|aF (fr':=[(1,.box 0 0)]) r r<|aH<|aM r (bD tU r)<|aM r (aK (v:=aI) eP r r r) ?_
 obtain ⟨x1,hx1,h2⟩:=aE h
 refine gV (aX (v:=.agg aR) r (aIh hx1) ⟨lr,trivial⟩ r r r)<|gC (n:=1) (cs:=aR) (σ':=[aD,aR]) aNN r r r<|bU (v:=.agg aR) (us:=aR) (cs:=aR) (σ':=[aD,aR]) r hD r r r r r r r r<|aF (fr':=[(1,.box 0 0),(3,.box 1 0)]) r r<|aP<|aH<|aM r (bD aLk r)<|aM r (aK (v:=aB) tv4 r r r)<|mB r<|og r r r (fun hc=>(bD xE r))<|og r r r (fun hc=>(aK (v:=aI) eP (gx r hc) r r)) ?_
 obtain ⟨x3,hx3,h4⟩:=aE h2
 refine sM r r (fun hc=>aX (v:=aB) r (nY (cA hx3 hc)) ⟨(eH (gx r hc) lr),lr,lr,trivial⟩ (fA (by repeat (first | exact dX | refine aY r ?_ | refine aY (oS r) ?_ | refine aY oR ?_))) r r) ?_
 refine og r r r (fun hc=>(eI (gx r hc)))<|aM r (bO r r r (fun e=>eO e))<|mB r<|og r r r (fun hc=>(bD aLk r))<|og r r r (fun hc=>(aK (v:=aB) tv4 (gx r hc) r r))<|og r r r (fun hc=>(eI (gx r hc)))<|og r r r (fun hc=>(bE (v:=aB) (gx r hc)))<|eL r r (fun hc=>eS r (bD xE r))<|eL r r (fun hc=>eS r (aK (v:=aI) eP (gx r hc) r r))<|eL r r (fun hc=>eS r (fI (gx r hc) r))<|og r r r (fun hc=>(bO (gx r hc) r r (fun e=>oC hc (eO e))))<|aM r (bY r r r (fun e=>eO e))<|mB r ?_
 refine og r r r (fun hc=>(bD aLl r))<|og r r r (fun hc=>(aK (v:=aB) tv4 (gx r hc) r r))<|og r r r (fun hc=>(bE (v:=aB) (gx r hc)))<|eL r r (fun hc=>eS r (bD xF r))<|eL r r (fun hc=>eS r (aK (v:=aI) eP (gx r hc) r r)) ?_
 obtain ⟨x5,hx5,h6⟩:=aE h4
 refine eL r r (fun hc=>aX (v:=aB) r (nY (cA hx5 hc)) ⟨(eH (gx r hc) lr),lr,lr,trivial⟩ (fA (by repeat (first | exact dX | refine aY r ?_ | refine aY (oS r) ?_ | refine aY oR ?_))) r r) ?_
 refine eL r r (fun hc=>eS r (eI (gx r hc)))<|og r r r (fun hc=>(bO (gx r hc) r r (fun e=>oC hc (eO e))))<|aM r (bY r r r (fun e=>eO e))<|mB r<|og r r r (fun hc=>(bD aLl r))<|og r r r (fun hc=>(aK (v:=aB) tv4 (gx r hc) r r))<|og r r r (fun hc=>(eI (gx r hc)))<|og r r r (fun hc=>(bE (v:=aB) (gx r hc)))<|eL r r (fun hc=>eS r (bD xF r))<|eL r r (fun hc=>eS r (aK (v:=aI) eP (gx r hc) r r))<|eL r r (fun hc=>eS r (fI (gx r hc) r))<|og r r r (fun hc=>(bO (gx r hc) r r (fun e=>oC hc (eO e))))<|aM r (bY r r r (fun e=>eO e)) ?_
 refine aF (fr':=[(1,.box 0 0),(3,.box 1 0),(44,aB)]) r r<|bP h6 r (fun hb7 h7=>?_) (fun hb7 h7=>?_)
 ·
  refine aH<|sB r<|aF (fr':=[(2,aB)]) r r<|bC<|aJ ?_
  obtain rfl:=sy h7
  exact bB (rs':=[.tmp 2]) r<|bH (v:=aB) r<|aZ<|aN [] r r r lr aA
 ·
  refine aW<|bV<|aP<|aH<|aM r (bD aPd r)<|aM r (aK (v:=aB) tv4 r r r)<|aM r (eI r)<|mB r<|og r r r (fun hc=>(bD sC r))<|og r r r (fun hc=>(aK (v:=aI) eP (gx r hc) r r))<|og r r r (fun hc=>(fI (gx r hc) r))<|aM r (bO r r r (fun e=>eO e)) ?_
  refine mB r<|og r r r (fun hc=>(bD aPe r))<|og r r r (fun hc=>(aK (v:=aB) tv4 (gx r hc) r r))<|og r r r (fun hc=>(eI (gx r hc)))<|og r r r (fun hc=>(bE (v:=aB) (gx r hc)))<|eL r r (fun hc=>eS r (bD vU r))<|eL r r (fun hc=>eS r (aK (v:=aI) eP (gx r hc) r r))<|eL r r (fun hc=>eS r (fI (gx r hc) r))<|og r r r (fun hc=>(bO (gx r hc) r r (fun e=>oC hc (eO e))))<|aM r (bY r r r (fun e=>eO e))<|mB r<|og r r r (fun hc=>(bD aPf r))<|og r r r (fun hc=>(aK (v:=aB) tv4 (gx r hc) r r)) ?_
  refine og r r r (fun hc=>(eI (gx r hc)))<|og r r r (fun hc=>(bE (v:=aB) (gx r hc)))<|eL r r (fun hc=>eS r (bD oW r))<|eL r r (fun hc=>eS r (aK (v:=aS) kD (gx r hc) r r))<|eL r r (fun hc=>eS r (yC (gx r hc) r))<|og r r r (fun hc=>(bO (gx r hc) r r (fun e=>oC hc (eO e))))<|aM r (bY r r r (fun e=>eO e))<|mB r<|og r r r (fun hc=>(bD aPg r))<|og r r r (fun hc=>(aK (v:=aB) tv4 (gx r hc) r r))<|og r r r (fun hc=>(eI (gx r hc)))<|og r r r (fun hc=>(bE (v:=aB) (gx r hc)))<|eL r r (fun hc=>eS r (bD oX r)) ?_
  refine eL r r (fun hc=>eS r (aK (v:=aS) kD (gx r hc) r r))<|eL r r (fun hc=>eS r (yC (gx r hc) r))<|og r r r (fun hc=>(bO (gx r hc) r r (fun e=>oC hc (eO e))))<|aM r (bY r r r (fun e=>eO e))<|aF (fr':=[(1,.box 0 0),(3,.box 1 0),(82,aB)]) r r<|bP h7 r (fun hb9 h9=>?_) (fun hb9 h9=>?_)
  ·
   refine aH<|sB r<|aF (fr':=[(2,aB)]) r r<|bC<|aJ ?_
   obtain rfl:=sy h9
   exact bB (rs':=[.tmp 2]) r<|bH (v:=aB) r<|aZ<|aN [] r r r lr aA
  ·
   refine aW<|bV<|aP<|aH<|aM r (bD tV r)<|aM r (cN (us:=bL) fM r r r r) ?_
   obtain ⟨x11,hx11,h12⟩:=aE h9
   refine gV (aX (v:=aB) r (yG hx11) ⟨(bK r ⟨r,r,r,r,r,trivial⟩),trivial⟩ r r r)<|aM r (eI r)<|mB r<|og r r r (fun hc=>(bD aPh r))<|og r r r (fun hc=>(aK (v:=aB) tv4 (gx r hc) r r))<|og r r r (fun hc=>(eI (gx r hc)))<|og r r r (fun hc=>(bE (v:=aB) (gx r hc)))<|eL r r (fun hc=>eS r (bD tV r))<|eL r r (fun hc=>eS r (bD gW (gx r hc)))<|eL r r (fun hc=>eS r (aK (v:=aI) eP (gx r hc) r r))<|eL r r (fun hc=>eS r (fI (gx r hc) r))<|og r r r (fun hc=>(bO (gx r hc) r r (fun e=>oC hc (eO e))))<|aM r (bY r r r (fun e=>eO e)) ?_
   refine aF (fr':=[(1,.box 0 0),(3,.box 1 0),(97,aB)]) r r<|bP h12 r (fun hb13 h13=>?_) (fun hb13 h13=>?_)
   ·
    refine aH<|sB r<|aF (fr':=[(2,aB)]) r r<|bC<|aJ ?_
    obtain rfl:=sy h13
    exact bB (rs':=[.tmp 2]) r<|bH (v:=aB) r<|aZ<|aN [] r r r lr aA
   ·
    refine aW<|bV<|aH<|aM r (bD aPi r)<|aM r (aK (v:=aB) tv4 r r r)<|mB r<|og r r r (fun hc=>(bD rW r))<|og r r r (fun hc=>(cN (us:=bZ) wH (gx r hc) r r r))<|og r r r (fun hc=>(pU (c0:=bN) (cs:=bN) aNG r pR)) ?_
    obtain ⟨x15,hx15,h16⟩:=aE h13
    refine sM r r (fun hc=>aX (v:=aB) r (sG (cA hx15 hc)) ⟨(eH (gx r hc) (bK r ⟨r,r,r,r,r,r,r,r,r,r,trivial⟩)),(eH (gx r hc) (bK r ⟨r,r,r,r,r,r,r,r,r,⟨_,r⟩,trivial⟩)),trivial⟩ (fA (by repeat (first | exact dX | refine aY r ?_ | refine aY (oS r) ?_ | refine aY oR ?_))) r r) ?_
    refine aM r (bY r r r (fun e=>eO e))<|sB r<|aF (fr':=[(2,aB)]) r r<|bC ?_
    obtain rfl:=sy h16
    exact bB (rs':=[.tmp 2]) r<|bH (v:=aB) r<|aZ<|aN [] r r r lr aA
noncomputable def tP  : Option (List Int) :=
 some ([(7:Int),(12:Int),(14:Int),(16:Int),(19:Int),(23:Int),(18:Int),(27:Int),(28:Int),(29:Int),(30:Int),(31:Int),(32:Int),(35:Int)]:List Int)
theorem aDE  {res:(List Int)} (h:tP=some res):bS Tryz.prog 189 [] [] (AV.os 0 1 (aDx .i64) res) []:=by
 unfold tP at h
 refine cJ (fn:=Tryz.f189) [0] (by kernel_rfl) Tryz.func189 r (by kernel_rfl) (by kernel_rfl)<|aH<|sV (v:=AV.nil) r<|aF (fr':=[]) r r<|aH<|kT (row:=(aDx .i64)) (xs:=([(7:Int),(12:Int),(14:Int),(16:Int),(19:Int),(23:Int),(18:Int),(27:Int),(28:Int),(29:Int),(30:Int),(31:Int),(32:Int),(35:Int)]:List Int)) (rows:=[[_],[_],[_],[_],[_],[_],[_],[_],[_],[_],[_],[_],[_],[_]]) (σ':=[]) [0] aEf r r r (cM r (cM r (cM r (cM r (cM r (cM r (cM r (cM r (cM r (cM r (cM r (cM r (cM r (cM r gY)))))))))))))) r r<|sV (v:=aO) r<|aF (fr':=[(0,aO)]) r r<|bC ?_
 obtain rfl:=sy h
 exact bB (rs':=[.tmp 0]) r<|bH (v:=aO) r<|aZ<|aN [16] r r r lr aA
noncomputable def qR (x1:(List Int)) (cF:Int) (s6:Int):Option (cI Int (Fl Int Unit)) :=
 cond (decide (s6<((x1).length:Int))) ((hG x1 s6).bind fun x8=>cond (decide (x8=cF)) (some (cI.out (Fl.done (IntKind.wrap .i64 (s6+(1:Int)))))) (some (cI.next (IntKind.wrap .i64 (s6+(1:Int)))))) (some (cI.out (Fl.go ())))
noncomputable def oO (cF:Int):Option Int :=
 (tP).bind fun x1=>((dR (qR x1 cF) ((0:Int))):Option (Fl Int Unit)).bind fun x3=>Fl.next x3 (fun j5=>(some (0:Int)))
theorem aAn {cF:Int}{res:Int} (h:oO cF=some res):bS Tryz.prog 154 [ci cF] [] (ci res) []:=by
 unfold oO at h
 refine cJ (fn:=Tryz.f154) [0,2,3,4,9,17] (by kernel_rfl) Tryz.func154 r (by kernel_rfl) (by kernel_rfl)<|aH<|sI r<|aF (fr':=[(0,aI)]) r r<|aP<|aQ ?_
 obtain ⟨x1,hx1,h2⟩:=aE h
 refine gV (aX (v:=aO) r (aDE hx1) trivial r r r)<|sV (v:=aO) r<|aF (fr':=[(0,aI),(3,aO)]) r r<|aP<|aH<|sI r<|aF (fr':=[(0,aI),(3,aO),(4,aI)]) r r ?_
 obtain ⟨x3,hx3,h4⟩:=aE h2
 refine eB gF (fun j5=>x3=Fl.go j5) (fun (j5:Unit)=>([]:Fr)) (fun (j5:Unit)=>([]:St)) ?_ ?_
 ·
  refine bJ<|dV _ (fun (s6:Int)=>([(0,ci cF),(3,AV.os 0 1 (aDx .i64) x1),(4,ci s6)]:Fr)) (fun (s6:Int)=>([]:St)) hx3 (aU [80] 0 r r r r ⟨lr,lr,lr,trivial⟩ aA) ?_
  intro s6 st6 hs6 ho6
  unfold qR at hs6
  refine aP<|aH<|mI r<|mV (v:=aO) r<|aM r (dI aMm (lG r))<|aM r (dJ r r)<|aF (fr':=[(0,aI),(3,aO),(4,aI),(9,aB)]) r r<|bP hs6 r (fun hb7 h7=>?_) (fun hb7 h7=>?_)
  ·
   refine aW<|bV<|aP<|bJ<|aH<|mV (v:=aO) r<|mI r ?_
   obtain ⟨x8,hx8,h9⟩:=aE h7
   refine aM r (gR (cs:=[PV.int _ _]) aEf (lG r) r hx8 r)<|aM r (eG (p:=PV.int _ _) eP r r)<|mI r<|aM r (bM r r)<|aF (fr':=[(0,aI),(3,aO),(4,aI),(17,aB)]) r r<|bP h9 r (fun hb10 h10=>?_) (fun hb10 h10=>?_)
   ·
    refine aH<|mI r<|aM r (dB r r)<|sI r<|aF (fr':=[(2,aI)]) r r<|bC<|bA<|aJ<|aJ<|bA<|aJ<|aJ ?_
    have h11:=cS h10 ho6
    have h12:=dQ h11 h4
    obtain rfl:=sy h12
    exact bB (rs':=[.tmp 2]) r<|bH (v:=aI) r<|aZ<|aN [] r r r lr aA
   ·
    exact aW<|bX<|bV<|aQ<|mI r<|aM r (dB r r)<|sI r<|cB (fr':=[(0,aI),(3,aO),(4,aI),(17,aB)]) r<|rX _ (sy h10) (aU [0] 0 r r r r ⟨lr,lr,lr,trivial⟩ aA)
  ·
   refine eK<|bR<|bR<|dC ?_
   have h14:=cS h7 ho6
   exact gD _ (sy h14) (aU [] 0 r r r r trivial aA)
 ·
  intro j5 hj15
  have h15:=iC hj15 h4
  refine bV<|aH<|sI r<|aF (fr':=[(2,aI)]) r r<|bC ?_
  obtain rfl:=sy h15
  exact bB (rs':=[.tmp 2]) r<|bH (v:=aI) r<|aZ<|aN [] r r r lr aA
noncomputable def oI (cF:Int):Option Bool :=
 (oO cF).bind fun x1=>some (decide ((0:Int)<x1))
theorem aC2 {cF:Int}{res:Bool} (h:oI cF=some res):bS Tryz.prog 83 [ci cF] [] (.c (.bool res)) []:=by
 unfold oI at h
 refine cJ (fn:=Tryz.f83) [0,2] (by kernel_rfl) Tryz.func83 r (by kernel_rfl) (by kernel_rfl)<|aH<|sB r<|aF (fr':=[(0,aI)]) r r<|aH<|mI r ?_
 obtain ⟨x1,hx1,h2⟩:=aE h
 refine gV (aX (v:=aI) r (aAn hx1) ⟨lr,trivial⟩ r r r)<|aM r (kA r r)<|sB r<|aF (fr':=[(2,aB)]) r r<|bC ?_
 obtain rfl:=sy h2
 exact bB (rs':=[.tmp 2]) r<|bH (v:=aB) r<|aZ<|aN [] r r r lr aA
noncomputable def tO (p0s:(List UInt8)) (s6:Int):Option (cI Int (Fl Bool Unit)) :=
 cond (decide (s6<((p0s).length:Int))) ((hG p0s s6).bind fun x8=>(gd ((decide (((x8).toNat:Int)<(33:Int)))==false) (hG p0s s6)).bind fun x10=>(gd ((cond (decide (((x8).toNat:Int)<(33:Int))) true (decide ((126:Int)<((x10).toNat:Int))))==false) (hG p0s s6)).bind fun x12=>(gd ((cond (cond (decide (((x8).toNat:Int)<(33:Int))) true (decide ((126:Int)<((x10).toNat:Int)))) true (decide (((x12).toNat:Int)=(47:Int))))==false) (hG p0s s6)).bind fun x14=>cond (cond (cond (cond (decide (((x8).toNat:Int)<(33:Int))) true (decide ((126:Int)<((x10).toNat:Int)))) true (decide (((x12).toNat:Int)=(47:Int)))) true (decide (((x14).toNat:Int)=(34:Int)))) (some (cI.out (Fl.done false))) (some (cI.next (IntKind.wrap .i64 (s6+(1:Int)))))) (some (cI.out (Fl.go ())))
noncomputable def vK (p0s:(List UInt8)):Option Bool :=
 cond (cond (decide (((p0s).length:Int)<(1:Int))) true (decide ((64:Int)<((p0s).length:Int)))) (some false) (((dR (tO p0s) ((0:Int))):Option (Fl Bool Unit)).bind fun x3=>Fl.next x3 (fun j5=>(some true)))
theorem aGI {p0s:(List UInt8)}{res:Bool} (h:vK p0s=some res):bS Tryz.prog 113 [.c (.str p0s)] [] (.c (.bool res)) []:=by
 unfold vK at h
 refine cJ (fn:=Tryz.f113) [0,2,3,11,15,39] (by kernel_rfl) Tryz.func113 r (by kernel_rfl) (by kernel_rfl)<|aH<|sB r<|aF (fr':=[(0,aS)]) r r<|aP<|aH<|mS r<|aM r (gL pJ r)<|aM r (dJ r r)<|mB r<|og r r r (fun hc=>(bE (v:=aS) r)) ?_
 refine og r r r (fun hc=>(gL pJ (gx r hc)))<|og r r r (fun hc=>(kA (gx r hc) r))<|aM r (bY r r r (fun e=>eO e))<|aF (fr':=[(0,aS),(11,aB)]) r r<|bP h r (fun hb1 h1=>?_) (fun hb1 h1=>?_)
 ·
  refine aH<|sB r<|aF (fr':=[(2,aB)]) r r<|bC<|aJ ?_
  obtain rfl:=sy h1
  exact bB (rs':=[.tmp 2]) r<|bH (v:=aB) r<|aZ<|aN [] r r r lr aA
 ·
  refine aW<|bV<|aP<|aH<|sI r<|aF (fr':=[(0,aS),(3,aI)]) r r ?_
  obtain ⟨x3,hx3,h4⟩:=aE h1
  refine eB gF (fun j5=>x3=Fl.go j5) (fun (j5:Unit)=>([]:Fr)) (fun (j5:Unit)=>([]:St)) ?_ ?_
  ·
   refine bJ<|dV _ (fun (s6:Int)=>([(0,.c (.str p0s)),(3,ci s6)]:Fr)) (fun (s6:Int)=>([]:St)) hx3 (aU [] 0 r r r r ⟨lr,lr,trivial⟩ aA) ?_
   intro s6 st6 hs6 ho6
   unfold tO at hs6
   refine aP<|aH<|mI r<|mS r<|aM r (gL pJ r)<|aM r (dJ r r)<|aF (fr':=[(0,aS),(3,aI),(15,aB)]) r r<|bP hs6 r (fun hb7 h7=>?_) (fun hb7 h7=>?_)
   ·
    refine aW<|bV<|aP<|bJ<|aH<|mS r<|mI r ?_
    obtain ⟨x8,hx8,h9⟩:=aE h7
    refine aM r (wE pJ r r hx8)<|aM r (dJ r r)<|mB r<|og r r r (fun hc=>(bE (v:=aS) r))<|og r r r (fun hc=>(bE (v:=aI) r)) ?_
    obtain ⟨x10,hx10,h11⟩:=aE h9
    refine og r r r (fun hc=>(wE pJ (gx r hc) (gx r hc) (cA hx10 hc)))<|og r r r (fun hc=>(kA (gx r hc) r))<|aM r (bY r r r (fun e=>eO e))<|mB r<|og r r r (fun hc=>(bE (v:=aS) r))<|og r r r (fun hc=>(bE (v:=aI) r)) ?_
    obtain ⟨x12,hx12,h13⟩:=aE h11
    refine og r r r (fun hc=>(wE pJ (gx r hc) (gx r hc) (cA hx12 hc)))<|og r r r (fun hc=>(bM (gx r hc) r))<|aM r (bY r r r (fun e=>eO e))<|mB r<|og r r r (fun hc=>(bE (v:=aS) r))<|og r r r (fun hc=>(bE (v:=aI) r)) ?_
    obtain ⟨x14,hx14,h15⟩:=aE h13
    refine og r r r (fun hc=>(wE pJ (gx r hc) (gx r hc) (cA hx14 hc)))<|og r r r (fun hc=>(bM (gx r hc) r))<|aM r (bY r r r (fun e=>eO e))<|aF (fr':=[(0,aS),(3,aI),(39,aB)]) r r<|bP h15 r (fun hb16 h16=>?_) (fun hb16 h16=>?_)
    ·
     refine aH<|sB r<|aF (fr':=[(2,aB)]) r r<|bC<|bA<|aJ<|aJ<|bA<|aJ<|aJ ?_
     have h17:=cS h16 ho6
     have h18:=dQ h17 h4
     obtain rfl:=sy h18
     exact bB (rs':=[.tmp 2]) r<|bH (v:=aB) r<|aZ<|aN [] r r r lr aA
    ·
     exact aW<|bX<|bV<|aQ<|mI r<|aM r (dB r r)<|sI r<|cB (fr':=[(0,aS),(3,aI),(39,aB)]) r<|rX _ (sy h16) (aU [] 0 r r r r ⟨lr,lr,trivial⟩ aA)
   ·
    refine eK<|bR<|bR<|dC ?_
    have h20:=cS h7 ho6
    exact gD _ (sy h20) (aU [] 0 r r r r trivial aA)
  ·
   intro j5 hj21
   have h21:=iC hj21 h4
   refine bV<|aH<|sB r<|aF (fr':=[(2,aB)]) r r<|bC ?_
   obtain rfl:=sy h21
   exact bB (rs':=[.tmp 2]) r<|bH (v:=aB) r<|aZ<|aN [] r r r lr aA
noncomputable def uK (p0a:cW) (p1b:cW):Option Bool :=
 (gd ((cond (cond (cond (cond (decide (p0a.Kind=p1b.Kind)) (decide (p0a.Seq=p1b.Seq)) false) (decide (p0a.Name=p1b.Name)) false) (decide (p0a.Key=p1b.Key)) false) (decide (p0a.N=p1b.N)) false)==true) (zS p0a.Data p1b.Data)).bind fun x1=>(gd ((cond (cond (cond (cond (cond (decide (p0a.Kind=p1b.Kind)) (decide (p0a.Seq=p1b.Seq)) false) (decide (p0a.Name=p1b.Name)) false) (decide (p0a.Key=p1b.Key)) false) (decide (p0a.N=p1b.N)) false) x1 false)==true) (jL p0a.Opts p1b.Opts)).bind fun x3=>some (cond (cond (cond (cond (cond (cond (decide (p0a.Kind=p1b.Kind)) (decide (p0a.Seq=p1b.Seq)) false) (decide (p0a.Name=p1b.Name)) false) (decide (p0a.Key=p1b.Key)) false) (decide (p0a.N=p1b.N)) false) x1 false) x3 false)
theorem aIe {p0a:cW}{p1b:cW}{res:Bool} (h:uK p0a p1b=some res):bS Tryz.prog 155 [.agg (AV.cs (jO p0a)),.agg (AV.cs (jO p1b))] [] (.c (.bool res)) []:=by
 unfold uK at h
 refine cJ (fn:=Tryz.f155) [0,1,2,3,4] (by kernel_rfl) Tryz.func155 r (by kernel_rfl) (by kernel_rfl)<|aH<|fS (v:=.agg aV) (n:=0) (cs:=aV) (σ':=[aV]) r r r r r<|fS (v:=.agg aV) (n:=1) (cs:=aV) (σ':=[aV,aV]) r r r r r<|sB r<|aF (fr':=[(2,.box 0 0),(3,.box 1 0)]) r r<|aH<|aM r (bD mW r)<|aM r (aK (v:=aI) eP r r r)<|aM r (bD mW r)<|aM r (aK (v:=aI) eP r r r) ?_
 refine aM r (bM r r)<|mB r<|og r r r (fun hc=>(bD aBl r))<|og r r r (fun hc=>(aK (v:=aI) eP (gx r hc) r r))<|og r r r (fun hc=>(bD aBl r))<|og r r r (fun hc=>(aK (v:=aI) eP (gx r hc) r r))<|og r r r (fun hc=>(bM (gx r hc) (gx r hc)))<|aM r (bO r r r (fun e=>eO e))<|mB r<|og r r r (fun hc=>(bD xY r))<|og r r r (fun hc=>(aK (v:=aS) kD (gx r hc) r r))<|og r r r (fun hc=>(bD xY r))<|og r r r (fun hc=>(aK (v:=aS) kD (gx r hc) r r)) ?_
 refine og r r r (fun hc=>(oU (gx r hc) (gx r hc)))<|aM r (bO r r r (fun e=>eO e))<|mB r<|og r r r (fun hc=>(bD aBm r))<|og r r r (fun hc=>(aK (v:=aS) kD (gx r hc) r r))<|og r r r (fun hc=>(bD aBm r))<|og r r r (fun hc=>(aK (v:=aS) kD (gx r hc) r r))<|og r r r (fun hc=>(oU (gx r hc) (gx r hc)))<|aM r (bO r r r (fun e=>eO e))<|mB r<|og r r r (fun hc=>(bD pF r))<|og r r r (fun hc=>(aK (v:=aI) eP (gx r hc) r r))<|og r r r (fun hc=>(bD pF r)) ?_
 refine og r r r (fun hc=>(aK (v:=aI) eP (gx r hc) r r))<|og r r r (fun hc=>(bM (gx r hc) (gx r hc)))<|aM r (bO r r r (fun e=>eO e))<|mB r<|og r r r (fun hc=>(bD rV r))<|og r r r (fun hc=>(cN (us:=bL) fM (gx r hc) r r r))<|og r r r (fun hc=>(bD rV r))<|og r r r (fun hc=>(cN (us:=bL) fM (gx r hc) r r r)) ?_
 obtain ⟨x1,hx1,h2⟩:=aE h
 refine sM r r (fun hc=>aX (v:=aB) r (aC1 (cA hx1 hc)) ⟨(eH (gx r hc) (bK r ⟨r,r,r,r,r,trivial⟩)),(eH (gx r hc) (bK r ⟨r,r,r,r,r,trivial⟩)),trivial⟩ (fA (by repeat (first | exact dX | refine aY r ?_ | refine aY (oS r) ?_ | refine aY oR ?_))) r r) ?_
 refine aM r (bO r r r (fun e=>eO e))<|mB r<|og r r r (fun hc=>(bD aBn r))<|og r r r (fun hc=>(cN (us:=bZ) wH (gx r hc) r r r))<|og r r r (fun hc=>(bD aBn r))<|og r r r (fun hc=>(cN (us:=bZ) wH (gx r hc) r r r)) ?_
 obtain ⟨x3,hx3,h4⟩:=aE h2
 refine sM r r (fun hc=>aX (v:=aB) r (sG (cA hx3 hc)) ⟨(eH (gx r hc) (bK r ⟨r,r,r,r,r,r,r,r,r,r,trivial⟩)),(eH (gx r hc) (bK r ⟨r,r,r,r,r,r,r,r,r,r,trivial⟩)),trivial⟩ (fA (by repeat (first | exact dX | refine aY r ?_ | refine aY (oS r) ?_ | refine aY oR ?_))) r r) ?_
 refine aM r (bO r r r (fun e=>eO e))<|sB r<|aF (fr':=[(4,aB)]) r r<|bC ?_
 obtain rfl:=sy h4
 exact bB (rs':=[.tmp 4]) r<|bH (v:=aB) r<|aZ<|aN [] r r r lr aA
noncomputable def xA (p0c:cW):Option cW :=
 ((((cond (decide (p0c.Kind=(1:Int))) (some (decide (p0c.Kind=(1:Int)))) (cond (decide (p0c.Kind=(2:Int))) (some (decide (p0c.Kind=(2:Int)))) (cond (decide (p0c.Kind=(3:Int))) (some (decide (p0c.Kind=(3:Int)))) (cond (decide (p0c.Kind=(4:Int))) (some (decide (p0c.Kind=(4:Int)))) (cond (decide (p0c.Kind=(5:Int))) (some (decide (p0c.Kind=(5:Int)))) (some (decide (p0c.Kind=(6:Int))))))))):Option Bool).bind fun x4=>(cond x4 (some (0:Int)) (some p0c.Seq))):Option Int).bind fun x1=>(((((cond (decide (p0c.Kind=(1:Int))) (some (decide (p0c.Kind=(1:Int)))) (cond (decide (p0c.Kind=(5:Int))) (some (decide (p0c.Kind=(5:Int)))) (cond (decide (p0c.Kind=(6:Int))) (some (decide (p0c.Kind=(6:Int)))) (cond (decide (p0c.Kind=(7:Int))) (some (decide (p0c.Kind=(7:Int)))) (cond (decide (p0c.Kind=(8:Int))) (some (decide (p0c.Kind=(8:Int)))) (some (decide (p0c.Kind=(12:Int))))))))):Option Bool).bind fun x18=>(cond x18 (some ([]:List UInt8)) (some p0c.Name))):Option (List UInt8)).bind fun x15=>(((((cond (decide (p0c.Kind=(5:Int))) (some (decide (p0c.Kind=(5:Int)))) (cond (decide (p0c.Kind=(6:Int))) (some (decide (p0c.Kind=(6:Int)))) (cond (decide (p0c.Kind=(8:Int))) (some (decide (p0c.Kind=(8:Int)))) (some (decide (p0c.Kind=(9:Int))))))):Option Bool).bind fun x32=>(cond x32 (some ([]:List UInt8)) (some p0c.Key))):Option (List UInt8)).bind fun x29=>(((((cond (decide (p0c.Kind=(3:Int))) (some (decide (p0c.Kind=(3:Int)))) (cond (decide (p0c.Kind=(5:Int))) (some (decide (p0c.Kind=(5:Int)))) (cond (decide (p0c.Kind=(7:Int))) (some (decide (p0c.Kind=(7:Int)))) (some (decide (p0c.Kind=(9:Int))))))):Option Bool).bind fun x44=>(cond x44 (some (0:Int)) (some p0c.N))):Option Int).bind fun x41=>(((((cond (decide (p0c.Kind=(2:Int))) (some (decide (p0c.Kind=(2:Int)))) (cond (decide (p0c.Kind=(3:Int))) (some (decide (p0c.Kind=(3:Int)))) (some (decide (p0c.Kind=(4:Int)))))):Option Bool).bind fun x56=>(cond x56 (some (cW.mk p0c.Kind x1 x15 x29 x41 p0c.Data p0c.Opts)) (some (cW.mk p0c.Kind x1 x15 x29 x41 (aC.mk (0:Int) (0:Int) ([]:List UInt8) ([]:(List aC)) ([]:(List (List UInt8)))) p0c.Opts)))):Option cW).bind fun x53=>(cond (decide (x53.Kind=(1:Int))) (some (cW.mk x53.Kind x53.Seq x53.Name x53.Key x53.N x53.Data (bG.mk ([]:List UInt8) (0:Int) (0:Int) (0:Int) (0:Int) (0:Int) (0:Int) (0:Int) (0:Int) ([]:(List (List UInt8)))))) (some x53))))))
theorem aIf {p0c:cW}{res:cW} (h:xA p0c=some res):bS Tryz.prog 156 [.agg (AV.cs (jO p0c))] [] (.agg (AV.cs (jO res))) []:=by
 unfold xA at h
 refine cJ (fn:=Tryz.f156) [0,1,2,4,5,14,15,24,25,32,33,40,43,49] (by kernel_rfl) Tryz.func156 r (by kernel_rfl) (by kernel_rfl)<|aH<|fS (v:=.agg aV) (n:=0) (cs:=aV) (σ':=[aV]) r r r r r<|gC (n:=1) (cs:=cT) (σ':=[aV,cT]) aLr r r r<|aF (fr':=[(1,.box 0 0),(2,.box 1 0)]) r r ?_
 obtain ⟨x1,hx1,h2⟩:=aE h
 refine fY (fun j3=>x1=j3) (fun (j3:Int)=>([(1,.box 0 0),(2,.box 1 0)]:Fr)) (fun (j3:Int)=>([[ci p0c.Kind,ci j3,.c (.str p0c.Name),.c (.str p0c.Key),ci p0c.N,ci p0c.Data.Kind,ci p0c.Data.Int,.c (.str p0c.Data.Text),.c (PV.ls 5 bF p0c.Data.Items),.c (PV.ls 1 eA p0c.Data.Keys),.c (.str p0c.Opts.Queue),ci p0c.Opts.ToStart,ci p0c.Opts.ToClose,ci p0c.Opts.Total,ci p0c.Opts.Beat,ci p0c.Opts.First,ci p0c.Opts.Coef,ci p0c.Opts.Most,ci p0c.Opts.Attempts,.c (PV.ls 1 eA p0c.Opts.Fatal)],[ci 0,ci 0,.c (.str ([]:List UInt8)),.c (.str ([]:List UInt8)),ci 0,ci 0,ci 0,.c (.str ([]:List UInt8)),AV.nil,AV.nil,.c (.str ([]:List UInt8)),ci 0,ci 0,ci 0,ci 0,ci 0,ci 0,ci 0,ci 0,AV.nil]]:St)) ?_ ?_
 ·
  refine aH<|aM r (bD mW r)<|aM r (aK (v:=aI) eP r r r)<|aF (fr':=[(1,.box 0 0),(2,.box 1 0),(4,aI)]) r r<|bJ ?_
  obtain ⟨x4,hx4,h5⟩:=aE hx1
  refine fY (fun j6=>x4=j6) (fun (j6:Bool)=>([(1,.box 0 0),(2,.box 1 0),(5,.c (.bool j6))]:Fr)) (fun (j6:Bool)=>([[ci p0c.Kind,ci p0c.Seq,.c (.str p0c.Name),.c (.str p0c.Key),ci p0c.N,ci p0c.Data.Kind,ci p0c.Data.Int,.c (.str p0c.Data.Text),.c (PV.ls 5 bF p0c.Data.Items),.c (PV.ls 1 eA p0c.Data.Keys),.c (.str p0c.Opts.Queue),ci p0c.Opts.ToStart,ci p0c.Opts.ToClose,ci p0c.Opts.Total,ci p0c.Opts.Beat,ci p0c.Opts.First,ci p0c.Opts.Coef,ci p0c.Opts.Most,ci p0c.Opts.Attempts,.c (PV.ls 1 eA p0c.Opts.Fatal)],[ci 0,ci 0,.c (.str ([]:List UInt8)),.c (.str ([]:List UInt8)),ci 0,ci 0,ci 0,.c (.str ([]:List UInt8)),AV.nil,AV.nil,.c (.str ([]:List UInt8)),ci 0,ci 0,ci 0,ci 0,ci 0,ci 0,ci 0,ci 0,AV.nil]]:St)) ?_ ?_
  ·
   refine aH<|aM r (bM r r)<|sB r<|aF (fr':=[(1,.box 0 0),(2,.box 1 0),(4,aI),(5,aB)]) r r<|bP hx4 r (fun hb7 h7=>?_) (fun hb7 h7=>?_)
   ·
    exact aW<|gD _ (sy h7) (aU [] 2 r r r r ⟨lr,lr,lr,trivial⟩ (bW r (bW r aA)))
   ·
    refine aH<|aM r (bM r r)<|sB r<|aF (fr':=[(1,.box 0 0),(2,.box 1 0),(4,aI),(5,aB)]) r r<|bP h7 r (fun hb8 h8=>?_) (fun hb8 h8=>?_)
    ·
     exact aW<|gD _ (sy h8) (aU [] 2 r r r r ⟨lr,lr,lr,trivial⟩ (bW r (bW r aA)))
    ·
     refine aH<|aM r (bM r r)<|sB r<|aF (fr':=[(1,.box 0 0),(2,.box 1 0),(4,aI),(5,aB)]) r r<|bP h8 r (fun hb9 h9=>?_) (fun hb9 h9=>?_)
     ·
      exact aW<|gD _ (sy h9) (aU [] 2 r r r r ⟨lr,lr,lr,trivial⟩ (bW r (bW r aA)))
     ·
      refine aH<|aM r (bM r r)<|sB r<|aF (fr':=[(1,.box 0 0),(2,.box 1 0),(4,aI),(5,aB)]) r r<|bP h9 r (fun hb10 h10=>?_) (fun hb10 h10=>?_)
      ·
       exact aW<|gD _ (sy h10) (aU [] 2 r r r r ⟨lr,lr,lr,trivial⟩ (bW r (bW r aA)))
      ·
       refine aH<|aM r (bM r r)<|sB r<|aF (fr':=[(1,.box 0 0),(2,.box 1 0),(4,aI),(5,aB)]) r r<|bP h10 r (fun hb11 h11=>?_) (fun hb11 h11=>?_)
       ·
        exact aW<|gD _ (sy h11) (aU [] 2 r r r r ⟨lr,lr,lr,trivial⟩ (bW r (bW r aA)))
       ·
        exact aQ<|aM r (bM r r)<|sB r<|cB (fr':=[(1,.box 0 0),(2,.box 1 0),(4,aI),(5,aB)]) r<|gD _ (sy h11) (aU [] 2 r r r r ⟨lr,lr,lr,trivial⟩ (bW r (bW r aA)))
  ·
   intro j6 hj12
   subst hj12
   refine bP h5 r (fun hb13 h13=>?_) (fun hb13 h13=>?_)
   ·
    exact aQ<|aM r (bD aBl r)<|bU (v:=aI) (us:=[aI]) (cs:=aV) (σ':=[aV,cT]) r eP r r r r r r r r<|cB (fr':=[(1,.box 0 0),(2,.box 1 0),(5,aB)]) r<|bX<|gD _ (sy h13) (aU [] 2 r r r r ⟨lr,lr,trivial⟩ (bW r (bW r aA)))
   ·
    exact aW<|bX<|gD _ (sy h13) (aU [] 2 r r r r ⟨lr,lr,trivial⟩ (bW r (bW r aA)))
 ·
  intro j3 hj14
  subst hj14
  obtain ⟨x15,hx15,h16⟩:=aE h2
  refine fY (fun j17=>x15=j17) (fun (j17:(List UInt8))=>([(1,.box 0 0),(2,.box 1 0)]:Fr)) (fun (j17:(List UInt8))=>([[ci p0c.Kind,ci x1,.c (.str j17),.c (.str p0c.Key),ci p0c.N,ci p0c.Data.Kind,ci p0c.Data.Int,.c (.str p0c.Data.Text),.c (PV.ls 5 bF p0c.Data.Items),.c (PV.ls 1 eA p0c.Data.Keys),.c (.str p0c.Opts.Queue),ci p0c.Opts.ToStart,ci p0c.Opts.ToClose,ci p0c.Opts.Total,ci p0c.Opts.Beat,ci p0c.Opts.First,ci p0c.Opts.Coef,ci p0c.Opts.Most,ci p0c.Opts.Attempts,.c (PV.ls 1 eA p0c.Opts.Fatal)],[ci 0,ci 0,.c (.str ([]:List UInt8)),.c (.str ([]:List UInt8)),ci 0,ci 0,ci 0,.c (.str ([]:List UInt8)),AV.nil,AV.nil,.c (.str ([]:List UInt8)),ci 0,ci 0,ci 0,ci 0,ci 0,ci 0,ci 0,ci 0,AV.nil]]:St)) ?_ ?_
  ·
   refine aH<|aM r (bD mW r)<|aM r (aK (v:=aI) eP r r r)<|aF (fr':=[(1,.box 0 0),(2,.box 1 0),(14,aI)]) r r<|bJ ?_
   obtain ⟨x18,hx18,h19⟩:=aE hx15
   refine fY (fun j20=>x18=j20) (fun (j20:Bool)=>([(1,.box 0 0),(2,.box 1 0),(15,.c (.bool j20))]:Fr)) (fun (j20:Bool)=>([[ci p0c.Kind,ci x1,.c (.str p0c.Name),.c (.str p0c.Key),ci p0c.N,ci p0c.Data.Kind,ci p0c.Data.Int,.c (.str p0c.Data.Text),.c (PV.ls 5 bF p0c.Data.Items),.c (PV.ls 1 eA p0c.Data.Keys),.c (.str p0c.Opts.Queue),ci p0c.Opts.ToStart,ci p0c.Opts.ToClose,ci p0c.Opts.Total,ci p0c.Opts.Beat,ci p0c.Opts.First,ci p0c.Opts.Coef,ci p0c.Opts.Most,ci p0c.Opts.Attempts,.c (PV.ls 1 eA p0c.Opts.Fatal)],[ci 0,ci 0,.c (.str ([]:List UInt8)),.c (.str ([]:List UInt8)),ci 0,ci 0,ci 0,.c (.str ([]:List UInt8)),AV.nil,AV.nil,.c (.str ([]:List UInt8)),ci 0,ci 0,ci 0,ci 0,ci 0,ci 0,ci 0,ci 0,AV.nil]]:St)) ?_ ?_
   ·
    refine aH<|aM r (bM r r)<|sB r<|aF (fr':=[(1,.box 0 0),(2,.box 1 0),(14,aI),(15,aB)]) r r<|bP hx18 r (fun hb21 h21=>?_) (fun hb21 h21=>?_)
    ·
     exact aW<|gD _ (sy h21) (aU [] 2 r r r r ⟨lr,lr,lr,trivial⟩ (bW r (bW r aA)))
    ·
     refine aH<|aM r (bM r r)<|sB r<|aF (fr':=[(1,.box 0 0),(2,.box 1 0),(14,aI),(15,aB)]) r r<|bP h21 r (fun hb22 h22=>?_) (fun hb22 h22=>?_)
     ·
      exact aW<|gD _ (sy h22) (aU [] 2 r r r r ⟨lr,lr,lr,trivial⟩ (bW r (bW r aA)))
     ·
      refine aH<|aM r (bM r r)<|sB r<|aF (fr':=[(1,.box 0 0),(2,.box 1 0),(14,aI),(15,aB)]) r r<|bP h22 r (fun hb23 h23=>?_) (fun hb23 h23=>?_)
      ·
       exact aW<|gD _ (sy h23) (aU [] 2 r r r r ⟨lr,lr,lr,trivial⟩ (bW r (bW r aA)))
      ·
       refine aH<|aM r (bM r r)<|sB r<|aF (fr':=[(1,.box 0 0),(2,.box 1 0),(14,aI),(15,aB)]) r r<|bP h23 r (fun hb24 h24=>?_) (fun hb24 h24=>?_)
       ·
        exact aW<|gD _ (sy h24) (aU [] 2 r r r r ⟨lr,lr,lr,trivial⟩ (bW r (bW r aA)))
       ·
        refine aH<|aM r (bM r r)<|sB r<|aF (fr':=[(1,.box 0 0),(2,.box 1 0),(14,aI),(15,aB)]) r r<|bP h24 r (fun hb25 h25=>?_) (fun hb25 h25=>?_)
        ·
         exact aW<|gD _ (sy h25) (aU [] 2 r r r r ⟨lr,lr,lr,trivial⟩ (bW r (bW r aA)))
        ·
         exact aQ<|aM r (bM r r)<|sB r<|cB (fr':=[(1,.box 0 0),(2,.box 1 0),(14,aI),(15,aB)]) r<|gD _ (sy h25) (aU [] 2 r r r r ⟨lr,lr,lr,trivial⟩ (bW r (bW r aA)))
   ·
    intro j20 hj26
    subst hj26
    refine bP h19 r (fun hb27 h27=>?_) (fun hb27 h27=>?_)
    ·
     exact aQ<|aM r (bD xY r)<|bU (v:=aS) (us:=[aS]) (cs:=aV) (σ':=[aV,cT]) r kD r r r r r r r r<|cB (fr':=[(1,.box 0 0),(2,.box 1 0),(15,aB)]) r<|bX<|gD _ (sy h27) (aU [] 2 r r r r ⟨lr,lr,trivial⟩ (bW r (bW r aA)))
    ·
     exact aW<|bX<|gD _ (sy h27) (aU [] 2 r r r r ⟨lr,lr,trivial⟩ (bW r (bW r aA)))
  ·
   intro j17 hj28
   subst hj28
   obtain ⟨x29,hx29,h30⟩:=aE h16
   refine fY (fun j31=>x29=j31) (fun (j31:(List UInt8))=>([(1,.box 0 0),(2,.box 1 0)]:Fr)) (fun (j31:(List UInt8))=>([[ci p0c.Kind,ci x1,.c (.str x15),.c (.str j31),ci p0c.N,ci p0c.Data.Kind,ci p0c.Data.Int,.c (.str p0c.Data.Text),.c (PV.ls 5 bF p0c.Data.Items),.c (PV.ls 1 eA p0c.Data.Keys),.c (.str p0c.Opts.Queue),ci p0c.Opts.ToStart,ci p0c.Opts.ToClose,ci p0c.Opts.Total,ci p0c.Opts.Beat,ci p0c.Opts.First,ci p0c.Opts.Coef,ci p0c.Opts.Most,ci p0c.Opts.Attempts,.c (PV.ls 1 eA p0c.Opts.Fatal)],[ci 0,ci 0,.c (.str ([]:List UInt8)),.c (.str ([]:List UInt8)),ci 0,ci 0,ci 0,.c (.str ([]:List UInt8)),AV.nil,AV.nil,.c (.str ([]:List UInt8)),ci 0,ci 0,ci 0,ci 0,ci 0,ci 0,ci 0,ci 0,AV.nil]]:St)) ?_ ?_
   ·
    refine aH<|aM r (bD mW r)<|aM r (aK (v:=aI) eP r r r)<|aF (fr':=[(1,.box 0 0),(2,.box 1 0),(24,aI)]) r r<|bJ ?_
    obtain ⟨x32,hx32,h33⟩:=aE hx29
    refine fY (fun j34=>x32=j34) (fun (j34:Bool)=>([(1,.box 0 0),(2,.box 1 0),(25,.c (.bool j34))]:Fr)) (fun (j34:Bool)=>([[ci p0c.Kind,ci x1,.c (.str x15),.c (.str p0c.Key),ci p0c.N,ci p0c.Data.Kind,ci p0c.Data.Int,.c (.str p0c.Data.Text),.c (PV.ls 5 bF p0c.Data.Items),.c (PV.ls 1 eA p0c.Data.Keys),.c (.str p0c.Opts.Queue),ci p0c.Opts.ToStart,ci p0c.Opts.ToClose,ci p0c.Opts.Total,ci p0c.Opts.Beat,ci p0c.Opts.First,ci p0c.Opts.Coef,ci p0c.Opts.Most,ci p0c.Opts.Attempts,.c (PV.ls 1 eA p0c.Opts.Fatal)],[ci 0,ci 0,.c (.str ([]:List UInt8)),.c (.str ([]:List UInt8)),ci 0,ci 0,ci 0,.c (.str ([]:List UInt8)),AV.nil,AV.nil,.c (.str ([]:List UInt8)),ci 0,ci 0,ci 0,ci 0,ci 0,ci 0,ci 0,ci 0,AV.nil]]:St)) ?_ ?_
    ·
     refine aH<|aM r (bM r r)<|sB r<|aF (fr':=[(1,.box 0 0),(2,.box 1 0),(24,aI),(25,aB)]) r r<|bP hx32 r (fun hb35 h35=>?_) (fun hb35 h35=>?_)
     ·
      exact aW<|gD _ (sy h35) (aU [] 2 r r r r ⟨lr,lr,lr,trivial⟩ (bW r (bW r aA)))
     ·
      refine aH<|aM r (bM r r)<|sB r<|aF (fr':=[(1,.box 0 0),(2,.box 1 0),(24,aI),(25,aB)]) r r<|bP h35 r (fun hb36 h36=>?_) (fun hb36 h36=>?_)
      ·
       exact aW<|gD _ (sy h36) (aU [] 2 r r r r ⟨lr,lr,lr,trivial⟩ (bW r (bW r aA)))
      ·
       refine aH<|aM r (bM r r)<|sB r<|aF (fr':=[(1,.box 0 0),(2,.box 1 0),(24,aI),(25,aB)]) r r<|bP h36 r (fun hb37 h37=>?_) (fun hb37 h37=>?_)
       ·
        exact aW<|gD _ (sy h37) (aU [] 2 r r r r ⟨lr,lr,lr,trivial⟩ (bW r (bW r aA)))
       ·
        exact aQ<|aM r (bM r r)<|sB r<|cB (fr':=[(1,.box 0 0),(2,.box 1 0),(24,aI),(25,aB)]) r<|gD _ (sy h37) (aU [] 2 r r r r ⟨lr,lr,lr,trivial⟩ (bW r (bW r aA)))
    ·
     intro j34 hj38
     subst hj38
     refine bP h33 r (fun hb39 h39=>?_) (fun hb39 h39=>?_)
     ·
      exact aQ<|aM r (bD aBm r)<|bU (v:=aS) (us:=[aS]) (cs:=aV) (σ':=[aV,cT]) r kD r r r r r r r r<|cB (fr':=[(1,.box 0 0),(2,.box 1 0),(25,aB)]) r<|bX<|gD _ (sy h39) (aU [] 2 r r r r ⟨lr,lr,trivial⟩ (bW r (bW r aA)))
     ·
      exact aW<|bX<|gD _ (sy h39) (aU [] 2 r r r r ⟨lr,lr,trivial⟩ (bW r (bW r aA)))
   ·
    intro j31 hj40
    subst hj40
    obtain ⟨x41,hx41,h42⟩:=aE h30
    refine fY (fun j43=>x41=j43) (fun (j43:Int)=>([(1,.box 0 0),(2,.box 1 0)]:Fr)) (fun (j43:Int)=>([[ci p0c.Kind,ci x1,.c (.str x15),.c (.str x29),ci j43,ci p0c.Data.Kind,ci p0c.Data.Int,.c (.str p0c.Data.Text),.c (PV.ls 5 bF p0c.Data.Items),.c (PV.ls 1 eA p0c.Data.Keys),.c (.str p0c.Opts.Queue),ci p0c.Opts.ToStart,ci p0c.Opts.ToClose,ci p0c.Opts.Total,ci p0c.Opts.Beat,ci p0c.Opts.First,ci p0c.Opts.Coef,ci p0c.Opts.Most,ci p0c.Opts.Attempts,.c (PV.ls 1 eA p0c.Opts.Fatal)],[ci 0,ci 0,.c (.str ([]:List UInt8)),.c (.str ([]:List UInt8)),ci 0,ci 0,ci 0,.c (.str ([]:List UInt8)),AV.nil,AV.nil,.c (.str ([]:List UInt8)),ci 0,ci 0,ci 0,ci 0,ci 0,ci 0,ci 0,ci 0,AV.nil]]:St)) ?_ ?_
    ·
     refine aH<|aM r (bD mW r)<|aM r (aK (v:=aI) eP r r r)<|aF (fr':=[(1,.box 0 0),(2,.box 1 0),(32,aI)]) r r<|bJ ?_
     obtain ⟨x44,hx44,h45⟩:=aE hx41
     refine fY (fun j46=>x44=j46) (fun (j46:Bool)=>([(1,.box 0 0),(2,.box 1 0),(33,.c (.bool j46))]:Fr)) (fun (j46:Bool)=>([[ci p0c.Kind,ci x1,.c (.str x15),.c (.str x29),ci p0c.N,ci p0c.Data.Kind,ci p0c.Data.Int,.c (.str p0c.Data.Text),.c (PV.ls 5 bF p0c.Data.Items),.c (PV.ls 1 eA p0c.Data.Keys),.c (.str p0c.Opts.Queue),ci p0c.Opts.ToStart,ci p0c.Opts.ToClose,ci p0c.Opts.Total,ci p0c.Opts.Beat,ci p0c.Opts.First,ci p0c.Opts.Coef,ci p0c.Opts.Most,ci p0c.Opts.Attempts,.c (PV.ls 1 eA p0c.Opts.Fatal)],[ci 0,ci 0,.c (.str ([]:List UInt8)),.c (.str ([]:List UInt8)),ci 0,ci 0,ci 0,.c (.str ([]:List UInt8)),AV.nil,AV.nil,.c (.str ([]:List UInt8)),ci 0,ci 0,ci 0,ci 0,ci 0,ci 0,ci 0,ci 0,AV.nil]]:St)) ?_ ?_
     ·
      refine aH<|aM r (bM r r)<|sB r<|aF (fr':=[(1,.box 0 0),(2,.box 1 0),(32,aI),(33,aB)]) r r<|bP hx44 r (fun hb47 h47=>?_) (fun hb47 h47=>?_)
      ·
       exact aW<|gD _ (sy h47) (aU [] 2 r r r r ⟨lr,lr,lr,trivial⟩ (bW r (bW r aA)))
      ·
       refine aH<|aM r (bM r r)<|sB r<|aF (fr':=[(1,.box 0 0),(2,.box 1 0),(32,aI),(33,aB)]) r r<|bP h47 r (fun hb48 h48=>?_) (fun hb48 h48=>?_)
       ·
        exact aW<|gD _ (sy h48) (aU [] 2 r r r r ⟨lr,lr,lr,trivial⟩ (bW r (bW r aA)))
       ·
        refine aH<|aM r (bM r r)<|sB r<|aF (fr':=[(1,.box 0 0),(2,.box 1 0),(32,aI),(33,aB)]) r r<|bP h48 r (fun hb49 h49=>?_) (fun hb49 h49=>?_)
        ·
         exact aW<|gD _ (sy h49) (aU [] 2 r r r r ⟨lr,lr,lr,trivial⟩ (bW r (bW r aA)))
        ·
         exact aQ<|aM r (bM r r)<|sB r<|cB (fr':=[(1,.box 0 0),(2,.box 1 0),(32,aI),(33,aB)]) r<|gD _ (sy h49) (aU [] 2 r r r r ⟨lr,lr,lr,trivial⟩ (bW r (bW r aA)))
     ·
      intro j46 hj50
      subst hj50
      refine bP h45 r (fun hb51 h51=>?_) (fun hb51 h51=>?_)
      ·
       exact aQ<|aM r (bD pF r)<|bU (v:=aI) (us:=[aI]) (cs:=aV) (σ':=[aV,cT]) r eP r r r r r r r r<|cB (fr':=[(1,.box 0 0),(2,.box 1 0),(33,aB)]) r<|bX<|gD _ (sy h51) (aU [] 2 r r r r ⟨lr,lr,trivial⟩ (bW r (bW r aA)))
      ·
       exact aW<|bX<|gD _ (sy h51) (aU [] 2 r r r r ⟨lr,lr,trivial⟩ (bW r (bW r aA)))
    ·
     intro j43 hj52
     subst hj52
     obtain ⟨x53,hx53,h54⟩:=aE h42
     refine fY (fun j55=>x53=j55) (fun (j55:cW)=>([(1,.box 0 0),(2,.box 1 0)]:Fr)) (fun (j55:cW)=>([[ci j55.Kind,ci j55.Seq,.c (.str j55.Name),.c (.str j55.Key),ci j55.N,ci j55.Data.Kind,ci j55.Data.Int,.c (.str j55.Data.Text),.c (PV.ls 5 bF j55.Data.Items),.c (PV.ls 1 eA j55.Data.Keys),.c (.str j55.Opts.Queue),ci j55.Opts.ToStart,ci j55.Opts.ToClose,ci j55.Opts.Total,ci j55.Opts.Beat,ci j55.Opts.First,ci j55.Opts.Coef,ci j55.Opts.Most,ci j55.Opts.Attempts,.c (PV.ls 1 eA j55.Opts.Fatal)],[ci 0,ci 0,.c (.str ([]:List UInt8)),.c (.str ([]:List UInt8)),ci 0,ci 0,ci 0,.c (.str ([]:List UInt8)),AV.nil,AV.nil,.c (.str ([]:List UInt8)),ci 0,ci 0,ci 0,ci 0,ci 0,ci 0,ci 0,ci 0,AV.nil]]:St)) ?_ ?_
     ·
      refine aH<|aM r (bD mW r)<|aM r (aK (v:=aI) eP r r r)<|aF (fr':=[(1,.box 0 0),(2,.box 1 0),(40,aI)]) r r<|bJ ?_
      obtain ⟨x56,hx56,h57⟩:=aE hx53
      refine fY (fun j58=>x56=j58) (fun (j58:Bool)=>([(1,.box 0 0),(2,.box 1 0),(43,.c (.bool j58))]:Fr)) (fun (j58:Bool)=>([[ci p0c.Kind,ci x1,.c (.str x15),.c (.str x29),ci x41,ci p0c.Data.Kind,ci p0c.Data.Int,.c (.str p0c.Data.Text),.c (PV.ls 5 bF p0c.Data.Items),.c (PV.ls 1 eA p0c.Data.Keys),.c (.str p0c.Opts.Queue),ci p0c.Opts.ToStart,ci p0c.Opts.ToClose,ci p0c.Opts.Total,ci p0c.Opts.Beat,ci p0c.Opts.First,ci p0c.Opts.Coef,ci p0c.Opts.Most,ci p0c.Opts.Attempts,.c (PV.ls 1 eA p0c.Opts.Fatal)],[ci 0,ci 0,.c (.str ([]:List UInt8)),.c (.str ([]:List UInt8)),ci 0,ci 0,ci 0,.c (.str ([]:List UInt8)),AV.nil,AV.nil,.c (.str ([]:List UInt8)),ci 0,ci 0,ci 0,ci 0,ci 0,ci 0,ci 0,ci 0,AV.nil]]:St)) ?_ ?_
      ·
       refine aH<|aM r (bM r r)<|sB r<|aF (fr':=[(1,.box 0 0),(2,.box 1 0),(40,aI),(43,aB)]) r r<|bP hx56 r (fun hb59 h59=>?_) (fun hb59 h59=>?_)
       ·
        exact aW<|gD _ (sy h59) (aU [] 2 r r r r ⟨lr,lr,lr,trivial⟩ (bW r (bW r aA)))
       ·
        refine aH<|aM r (bM r r)<|sB r<|aF (fr':=[(1,.box 0 0),(2,.box 1 0),(40,aI),(43,aB)]) r r<|bP h59 r (fun hb60 h60=>?_) (fun hb60 h60=>?_)
        ·
         exact aW<|gD _ (sy h60) (aU [] 2 r r r r ⟨lr,lr,lr,trivial⟩ (bW r (bW r aA)))
        ·
         exact aQ<|aM r (bM r r)<|sB r<|cB (fr':=[(1,.box 0 0),(2,.box 1 0),(40,aI),(43,aB)]) r<|gD _ (sy h60) (aU [] 2 r r r r ⟨lr,lr,lr,trivial⟩ (bW r (bW r aA)))
      ·
       intro j58 hj61
       subst hj61
       refine bP h57 r (fun hb62 h62=>?_) (fun hb62 h62=>?_)
       ·
        exact aW<|bX<|gD _ (sy h62) (aU [] 2 r r r r ⟨lr,lr,trivial⟩ (bW r (bW r aA)))
       ·
        exact aQ<|aM r (dK (cs:=bT) aFP r)<|aM r (bD rV r)<|bU (v:=.agg bT) (us:=bT) (cs:=aV) (σ':=[aAo,cT]) r fM r r r r r r r r<|cB (fr':=[(1,.box 0 0),(2,.box 1 0),(43,aB)]) r<|bX<|gD _ (sy h62) (aU [] 2 r r r r ⟨lr,lr,trivial⟩ (wG ⟨lr,lr,lr,lr,lr,lr,lr,lr,aAG,aAG,lr,lr,lr,lr,lr,lr,lr,lr,lr,lr,trivial⟩ (bW r aA)))
     ·
      intro j55 hj63
      subst hj63
      refine aP<|aH<|aM r (bD mW r)<|aM r (aK (v:=aI) eP r r r)<|aM r (bM r r)<|aF (fr':=[(1,.box 0 0),(2,.box 1 0),(49,aB)]) r r<|bP h54 r (fun hb64 h64=>?_) (fun hb64 h64=>?_)
      ·
       refine aQ<|aM r (pU (c0:=bN) (cs:=bN) aNG r pR)<|aM r (bD aBn r)<|bU (v:=.agg bN) (us:=bN) (cs:=aV) (σ':=[gE,cT]) r wH r r r r r r r r<|aF (fr':=[(1,.box 0 0),(2,.box 1 0)]) r r<|aH<|aM r (cN (us:=gE) yU r r r r)<|bU (v:=.agg gE) (us:=gE) (cs:=cT) (σ':=[gE,gE]) r yU r r r r r r r r<|aF (fr':=[(2,.box 1 0)]) r r<|bC ?_
       obtain rfl:=sy h64
       exact bB (rs':=[.cell 2 103]) r<|cZ (us:=gE) (cs:=gE) yU r r r r<|aZ<|aN [] r r r (bK r ⟨r,r,r,r,r,r,r,r,r,r,r,r,r,r,r,r,r,r,r,⟨_,r⟩,trivial⟩) aA
      ·
       refine aW<|bV<|aH<|aM r (cN (us:=aV) yU r r r r)<|bU (v:=.agg aV) (us:=aV) (cs:=cT) (σ':=[aV,aV]) r yU r r r r r r r r<|aF (fr':=[(2,.box 1 0)]) r r<|bC ?_
       obtain rfl:=sy h64
       exact bB (rs':=[.cell 2 103]) r<|cZ (us:=aV) (cs:=aV) yU r r r r<|aZ<|aN [] r r r (bK r ⟨r,r,r,r,r,r,r,r,r,r,r,r,r,r,r,r,r,r,r,r,trivial⟩) aA
noncomputable def pY (p0v:aC) (s8:Int):Option (cI Int (Fl Bool Unit)) :=
 (hG p0v.Items (1:Int)).bind fun x9=>cond (decide (s8<((x9.Items).length:Int))) ((hG p0v.Items (1:Int)).bind fun x12=>(hG x12.Items s8).bind fun x14=>(gd ((cond (!decide (x14.Kind=(4:Int))) true (!decide (((x14.Items).length:Int)=(2:Int))))==false) (hG x14.Items (0:Int))).bind fun x16=>(gd ((cond (cond (!decide (x14.Kind=(4:Int))) true (!decide (((x14.Items).length:Int)=(2:Int)))) true (!decide (x16.Kind=(3:Int))))==false) (hG x14.Items (0:Int))).bind fun x18=>(gd ((cond (cond (!decide (x14.Kind=(4:Int))) true (!decide (((x14.Items).length:Int)=(2:Int)))) true (!decide (x16.Kind=(3:Int))))==false) (kV x18.Text)).bind fun x20=>cond (cond (cond (cond (!decide (x14.Kind=(4:Int))) true (!decide (((x14.Items).length:Int)=(2:Int)))) true (!decide (x16.Kind=(3:Int)))) true (!x20)) (some (cI.out (Fl.done false))) (some (cI.next (IntKind.wrap .i64 (s8+(1:Int)))))) (some (cI.out (Fl.go ())))
noncomputable def vL (p0v:aC):Option Bool :=
 (gd ((cond (!decide (p0v.Kind=(4:Int))) true (!decide (((p0v.Items).length:Int)=(2:Int))))==false) (hG p0v.Items (1:Int))).bind fun x1=>cond (cond (cond (!decide (p0v.Kind=(4:Int))) true (!decide (((p0v.Items).length:Int)=(2:Int)))) true (!decide (x1.Kind=(4:Int)))) (some false) (((dR (pY p0v) ((0:Int))):Option (Fl Bool Unit)).bind fun x5=>Fl.next x5 (fun j7=>(some true)))
theorem aGJ {p0v:aC}{res:Bool} (h:vL p0v=some res):bS Tryz.prog 157 [.agg (AV.cs (cQ p0v))] [] (.c (.bool res)) []:=by
 unfold vL at h
 refine cJ (fn:=Tryz.f157) [0,1,2,3,4,21,29,65] (by kernel_rfl) Tryz.func157 r (by kernel_rfl) (by kernel_rfl)<|aH<|fS (v:=.agg bL) (n:=0) (cs:=bL) (σ':=[bL]) r r r r r<|sB r<|aF (fr':=[(1,.box 0 0)]) r r<|aP<|aH<|aM r (bD gW r)<|aM r (aK (v:=aI) eP r r r)<|aM r (fI r r)<|mB r ?_
 refine og r r r (fun hc=>(bD eJ r))<|og r r r (fun hc=>(aK (v:=aL) iF (gx r hc) r r))<|og r r r (fun hc=>(dI nH (cC (gx r hc))))<|og r r r (fun hc=>(fI (gx r hc) r))<|aM r (bY r r r (fun e=>eO e))<|mB r<|og r r r (fun hc=>(bD eJ r))<|og r r r (fun hc=>(aK (v:=aL) iF (gx r hc) r r)) ?_
 obtain ⟨x1,hx1,h2⟩:=aE h
 refine og r r r (fun hc=>(gR (cs:=[PV.int _ _,PV.int _ _,PV.str _,PV.ls _ _ _,PV.ls _ _ _]) mP (cC (gx r hc)) r (cA hx1 hc) (cE _)))<|og r r r (fun hc=>(rJ gW (gx r hc)))<|og r r r (fun hc=>(eG (p:=PV.int _ _) eP (gx r hc) r))<|og r r r (fun hc=>(fI (gx r hc) r))<|aM r (bY r r r (fun e=>eO e))<|aF (fr':=[(1,.box 0 0),(21,aB)]) r r<|bP h2 r (fun hb3 h3=>?_) (fun hb3 h3=>?_)
 ·
  refine aH<|sB r<|aF (fr':=[(2,aB)]) r r<|bC<|aJ ?_
  obtain rfl:=sy h3
  exact bB (rs':=[.tmp 2]) r<|bH (v:=aB) r<|aZ<|aN [] r r r lr aA
 ·
  refine aW<|bV<|aP<|aH<|sI r<|aF (fr':=[(1,.box 0 0),(3,aI)]) r r ?_
  obtain ⟨x5,hx5,h6⟩:=aE h3
  refine eB gF (fun j7=>x5=Fl.go j7) (fun (j7:Unit)=>([]:Fr)) (fun (j7:Unit)=>([[ci p0v.Kind,ci p0v.Int,.c (.str p0v.Text),.c (PV.ls 5 bF p0v.Items),.c (PV.ls 1 eA p0v.Keys)]]:St)) ?_ ?_
  ·
   refine bJ<|dV _ (fun (s8:Int)=>([(1,.box 0 0),(3,ci s8)]:Fr)) (fun (s8:Int)=>([[ci p0v.Kind,ci p0v.Int,.c (.str p0v.Text),.c (PV.ls 5 bF p0v.Items),.c (PV.ls 1 eA p0v.Keys)]]:St)) hx5 (aU [] 1 r r r r ⟨lr,lr,trivial⟩ (bW r aA)) ?_
   intro s8 st8 hs8 ho8
   unfold pY at hs8
   refine aP<|aH<|mI r<|aM r (bD eJ r)<|aM r (aK (v:=aL) iF r r r) ?_
   obtain ⟨x9,hx9,h10⟩:=aE hs8
   refine aM r (gR (cs:=[PV.int _ _,PV.int _ _,PV.str _,PV.ls _ _ _,PV.ls _ _ _]) mP (cC r) r hx9 (cE _))<|aM r (rJ eJ r)<|aM r (eG (p:=PV.ls _ _ _) iF r r)<|aM r (dI nH (cC r))<|aM r (dJ r r)<|aF (fr':=[(1,.box 0 0),(3,aI),(29,aB)]) r r<|bP h10 r (fun hb11 h11=>?_) (fun hb11 h11=>?_)
   ·
    refine aW<|bV<|aP<|bJ<|aH<|aM r (bD eJ r)<|aM r (aK (v:=aL) iF r r r) ?_
    obtain ⟨x12,hx12,h13⟩:=aE h11
    refine aM r (gR (cs:=[PV.int _ _,PV.int _ _,PV.str _,PV.ls _ _ _,PV.ls _ _ _]) mP (cC r) r hx12 (cE _))<|aM r (rJ eJ r)<|aM r (eG (p:=PV.ls _ _ _) iF r r)<|mI r ?_
    obtain ⟨x14,hx14,h15⟩:=aE h13
    refine aM r (gR (cs:=[PV.int _ _,PV.int _ _,PV.str _,PV.ls _ _ _,PV.ls _ _ _]) mP (cC r) r hx14 (cE _))<|aM r (gM (us:=[PV.int _ _,PV.int _ _,PV.str _,PV.ls _ _ _,PV.ls _ _ _]) fM r r r)<|gC (n:=1) (cs:=bT) (σ':=[bL,bT]) aCi r r r<|bU (v:=.agg bL) (us:=bL) (cs:=bT) (σ':=[bL,bL]) r fM r r r r r r r r<|aF (fr':=[(1,.box 0 0),(3,aI),(4,.box 1 0)]) r r<|aH<|aM r (bD gW r)<|aM r (aK (v:=aI) eP r r r)<|aM r (fI r r)<|mB r<|og r r r (fun hc=>(bD eJ r))<|og r r r (fun hc=>(aK (v:=aL) iF (gx r hc) r r)) ?_
    refine og r r r (fun hc=>(dI nH (cC (gx r hc))))<|og r r r (fun hc=>(fI (gx r hc) r))<|aM r (bY r r r (fun e=>eO e))<|mB r<|og r r r (fun hc=>(bD eJ r))<|og r r r (fun hc=>(aK (v:=aL) iF (gx r hc) r r)) ?_
    obtain ⟨x16,hx16,h17⟩:=aE h15
    refine og r r r (fun hc=>(gR (cs:=[PV.int _ _,PV.int _ _,PV.str _,PV.ls _ _ _,PV.ls _ _ _]) mP (cC (gx r hc)) r (cA hx16 hc) (cE _)))<|og r r r (fun hc=>(rJ gW (gx r hc)))<|og r r r (fun hc=>(eG (p:=PV.int _ _) eP (gx r hc) r))<|og r r r (fun hc=>(fI (gx r hc) r))<|aM r (bY r r r (fun e=>eO e))<|mB r<|og r r r (fun hc=>(bD eJ r))<|og r r r (fun hc=>(aK (v:=aL) iF (gx r hc) r r)) ?_
    obtain ⟨x18,hx18,h19⟩:=aE h17
    refine og r r r (fun hc=>(gR (cs:=[PV.int _ _,PV.int _ _,PV.str _,PV.ls _ _ _,PV.ls _ _ _]) mP (cC (gx r hc)) r (cA hx18 hc) (cE _)))<|og r r r (fun hc=>(rJ lT (gx r hc)))<|og r r r (fun hc=>(eG (p:=PV.str _) kD (gx r hc) r)) ?_
    obtain ⟨x20,hx20,h21⟩:=aE h19
    refine sM r r (fun hc=>aX (v:=aB) r (oP (cA hx20 hc)) ⟨(eH (gx r hc) lr),trivial⟩ (fA (by repeat (first | exact dX | refine aY r ?_ | refine aY (oS r) ?_ | refine aY oR ?_))) r r) ?_
    refine og r r r (fun hc=>(eI (gx r hc)))<|aM r (bY r r r (fun e=>eO e))<|aF (fr':=[(1,.box 0 0),(3,aI),(65,aB)]) r r<|bP h21 r (fun hb22 h22=>?_) (fun hb22 h22=>?_)
    ·
     refine aH<|sB r<|aF (fr':=[(2,aB)]) r r<|bC<|bA<|aJ<|aJ<|bA<|aJ<|aJ ?_
     have h23:=cS h22 ho8
     have h24:=dQ h23 h6
     obtain rfl:=sy h24
     exact bB (rs':=[.tmp 2]) r<|bH (v:=aB) r<|aZ<|aN [] r r r lr aA
    ·
     exact aW<|bX<|bV<|aQ<|mI r<|aM r (dB r r)<|sI r<|cB (fr':=[(1,.box 0 0),(3,aI),(65,aB)]) r<|rX _ (sy h22) (aU [] 1 r r r r ⟨lr,lr,trivial⟩ (bW r aA))
   ·
    refine eK<|bR<|bR<|dC ?_
    have h26:=cS h11 ho8
    exact gD _ (sy h26) (aU [] 1 r r r r trivial (bW r aA))
  ·
   intro j7 hj27
   have h27:=iC hj27 h6
   refine bV<|aH<|sB r<|aF (fr':=[(2,aB)]) r r<|bC ?_
   obtain rfl:=sy h27
   exact bB (rs':=[.tmp 2]) r<|bH (v:=aB) r<|aZ<|aN [] r r r lr aA
noncomputable def vM (p0C:cW):Option Bool :=
 (nF p0C.Kind (1:Int) (14:Int)).bind fun x1=>(gd ((!x1)==false) (xA p0C)).bind fun x3=>(gd ((!x1)==false) (uK x3 (cW.mk p0C.Kind (0:Int) ([]:List UInt8) ([]:List UInt8) (0:Int) (aC.mk (0:Int) (0:Int) ([]:List UInt8) ([]:(List aC)) ([]:(List (List UInt8)))) (bG.mk ([]:List UInt8) (0:Int) (0:Int) (0:Int) (0:Int) (0:Int) (0:Int) (0:Int) (0:Int) ([]:(List (List UInt8))))))).bind fun x5=>(gd ((cond (!x1) true (!x5))==false) (pV p0C.Data)).bind fun x7=>cond (cond (cond (!x1) true (!x5)) true (!x7)) (some false) ((nF p0C.Seq (1:Int) (2000:Int)).bind fun x11=>(kV p0C.Name).bind fun x13=>(vK p0C.Key).bind fun x15=>cond (decide (p0C.Kind=(1:Int))) ((gd ((cond x11 x13 false)==true) (kI p0C.Opts)).bind fun x18=>some (cond (cond x11 x13 false) x18 false)) (((cond (decide (p0C.Kind=(2:Int))) (some (decide (p0C.Kind=(2:Int)))) (some (decide (p0C.Kind=(4:Int))))):Option Bool).bind fun x21=>(cond x21 (some x11) (cond (decide (p0C.Kind=(3:Int))) ((gd (x11==true) (nF p0C.N (1:Int) (1099511627776:Int))).bind fun x29=>some (cond x11 x29 false)) (cond (decide (p0C.Kind=(5:Int))) ((gd ((cond (cond x11 x13 false) x15 false)==true) (nF p0C.N (0:Int) (2:Int))).bind fun x33=>some (cond (cond (cond x11 x13 false) x15 false) x33 false)) (cond (decide (p0C.Kind=(6:Int))) (some (cond (cond x11 x13 false) x15 false)) (cond (decide (p0C.Kind=(7:Int))) ((gd ((x13==true)&&((decide (p0C.N=(-1:Int)))==false)) (nF p0C.N (0:Int) (2147483647:Int))).bind fun x39=>some (cond x13 (cond (decide (p0C.N=(-1:Int))) true (cond x39 (decide (p0C.Data.Kind=(0:Int))) false)) false)) (cond (decide (p0C.Kind=(8:Int))) (some (cond x15 x13 false)) (cond (decide (p0C.Kind=(9:Int))) ((gd (x15==true) (nF p0C.N (0:Int) (1:Int))).bind fun x45=>some (cond x15 x45 false)) (cond (decide (p0C.Kind=(10:Int))) (some (decide (p0C.Data.Kind=(5:Int)))) (cond (decide (p0C.Kind=(12:Int))) (some (decide (((p0C.Name).length:Int)≤(4096:Int)))) (cond (decide (p0C.Kind=(14:Int))) ((vL p0C.Data).bind fun x53=>some x53) (some true)))))))))))))
theorem aGK {p0C:cW}{res:Bool} (h:vM p0C=some res):bS Tryz.prog 84 [.agg (AV.cs (jO p0C))] [] (.c (.bool res)) []:=by
 unfold vM at h
 refine cJ (fn:=Tryz.f84) [0,1,2,3,4,5,24,35,36,47,51,59,73,82,101,107,115,121,127] (by kernel_rfl) Tryz.func84 r (by kernel_rfl) (by kernel_rfl)<|aH<|fS (v:=.agg aV) (n:=0) (cs:=aV) (σ':=[aV]) r r r r r<|sB r<|aF (fr':=[(1,.box 0 0)]) r r<|aP<|aP<|hF [.q 0,.q 1,.q 2,.q 3,.q 4,.q 5,.q 6,.q 7,.q 8,.q 9,.q 10,.q 11,.q 12,.q 13,.q 14,.q 15,.q 16,.q 17,.q 18] [(some 6,[1]),(some 7,[6]),(some 8,[7]),(some 9,[8]),(some 10,[9]),(some 11,[1,10]),(some 12,[11,10]),(some 13,[1,10]),(some 14,[13,10]),(some 15,[14,10]),(some 16,[12,15,10]),(some 17,[16,10]),(some 18,[10,17]),(some 19,[18]),(some 20,[1,19]),(some 21,[20,19]),(some 22,[21,19]),(some 23,[22,19]),(some 24,[19,23])] [0,1,3,7,15,31,63,31,159,415,1023,2047,4095,8191,16383,32767,65535,131071,262143] (by kernel_rfl)<|dq r r (bD mW r)<|dq r r (aK (v:=aI) eP r r r) ?_
 obtain ⟨x1,hx1,h2⟩:=aE h
 refine d_q r (pD (v:=aB) r (nX hx1) ⟨lr,lr,lr,trivial⟩ r)<|dq r r (eI r)<|dq r r (bE (v:=aB) r)<|d_g r r r (fun hc=>rK r (cN (us:=aV) yU r r r r)) ?_
 obtain ⟨x3,hx3,h4⟩:=aE h2
 refine d_g r r r (fun hc=>pD (v:=.agg aV) r (aIf (cA hx3 hc)) ⟨(eH (gx r hc) (bK r ⟨r,r,r,r,r,r,r,r,r,r,r,r,r,r,r,r,r,r,r,r,trivial⟩)),trivial⟩ r)<|d_g r r r (fun hc=>rK r (bD mW r))<|d_g r r r (fun hc=>rK r (aK (v:=aI) eP (gx r hc) r r))<|d_g r r r (fun hc=>rK r (pU (c0:=cT) (cs:=cT) aNF r (iA (v:=aI) (us:=[_]) (cs':=u20) r (gx r hc) r r r r pR))) ?_
 obtain ⟨x5,hx5,h6⟩:=aE h4
 refine d_g r r r (fun hc=>pD (v:=aB) r (aIe (cA hx5 hc)) ⟨(eH (gx r hc) (bK r ⟨r,r,r,r,r,r,r,r,r,r,r,r,r,r,r,r,r,r,r,r,trivial⟩)),(eH (gx r hc) (bK r ⟨r,r,r,r,r,r,r,r,⟨_,r⟩,⟨_,r⟩,r,r,r,r,r,r,r,r,r,⟨_,r⟩,trivial⟩)),trivial⟩ r)<|d_g r r r (fun hc=>rK r (eI (gx r hc)))<|dq r r (bY r r r (fun e=>eO e))<|dq r r (bE (v:=aB) r)<|d_g r r r (fun hc=>rK r (bD rV r))<|d_g r r r (fun hc=>rK r (cN (us:=bL) fM (gx r hc) r r r)) ?_
 obtain ⟨x7,hx7,h8⟩:=aE h6
 refine d_g r r r (fun hc=>pD (v:=aB) r (yG (cA hx7 hc)) ⟨(eH (gx r hc) (bK r ⟨r,r,r,r,r,trivial⟩)),trivial⟩ r)<|d_g r r r (fun hc=>rK r (eI (gx r hc)))<|dq r r (bY r r r (fun e=>eO e))<|uE (fr':=[(1,.box 0 0),(24,aB)]) r r<|bP h8 r (fun hb9 h9=>?_) (fun hb9 h9=>?_)
 ·
  refine aH<|sB r<|aF (fr':=[(2,aB)]) r r<|bC<|aJ ?_
  obtain rfl:=sy h9
  exact bB (rs':=[.tmp 2]) r<|bH (v:=aB) r<|aZ<|aN [] r r r lr aA
 ·
  refine aW<|bV<|aH<|aM r (bD aBl r)<|aM r (aK (v:=aI) eP r r r) ?_
  obtain ⟨x11,hx11,h12⟩:=aE h9
  refine gV (aX (v:=aB) r (nX hx11) ⟨lr,lr,lr,trivial⟩ r r r)<|sB r<|aF (fr':=[(1,.box 0 0),(3,aB)]) r r<|aH<|aM r (bD xY r)<|aM r (aK (v:=aS) kD r r r) ?_
  obtain ⟨x13,hx13,h14⟩:=aE h12
  refine gV (aX (v:=aB) r (oP hx13) ⟨lr,trivial⟩ r r r)<|sB r<|aF (fr':=[(1,.box 0 0),(3,aB),(4,aB)]) r r<|aH<|aM r (bD aBm r)<|aM r (aK (v:=aS) kD r r r) ?_
  obtain ⟨x15,hx15,h16⟩:=aE h14
  refine gV (aX (v:=aB) r (aGI hx15) ⟨lr,trivial⟩ r r r)<|sB r<|aF (fr':=[(1,.box 0 0),(3,aB),(4,aB),(5,aB)]) r r<|aP<|aH<|aM r (bD mW r)<|aM r (aK (v:=aI) eP r r r)<|aF (fr':=[(1,.box 0 0),(3,aB),(4,aB),(5,aB),(35,aI)]) r r<|bJ<|aH<|aM r (bM r r) ?_
  refine sB r<|aF (fr':=[(1,.box 0 0),(3,aB),(4,aB),(5,aB),(35,aI),(36,aB)]) r r<|bP h16 r (fun hb17 h17=>?_) (fun hb17 h17=>?_)
  ·
   refine aH<|mB r<|mB r<|og r r r (fun hc=>(bE (v:=aB) r))<|aM r (bO r r r (fun e=>eO e))<|mB r<|og r r r (fun hc=>(bD aBn r))<|og r r r (fun hc=>(cN (us:=bZ) wH (gx r hc) r r r)) ?_
   obtain ⟨x18,hx18,h19⟩:=aE h17
   refine sM r r (fun hc=>aX (v:=aB) r (vZ (cA hx18 hc)) ⟨(eH (gx r hc) (bK r ⟨r,r,r,r,r,r,r,r,r,r,trivial⟩)),trivial⟩ (fA (by repeat (first | exact dX | refine aY r ?_ | refine aY (oS r) ?_ | refine aY oR ?_))) r r) ?_
   refine aM r (bO r r r (fun e=>eO e))<|sB r<|aF (fr':=[(2,aB)]) r r<|bC<|bA<|aJ ?_
   obtain rfl:=sy h19
   exact bB (rs':=[.tmp 2]) r<|bH (v:=aB) r<|aZ<|aN [] r r r lr aA
  ·
   obtain ⟨x21,hx21,h22⟩:=aE h17
   refine fY (fun j23=>x21=j23) (fun (j23:Bool)=>([(1,.box 0 0),(3,.c (.bool x11)),(4,.c (.bool x13)),(5,.c (.bool x15)),(35,ci p0C.Kind),(47,.c (.bool j23))]:Fr)) (fun (j23:Bool)=>([[ci p0C.Kind,ci p0C.Seq,.c (.str p0C.Name),.c (.str p0C.Key),ci p0C.N,ci p0C.Data.Kind,ci p0C.Data.Int,.c (.str p0C.Data.Text),.c (PV.ls 5 bF p0C.Data.Items),.c (PV.ls 1 eA p0C.Data.Keys),.c (.str p0C.Opts.Queue),ci p0C.Opts.ToStart,ci p0C.Opts.ToClose,ci p0C.Opts.Total,ci p0C.Opts.Beat,ci p0C.Opts.First,ci p0C.Opts.Coef,ci p0C.Opts.Most,ci p0C.Opts.Attempts,.c (PV.ls 1 eA p0C.Opts.Fatal)]]:St)) ?_ ?_
   ·
    refine aH<|aM r (bM r r)<|sB r<|aF (fr':=[(1,.box 0 0),(3,aB),(4,aB),(5,aB),(35,aI),(47,aB)]) r r<|bP hx21 r (fun hb24 h24=>?_) (fun hb24 h24=>?_)
    ·
     exact aW<|gD _ (sy h24) (aU [] 1 r r r r ⟨lr,lr,lr,lr,lr,lr,trivial⟩ (bW r aA))
    ·
     exact aQ<|aM r (bM r r)<|sB r<|cB (fr':=[(1,.box 0 0),(3,aB),(4,aB),(5,aB),(35,aI),(47,aB)]) r<|gD _ (sy h24) (aU [] 1 r r r r ⟨lr,lr,lr,lr,lr,lr,trivial⟩ (bW r aA))
   ·
    intro j23 hj25
    subst hj25
    refine bP h22 r (fun hb26 h26=>?_) (fun hb26 h26=>?_)
    ·
     refine aH<|mB r<|sB r<|aF (fr':=[(2,aB)]) r r<|bC<|bA<|aJ ?_
     obtain rfl:=sy h26
     exact bB (rs':=[.tmp 2]) r<|bH (v:=aB) r<|aZ<|aN [] r r r lr aA
    ·
     refine aH<|aM r (bM r r)<|sB r<|aF (fr':=[(1,.box 0 0),(3,aB),(4,aB),(5,aB),(35,aI),(51,aB)]) r r<|bP h26 r (fun hb28 h28=>?_) (fun hb28 h28=>?_)
     ·
      refine aH<|mB r<|mB r<|og r r r (fun hc=>(bD pF r))<|og r r r (fun hc=>(aK (v:=aI) eP (gx r hc) r r)) ?_
      obtain ⟨x29,hx29,h30⟩:=aE h28
      refine sM r r (fun hc=>aX (v:=aB) r (nX (cA hx29 hc)) ⟨(eH (gx r hc) lr),lr,lr,trivial⟩ (fA (by repeat (first | exact dX | refine aY r ?_ | refine aY (oS r) ?_ | refine aY oR ?_))) r r) ?_
      refine aM r (bO r r r (fun e=>eO e))<|sB r<|aF (fr':=[(2,aB)]) r r<|bC<|bA<|aJ ?_
      obtain rfl:=sy h30
      exact bB (rs':=[.tmp 2]) r<|bH (v:=aB) r<|aZ<|aN [] r r r lr aA
     ·
      refine aH<|aM r (bM r r)<|sB r<|aF (fr':=[(1,.box 0 0),(3,aB),(4,aB),(5,aB),(35,aI),(59,aB)]) r r<|bP h28 r (fun hb32 h32=>?_) (fun hb32 h32=>?_)
      ·
       refine aH<|mB r<|mB r<|og r r r (fun hc=>(bE (v:=aB) r))<|aM r (bO r r r (fun e=>eO e))<|mB r<|og r r r (fun hc=>(bE (v:=aB) r))<|aM r (bO r r r (fun e=>eO e))<|mB r<|og r r r (fun hc=>(bD pF r))<|og r r r (fun hc=>(aK (v:=aI) eP (gx r hc) r r)) ?_
       obtain ⟨x33,hx33,h34⟩:=aE h32
       refine sM r r (fun hc=>aX (v:=aB) r (nX (cA hx33 hc)) ⟨(eH (gx r hc) lr),lr,lr,trivial⟩ (fA (by repeat (first | exact dX | refine aY r ?_ | refine aY (oS r) ?_ | refine aY oR ?_))) r r) ?_
       refine aM r (bO r r r (fun e=>eO e))<|sB r<|aF (fr':=[(2,aB)]) r r<|bC<|bA<|aJ ?_
       obtain rfl:=sy h34
       exact bB (rs':=[.tmp 2]) r<|bH (v:=aB) r<|aZ<|aN [] r r r lr aA
      ·
       refine aH<|aM r (bM r r)<|sB r<|aF (fr':=[(1,.box 0 0),(3,aB),(4,aB),(5,aB),(35,aI),(73,aB)]) r r<|bP h32 r (fun hb36 h36=>?_) (fun hb36 h36=>?_)
       ·
        refine aH<|mB r<|mB r<|og r r r (fun hc=>(bE (v:=aB) r))<|aM r (bO r r r (fun e=>eO e))<|mB r<|og r r r (fun hc=>(bE (v:=aB) r))<|aM r (bO r r r (fun e=>eO e))<|sB r<|aF (fr':=[(2,aB)]) r r<|bC<|bA ?_
        refine aJ ?_
        obtain rfl:=sy h36
        exact bB (rs':=[.tmp 2]) r<|bH (v:=aB) r<|aZ<|aN [] r r r lr aA
       ·
        refine aH<|aM r (bM r r)<|sB r<|aF (fr':=[(1,.box 0 0),(4,aB),(5,aB),(35,aI),(82,aB)]) r r<|bP h36 r (fun hb38 h38=>?_) (fun hb38 h38=>?_)
        ·
         refine aH<|mB r<|mB r<|og r r r (fun hc=>(bD pF r))<|og r r r (fun hc=>(aK (v:=aI) eP (gx r hc) r r))<|og r r r (fun hc=>(bM (gx r hc) r))<|og r r r (fun hc=>(bE (v:=aB) (gx r hc)))<|eL r r (fun hc=>eS r (bD pF r))<|eL r r (fun hc=>eS r (aK (v:=aI) eP (gx r hc) r r)) ?_
         obtain ⟨x39,hx39,h40⟩:=aE h38
         refine eL r r (fun hc=>aX (v:=aB) r (nX (cA hx39 hc)) ⟨(eH (gx r hc) lr),lr,lr,trivial⟩ (fA (by repeat (first | exact dX | refine aY r ?_ | refine aY (oS r) ?_ | refine aY oR ?_))) r r) ?_
         refine eL r r (fun hc=>eS r (bE (v:=aB) (gx r hc)))<|eL r r (fun hc=>eS r (bD rV r))<|eL r r (fun hc=>eS r (bD gW (gx r hc)))<|eL r r (fun hc=>eS r (aK (v:=aI) eP (gx r hc) r r))<|eL r r (fun hc=>eS r (bM (gx r hc) r))<|eL r r (fun hc=>eS r (bO (gx r hc) r r (fun e=>oC hc (eO e))))<|og r r r (fun hc=>(bY (gx r hc) r r (fun e=>oC hc (eO e))))<|aM r (bO r r r (fun e=>eO e))<|sB r<|aF (fr':=[(2,aB)]) r r<|bC<|bA<|aJ ?_
         obtain rfl:=sy h40
         exact bB (rs':=[.tmp 2]) r<|bH (v:=aB) r<|aZ<|aN [] r r r lr aA
        ·
         refine aH<|aM r (bM r r)<|sB r<|aF (fr':=[(1,.box 0 0),(4,aB),(5,aB),(35,aI),(101,aB)]) r r<|bP h38 r (fun hb42 h42=>?_) (fun hb42 h42=>?_)
         ·
          refine aH<|mB r<|mB r<|og r r r (fun hc=>(bE (v:=aB) r))<|aM r (bO r r r (fun e=>eO e))<|sB r<|aF (fr':=[(2,aB)]) r r<|bC<|bA<|aJ ?_
          obtain rfl:=sy h42
          exact bB (rs':=[.tmp 2]) r<|bH (v:=aB) r<|aZ<|aN [] r r r lr aA
         ·
          refine aH<|aM r (bM r r)<|sB r<|aF (fr':=[(1,.box 0 0),(5,aB),(35,aI),(107,aB)]) r r<|bP h42 r (fun hb44 h44=>?_) (fun hb44 h44=>?_)
          ·
           refine aH<|mB r<|mB r<|og r r r (fun hc=>(bD pF r))<|og r r r (fun hc=>(aK (v:=aI) eP (gx r hc) r r)) ?_
           obtain ⟨x45,hx45,h46⟩:=aE h44
           refine sM r r (fun hc=>aX (v:=aB) r (nX (cA hx45 hc)) ⟨(eH (gx r hc) lr),lr,lr,trivial⟩ (fA (by repeat (first | exact dX | refine aY r ?_ | refine aY (oS r) ?_ | refine aY oR ?_))) r r) ?_
           refine aM r (bO r r r (fun e=>eO e))<|sB r<|aF (fr':=[(2,aB)]) r r<|bC<|bA<|aJ ?_
           obtain rfl:=sy h46
           exact bB (rs':=[.tmp 2]) r<|bH (v:=aB) r<|aZ<|aN [] r r r lr aA
          ·
           refine aH<|aM r (bM r r)<|sB r<|aF (fr':=[(1,.box 0 0),(35,aI),(115,aB)]) r r<|bP h44 r (fun hb48 h48=>?_) (fun hb48 h48=>?_)
           ·
            refine aH<|aM r (bD rV r)<|aM r (bD gW r)<|aM r (aK (v:=aI) eP r r r)<|aM r (bM r r)<|sB r<|aF (fr':=[(2,aB)]) r r<|bC<|bA<|aJ ?_
            obtain rfl:=sy h48
            exact bB (rs':=[.tmp 2]) r<|bH (v:=aB) r<|aZ<|aN [] r r r lr aA
           ·
            refine aH<|aM r (bM r r)<|sB r<|aF (fr':=[(1,.box 0 0),(35,aI),(121,aB)]) r r<|bP h48 r (fun hb50 h50=>?_) (fun hb50 h50=>?_)
            ·
             refine aH<|aM r (bD xY r)<|aM r (aK (v:=aS) kD r r r)<|aM r (gL pJ r)<|aM r (nD r r)<|sB r<|aF (fr':=[(2,aB)]) r r<|bC<|bA<|aJ ?_
             obtain rfl:=sy h50
             exact bB (rs':=[.tmp 2]) r<|bH (v:=aB) r<|aZ<|aN [] r r r lr aA
            ·
             refine aH<|aM r (bM r r)<|sB r<|aF (fr':=[(1,.box 0 0),(127,aB)]) r r<|bP h50 r (fun hb52 h52=>?_) (fun hb52 h52=>?_)
             ·
              refine aH<|aM r (bD rV r)<|aM r (cN (us:=bL) fM r r r r) ?_
              obtain ⟨x53,hx53,h54⟩:=aE h52
              refine gV (aX (v:=aB) r (aGJ hx53) ⟨(bK r ⟨r,r,r,r,r,trivial⟩),trivial⟩ r r r)<|sB r<|aF (fr':=[(2,aB)]) r r<|bC<|bA<|aJ ?_
              obtain rfl:=sy h54
              exact bB (rs':=[.tmp 2]) r<|bH (v:=aB) r<|aZ<|aN [] r r r lr aA
             ·
              refine aW<|bX<|bV<|aH<|sB r<|aF (fr':=[(2,aB)]) r r<|bC ?_
              obtain rfl:=sy h52
              exact bB (rs':=[.tmp 2]) r<|bH (v:=aB) r<|aZ<|aN [] r r r lr aA
end Go.Proofs.YtnigjppddilpcaaGreatDoor
