import Derived.Test.YtnigjppddilpcaaGreatDoorGETy
import Derived.Test.YtnigjppddilpcaaGreatDoorGEF0
import Derived.Test.YtnigjppddilpcaaGreatDoorGEF1
namespace Go.Proofs.YtnigjppddilpcaaGreatDoor
open Go Abs
set_option maxRecDepth 100000
set_option linter.unusedVariables false
set_option linter.unusedSimpArgs false
noncomputable def pH (fL:Int):Option fX :=
 cond (decide (fL=(1:Int))) (some (fX.mk true true false false true true)) (((cond (decide (fL=(2:Int))) (some (decide (fL=(2:Int)))) (some (decide (fL=(4:Int))))):Option Bool).bind fun x3=>(cond x3 (some (fX.mk true false false false false false)) (cond (decide (fL=(3:Int))) (some (fX.mk true false false true false false)) (cond (decide (fL=(5:Int))) (some (fX.mk true true true true true false)) (cond (decide (fL=(6:Int))) (some (fX.mk true true true false true false)) (cond (decide (fL=(7:Int))) (some (fX.mk false true false true true false)) (cond (decide (fL=(8:Int))) (some (fX.mk false true true false true false)) (cond (decide (fL=(9:Int))) (some (fX.mk false false true true true false)) (cond (decide (fL=(12:Int))) (some (fX.mk false true false false true false)) (some (fX.mk false false false false true false)))))))))))
theorem aDG {fL:Int}{res:fX} (h:pH fL=some res):bT Tryz.prog 164 [ci fL] [] (.agg (AV.cs (aAL res))) []:=by
 unfold pH at h
 refine cJ (fn:=Tryz.f164) [0,2,3,4,7,11,14,17,20,23,26,29] (by kernel_rfl) Tryz.func164 r (by kernel_rfl) (by kernel_rfl)<|aH<|hS (n:=0) (cs:=cU) (σ':=[cU]) aNr r r r<|aF (fr':=[(0,aI),(2,.box 0 0)]) r r<|aR<|aH<|mI r<|aF (fr':=[(2,.box 0 0),(3,aI)]) r r<|bL<|aR<|aT ?_
 refine aK r (bO r r)<|sB r<|aF (fr':=[(2,.box 0 0),(3,aI),(4,aB)]) r r<|bS h r (fun hb1 h1=>?_) (fun hb1 h1=>?_)
 ·
  refine aH<|aK r (iF (cs:=cU) aBF r)<|bV (v:=.agg cU) (us:=cU) (cs:=cU) (σ':=[cU]) r qQ r r r r r r r r<|aF (fr':=[(2,.box 0 0)]) r r<|bF<|bH<|aM ?_
  obtain rfl:=sy h1
  exact bE (rs':=[.cell 2 160]) r<|eV (us:=cU) (cs:=cU) qQ r r r r<|bD<|aN [] r r r (bP r ⟨r,r,r,r,r,r,trivial⟩) aC
 ·
  obtain ⟨x3,hx3,h4⟩:=aE h1
  refine fP (fun j5=>x3=j5) (fun (j5:Bool)=>([(2,.box 0 0),(3,ci fL),(7,.c (.bool j5))]:Fr)) (fun (j5:Bool)=>([[.c (.bool false),.c (.bool false),.c (.bool false),.c (.bool false),.c (.bool false),.c (.bool false)]]:St)) ?_ ?_
  ·
   refine aH<|aK r (bO r r)<|sB r<|aF (fr':=[(2,.box 0 0),(3,aI),(7,aB)]) r r<|bS hx3 r (fun hb6 h6=>?_) (fun hb6 h6=>?_)
   ·
    exact aW<|fS _ (sy h6) (aU [] 1 r r r r ⟨lr,lr,lr,trivial⟩ (bJ r aC))
   ·
    exact aT<|aK r (bO r r)<|sB r<|cD (fr':=[(2,.box 0 0),(3,aI),(7,aB)]) r<|fS _ (sy h6) (aU [] 1 r r r r ⟨lr,lr,lr,trivial⟩ (bJ r aC))
  ·
   intro j5 hj7
   subst hj7
   refine bS h4 r (fun hb8 h8=>?_) (fun hb8 h8=>?_)
   ·
    refine aH<|aK r (iF (cs:=cU) aBF r)<|bV (v:=.agg cU) (us:=cU) (cs:=cU) (σ':=[cU]) r qQ r r r r r r r r<|aF (fr':=[(2,.box 0 0)]) r r<|bF<|bH<|aM ?_
    obtain rfl:=sy h8
    exact bE (rs':=[.cell 2 160]) r<|eV (us:=cU) (cs:=cU) qQ r r r r<|bD<|aN [] r r r (bP r ⟨r,r,r,r,r,r,trivial⟩) aC
   ·
    refine aH<|aK r (bO r r)<|sB r<|aF (fr':=[(2,.box 0 0),(3,aI),(11,aB)]) r r<|bS h8 r (fun hb10 h10=>?_) (fun hb10 h10=>?_)
    ·
     refine aH<|aK r (iF (cs:=cU) aBF r)<|bV (v:=.agg cU) (us:=cU) (cs:=cU) (σ':=[cU]) r qQ r r r r r r r r<|aF (fr':=[(2,.box 0 0)]) r r<|bF<|bH<|aM ?_
     obtain rfl:=sy h10
     exact bE (rs':=[.cell 2 160]) r<|eV (us:=cU) (cs:=cU) qQ r r r r<|bD<|aN [] r r r (bP r ⟨r,r,r,r,r,r,trivial⟩) aC
    ·
     refine aH<|aK r (bO r r)<|sB r<|aF (fr':=[(2,.box 0 0),(3,aI),(14,aB)]) r r<|bS h10 r (fun hb12 h12=>?_) (fun hb12 h12=>?_)
     ·
      refine aH<|aK r (iF (cs:=cU) aBF r)<|bV (v:=.agg cU) (us:=cU) (cs:=cU) (σ':=[cU]) r qQ r r r r r r r r<|aF (fr':=[(2,.box 0 0)]) r r<|bF<|bH<|aM ?_
      obtain rfl:=sy h12
      exact bE (rs':=[.cell 2 160]) r<|eV (us:=cU) (cs:=cU) qQ r r r r<|bD<|aN [] r r r (bP r ⟨r,r,r,r,r,r,trivial⟩) aC
     ·
      refine aH<|aK r (bO r r)<|sB r<|aF (fr':=[(2,.box 0 0),(3,aI),(17,aB)]) r r<|bS h12 r (fun hb14 h14=>?_) (fun hb14 h14=>?_)
      ·
       refine aH<|aK r (iF (cs:=cU) aBF r)<|bV (v:=.agg cU) (us:=cU) (cs:=cU) (σ':=[cU]) r qQ r r r r r r r r<|aF (fr':=[(2,.box 0 0)]) r r<|bF<|bH<|aM ?_
       obtain rfl:=sy h14
       exact bE (rs':=[.cell 2 160]) r<|eV (us:=cU) (cs:=cU) qQ r r r r<|bD<|aN [] r r r (bP r ⟨r,r,r,r,r,r,trivial⟩) aC
      ·
       refine aH<|aK r (bO r r)<|sB r<|aF (fr':=[(2,.box 0 0),(3,aI),(20,aB)]) r r<|bS h14 r (fun hb16 h16=>?_) (fun hb16 h16=>?_)
       ·
        refine aH<|aK r (iF (cs:=cU) aBF r)<|bV (v:=.agg cU) (us:=cU) (cs:=cU) (σ':=[cU]) r qQ r r r r r r r r<|aF (fr':=[(2,.box 0 0)]) r r<|bF<|bH<|aM ?_
        obtain rfl:=sy h16
        exact bE (rs':=[.cell 2 160]) r<|eV (us:=cU) (cs:=cU) qQ r r r r<|bD<|aN [] r r r (bP r ⟨r,r,r,r,r,r,trivial⟩) aC
       ·
        refine aH<|aK r (bO r r)<|sB r<|aF (fr':=[(2,.box 0 0),(3,aI),(23,aB)]) r r<|bS h16 r (fun hb18 h18=>?_) (fun hb18 h18=>?_)
        ·
         refine aH<|aK r (iF (cs:=cU) aBF r)<|bV (v:=.agg cU) (us:=cU) (cs:=cU) (σ':=[cU]) r qQ r r r r r r r r<|aF (fr':=[(2,.box 0 0)]) r r<|bF<|bH<|aM ?_
         obtain rfl:=sy h18
         exact bE (rs':=[.cell 2 160]) r<|eV (us:=cU) (cs:=cU) qQ r r r r<|bD<|aN [] r r r (bP r ⟨r,r,r,r,r,r,trivial⟩) aC
        ·
         refine aH<|aK r (bO r r)<|sB r<|aF (fr':=[(2,.box 0 0),(3,aI),(26,aB)]) r r<|bS h18 r (fun hb20 h20=>?_) (fun hb20 h20=>?_)
         ·
          refine aH<|aK r (iF (cs:=cU) aBF r)<|bV (v:=.agg cU) (us:=cU) (cs:=cU) (σ':=[cU]) r qQ r r r r r r r r<|aF (fr':=[(2,.box 0 0)]) r r<|bF<|bH<|aM ?_
          obtain rfl:=sy h20
          exact bE (rs':=[.cell 2 160]) r<|eV (us:=cU) (cs:=cU) qQ r r r r<|bD<|aN [] r r r (bP r ⟨r,r,r,r,r,r,trivial⟩) aC
         ·
          refine aH<|aK r (bO r r)<|sB r<|aF (fr':=[(2,.box 0 0),(29,aB)]) r r<|bS h20 r (fun hb22 h22=>?_) (fun hb22 h22=>?_)
          ·
           refine aH<|aK r (iF (cs:=cU) aBF r)<|bV (v:=.agg cU) (us:=cU) (cs:=cU) (σ':=[cU]) r qQ r r r r r r r r<|aF (fr':=[(2,.box 0 0)]) r r<|bF<|bH<|aM ?_
           obtain rfl:=sy h22
           exact bE (rs':=[.cell 2 160]) r<|eV (us:=cU) (cs:=cU) qQ r r r r<|bD<|aN [] r r r (bP r ⟨r,r,r,r,r,r,trivial⟩) aC
          ·
           refine aW<|bW<|bZ<|aH<|aK r (iF (cs:=cU) aBF r)<|bV (v:=.agg cU) (us:=cU) (cs:=cU) (σ':=[cU]) r qQ r r r r r r r r<|aF (fr':=[(2,.box 0 0)]) r r<|bF ?_
           obtain rfl:=sy h22
           exact bE (rs':=[.cell 2 160]) r<|eV (us:=cU) (cs:=cU) qQ r r r r<|bD<|aN [] r r r (bP r ⟨r,r,r,r,r,r,trivial⟩) aC
noncomputable def iB (wR:(List (List UInt8))) (zE:(List (List UInt8))) (s6:Int):Option (cM Int (Fl Bool Unit)) :=
 cond (decide (s6<((wR).length:Int))) ((jT wR s6).bind fun x8=>(jT zE s6).bind fun x10=>cond (!decide (x8=x10)) (some (cM.out (Fl.done false))) (some (cM.next (IntKind.wrap .i64 (s6+(1:Int)))))) (some (cM.out (Fl.go ())))
noncomputable def gG (wR:(List (List UInt8))) (zE:(List (List UInt8))):Option Bool :=
 cond (!decide (((wR).length:Int)=((zE).length:Int))) (some false) (((eQ (iB wR zE) ((0:Int))):Option (Fl Bool Unit)).bind fun x3=>Fl.next x3 (fun j5=>(some true)))
theorem oL {wR:(List (List UInt8))}{zE:(List (List UInt8))}{res:Bool} (h:gG wR zE=some res):bT Tryz.prog 171 [.c (PV.ls 1 dD wR),.c (PV.ls 1 dD zE)] [] (.c (.bool res)) []:=by
 unfold gG at h
 refine cJ (fn:=Tryz.f171) [0,1,4,5,10,12,13,14,24] (by kernel_rfl) Tryz.func171 r (by kernel_rfl) (by kernel_rfl)<|aH<|sB r<|aF (fr':=[(0,aL),(1,aL)]) r r<|aR<|aH<|mL r<|aK r (eC pU (cR r))<|mL r<|aK r (eC pU (cR r))<|aK r (gM r r) ?_
 refine aF (fr':=[(0,aL),(1,aL),(10,aB)]) r r<|bS h r (fun hb1 h1=>?_) (fun hb1 h1=>?_)
 ·
  refine aH<|sB r<|aF (fr':=[(4,aB)]) r r<|bF<|aM ?_
  obtain rfl:=sy h1
  exact bE (rs':=[.tmp 4]) r<|bG (v:=aB) r<|bD<|aN [] r r r lr aC
 ·
  refine aW<|bZ<|aR<|aH<|mL r<|aK r (eC pU (cR r))<|mI r<|aF (fr':=[(0,aL),(1,aL),(12,aI),(13,aI)]) r r ?_
  obtain ⟨x3,hx3,h4⟩:=aE h1
  refine eR gX (fun j5=>x3=Fl.go j5) (fun (j5:Unit)=>([]:Fr)) (fun (j5:Unit)=>([]:St)) ?_ ?_
  ·
   refine bL<|eK _ (fun (s6:Int)=>([(0,.c (PV.ls 1 dD wR)),(1,.c (PV.ls 1 dD zE)),(12,ci ((wR).length:Int)),(13,ci s6)]:Fr)) (fun (s6:Int)=>([]:St)) hx3 (aU [] 0 r r r r ⟨lr,lr,lr,lr,trivial⟩ aC) ?_
   intro s6 st6 hs6 ho6
   unfold iB at hs6
   refine aH<|aK r (eA r r)<|aF (fr':=[(0,aL),(1,aL),(12,aI),(13,aI),(14,aB)]) r r<|aR<|bS hs6 r (fun hb7 h7=>?_) (fun hb7 h7=>?_)
   ·
    refine aW<|bZ<|aR<|bL<|aH<|mI r<|sI r<|aF (fr':=[(0,aL),(1,aL),(5,aI),(12,aI),(13,aI)]) r r<|aR<|hF [.q 0,.q 1,.q 2,.q 3,.q 4,.q 5,.q 6,.q 7,.q 8] [(some 16,[0]),(some 17,[5]),(some 18,[16,17]),(some 19,[18]),(some 20,[1]),(some 21,[5]),(some 22,[20,21]),(some 23,[22]),(some 24,[19,23])] [0,0,3,7,0,0,48,112,255] (by kernel_rfl)<|dq r r (bC (v:=aL) r)<|dq r r (bC (v:=aI) r) ?_
    obtain ⟨x8,hx8,h9⟩:=aE h7
    refine dq r r (iL (cs:=[PV.str _]) rV (cR r) r hx8 r)<|dq r r (fU (p:=PV.str _) iE r r)<|dq r r (bC (v:=aL) r)<|dq r r (bC (v:=aI) r) ?_
    obtain ⟨x10,hx10,h11⟩:=aE h9
    refine dq r r (iL (cs:=[PV.str _]) rV (cR r) r hx10 r)<|dq r r (fU (p:=PV.str _) iE r r)<|dq r r (rR r r)<|tS (fr':=[(0,aL),(1,aL),(12,aI),(13,aI),(24,aB)]) r r<|bS h11 r (fun hb12 h12=>?_) (fun hb12 h12=>?_)
    ·
     refine aH<|sB r<|aF (fr':=[(4,aB)]) r r<|bF<|bH<|aM<|aM<|bH<|aM<|aM ?_
     have h13:=dB h12 ho6
     have h14:=eH h13 h4
     obtain rfl:=sy h14
     exact bE (rs':=[.tmp 4]) r<|bG (v:=aB) r<|bD<|aN [] r r r lr aC
    ·
     exact aW<|bW<|bZ<|aT<|aK r (dZ r r)<|mI r<|cD (fr':=[(0,aL),(1,aL),(12,aI),(13,aI),(24,aB)]) r<|tU _ (sy h12) (aU [] 0 r r r r ⟨lr,lr,lr,lr,trivial⟩ aC)
   ·
    refine eZ<|bY<|bY<|dX ?_
    have h16:=dB h7 ho6
    exact fS _ (sy h16) (aU [] 0 r r r r trivial aC)
  ·
   intro j5 hj17
   have h17:=iS hj17 h4
   refine bZ<|aH<|sB r<|aF (fr':=[(4,aB)]) r r<|bF ?_
   obtain rfl:=sy h17
   exact bE (rs':=[.tmp 4]) r<|bG (v:=aB) r<|bD<|aN [] r r r lr aC
noncomputable def dG (aFz:aG→aG→Option Bool) (wR:(List aG)) (zE:(List aG)) (s6:Int):Option (cM Int (Fl Bool Unit)) :=
 cond (decide (s6<((wR).length:Int))) ((jT wR s6).bind fun x8=>(jT zE s6).bind fun x10=>(aFz x8 x10).bind fun x12=>cond (!x12) (some (cM.out (Fl.done false))) (some (cM.next (IntKind.wrap .i64 (s6+(1:Int)))))) (some (cM.out (Fl.go ())))
mutual
noncomputable def cL:Nat→(List aG)→(List aG)→Option Bool
 | 0,_,_=>none
 | n+1,wR,zE =>
  cond (!decide (((wR).length:Int)=((zE).length:Int))) (some false) (((eQ (dG (pV n) wR zE) ((0:Int))):Option (Fl Bool Unit)).bind fun x3=>Fl.next x3 (fun j5=>(some true)))
noncomputable def pV:Nat→aG→aG→Option Bool
 | 0,_,_=>none
 | n+1,p0a,p1b =>
  (gd ((cond (cond (decide (p0a.Kind=p1b.Kind)) (decide (p0a.Int=p1b.Int)) false) (decide (p0a.Text=p1b.Text)) false)==true) (gG p0a.Keys p1b.Keys)).bind fun x1=>(gd ((cond (cond (cond (decide (p0a.Kind=p1b.Kind)) (decide (p0a.Int=p1b.Int)) false) (decide (p0a.Text=p1b.Text)) false) x1 false)==true) ((cL n) p0a.Items p1b.Items)).bind fun x3=>some (cond (cond (cond (cond (decide (p0a.Kind=p1b.Kind)) (decide (p0a.Int=p1b.Int)) false) (decide (p0a.Text=p1b.Text)) false) x1 false) x3 false)
end
theorem iA:∀ n:Nat,(∀ {wR:(List aG)}{zE:(List aG)}{res:Bool},cL n wR zE=some res→bT Tryz.prog 172 [.c (PV.ls 5 bB wR),.c (PV.ls 5 bB zE),.fn 116 []] [] (.c (.bool res)) [])∧(∀ {p0a:aG}{p1b:aG}{res:Bool},pV n p0a p1b=some res→bT Tryz.prog 116 [.agg (AV.cs (cV p0a)),.agg (AV.cs (cV p1b))] [] (.c (.bool res)) []):=by
 intro n
 induction n with
 | zero=>exact ⟨fun {wR zE res} h=>absurd h (by simp [cL]),fun {p0a p1b res} h=>absurd h (by simp [pV])⟩
 | succ n ih =>
  obtain ⟨ih_slices_EqualFunc_api_Value_api_Value_api_Value_api_Value_value_Same,ih_value_Same⟩:=ih
  refine ⟨?_,?_⟩
  ·
   intro wR zE res h
   rw [cL] at h
   refine cJ (fn:=Tryz.f172) [0,1,2,6,7,8,9,14,15,16,17,18,30] (by kernel_rfl) Tryz.func172 r (by kernel_rfl) (by kernel_rfl)<|aH<|sB r<|aF (fr':=[(0,aL),(1,aL),(2,.fn _ [])]) r r<|aR<|aH<|mL r<|aK r (eC qM (cR r))<|mL r<|aK r (eC qM (cR r))<|aK r (gM r r) ?_
   refine aF (fr':=[(0,aL),(1,aL),(2,.fn _ []),(14,aB)]) r r<|bS h r (fun hb1 h1=>?_) (fun hb1 h1=>?_)
   ·
    refine aH<|sB r<|aF (fr':=[(6,aB)]) r r<|bF<|aM ?_
    obtain rfl:=sy h1
    exact bE (rs':=[.tmp 6]) r<|bG (v:=aB) r<|bD<|aN [] r r r lr aC
   ·
    refine aW<|bZ<|aR<|aH<|mL r<|aK r (eC qM (cR r))<|mI r<|aF (fr':=[(1,aL),(2,.fn _ []),(15,aL),(16,aI),(17,aI)]) r r ?_
    obtain ⟨x3,hx3,h4⟩:=aE h1
    refine eR gX (fun j5=>x3=Fl.go j5) (fun (j5:Unit)=>([]:Fr)) (fun (j5:Unit)=>([]:St)) ?_ ?_
    ·
     refine bL<|eK _ (fun (s6:Int)=>([(1,.c (PV.ls 5 bB zE)),(2,.fn 116 []),(15,.c (PV.ls 5 bB wR)),(16,ci ((wR).length:Int)),(17,ci s6)]:Fr)) (fun (s6:Int)=>([]:St)) hx3 (aU [] 0 r r r r ⟨lr,lr,lr,lr,lr,trivial⟩ aC) ?_
     intro s6 st6 hs6 ho6
     unfold dG at hs6
     refine aH<|aK r (eA r r)<|aF (fr':=[(1,aL),(2,.fn _ []),(15,aL),(16,aI),(17,aI),(18,aB)]) r r<|aR<|bS hs6 r (fun hb7 h7=>?_) (fun hb7 h7=>?_)
     ·
      refine aW<|bZ<|aR<|bL<|aH<|mI r ?_
      obtain ⟨x8,hx8,h9⟩:=aE h7
      refine aK r (iL (cs:=[PV.int _ _,PV.int _ _,PV.str _,PV.ls _ _ _,PV.ls _ _ _]) tO (cR r) r hx8 (cY _))<|aK r (hG (us:=[PV.int _ _,PV.int _ _,PV.str _,PV.ls _ _ _,PV.ls _ _ _]) fV r r r)<|hS (n:=0) (cs:=bU) (σ':=[bU]) aDC r r r<|sI r<|bV (v:=.agg bQ) (us:=bQ) (cs:=bU) (σ':=[bQ]) r fV r r r r r r r r<|aF (fr':=[(1,aL),(2,.fn _ []),(7,aI),(8,.box 0 0),(15,aL),(16,aI),(17,aI)]) r r<|aH<|mL r<|mI r ?_
      obtain ⟨x10,hx10,h11⟩:=aE h9
      refine aK r (iL (cs:=[PV.int _ _,PV.int _ _,PV.str _,PV.ls _ _ _,PV.ls _ _ _]) tO (cR r) r hx10 (cY _))<|aK r (hG (us:=[PV.int _ _,PV.int _ _,PV.str _,PV.ls _ _ _,PV.ls _ _ _]) fV r r r)<|hS (n:=1) (cs:=bU) (σ':=[bQ,bU]) aDC r r r<|bV (v:=.agg bQ) (us:=bQ) (cs:=bU) (σ':=[bQ,bQ]) r fV r r r r r r r r<|aF (fr':=[(1,aL),(2,.fn _ []),(8,.box 0 0),(9,.box 1 0),(15,aL),(16,aI),(17,aI)]) r r<|aH<|mV (v:=.fn _ []) r<|aK r (cN (us:=bQ) fV r r r r)<|aK r (cN (us:=bQ) fV r r r r) ?_
      obtain ⟨x12,hx12,h13⟩:=aE h11
      refine gW (aY (v:=aB) r (ih_value_Same hx12) ⟨(bP r ⟨r,r,r,r,r,trivial⟩),(bP r ⟨r,r,r,r,r,trivial⟩),trivial⟩ r r r)<|aK r (eD r)<|aF (fr':=[(1,aL),(2,.fn _ []),(15,aL),(16,aI),(17,aI),(30,aB)]) r r<|bS h13 r (fun hb14 h14=>?_) (fun hb14 h14=>?_)
      ·
       refine aH<|sB r<|aF (fr':=[(6,aB)]) r r<|bF<|bH<|aM<|aM<|bH<|aM<|aM ?_
       have h15:=dB h14 ho6
       have h16:=eH h15 h4
       obtain rfl:=sy h16
       exact bE (rs':=[.tmp 6]) r<|bG (v:=aB) r<|bD<|aN [] r r r lr aC
      ·
       exact aW<|bW<|bZ<|aT<|aK r (dZ r r)<|mI r<|cD (fr':=[(1,aL),(2,.fn _ []),(15,aL),(16,aI),(17,aI),(30,aB)]) r<|tU _ (sy h14) (aU [] 0 r r r r ⟨lr,lr,lr,lr,lr,trivial⟩ aC)
     ·
      refine eZ<|bY<|bY<|dX ?_
      have h18:=dB h7 ho6
      exact fS _ (sy h18) (aU [] 0 r r r r trivial aC)
    ·
     intro j5 hj19
     have h19:=iS hj19 h4
     refine bZ<|aH<|sB r<|aF (fr':=[(6,aB)]) r r<|bF ?_
     obtain rfl:=sy h19
     exact bE (rs':=[.tmp 6]) r<|bG (v:=aB) r<|bD<|aN [] r r r lr aC
  ·
   intro p0a p1b res h
   rw [pV] at h
   refine cJ (fn:=Tryz.f116) [0,1,2,3,4] (by kernel_rfl) Tryz.func116 r (by kernel_rfl) (by kernel_rfl)<|aH<|fW (v:=.agg bQ) (n:=0) (cs:=bQ) (σ':=[bQ]) r r r r r<|fW (v:=.agg bQ) (n:=1) (cs:=bQ) (σ':=[bQ,bQ]) r r r r r<|sB r<|aF (fr':=[(2,.box 0 0),(3,.box 1 0)]) r r<|aH<|aK r (aZ iR r)<|aK r (aJ (v:=aI) eB r r r)<|aK r (aZ iR r)<|aK r (aJ (v:=aI) eB r r r) ?_
   refine aK r (bO r r)<|mB r<|og r r r (fun hc=>(aZ mY r))<|og r r r (fun hc=>(aJ (v:=aI) eB (gx r hc) r r))<|og r r r (fun hc=>(aZ mY r))<|og r r r (fun hc=>(aJ (v:=aI) eB (gx r hc) r r))<|og r r r (fun hc=>(bO (gx r hc) (gx r hc)))<|aK r (bM r r r (fun e=>eI e))<|mB r<|og r r r (fun hc=>(aZ oA r))<|og r r r (fun hc=>(aJ (v:=aS) iE (gx r hc) r r))<|og r r r (fun hc=>(aZ oA r))<|og r r r (fun hc=>(aJ (v:=aS) iE (gx r hc) r r)) ?_
   refine og r r r (fun hc=>(kX (gx r hc) (gx r hc)))<|aK r (bM r r r (fun e=>eI e))<|mB r<|og r r r (fun hc=>(aZ jW r))<|og r r r (fun hc=>(aJ (v:=aL) lN (gx r hc) r r))<|og r r r (fun hc=>(aZ jW r))<|og r r r (fun hc=>(aJ (v:=aL) lN (gx r hc) r r)) ?_
   obtain ⟨x1,hx1,h2⟩:=aE h
   refine rZ r r (fun hc=>aY (v:=aB) r (oL (cG hx1 hc)) ⟨(dW (gx r hc) lr),(dW (gx r hc) lr),trivial⟩ (fC (by repeat (first | exact dT | refine aX r ?_ | refine aX (oQ r) ?_ | refine aX oP ?_))) r r) ?_
   refine aK r (bM r r r (fun e=>eI e))<|mB r<|og r r r (fun hc=>(aZ fM r))<|og r r r (fun hc=>(aJ (v:=aL) kD (gx r hc) r r))<|og r r r (fun hc=>(aZ fM r))<|og r r r (fun hc=>(aJ (v:=aL) kD (gx r hc) r r)) ?_
   obtain ⟨x3,hx3,h4⟩:=aE h2
   refine rZ r r (fun hc=>aY (v:=aB) r (ih_slices_EqualFunc_api_Value_api_Value_api_Value_api_Value_value_Same (cG hx3 hc)) ⟨(dW (gx r hc) lr),(dW (gx r hc) lr),lr,trivial⟩ (fC (by repeat (first | exact dT | refine aX r ?_ | refine aX (oQ r) ?_ | refine aX oP ?_))) r r) ?_
   refine aK r (bM r r r (fun e=>eI e))<|sB r<|aF (fr':=[(4,aB)]) r r<|bF ?_
   obtain rfl:=sy h4
   exact bE (rs':=[.tmp 4]) r<|bG (v:=aB) r<|bD<|aN [] r r r lr aC
noncomputable def zS (p0a:aG) (p1b:aG):Option Bool:=lim fun n=>pV n p0a p1b
theorem aC3 {p0a:aG}{p1b:aG}{res:Bool} (h:zS p0a p1b=some res):bT Tryz.prog 116 [.agg (AV.cs (cV p0a)),.agg (AV.cs (cV p1b))] [] (.c (.bool res)) []:=by
 obtain ⟨n,hn⟩:=kR h
 exact (iA n).2 hn
noncomputable def jD (p0a:cE) (p1b:cE):Option Bool :=
 (kK p0a).bind fun x1=>(kK p1b).bind fun x4=>cond (!decide (p0a.ToStart=p1b.ToStart)) (some false) (cond (!decide (p0a.ToClose=p1b.ToClose)) (some false) (cond (!decide (p0a.Total=p1b.Total)) (some false) (cond (!decide (p0a.Beat=p1b.Beat)) (some false) (cond (!decide (p0a.First=p1b.First)) (some false) (cond (!decide (p0a.Coef=p1b.Coef)) (some false) (cond (!decide (p0a.Most=p1b.Most)) (some false) (cond (!decide (p0a.Attempts=p1b.Attempts)) (some false) ((gd ((decide (p0a.Queue=p1b.Queue))==true) (gG p0a.Fatal p1b.Fatal)).bind fun x23=>some (cond (decide (p0a.Queue=p1b.Queue)) x23 false)))))))))
theorem vC {p0a:cE}{p1b:cE}{res:Bool} (h:jD p0a p1b=some res):bT Tryz.prog 117 [.agg (AV.cs (iG p0a)),.agg (AV.cs (iG p1b))] [] (.c (.bool res)) []:=by
 unfold jD at h
 refine cJ (fn:=Tryz.f117) [0,1,2,3,4,5,6,7,11,12,13,27] (by kernel_rfl) Tryz.func117 r (by kernel_rfl) (by kernel_rfl)<|aH<|fW (v:=.agg cI) (n:=0) (cs:=cI) (σ':=[cI]) r r r r r<|fW (v:=.agg cI) (n:=1) (cs:=cI) (σ':=[cI,cI]) r r r r r<|sB r<|aF (fr':=[(2,.box 0 0),(3,.box 1 0)]) r r<|aR<|aT ?_
 obtain ⟨x1,hx1,h2⟩:=aE h
 refine xN (v:=.ptrs [(0,1),(0,2),(0,3),(0,4),(0,5),(0,6),(0,7),(0,8)]) (σ':=[cI,cI]) 8 [0] [] r (tL hx1) r r r ⟨lr,trivial⟩ (fJ ⟨r,r,r,r,r,r,r,r,r,r,trivial⟩ aC) r r r ?_
 obtain ⟨x4,hx4,h5⟩:=aE h2
 refine xN (v:=.ptrs [(1,1),(1,2),(1,3),(1,4),(1,5),(1,6),(1,7),(1,8)]) (σ':=[cI,cI]) 9 [1] [] r (tL hx4) r r r ⟨lr,trivial⟩ (fJ ⟨r,r,r,r,r,r,r,r,r,r,trivial⟩ aC) r r r<|sV (v:=.ptrs [(0,1),(0,2),(0,3),(0,4),(0,5),(0,6),(0,7),(0,8)]) r<|sV (v:=.ptrs [(1,1),(1,2),(1,3),(1,4),(1,5),(1,6),(1,7),(1,8)]) r<|aF (fr':=[(2,.box 0 0),(3,.box 1 0),(5,.ptrs [(0,1),(0,2),(0,3),(0,4),(0,5),(0,6),(0,7),(0,8)]),(6,.ptrs [(1,1),(1,2),(1,3),(1,4),(1,5),(1,6),(1,7),(1,8)])]) r r<|aR<|aH<|mV (v:=.ptrs [(0,1),(0,2),(0,3),(0,4),(0,5),(0,6),(0,7),(0,8)]) r<|aK r (aJ7 aPq r)<|mI r<|aF (fr':=[(2,.box 0 0),(3,.box 1 0),(5,.ptrs [(0,1),(0,2),(0,3),(0,4),(0,5),(0,6),(0,7),(0,8)]),(6,.ptrs [(1,1),(1,2),(1,3),(1,4),(1,5),(1,6),(1,7),(1,8)]),(11,aI),(12,aI)]) r r<|bL<|aNu 64 ?_
 refine tY<|aH<|aK r (vH (eA r r) (show _=.bool true from r))<|aF (fr':=[(2,.box 0 0),(3,.box 1 0),(5,.ptrs [(0,1),(0,2),(0,3),(0,4),(0,5),(0,6),(0,7),(0,8)]),(6,.ptrs [(1,1),(1,2),(1,3),(1,4),(1,5),(1,6),(1,7),(1,8)]),(11,aI),(12,aI),(13,aB)]) r r<|aR<|gZ r<|aW<|bZ<|aR<|bL<|aR<|aT ?_
 refine mI r<|sI r<|aF (fr':=[(2,.box 0 0),(3,.box 1 0),(5,.ptrs [(0,1),(0,2),(0,3),(0,4),(0,5),(0,6),(0,7),(0,8)]),(6,.ptrs [(1,1),(1,2),(1,3),(1,4),(1,5),(1,6),(1,7),(1,8)]),(7,aI),(11,aI),(12,aI)]) r r<|aR<|hF [.q 0,.q 1,.q 2,.q 3,.q 4,.q 5,.q 6,.q 7,.q 8,.q 9,.q 10,.q 11,.q 12] [(some 15,[5]),(some 16,[7]),(some 17,[15,16]),(some 18,[17]),(some 19,[18]),(some 20,[19]),(some 21,[6]),(some 22,[7]),(some 23,[21,22]),(some 24,[23]),(some 25,[24]),(some 26,[25]),(some 27,[20,26])] [0,0,3,7,15,31,0,0,192,448,960,1984,4095] (by kernel_rfl)<|dq r r (bC (v:=.ptrs [(0,1),(0,2),(0,3),(0,4),(0,5),(0,6),(0,7),(0,8)]) r)<|dq r r (bC (v:=aI) r)<|dq r r (lD (p:=(0,1)) qN r r r)<|dq r r (gI rC r)<|dq r r (gE r)<|dq r r (aJ (v:=aI) eB r r r)<|dq r r (bC (v:=.ptrs [(1,1),(1,2),(1,3),(1,4),(1,5),(1,6),(1,7),(1,8)]) r)<|dq r r (bC (v:=aI) r) ?_
 refine dq r r (lD (p:=(1,1)) qN r r r)<|dq r r (gI rC r)<|dq r r (gE r)<|dq r r (aJ (v:=aI) eB r r r)<|dq r r (gM r r)<|tS (fr':=[(2,.box 0 0),(3,.box 1 0),(5,.ptrs [(0,1),(0,2),(0,3),(0,4),(0,5),(0,6),(0,7),(0,8)]),(6,.ptrs [(1,1),(1,2),(1,3),(1,4),(1,5),(1,6),(1,7),(1,8)]),(11,aI),(12,aI),(27,aB)]) r r<|bS h5 r (fun hb7 h7=>?_) (fun hb7 h7=>?_)
 ·
  refine aH<|sB r<|aF (fr':=[(4,aB)]) r r<|bF<|bH<|aM<|aM<|bH<|aM ?_
  obtain rfl:=sy h7
  exact bE (rs':=[.tmp 4]) r<|bG (v:=aB) r<|bD<|aN [] r r r lr aC
 ·
  refine aW<|bW<|bZ<|aT<|aK r (vH (dZ r r) (show _=.int .i64 (1:Int) from r))<|mI r<|cD (fr':=[(2,.box 0 0),(3,.box 1 0),(5,.ptrs [(0,1),(0,2),(0,3),(0,4),(0,5),(0,6),(0,7),(0,8)]),(6,.ptrs [(1,1),(1,2),(1,3),(1,4),(1,5),(1,6),(1,7),(1,8)]),(11,aI),(12,aI),(27,aB)]) r<|iK<|tY<|aH<|aK r (vH (eA r r) (show _=.bool true from r))<|aF (fr':=[(2,.box 0 0),(3,.box 1 0),(5,.ptrs [(0,1),(0,2),(0,3),(0,4),(0,5),(0,6),(0,7),(0,8)]),(6,.ptrs [(1,1),(1,2),(1,3),(1,4),(1,5),(1,6),(1,7),(1,8)]),(11,aI),(12,aI),(13,aB)]) r r ?_
  refine aR<|gZ r<|aW<|bZ<|aR<|bL<|aH<|mI r<|sI r<|aF (fr':=[(2,.box 0 0),(3,.box 1 0),(5,.ptrs [(0,1),(0,2),(0,3),(0,4),(0,5),(0,6),(0,7),(0,8)]),(6,.ptrs [(1,1),(1,2),(1,3),(1,4),(1,5),(1,6),(1,7),(1,8)]),(7,aI),(11,aI),(12,aI)]) r r<|aR<|hF [.q 0,.q 1,.q 2,.q 3,.q 4,.q 5,.q 6,.q 7,.q 8,.q 9,.q 10,.q 11,.q 12] [(some 15,[5]),(some 16,[7]),(some 17,[15,16]),(some 18,[17]),(some 19,[18]),(some 20,[19]),(some 21,[6]),(some 22,[7]),(some 23,[21,22]),(some 24,[23]),(some 25,[24]),(some 26,[25]),(some 27,[20,26])] [0,0,3,7,15,31,0,0,192,448,960,1984,4095] (by kernel_rfl) ?_
  refine dq r r (bC (v:=.ptrs [(0,1),(0,2),(0,3),(0,4),(0,5),(0,6),(0,7),(0,8)]) r)<|dq r r (bC (v:=aI) r)<|dq r r (lD (p:=(0,2)) qN r r r)<|dq r r (gI rC r)<|dq r r (gE r)<|dq r r (aJ (v:=aI) eB r r r)<|dq r r (bC (v:=.ptrs [(1,1),(1,2),(1,3),(1,4),(1,5),(1,6),(1,7),(1,8)]) r)<|dq r r (bC (v:=aI) r)<|dq r r (lD (p:=(1,2)) qN r r r)<|dq r r (gI rC r)<|dq r r (gE r)<|dq r r (aJ (v:=aI) eB r r r)<|dq r r (gM r r) ?_
  refine tS (fr':=[(2,.box 0 0),(3,.box 1 0),(5,.ptrs [(0,1),(0,2),(0,3),(0,4),(0,5),(0,6),(0,7),(0,8)]),(6,.ptrs [(1,1),(1,2),(1,3),(1,4),(1,5),(1,6),(1,7),(1,8)]),(11,aI),(12,aI),(27,aB)]) r r<|bS h7 r (fun hb9 h9=>?_) (fun hb9 h9=>?_)
  ·
   refine aH<|sB r<|aF (fr':=[(4,aB)]) r r<|bF<|bH<|aM<|aM<|bH<|aM ?_
   obtain rfl:=sy h9
   exact bE (rs':=[.tmp 4]) r<|bG (v:=aB) r<|bD<|aN [] r r r lr aC
  ·
   refine aW<|bW<|bZ<|aT<|aK r (vH (dZ r r) (show _=.int .i64 (2:Int) from r))<|mI r<|cD (fr':=[(2,.box 0 0),(3,.box 1 0),(5,.ptrs [(0,1),(0,2),(0,3),(0,4),(0,5),(0,6),(0,7),(0,8)]),(6,.ptrs [(1,1),(1,2),(1,3),(1,4),(1,5),(1,6),(1,7),(1,8)]),(11,aI),(12,aI),(27,aB)]) r<|iK<|tY<|aH<|aK r (vH (eA r r) (show _=.bool true from r))<|aF (fr':=[(2,.box 0 0),(3,.box 1 0),(5,.ptrs [(0,1),(0,2),(0,3),(0,4),(0,5),(0,6),(0,7),(0,8)]),(6,.ptrs [(1,1),(1,2),(1,3),(1,4),(1,5),(1,6),(1,7),(1,8)]),(11,aI),(12,aI),(13,aB)]) r r ?_
   refine aR<|gZ r<|aW<|bZ<|aR<|bL<|aH<|mI r<|sI r<|aF (fr':=[(2,.box 0 0),(3,.box 1 0),(5,.ptrs [(0,1),(0,2),(0,3),(0,4),(0,5),(0,6),(0,7),(0,8)]),(6,.ptrs [(1,1),(1,2),(1,3),(1,4),(1,5),(1,6),(1,7),(1,8)]),(7,aI),(11,aI),(12,aI)]) r r<|aR<|hF [.q 0,.q 1,.q 2,.q 3,.q 4,.q 5,.q 6,.q 7,.q 8,.q 9,.q 10,.q 11,.q 12] [(some 15,[5]),(some 16,[7]),(some 17,[15,16]),(some 18,[17]),(some 19,[18]),(some 20,[19]),(some 21,[6]),(some 22,[7]),(some 23,[21,22]),(some 24,[23]),(some 25,[24]),(some 26,[25]),(some 27,[20,26])] [0,0,3,7,15,31,0,0,192,448,960,1984,4095] (by kernel_rfl) ?_
   refine dq r r (bC (v:=.ptrs [(0,1),(0,2),(0,3),(0,4),(0,5),(0,6),(0,7),(0,8)]) r)<|dq r r (bC (v:=aI) r)<|dq r r (lD (p:=(0,3)) qN r r r)<|dq r r (gI rC r)<|dq r r (gE r)<|dq r r (aJ (v:=aI) eB r r r)<|dq r r (bC (v:=.ptrs [(1,1),(1,2),(1,3),(1,4),(1,5),(1,6),(1,7),(1,8)]) r)<|dq r r (bC (v:=aI) r)<|dq r r (lD (p:=(1,3)) qN r r r)<|dq r r (gI rC r)<|dq r r (gE r)<|dq r r (aJ (v:=aI) eB r r r)<|dq r r (gM r r) ?_
   refine tS (fr':=[(2,.box 0 0),(3,.box 1 0),(5,.ptrs [(0,1),(0,2),(0,3),(0,4),(0,5),(0,6),(0,7),(0,8)]),(6,.ptrs [(1,1),(1,2),(1,3),(1,4),(1,5),(1,6),(1,7),(1,8)]),(11,aI),(12,aI),(27,aB)]) r r<|bS h9 r (fun hb11 h11=>?_) (fun hb11 h11=>?_)
   ·
    refine aH<|sB r<|aF (fr':=[(4,aB)]) r r<|bF<|bH<|aM<|aM<|bH<|aM ?_
    obtain rfl:=sy h11
    exact bE (rs':=[.tmp 4]) r<|bG (v:=aB) r<|bD<|aN [] r r r lr aC
   ·
    refine aW<|bW<|bZ<|aT<|aK r (vH (dZ r r) (show _=.int .i64 (3:Int) from r))<|mI r<|cD (fr':=[(2,.box 0 0),(3,.box 1 0),(5,.ptrs [(0,1),(0,2),(0,3),(0,4),(0,5),(0,6),(0,7),(0,8)]),(6,.ptrs [(1,1),(1,2),(1,3),(1,4),(1,5),(1,6),(1,7),(1,8)]),(11,aI),(12,aI),(27,aB)]) r<|iK<|tY<|aH<|aK r (vH (eA r r) (show _=.bool true from r))<|aF (fr':=[(2,.box 0 0),(3,.box 1 0),(5,.ptrs [(0,1),(0,2),(0,3),(0,4),(0,5),(0,6),(0,7),(0,8)]),(6,.ptrs [(1,1),(1,2),(1,3),(1,4),(1,5),(1,6),(1,7),(1,8)]),(11,aI),(12,aI),(13,aB)]) r r ?_
    refine aR<|gZ r<|aW<|bZ<|aR<|bL<|aH<|mI r<|sI r<|aF (fr':=[(2,.box 0 0),(3,.box 1 0),(5,.ptrs [(0,1),(0,2),(0,3),(0,4),(0,5),(0,6),(0,7),(0,8)]),(6,.ptrs [(1,1),(1,2),(1,3),(1,4),(1,5),(1,6),(1,7),(1,8)]),(7,aI),(11,aI),(12,aI)]) r r<|aR<|hF [.q 0,.q 1,.q 2,.q 3,.q 4,.q 5,.q 6,.q 7,.q 8,.q 9,.q 10,.q 11,.q 12] [(some 15,[5]),(some 16,[7]),(some 17,[15,16]),(some 18,[17]),(some 19,[18]),(some 20,[19]),(some 21,[6]),(some 22,[7]),(some 23,[21,22]),(some 24,[23]),(some 25,[24]),(some 26,[25]),(some 27,[20,26])] [0,0,3,7,15,31,0,0,192,448,960,1984,4095] (by kernel_rfl) ?_
    refine dq r r (bC (v:=.ptrs [(0,1),(0,2),(0,3),(0,4),(0,5),(0,6),(0,7),(0,8)]) r)<|dq r r (bC (v:=aI) r)<|dq r r (lD (p:=(0,4)) qN r r r)<|dq r r (gI rC r)<|dq r r (gE r)<|dq r r (aJ (v:=aI) eB r r r)<|dq r r (bC (v:=.ptrs [(1,1),(1,2),(1,3),(1,4),(1,5),(1,6),(1,7),(1,8)]) r)<|dq r r (bC (v:=aI) r)<|dq r r (lD (p:=(1,4)) qN r r r)<|dq r r (gI rC r)<|dq r r (gE r)<|dq r r (aJ (v:=aI) eB r r r)<|dq r r (gM r r) ?_
    refine tS (fr':=[(2,.box 0 0),(3,.box 1 0),(5,.ptrs [(0,1),(0,2),(0,3),(0,4),(0,5),(0,6),(0,7),(0,8)]),(6,.ptrs [(1,1),(1,2),(1,3),(1,4),(1,5),(1,6),(1,7),(1,8)]),(11,aI),(12,aI),(27,aB)]) r r<|bS h11 r (fun hb13 h13=>?_) (fun hb13 h13=>?_)
    ·
     refine aH<|sB r<|aF (fr':=[(4,aB)]) r r<|bF<|bH<|aM<|aM<|bH<|aM ?_
     obtain rfl:=sy h13
     exact bE (rs':=[.tmp 4]) r<|bG (v:=aB) r<|bD<|aN [] r r r lr aC
    ·
     refine aW<|bW<|bZ<|aT<|aK r (vH (dZ r r) (show _=.int .i64 (4:Int) from r))<|mI r<|cD (fr':=[(2,.box 0 0),(3,.box 1 0),(5,.ptrs [(0,1),(0,2),(0,3),(0,4),(0,5),(0,6),(0,7),(0,8)]),(6,.ptrs [(1,1),(1,2),(1,3),(1,4),(1,5),(1,6),(1,7),(1,8)]),(11,aI),(12,aI),(27,aB)]) r<|iK<|tY<|aH<|aK r (vH (eA r r) (show _=.bool true from r))<|aF (fr':=[(2,.box 0 0),(3,.box 1 0),(5,.ptrs [(0,1),(0,2),(0,3),(0,4),(0,5),(0,6),(0,7),(0,8)]),(6,.ptrs [(1,1),(1,2),(1,3),(1,4),(1,5),(1,6),(1,7),(1,8)]),(11,aI),(12,aI),(13,aB)]) r r ?_
     refine aR<|gZ r<|aW<|bZ<|aR<|bL<|aH<|mI r<|sI r<|aF (fr':=[(2,.box 0 0),(3,.box 1 0),(5,.ptrs [(0,1),(0,2),(0,3),(0,4),(0,5),(0,6),(0,7),(0,8)]),(6,.ptrs [(1,1),(1,2),(1,3),(1,4),(1,5),(1,6),(1,7),(1,8)]),(7,aI),(11,aI),(12,aI)]) r r<|aR<|hF [.q 0,.q 1,.q 2,.q 3,.q 4,.q 5,.q 6,.q 7,.q 8,.q 9,.q 10,.q 11,.q 12] [(some 15,[5]),(some 16,[7]),(some 17,[15,16]),(some 18,[17]),(some 19,[18]),(some 20,[19]),(some 21,[6]),(some 22,[7]),(some 23,[21,22]),(some 24,[23]),(some 25,[24]),(some 26,[25]),(some 27,[20,26])] [0,0,3,7,15,31,0,0,192,448,960,1984,4095] (by kernel_rfl) ?_
     refine dq r r (bC (v:=.ptrs [(0,1),(0,2),(0,3),(0,4),(0,5),(0,6),(0,7),(0,8)]) r)<|dq r r (bC (v:=aI) r)<|dq r r (lD (p:=(0,5)) qN r r r)<|dq r r (gI rC r)<|dq r r (gE r)<|dq r r (aJ (v:=aI) eB r r r)<|dq r r (bC (v:=.ptrs [(1,1),(1,2),(1,3),(1,4),(1,5),(1,6),(1,7),(1,8)]) r)<|dq r r (bC (v:=aI) r)<|dq r r (lD (p:=(1,5)) qN r r r)<|dq r r (gI rC r)<|dq r r (gE r)<|dq r r (aJ (v:=aI) eB r r r)<|dq r r (gM r r) ?_
     refine tS (fr':=[(2,.box 0 0),(3,.box 1 0),(5,.ptrs [(0,1),(0,2),(0,3),(0,4),(0,5),(0,6),(0,7),(0,8)]),(6,.ptrs [(1,1),(1,2),(1,3),(1,4),(1,5),(1,6),(1,7),(1,8)]),(11,aI),(12,aI),(27,aB)]) r r<|bS h13 r (fun hb15 h15=>?_) (fun hb15 h15=>?_)
     ·
      refine aH<|sB r<|aF (fr':=[(4,aB)]) r r<|bF<|bH<|aM<|aM<|bH<|aM ?_
      obtain rfl:=sy h15
      exact bE (rs':=[.tmp 4]) r<|bG (v:=aB) r<|bD<|aN [] r r r lr aC
     ·
      refine aW<|bW<|bZ<|aT<|aK r (vH (dZ r r) (show _=.int .i64 (5:Int) from r))<|mI r<|cD (fr':=[(2,.box 0 0),(3,.box 1 0),(5,.ptrs [(0,1),(0,2),(0,3),(0,4),(0,5),(0,6),(0,7),(0,8)]),(6,.ptrs [(1,1),(1,2),(1,3),(1,4),(1,5),(1,6),(1,7),(1,8)]),(11,aI),(12,aI),(27,aB)]) r<|iK<|tY<|aH<|aK r (vH (eA r r) (show _=.bool true from r))<|aF (fr':=[(2,.box 0 0),(3,.box 1 0),(5,.ptrs [(0,1),(0,2),(0,3),(0,4),(0,5),(0,6),(0,7),(0,8)]),(6,.ptrs [(1,1),(1,2),(1,3),(1,4),(1,5),(1,6),(1,7),(1,8)]),(11,aI),(12,aI),(13,aB)]) r r ?_
      refine aR<|gZ r<|aW<|bZ<|aR<|bL<|aH<|mI r<|sI r<|aF (fr':=[(2,.box 0 0),(3,.box 1 0),(5,.ptrs [(0,1),(0,2),(0,3),(0,4),(0,5),(0,6),(0,7),(0,8)]),(6,.ptrs [(1,1),(1,2),(1,3),(1,4),(1,5),(1,6),(1,7),(1,8)]),(7,aI),(11,aI),(12,aI)]) r r<|aR<|hF [.q 0,.q 1,.q 2,.q 3,.q 4,.q 5,.q 6,.q 7,.q 8,.q 9,.q 10,.q 11,.q 12] [(some 15,[5]),(some 16,[7]),(some 17,[15,16]),(some 18,[17]),(some 19,[18]),(some 20,[19]),(some 21,[6]),(some 22,[7]),(some 23,[21,22]),(some 24,[23]),(some 25,[24]),(some 26,[25]),(some 27,[20,26])] [0,0,3,7,15,31,0,0,192,448,960,1984,4095] (by kernel_rfl) ?_
      refine dq r r (bC (v:=.ptrs [(0,1),(0,2),(0,3),(0,4),(0,5),(0,6),(0,7),(0,8)]) r)<|dq r r (bC (v:=aI) r)<|dq r r (lD (p:=(0,6)) qN r r r)<|dq r r (gI rC r)<|dq r r (gE r)<|dq r r (aJ (v:=aI) eB r r r)<|dq r r (bC (v:=.ptrs [(1,1),(1,2),(1,3),(1,4),(1,5),(1,6),(1,7),(1,8)]) r)<|dq r r (bC (v:=aI) r)<|dq r r (lD (p:=(1,6)) qN r r r)<|dq r r (gI rC r)<|dq r r (gE r)<|dq r r (aJ (v:=aI) eB r r r)<|dq r r (gM r r) ?_
      refine tS (fr':=[(2,.box 0 0),(3,.box 1 0),(5,.ptrs [(0,1),(0,2),(0,3),(0,4),(0,5),(0,6),(0,7),(0,8)]),(6,.ptrs [(1,1),(1,2),(1,3),(1,4),(1,5),(1,6),(1,7),(1,8)]),(11,aI),(12,aI),(27,aB)]) r r<|bS h15 r (fun hb17 h17=>?_) (fun hb17 h17=>?_)
      ·
       refine aH<|sB r<|aF (fr':=[(4,aB)]) r r<|bF<|bH<|aM<|aM<|bH<|aM ?_
       obtain rfl:=sy h17
       exact bE (rs':=[.tmp 4]) r<|bG (v:=aB) r<|bD<|aN [] r r r lr aC
      ·
       refine aW<|bW<|bZ<|aT<|aK r (vH (dZ r r) (show _=.int .i64 (6:Int) from r))<|mI r<|cD (fr':=[(2,.box 0 0),(3,.box 1 0),(5,.ptrs [(0,1),(0,2),(0,3),(0,4),(0,5),(0,6),(0,7),(0,8)]),(6,.ptrs [(1,1),(1,2),(1,3),(1,4),(1,5),(1,6),(1,7),(1,8)]),(11,aI),(12,aI),(27,aB)]) r<|iK<|tY<|aH<|aK r (vH (eA r r) (show _=.bool true from r))<|aF (fr':=[(2,.box 0 0),(3,.box 1 0),(5,.ptrs [(0,1),(0,2),(0,3),(0,4),(0,5),(0,6),(0,7),(0,8)]),(6,.ptrs [(1,1),(1,2),(1,3),(1,4),(1,5),(1,6),(1,7),(1,8)]),(11,aI),(12,aI),(13,aB)]) r r ?_
       refine aR<|gZ r<|aW<|bZ<|aR<|bL<|aH<|mI r<|sI r<|aF (fr':=[(2,.box 0 0),(3,.box 1 0),(5,.ptrs [(0,1),(0,2),(0,3),(0,4),(0,5),(0,6),(0,7),(0,8)]),(6,.ptrs [(1,1),(1,2),(1,3),(1,4),(1,5),(1,6),(1,7),(1,8)]),(7,aI),(11,aI),(12,aI)]) r r<|aR<|hF [.q 0,.q 1,.q 2,.q 3,.q 4,.q 5,.q 6,.q 7,.q 8,.q 9,.q 10,.q 11,.q 12] [(some 15,[5]),(some 16,[7]),(some 17,[15,16]),(some 18,[17]),(some 19,[18]),(some 20,[19]),(some 21,[6]),(some 22,[7]),(some 23,[21,22]),(some 24,[23]),(some 25,[24]),(some 26,[25]),(some 27,[20,26])] [0,0,3,7,15,31,0,0,192,448,960,1984,4095] (by kernel_rfl) ?_
       refine dq r r (bC (v:=.ptrs [(0,1),(0,2),(0,3),(0,4),(0,5),(0,6),(0,7),(0,8)]) r)<|dq r r (bC (v:=aI) r)<|dq r r (lD (p:=(0,7)) qN r r r)<|dq r r (gI rC r)<|dq r r (gE r)<|dq r r (aJ (v:=aI) eB r r r)<|dq r r (bC (v:=.ptrs [(1,1),(1,2),(1,3),(1,4),(1,5),(1,6),(1,7),(1,8)]) r)<|dq r r (bC (v:=aI) r)<|dq r r (lD (p:=(1,7)) qN r r r)<|dq r r (gI rC r)<|dq r r (gE r)<|dq r r (aJ (v:=aI) eB r r r)<|dq r r (gM r r) ?_
       refine tS (fr':=[(2,.box 0 0),(3,.box 1 0),(5,.ptrs [(0,1),(0,2),(0,3),(0,4),(0,5),(0,6),(0,7),(0,8)]),(6,.ptrs [(1,1),(1,2),(1,3),(1,4),(1,5),(1,6),(1,7),(1,8)]),(11,aI),(12,aI),(27,aB)]) r r<|bS h17 r (fun hb19 h19=>?_) (fun hb19 h19=>?_)
       ·
        refine aH<|sB r<|aF (fr':=[(4,aB)]) r r<|bF<|bH<|aM<|aM<|bH<|aM ?_
        obtain rfl:=sy h19
        exact bE (rs':=[.tmp 4]) r<|bG (v:=aB) r<|bD<|aN [] r r r lr aC
       ·
        refine aW<|bW<|bZ<|aT<|aK r (vH (dZ r r) (show _=.int .i64 (7:Int) from r))<|mI r<|cD (fr':=[(2,.box 0 0),(3,.box 1 0),(5,.ptrs [(0,1),(0,2),(0,3),(0,4),(0,5),(0,6),(0,7),(0,8)]),(6,.ptrs [(1,1),(1,2),(1,3),(1,4),(1,5),(1,6),(1,7),(1,8)]),(11,aI),(12,aI),(27,aB)]) r<|iK<|tY<|aH<|aK r (vH (eA r r) (show _=.bool true from r))<|aF (fr':=[(2,.box 0 0),(3,.box 1 0),(5,.ptrs [(0,1),(0,2),(0,3),(0,4),(0,5),(0,6),(0,7),(0,8)]),(6,.ptrs [(1,1),(1,2),(1,3),(1,4),(1,5),(1,6),(1,7),(1,8)]),(11,aI),(12,aI),(13,aB)]) r r ?_
        refine aR<|gZ r<|aW<|bZ<|aR<|bL<|aH<|mI r<|sI r<|aF (fr':=[(2,.box 0 0),(3,.box 1 0),(5,.ptrs [(0,1),(0,2),(0,3),(0,4),(0,5),(0,6),(0,7),(0,8)]),(6,.ptrs [(1,1),(1,2),(1,3),(1,4),(1,5),(1,6),(1,7),(1,8)]),(7,aI),(11,aI),(12,aI)]) r r<|aR<|hF [.q 0,.q 1,.q 2,.q 3,.q 4,.q 5,.q 6,.q 7,.q 8,.q 9,.q 10,.q 11,.q 12] [(some 15,[5]),(some 16,[7]),(some 17,[15,16]),(some 18,[17]),(some 19,[18]),(some 20,[19]),(some 21,[6]),(some 22,[7]),(some 23,[21,22]),(some 24,[23]),(some 25,[24]),(some 26,[25]),(some 27,[20,26])] [0,0,3,7,15,31,0,0,192,448,960,1984,4095] (by kernel_rfl) ?_
        refine dq r r (bC (v:=.ptrs [(0,1),(0,2),(0,3),(0,4),(0,5),(0,6),(0,7),(0,8)]) r)<|dq r r (bC (v:=aI) r)<|dq r r (lD (p:=(0,8)) qN r r r)<|dq r r (gI rC r)<|dq r r (gE r)<|dq r r (aJ (v:=aI) eB r r r)<|dq r r (bC (v:=.ptrs [(1,1),(1,2),(1,3),(1,4),(1,5),(1,6),(1,7),(1,8)]) r)<|dq r r (bC (v:=aI) r)<|dq r r (lD (p:=(1,8)) qN r r r)<|dq r r (gI rC r)<|dq r r (gE r)<|dq r r (aJ (v:=aI) eB r r r)<|dq r r (gM r r) ?_
        refine tS (fr':=[(2,.box 0 0),(3,.box 1 0),(5,.ptrs [(0,1),(0,2),(0,3),(0,4),(0,5),(0,6),(0,7),(0,8)]),(6,.ptrs [(1,1),(1,2),(1,3),(1,4),(1,5),(1,6),(1,7),(1,8)]),(11,aI),(12,aI),(27,aB)]) r r<|bS h19 r (fun hb21 h21=>?_) (fun hb21 h21=>?_)
        ·
         refine aH<|sB r<|aF (fr':=[(4,aB)]) r r<|bF<|bH<|aM<|aM<|bH<|aM ?_
         obtain rfl:=sy h21
         exact bE (rs':=[.tmp 4]) r<|bG (v:=aB) r<|bD<|aN [] r r r lr aC
        ·
         refine aW<|bW<|bZ<|aT<|aK r (vH (dZ r r) (show _=.int .i64 (8:Int) from r))<|mI r<|cD (fr':=[(2,.box 0 0),(3,.box 1 0),(5,.ptrs [(0,1),(0,2),(0,3),(0,4),(0,5),(0,6),(0,7),(0,8)]),(6,.ptrs [(1,1),(1,2),(1,3),(1,4),(1,5),(1,6),(1,7),(1,8)]),(11,aI),(12,aI),(27,aB)]) r<|iK<|tY<|aH<|aK r (vH (eA r r) (show _=.bool false from r))<|aF (fr':=[(2,.box 0 0),(3,.box 1 0),(5,.ptrs [(0,1),(0,2),(0,3),(0,4),(0,5),(0,6),(0,7),(0,8)]),(6,.ptrs [(1,1),(1,2),(1,3),(1,4),(1,5),(1,6),(1,7),(1,8)]),(11,aI),(12,aI),(13,aB)]) r r ?_
         refine aR<|aAZ r<|eZ<|bY<|bY<|dX<|bZ<|aH<|aK r (aZ wZ r)<|aK r (aJ (v:=aS) iE r r r)<|aK r (aZ wZ r)<|aK r (aJ (v:=aS) iE r r r) ?_
         refine aK r (kX r r)<|mB r<|og r r r (fun hc=>(aZ mZ r))<|og r r r (fun hc=>(aJ (v:=aL) lN (gx r hc) r r))<|og r r r (fun hc=>(aZ mZ r))<|og r r r (fun hc=>(aJ (v:=aL) lN (gx r hc) r r)) ?_
         obtain ⟨x23,hx23,h24⟩:=aE h21
         refine rZ r r (fun hc=>aY (v:=aB) r (oL (cG hx23 hc)) ⟨(dW (gx r hc) lr),(dW (gx r hc) lr),trivial⟩ (fC (by repeat (first | exact dT | refine aX r ?_ | refine aX (oQ r) ?_ | refine aX oP ?_))) r r) ?_
         refine aK r (bM r r r (fun e=>eI e))<|sB r<|aF (fr':=[(4,aB)]) r r<|bF ?_
         obtain rfl:=sy h24
         exact bE (rs':=[.tmp 4]) r<|bG (v:=aB) r<|bD<|aN [] r r r lr aC
noncomputable def sJ (p0c:bI) (p1u:fX):Option Bool :=
 (gd (((cond (cond (cond (cond p1u.seq_ true (decide (p0c.Seq=(0:Int)))) (cond p1u.name_ true (decide (p0c.Name=([]:List UInt8)))) false) (cond p1u.key_ true (decide (p0c.Key=([]:List UInt8)))) false) (cond p1u.n_ true (decide (p0c.N=(0:Int)))) false)==true)&&(p1u.data_==false)) (zS p0c.Data (aG.mk (0:Int) (0:Int) ([]:List UInt8) ([]:(List aG)) ([]:(List (List UInt8)))))).bind fun x1=>(gd (((cond (cond (cond (cond (cond p1u.seq_ true (decide (p0c.Seq=(0:Int)))) (cond p1u.name_ true (decide (p0c.Name=([]:List UInt8)))) false) (cond p1u.key_ true (decide (p0c.Key=([]:List UInt8)))) false) (cond p1u.n_ true (decide (p0c.N=(0:Int)))) false) (cond p1u.data_ true x1) false)==true)&&(p1u.opts_==false)) (jD p0c.Opts (cE.mk ([]:List UInt8) (0:Int) (0:Int) (0:Int) (0:Int) (0:Int) (0:Int) (0:Int) (0:Int) ([]:(List (List UInt8)))))).bind fun x3=>some (cond (cond (cond (cond (cond (cond p1u.seq_ true (decide (p0c.Seq=(0:Int)))) (cond p1u.name_ true (decide (p0c.Name=([]:List UInt8)))) false) (cond p1u.key_ true (decide (p0c.Key=([]:List UInt8)))) false) (cond p1u.n_ true (decide (p0c.N=(0:Int)))) false) (cond p1u.data_ true x1) false) (cond p1u.opts_ true x3) false)
theorem aFT {p0c:bI}{p1u:fX}{res:Bool} (h:sJ p0c p1u=some res):bT Tryz.prog 165 [.agg (AV.cs (bR p0c)),.agg (AV.cs (aAL p1u))] [] (.c (.bool res)) []:=by
 unfold sJ at h
 refine cJ (fn:=Tryz.f165) [0,1,2,3,4] (by kernel_rfl) Tryz.func165 r (by kernel_rfl) (by kernel_rfl)<|aH<|fW (v:=.agg aP) (n:=0) (cs:=aP) (σ':=[aP]) r r r r r<|fW (v:=.agg cU) (n:=1) (cs:=cU) (σ':=[aP,cU]) r r r r r<|sB r<|aF (fr':=[(2,.box 0 0),(3,.box 1 0)]) r r<|aH<|aK r (aZ aK3 r)<|aK r (aJ (v:=aB) tv4 r r r)<|mB r<|og r r r (fun hc=>(aZ vX r)) ?_
 refine og r r r (fun hc=>(aJ (v:=aI) eB (gx r hc) r r))<|og r r r (fun hc=>(bO (gx r hc) r))<|aK r (bX r r r (fun e=>eI e))<|mB r<|og r r r (fun hc=>(aZ aK4 r))<|og r r r (fun hc=>(aJ (v:=aB) tv4 (gx r hc) r r))<|og r r r (fun hc=>(bC (v:=aB) (gx r hc)))<|eJ r r (fun hc=>eU r (aZ tG r))<|eJ r r (fun hc=>eU r (aJ (v:=aS) iE (gx r hc) r r))<|eJ r r (fun hc=>eU r (kX (gx r hc) r))<|og r r r (fun hc=>(bX (gx r hc) r r (fun e=>oO hc (eI e))))<|aK r (bM r r r (fun e=>eI e))<|mB r ?_
 refine og r r r (fun hc=>(aZ aK5 r))<|og r r r (fun hc=>(aJ (v:=aB) tv4 (gx r hc) r r))<|og r r r (fun hc=>(bC (v:=aB) (gx r hc)))<|eJ r r (fun hc=>eU r (aZ vY r))<|eJ r r (fun hc=>eU r (aJ (v:=aS) iE (gx r hc) r r))<|eJ r r (fun hc=>eU r (kX (gx r hc) r))<|og r r r (fun hc=>(bX (gx r hc) r r (fun e=>oO hc (eI e))))<|aK r (bM r r r (fun e=>eI e))<|mB r<|og r r r (fun hc=>(aZ aOh r))<|og r r r (fun hc=>(aJ (v:=aB) tv4 (gx r hc) r r))<|og r r r (fun hc=>(bC (v:=aB) (gx r hc)))<|eJ r r (fun hc=>eU r (aZ mO r)) ?_
 refine eJ r r (fun hc=>eU r (aJ (v:=aI) eB (gx r hc) r r))<|eJ r r (fun hc=>eU r (bO (gx r hc) r))<|og r r r (fun hc=>(bX (gx r hc) r r (fun e=>oO hc (eI e))))<|aK r (bM r r r (fun e=>eI e))<|mB r<|og r r r (fun hc=>(aZ aOi r))<|og r r r (fun hc=>(aJ (v:=aB) tv4 (gx r hc) r r))<|og r r r (fun hc=>(bC (v:=aB) (gx r hc)))<|eJ r r (fun hc=>eU r (aZ nZ r))<|eJ r r (fun hc=>eU r (cN (us:=bQ) fV (gx r hc) r r r))<|eJ r r (fun hc=>eU r (iF (cs:=bU) aEk r)) ?_
 obtain ⟨x1,hx1,h2⟩:=aE h
 refine eJ r r (fun hc=>aY (v:=aB) r (aC3 (cG hx1 hc)) ⟨(dW (gx r hc) (bP r ⟨r,r,r,r,r,trivial⟩)),(dW (gx r hc) (bP r ⟨r,r,r,⟨_,r⟩,⟨_,r⟩,trivial⟩)),trivial⟩ (fC (by repeat (first | exact dT | refine aX r ?_ | refine aX (oQ r) ?_ | refine aX oP ?_))) r r) ?_
 refine og r r r (fun hc=>(bX (gx r hc) r r (fun e=>oO hc (eI e))))<|aK r (bM r r r (fun e=>eI e))<|mB r<|og r r r (fun hc=>(aZ aOj r))<|og r r r (fun hc=>(aJ (v:=aB) tv4 (gx r hc) r r))<|og r r r (fun hc=>(bC (v:=aB) (gx r hc)))<|eJ r r (fun hc=>eU r (aZ uL r))<|eJ r r (fun hc=>eU r (cN (us:=cI) yM (gx r hc) r r r))<|eJ r r (fun hc=>eU r (gR (c0:=bN) (cs:=bN) aOb r gQ)) ?_
 obtain ⟨x3,hx3,h4⟩:=aE h2
 refine eJ r r (fun hc=>aY (v:=aB) r (vC (cG hx3 hc)) ⟨(dW (gx r hc) (bP r ⟨r,r,r,r,r,r,r,r,r,r,trivial⟩)),(dW (gx r hc) (bP r ⟨r,r,r,r,r,r,r,r,r,⟨_,r⟩,trivial⟩)),trivial⟩ (fC (by repeat (first | exact dT | refine aX r ?_ | refine aX (oQ r) ?_ | refine aX oP ?_))) r r) ?_
 refine og r r r (fun hc=>(bX (gx r hc) r r (fun e=>oO hc (eI e))))<|aK r (bM r r r (fun e=>eI e))<|sB r<|aF (fr':=[(4,aB)]) r r<|bF ?_
 obtain rfl:=sy h4
 exact bE (rs':=[.tmp 4]) r<|bG (v:=aB) r<|bD<|aN [] r r r lr aC
noncomputable def pY (p0s:(List UInt8)) (s4:Int):Option (cM Int (Fl Bool Unit)) :=
 cond (decide (s4<((p0s).length:Int))) ((jT p0s s4).bind fun x6=>(gd ((decide (((x6).toNat:Int)<(33:Int)))==false) (jT p0s s4)).bind fun x8=>(gd ((cond (decide (((x6).toNat:Int)<(33:Int))) true (decide ((126:Int)<((x8).toNat:Int))))==false) (jT p0s s4)).bind fun x10=>(gd ((cond (cond (decide (((x6).toNat:Int)<(33:Int))) true (decide ((126:Int)<((x8).toNat:Int)))) true (decide (((x10).toNat:Int)=(47:Int))))==false) (jT p0s s4)).bind fun x12=>cond (cond (cond (cond (decide (((x6).toNat:Int)<(33:Int))) true (decide ((126:Int)<((x8).toNat:Int)))) true (decide (((x10).toNat:Int)=(47:Int)))) true (decide (((x12).toNat:Int)=(34:Int)))) (some (cM.out (Fl.done false))) (some (cM.next (IntKind.wrap .i64 (s4+(1:Int)))))) (some (cM.out (Fl.go ())))
noncomputable def oN (p0s:(List UInt8)):Option Bool :=
 ((eQ (pY p0s) ((0:Int))):Option (Fl Bool Unit)).bind fun x1=>Fl.next x1 (fun j3=>((hY ((p0s).length:Int) (1:Int) (64:Int)).bind fun x20=>some x20))
theorem aEq {p0s:(List UInt8)}{res:Bool} (h:oN p0s=some res):bT Tryz.prog 166 [.c (.str p0s)] [] (.c (.bool res)) []:=by
 unfold oN at h
 refine cJ (fn:=Tryz.f166) [0,2,3,5,6,7,30] (by kernel_rfl) Tryz.func166 r (by kernel_rfl) (by kernel_rfl)<|aH<|sB r<|aF (fr':=[(0,aS)]) r r<|aR<|aH<|mS r<|aK r (gS nJ r)<|mI r<|aF (fr':=[(0,aS),(5,aI),(6,aI)]) r r ?_
 obtain ⟨x1,hx1,h2⟩:=aE h
 refine eR gX (fun j3=>x1=Fl.go j3) (fun (j3:Unit)=>([(0,.c (.str p0s))]:Fr)) (fun (j3:Unit)=>([]:St)) ?_ ?_
 ·
  refine bL<|eK _ (fun (s4:Int)=>([(0,.c (.str p0s)),(5,ci ((p0s).length:Int)),(6,ci s4)]:Fr)) (fun (s4:Int)=>([]:St)) hx1 (aU [] 0 r r r r ⟨lr,lr,lr,trivial⟩ aC) ?_
  intro s4 st4 hs4 ho4
  unfold pY at hs4
  refine aH<|aK r (eA r r)<|aF (fr':=[(0,aS),(5,aI),(6,aI),(7,aB)]) r r<|aR<|bS hs4 r (fun hb5 h5=>?_) (fun hb5 h5=>?_)
  ·
   refine aW<|bZ<|aR<|bL<|aH<|mI r<|sI r<|aF (fr':=[(0,aS),(3,aI),(5,aI),(6,aI)]) r r<|aH<|mS r<|mI r ?_
   obtain ⟨x6,hx6,h7⟩:=aE h5
   refine aK r (xI nJ r r hx6)<|aK r (eA r r)<|mB r<|og r r r (fun hc=>(bC (v:=aS) r))<|og r r r (fun hc=>(bC (v:=aI) r)) ?_
   obtain ⟨x8,hx8,h9⟩:=aE h7
   refine og r r r (fun hc=>(xI nJ (gx r hc) (gx r hc) (cG hx8 hc)))<|og r r r (fun hc=>(mG (gx r hc) r))<|aK r (bX r r r (fun e=>eI e))<|mB r<|og r r r (fun hc=>(bC (v:=aS) r))<|og r r r (fun hc=>(bC (v:=aI) r)) ?_
   obtain ⟨x10,hx10,h11⟩:=aE h9
   refine og r r r (fun hc=>(xI nJ (gx r hc) (gx r hc) (cG hx10 hc)))<|og r r r (fun hc=>(bO (gx r hc) r))<|aK r (bX r r r (fun e=>eI e))<|mB r<|og r r r (fun hc=>(bC (v:=aS) r))<|og r r r (fun hc=>(bC (v:=aI) r)) ?_
   obtain ⟨x12,hx12,h13⟩:=aE h11
   refine og r r r (fun hc=>(xI nJ (gx r hc) (gx r hc) (cG hx12 hc)))<|og r r r (fun hc=>(bO (gx r hc) r))<|aK r (bX r r r (fun e=>eI e))<|aF (fr':=[(0,aS),(5,aI),(6,aI),(30,aB)]) r r<|bS h13 r (fun hb14 h14=>?_) (fun hb14 h14=>?_)
   ·
    refine aH<|sB r<|aF (fr':=[(2,aB)]) r r<|bF<|bH<|aM<|aM<|bH<|aM<|aM ?_
    have h15:=dB h14 ho4
    have h16:=eH h15 h2
    obtain rfl:=sy h16
    exact bE (rs':=[.tmp 2]) r<|bG (v:=aB) r<|bD<|aN [] r r r lr aC
   ·
    exact aW<|bW<|bZ<|aT<|aK r (dZ r r)<|mI r<|cD (fr':=[(0,aS),(5,aI),(6,aI),(30,aB)]) r<|tU _ (sy h14) (aU [] 0 r r r r ⟨lr,lr,lr,trivial⟩ aC)
  ·
   refine eZ<|bY<|bY<|dX ?_
   have h18:=dB h5 ho4
   exact fS _ (sy h18) (aU [] 0 r r r r ⟨lr,trivial⟩ aC)
 ·
  intro j3 hj19
  have h19:=iS hj19 h2
  refine bZ<|aH<|mS r<|aK r (gS nJ r) ?_
  obtain ⟨x20,hx20,h21⟩:=aE h19
  refine gW (aY (v:=aB) r (iT hx20) ⟨lr,lr,lr,trivial⟩ r r r)<|sB r<|aF (fr':=[(2,aB)]) r r<|bF ?_
  obtain rfl:=sy h21
  exact bE (rs':=[.tmp 2]) r<|bG (v:=aB) r<|bD<|aN [] r r r lr aC
noncomputable def oJ (p0x:aG):Option Bool :=
 (gd ((cond (!decide (p0x.Kind=(4:Int))) true (!decide (((p0x.Items).length:Int)=(2:Int))))==false) (jT p0x.Items (0:Int))).bind fun x1=>(gd ((cond (cond (!decide (p0x.Kind=(4:Int))) true (!decide (((p0x.Items).length:Int)=(2:Int)))) true (!decide (x1.Kind=(3:Int))))==false) (jT p0x.Items (0:Int))).bind fun x3=>(gd ((cond (cond (!decide (p0x.Kind=(4:Int))) true (!decide (((p0x.Items).length:Int)=(2:Int)))) true (!decide (x1.Kind=(3:Int))))==false) (pK x3.Text)).bind fun x5=>some (cond (cond (cond (!decide (p0x.Kind=(4:Int))) true (!decide (((p0x.Items).length:Int)=(2:Int)))) true (!decide (x1.Kind=(3:Int)))) true (!x5))
theorem aCX {p0x:aG}{res:Bool} (h:oJ p0x=some res):bT Tryz.prog 216 [.agg (AV.cs (cV p0x))] [] (.c (.bool res)) []:=by
 unfold oJ at h
 refine cJ (fn:=Tryz.f216) [0,1,2] (by kernel_rfl) Tryz.func216 r (by kernel_rfl) (by kernel_rfl)<|aH<|fW (v:=.agg bQ) (n:=0) (cs:=bQ) (σ':=[bQ]) r r r r r<|sB r<|aF (fr':=[(1,.box 0 0)]) r r<|aH<|aK r (aZ iR r)<|aK r (aJ (v:=aI) eB r r r)<|aK r (gM r r)<|mB r<|og r r r (fun hc=>(aZ fM r)) ?_
 refine og r r r (fun hc=>(aJ (v:=aL) kD (gx r hc) r r))<|og r r r (fun hc=>(eC qM (cR (gx r hc))))<|og r r r (fun hc=>(gM (gx r hc) r))<|aK r (bX r r r (fun e=>eI e))<|mB r<|og r r r (fun hc=>(aZ fM r))<|og r r r (fun hc=>(aJ (v:=aL) kD (gx r hc) r r)) ?_
 obtain ⟨x1,hx1,h2⟩:=aE h
 refine og r r r (fun hc=>(iL (cs:=[PV.int _ _,PV.int _ _,PV.str _,PV.ls _ _ _,PV.ls _ _ _]) tO (cR (gx r hc)) r (cG hx1 hc) (cY _)))<|og r r r (fun hc=>(aCI iR (gx r hc)))<|og r r r (fun hc=>(fU (p:=PV.int _ _) eB (gx r hc) r))<|og r r r (fun hc=>(gM (gx r hc) r))<|aK r (bX r r r (fun e=>eI e))<|mB r<|og r r r (fun hc=>(aZ fM r))<|og r r r (fun hc=>(aJ (v:=aL) kD (gx r hc) r r)) ?_
 obtain ⟨x3,hx3,h4⟩:=aE h2
 refine og r r r (fun hc=>(iL (cs:=[PV.int _ _,PV.int _ _,PV.str _,PV.ls _ _ _,PV.ls _ _ _]) tO (cR (gx r hc)) r (cG hx3 hc) (cY _)))<|og r r r (fun hc=>(aCI oA (gx r hc)))<|og r r r (fun hc=>(fU (p:=PV.str _) iE (gx r hc) r)) ?_
 obtain ⟨x5,hx5,h6⟩:=aE h4
 refine rZ r r (fun hc=>aY (v:=aB) r (wC (cG hx5 hc)) ⟨(dW (gx r hc) lr),trivial⟩ (fC (by repeat (first | exact dT | refine aX r ?_ | refine aX (oQ r) ?_ | refine aX oP ?_))) r r) ?_
 refine og r r r (fun hc=>(eD (gx r hc)))<|aK r (bX r r r (fun e=>eI e))<|sB r<|aF (fr':=[(2,aB)]) r r<|bF ?_
 obtain rfl:=sy h6
 exact bE (rs':=[.tmp 2]) r<|bG (v:=aB) r<|bD<|aN [] r r r lr aC
end Go.Proofs.YtnigjppddilpcaaGreatDoor
