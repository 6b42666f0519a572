import Derived.Test.YtnigjppddilpcaaGreatDoorGETy
import Derived.Test.YtnigjppddilpcaaGreatDoorGEF0
import Derived.Test.YtnigjppddilpcaaGreatDoorGEF1
namespace Go.Proofs.YtnigjppddilpcaaGreatDoor
open Go Abs
set_option maxRecDepth 100000
set_option linter.unusedVariables false
set_option linter.unusedSimpArgs false
noncomputable def oP (gF:Int):Option fQ :=
 cond (decide (gF=(1:Int))) (some (fQ.mk true true false false true true)) (((cond (decide (gF=(2:Int))) (some (decide (gF=(2:Int)))) (some (decide (gF=(4:Int))))):Option Bool).bind fun x3=>(cond x3 (some (fQ.mk true false false false false false)) (cond (decide (gF=(3:Int))) (some (fQ.mk true false false true false false)) (cond (decide (gF=(5:Int))) (some (fQ.mk true true true true true false)) (cond (decide (gF=(6:Int))) (some (fQ.mk true true true false true false)) (cond (decide (gF=(7:Int))) (some (fQ.mk false true false true true false)) (cond (decide (gF=(8:Int))) (some (fQ.mk false true true false true false)) (cond (decide (gF=(9:Int))) (some (fQ.mk false false true true true false)) (cond (decide (gF=(12:Int))) (some (fQ.mk false true false false true false)) (some (fQ.mk false false false false true false)))))))))))
theorem aDQ {gF:Int}{res:fQ} (h:oP gF=some res):cC Tryz.prog 164 [ci gF] [] (.agg (AV.cs (aA5 res))) []:=by
 unfold oP at h
 refine cY (fn:=Tryz.f164) [0,2,3,4,7,11,14,17,20,23,26,29] (by kernel_rfl) Tryz.func164 r (by kernel_rfl) (by kernel_rfl)<|aK<|iG (n:=0) (cs:=cG) (σ':=[cG]) aNV r r r<|aH (fr':=[(0,aI),(2,.box 0 0)]) r r<|aU<|aK<|mI r<|aH (fr':=[(2,.box 0 0),(3,aI)]) r r<|bZ<|aU<|aX ?_
 refine aT r (dG r r)<|sB r<|aH (fr':=[(2,.box 0 0),(3,aI),(4,aB)]) r r<|cV h r (fun hb1 h1=>?_) (fun hb1 h1=>?_)
 ·
  refine aK<|aT r (jA (cs:=cG) aBT r)<|bU (v:=.agg cG) (us:=cG) (cs:=cG) (σ':=[cG]) r pQ r r r r r r r r<|aH (fr':=[(2,.box 0 0)]) r r<|bI<|bN<|aN ?_
  obtain rfl:=sy h1
  exact bH (rs':=[.cell 2 160]) r<|fA (us:=cG) (cs:=cG) pQ r r r r<|bG<|aQ [] r r r (bO r ⟨r,r,r,r,r,r,trivial⟩) aF
 ·
  obtain ⟨x3,hx3,h4⟩:=aG h1
  refine nB (fun j5=>x3=j5) (fun (j5:Bool)=>([(2,.box 0 0),(3,ci gF),(7,.c (.bool j5))]:Fr)) (fun (j5:Bool)=>([[.c (.bool false),.c (.bool false),.c (.bool false),.c (.bool false),.c (.bool false),.c (.bool false)]]:St)) ?_ ?_
  ·
   refine aK<|aT r (dG r r)<|sB r<|aH (fr':=[(2,.box 0 0),(3,aI),(7,aB)]) r r<|cV hx3 r (fun hb6 h6=>?_) (fun hb6 h6=>?_)
   ·
    exact bJ<|pG _ (sy h6) (bT [] 1 r r r r ⟨lr,lr,lr,trivial⟩ (cZ r aF))
   ·
    exact aX<|aT r (dG r r)<|sB r<|dT (fr':=[(2,.box 0 0),(3,aI),(7,aB)]) r<|pG _ (sy h6) (bT [] 1 r r r r ⟨lr,lr,lr,trivial⟩ (cZ r aF))
  ·
   intro j5 hj7
   subst hj7
   refine cV h4 r (fun hb8 h8=>?_) (fun hb8 h8=>?_)
   ·
    refine aK<|aT r (jA (cs:=cG) aBT r)<|bU (v:=.agg cG) (us:=cG) (cs:=cG) (σ':=[cG]) r pQ r r r r r r r r<|aH (fr':=[(2,.box 0 0)]) r r<|bI<|bN<|aN ?_
    obtain rfl:=sy h8
    exact bH (rs':=[.cell 2 160]) r<|fA (us:=cG) (cs:=cG) pQ r r r r<|bG<|aQ [] r r r (bO r ⟨r,r,r,r,r,r,trivial⟩) aF
   ·
    refine aK<|aT r (dG r r)<|sB r<|aH (fr':=[(2,.box 0 0),(3,aI),(11,aB)]) r r<|cV h8 r (fun hb10 h10=>?_) (fun hb10 h10=>?_)
    ·
     refine aK<|aT r (jA (cs:=cG) aBT r)<|bU (v:=.agg cG) (us:=cG) (cs:=cG) (σ':=[cG]) r pQ r r r r r r r r<|aH (fr':=[(2,.box 0 0)]) r r<|bI<|bN<|aN ?_
     obtain rfl:=sy h10
     exact bH (rs':=[.cell 2 160]) r<|fA (us:=cG) (cs:=cG) pQ r r r r<|bG<|aQ [] r r r (bO r ⟨r,r,r,r,r,r,trivial⟩) aF
    ·
     refine aK<|aT r (dG r r)<|sB r<|aH (fr':=[(2,.box 0 0),(3,aI),(14,aB)]) r r<|cV h10 r (fun hb12 h12=>?_) (fun hb12 h12=>?_)
     ·
      refine aK<|aT r (jA (cs:=cG) aBT r)<|bU (v:=.agg cG) (us:=cG) (cs:=cG) (σ':=[cG]) r pQ r r r r r r r r<|aH (fr':=[(2,.box 0 0)]) r r<|bI<|bN<|aN ?_
      obtain rfl:=sy h12
      exact bH (rs':=[.cell 2 160]) r<|fA (us:=cG) (cs:=cG) pQ r r r r<|bG<|aQ [] r r r (bO r ⟨r,r,r,r,r,r,trivial⟩) aF
     ·
      refine aK<|aT r (dG r r)<|sB r<|aH (fr':=[(2,.box 0 0),(3,aI),(17,aB)]) r r<|cV h12 r (fun hb14 h14=>?_) (fun hb14 h14=>?_)
      ·
       refine aK<|aT r (jA (cs:=cG) aBT r)<|bU (v:=.agg cG) (us:=cG) (cs:=cG) (σ':=[cG]) r pQ r r r r r r r r<|aH (fr':=[(2,.box 0 0)]) r r<|bI<|bN<|aN ?_
       obtain rfl:=sy h14
       exact bH (rs':=[.cell 2 160]) r<|fA (us:=cG) (cs:=cG) pQ r r r r<|bG<|aQ [] r r r (bO r ⟨r,r,r,r,r,r,trivial⟩) aF
      ·
       refine aK<|aT r (dG r r)<|sB r<|aH (fr':=[(2,.box 0 0),(3,aI),(20,aB)]) r r<|cV h14 r (fun hb16 h16=>?_) (fun hb16 h16=>?_)
       ·
        refine aK<|aT r (jA (cs:=cG) aBT r)<|bU (v:=.agg cG) (us:=cG) (cs:=cG) (σ':=[cG]) r pQ r r r r r r r r<|aH (fr':=[(2,.box 0 0)]) r r<|bI<|bN<|aN ?_
        obtain rfl:=sy h16
        exact bH (rs':=[.cell 2 160]) r<|fA (us:=cG) (cs:=cG) pQ r r r r<|bG<|aQ [] r r r (bO r ⟨r,r,r,r,r,r,trivial⟩) aF
       ·
        refine aK<|aT r (dG r r)<|sB r<|aH (fr':=[(2,.box 0 0),(3,aI),(23,aB)]) r r<|cV h16 r (fun hb18 h18=>?_) (fun hb18 h18=>?_)
        ·
         refine aK<|aT r (jA (cs:=cG) aBT r)<|bU (v:=.agg cG) (us:=cG) (cs:=cG) (σ':=[cG]) r pQ r r r r r r r r<|aH (fr':=[(2,.box 0 0)]) r r<|bI<|bN<|aN ?_
         obtain rfl:=sy h18
         exact bH (rs':=[.cell 2 160]) r<|fA (us:=cG) (cs:=cG) pQ r r r r<|bG<|aQ [] r r r (bO r ⟨r,r,r,r,r,r,trivial⟩) aF
        ·
         refine aK<|aT r (dG r r)<|sB r<|aH (fr':=[(2,.box 0 0),(3,aI),(26,aB)]) r r<|cV h18 r (fun hb20 h20=>?_) (fun hb20 h20=>?_)
         ·
          refine aK<|aT r (jA (cs:=cG) aBT r)<|bU (v:=.agg cG) (us:=cG) (cs:=cG) (σ':=[cG]) r pQ r r r r r r r r<|aH (fr':=[(2,.box 0 0)]) r r<|bI<|bN<|aN ?_
          obtain rfl:=sy h20
          exact bH (rs':=[.cell 2 160]) r<|fA (us:=cG) (cs:=cG) pQ r r r r<|bG<|aQ [] r r r (bO r ⟨r,r,r,r,r,r,trivial⟩) aF
         ·
          refine aK<|aT r (dG r r)<|sB r<|aH (fr':=[(2,.box 0 0),(29,aB)]) r r<|cV h20 r (fun hb22 h22=>?_) (fun hb22 h22=>?_)
          ·
           refine aK<|aT r (jA (cs:=cG) aBT r)<|bU (v:=.agg cG) (us:=cG) (cs:=cG) (σ':=[cG]) r pQ r r r r r r r r<|aH (fr':=[(2,.box 0 0)]) r r<|bI<|bN<|aN ?_
           obtain rfl:=sy h22
           exact bH (rs':=[.cell 2 160]) r<|fA (us:=cG) (cs:=cG) pQ r r r r<|bG<|aQ [] r r r (bO r ⟨r,r,r,r,r,r,trivial⟩) aF
          ·
           refine bJ<|dH<|cM<|aK<|aT r (jA (cs:=cG) aBT r)<|bU (v:=.agg cG) (us:=cG) (cs:=cG) (σ':=[cG]) r pQ r r r r r r r r<|aH (fr':=[(2,.box 0 0)]) r r<|bI ?_
           obtain rfl:=sy h22
           exact bH (rs':=[.cell 2 160]) r<|fA (us:=cG) (cs:=cG) pQ r r r r<|bG<|aQ [] r r r (bO r ⟨r,r,r,r,r,r,trivial⟩) aF
noncomputable def iJ (wG:(List (List UInt8))) (zI:(List (List UInt8))) (s6:Int):Option (bS Int (Fl Bool Unit)) :=
 cond (decide (s6<((wG).length:Int))) ((jV wG s6).bind fun x8=>(jV zI s6).bind fun x10=>cond (!decide (x8=x10)) (some (bS.out (Fl.done false))) (some (bS.next (IntKind.wrap .i64 (s6+(1:Int)))))) (some (bS.out (Fl.go ())))
noncomputable def gC (wG:(List (List UInt8))) (zI:(List (List UInt8))):Option Bool :=
 cond (!decide (((wG).length:Int)=((zI).length:Int))) (some false) (((dL (iJ wG zI) ((0:Int))):Option (Fl Bool Unit)).bind fun x3=>Fl.next x3 (fun j5=>(some true)))
theorem nU {wG:(List (List UInt8))}{zI:(List (List UInt8))}{res:Bool} (h:gC wG zI=some res):cC Tryz.prog 171 [.c (PV.ls 1 gL wG),.c (PV.ls 1 gL zI)] [] (.c (.bool res)) []:=by
 unfold gC at h
 refine cY (fn:=Tryz.f171) [0,1,4,5,10,12,13,14,24] (by kernel_rfl) Tryz.func171 r (by kernel_rfl) (by kernel_rfl)<|aK<|sB r<|aH (fr':=[(0,aL),(1,aL)]) r r<|aU<|aK<|mL r<|aT r (gN yQ (eO r))<|mL r<|aT r (gN yQ (eO r))<|aT r (gQ r r) ?_
 refine aH (fr':=[(0,aL),(1,aL),(10,aB)]) r r<|cV h r (fun hb1 h1=>?_) (fun hb1 h1=>?_)
 ·
  refine aK<|sB r<|aH (fr':=[(4,aB)]) r r<|bI<|aN ?_
  obtain rfl:=sy h1
  exact bH (rs':=[.tmp 4]) r<|bP (v:=aB) r<|bG<|aQ [] r r r lr aF
 ·
  refine bJ<|cM<|aU<|aK<|mL r<|aT r (gN yQ (eO r))<|mI r<|aH (fr':=[(0,aL),(1,aL),(12,aI),(13,aI)]) r r ?_
  obtain ⟨x3,hx3,h4⟩:=aG h1
  refine gZ mO (fun j5=>x3=Fl.go j5) (fun (j5:Unit)=>([]:Fr)) (fun (j5:Unit)=>([]:St)) ?_ ?_
  ·
   refine bZ<|gU _ (fun (s6:Int)=>([(0,.c (PV.ls 1 gL wG)),(1,.c (PV.ls 1 gL zI)),(12,ci ((wG).length:Int)),(13,ci s6)]:Fr)) (fun (s6:Int)=>([]:St)) hx3 (bT [] 0 r r r r ⟨lr,lr,lr,lr,trivial⟩ aF) ?_
   intro s6 st6 hs6 ho6
   unfold iJ at hs6
   refine aK<|aT r (fM r r)<|aH (fr':=[(0,aL),(1,aL),(12,aI),(13,aI),(14,aB)]) r r<|aU<|cV hs6 r (fun hb7 h7=>?_) (fun hb7 h7=>?_)
   ·
    refine bJ<|cM<|aU<|bZ<|aK<|mI r<|sI r<|aH (fr':=[(0,aL),(1,aL),(5,aI),(12,aI),(13,aI)]) r r<|aU<|jD [.q 0,.q 1,.q 2,.q 3,.q 4,.q 5,.q 6,.q 7,.q 8] [(some 16,[0]),(some 17,[5]),(some 18,[16,17]),(some 19,[18]),(some 20,[1]),(some 21,[5]),(some 22,[20,21]),(some 23,[22]),(some 24,[19,23])] [0,0,3,7,0,0,48,112,255] (by kernel_rfl)<|dq r r (bA (v:=aL) r)<|dq r r (bA (v:=aI) r) ?_
    obtain ⟨x8,hx8,h9⟩:=aG h7
    refine dq r r (oV (cs:=[PV.str _]) aAe (eO r) r hx8 r)<|dq r r (jW (p:=PV.str _) nE r r)<|dq r r (bA (v:=aL) r)<|dq r r (bA (v:=aI) r) ?_
    obtain ⟨x10,hx10,h11⟩:=aG h9
    refine dq r r (oV (cs:=[PV.str _]) aAe (eO r) r hx10 r)<|dq r r (jW (p:=PV.str _) nE r r)<|dq r r (rQ r r)<|xA (fr':=[(0,aL),(1,aL),(12,aI),(13,aI),(24,aB)]) r r<|cV h11 r (fun hb12 h12=>?_) (fun hb12 h12=>?_)
    ·
     refine aK<|sB r<|aH (fr':=[(4,aB)]) r r<|bI<|bN<|aN<|aN<|bN<|aN<|aN ?_
     have h13:=eY h12 ho6
     have h14:=fI h13 h4
     obtain rfl:=sy h14
     exact bH (rs':=[.tmp 4]) r<|bP (v:=aB) r<|bG<|aQ [] r r r lr aF
    ·
     exact bJ<|dH<|cM<|aX<|aT r (fL r r)<|mI r<|dT (fr':=[(0,aL),(1,aL),(12,aI),(13,aI),(24,aB)]) r<|e_l _ (sy h12) (bT [] 0 r r r r ⟨lr,lr,lr,lr,trivial⟩ aF)
   ·
    refine hH<|cX<|cX<|fU ?_
    have h16:=eY h7 ho6
    exact pG _ (sy h16) (bT [] 0 r r r r trivial aF)
  ·
   intro j5 hj17
   have h17:=nG hj17 h4
   refine cM<|aK<|sB r<|aH (fr':=[(4,aB)]) r r<|bI ?_
   obtain rfl:=sy h17
   exact bH (rs':=[.tmp 4]) r<|bP (v:=aB) r<|bG<|aQ [] r r r lr aF
noncomputable def dE (aFP:aC→aC→Option Bool) (wG:(List aC)) (zI:(List aC)) (s6:Int):Option (bS Int (Fl Bool Unit)) :=
 cond (decide (s6<((wG).length:Int))) ((jV wG s6).bind fun x8=>(jV zI s6).bind fun x10=>(aFP x8 x10).bind fun x12=>cond (!x12) (some (bS.out (Fl.done false))) (some (bS.next (IntKind.wrap .i64 (s6+(1:Int)))))) (some (bS.out (Fl.go ())))
mutual
noncomputable def cD:Nat→(List aC)→(List aC)→Option Bool
 | 0,_,_=>none
 | n+1,wG,zI =>
  cond (!decide (((wG).length:Int)=((zI).length:Int))) (some false) (((dL (dE (pD n) wG zI) ((0:Int))):Option (Fl Bool Unit)).bind fun x3=>Fl.next x3 (fun j5=>(some true)))
noncomputable def pD:Nat→aC→aC→Option Bool
 | 0,_,_=>none
 | n+1,p0a,p1b =>
  (gd ((cond (cond (decide (p0a.Kind=p1b.Kind)) (decide (p0a.Int=p1b.Int)) false) (decide (p0a.Text=p1b.Text)) false)==true) (gC p0a.Keys p1b.Keys)).bind fun x1=>(gd ((cond (cond (cond (decide (p0a.Kind=p1b.Kind)) (decide (p0a.Int=p1b.Int)) false) (decide (p0a.Text=p1b.Text)) false) x1 false)==true) ((cD n) p0a.Items p1b.Items)).bind fun x3=>some (cond (cond (cond (cond (decide (p0a.Kind=p1b.Kind)) (decide (p0a.Int=p1b.Int)) false) (decide (p0a.Text=p1b.Text)) false) x1 false) x3 false)
end
theorem iF:∀ n:Nat,(∀ {wG:(List aC)}{zI:(List aC)}{res:Bool},cD n wG zI=some res→cC Tryz.prog 172 [.c (PV.ls 5 bM wG),.c (PV.ls 5 bM zI),.fn 116 []] [] (.c (.bool res)) [])∧(∀ {p0a:aC}{p1b:aC}{res:Bool},pD n p0a p1b=some res→cC Tryz.prog 116 [.agg (AV.cs (eF p0a)),.agg (AV.cs (eF p1b))] [] (.c (.bool res)) []):=by
 intro n
 induction n with
 | zero=>exact ⟨fun {wG zI res} h=>absurd h (by simp [cD]),fun {p0a p1b res} h=>absurd h (by simp [pD])⟩
 | succ n ih =>
  obtain ⟨ih_slices_EqualFunc_api_Value_api_Value_api_Value_api_Value_value_Same,ih_value_Same⟩:=ih
  refine ⟨?_,?_⟩
  ·
   intro wG zI res h
   rw [cD] at h
   refine cY (fn:=Tryz.f172) [0,1,2,6,7,8,9,14,15,16,17,18,30] (by kernel_rfl) Tryz.func172 r (by kernel_rfl) (by kernel_rfl)<|aK<|sB r<|aH (fr':=[(0,aL),(1,aL),(2,.fn _ [])]) r r<|aU<|aK<|mL r<|aT r (gN aAE (eO r))<|mL r<|aT r (gN aAE (eO r))<|aT r (gQ r r) ?_
   refine aH (fr':=[(0,aL),(1,aL),(2,.fn _ []),(14,aB)]) r r<|cV h r (fun hb1 h1=>?_) (fun hb1 h1=>?_)
   ·
    refine aK<|sB r<|aH (fr':=[(6,aB)]) r r<|bI<|aN ?_
    obtain rfl:=sy h1
    exact bH (rs':=[.tmp 6]) r<|bP (v:=aB) r<|bG<|aQ [] r r r lr aF
   ·
    refine bJ<|cM<|aU<|aK<|mL r<|aT r (gN aAE (eO r))<|mI r<|aH (fr':=[(1,aL),(2,.fn _ []),(15,aL),(16,aI),(17,aI)]) r r ?_
    obtain ⟨x3,hx3,h4⟩:=aG h1
    refine gZ mO (fun j5=>x3=Fl.go j5) (fun (j5:Unit)=>([]:Fr)) (fun (j5:Unit)=>([]:St)) ?_ ?_
    ·
     refine bZ<|gU _ (fun (s6:Int)=>([(1,.c (PV.ls 5 bM zI)),(2,.fn 116 []),(15,.c (PV.ls 5 bM wG)),(16,ci ((wG).length:Int)),(17,ci s6)]:Fr)) (fun (s6:Int)=>([]:St)) hx3 (bT [] 0 r r r r ⟨lr,lr,lr,lr,lr,trivial⟩ aF) ?_
     intro s6 st6 hs6 ho6
     unfold dE at hs6
     refine aK<|aT r (fM r r)<|aH (fr':=[(1,aL),(2,.fn _ []),(15,aL),(16,aI),(17,aI),(18,aB)]) r r<|aU<|cV hs6 r (fun hb7 h7=>?_) (fun hb7 h7=>?_)
     ·
      refine bJ<|cM<|aU<|bZ<|aK<|mI r ?_
      obtain ⟨x8,hx8,h9⟩:=aG h7
      refine aT r (oV (cs:=[PV.int _ _,PV.int _ _,PV.str _,PV.ls _ _ _,PV.ls _ _ _]) aBE (eO r) r hx8 (eT _))<|aT r (lW (us:=[PV.int _ _,PV.int _ _,PV.str _,PV.ls _ _ _,PV.ls _ _ _]) gV r r r)<|iG (n:=0) (cs:=bK) (σ':=[bK]) aED r r r<|sI r<|bU (v:=.agg bQ) (us:=bQ) (cs:=bK) (σ':=[bQ]) r gV r r r r r r r r<|aH (fr':=[(1,aL),(2,.fn _ []),(7,aI),(8,.box 0 0),(15,aL),(16,aI),(17,aI)]) r r<|aK<|mL r<|mI r ?_
      obtain ⟨x10,hx10,h11⟩:=aG h9
      refine aT r (oV (cs:=[PV.int _ _,PV.int _ _,PV.str _,PV.ls _ _ _,PV.ls _ _ _]) aBE (eO r) r hx10 (eT _))<|aT r (lW (us:=[PV.int _ _,PV.int _ _,PV.str _,PV.ls _ _ _,PV.ls _ _ _]) gV r r r)<|iG (n:=1) (cs:=bK) (σ':=[bQ,bK]) aED r r r<|bU (v:=.agg bQ) (us:=bQ) (cs:=bK) (σ':=[bQ,bQ]) r gV r r r r r r r r<|aH (fr':=[(1,aL),(2,.fn _ []),(8,.box 0 0),(9,.box 1 0),(15,aL),(16,aI),(17,aI)]) r r<|aK<|mV (v:=.fn _ []) r<|aT r (dJ (us:=bQ) gV r r r r)<|aT r (dJ (us:=bQ) gV r r r r) ?_
      obtain ⟨x12,hx12,h13⟩:=aG h11
      refine lM (bC (v:=aB) r (ih_value_Same hx12) ⟨(bO r ⟨r,r,r,r,r,trivial⟩),(bO r ⟨r,r,r,r,r,trivial⟩),trivial⟩ r r r)<|aT r (fH r)<|aH (fr':=[(1,aL),(2,.fn _ []),(15,aL),(16,aI),(17,aI),(30,aB)]) r r<|cV h13 r (fun hb14 h14=>?_) (fun hb14 h14=>?_)
      ·
       refine aK<|sB r<|aH (fr':=[(6,aB)]) r r<|bI<|bN<|aN<|aN<|bN<|aN<|aN ?_
       have h15:=eY h14 ho6
       have h16:=fI h15 h4
       obtain rfl:=sy h16
       exact bH (rs':=[.tmp 6]) r<|bP (v:=aB) r<|bG<|aQ [] r r r lr aF
      ·
       exact bJ<|dH<|cM<|aX<|aT r (fL r r)<|mI r<|dT (fr':=[(1,aL),(2,.fn _ []),(15,aL),(16,aI),(17,aI),(30,aB)]) r<|e_l _ (sy h14) (bT [] 0 r r r r ⟨lr,lr,lr,lr,lr,trivial⟩ aF)
     ·
      refine hH<|cX<|cX<|fU ?_
      have h18:=eY h7 ho6
      exact pG _ (sy h18) (bT [] 0 r r r r trivial aF)
    ·
     intro j5 hj19
     have h19:=nG hj19 h4
     refine cM<|aK<|sB r<|aH (fr':=[(6,aB)]) r r<|bI ?_
     obtain rfl:=sy h19
     exact bH (rs':=[.tmp 6]) r<|bP (v:=aB) r<|bG<|aQ [] r r r lr aF
  ·
   intro p0a p1b res h
   rw [pD] at h
   refine cY (fn:=Tryz.f116) [0,1,2,3,4] (by kernel_rfl) Tryz.func116 r (by kernel_rfl) (by kernel_rfl)<|aK<|iH (v:=.agg bQ) (n:=0) (cs:=bQ) (σ':=[bQ]) r r r r r<|iH (v:=.agg bQ) (n:=1) (cs:=bQ) (σ':=[bQ,bQ]) r r r r r<|sB r<|aH (fr':=[(2,.box 0 0),(3,.box 1 0)]) r r<|aK<|aT r (bD oC r)<|aT r (aJ (v:=aI) fY r r r)<|aT r (bD oC r)<|aT r (aJ (v:=aI) fY r r r) ?_
   refine aT r (dG r r)<|mB r<|og r r r (fun hc=>(bD tD r))<|og r r r (fun hc=>(aJ (v:=aI) fY (gx r hc) r r))<|og r r r (fun hc=>(bD tD r))<|og r r r (fun hc=>(aJ (v:=aI) fY (gx r hc) r r))<|og r r r (fun hc=>(dG (gx r hc) (gx r hc)))<|aT r (cE r r r (fun e=>fW e))<|mB r<|og r r r (fun hc=>(bD yB r))<|og r r r (fun hc=>(aJ (v:=aS) nE (gx r hc) r r))<|og r r r (fun hc=>(bD yB r))<|og r r r (fun hc=>(aJ (v:=aS) nE (gx r hc) r r)) ?_
   refine og r r r (fun hc=>(sX (gx r hc) (gx r hc)))<|aT r (cE r r r (fun e=>fW e))<|mB r<|og r r r (fun hc=>(bD qU r))<|og r r r (fun hc=>(aJ (v:=aL) rG (gx r hc) r r))<|og r r r (fun hc=>(bD qU r))<|og r r r (fun hc=>(aJ (v:=aL) rG (gx r hc) r r)) ?_
   obtain ⟨x1,hx1,h2⟩:=aG h
   refine yS r r (fun hc=>bC (v:=aB) r (nU (dW hx1 hc)) ⟨(fK (gx r hc) lr),(fK (gx r hc) lr),trivial⟩ (gJ (by repeat (first | exact fF | refine aZ r ?_ | refine aZ (uH r) ?_ | refine aZ uG ?_))) r r) ?_
   refine aT r (cE r r r (fun e=>fW e))<|mB r<|og r r r (fun hc=>(bD kY r))<|og r r r (fun hc=>(aJ (v:=aL) vM (gx r hc) r r))<|og r r r (fun hc=>(bD kY r))<|og r r r (fun hc=>(aJ (v:=aL) vM (gx r hc) r r)) ?_
   obtain ⟨x3,hx3,h4⟩:=aG h2
   refine yS r r (fun hc=>bC (v:=aB) r (ih_slices_EqualFunc_api_Value_api_Value_api_Value_api_Value_value_Same (dW hx3 hc)) ⟨(fK (gx r hc) lr),(fK (gx r hc) lr),lr,trivial⟩ (gJ (by repeat (first | exact fF | refine aZ r ?_ | refine aZ (uH r) ?_ | refine aZ uG ?_))) r r) ?_
   refine aT r (cE r r r (fun e=>fW e))<|sB r<|aH (fr':=[(4,aB)]) r r<|bI ?_
   obtain rfl:=sy h4
   exact bH (rs':=[.tmp 4]) r<|bP (v:=aB) r<|bG<|aQ [] r r r lr aF
noncomputable def aAh (p0a:aC) (p1b:aC):Option Bool:=lim fun n=>pD n p0a p1b
theorem aC8 {p0a:aC}{p1b:aC}{res:Bool} (h:aAh p0a p1b=some res):cC Tryz.prog 116 [.agg (AV.cs (eF p0a)),.agg (AV.cs (eF p1b))] [] (.c (.bool res)) []:=by
 obtain ⟨n,hn⟩:=pZ h
 exact (iF n).2 hn
noncomputable def jN (p0a:bL) (p1b:bL):Option Bool :=
 (kQ p0a).bind fun x1=>(kQ p1b).bind fun x4=>cond (!decide (p0a.ToStart=p1b.ToStart)) (some false) (cond (!decide (p0a.ToClose=p1b.ToClose)) (some false) (cond (!decide (p0a.Total=p1b.Total)) (some false) (cond (!decide (p0a.Beat=p1b.Beat)) (some false) (cond (!decide (p0a.First=p1b.First)) (some false) (cond (!decide (p0a.Coef=p1b.Coef)) (some false) (cond (!decide (p0a.Most=p1b.Most)) (some false) (cond (!decide (p0a.Attempts=p1b.Attempts)) (some false) ((gd ((decide (p0a.Queue=p1b.Queue))==true) (gC p0a.Fatal p1b.Fatal)).bind fun x23=>some (cond (decide (p0a.Queue=p1b.Queue)) x23 false)))))))))
theorem uD {p0a:bL}{p1b:bL}{res:Bool} (h:jN p0a p1b=some res):cC Tryz.prog 117 [.agg (AV.cs (jX p0a)),.agg (AV.cs (jX p1b))] [] (.c (.bool res)) []:=by
 unfold jN at h
 refine cY (fn:=Tryz.f117) [0,1,2,3,4,5,6,7,11,12,13,27] (by kernel_rfl) Tryz.func117 r (by kernel_rfl) (by kernel_rfl)<|aK<|iH (v:=.agg cI) (n:=0) (cs:=cI) (σ':=[cI]) r r r r r<|iH (v:=.agg cI) (n:=1) (cs:=cI) (σ':=[cI,cI]) r r r r r<|sB r<|aH (fr':=[(2,.box 0 0),(3,.box 1 0)]) r r<|aU<|aX ?_
 obtain ⟨x1,hx1,h2⟩:=aG h
 refine xI (v:=.ptrs [(0,1),(0,2),(0,3),(0,4),(0,5),(0,6),(0,7),(0,8)]) (σ':=[cI,cI]) 8 [0] [] r (sG hx1) r r r ⟨lr,trivial⟩ (eW ⟨r,r,r,r,r,r,r,r,r,r,trivial⟩ aF) r r r ?_
 obtain ⟨x4,hx4,h5⟩:=aG h2
 refine xI (v:=.ptrs [(1,1),(1,2),(1,3),(1,4),(1,5),(1,6),(1,7),(1,8)]) (σ':=[cI,cI]) 9 [1] [] r (sG hx4) r r r ⟨lr,trivial⟩ (eW ⟨r,r,r,r,r,r,r,r,r,r,trivial⟩ aF) r r r<|sV (v:=.ptrs [(0,1),(0,2),(0,3),(0,4),(0,5),(0,6),(0,7),(0,8)]) r<|sV (v:=.ptrs [(1,1),(1,2),(1,3),(1,4),(1,5),(1,6),(1,7),(1,8)]) r<|aH (fr':=[(2,.box 0 0),(3,.box 1 0),(5,.ptrs [(0,1),(0,2),(0,3),(0,4),(0,5),(0,6),(0,7),(0,8)]),(6,.ptrs [(1,1),(1,2),(1,3),(1,4),(1,5),(1,6),(1,7),(1,8)])]) r r<|aU<|aK<|mV (v:=.ptrs [(0,1),(0,2),(0,3),(0,4),(0,5),(0,6),(0,7),(0,8)]) r<|aT r (aKp aP2 r)<|mI r<|aH (fr':=[(2,.box 0 0),(3,.box 1 0),(5,.ptrs [(0,1),(0,2),(0,3),(0,4),(0,5),(0,6),(0,7),(0,8)]),(6,.ptrs [(1,1),(1,2),(1,3),(1,4),(1,5),(1,6),(1,7),(1,8)]),(11,aI),(12,aI)]) r r<|bZ<|aNZ 64 ?_
 refine sU<|aK<|aT r (uL (fM r r) (show _=.bool true from r))<|aH (fr':=[(2,.box 0 0),(3,.box 1 0),(5,.ptrs [(0,1),(0,2),(0,3),(0,4),(0,5),(0,6),(0,7),(0,8)]),(6,.ptrs [(1,1),(1,2),(1,3),(1,4),(1,5),(1,6),(1,7),(1,8)]),(11,aI),(12,aI),(13,aB)]) r r<|aU<|gT r<|bJ<|cM<|aU<|bZ<|aU<|aX ?_
 refine mI r<|sI r<|aH (fr':=[(2,.box 0 0),(3,.box 1 0),(5,.ptrs [(0,1),(0,2),(0,3),(0,4),(0,5),(0,6),(0,7),(0,8)]),(6,.ptrs [(1,1),(1,2),(1,3),(1,4),(1,5),(1,6),(1,7),(1,8)]),(7,aI),(11,aI),(12,aI)]) r r<|aU<|jD [.q 0,.q 1,.q 2,.q 3,.q 4,.q 5,.q 6,.q 7,.q 8,.q 9,.q 10,.q 11,.q 12] [(some 15,[5]),(some 16,[7]),(some 17,[15,16]),(some 18,[17]),(some 19,[18]),(some 20,[19]),(some 21,[6]),(some 22,[7]),(some 23,[21,22]),(some 24,[23]),(some 25,[24]),(some 26,[25]),(some 27,[20,26])] [0,0,3,7,15,31,0,0,192,448,960,1984,4095] (by kernel_rfl)<|dq r r (bA (v:=.ptrs [(0,1),(0,2),(0,3),(0,4),(0,5),(0,6),(0,7),(0,8)]) r)<|dq r r (bA (v:=aI) r)<|dq r r (lB (p:=(0,1)) pO r r r)<|dq r r (gE qG r)<|dq r r (gB r)<|dq r r (aJ (v:=aI) fY r r r)<|dq r r (bA (v:=.ptrs [(1,1),(1,2),(1,3),(1,4),(1,5),(1,6),(1,7),(1,8)]) r)<|dq r r (bA (v:=aI) r) ?_
 refine dq r r (lB (p:=(1,1)) pO r r r)<|dq r r (gE qG r)<|dq r r (gB r)<|dq r r (aJ (v:=aI) fY r r r)<|dq r r (gQ r r)<|xA (fr':=[(2,.box 0 0),(3,.box 1 0),(5,.ptrs [(0,1),(0,2),(0,3),(0,4),(0,5),(0,6),(0,7),(0,8)]),(6,.ptrs [(1,1),(1,2),(1,3),(1,4),(1,5),(1,6),(1,7),(1,8)]),(11,aI),(12,aI),(27,aB)]) r r<|cV h5 r (fun hb7 h7=>?_) (fun hb7 h7=>?_)
 ·
  refine aK<|sB r<|aH (fr':=[(4,aB)]) r r<|bI<|bN<|aN<|aN<|bN<|aN ?_
  obtain rfl:=sy h7
  exact bH (rs':=[.tmp 4]) r<|bP (v:=aB) r<|bG<|aQ [] r r r lr aF
 ·
  refine bJ<|dH<|cM<|aX<|aT r (uL (fL r r) (show _=.int .i64 (1:Int) from r))<|mI r<|dT (fr':=[(2,.box 0 0),(3,.box 1 0),(5,.ptrs [(0,1),(0,2),(0,3),(0,4),(0,5),(0,6),(0,7),(0,8)]),(6,.ptrs [(1,1),(1,2),(1,3),(1,4),(1,5),(1,6),(1,7),(1,8)]),(11,aI),(12,aI),(27,aB)]) r<|iV<|sU<|aK<|aT r (uL (fM r r) (show _=.bool true from r))<|aH (fr':=[(2,.box 0 0),(3,.box 1 0),(5,.ptrs [(0,1),(0,2),(0,3),(0,4),(0,5),(0,6),(0,7),(0,8)]),(6,.ptrs [(1,1),(1,2),(1,3),(1,4),(1,5),(1,6),(1,7),(1,8)]),(11,aI),(12,aI),(13,aB)]) r r ?_
  refine aU<|gT r<|bJ<|cM<|aU<|bZ<|aK<|mI r<|sI r<|aH (fr':=[(2,.box 0 0),(3,.box 1 0),(5,.ptrs [(0,1),(0,2),(0,3),(0,4),(0,5),(0,6),(0,7),(0,8)]),(6,.ptrs [(1,1),(1,2),(1,3),(1,4),(1,5),(1,6),(1,7),(1,8)]),(7,aI),(11,aI),(12,aI)]) r r<|aU<|jD [.q 0,.q 1,.q 2,.q 3,.q 4,.q 5,.q 6,.q 7,.q 8,.q 9,.q 10,.q 11,.q 12] [(some 15,[5]),(some 16,[7]),(some 17,[15,16]),(some 18,[17]),(some 19,[18]),(some 20,[19]),(some 21,[6]),(some 22,[7]),(some 23,[21,22]),(some 24,[23]),(some 25,[24]),(some 26,[25]),(some 27,[20,26])] [0,0,3,7,15,31,0,0,192,448,960,1984,4095] (by kernel_rfl) ?_
  refine dq r r (bA (v:=.ptrs [(0,1),(0,2),(0,3),(0,4),(0,5),(0,6),(0,7),(0,8)]) r)<|dq r r (bA (v:=aI) r)<|dq r r (lB (p:=(0,2)) pO r r r)<|dq r r (gE qG r)<|dq r r (gB r)<|dq r r (aJ (v:=aI) fY r r r)<|dq r r (bA (v:=.ptrs [(1,1),(1,2),(1,3),(1,4),(1,5),(1,6),(1,7),(1,8)]) r)<|dq r r (bA (v:=aI) r)<|dq r r (lB (p:=(1,2)) pO r r r)<|dq r r (gE qG r)<|dq r r (gB r)<|dq r r (aJ (v:=aI) fY r r r)<|dq r r (gQ r r) ?_
  refine xA (fr':=[(2,.box 0 0),(3,.box 1 0),(5,.ptrs [(0,1),(0,2),(0,3),(0,4),(0,5),(0,6),(0,7),(0,8)]),(6,.ptrs [(1,1),(1,2),(1,3),(1,4),(1,5),(1,6),(1,7),(1,8)]),(11,aI),(12,aI),(27,aB)]) r r<|cV h7 r (fun hb9 h9=>?_) (fun hb9 h9=>?_)
  ·
   refine aK<|sB r<|aH (fr':=[(4,aB)]) r r<|bI<|bN<|aN<|aN<|bN<|aN ?_
   obtain rfl:=sy h9
   exact bH (rs':=[.tmp 4]) r<|bP (v:=aB) r<|bG<|aQ [] r r r lr aF
  ·
   refine bJ<|dH<|cM<|aX<|aT r (uL (fL r r) (show _=.int .i64 (2:Int) from r))<|mI r<|dT (fr':=[(2,.box 0 0),(3,.box 1 0),(5,.ptrs [(0,1),(0,2),(0,3),(0,4),(0,5),(0,6),(0,7),(0,8)]),(6,.ptrs [(1,1),(1,2),(1,3),(1,4),(1,5),(1,6),(1,7),(1,8)]),(11,aI),(12,aI),(27,aB)]) r<|iV<|sU<|aK<|aT r (uL (fM r r) (show _=.bool true from r))<|aH (fr':=[(2,.box 0 0),(3,.box 1 0),(5,.ptrs [(0,1),(0,2),(0,3),(0,4),(0,5),(0,6),(0,7),(0,8)]),(6,.ptrs [(1,1),(1,2),(1,3),(1,4),(1,5),(1,6),(1,7),(1,8)]),(11,aI),(12,aI),(13,aB)]) r r ?_
   refine aU<|gT r<|bJ<|cM<|aU<|bZ<|aK<|mI r<|sI r<|aH (fr':=[(2,.box 0 0),(3,.box 1 0),(5,.ptrs [(0,1),(0,2),(0,3),(0,4),(0,5),(0,6),(0,7),(0,8)]),(6,.ptrs [(1,1),(1,2),(1,3),(1,4),(1,5),(1,6),(1,7),(1,8)]),(7,aI),(11,aI),(12,aI)]) r r<|aU<|jD [.q 0,.q 1,.q 2,.q 3,.q 4,.q 5,.q 6,.q 7,.q 8,.q 9,.q 10,.q 11,.q 12] [(some 15,[5]),(some 16,[7]),(some 17,[15,16]),(some 18,[17]),(some 19,[18]),(some 20,[19]),(some 21,[6]),(some 22,[7]),(some 23,[21,22]),(some 24,[23]),(some 25,[24]),(some 26,[25]),(some 27,[20,26])] [0,0,3,7,15,31,0,0,192,448,960,1984,4095] (by kernel_rfl) ?_
   refine dq r r (bA (v:=.ptrs [(0,1),(0,2),(0,3),(0,4),(0,5),(0,6),(0,7),(0,8)]) r)<|dq r r (bA (v:=aI) r)<|dq r r (lB (p:=(0,3)) pO r r r)<|dq r r (gE qG r)<|dq r r (gB r)<|dq r r (aJ (v:=aI) fY r r r)<|dq r r (bA (v:=.ptrs [(1,1),(1,2),(1,3),(1,4),(1,5),(1,6),(1,7),(1,8)]) r)<|dq r r (bA (v:=aI) r)<|dq r r (lB (p:=(1,3)) pO r r r)<|dq r r (gE qG r)<|dq r r (gB r)<|dq r r (aJ (v:=aI) fY r r r)<|dq r r (gQ r r) ?_
   refine xA (fr':=[(2,.box 0 0),(3,.box 1 0),(5,.ptrs [(0,1),(0,2),(0,3),(0,4),(0,5),(0,6),(0,7),(0,8)]),(6,.ptrs [(1,1),(1,2),(1,3),(1,4),(1,5),(1,6),(1,7),(1,8)]),(11,aI),(12,aI),(27,aB)]) r r<|cV h9 r (fun hb11 h11=>?_) (fun hb11 h11=>?_)
   ·
    refine aK<|sB r<|aH (fr':=[(4,aB)]) r r<|bI<|bN<|aN<|aN<|bN<|aN ?_
    obtain rfl:=sy h11
    exact bH (rs':=[.tmp 4]) r<|bP (v:=aB) r<|bG<|aQ [] r r r lr aF
   ·
    refine bJ<|dH<|cM<|aX<|aT r (uL (fL r r) (show _=.int .i64 (3:Int) from r))<|mI r<|dT (fr':=[(2,.box 0 0),(3,.box 1 0),(5,.ptrs [(0,1),(0,2),(0,3),(0,4),(0,5),(0,6),(0,7),(0,8)]),(6,.ptrs [(1,1),(1,2),(1,3),(1,4),(1,5),(1,6),(1,7),(1,8)]),(11,aI),(12,aI),(27,aB)]) r<|iV<|sU<|aK<|aT r (uL (fM r r) (show _=.bool true from r))<|aH (fr':=[(2,.box 0 0),(3,.box 1 0),(5,.ptrs [(0,1),(0,2),(0,3),(0,4),(0,5),(0,6),(0,7),(0,8)]),(6,.ptrs [(1,1),(1,2),(1,3),(1,4),(1,5),(1,6),(1,7),(1,8)]),(11,aI),(12,aI),(13,aB)]) r r ?_
    refine aU<|gT r<|bJ<|cM<|aU<|bZ<|aK<|mI r<|sI r<|aH (fr':=[(2,.box 0 0),(3,.box 1 0),(5,.ptrs [(0,1),(0,2),(0,3),(0,4),(0,5),(0,6),(0,7),(0,8)]),(6,.ptrs [(1,1),(1,2),(1,3),(1,4),(1,5),(1,6),(1,7),(1,8)]),(7,aI),(11,aI),(12,aI)]) r r<|aU<|jD [.q 0,.q 1,.q 2,.q 3,.q 4,.q 5,.q 6,.q 7,.q 8,.q 9,.q 10,.q 11,.q 12] [(some 15,[5]),(some 16,[7]),(some 17,[15,16]),(some 18,[17]),(some 19,[18]),(some 20,[19]),(some 21,[6]),(some 22,[7]),(some 23,[21,22]),(some 24,[23]),(some 25,[24]),(some 26,[25]),(some 27,[20,26])] [0,0,3,7,15,31,0,0,192,448,960,1984,4095] (by kernel_rfl) ?_
    refine dq r r (bA (v:=.ptrs [(0,1),(0,2),(0,3),(0,4),(0,5),(0,6),(0,7),(0,8)]) r)<|dq r r (bA (v:=aI) r)<|dq r r (lB (p:=(0,4)) pO r r r)<|dq r r (gE qG r)<|dq r r (gB r)<|dq r r (aJ (v:=aI) fY r r r)<|dq r r (bA (v:=.ptrs [(1,1),(1,2),(1,3),(1,4),(1,5),(1,6),(1,7),(1,8)]) r)<|dq r r (bA (v:=aI) r)<|dq r r (lB (p:=(1,4)) pO r r r)<|dq r r (gE qG r)<|dq r r (gB r)<|dq r r (aJ (v:=aI) fY r r r)<|dq r r (gQ r r) ?_
    refine xA (fr':=[(2,.box 0 0),(3,.box 1 0),(5,.ptrs [(0,1),(0,2),(0,3),(0,4),(0,5),(0,6),(0,7),(0,8)]),(6,.ptrs [(1,1),(1,2),(1,3),(1,4),(1,5),(1,6),(1,7),(1,8)]),(11,aI),(12,aI),(27,aB)]) r r<|cV h11 r (fun hb13 h13=>?_) (fun hb13 h13=>?_)
    ·
     refine aK<|sB r<|aH (fr':=[(4,aB)]) r r<|bI<|bN<|aN<|aN<|bN<|aN ?_
     obtain rfl:=sy h13
     exact bH (rs':=[.tmp 4]) r<|bP (v:=aB) r<|bG<|aQ [] r r r lr aF
    ·
     refine bJ<|dH<|cM<|aX<|aT r (uL (fL r r) (show _=.int .i64 (4:Int) from r))<|mI r<|dT (fr':=[(2,.box 0 0),(3,.box 1 0),(5,.ptrs [(0,1),(0,2),(0,3),(0,4),(0,5),(0,6),(0,7),(0,8)]),(6,.ptrs [(1,1),(1,2),(1,3),(1,4),(1,5),(1,6),(1,7),(1,8)]),(11,aI),(12,aI),(27,aB)]) r<|iV<|sU<|aK<|aT r (uL (fM r r) (show _=.bool true from r))<|aH (fr':=[(2,.box 0 0),(3,.box 1 0),(5,.ptrs [(0,1),(0,2),(0,3),(0,4),(0,5),(0,6),(0,7),(0,8)]),(6,.ptrs [(1,1),(1,2),(1,3),(1,4),(1,5),(1,6),(1,7),(1,8)]),(11,aI),(12,aI),(13,aB)]) r r ?_
     refine aU<|gT r<|bJ<|cM<|aU<|bZ<|aK<|mI r<|sI r<|aH (fr':=[(2,.box 0 0),(3,.box 1 0),(5,.ptrs [(0,1),(0,2),(0,3),(0,4),(0,5),(0,6),(0,7),(0,8)]),(6,.ptrs [(1,1),(1,2),(1,3),(1,4),(1,5),(1,6),(1,7),(1,8)]),(7,aI),(11,aI),(12,aI)]) r r<|aU<|jD [.q 0,.q 1,.q 2,.q 3,.q 4,.q 5,.q 6,.q 7,.q 8,.q 9,.q 10,.q 11,.q 12] [(some 15,[5]),(some 16,[7]),(some 17,[15,16]),(some 18,[17]),(some 19,[18]),(some 20,[19]),(some 21,[6]),(some 22,[7]),(some 23,[21,22]),(some 24,[23]),(some 25,[24]),(some 26,[25]),(some 27,[20,26])] [0,0,3,7,15,31,0,0,192,448,960,1984,4095] (by kernel_rfl) ?_
     refine dq r r (bA (v:=.ptrs [(0,1),(0,2),(0,3),(0,4),(0,5),(0,6),(0,7),(0,8)]) r)<|dq r r (bA (v:=aI) r)<|dq r r (lB (p:=(0,5)) pO r r r)<|dq r r (gE qG r)<|dq r r (gB r)<|dq r r (aJ (v:=aI) fY r r r)<|dq r r (bA (v:=.ptrs [(1,1),(1,2),(1,3),(1,4),(1,5),(1,6),(1,7),(1,8)]) r)<|dq r r (bA (v:=aI) r)<|dq r r (lB (p:=(1,5)) pO r r r)<|dq r r (gE qG r)<|dq r r (gB r)<|dq r r (aJ (v:=aI) fY r r r)<|dq r r (gQ r r) ?_
     refine xA (fr':=[(2,.box 0 0),(3,.box 1 0),(5,.ptrs [(0,1),(0,2),(0,3),(0,4),(0,5),(0,6),(0,7),(0,8)]),(6,.ptrs [(1,1),(1,2),(1,3),(1,4),(1,5),(1,6),(1,7),(1,8)]),(11,aI),(12,aI),(27,aB)]) r r<|cV h13 r (fun hb15 h15=>?_) (fun hb15 h15=>?_)
     ·
      refine aK<|sB r<|aH (fr':=[(4,aB)]) r r<|bI<|bN<|aN<|aN<|bN<|aN ?_
      obtain rfl:=sy h15
      exact bH (rs':=[.tmp 4]) r<|bP (v:=aB) r<|bG<|aQ [] r r r lr aF
     ·
      refine bJ<|dH<|cM<|aX<|aT r (uL (fL r r) (show _=.int .i64 (5:Int) from r))<|mI r<|dT (fr':=[(2,.box 0 0),(3,.box 1 0),(5,.ptrs [(0,1),(0,2),(0,3),(0,4),(0,5),(0,6),(0,7),(0,8)]),(6,.ptrs [(1,1),(1,2),(1,3),(1,4),(1,5),(1,6),(1,7),(1,8)]),(11,aI),(12,aI),(27,aB)]) r<|iV<|sU<|aK<|aT r (uL (fM r r) (show _=.bool true from r))<|aH (fr':=[(2,.box 0 0),(3,.box 1 0),(5,.ptrs [(0,1),(0,2),(0,3),(0,4),(0,5),(0,6),(0,7),(0,8)]),(6,.ptrs [(1,1),(1,2),(1,3),(1,4),(1,5),(1,6),(1,7),(1,8)]),(11,aI),(12,aI),(13,aB)]) r r ?_
      refine aU<|gT r<|bJ<|cM<|aU<|bZ<|aK<|mI r<|sI r<|aH (fr':=[(2,.box 0 0),(3,.box 1 0),(5,.ptrs [(0,1),(0,2),(0,3),(0,4),(0,5),(0,6),(0,7),(0,8)]),(6,.ptrs [(1,1),(1,2),(1,3),(1,4),(1,5),(1,6),(1,7),(1,8)]),(7,aI),(11,aI),(12,aI)]) r r<|aU<|jD [.q 0,.q 1,.q 2,.q 3,.q 4,.q 5,.q 6,.q 7,.q 8,.q 9,.q 10,.q 11,.q 12] [(some 15,[5]),(some 16,[7]),(some 17,[15,16]),(some 18,[17]),(some 19,[18]),(some 20,[19]),(some 21,[6]),(some 22,[7]),(some 23,[21,22]),(some 24,[23]),(some 25,[24]),(some 26,[25]),(some 27,[20,26])] [0,0,3,7,15,31,0,0,192,448,960,1984,4095] (by kernel_rfl) ?_
      refine dq r r (bA (v:=.ptrs [(0,1),(0,2),(0,3),(0,4),(0,5),(0,6),(0,7),(0,8)]) r)<|dq r r (bA (v:=aI) r)<|dq r r (lB (p:=(0,6)) pO r r r)<|dq r r (gE qG r)<|dq r r (gB r)<|dq r r (aJ (v:=aI) fY r r r)<|dq r r (bA (v:=.ptrs [(1,1),(1,2),(1,3),(1,4),(1,5),(1,6),(1,7),(1,8)]) r)<|dq r r (bA (v:=aI) r)<|dq r r (lB (p:=(1,6)) pO r r r)<|dq r r (gE qG r)<|dq r r (gB r)<|dq r r (aJ (v:=aI) fY r r r)<|dq r r (gQ r r) ?_
      refine xA (fr':=[(2,.box 0 0),(3,.box 1 0),(5,.ptrs [(0,1),(0,2),(0,3),(0,4),(0,5),(0,6),(0,7),(0,8)]),(6,.ptrs [(1,1),(1,2),(1,3),(1,4),(1,5),(1,6),(1,7),(1,8)]),(11,aI),(12,aI),(27,aB)]) r r<|cV h15 r (fun hb17 h17=>?_) (fun hb17 h17=>?_)
      ·
       refine aK<|sB r<|aH (fr':=[(4,aB)]) r r<|bI<|bN<|aN<|aN<|bN<|aN ?_
       obtain rfl:=sy h17
       exact bH (rs':=[.tmp 4]) r<|bP (v:=aB) r<|bG<|aQ [] r r r lr aF
      ·
       refine bJ<|dH<|cM<|aX<|aT r (uL (fL r r) (show _=.int .i64 (6:Int) from r))<|mI r<|dT (fr':=[(2,.box 0 0),(3,.box 1 0),(5,.ptrs [(0,1),(0,2),(0,3),(0,4),(0,5),(0,6),(0,7),(0,8)]),(6,.ptrs [(1,1),(1,2),(1,3),(1,4),(1,5),(1,6),(1,7),(1,8)]),(11,aI),(12,aI),(27,aB)]) r<|iV<|sU<|aK<|aT r (uL (fM r r) (show _=.bool true from r))<|aH (fr':=[(2,.box 0 0),(3,.box 1 0),(5,.ptrs [(0,1),(0,2),(0,3),(0,4),(0,5),(0,6),(0,7),(0,8)]),(6,.ptrs [(1,1),(1,2),(1,3),(1,4),(1,5),(1,6),(1,7),(1,8)]),(11,aI),(12,aI),(13,aB)]) r r ?_
       refine aU<|gT r<|bJ<|cM<|aU<|bZ<|aK<|mI r<|sI r<|aH (fr':=[(2,.box 0 0),(3,.box 1 0),(5,.ptrs [(0,1),(0,2),(0,3),(0,4),(0,5),(0,6),(0,7),(0,8)]),(6,.ptrs [(1,1),(1,2),(1,3),(1,4),(1,5),(1,6),(1,7),(1,8)]),(7,aI),(11,aI),(12,aI)]) r r<|aU<|jD [.q 0,.q 1,.q 2,.q 3,.q 4,.q 5,.q 6,.q 7,.q 8,.q 9,.q 10,.q 11,.q 12] [(some 15,[5]),(some 16,[7]),(some 17,[15,16]),(some 18,[17]),(some 19,[18]),(some 20,[19]),(some 21,[6]),(some 22,[7]),(some 23,[21,22]),(some 24,[23]),(some 25,[24]),(some 26,[25]),(some 27,[20,26])] [0,0,3,7,15,31,0,0,192,448,960,1984,4095] (by kernel_rfl) ?_
       refine dq r r (bA (v:=.ptrs [(0,1),(0,2),(0,3),(0,4),(0,5),(0,6),(0,7),(0,8)]) r)<|dq r r (bA (v:=aI) r)<|dq r r (lB (p:=(0,7)) pO r r r)<|dq r r (gE qG r)<|dq r r (gB r)<|dq r r (aJ (v:=aI) fY r r r)<|dq r r (bA (v:=.ptrs [(1,1),(1,2),(1,3),(1,4),(1,5),(1,6),(1,7),(1,8)]) r)<|dq r r (bA (v:=aI) r)<|dq r r (lB (p:=(1,7)) pO r r r)<|dq r r (gE qG r)<|dq r r (gB r)<|dq r r (aJ (v:=aI) fY r r r)<|dq r r (gQ r r) ?_
       refine xA (fr':=[(2,.box 0 0),(3,.box 1 0),(5,.ptrs [(0,1),(0,2),(0,3),(0,4),(0,5),(0,6),(0,7),(0,8)]),(6,.ptrs [(1,1),(1,2),(1,3),(1,4),(1,5),(1,6),(1,7),(1,8)]),(11,aI),(12,aI),(27,aB)]) r r<|cV h17 r (fun hb19 h19=>?_) (fun hb19 h19=>?_)
       ·
        refine aK<|sB r<|aH (fr':=[(4,aB)]) r r<|bI<|bN<|aN<|aN<|bN<|aN ?_
        obtain rfl:=sy h19
        exact bH (rs':=[.tmp 4]) r<|bP (v:=aB) r<|bG<|aQ [] r r r lr aF
       ·
        refine bJ<|dH<|cM<|aX<|aT r (uL (fL r r) (show _=.int .i64 (7:Int) from r))<|mI r<|dT (fr':=[(2,.box 0 0),(3,.box 1 0),(5,.ptrs [(0,1),(0,2),(0,3),(0,4),(0,5),(0,6),(0,7),(0,8)]),(6,.ptrs [(1,1),(1,2),(1,3),(1,4),(1,5),(1,6),(1,7),(1,8)]),(11,aI),(12,aI),(27,aB)]) r<|iV<|sU<|aK<|aT r (uL (fM r r) (show _=.bool true from r))<|aH (fr':=[(2,.box 0 0),(3,.box 1 0),(5,.ptrs [(0,1),(0,2),(0,3),(0,4),(0,5),(0,6),(0,7),(0,8)]),(6,.ptrs [(1,1),(1,2),(1,3),(1,4),(1,5),(1,6),(1,7),(1,8)]),(11,aI),(12,aI),(13,aB)]) r r ?_
        refine aU<|gT r<|bJ<|cM<|aU<|bZ<|aK<|mI r<|sI r<|aH (fr':=[(2,.box 0 0),(3,.box 1 0),(5,.ptrs [(0,1),(0,2),(0,3),(0,4),(0,5),(0,6),(0,7),(0,8)]),(6,.ptrs [(1,1),(1,2),(1,3),(1,4),(1,5),(1,6),(1,7),(1,8)]),(7,aI),(11,aI),(12,aI)]) r r<|aU<|jD [.q 0,.q 1,.q 2,.q 3,.q 4,.q 5,.q 6,.q 7,.q 8,.q 9,.q 10,.q 11,.q 12] [(some 15,[5]),(some 16,[7]),(some 17,[15,16]),(some 18,[17]),(some 19,[18]),(some 20,[19]),(some 21,[6]),(some 22,[7]),(some 23,[21,22]),(some 24,[23]),(some 25,[24]),(some 26,[25]),(some 27,[20,26])] [0,0,3,7,15,31,0,0,192,448,960,1984,4095] (by kernel_rfl) ?_
        refine dq r r (bA (v:=.ptrs [(0,1),(0,2),(0,3),(0,4),(0,5),(0,6),(0,7),(0,8)]) r)<|dq r r (bA (v:=aI) r)<|dq r r (lB (p:=(0,8)) pO r r r)<|dq r r (gE qG r)<|dq r r (gB r)<|dq r r (aJ (v:=aI) fY r r r)<|dq r r (bA (v:=.ptrs [(1,1),(1,2),(1,3),(1,4),(1,5),(1,6),(1,7),(1,8)]) r)<|dq r r (bA (v:=aI) r)<|dq r r (lB (p:=(1,8)) pO r r r)<|dq r r (gE qG r)<|dq r r (gB r)<|dq r r (aJ (v:=aI) fY r r r)<|dq r r (gQ r r) ?_
        refine xA (fr':=[(2,.box 0 0),(3,.box 1 0),(5,.ptrs [(0,1),(0,2),(0,3),(0,4),(0,5),(0,6),(0,7),(0,8)]),(6,.ptrs [(1,1),(1,2),(1,3),(1,4),(1,5),(1,6),(1,7),(1,8)]),(11,aI),(12,aI),(27,aB)]) r r<|cV h19 r (fun hb21 h21=>?_) (fun hb21 h21=>?_)
        ·
         refine aK<|sB r<|aH (fr':=[(4,aB)]) r r<|bI<|bN<|aN<|aN<|bN<|aN ?_
         obtain rfl:=sy h21
         exact bH (rs':=[.tmp 4]) r<|bP (v:=aB) r<|bG<|aQ [] r r r lr aF
        ·
         refine bJ<|dH<|cM<|aX<|aT r (uL (fL r r) (show _=.int .i64 (8:Int) from r))<|mI r<|dT (fr':=[(2,.box 0 0),(3,.box 1 0),(5,.ptrs [(0,1),(0,2),(0,3),(0,4),(0,5),(0,6),(0,7),(0,8)]),(6,.ptrs [(1,1),(1,2),(1,3),(1,4),(1,5),(1,6),(1,7),(1,8)]),(11,aI),(12,aI),(27,aB)]) r<|iV<|sU<|aK<|aT r (uL (fM r r) (show _=.bool false from r))<|aH (fr':=[(2,.box 0 0),(3,.box 1 0),(5,.ptrs [(0,1),(0,2),(0,3),(0,4),(0,5),(0,6),(0,7),(0,8)]),(6,.ptrs [(1,1),(1,2),(1,3),(1,4),(1,5),(1,6),(1,7),(1,8)]),(11,aI),(12,aI),(13,aB)]) r r ?_
         refine aU<|aBh r<|hH<|cX<|cX<|fU<|cM<|aK<|aT r (bD aBa r)<|aT r (aJ (v:=aS) nE r r r)<|aT r (bD aBa r)<|aT r (aJ (v:=aS) nE r r r) ?_
         refine aT r (sX r r)<|mB r<|og r r r (fun hc=>(bD qV r))<|og r r r (fun hc=>(aJ (v:=aL) rG (gx r hc) r r))<|og r r r (fun hc=>(bD qV r))<|og r r r (fun hc=>(aJ (v:=aL) rG (gx r hc) r r)) ?_
         obtain ⟨x23,hx23,h24⟩:=aG h21
         refine yS r r (fun hc=>bC (v:=aB) r (nU (dW hx23 hc)) ⟨(fK (gx r hc) lr),(fK (gx r hc) lr),trivial⟩ (gJ (by repeat (first | exact fF | refine aZ r ?_ | refine aZ (uH r) ?_ | refine aZ uG ?_))) r r) ?_
         refine aT r (cE r r r (fun e=>fW e))<|sB r<|aH (fr':=[(4,aB)]) r r<|bI ?_
         obtain rfl:=sy h24
         exact bH (rs':=[.tmp 4]) r<|bP (v:=aB) r<|bG<|aQ [] r r r lr aF
noncomputable def rJ (p0c:aP) (p1u:fQ):Option Bool :=
 (gd (((cond (cond (cond (cond p1u.seq_ true (decide (p0c.Seq=(0:Int)))) (cond p1u.name_ true (decide (p0c.Name=([]:List UInt8)))) false) (cond p1u.key_ true (decide (p0c.Key=([]:List UInt8)))) false) (cond p1u.n_ true (decide (p0c.N=(0:Int)))) false)==true)&&(p1u.data_==false)) (aAh p0c.Data (aC.mk (0:Int) (0:Int) ([]:List UInt8) ([]:(List aC)) ([]:(List (List UInt8)))))).bind fun x1=>(gd (((cond (cond (cond (cond (cond p1u.seq_ true (decide (p0c.Seq=(0:Int)))) (cond p1u.name_ true (decide (p0c.Name=([]:List UInt8)))) false) (cond p1u.key_ true (decide (p0c.Key=([]:List UInt8)))) false) (cond p1u.n_ true (decide (p0c.N=(0:Int)))) false) (cond p1u.data_ true x1) false)==true)&&(p1u.opts_==false)) (jN p0c.Opts (bL.mk ([]:List UInt8) (0:Int) (0:Int) (0:Int) (0:Int) (0:Int) (0:Int) (0:Int) (0:Int) ([]:(List (List UInt8)))))).bind fun x3=>some (cond (cond (cond (cond (cond (cond p1u.seq_ true (decide (p0c.Seq=(0:Int)))) (cond p1u.name_ true (decide (p0c.Name=([]:List UInt8)))) false) (cond p1u.key_ true (decide (p0c.Key=([]:List UInt8)))) false) (cond p1u.n_ true (decide (p0c.N=(0:Int)))) false) (cond p1u.data_ true x1) false) (cond p1u.opts_ true x3) false)
theorem aGi {p0c:aP}{p1u:fQ}{res:Bool} (h:rJ p0c p1u=some res):cC Tryz.prog 165 [.agg (AV.cs (cH p0c)),.agg (AV.cs (aA5 p1u))] [] (.c (.bool res)) []:=by
 unfold rJ at h
 refine cY (fn:=Tryz.f165) [0,1,2,3,4] (by kernel_rfl) Tryz.func165 r (by kernel_rfl) (by kernel_rfl)<|aK<|iH (v:=.agg aW) (n:=0) (cs:=aW) (σ':=[aW]) r r r r r<|iH (v:=.agg cG) (n:=1) (cs:=cG) (σ':=[aW,cG]) r r r r r<|sB r<|aH (fr':=[(2,.box 0 0),(3,.box 1 0)]) r r<|aK<|aT r (bD aLl r)<|aT r (aJ (v:=aB) tv4 r r r)<|mB r<|og r r r (fun hc=>(bD aBy r)) ?_
 refine og r r r (fun hc=>(aJ (v:=aI) fY (gx r hc) r r))<|og r r r (fun hc=>(dG (gx r hc) r))<|aT r (cB r r r (fun e=>fW e))<|mB r<|og r r r (fun hc=>(bD aLm r))<|og r r r (fun hc=>(aJ (v:=aB) tv4 (gx r hc) r r))<|og r r r (fun hc=>(bA (v:=aB) (gx r hc)))<|eX r r (fun hc=>fJ r (bD aAb r))<|eX r r (fun hc=>fJ r (aJ (v:=aS) nE (gx r hc) r r))<|eX r r (fun hc=>fJ r (sX (gx r hc) r))<|og r r r (fun hc=>(cB (gx r hc) r r (fun e=>rF hc (fW e))))<|aT r (cE r r r (fun e=>fW e))<|mB r ?_
 refine og r r r (fun hc=>(bD aLn r))<|og r r r (fun hc=>(aJ (v:=aB) tv4 (gx r hc) r r))<|og r r r (fun hc=>(bA (v:=aB) (gx r hc)))<|eX r r (fun hc=>fJ r (bD aBz r))<|eX r r (fun hc=>fJ r (aJ (v:=aS) nE (gx r hc) r r))<|eX r r (fun hc=>fJ r (sX (gx r hc) r))<|og r r r (fun hc=>(cB (gx r hc) r r (fun e=>rF hc (fW e))))<|aT r (cE r r r (fun e=>fW e))<|mB r<|og r r r (fun hc=>(bD aOM r))<|og r r r (fun hc=>(aJ (v:=aB) tv4 (gx r hc) r r))<|og r r r (fun hc=>(bA (v:=aB) (gx r hc)))<|eX r r (fun hc=>fJ r (bD tN r)) ?_
 refine eX r r (fun hc=>fJ r (aJ (v:=aI) fY (gx r hc) r r))<|eX r r (fun hc=>fJ r (dG (gx r hc) r))<|og r r r (fun hc=>(cB (gx r hc) r r (fun e=>rF hc (fW e))))<|aT r (cE r r r (fun e=>fW e))<|mB r<|og r r r (fun hc=>(bD aON r))<|og r r r (fun hc=>(aJ (v:=aB) tv4 (gx r hc) r r))<|og r r r (fun hc=>(bA (v:=aB) (gx r hc)))<|eX r r (fun hc=>fJ r (bD vK r))<|eX r r (fun hc=>fJ r (dJ (us:=bQ) gV (gx r hc) r r r))<|eX r r (fun hc=>fJ r (jA (cs:=bK) aGG r)) ?_
 obtain ⟨x1,hx1,h2⟩:=aG h
 refine eX r r (fun hc=>bC (v:=aB) r (aC8 (dW hx1 hc)) ⟨(fK (gx r hc) (bO r ⟨r,r,r,r,r,trivial⟩)),(fK (gx r hc) (bO r ⟨r,r,r,⟨_,r⟩,⟨_,r⟩,trivial⟩)),trivial⟩ (gJ (by repeat (first | exact fF | refine aZ r ?_ | refine aZ (uH r) ?_ | refine aZ uG ?_))) r r) ?_
 refine og r r r (fun hc=>(cB (gx r hc) r r (fun e=>rF hc (fW e))))<|aT r (cE r r r (fun e=>fW e))<|mB r<|og r r r (fun hc=>(bD aOO r))<|og r r r (fun hc=>(aJ (v:=aB) tv4 (gx r hc) r r))<|og r r r (fun hc=>(bA (v:=aB) (gx r hc)))<|eX r r (fun hc=>fJ r (bD aAc r))<|eX r r (fun hc=>fJ r (dJ (us:=cI) aBF (gx r hc) r r r))<|eX r r (fun hc=>fJ r (iA (c0:=bB) (cs:=bB) aP0 r hZ)) ?_
 obtain ⟨x3,hx3,h4⟩:=aG h2
 refine eX r r (fun hc=>bC (v:=aB) r (uD (dW hx3 hc)) ⟨(fK (gx r hc) (bO r ⟨r,r,r,r,r,r,r,r,r,r,trivial⟩)),(fK (gx r hc) (bO r ⟨r,r,r,r,r,r,r,r,r,⟨_,r⟩,trivial⟩)),trivial⟩ (gJ (by repeat (first | exact fF | refine aZ r ?_ | refine aZ (uH r) ?_ | refine aZ uG ?_))) r r) ?_
 refine og r r r (fun hc=>(cB (gx r hc) r r (fun e=>rF hc (fW e))))<|aT r (cE r r r (fun e=>fW e))<|sB r<|aH (fr':=[(4,aB)]) r r<|bI ?_
 obtain rfl:=sy h4
 exact bH (rs':=[.tmp 4]) r<|bP (v:=aB) r<|bG<|aQ [] r r r lr aF
noncomputable def pJ (p0s:(List UInt8)) (s4:Int):Option (bS Int (Fl Bool Unit)) :=
 cond (decide (s4<((p0s).length:Int))) ((jV p0s s4).bind fun x6=>(gd ((decide (((x6).toNat:Int)<(33:Int)))==false) (jV p0s s4)).bind fun x8=>(gd ((cond (decide (((x6).toNat:Int)<(33:Int))) true (decide ((126:Int)<((x8).toNat:Int))))==false) (jV p0s s4)).bind fun x10=>(gd ((cond (cond (decide (((x6).toNat:Int)<(33:Int))) true (decide ((126:Int)<((x8).toNat:Int)))) true (decide (((x10).toNat:Int)=(47:Int))))==false) (jV p0s s4)).bind fun x12=>cond (cond (cond (cond (decide (((x6).toNat:Int)<(33:Int))) true (decide ((126:Int)<((x8).toNat:Int)))) true (decide (((x10).toNat:Int)=(47:Int)))) true (decide (((x12).toNat:Int)=(34:Int)))) (some (bS.out (Fl.done false))) (some (bS.next (IntKind.wrap .i64 (s4+(1:Int)))))) (some (bS.out (Fl.go ())))
noncomputable def nV (p0s:(List UInt8)):Option Bool :=
 ((dL (pJ p0s) ((0:Int))):Option (Fl Bool Unit)).bind fun x1=>Fl.next x1 (fun j3=>((iD ((p0s).length:Int) (1:Int) (64:Int)).bind fun x20=>some x20))
theorem aEG {p0s:(List UInt8)}{res:Bool} (h:nV p0s=some res):cC Tryz.prog 166 [.c (.str p0s)] [] (.c (.bool res)) []:=by
 unfold nV at h
 refine cY (fn:=Tryz.f166) [0,2,3,5,6,7,30] (by kernel_rfl) Tryz.func166 r (by kernel_rfl) (by kernel_rfl)<|aK<|sB r<|aH (fr':=[(0,aS)]) r r<|aU<|aK<|mS r<|aT r (nI wT r)<|mI r<|aH (fr':=[(0,aS),(5,aI),(6,aI)]) r r ?_
 obtain ⟨x1,hx1,h2⟩:=aG h
 refine gZ mO (fun j3=>x1=Fl.go j3) (fun (j3:Unit)=>([(0,.c (.str p0s))]:Fr)) (fun (j3:Unit)=>([]:St)) ?_ ?_
 ·
  refine bZ<|gU _ (fun (s4:Int)=>([(0,.c (.str p0s)),(5,ci ((p0s).length:Int)),(6,ci s4)]:Fr)) (fun (s4:Int)=>([]:St)) hx1 (bT [] 0 r r r r ⟨lr,lr,lr,trivial⟩ aF) ?_
  intro s4 st4 hs4 ho4
  unfold pJ at hs4
  refine aK<|aT r (fM r r)<|aH (fr':=[(0,aS),(5,aI),(6,aI),(7,aB)]) r r<|aU<|cV hs4 r (fun hb5 h5=>?_) (fun hb5 h5=>?_)
  ·
   refine bJ<|cM<|aU<|bZ<|aK<|mI r<|sI r<|aH (fr':=[(0,aS),(3,aI),(5,aI),(6,aI)]) r r<|aK<|mS r<|mI r ?_
   obtain ⟨x6,hx6,h7⟩:=aG h5
   refine aT r (aFF wT r r hx6)<|aT r (fM r r)<|mB r<|og r r r (fun hc=>(bA (v:=aS) r))<|og r r r (fun hc=>(bA (v:=aI) r)) ?_
   obtain ⟨x8,hx8,h9⟩:=aG h7
   refine og r r r (fun hc=>(aFF wT (gx r hc) (gx r hc) (dW hx8 hc)))<|og r r r (fun hc=>(sJ (gx r hc) r))<|aT r (cB r r r (fun e=>fW e))<|mB r<|og r r r (fun hc=>(bA (v:=aS) r))<|og r r r (fun hc=>(bA (v:=aI) r)) ?_
   obtain ⟨x10,hx10,h11⟩:=aG h9
   refine og r r r (fun hc=>(aFF wT (gx r hc) (gx r hc) (dW hx10 hc)))<|og r r r (fun hc=>(dG (gx r hc) r))<|aT r (cB r r r (fun e=>fW e))<|mB r<|og r r r (fun hc=>(bA (v:=aS) r))<|og r r r (fun hc=>(bA (v:=aI) r)) ?_
   obtain ⟨x12,hx12,h13⟩:=aG h11
   refine og r r r (fun hc=>(aFF wT (gx r hc) (gx r hc) (dW hx12 hc)))<|og r r r (fun hc=>(dG (gx r hc) r))<|aT r (cB r r r (fun e=>fW e))<|aH (fr':=[(0,aS),(5,aI),(6,aI),(30,aB)]) r r<|cV h13 r (fun hb14 h14=>?_) (fun hb14 h14=>?_)
   ·
    refine aK<|sB r<|aH (fr':=[(2,aB)]) r r<|bI<|bN<|aN<|aN<|bN<|aN<|aN ?_
    have h15:=eY h14 ho4
    have h16:=fI h15 h2
    obtain rfl:=sy h16
    exact bH (rs':=[.tmp 2]) r<|bP (v:=aB) r<|bG<|aQ [] r r r lr aF
   ·
    exact bJ<|dH<|cM<|aX<|aT r (fL r r)<|mI r<|dT (fr':=[(0,aS),(5,aI),(6,aI),(30,aB)]) r<|e_l _ (sy h14) (bT [] 0 r r r r ⟨lr,lr,lr,trivial⟩ aF)
  ·
   refine hH<|cX<|cX<|fU ?_
   have h18:=eY h5 ho4
   exact pG _ (sy h18) (bT [] 0 r r r r ⟨lr,trivial⟩ aF)
 ·
  intro j3 hj19
  have h19:=nG hj19 h2
  refine cM<|aK<|mS r<|aT r (nI wT r) ?_
  obtain ⟨x20,hx20,h21⟩:=aG h19
  refine lM (bC (v:=aB) r (jC hx20) ⟨lr,lr,lr,trivial⟩ r r r)<|sB r<|aH (fr':=[(2,aB)]) r r<|bI ?_
  obtain rfl:=sy h21
  exact bH (rs':=[.tmp 2]) r<|bP (v:=aB) r<|bG<|aQ [] r r r lr aF
noncomputable def nR (p0x:aC):Option Bool :=
 (gd ((cond (!decide (p0x.Kind=(4:Int))) true (!decide (((p0x.Items).length:Int)=(2:Int))))==false) (jV p0x.Items (0:Int))).bind fun x1=>(gd ((cond (cond (!decide (p0x.Kind=(4:Int))) true (!decide (((p0x.Items).length:Int)=(2:Int)))) true (!decide (x1.Kind=(3:Int))))==false) (jV p0x.Items (0:Int))).bind fun x3=>(gd ((cond (cond (!decide (p0x.Kind=(4:Int))) true (!decide (((p0x.Items).length:Int)=(2:Int)))) true (!decide (x1.Kind=(3:Int))))==false) (oS x3.Text)).bind fun x5=>some (cond (cond (cond (!decide (p0x.Kind=(4:Int))) true (!decide (((p0x.Items).length:Int)=(2:Int)))) true (!decide (x1.Kind=(3:Int)))) true (!x5))
theorem aC3 {p0x:aC}{res:Bool} (h:nR p0x=some res):cC Tryz.prog 216 [.agg (AV.cs (eF p0x))] [] (.c (.bool res)) []:=by
 unfold nR at h
 refine cY (fn:=Tryz.f216) [0,1,2] (by kernel_rfl) Tryz.func216 r (by kernel_rfl) (by kernel_rfl)<|aK<|iH (v:=.agg bQ) (n:=0) (cs:=bQ) (σ':=[bQ]) r r r r r<|sB r<|aH (fr':=[(1,.box 0 0)]) r r<|aK<|aT r (bD oC r)<|aT r (aJ (v:=aI) fY r r r)<|aT r (gQ r r)<|mB r<|og r r r (fun hc=>(bD kY r)) ?_
 refine og r r r (fun hc=>(aJ (v:=aL) vM (gx r hc) r r))<|og r r r (fun hc=>(gN aAE (eO (gx r hc))))<|og r r r (fun hc=>(gQ (gx r hc) r))<|aT r (cB r r r (fun e=>fW e))<|mB r<|og r r r (fun hc=>(bD kY r))<|og r r r (fun hc=>(aJ (v:=aL) vM (gx r hc) r r)) ?_
 obtain ⟨x1,hx1,h2⟩:=aG h
 refine og r r r (fun hc=>(oV (cs:=[PV.int _ _,PV.int _ _,PV.str _,PV.ls _ _ _,PV.ls _ _ _]) aBE (eO (gx r hc)) r (dW hx1 hc) (eT _)))<|og r r r (fun hc=>(aK7 oC (gx r hc)))<|og r r r (fun hc=>(jW (p:=PV.int _ _) fY (gx r hc) r))<|og r r r (fun hc=>(gQ (gx r hc) r))<|aT r (cB r r r (fun e=>fW e))<|mB r<|og r r r (fun hc=>(bD kY r))<|og r r r (fun hc=>(aJ (v:=aL) vM (gx r hc) r r)) ?_
 obtain ⟨x3,hx3,h4⟩:=aG h2
 refine og r r r (fun hc=>(oV (cs:=[PV.int _ _,PV.int _ _,PV.str _,PV.ls _ _ _,PV.ls _ _ _]) aBE (eO (gx r hc)) r (dW hx3 hc) (eT _)))<|og r r r (fun hc=>(aK7 yB (gx r hc)))<|og r r r (fun hc=>(jW (p:=PV.str _) nE (gx r hc) r)) ?_
 obtain ⟨x5,hx5,h6⟩:=aG h4
 refine yS r r (fun hc=>bC (v:=aB) r (vO (dW hx5 hc)) ⟨(fK (gx r hc) lr),trivial⟩ (gJ (by repeat (first | exact fF | refine aZ r ?_ | refine aZ (uH r) ?_ | refine aZ uG ?_))) r r) ?_
 refine og r r r (fun hc=>(fH (gx r hc)))<|aT r (cB r r r (fun e=>fW e))<|sB r<|aH (fr':=[(2,aB)]) r r<|bI ?_
 obtain rfl:=sy h6
 exact bH (rs':=[.tmp 2]) r<|bP (v:=aB) r<|bG<|aQ [] r r r lr aF
end Go.Proofs.YtnigjppddilpcaaGreatDoor
