import Derived.Test.YtnigjppddilpcaaGreatDoorGETy
import Derived.Test.YtnigjppddilpcaaGreatDoorGEF0
import Derived.Test.YtnigjppddilpcaaGreatDoorGEF1
import Derived.Test.YtnigjppddilpcaaGreatDoorGEF4
namespace Go.Proofs.YtnigjppddilpcaaGreatDoor
open Go Abs
set_option maxRecDepth 100000
set_option linter.unusedVariables false
set_option linter.unusedSimpArgs false
noncomputable def eX (kG:Int→Int→aQ→Option (aG × Int × aQ)) (x1:(Int × aQ)) (wS:Int) (qB:Int) (s10:(Int × Int × aQ × (List aG) × (List (List UInt8)))):Option (cM (Int × Int × aQ × (List aG) × (List (List UInt8))) (Fl (aG × Int × aQ) (Int × aQ × (List aG) × (List (List UInt8))))) :=
 cond (decide (s10.1<x1.1)) (((cond (decide (wS=(5:Int))) ((fZ (9223372036854775807:Int) s10.2.2.1).bind fun x16=>(gd (((decide (((x16.1).length:Int)≤(4096:Int)))==true)&&((decide (s10.1=(0:Int)))==false)) (jT s10.2.2.2.2 (IntKind.wrap .i64 (s10.1 - (1:Int))))).bind fun x18=>(gV (cond (decide (((x16.1).length:Int)≤(4096:Int))) (cond (decide (s10.1=(0:Int))) true (!(Op.bytesLess x16.1 x18||decide (x16.1=x18)))) false) s10.2.1 x16.2).bind fun x20=>cond (!x20.1) (some (Fl.done (cM.out (Fl.done ((aG.mk (0:Int) (0:Int) ([]:List UInt8) ([]:(List aG)) ([]:(List (List UInt8)))),s10.2.1,x20.2))))) ((app 16 s10.2.2.2.2 ([x16.1]:List (List UInt8))).bind fun x27=>some (Fl.go (x20.2,x27)))) (some (Fl.go (s10.2.2.1,s10.2.2.2.2)))):Option (Fl (cM (Int × Int × aQ × (List aG) × (List (List UInt8))) (Fl (aG × Int × aQ) (Int × aQ × (List aG) × (List (List UInt8))))) (aQ × (List (List UInt8))))).bind fun x12=>Fl.next x12 (fun j14=>((kG (IntKind.wrap .i64 (qB+(1:Int))) s10.2.1 j14.1).bind fun x30=>(eO x30.2.2).bind fun x32=>cond (!decide (x32=(0:Int))) (some (cM.out (Fl.done ((aG.mk (0:Int) (0:Int) ([]:List UInt8) ([]:(List aG)) ([]:(List (List UInt8)))),x30.2.1,x30.2.2)))) ((app 80 s10.2.2.2.1 ([x30.1]:List aG)).bind fun x38=>some (cM.next ((IntKind.wrap .i64 (s10.1+(1:Int))),x30.2.1,x30.2.2,x38,j14.2)))))) (some (cM.out (Fl.go (s10.2.1,s10.2.2.1,s10.2.2.2.1,s10.2.2.2.2))))
mutual
noncomputable def fT:Nat→Int→Int→(List UInt8)→Int→Int→aQ→Option (aG × Int × aQ)
 | 0,_,_,_,_,_,_=>none
 | n+1,wS,aCF,aCG,qB,fF,mD =>
  (eP (-9223372036854775808:Int) (9223372036854775807:Int) mD).bind fun x1=>(gV (cond (decide ((0:Int)≤x1.1)) (decide (x1.1≤(1000:Int))) false) fF x1.2).bind fun x3=>cond (!x3.1) (some ((aG.mk (0:Int) (0:Int) ([]:List UInt8) ([]:(List aG)) ([]:(List (List UInt8)))),fF,x3.2)) (((eQ (eX (dS n) x1 wS qB) (((0:Int),fF,x3.2,([]:(List aG)),([]:(List (List UInt8)))))):Option (Fl (aG × Int × aQ) (Int × aQ × (List aG) × (List (List UInt8))))).bind fun x7=>Fl.next x7 (fun j9=>(some ((aG.mk wS aCF aCG j9.2.2.1 j9.2.2.2),j9.1,j9.2.1))))
noncomputable def dS:Nat→Int→Int→aQ→Option (aG × Int × aQ)
 | 0,_,_,_=>none
 | n+1,mE,fF,mD =>
  (gV (cond (decide (fF<(1000:Int))) (decide (mE≤(16:Int))) false) fF mD).bind fun x1=>cond (!x1.1) (some ((aG.mk (0:Int) (0:Int) ([]:List UInt8) ([]:(List aG)) ([]:(List (List UInt8)))),fF,x1.2)) ((eP (-9223372036854775808:Int) (9223372036854775807:Int) x1.2).bind fun x5=>(gV (cond (decide ((0:Int)≤x5.1)) (decide (x5.1≤(5:Int))) false) (IntKind.wrap .i64 (fF+(1:Int))) x5.2).bind fun x7=>cond (!x7.1) (some ((aG.mk (0:Int) (0:Int) ([]:List UInt8) ([]:(List aG)) ([]:(List (List UInt8)))),(IntKind.wrap .i64 (fF+(1:Int))),x7.2)) (((cond (decide (x5.1=(1:Int))) ((eP (-9223372036854775808:Int) (9223372036854775807:Int) x7.2).bind fun x15=>(gV (cond (decide (x15.1=(0:Int))) true (decide (x15.1=(1:Int)))) (IntKind.wrap .i64 (fF+(1:Int))) x15.2).bind fun x17=>some (Fl.go (x17.2,x15.1,([]:List UInt8)))) (cond (decide (x5.1=(2:Int))) ((eP (-9223372036854775808:Int) (9223372036854775807:Int) x7.2).bind fun x20=>some (Fl.go (x20.2,x20.1,([]:List UInt8)))) (cond (decide (x5.1=(3:Int))) ((fZ (9223372036854775807:Int) x7.2).bind fun x23=>(gV (decide (((x23.1).length:Int)≤(4096:Int))) (IntKind.wrap .i64 (fF+(1:Int))) x23.2).bind fun x25=>some (Fl.go (x25.2,(0:Int),x23.1))) (((cond (decide (x5.1=(4:Int))) (some (decide (x5.1=(4:Int)))) (some (decide (x5.1=(5:Int))))):Option Bool).bind fun x27=>(cond x27 (((fT n) x5.1 (0:Int) ([]:List UInt8) mE (IntKind.wrap .i64 (fF+(1:Int))) x7.2).bind fun x33=>some (Fl.done (x33.1,x33.2.1,x33.2.2))) (some (Fl.go (x7.2,(0:Int),([]:List UInt8))))))))):Option (Fl (aG × Int × aQ) (aQ × Int × (List UInt8)))).bind fun x11=>Fl.next x11 (fun j13=>(some ((aG.mk x5.1 j13.2.1 j13.2.2 ([]:(List aG)) ([]:(List (List UInt8)))),(IntKind.wrap .i64 (fF+(1:Int))),j13.1)))))
end
theorem zW:∀ n:Nat,(∀ {wS:Int}{aCF:Int}{aCG:(List UInt8)}{qB:Int}{fF:Int}{mD:aQ}{res:(aG × Int × aQ)},fT n wS aCF aCG qB fF mD=some res→bT Tryz.prog 184 [.box 0 0,.agg [ci wS,ci aCF,.c (.str aCG),AV.nil,AV.nil],ci qB] [[.box 1 0,ci fF],AV.cs (cW mD)] (.agg (AV.cs (cV res.1))) [[.box 1 0,ci res.2.1],AV.cs (cW res.2.2)])∧(∀ {mE:Int}{fF:Int}{mD:aQ}{res:(aG × Int × aQ)},dS n mE fF mD=some res→bT Tryz.prog 145 [.box 0 0,ci mE] [[.box 1 0,ci fF],AV.cs (cW mD)] (.agg (AV.cs (cV res.1))) [[.box 1 0,ci res.2.1],AV.cs (cW res.2.2)]):=by
 intro n
 induction n with
 | zero=>exact ⟨fun {wS aCF aCG qB fF mD res} h=>absurd h (by simp [fT]),fun {mE fF mD res} h=>absurd h (by simp [dS])⟩
 | succ n ih =>
  obtain ⟨ih_value_decoder_items,ih_value_decoder_value⟩:=ih
  refine ⟨?_,?_⟩
  ·
   intro wS aCF aCG qB fF mD res h
   rw [fT] at h
   refine cJ (fn:=Tryz.f184) [0,1,2,4,6,7,8,9,10,24,28,33,58,75] (by kernel_rfl) Tryz.func184 r (by kernel_rfl) (by kernel_rfl)<|aH<|fW (v:=.agg bU) (n:=2) (cs:=bU) (σ':=[[.box 1 0,aI],cH,bU]) r r r r r<|hS (n:=3) (cs:=bU) (σ':=[[.box 1 0,aI],cH,bU,bU]) aDC r r r<|aF (fr':=[(0,.box 0 0),(2,aI),(4,.box 2 0),(6,.box 3 0)]) r r<|aH<|mV (v:=.box 0 0) r<|aK r (gE r)<|aK r (aZ uM r)<|aK r (aJ (v:=.box 1 0) aGt r r r) ?_
   obtain ⟨x1,hx1,h2⟩:=aE h
   refine dK (v:=aI) (σ':=[[.box 1 0,aI],cH,bU,bU]) [1] r (iU hx1) r r ⟨lr,lr,lr,trivial⟩ (fJ ⟨r,r,r,r,trivial⟩ aC) r r r<|sI r<|aF (fr':=[(0,.box 0 0),(2,aI),(4,.box 2 0),(6,.box 3 0),(7,aI)]) r r<|aR<|aH<|mV (v:=.box 0 0) r<|mI r<|aK r (lC r r)<|mB r<|og r r r (fun hc=>(bC (v:=aI) r))<|og r r r (fun hc=>(lI (gx r hc) r))<|aK r (bM r r r (fun e=>eI e)) ?_
   obtain ⟨x3,hx3,h4⟩:=aE h2
   refine dK (v:=aB) (σ':=[[.box 1 0,aI],cH,bU,bU]) [0,1] r (jI hx3) r r ⟨lr,lr,trivial⟩ (vK ⟨lr,lr,trivial⟩ (fJ ⟨r,r,r,r,trivial⟩ aC)) (fC (by repeat (first | exact dT | refine aX r ?_ | refine aX (oQ r) ?_ | refine aX oP ?_))) r r ?_
   refine aK r (eD r)<|aF (fr':=[(0,.box 0 0),(2,aI),(4,.box 2 0),(6,.box 3 0),(7,aI),(24,aB)]) r r<|bS h4 r (fun hb5 h5=>?_) (fun hb5 h5=>?_)
   ·
    refine aH<|aK r (iF (cs:=bU) aEk r)<|bV (v:=.agg bU) (us:=bU) (cs:=bU) (σ':=[[.box 1 0,aI],cH,bU,bU]) r fV r r r r r r r r<|aF (fr':=[(6,.box 3 0)]) r r<|bF<|aM ?_
    obtain rfl:=sy h5
    exact bE (rs':=[.cell 6 26]) r<|eV (us:=bU) (cs:=bU) fV r r r r<|bD<|aN [] r r r (bP r ⟨r,r,r,⟨_,r⟩,⟨_,r⟩,trivial⟩) (vK ⟨lr,lr,trivial⟩ (fJ ⟨r,r,r,r,trivial⟩ aC))
   ·
    refine aW<|bZ<|aR<|aH<|sI r<|aF (fr':=[(0,.box 0 0),(2,aI),(4,.box 2 0),(6,.box 3 0),(7,aI),(8,aI)]) r r ?_
    obtain ⟨x7,hx7,h8⟩:=aE h5
    refine eR gX (fun j9=>x7=Fl.go j9) (fun (j9:(Int × aQ × (List aG) × (List (List UInt8))))=>([(4,.box 2 0),(6,.box 3 0)]:Fr)) (fun (j9:(Int × aQ × (List aG) × (List (List UInt8))))=>([[.box 1 0,ci j9.1],[.c (PV.ls 1 eL j9.2.1.b_),ci j9.2.1.at_,ci j9.2.1.err_,.c (.bool j9.2.1.made_)],[ci wS,ci aCF,.c (.str aCG),AV.os 0 5 bB j9.2.2.1,AV.os 1 1 dD j9.2.2.2],[ci 0,ci 0,.c (.str ([]:List UInt8)),AV.nil,AV.nil]]:St)) ?_ ?_
    ·
     refine bL<|eK _ (fun (s10:(Int × Int × aQ × (List aG) × (List (List UInt8))))=>([(0,.box 0 0),(2,ci qB),(4,.box 2 0),(6,.box 3 0),(7,ci x1.1),(8,ci s10.1)]:Fr)) (fun (s10:(Int × Int × aQ × (List aG) × (List (List UInt8))))=>([[.box 1 0,ci s10.2.1],[.c (PV.ls 1 eL s10.2.2.1.b_),ci s10.2.2.1.at_,ci s10.2.2.1.err_,.c (.bool s10.2.2.1.made_)],[ci wS,ci aCF,.c (.str aCG),AV.os 0 5 bB s10.2.2.2.1,AV.os 1 1 dD s10.2.2.2.2],[ci 0,ci 0,.c (.str ([]:List UInt8)),AV.nil,AV.nil]]:St)) hx7 (aU [1000000,1000001] 4 r r r r ⟨lr,lr,lr,lr,lr,lr,trivial⟩ (bJ r (bJ r (vK ⟨lr,lr,lr,(yY r),(yY r),trivial⟩ (bJ r aC))))) ?_
     intro s10 st10 hs10 ho10
     unfold eX at hs10
     refine aR<|aH<|mI r<|mI r<|aK r (eA r r)<|aF (fr':=[(0,.box 0 0),(2,aI),(4,.box 2 0),(6,.box 3 0),(7,aI),(8,aI),(28,aB)]) r r<|bS hs10 r (fun hb11 h11=>?_) (fun hb11 h11=>?_)
     ·
      refine aW<|bZ<|aR<|bL ?_
      obtain ⟨x12,hx12,h13⟩:=aE h11
      refine fP (fun j14=>x12=Fl.go j14) (fun (j14:(aQ × (List (List UInt8))))=>([(0,.box 0 0),(2,ci qB),(4,.box 2 0),(6,.box 3 0),(7,ci x1.1),(8,ci s10.1)]:Fr)) (fun (j14:(aQ × (List (List UInt8))))=>([[.box 1 0,ci s10.2.1],[.c (PV.ls 1 eL j14.1.b_),ci j14.1.at_,ci j14.1.err_,.c (.bool j14.1.made_)],[ci wS,ci aCF,.c (.str aCG),AV.os 0 5 bB s10.2.2.2.1,AV.os 1 1 dD j14.2],[ci 0,ci 0,.c (.str ([]:List UInt8)),AV.nil,AV.nil]]:St)) ?_ ?_
      ·
       refine aH<|aK r (aZ iR r)<|aK r (aJ (v:=aI) eB r r r)<|aK r (bO r r)<|aF (fr':=[(0,.box 0 0),(2,aI),(4,.box 2 0),(6,.box 3 0),(7,aI),(8,aI),(33,aB)]) r r<|bS hx12 r (fun hb15 h15=>?_) (fun hb15 h15=>?_)
       ·
        refine aH<|mV (v:=.box 0 0) r<|aK r (gE r)<|aK r (aZ uM r)<|aK r (aJ (v:=.box 1 0) aGt r r r) ?_
        obtain ⟨x16,hx16,h17⟩:=aE h15
        refine dK (v:=aS) (σ':=[[.box 1 0,aI],cH,[aI,aI,aS,aO,aO],bU]) [1] r (iI hx16) r r ⟨lr,lr,trivial⟩ (fJ ⟨r,r,r,r,trivial⟩ aC) r r r<|sS r<|aF (fr':=[(0,.box 0 0),(2,aI),(4,.box 2 0),(6,.box 3 0),(7,aI),(8,aI),(9,aS)]) r r<|aR<|aH<|mV (v:=.box 0 0) r<|mS r<|aK r (gS nJ r)<|aK r (lI r r)<|mB r<|og r r r (fun hc=>(bC (v:=aI) r))<|og r r r (fun hc=>(bO (gx r hc) r)) ?_
        refine og r r r (fun hc=>(bC (v:=aB) (gx r hc)))<|eJ r r (fun hc=>eU r (bC (v:=aS) r))<|eJ r r (fun hc=>eU r (aZ jW r))<|eJ r r (fun hc=>eU r (aJ (v:=aO) lN (gx r hc) r r))<|eJ r r (fun hc=>eU r (bC (v:=aI) r))<|eJ r r (fun hc=>eU r (aFq (gx r hc) r)) ?_
        obtain ⟨x18,hx18,h19⟩:=aE h17
        refine eJ r r (fun hc=>eU r (iL (cs:=[PV.str _]) rV (kQ (gx r hc)) (gx r hc) (cG hx18 hc) r))<|eJ r r (fun hc=>eU r (fU (p:=PV.str _) iE (gx r hc) r))<|eJ r r (fun hc=>eU r (aPb (gx r hc) (gx r hc)))<|og r r r (fun hc=>(bX (gx r hc) r r (fun e=>oO hc (eI e))))<|aK r (bM r r r (fun e=>eI e)) ?_
        obtain ⟨x20,hx20,h21⟩:=aE h19
        refine dK (v:=aB) (σ':=[[.box 1 0,aI],cH,[aI,aI,aS,aO,aO],bU]) [0,1] r (jI hx20) r r ⟨lr,lr,trivial⟩ (vK ⟨lr,lr,trivial⟩ (fJ ⟨r,r,r,r,trivial⟩ aC)) (fC (by repeat (first | exact dT | refine aX r ?_ | refine aX (oQ r) ?_ | refine aX oP ?_))) r r ?_
        refine aK r (eD r)<|aF (fr':=[(0,.box 0 0),(2,aI),(4,.box 2 0),(6,.box 3 0),(7,aI),(8,aI),(9,aS),(58,aB)]) r r<|bS h21 r (fun hb22 h22=>?_) (fun hb22 h22=>?_)
        ·
         refine aH<|aK r (iF (cs:=bU) aEk r)<|bV (v:=.agg bU) (us:=bU) (cs:=bU) (σ':=[[.box 1 0,aI],cH,[aI,aI,aS,aO,aO],bU]) r fV r r r r r r r r<|aF (fr':=[(6,.box 3 0)]) r r<|bF<|aM<|aM<|bH<|aM<|aM<|bH<|aM ?_
         refine aM ?_
         have h23:=eH h22 h13
         have h24:=dB h23 ho10
         have h25:=eH h24 h8
         obtain rfl:=sy h25
         exact bE (rs':=[.cell 6 26]) r<|eV (us:=bU) (cs:=bU) fV r r r r<|bD<|aN [] r r r (bP r ⟨r,r,r,⟨_,r⟩,⟨_,r⟩,trivial⟩) (vK ⟨lr,lr,trivial⟩ (fJ ⟨r,r,r,r,trivial⟩ aC))
        ·
         refine aW<|bZ<|aT<|aK r (aZ jW r)<|aK r (aJ (v:=aO) lN r r r)<|mS r<|mT (row:=dD) (xs:=([x16.1]:List (List UInt8))) (rows:=[[_]]) (σ':=[[.box 1 0,aI],cH,[aI,aI,aS,aO,aO],bU]) [0] rV r r r (cB r iC) r r ?_
         obtain ⟨x27,hx27,h28⟩:=aE h22
         exact aAB (row:=dD) rV r pU r (kQ r) (fun _=>r) hx27<|aK r (aZ jW r)<|bV (v:=aO) (us:=[aO]) (cs:=[aI,aI,aS,aO,aL]) (σ':=[[.box 1 0,aI],cH,[aI,aI,aS,aO,aO],bU]) r lN r r r r r r r r<|cD (fr':=[(0,.box 0 0),(2,aI),(4,.box 2 0),(6,.box 3 0),(7,aI),(8,aI),(9,aS),(58,aB)]) r<|fS _ (sy h28) (aU [0,1024] 4 r r r r ⟨lr,lr,lr,lr,lr,lr,trivial⟩ (bJ r (bJ r (bJ r (bJ r aC)))))
       ·
        exact aW<|fS _ (sy h15) (aU [0,1] 4 r r r r ⟨lr,lr,lr,lr,lr,lr,trivial⟩ (bJ r (bJ r (bJ r (bJ r aC)))))
      ·
       intro j14 hj29
       have h29:=iS hj29 h13
       refine aH<|mV (v:=.box 0 0) r<|mI r<|aK r (dZ r r) ?_
       obtain ⟨x30,hx30,h31⟩:=aE h29
       refine dK (v:=.agg bQ) (σ':=[[.box 1 0,aI],cH,[aI,aI,aS,aO,aO],bU]) [0,1] r (ih_value_decoder_value hx30) r r ⟨lr,lr,trivial⟩ (vK ⟨lr,lr,trivial⟩ (fJ ⟨r,r,r,r,trivial⟩ aC)) r r r<|hS (n:=4) (cs:=bU) (σ':=[[.box 1 0,aI],cH,[aI,aI,aS,aO,aO],bU,bU]) aDC r r r<|bV (v:=.agg bQ) (us:=bQ) (cs:=bU) (σ':=[[.box 1 0,aI],cH,[aI,aI,aS,aO,aO],bU,bQ]) r fV r r r r r r r r<|aF (fr':=[(0,.box 0 0),(2,aI),(4,.box 2 0),(6,.box 3 0),(7,aI),(8,aI),(10,.box 4 0)]) r r<|aR<|aH<|mV (v:=.box 0 0) r<|aK r (gE r)<|aK r (aZ uM r)<|aK r (aJ (v:=.box 1 0) aGt r r r) ?_
       obtain ⟨x32,hx32,h33⟩:=aE h31
       refine dK (v:=aI) (σ':=[[.box 1 0,aI],cH,[aI,aI,aS,aO,aO],bU,bQ]) [1] r (fI hx32) r r ⟨lr,trivial⟩ (fJ ⟨r,r,r,r,trivial⟩ aC) r r r<|aK r (gM r r)<|aF (fr':=[(0,.box 0 0),(2,aI),(4,.box 2 0),(6,.box 3 0),(7,aI),(8,aI),(10,.box 4 0),(75,aB)]) r r<|bS h33 r (fun hb34 h34=>?_) (fun hb34 h34=>?_)
       ·
        refine aH<|aK r (iF (cs:=bU) aEk r)<|bV (v:=.agg bU) (us:=bU) (cs:=bU) (σ':=[[.box 1 0,aI],cH,[aI,aI,aS,aO,aO],bU,bQ]) r fV r r r r r r r r<|aF (fr':=[(6,.box 3 0)]) r r<|bF<|aM<|bH<|aM<|aM<|bH<|aM<|aM ?_
        have h35:=dB h34 ho10
        have h36:=eH h35 h8
        obtain rfl:=sy h36
        exact bE (rs':=[.cell 6 26]) r<|eV (us:=bU) (cs:=bU) fV r r r r<|bD<|aN [] r r r (bP r ⟨r,r,r,⟨_,r⟩,⟨_,r⟩,trivial⟩) (vK ⟨lr,lr,trivial⟩ (fJ ⟨r,r,r,r,trivial⟩ aC))
       ·
        refine aW<|bZ<|aT<|aK r (aZ fM r)<|aK r (aJ (v:=aO) kD r r r)<|aK r (cN (us:=bQ) fV r r r r)<|mT (row:=bB) (xs:=([x30.1]:List aG)) (rows:=[[_,_,_,_,_]]) (σ':=[[.box 1 0,aI],cH,[aI,aI,aS,aO,aO],bU,bQ]) [0,0,0,5,1] tO r r r (cB (cY _) iC) r r ?_
        obtain ⟨x38,hx38,h39⟩:=aE h34
        exact aAB (row:=bB) tO r qM r (kQ r) aEj hx38<|aK r (aZ fM r)<|bV (v:=aO) (us:=[aO]) (cs:=[aI,aI,aS,aL,aO]) (σ':=[[.box 1 0,aI],cH,[aI,aI,aS,aO,aO],bU,bQ]) r kD r r r r r r r r<|cD (fr':=[(0,.box 0 0),(2,aI),(4,.box 2 0),(6,.box 3 0),(7,aI),(8,aI),(10,.box 4 0),(75,aB)]) r<|bW<|bZ<|aT<|mI r<|aK r (dZ r r)<|sI r<|cD (fr':=[(0,.box 0 0),(2,aI),(4,.box 2 0),(6,.box 3 0),(7,aI),(8,aI),(10,.box 4 0),(75,aB)]) r<|tU _ (sy h39) (aU [1296,1] 4 r r r r ⟨lr,lr,lr,lr,lr,lr,trivial⟩ (bJ r (bJ r (bJ r (bJ r aC)))))
     ·
      refine eZ<|bY<|bY<|dX ?_
      have h40:=dB h11 ho10
      exact fS _ (sy h40) (aU [0,1] 4 r r r r ⟨lr,lr,trivial⟩ (bJ r (bJ r (bJ r (bJ r aC)))))
    ·
     intro j9 hj41
     have h41:=iS hj41 h8
     refine bZ<|aH<|aK r (cN (us:=[aI,aI,aS,aO,aO]) fV r r r r)<|bV (v:=.agg [aI,aI,aS,aO,aO]) (us:=[aI,aI,aS,aO,aO]) (cs:=bU) (σ':=[[.box 1 0,aI],cH,[aI,aI,aS,aO,aO],[aI,aI,aS,aO,aO]]) r fV r r r r r r r r<|aF (fr':=[(6,.box 3 0)]) r r<|bF ?_
     obtain rfl:=sy h41
     exact bE (rs':=[.cell 6 26]) r<|eV (us:=[aI,aI,aS,aO,aO]) (cs:=[aI,aI,aS,aO,aO]) fV r r r r<|bD<|aN [] r r r (bP r ⟨r,r,r,r,r,trivial⟩) (vK ⟨lr,lr,trivial⟩ (fJ ⟨r,r,r,r,trivial⟩ aC))
  ·
   intro mE fF mD res h
   rw [dS] at h
   refine cJ (fn:=Tryz.f145) [0,1,4,5,17,42,45,46,64,72,86] (by kernel_rfl) Tryz.func145 r (by kernel_rfl) (by kernel_rfl)<|aH<|hS (n:=2) (cs:=bU) (σ':=[[.box 1 0,aI],cH,bU]) aDC r r r<|aF (fr':=[(0,.box 0 0),(1,aI),(4,.box 2 0)]) r r<|aR<|aH<|mV (v:=.box 0 0) r<|mV (v:=.box 0 0) r<|aK r (gE r)<|aK r (aZ aHM r)<|aK r (aJ (v:=aI) eB r r r) ?_
   refine aK r (eA r r)<|mB r<|og r r r (fun hc=>(bC (v:=aI) r))<|og r r r (fun hc=>(lI (gx r hc) r))<|aK r (bM r r r (fun e=>eI e)) ?_
   obtain ⟨x1,hx1,h2⟩:=aE h
   refine dK (v:=aB) (σ':=[[.box 1 0,aI],cH,bU]) [0,1] r (jI hx1) r r ⟨lr,lr,trivial⟩ (vK ⟨lr,lr,trivial⟩ (fJ ⟨r,r,r,r,trivial⟩ aC)) (fC (by repeat (first | exact dT | refine aX r ?_ | refine aX (oQ r) ?_ | refine aX oP ?_))) r r ?_
   refine aK r (eD r)<|aF (fr':=[(0,.box 0 0),(1,aI),(4,.box 2 0),(17,aB)]) r r<|bS h2 r (fun hb3 h3=>?_) (fun hb3 h3=>?_)
   ·
    refine aH<|aK r (iF (cs:=bU) aEk r)<|bV (v:=.agg bU) (us:=bU) (cs:=bU) (σ':=[[.box 1 0,aI],cH,bU]) r fV r r r r r r r r<|aF (fr':=[(4,.box 2 0)]) r r<|bF<|aM ?_
    obtain rfl:=sy h3
    exact bE (rs':=[.cell 4 26]) r<|eV (us:=bU) (cs:=bU) fV r r r r<|bD<|aN [] r r r (bP r ⟨r,r,r,⟨_,r⟩,⟨_,r⟩,trivial⟩) (vK ⟨lr,lr,trivial⟩ (fJ ⟨r,r,r,r,trivial⟩ aC))
   ·
    refine aW<|bZ<|aH<|mV (v:=.box 0 0) r<|aK r (gE r)<|aK r (aZ aHM r)<|aK r (aJ (v:=aI) eB r r r)<|aK r (dZ r r)<|aK r (gE r)<|aK r (aZ aHM r)<|bV (v:=aI) (us:=[aI]) (cs:=[.box 1 0,aI]) (σ':=[[.box 1 0,aI],cH,bU]) r eB r r r r r r r r<|aF (fr':=[(0,.box 0 0),(1,aI),(4,.box 2 0)]) r r ?_
    refine aH<|mV (v:=.box 0 0) r<|aK r (gE r)<|aK r (aZ uM r)<|aK r (aJ (v:=.box 1 0) aGt r r r) ?_
    obtain ⟨x5,hx5,h6⟩:=aE h3
    refine dK (v:=aI) (σ':=[[.box 1 0,aI],cH,bU]) [1] r (iU hx5) r r ⟨lr,lr,lr,trivial⟩ (fJ ⟨r,r,r,r,trivial⟩ aC) r r r<|aK r (iF (cs:=bU) aEk r)<|hS (n:=3) (cs:=bU) (σ':=[[.box 1 0,aI],cH,bU,bU]) aDC r r r<|bV (v:=.agg bU) (us:=bU) (cs:=bU) (σ':=[[.box 1 0,aI],cH,bU,bU]) r fV r r r r r r r r<|aF (fr':=[(0,.box 0 0),(1,aI),(4,.box 2 0),(5,.box 3 0)]) r r<|aR<|aH<|mV (v:=.box 0 0) r<|aK r (aZ iR r)<|aK r (aJ (v:=aI) eB r r r)<|aK r (lC r r)<|mB r ?_
    refine og r r r (fun hc=>(aZ iR r))<|og r r r (fun hc=>(aJ (v:=aI) eB (gx r hc) r r))<|og r r r (fun hc=>(lI (gx r hc) r))<|aK r (bM r r r (fun e=>eI e)) ?_
    obtain ⟨x7,hx7,h8⟩:=aE h6
    refine dK (v:=aB) (σ':=[[.box 1 0,aI],cH,bU,bU]) [0,1] r (jI hx7) r r ⟨lr,lr,trivial⟩ (vK ⟨lr,lr,trivial⟩ (fJ ⟨r,r,r,r,trivial⟩ aC)) (fC (by repeat (first | exact dT | refine aX r ?_ | refine aX (oQ r) ?_ | refine aX oP ?_))) r r ?_
    refine aK r (eD r)<|aF (fr':=[(0,.box 0 0),(1,aI),(4,.box 2 0),(5,.box 3 0),(42,aB)]) r r<|bS h8 r (fun hb9 h9=>?_) (fun hb9 h9=>?_)
    ·
     refine aH<|aK r (iF (cs:=bU) aEk r)<|bV (v:=.agg bU) (us:=bU) (cs:=bU) (σ':=[[.box 1 0,aI],cH,bU,bU]) r fV r r r r r r r r<|aF (fr':=[(4,.box 2 0)]) r r<|bF<|aM ?_
     obtain rfl:=sy h9
     exact bE (rs':=[.cell 4 26]) r<|eV (us:=bU) (cs:=bU) fV r r r r<|bD<|aN [] r r r (bP r ⟨r,r,r,⟨_,r⟩,⟨_,r⟩,trivial⟩) (vK ⟨lr,lr,trivial⟩ (fJ ⟨r,r,r,r,trivial⟩ aC))
    ·
     refine aW<|bZ ?_
     obtain ⟨x11,hx11,h12⟩:=aE h9
     refine fP (fun j13=>x11=Fl.go j13) (fun (j13:(aQ × Int × (List UInt8)))=>([(4,.box 2 0),(5,.box 3 0)]:Fr)) (fun (j13:(aQ × Int × (List UInt8)))=>([[.box 1 0,ci (IntKind.wrap .i64 (fF+(1:Int)))],[.c (PV.ls 1 eL j13.1.b_),ci j13.1.at_,ci j13.1.err_,.c (.bool j13.1.made_)],[ci 0,ci 0,.c (.str ([]:List UInt8)),AV.nil,AV.nil],[ci x5.1,ci j13.2.1,.c (.str j13.2.2),AV.nil,AV.nil]]:St)) ?_ ?_
     ·
      refine aH<|aK r (aZ iR r)<|aK r (aJ (v:=aI) eB r r r)<|aF (fr':=[(0,.box 0 0),(1,aI),(4,.box 2 0),(5,.box 3 0),(45,aI)]) r r<|bL<|aH<|aK r (bO r r)<|sB r<|aF (fr':=[(0,.box 0 0),(1,aI),(4,.box 2 0),(5,.box 3 0),(45,aI),(46,aB)]) r r<|bS hx11 r (fun hb14 h14=>?_) (fun hb14 h14=>?_)
      ·
       refine aH<|mV (v:=.box 0 0) r<|aK r (gE r)<|aK r (aZ uM r)<|aK r (aJ (v:=.box 1 0) aGt r r r) ?_
       obtain ⟨x15,hx15,h16⟩:=aE h14
       refine dK (v:=aI) (σ':=[[.box 1 0,aI],cH,bU,bU]) [1] r (iU hx15) r r ⟨lr,lr,lr,trivial⟩ (fJ ⟨r,r,r,r,trivial⟩ aC) r r r<|aK r (aZ mY r)<|bV (v:=aI) (us:=[aI]) (cs:=bU) (σ':=[[.box 1 0,aI],cH,bU,bU]) r eB r r r r r r r r<|aF (fr':=[(0,.box 0 0),(4,.box 2 0),(5,.box 3 0)]) r r<|aT<|mV (v:=.box 0 0) r<|aK r (aZ mY r)<|aK r (aJ (v:=aI) eB r r r)<|aK r (bO r r)<|mB r<|og r r r (fun hc=>(aZ mY r))<|og r r r (fun hc=>(aJ (v:=aI) eB (gx r hc) r r))<|og r r r (fun hc=>(bO (gx r hc) r)) ?_
       refine aK r (bX r r r (fun e=>eI e)) ?_
       obtain ⟨x17,hx17,h18⟩:=aE h16
       refine dK (v:=aB) (σ':=[[.box 1 0,aI],cH,bU,bU]) [0,1] r (jI hx17) r r ⟨lr,lr,trivial⟩ (vK ⟨lr,lr,trivial⟩ (fJ ⟨r,r,r,r,trivial⟩ aC)) (fC (by repeat (first | exact dT | refine aX r ?_ | refine aX (oQ r) ?_ | refine aX oP ?_))) r r ?_
       exact cD (fr':=[(0,.box 0 0),(4,.box 2 0),(5,.box 3 0)]) r<|bW<|fS _ (sy h18) (aU [] 4 r r r r ⟨lr,lr,trivial⟩ (bJ r (bJ r (bJ r (bJ r aC)))))
      ·
       refine aH<|aK r (bO r r)<|sB r<|aF (fr':=[(0,.box 0 0),(1,aI),(4,.box 2 0),(5,.box 3 0),(45,aI),(64,aB)]) r r<|bS h14 r (fun hb19 h19=>?_) (fun hb19 h19=>?_)
       ·
        refine aT<|mV (v:=.box 0 0) r<|aK r (gE r)<|aK r (aZ uM r)<|aK r (aJ (v:=.box 1 0) aGt r r r) ?_
        obtain ⟨x20,hx20,h21⟩:=aE h19
        exact dK (v:=aI) (σ':=[[.box 1 0,aI],cH,bU,bU]) [1] r (iU hx20) r r ⟨lr,lr,lr,trivial⟩ (fJ ⟨r,r,r,r,trivial⟩ aC) r r r<|aK r (aZ mY r)<|bV (v:=aI) (us:=[aI]) (cs:=bU) (σ':=[[.box 1 0,aI],cH,bU,bU]) r eB r r r r r r r r<|cD (fr':=[(0,.box 0 0),(1,aI),(4,.box 2 0),(5,.box 3 0),(45,aI),(64,aB)]) r<|bW<|fS _ (sy h21) (aU [] 4 r r r r ⟨lr,lr,trivial⟩ (bJ r (bJ r (bJ r (bJ r aC)))))
       ·
        refine aH<|aK r (bO r r)<|sB r<|aF (fr':=[(0,.box 0 0),(1,aI),(4,.box 2 0),(5,.box 3 0),(45,aI),(72,aB)]) r r<|bS h19 r (fun hb22 h22=>?_) (fun hb22 h22=>?_)
        ·
         refine aH<|mV (v:=.box 0 0) r<|aK r (gE r)<|aK r (aZ uM r)<|aK r (aJ (v:=.box 1 0) aGt r r r) ?_
         obtain ⟨x23,hx23,h24⟩:=aE h22
         refine dK (v:=aS) (σ':=[[.box 1 0,aI],cH,bU,bU]) [1] r (iI hx23) r r ⟨lr,lr,trivial⟩ (fJ ⟨r,r,r,r,trivial⟩ aC) r r r<|aK r (aZ oA r)<|bV (v:=aS) (us:=[aS]) (cs:=bU) (σ':=[[.box 1 0,aI],cH,bU,bU]) r iE r r r r r r r r<|aF (fr':=[(0,.box 0 0),(4,.box 2 0),(5,.box 3 0)]) r r<|aT<|mV (v:=.box 0 0) r<|aK r (aZ oA r)<|aK r (aJ (v:=aS) iE r r r)<|aK r (gS nJ r)<|aK r (lI r r) ?_
         obtain ⟨x25,hx25,h26⟩:=aE h24
         exact dK (v:=aB) (σ':=[[.box 1 0,aI],cH,bU,bU]) [0,1] r (jI hx25) r r ⟨lr,lr,trivial⟩ (vK ⟨lr,lr,trivial⟩ (fJ ⟨r,r,r,r,trivial⟩ aC)) r r r<|cD (fr':=[(0,.box 0 0),(4,.box 2 0),(5,.box 3 0)]) r<|bW<|fS _ (sy h26) (aU [] 4 r r r r ⟨lr,lr,trivial⟩ (bJ r (bJ r (bJ r (bJ r aC)))))
        ·
         obtain ⟨x27,hx27,h28⟩:=aE h22
         refine fP (fun j29=>x27=j29) (fun (j29:Bool)=>([(0,.box 0 0),(1,ci mE),(4,.box 2 0),(5,.box 3 0),(86,.c (.bool j29))]:Fr)) (fun (j29:Bool)=>([[.box 1 0,ci (IntKind.wrap .i64 (fF+(1:Int)))],[.c (PV.ls 1 eL x7.2.b_),ci x7.2.at_,ci x7.2.err_,.c (.bool x7.2.made_)],[ci 0,ci 0,.c (.str ([]:List UInt8)),AV.nil,AV.nil],[ci x5.1,ci 0,.c (.str ([]:List UInt8)),AV.nil,AV.nil]]:St)) ?_ ?_
         ·
          refine aH<|aK r (bO r r)<|sB r<|aF (fr':=[(0,.box 0 0),(1,aI),(4,.box 2 0),(5,.box 3 0),(45,aI),(86,aB)]) r r<|bS hx27 r (fun hb30 h30=>?_) (fun hb30 h30=>?_)
          ·
           exact aW<|fS _ (sy h30) (aU [] 4 r r r r ⟨lr,lr,lr,lr,lr,trivial⟩ (bJ r (bJ r (bJ r (bJ r aC)))))
          ·
           exact aT<|aK r (bO r r)<|sB r<|cD (fr':=[(0,.box 0 0),(1,aI),(4,.box 2 0),(5,.box 3 0),(45,aI),(86,aB)]) r<|fS _ (sy h30) (aU [] 4 r r r r ⟨lr,lr,lr,lr,lr,trivial⟩ (bJ r (bJ r (bJ r (bJ r aC)))))
         ·
          intro j29 hj31
          subst hj31
          refine bS h28 r (fun hb32 h32=>?_) (fun hb32 h32=>?_)
          ·
           refine aH<|mV (v:=.box 0 0) r<|aK r (cN (us:=bU) fV r r r r)<|mI r ?_
           obtain ⟨x33,hx33,h34⟩:=aE h32
           refine dK (v:=.agg bQ) (σ':=[[.box 1 0,aI],cH,bU,bU]) [0,1] r (ih_value_decoder_items hx33) r r ⟨lr,(aNU r ⟨lr,lr,lr,lr,lr,trivial⟩),lr,trivial⟩ (vK ⟨lr,lr,trivial⟩ (fJ ⟨r,r,r,r,trivial⟩ aC)) r r r<|bV (v:=.agg bQ) (us:=bQ) (cs:=bU) (σ':=[[.box 1 0,aI],cH,bQ,bU]) r fV r r r r r r r r<|aF (fr':=[(4,.box 2 0)]) r r<|bF<|bH<|aM ?_
           have h35:=eH h34 h12
           obtain rfl:=sy h35
           exact bE (rs':=[.cell 4 26]) r<|eV (us:=bQ) (cs:=bQ) fV r r r r<|bD<|aN [] r r r (bP r ⟨r,r,r,r,r,trivial⟩) (vK ⟨lr,lr,trivial⟩ (fJ ⟨r,r,r,r,trivial⟩ aC))
          ·
           exact aW<|bW<|fS _ (sy h32) (aU [] 4 r r r r ⟨lr,lr,trivial⟩ (bJ r (bJ r (bJ r (bJ r aC)))))
     ·
      intro j13 hj37
      have h37:=iS hj37 h12
      refine aH<|aK r (cN (us:=bU) fV r r r r)<|bV (v:=.agg bU) (us:=bU) (cs:=bU) (σ':=[[.box 1 0,aI],cH,bU,bU]) r fV r r r r r r r r<|aF (fr':=[(4,.box 2 0)]) r r<|bF ?_
      obtain rfl:=sy h37
      exact bE (rs':=[.cell 4 26]) r<|eV (us:=bU) (cs:=bU) fV r r r r<|bD<|aN [] r r r (bP r ⟨r,r,r,⟨_,r⟩,⟨_,r⟩,trivial⟩) (vK ⟨lr,lr,trivial⟩ (fJ ⟨r,r,r,r,trivial⟩ aC))
noncomputable def nE (mE:Int) (fF:Int) (mD:aQ):Option (aG × Int × aQ):=lim fun n=>dS n mE fF mD
theorem aAn {mE:Int}{fF:Int}{mD:aQ}{res:(aG × Int × aQ)} (h:nE mE fF mD=some res):bT Tryz.prog 145 [.box 0 0,ci mE] [[.box 1 0,ci fF],AV.cs (cW mD)] (.agg (AV.cs (cV res.1))) [[.box 1 0,ci res.2.1],AV.cs (cW res.2.2)]:=by
 obtain ⟨n,hn⟩:=kR h
 exact (zW n).2 hn
noncomputable def qO (cQ:aQ):Option (aG × aQ) :=
 (((eO cQ).bind fun x4=>cond (decide (x4=(1:Int))) (some (Fl.done ((aG.mk (0:Int) (0:Int) ([]:List UInt8) ([]:(List aG)) ([]:(List (List UInt8)))),cQ))) (some (Fl.go ()))):Option (Fl (aG × aQ) Unit)).bind fun x1=>Fl.next x1 (fun j3=>((nE (1:Int) (0:Int) cQ).bind fun x10=>(eO x10.2.2).bind fun x12=>cond (!decide (x12=(0:Int))) (some ((aG.mk (0:Int) (0:Int) ([]:List UInt8) ([]:(List aG)) ([]:(List (List UInt8)))),x10.2.2)) (some (x10.1,x10.2.2))))
theorem aA5 {cQ:aQ}{res:(aG × aQ)} (h:qO cQ=some res):bT Tryz.prog 72 [.box 0 0] [AV.cs (cW cQ)] (.agg (AV.cs (cV res.1))) [AV.cs (cW res.2)]:=by
 unfold qO at h
 refine cJ (fn:=Tryz.f72) [0,2,3,4,11,20] (by kernel_rfl) Tryz.func72 r (by kernel_rfl) (by kernel_rfl)<|aH<|hS (n:=1) (cs:=bU) (σ':=[cH,bU]) aDC r r r<|aF (fr':=[(0,.box 0 0),(2,.box 1 0)]) r r ?_
 obtain ⟨x1,hx1,h2⟩:=aE h
 refine fP (fun j3=>x1=Fl.go j3) (fun (j3:Unit)=>([(0,.box 0 0),(2,.box 1 0)]:Fr)) (fun (j3:Unit)=>([[.c (PV.ls 1 eL cQ.b_),ci cQ.at_,ci cQ.err_,.c (.bool cQ.made_)],[ci 0,ci 0,.c (.str ([]:List UInt8)),AV.nil,AV.nil]]:St)) ?_ ?_
 ·
  refine aH<|mV (v:=.box 0 0) r<|aK r (aJ8 aPp r r)<|mB r<|sM r r r<|mV (v:=.box 0 0) r<|sM r r r ?_
  obtain ⟨x4,hx4,h5⟩:=aE hx1
  refine dK (v:=aI) (σ':=[cH,bU]) [0] r (fI hx4) r r ⟨lr,trivial⟩ (fJ ⟨r,r,r,r,trivial⟩ aC) r r r<|sM r r r<|aK r (bO r r)<|aK r (aAE r r r)<|aF (fr':=[(0,.box 0 0),(2,.box 1 0),(11,aB)]) r r<|bS h5 r (fun hb6 h6=>?_) (fun hb6 h6=>?_)
  ·
   refine aH<|aK r (iF (cs:=bU) aEk r)<|bV (v:=.agg bU) (us:=bU) (cs:=bU) (σ':=[cH,bU]) r fV r r r r r r r r<|aF (fr':=[(2,.box 1 0)]) r r<|bF<|aM ?_
   have h7:=eH h6 h2
   obtain rfl:=sy h7
   exact bE (rs':=[.cell 2 26]) r<|eV (us:=bU) (cs:=bU) fV r r r r<|bD<|aN [] r r r (bP r ⟨r,r,r,⟨_,r⟩,⟨_,r⟩,trivial⟩) (fJ ⟨r,r,r,r,trivial⟩ aC)
  ·
   exact aW<|fS _ (sy h6) (aU [] 2 r r r r ⟨lr,lr,trivial⟩ (bJ r (bJ r aC)))
 ·
  intro j3 hj9
  have h9:=iS hj9 h2
  refine aH<|mV (v:=.box 0 0) r<|aK r (iF (cs:=[.box 0 0,aI]) aP2 r)<|fW (v:=.agg [.box 0 0,aI]) (n:=2) (cs:=[.box 0 0,aI]) (σ':=[cH,bU,[.box 0 0,aI]]) r r r r r<|sV (v:=.box 2 0) r<|aF (fr':=[(0,.box 0 0),(2,.box 1 0),(3,.box 2 0)]) r r<|aH<|mV (v:=.box 2 0) r ?_
  obtain ⟨x10,hx10,h11⟩:=aE h9
  refine dK (v:=.agg bQ) (σ':=[cH,bU,[.box 0 0,aI]]) [2,0] r (aAn hx10) r r ⟨lr,lr,trivial⟩ (vK ⟨lr,lr,trivial⟩ (fJ ⟨r,r,r,r,trivial⟩ aC)) r r r<|hS (n:=3) (cs:=bU) (σ':=[cH,bU,[.box 0 0,aI],bU]) aDC r r r<|bV (v:=.agg bQ) (us:=bQ) (cs:=bU) (σ':=[cH,bU,[.box 0 0,aI],bQ]) r fV r r r r r r r r<|aF (fr':=[(0,.box 0 0),(2,.box 1 0),(4,.box 3 0)]) r r<|aR<|aH<|mV (v:=.box 0 0) r ?_
  obtain ⟨x12,hx12,h13⟩:=aE h11
  refine dK (v:=aI) (σ':=[cH,bU,[.box 0 0,aI],bQ]) [0] r (fI hx12) r r ⟨lr,trivial⟩ (fJ ⟨r,r,r,r,trivial⟩ aC) r r r<|aK r (gM r r)<|aF (fr':=[(2,.box 1 0),(4,.box 3 0),(20,aB)]) r r<|bS h13 r (fun hb14 h14=>?_) (fun hb14 h14=>?_)
  ·
   refine aH<|aK r (iF (cs:=bU) aEk r)<|bV (v:=.agg bU) (us:=bU) (cs:=bU) (σ':=[cH,bU,[.box 0 0,aI],bQ]) r fV r r r r r r r r<|aF (fr':=[(2,.box 1 0)]) r r<|bF<|aM ?_
   obtain rfl:=sy h14
   exact bE (rs':=[.cell 2 26]) r<|eV (us:=bU) (cs:=bU) fV r r r r<|bD<|aN [] r r r (bP r ⟨r,r,r,⟨_,r⟩,⟨_,r⟩,trivial⟩) (fJ ⟨r,r,r,r,trivial⟩ aC)
  ·
   refine aW<|bZ<|aH<|aK r (cN (us:=bQ) fV r r r r)<|bV (v:=.agg bQ) (us:=bQ) (cs:=bU) (σ':=[cH,bQ,[.box 0 0,aI],bQ]) r fV r r r r r r r r<|aF (fr':=[(2,.box 1 0)]) r r<|bF ?_
   obtain rfl:=sy h14
   exact bE (rs':=[.cell 2 26]) r<|eV (us:=bQ) (cs:=bQ) fV r r r r<|bD<|aN [] r r r (bP r ⟨r,r,r,r,r,trivial⟩) (fJ ⟨r,r,r,r,trivial⟩ aC)
noncomputable def nU (gH:(List UInt8)) (fF:Int) (aEC:Int) (aED:Int) (aEE:Int) (aEF:Int) (aEG:Int) (aEH:Int) (aEI:Int):Option Unit :=
 some ()
theorem aAY {gH:(List UInt8)}{fF:Int}{aEC:Int}{aED:Int}{aEE:Int}{aEF:Int}{aEG:Int}{aEH:Int}{aEI:Int}{res:Unit} (h:nU gH fF aEC aED aEE aEF aEG aEH aEI=some res):bT Tryz.prog 146 [.box 0 0] [[.c (.str gH),ci fF,ci aEC,ci aED,ci aEE,ci aEF,ci aEG,ci aEH,ci aEI,AV.nil]] (.ptrs [(0,1),(0,2),(0,3),(0,4),(0,5),(0,6),(0,7),(0,8)]) [[.c (.str gH),ci fF,ci aEC,ci aED,ci aEE,ci aEF,ci aEG,ci aEH,ci aEI,AV.nil]]:=by
 unfold nU at h
 refine cJ (fn:=Tryz.f146) [0,2] (by kernel_rfl) Tryz.func146 r (by kernel_rfl) (by kernel_rfl)<|aH<|sV (v:=AV.nil) r<|aF (fr':=[(0,.box 0 0)]) r r<|aR<|hF [.q 0,.q 1,.q 2,.q 3,.q 4,.q 5,.q 6,.q 7,.q 8,.q 9,.q 10,.q 11,.q 12,.q 13,.q 14,.q 15,.q 16,.q 17,.q 18,.q 19,.q 20,.q 21,.q 22,.q 23,.n 24 [],.n 25 []] [(some 3,[0]),(some 4,[3]),(some 5,[4]),(some 6,[0]),(some 7,[6]),(some 8,[7]),(some 9,[0]),(some 10,[9]),(some 11,[10]),(some 12,[0]),(some 13,[12]),(some 14,[13]),(some 15,[0]),(some 16,[15]),(some 17,[16]),(some 18,[0]),(some 19,[18]),(some 20,[19]),(some 21,[0]),(some 22,[21]),(some 23,[22]),(some 24,[0]),(some 25,[24]),(some 26,[25]),(some 27,[5,8,11,14,17,20,23,26]),(some 2,[27])] [0,1,3,0,8,24,0,64,192,0,512,1536,0,4096,12288,0,32768,98304,0,262144,786432,0,2097152,6291456,16777215,33554431] (by kernel_rfl)<|dq r r (bC (v:=.box 0 0) r)<|dq r r (gE r)<|dq r r (aZ aB3 r)<|dq r r (bC (v:=.box 0 0) r)<|dq r r (gE r)<|dq r r (aZ aB4 r) ?_
 refine dq r r (bC (v:=.box 0 0) r)<|dq r r (gE r)<|dq r r (aZ aB5 r)<|dq r r (bC (v:=.box 0 0) r)<|dq r r (gE r)<|dq r r (aZ aB6 r)<|dq r r (bC (v:=.box 0 0) r)<|dq r r (gE r)<|dq r r (aZ aB7 r)<|dq r r (bC (v:=.box 0 0) r)<|dq r r (gE r)<|dq r r (aZ aB8 r)<|dq r r (bC (v:=.box 0 0) r) ?_
 refine dq r r (gE r)<|dq r r (aZ aB9 r)<|dq r r (bC (v:=.box 0 0) r)<|dq r r (gE r)<|dq r r (aZ aCa r)<|d_n r ?_ r
 refine aMU (l:=[(0,1),(0,2),(0,3),(0,4),(0,5),(0,6),(0,7),(0,8)]) qN r r r r<|yD<|⟨nH,?_⟩
 refine d_n r ?_ r
 refine sV (v:=.ptrs [(0,1),(0,2),(0,3),(0,4),(0,5),(0,6),(0,7),(0,8)]) r<|yD<|⟨nH,?_⟩
 refine tS (fr':=[(2,.ptrs [(0,1),(0,2),(0,3),(0,4),(0,5),(0,6),(0,7),(0,8)])]) r r<|bF ?_
 obtain rfl:=sy h
 exact bE (rs':=[.tmp 2]) r<|bG (v:=.ptrs [(0,1),(0,2),(0,3),(0,4),(0,5),(0,6),(0,7),(0,8)]) r<|bD<|aKH [] r r r lr (bJ r aC)
noncomputable def eY (cQ:aQ):Option (Int × aQ) :=
 (eP (-9223372036854775808:Int) (9223372036854775807:Int) cQ).bind fun x1=>some (x1.1,x1.2)
theorem fO {cQ:aQ}{res:(Int × aQ)} (h:eY cQ=some res):bT Tryz.prog 147 [.box 0 0] [AV.cs (cW cQ)] (ci res.1) [AV.cs (cW res.2)]:=by
 unfold eY at h
 refine cJ (fn:=Tryz.f147) [0,2] (by kernel_rfl) Tryz.func147 r (by kernel_rfl) (by kernel_rfl)<|aH<|sI r<|aF (fr':=[(0,.box 0 0)]) r r<|aH<|mV (v:=.box 0 0) r ?_
 obtain ⟨x1,hx1,h2⟩:=aE h
 refine dK (v:=aI) (σ':=[cH]) [0] r (iU hx1) r r ⟨lr,lr,lr,trivial⟩ (fJ ⟨r,r,r,r,trivial⟩ aC) r r r<|sI r<|aF (fr':=[(2,aI)]) r r<|bF ?_
 obtain rfl:=sy h2
 exact bE (rs':=[.tmp 2]) r<|bG (v:=aI) r<|bD<|aN [] r r r lr (fJ ⟨r,r,r,r,trivial⟩ aC)
noncomputable def kE (x22:(Int × aQ)) (s38:(Int × aQ × (List (List UInt8)))):Option (cM (Int × aQ × (List (List UInt8))) (aQ × (List (List UInt8)))) :=
 ((cond (decide (s38.1<x22.1)) ((eO s38.2.1).bind fun x43=>cond (decide (x43=(0:Int))) (some (Fl.go ())) (some (Fl.done (cM.out (s38.2.1,s38.2.2))))) (some (Fl.done (cM.out (s38.2.1,s38.2.2))))):Option (Fl (cM (Int × aQ × (List (List UInt8))) (aQ × (List (List UInt8)))) Unit)).bind fun x39=>Fl.next x39 (fun j41=>((fZ (4096:Int) s38.2.1).bind fun x51=>(app 16 s38.2.2 ([x51.1]:List (List UInt8))).bind fun x53=>some (cM.next ((IntKind.wrap .i64 (s38.1+(1:Int))),x51.2,x53))))
noncomputable def jR (cQ:aQ):Option (cE × aQ) :=
 (fZ (4096:Int) cQ).bind fun x1=>(nU x1.1 (0:Int) (0:Int) (0:Int) (0:Int) (0:Int) (0:Int) (0:Int) (0:Int)).bind fun x3=>(eY x1.2).bind fun x6=>(eY x6.2).bind fun x8=>(eY x8.2).bind fun x10=>(eY x10.2).bind fun x12=>(eY x12.2).bind fun x14=>(eY x14.2).bind fun x16=>(eY x16.2).bind fun x18=>(eY x18.2).bind fun x20=>(eY x20.2).bind fun x22=>(((eO x22.2).bind fun x27=>(gd ((decide (x27=(0:Int)))==true) (hY x22.1 (0:Int) (64:Int))).bind fun x29=>cond (cond (decide (x27=(0:Int))) (!x29) false) ((iJ (3:Int) x22.2).bind fun x32=>some x32) (some x22.2)):Option aQ).bind fun x24=>(((eQ (kE x22) (((0:Int),x24,([]:(List (List UInt8)))))):Option (aQ × (List (List UInt8)))).bind fun x35=>((((eO x35.1).bind fun x59=>(gd ((decide (x59=(0:Int)))==true) (iV (cE.mk x1.1 x6.1 x8.1 x10.1 x12.1 x14.1 x16.1 x18.1 x20.1 x35.2))).bind fun x61=>cond (cond (decide (x59=(0:Int))) (!x61) false) ((iJ (3:Int) x35.1).bind fun x64=>some x64) (some x35.1)):Option aQ).bind fun x56=>((eO x56).bind fun x67=>cond (!decide (x67=(0:Int))) (some ((cE.mk ([]:List UInt8) (0:Int) (0:Int) (0:Int) (0:Int) (0:Int) (0:Int) (0:Int) (0:Int) ([]:(List (List UInt8)))),x56)) (some ((cE.mk x1.1 x6.1 x8.1 x10.1 x12.1 x14.1 x16.1 x18.1 x20.1 x35.2),x56)))))
theorem zX {cQ:aQ}{res:(cE × aQ)} (h:jR cQ=some res):bT Tryz.prog 73 [.box 0 0] [AV.cs (cW cQ)] (.agg (AV.cs (iG res.1))) [AV.cs (cW res.2)]:=by
 unfold jR at h
 refine cJ (fn:=Tryz.f73) [0,2,3,5,6,7,11,12,13,14,31,41,58,63] (by kernel_rfl) Tryz.func73 r (by kernel_rfl) (by kernel_rfl)<|aH<|hS (n:=1) (cs:=bN) (σ':=[cH,bN]) aPs r r r<|aF (fr':=[(0,.box 0 0),(2,.box 1 0)]) r r<|aH<|hS (n:=2) (cs:=bN) (σ':=[cH,bN,bN]) aPs r r r<|aF (fr':=[(0,.box 0 0),(2,.box 1 0),(3,.box 2 0)]) r r<|aH<|mV (v:=.box 0 0) r ?_
 obtain ⟨x1,hx1,h2⟩:=aE h
 refine dK (v:=aS) (σ':=[cH,bN,bN]) [0] r (iI hx1) r r ⟨lr,lr,trivial⟩ (fJ ⟨r,r,r,r,trivial⟩ aC) r r r<|aK r (aZ wZ r)<|bV (v:=aS) (us:=[aS]) (cs:=bN) (σ':=[cH,bN,bN]) r iE r r r r r r r r<|aF (fr':=[(0,.box 0 0),(2,.box 1 0),(3,.box 2 0)]) r r<|aR<|aR<|aT ?_
 obtain ⟨x3,hx3,h4⟩:=aE h2
 refine xN (v:=.ptrs [(2,1),(2,2),(2,3),(2,4),(2,5),(2,6),(2,7),(2,8)]) (σ':=[cH,bN,bN]) 11 [2] [] r (aAY hx3) r r r ⟨lr,trivial⟩ (vK ⟨lr,lr,lr,lr,lr,lr,lr,lr,lr,lr,trivial⟩ aC) r r r<|aK r (aJ7 aPq r)<|mI r<|aF (fr':=[(0,.box 0 0),(2,.box 1 0),(3,.box 2 0),(11,.ptrs [(2,1),(2,2),(2,3),(2,4),(2,5),(2,6),(2,7),(2,8)]),(12,aI),(13,aI)]) r r<|bL<|aNu 64<|tY<|aH<|aK r (vH (eA r r) (show _=.bool true from r))<|aF (fr':=[(0,.box 0 0),(2,.box 1 0),(3,.box 2 0),(11,.ptrs [(2,1),(2,2),(2,3),(2,4),(2,5),(2,6),(2,7),(2,8)]),(12,aI),(13,aI),(14,aB)]) r r<|aR<|gZ r ?_
 refine aW<|bZ<|aR<|bL<|aH<|aK r (lD (p:=(2,1)) qN r r r)<|aK r (gI rC r)<|sV (v:=.box 2 1) r<|aF (fr':=[(0,.box 0 0),(2,.box 1 0),(3,.box 2 0),(5,.box 2 1),(11,.ptrs [(2,1),(2,2),(2,3),(2,4),(2,5),(2,6),(2,7),(2,8)]),(12,aI),(13,aI)]) r r<|aT<|mV (v:=.box 2 1) r<|mV (v:=.box 0 0) r ?_
 obtain ⟨x6,hx6,h7⟩:=aE h4
 refine dK (v:=aI) (σ':=[cH,bN,bN]) [0] r (fO hx6) r r ⟨lr,trivial⟩ (fJ ⟨r,r,r,r,trivial⟩ aC) r r r<|aK r (gE r)<|bV (v:=aI) (us:=[aI]) (cs:=bN) (σ':=[cH,bN,bN]) r eB r r r r r r r r<|cD (fr':=[(0,.box 0 0),(2,.box 1 0),(3,.box 2 0),(5,.box 2 1),(11,.ptrs [(2,1),(2,2),(2,3),(2,4),(2,5),(2,6),(2,7),(2,8)]),(12,aI),(13,aI)]) r<|bW<|bZ<|aT<|aK r (vH (dZ r r) (show _=.int .i64 (1:Int) from r))<|mI r<|cD (fr':=[(0,.box 0 0),(2,.box 1 0),(3,.box 2 0),(5,.box 2 1),(11,.ptrs [(2,1),(2,2),(2,3),(2,4),(2,5),(2,6),(2,7),(2,8)]),(12,aI),(13,aI)]) r<|iK<|tY<|aR ?_
 refine aT<|aK r (vH (eA r r) (show _=.bool true from r))<|aF (fr':=[(0,.box 0 0),(2,.box 1 0),(3,.box 2 0),(11,.ptrs [(2,1),(2,2),(2,3),(2,4),(2,5),(2,6),(2,7),(2,8)]),(12,aI),(13,aI),(14,aB)]) r r<|aR<|gZ r<|aW<|bZ<|aR<|bL<|aH<|aK r (lD (p:=(2,2)) qN r r r)<|aK r (gI rC r) ?_
 refine sV (v:=.box 2 2) r<|aF (fr':=[(0,.box 0 0),(2,.box 1 0),(3,.box 2 0),(5,.box 2 2),(11,.ptrs [(2,1),(2,2),(2,3),(2,4),(2,5),(2,6),(2,7),(2,8)]),(12,aI),(13,aI)]) r r<|aT<|mV (v:=.box 2 2) r<|mV (v:=.box 0 0) r ?_
 obtain ⟨x8,hx8,h9⟩:=aE h7
 refine dK (v:=aI) (σ':=[cH,bN,bN]) [0] r (fO hx8) r r ⟨lr,trivial⟩ (fJ ⟨r,r,r,r,trivial⟩ aC) r r r<|aK r (gE r)<|bV (v:=aI) (us:=[aI]) (cs:=bN) (σ':=[cH,bN,bN]) r eB r r r r r r r r<|cD (fr':=[(0,.box 0 0),(2,.box 1 0),(3,.box 2 0),(5,.box 2 2),(11,.ptrs [(2,1),(2,2),(2,3),(2,4),(2,5),(2,6),(2,7),(2,8)]),(12,aI),(13,aI)]) r<|bW<|bZ<|aT<|aK r (vH (dZ r r) (show _=.int .i64 (2:Int) from r))<|mI r<|cD (fr':=[(0,.box 0 0),(2,.box 1 0),(3,.box 2 0),(5,.box 2 2),(11,.ptrs [(2,1),(2,2),(2,3),(2,4),(2,5),(2,6),(2,7),(2,8)]),(12,aI),(13,aI)]) r<|iK<|tY<|aR ?_
 refine aT<|aK r (vH (eA r r) (show _=.bool true from r))<|aF (fr':=[(0,.box 0 0),(2,.box 1 0),(3,.box 2 0),(11,.ptrs [(2,1),(2,2),(2,3),(2,4),(2,5),(2,6),(2,7),(2,8)]),(12,aI),(13,aI),(14,aB)]) r r<|aR<|gZ r<|aW<|bZ<|aR<|bL<|aH<|aK r (lD (p:=(2,3)) qN r r r)<|aK r (gI rC r) ?_
 refine sV (v:=.box 2 3) r<|aF (fr':=[(0,.box 0 0),(2,.box 1 0),(3,.box 2 0),(5,.box 2 3),(11,.ptrs [(2,1),(2,2),(2,3),(2,4),(2,5),(2,6),(2,7),(2,8)]),(12,aI),(13,aI)]) r r<|aT<|mV (v:=.box 2 3) r<|mV (v:=.box 0 0) r ?_
 obtain ⟨x10,hx10,h11⟩:=aE h9
 refine dK (v:=aI) (σ':=[cH,bN,bN]) [0] r (fO hx10) r r ⟨lr,trivial⟩ (fJ ⟨r,r,r,r,trivial⟩ aC) r r r<|aK r (gE r)<|bV (v:=aI) (us:=[aI]) (cs:=bN) (σ':=[cH,bN,bN]) r eB r r r r r r r r<|cD (fr':=[(0,.box 0 0),(2,.box 1 0),(3,.box 2 0),(5,.box 2 3),(11,.ptrs [(2,1),(2,2),(2,3),(2,4),(2,5),(2,6),(2,7),(2,8)]),(12,aI),(13,aI)]) r<|bW<|bZ<|aT<|aK r (vH (dZ r r) (show _=.int .i64 (3:Int) from r))<|mI r<|cD (fr':=[(0,.box 0 0),(2,.box 1 0),(3,.box 2 0),(5,.box 2 3),(11,.ptrs [(2,1),(2,2),(2,3),(2,4),(2,5),(2,6),(2,7),(2,8)]),(12,aI),(13,aI)]) r<|iK<|tY<|aR ?_
 refine aT<|aK r (vH (eA r r) (show _=.bool true from r))<|aF (fr':=[(0,.box 0 0),(2,.box 1 0),(3,.box 2 0),(11,.ptrs [(2,1),(2,2),(2,3),(2,4),(2,5),(2,6),(2,7),(2,8)]),(12,aI),(13,aI),(14,aB)]) r r<|aR<|gZ r<|aW<|bZ<|aR<|bL<|aH<|aK r (lD (p:=(2,4)) qN r r r)<|aK r (gI rC r) ?_
 refine sV (v:=.box 2 4) r<|aF (fr':=[(0,.box 0 0),(2,.box 1 0),(3,.box 2 0),(5,.box 2 4),(11,.ptrs [(2,1),(2,2),(2,3),(2,4),(2,5),(2,6),(2,7),(2,8)]),(12,aI),(13,aI)]) r r<|aT<|mV (v:=.box 2 4) r<|mV (v:=.box 0 0) r ?_
 obtain ⟨x12,hx12,h13⟩:=aE h11
 refine dK (v:=aI) (σ':=[cH,bN,bN]) [0] r (fO hx12) r r ⟨lr,trivial⟩ (fJ ⟨r,r,r,r,trivial⟩ aC) r r r<|aK r (gE r)<|bV (v:=aI) (us:=[aI]) (cs:=bN) (σ':=[cH,bN,bN]) r eB r r r r r r r r<|cD (fr':=[(0,.box 0 0),(2,.box 1 0),(3,.box 2 0),(5,.box 2 4),(11,.ptrs [(2,1),(2,2),(2,3),(2,4),(2,5),(2,6),(2,7),(2,8)]),(12,aI),(13,aI)]) r<|bW<|bZ<|aT<|aK r (vH (dZ r r) (show _=.int .i64 (4:Int) from r))<|mI r<|cD (fr':=[(0,.box 0 0),(2,.box 1 0),(3,.box 2 0),(5,.box 2 4),(11,.ptrs [(2,1),(2,2),(2,3),(2,4),(2,5),(2,6),(2,7),(2,8)]),(12,aI),(13,aI)]) r<|iK<|tY<|aR ?_
 refine aT<|aK r (vH (eA r r) (show _=.bool true from r))<|aF (fr':=[(0,.box 0 0),(2,.box 1 0),(3,.box 2 0),(11,.ptrs [(2,1),(2,2),(2,3),(2,4),(2,5),(2,6),(2,7),(2,8)]),(12,aI),(13,aI),(14,aB)]) r r<|aR<|gZ r<|aW<|bZ<|aR<|bL<|aH<|aK r (lD (p:=(2,5)) qN r r r)<|aK r (gI rC r) ?_
 refine sV (v:=.box 2 5) r<|aF (fr':=[(0,.box 0 0),(2,.box 1 0),(3,.box 2 0),(5,.box 2 5),(11,.ptrs [(2,1),(2,2),(2,3),(2,4),(2,5),(2,6),(2,7),(2,8)]),(12,aI),(13,aI)]) r r<|aT<|mV (v:=.box 2 5) r<|mV (v:=.box 0 0) r ?_
 obtain ⟨x14,hx14,h15⟩:=aE h13
 refine dK (v:=aI) (σ':=[cH,bN,bN]) [0] r (fO hx14) r r ⟨lr,trivial⟩ (fJ ⟨r,r,r,r,trivial⟩ aC) r r r<|aK r (gE r)<|bV (v:=aI) (us:=[aI]) (cs:=bN) (σ':=[cH,bN,bN]) r eB r r r r r r r r<|cD (fr':=[(0,.box 0 0),(2,.box 1 0),(3,.box 2 0),(5,.box 2 5),(11,.ptrs [(2,1),(2,2),(2,3),(2,4),(2,5),(2,6),(2,7),(2,8)]),(12,aI),(13,aI)]) r<|bW<|bZ<|aT<|aK r (vH (dZ r r) (show _=.int .i64 (5:Int) from r))<|mI r<|cD (fr':=[(0,.box 0 0),(2,.box 1 0),(3,.box 2 0),(5,.box 2 5),(11,.ptrs [(2,1),(2,2),(2,3),(2,4),(2,5),(2,6),(2,7),(2,8)]),(12,aI),(13,aI)]) r<|iK<|tY<|aR ?_
 refine aT<|aK r (vH (eA r r) (show _=.bool true from r))<|aF (fr':=[(0,.box 0 0),(2,.box 1 0),(3,.box 2 0),(11,.ptrs [(2,1),(2,2),(2,3),(2,4),(2,5),(2,6),(2,7),(2,8)]),(12,aI),(13,aI),(14,aB)]) r r<|aR<|gZ r<|aW<|bZ<|aR<|bL<|aH<|aK r (lD (p:=(2,6)) qN r r r)<|aK r (gI rC r) ?_
 refine sV (v:=.box 2 6) r<|aF (fr':=[(0,.box 0 0),(2,.box 1 0),(3,.box 2 0),(5,.box 2 6),(11,.ptrs [(2,1),(2,2),(2,3),(2,4),(2,5),(2,6),(2,7),(2,8)]),(12,aI),(13,aI)]) r r<|aT<|mV (v:=.box 2 6) r<|mV (v:=.box 0 0) r ?_
 obtain ⟨x16,hx16,h17⟩:=aE h15
 refine dK (v:=aI) (σ':=[cH,bN,bN]) [0] r (fO hx16) r r ⟨lr,trivial⟩ (fJ ⟨r,r,r,r,trivial⟩ aC) r r r<|aK r (gE r)<|bV (v:=aI) (us:=[aI]) (cs:=bN) (σ':=[cH,bN,bN]) r eB r r r r r r r r<|cD (fr':=[(0,.box 0 0),(2,.box 1 0),(3,.box 2 0),(5,.box 2 6),(11,.ptrs [(2,1),(2,2),(2,3),(2,4),(2,5),(2,6),(2,7),(2,8)]),(12,aI),(13,aI)]) r<|bW<|bZ<|aT<|aK r (vH (dZ r r) (show _=.int .i64 (6:Int) from r))<|mI r<|cD (fr':=[(0,.box 0 0),(2,.box 1 0),(3,.box 2 0),(5,.box 2 6),(11,.ptrs [(2,1),(2,2),(2,3),(2,4),(2,5),(2,6),(2,7),(2,8)]),(12,aI),(13,aI)]) r<|iK<|tY<|aR ?_
 refine aT<|aK r (vH (eA r r) (show _=.bool true from r))<|aF (fr':=[(0,.box 0 0),(2,.box 1 0),(3,.box 2 0),(11,.ptrs [(2,1),(2,2),(2,3),(2,4),(2,5),(2,6),(2,7),(2,8)]),(12,aI),(13,aI),(14,aB)]) r r<|aR<|gZ r<|aW<|bZ<|aR<|bL<|aH<|aK r (lD (p:=(2,7)) qN r r r)<|aK r (gI rC r) ?_
 refine sV (v:=.box 2 7) r<|aF (fr':=[(0,.box 0 0),(2,.box 1 0),(3,.box 2 0),(5,.box 2 7),(11,.ptrs [(2,1),(2,2),(2,3),(2,4),(2,5),(2,6),(2,7),(2,8)]),(12,aI),(13,aI)]) r r<|aT<|mV (v:=.box 2 7) r<|mV (v:=.box 0 0) r ?_
 obtain ⟨x18,hx18,h19⟩:=aE h17
 refine dK (v:=aI) (σ':=[cH,bN,bN]) [0] r (fO hx18) r r ⟨lr,trivial⟩ (fJ ⟨r,r,r,r,trivial⟩ aC) r r r<|aK r (gE r)<|bV (v:=aI) (us:=[aI]) (cs:=bN) (σ':=[cH,bN,bN]) r eB r r r r r r r r<|cD (fr':=[(0,.box 0 0),(2,.box 1 0),(3,.box 2 0),(5,.box 2 7),(11,.ptrs [(2,1),(2,2),(2,3),(2,4),(2,5),(2,6),(2,7),(2,8)]),(12,aI),(13,aI)]) r<|bW<|bZ<|aT<|aK r (vH (dZ r r) (show _=.int .i64 (7:Int) from r))<|mI r<|cD (fr':=[(0,.box 0 0),(2,.box 1 0),(3,.box 2 0),(5,.box 2 7),(11,.ptrs [(2,1),(2,2),(2,3),(2,4),(2,5),(2,6),(2,7),(2,8)]),(12,aI),(13,aI)]) r<|iK<|tY<|aR ?_
 refine aT<|aK r (vH (eA r r) (show _=.bool true from r))<|aF (fr':=[(0,.box 0 0),(2,.box 1 0),(3,.box 2 0),(11,.ptrs [(2,1),(2,2),(2,3),(2,4),(2,5),(2,6),(2,7),(2,8)]),(12,aI),(13,aI),(14,aB)]) r r<|aR<|gZ r<|aW<|bZ<|aR<|bL<|aH<|aK r (lD (p:=(2,8)) qN r r r)<|aK r (gI rC r) ?_
 refine sV (v:=.box 2 8) r<|aF (fr':=[(0,.box 0 0),(2,.box 1 0),(3,.box 2 0),(5,.box 2 8),(11,.ptrs [(2,1),(2,2),(2,3),(2,4),(2,5),(2,6),(2,7),(2,8)]),(12,aI),(13,aI)]) r r<|aT<|mV (v:=.box 2 8) r<|mV (v:=.box 0 0) r ?_
 obtain ⟨x20,hx20,h21⟩:=aE h19
 refine dK (v:=aI) (σ':=[cH,bN,bN]) [0] r (fO hx20) r r ⟨lr,trivial⟩ (fJ ⟨r,r,r,r,trivial⟩ aC) r r r<|aK r (gE r)<|bV (v:=aI) (us:=[aI]) (cs:=bN) (σ':=[cH,bN,bN]) r eB r r r r r r r r<|cD (fr':=[(0,.box 0 0),(2,.box 1 0),(3,.box 2 0),(5,.box 2 8),(11,.ptrs [(2,1),(2,2),(2,3),(2,4),(2,5),(2,6),(2,7),(2,8)]),(12,aI),(13,aI)]) r<|bW<|bZ<|aT<|aK r (vH (dZ r r) (show _=.int .i64 (8:Int) from r))<|mI r<|cD (fr':=[(0,.box 0 0),(2,.box 1 0),(3,.box 2 0),(5,.box 2 8),(11,.ptrs [(2,1),(2,2),(2,3),(2,4),(2,5),(2,6),(2,7),(2,8)]),(12,aI),(13,aI)]) r<|iK<|tY<|aR ?_
 refine aT<|aK r (vH (eA r r) (show _=.bool false from r))<|aF (fr':=[(0,.box 0 0),(2,.box 1 0),(3,.box 2 0),(11,.ptrs [(2,1),(2,2),(2,3),(2,4),(2,5),(2,6),(2,7),(2,8)]),(12,aI),(13,aI),(14,aB)]) r r<|aR<|aAZ r<|eZ<|bY<|bY<|dX<|bZ<|aH<|mV (v:=.box 0 0) r ?_
 obtain ⟨x22,hx22,h23⟩:=aE h21
 refine dK (v:=aI) (σ':=[cH,bN,bN]) [0] r (fO hx22) r r ⟨lr,trivial⟩ (fJ ⟨r,r,r,r,trivial⟩ aC) r r r<|sI r<|aF (fr':=[(0,.box 0 0),(2,.box 1 0),(3,.box 2 0),(6,aI)]) r r ?_
 obtain ⟨x24,hx24,h25⟩:=aE h23
 refine fP (fun j26=>x24=j26) (fun (j26:aQ)=>([(0,.box 0 0),(2,.box 1 0),(3,.box 2 0),(6,ci x22.1)]:Fr)) (fun (j26:aQ)=>([[.c (PV.ls 1 eL j26.b_),ci j26.at_,ci j26.err_,.c (.bool j26.made_)],[.c (.str ([]:List UInt8)),ci 0,ci 0,ci 0,ci 0,ci 0,ci 0,ci 0,ci 0,AV.nil],[.c (.str x1.1),ci x6.1,ci x8.1,ci x10.1,ci x12.1,ci x14.1,ci x16.1,ci x18.1,ci x20.1,AV.nil]]:St)) ?_ ?_
 ·
  refine aH<|mV (v:=.box 0 0) r ?_
  obtain ⟨x27,hx27,h28⟩:=aE hx24
  refine dK (v:=aI) (σ':=[cH,bN,bN]) [0] r (fI hx27) r r ⟨lr,trivial⟩ (fJ ⟨r,r,r,r,trivial⟩ aC) r r r<|aK r (bO r r)<|mB r<|og r r r (fun hc=>(bC (v:=aI) r)) ?_
  obtain ⟨x29,hx29,h30⟩:=aE h28
  refine rZ r r (fun hc=>aY (v:=aB) r (iT (cG hx29 hc)) ⟨(dW (gx r hc) lr),lr,lr,trivial⟩ (fC (by repeat (first | exact dT | refine aX r ?_ | refine aX (oQ r) ?_ | refine aX oP ?_))) r r) ?_
  refine og r r r (fun hc=>(eD (gx r hc)))<|aK r (bM r r r (fun e=>eI e))<|aF (fr':=[(0,.box 0 0),(2,.box 1 0),(3,.box 2 0),(6,aI),(31,aB)]) r r<|bS h30 r (fun hb31 h31=>?_) (fun hb31 h31=>?_)
  ·
   refine aT<|mV (v:=.box 0 0) r ?_
   obtain ⟨x32,hx32,h33⟩:=aE h31
   exact dK (v:=_) (σ':=[cH,bN,bN]) [0] r (lP hx32) r r ⟨lr,lr,trivial⟩ (fJ ⟨r,r,r,r,trivial⟩ aC) r r r<|cD (fr':=[(0,.box 0 0),(2,.box 1 0),(3,.box 2 0),(6,aI),(31,aB)]) r<|fS _ (sy h33) (aU [] 3 r r r r ⟨lr,lr,lr,lr,trivial⟩ (bJ r (bJ r (bJ r aC))))
  ·
   exact aW<|fS _ (sy h31) (aU [] 3 r r r r ⟨lr,lr,lr,lr,trivial⟩ (bJ r (bJ r (bJ r aC))))
 ·
  intro j26 hj34
  subst hj34
  refine aR<|aH<|sI r<|aF (fr':=[(0,.box 0 0),(2,.box 1 0),(3,.box 2 0),(6,aI),(7,aI)]) r r ?_
  obtain ⟨x35,hx35,h36⟩:=aE h25
  refine eR gX (fun j37=>x35=j37) (fun (j37:(aQ × (List (List UInt8))))=>([(0,.box 0 0),(2,.box 1 0),(3,.box 2 0)]:Fr)) (fun (j37:(aQ × (List (List UInt8))))=>([[.c (PV.ls 1 eL j37.1.b_),ci j37.1.at_,ci j37.1.err_,.c (.bool j37.1.made_)],[.c (.str ([]:List UInt8)),ci 0,ci 0,ci 0,ci 0,ci 0,ci 0,ci 0,ci 0,AV.nil],[.c (.str x1.1),ci x6.1,ci x8.1,ci x10.1,ci x12.1,ci x14.1,ci x16.1,ci x18.1,ci x20.1,AV.os 0 1 dD j37.2]]:St)) ?_ ?_
  ·
   refine bL<|eK _ (fun (s38:(Int × aQ × (List (List UInt8))))=>([(0,.box 0 0),(2,.box 1 0),(3,.box 2 0),(6,ci x22.1),(7,ci s38.1)]:Fr)) (fun (s38:(Int × aQ × (List (List UInt8))))=>([[.c (PV.ls 1 eL s38.2.1.b_),ci s38.2.1.at_,ci s38.2.1.err_,.c (.bool s38.2.1.made_)],[.c (.str ([]:List UInt8)),ci 0,ci 0,ci 0,ci 0,ci 0,ci 0,ci 0,ci 0,AV.nil],[.c (.str x1.1),ci x6.1,ci x8.1,ci x10.1,ci x12.1,ci x14.1,ci x16.1,ci x18.1,ci x20.1,AV.os 0 1 dD s38.2.2]]:St)) hx35 (aU [1000000] 3 r r r r ⟨lr,lr,lr,lr,lr,trivial⟩ (bJ r (bJ r (vK ⟨lr,lr,lr,lr,lr,lr,lr,lr,lr,(yY r),trivial⟩ aC)))) ?_
   intro s38 st38 hs38 ho38
   unfold kE at hs38
   obtain ⟨x39,hx39,h40⟩:=aE hs38
   refine fP (fun j41=>x39=Fl.go j41) (fun (j41:Unit)=>([(0,.box 0 0),(2,.box 1 0),(3,.box 2 0),(6,ci x22.1),(7,ci s38.1)]:Fr)) (fun (j41:Unit)=>([[.c (PV.ls 1 eL s38.2.1.b_),ci s38.2.1.at_,ci s38.2.1.err_,.c (.bool s38.2.1.made_)],[.c (.str ([]:List UInt8)),ci 0,ci 0,ci 0,ci 0,ci 0,ci 0,ci 0,ci 0,AV.nil],[.c (.str x1.1),ci x6.1,ci x8.1,ci x10.1,ci x12.1,ci x14.1,ci x16.1,ci x18.1,ci x20.1,AV.os 0 1 dD s38.2.2]]:St)) ?_ ?_
   ·
    refine aH<|mI r<|mI r<|aK r (eA r r)<|mB r<|aPT hx39 (fun hb42 h42=>?_) (fun hb42 h42=>?_)
    ·
     refine sM r r hb42<|mV (v:=.box 0 0) r<|sM r r hb42 ?_
     obtain ⟨x43,hx43,h44⟩:=aE h42
     refine dK (v:=aI) (σ':=[cH,bN,[aS,aI,aI,aI,aI,aI,aI,aI,aI,aO]]) [0] r (fI hx43) r r ⟨lr,trivial⟩ (fJ ⟨r,r,r,r,trivial⟩ aC) r r r<|sM r r hb42<|aK r (bO r r)<|aK r (aIQ r hb42 r)<|aF (fr':=[(0,.box 0 0),(2,.box 1 0),(3,.box 2 0),(6,aI),(7,aI),(41,aB)]) r r<|bS h44 r (fun hb45 h45=>?_) (fun hb45 h45=>?_)
     ·
      exact aW<|fS _ (sy h45) (aU [0] 3 r r r r ⟨lr,lr,lr,lr,lr,trivial⟩ (bJ r (bJ r (bJ r aC))))
     ·
      refine eZ<|bY<|bY<|dX ?_
      have h46:=eH h45 h40
      have h47:=dB h46 ho38
      exact fS _ (sy h47) (aU [0] 3 r r r r ⟨lr,lr,lr,trivial⟩ (bJ r (bJ r (bJ r aC))))
    ·
     refine aLJ r r hb42<|aLJ r r hb42<|aLJ r r hb42<|aK r (aAE r hb42 r)<|aF (fr':=[(0,.box 0 0),(2,.box 1 0),(3,.box 2 0),(6,aI),(7,aI),(41,aB)]) r r<|aAZ r<|eZ<|bY<|bY<|dX ?_
     have h48:=eH h42 h40
     have h49:=dB h48 ho38
     exact fS _ (sy h49) (aU [0] 3 r r r r ⟨lr,lr,lr,trivial⟩ (bJ r (bJ r (bJ r aC))))
   ·
    intro j41 hj50
    have h50:=iS hj50 h40
    refine aR<|bL<|hF [.q 0,.q 1,.q 2,.n 3 [0,1],.n 4 [0,1],.n 5 [],.q 6,.n 7 []] [(some 44,[3]),(some 45,[44]),(some 46,[0]),(some 47,[46]),(some 48,[47]),(some 49,[45,48]),(some 50,[3]),(none,[50,49])] [0,1,0,4,12,31,63,127] (by kernel_rfl)<|dq r r (aZ mZ r)<|dq r r (aJ (v:=aO) lN r r r)<|dq r r (bC (v:=.box 0 0) r)<|d_n r ?_ r
    obtain ⟨x51,hx51,h52⟩:=aE h50
    refine dK (v:=aS) (σ':=[cH,bN,[aS,aI,aI,aI,aI,aI,aI,aI,aI,aO]]) [0] r (iI hx51) r r ⟨lr,lr,trivial⟩ (fJ ⟨r,r,r,r,trivial⟩ aC) r r r<|yD<|⟨(aBo (v:=.box 2 9) r r (mJ r (aZ mZ r)) (aBo (v:=aO) r r (mJ r (aJ (v:=aO) lN r r r)) nH)),?_⟩
    refine d_n r ?_ r
    refine mT (row:=dD) (xs:=([x51.1]:List (List UInt8))) (rows:=[[_]]) (σ':=[cH,bN,[aS,aI,aI,aI,aI,aI,aI,aI,aI,aO]]) [0] rV r r r (cB r iC) r r<|yD<|⟨(aBo (v:=.box 2 9) r r (mJ r (aZ mZ r)) (aBo (v:=aO) r r (mJ r (aJ (v:=aO) lN r r r)) nH)),?_⟩
    refine d_n r ?_ r
    obtain ⟨x53,hx53,h54⟩:=aE h52
    refine aAB (row:=dD) rV r pU r (kQ r) (fun _=>r) hx53<|yD<|⟨nH,?_⟩
    refine dq r r (aZ mZ r)<|d_n r ?_ r
    refine bV (v:=aO) (us:=[aO]) (cs:=cI) (σ':=[cH,bN,[aS,aI,aI,aI,aI,aI,aI,aI,aI,aO]]) r lN r r r r r r r r<|yD<|⟨nH,?_⟩
    exact aPD (fr':=[(0,.box 0 0),(2,.box 1 0),(3,.box 2 0),(6,aI),(7,aI)]) r<|bW<|bZ<|aT<|mI r<|aK r (dZ r r)<|sI r<|cD (fr':=[(0,.box 0 0),(2,.box 1 0),(3,.box 2 0),(6,aI),(7,aI)]) r<|tU _ (sy h54) (aU [784] 3 r r r r ⟨lr,lr,lr,lr,lr,trivial⟩ (bJ r (bJ r (bJ r aC))))
  ·
   intro j37 hj55
   subst hj55
   refine bZ ?_
   obtain ⟨x56,hx56,h57⟩:=aE h36
   refine fP (fun j58=>x56=j58) (fun (j58:aQ)=>([(0,.box 0 0),(2,.box 1 0),(3,.box 2 0)]:Fr)) (fun (j58:aQ)=>([[.c (PV.ls 1 eL j58.b_),ci j58.at_,ci j58.err_,.c (.bool j58.made_)],[.c (.str ([]:List UInt8)),ci 0,ci 0,ci 0,ci 0,ci 0,ci 0,ci 0,ci 0,AV.nil],[.c (.str x1.1),ci x6.1,ci x8.1,ci x10.1,ci x12.1,ci x14.1,ci x16.1,ci x18.1,ci x20.1,AV.os 0 1 dD x35.2]]:St)) ?_ ?_
   ·
    refine aH<|mV (v:=.box 0 0) r ?_
    obtain ⟨x59,hx59,h60⟩:=aE hx56
    refine dK (v:=aI) (σ':=[cH,bN,[aS,aI,aI,aI,aI,aI,aI,aI,aI,aO]]) [0] r (fI hx59) r r ⟨lr,trivial⟩ (fJ ⟨r,r,r,r,trivial⟩ aC) r r r<|aK r (bO r r)<|mB r<|og r r r (fun hc=>(cN (us:=[aS,aI,aI,aI,aI,aI,aI,aI,aI,aO]) yM r r r r)) ?_
    obtain ⟨x61,hx61,h62⟩:=aE h60
    refine rZ r r (fun hc=>aY (v:=aB) r (tP (cG hx61 hc)) ⟨(dW (gx r hc) (bP r ⟨r,r,r,r,r,r,r,r,r,r,trivial⟩)),trivial⟩ (fC (by repeat (first | exact dT | refine aX r ?_ | refine aX (oQ r) ?_ | refine aX oP ?_))) r r) ?_
    refine og r r r (fun hc=>(eD (gx r hc)))<|aK r (bM r r r (fun e=>eI e))<|aF (fr':=[(0,.box 0 0),(2,.box 1 0),(3,.box 2 0),(58,aB)]) r r<|bS h62 r (fun hb63 h63=>?_) (fun hb63 h63=>?_)
    ·
     refine aT<|mV (v:=.box 0 0) r ?_
     obtain ⟨x64,hx64,h65⟩:=aE h63
     exact dK (v:=_) (σ':=[cH,bN,[aS,aI,aI,aI,aI,aI,aI,aI,aI,aO]]) [0] r (lP hx64) r r ⟨lr,lr,trivial⟩ (fJ ⟨r,r,r,r,trivial⟩ aC) r r r<|cD (fr':=[(0,.box 0 0),(2,.box 1 0),(3,.box 2 0),(58,aB)]) r<|fS _ (sy h65) (aU [0] 3 r r r r ⟨lr,lr,lr,trivial⟩ (bJ r (bJ r (bJ r aC))))
    ·
     exact aW<|fS _ (sy h63) (aU [0] 3 r r r r ⟨lr,lr,lr,trivial⟩ (bJ r (bJ r (bJ r aC))))
   ·
    intro j58 hj66
    subst hj66
    refine aR<|aH<|mV (v:=.box 0 0) r ?_
    obtain ⟨x67,hx67,h68⟩:=aE h57
    refine dK (v:=aI) (σ':=[cH,bN,[aS,aI,aI,aI,aI,aI,aI,aI,aI,aO]]) [0] r (fI hx67) r r ⟨lr,trivial⟩ (fJ ⟨r,r,r,r,trivial⟩ aC) r r r<|aK r (gM r r)<|aF (fr':=[(2,.box 1 0),(3,.box 2 0),(63,aB)]) r r<|bS h68 r (fun hb69 h69=>?_) (fun hb69 h69=>?_)
    ·
     refine aH<|aK r (gR (c0:=bN) (cs:=bN) aOb r gQ)<|bV (v:=.agg bN) (us:=bN) (cs:=bN) (σ':=[cH,bN,[aS,aI,aI,aI,aI,aI,aI,aI,aI,aO]]) r yM r r r r r r r r<|aF (fr':=[(2,.box 1 0)]) r r<|bF<|aM ?_
     obtain rfl:=sy h69
     exact bE (rs':=[.cell 2 28]) r<|eV (us:=bN) (cs:=bN) yM r r r r<|bD<|aN [] r r r (bP r ⟨r,r,r,r,r,r,r,r,r,⟨_,r⟩,trivial⟩) (fJ ⟨r,r,r,r,trivial⟩ aC)
    ·
     refine aW<|bZ<|aH<|aK r (cN (us:=[aS,aI,aI,aI,aI,aI,aI,aI,aI,aO]) yM r r r r)<|bV (v:=.agg [aS,aI,aI,aI,aI,aI,aI,aI,aI,aO]) (us:=[aS,aI,aI,aI,aI,aI,aI,aI,aI,aO]) (cs:=bN) (σ':=[cH,[aS,aI,aI,aI,aI,aI,aI,aI,aI,aO],[aS,aI,aI,aI,aI,aI,aI,aI,aI,aO]]) r yM r r r r r r r r<|aF (fr':=[(2,.box 1 0)]) r r<|bF ?_
     obtain rfl:=sy h69
     exact bE (rs':=[.cell 2 28]) r<|eV (us:=[aS,aI,aI,aI,aI,aI,aI,aI,aI,aO]) (cs:=[aS,aI,aI,aI,aI,aI,aI,aI,aI,aO]) yM r r r r<|bD<|aN [] r r r (bP r ⟨r,r,r,r,r,r,r,r,r,r,trivial⟩) (fJ ⟨r,r,r,r,trivial⟩ aC)
end Go.Proofs.YtnigjppddilpcaaGreatDoor
