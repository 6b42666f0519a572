import Derived.Test.YtnigjppddilpcaaGreatDoorGETy
import Derived.Test.YtnigjppddilpcaaGreatDoorGEF0
import Derived.Test.YtnigjppddilpcaaGreatDoorGEF1
import Derived.Test.YtnigjppddilpcaaGreatDoorGEF4
namespace Go.Proofs.YtnigjppddilpcaaGreatDoor
open Go Abs
set_option maxRecDepth 100000
set_option linter.unusedVariables false
set_option linter.unusedSimpArgs false
noncomputable def eX (kH:Int→Int→aT→Option (aC × Int × aT)) (x1:(Int × aT)) (wZ:Int) (qM:Int) (s10:(Int × Int × aT × (List aC) × (List (List UInt8)))):Option (cI (Int × Int × aT × (List aC) × (List (List UInt8))) (Fl (aC × Int × aT) (Int × aT × (List aC) × (List (List UInt8))))) :=
 cond (decide (s10.1<x1.1)) (((cond (decide (wZ=(5:Int))) ((gI (9223372036854775807:Int) s10.2.2.1).bind fun x16=>(gd (((decide (((x16.1).length:Int)≤(4096:Int)))==true)&&((decide (s10.1=(0:Int)))==false)) (hG s10.2.2.2.2 (IntKind.wrap .i64 (s10.1 - (1:Int))))).bind fun x18=>(gX (cond (decide (((x16.1).length:Int)≤(4096:Int))) (cond (decide (s10.1=(0:Int))) true (!(Op.bytesLess x16.1 x18||decide (x16.1=x18)))) false) s10.2.1 x16.2).bind fun x20=>cond (!x20.1) (some (Fl.done (cI.out (Fl.done ((aC.mk (0:Int) (0:Int) ([]:List UInt8) ([]:(List aC)) ([]:(List (List UInt8)))),s10.2.1,x20.2))))) ((app 16 s10.2.2.2.2 ([x16.1]:List (List UInt8))).bind fun x27=>some (Fl.go (x20.2,x27)))) (some (Fl.go (s10.2.2.1,s10.2.2.2.2)))):Option (Fl (cI (Int × Int × aT × (List aC) × (List (List UInt8))) (Fl (aC × Int × aT) (Int × aT × (List aC) × (List (List UInt8))))) (aT × (List (List UInt8))))).bind fun x12=>Fl.next x12 (fun j14=>((kH (IntKind.wrap .i64 (qM+(1:Int))) s10.2.1 j14.1).bind fun x30=>(eV x30.2.2).bind fun x32=>cond (!decide (x32=(0:Int))) (some (cI.out (Fl.done ((aC.mk (0:Int) (0:Int) ([]:List UInt8) ([]:(List aC)) ([]:(List (List UInt8)))),x30.2.1,x30.2.2)))) ((app 80 s10.2.2.2.1 ([x30.1]:List aC)).bind fun x38=>some (cI.next ((IntKind.wrap .i64 (s10.1+(1:Int))),x30.2.1,x30.2.2,x38,j14.2)))))) (some (cI.out (Fl.go (s10.2.1,s10.2.2.1,s10.2.2.2.1,s10.2.2.2.2))))
mutual
noncomputable def fP:Nat→Int→Int→(List UInt8)→Int→Int→aT→Option (aC × Int × aT)
 | 0,_,_,_,_,_,_=>none
 | n+1,wZ,aCJ,aCK,qM,fB,lZ =>
  (eQ (-9223372036854775808:Int) (9223372036854775807:Int) lZ).bind fun x1=>(gX (cond (decide ((0:Int)≤x1.1)) (decide (x1.1≤(1000:Int))) false) fB x1.2).bind fun x3=>cond (!x3.1) (some ((aC.mk (0:Int) (0:Int) ([]:List UInt8) ([]:(List aC)) ([]:(List (List UInt8)))),fB,x3.2)) (((dR (eX (dU n) x1 wZ qM) (((0:Int),fB,x3.2,([]:(List aC)),([]:(List (List UInt8)))))):Option (Fl (aC × Int × aT) (Int × aT × (List aC) × (List (List UInt8))))).bind fun x7=>Fl.next x7 (fun j9=>(some ((aC.mk wZ aCJ aCK j9.2.2.1 j9.2.2.2),j9.1,j9.2.1))))
noncomputable def dU:Nat→Int→Int→aT→Option (aC × Int × aT)
 | 0,_,_,_=>none
 | n+1,mA,fB,lZ =>
  (gX (cond (decide (fB<(1000:Int))) (decide (mA≤(16:Int))) false) fB lZ).bind fun x1=>cond (!x1.1) (some ((aC.mk (0:Int) (0:Int) ([]:List UInt8) ([]:(List aC)) ([]:(List (List UInt8)))),fB,x1.2)) ((eQ (-9223372036854775808:Int) (9223372036854775807:Int) x1.2).bind fun x5=>(gX (cond (decide ((0:Int)≤x5.1)) (decide (x5.1≤(5:Int))) false) (IntKind.wrap .i64 (fB+(1:Int))) x5.2).bind fun x7=>cond (!x7.1) (some ((aC.mk (0:Int) (0:Int) ([]:List UInt8) ([]:(List aC)) ([]:(List (List UInt8)))),(IntKind.wrap .i64 (fB+(1:Int))),x7.2)) (((cond (decide (x5.1=(1:Int))) ((eQ (-9223372036854775808:Int) (9223372036854775807:Int) x7.2).bind fun x15=>(gX (cond (decide (x15.1=(0:Int))) true (decide (x15.1=(1:Int)))) (IntKind.wrap .i64 (fB+(1:Int))) x15.2).bind fun x17=>some (Fl.go (x17.2,x15.1,([]:List UInt8)))) (cond (decide (x5.1=(2:Int))) ((eQ (-9223372036854775808:Int) (9223372036854775807:Int) x7.2).bind fun x20=>some (Fl.go (x20.2,x20.1,([]:List UInt8)))) (cond (decide (x5.1=(3:Int))) ((gI (9223372036854775807:Int) x7.2).bind fun x23=>(gX (decide (((x23.1).length:Int)≤(4096:Int))) (IntKind.wrap .i64 (fB+(1:Int))) x23.2).bind fun x25=>some (Fl.go (x25.2,(0:Int),x23.1))) (((cond (decide (x5.1=(4:Int))) (some (decide (x5.1=(4:Int)))) (some (decide (x5.1=(5:Int))))):Option Bool).bind fun x27=>(cond x27 (((fP n) x5.1 (0:Int) ([]:List UInt8) mA (IntKind.wrap .i64 (fB+(1:Int))) x7.2).bind fun x33=>some (Fl.done (x33.1,x33.2.1,x33.2.2))) (some (Fl.go (x7.2,(0:Int),([]:List UInt8))))))))):Option (Fl (aC × Int × aT) (aT × Int × (List UInt8)))).bind fun x11=>Fl.next x11 (fun j13=>(some ((aC.mk x5.1 j13.2.1 j13.2.2 ([]:(List aC)) ([]:(List (List UInt8)))),(IntKind.wrap .i64 (fB+(1:Int))),j13.1)))))
end
theorem aAa:∀ n:Nat,(∀ {wZ:Int}{aCJ:Int}{aCK:(List UInt8)}{qM:Int}{fB:Int}{lZ:aT}{res:(aC × Int × aT)},fP n wZ aCJ aCK qM fB lZ=some res→bS Tryz.prog 184 [.box 0 0,.agg [ci wZ,ci aCJ,.c (.str aCK),AV.nil,AV.nil],ci qM] [[.box 1 0,ci fB],AV.cs (cY lZ)] (.agg (AV.cs (cQ res.1))) [[.box 1 0,ci res.2.1],AV.cs (cY res.2.2)])∧(∀ {mA:Int}{fB:Int}{lZ:aT}{res:(aC × Int × aT)},dU n mA fB lZ=some res→bS Tryz.prog 145 [.box 0 0,ci mA] [[.box 1 0,ci fB],AV.cs (cY lZ)] (.agg (AV.cs (cQ res.1))) [[.box 1 0,ci res.2.1],AV.cs (cY res.2.2)]):=by
 intro n
 induction n with
 | zero=>exact ⟨fun {wZ aCJ aCK qM fB lZ res} h=>absurd h (by simp [fP]),fun {mA fB lZ res} h=>absurd h (by simp [dU])⟩
 | succ n ih =>
  obtain ⟨ih_value_decoder_items,ih_value_decoder_value⟩:=ih
  refine ⟨?_,?_⟩
  ·
   intro wZ aCJ aCK qM fB lZ res h
   rw [fP] at h
   refine cJ (fn:=Tryz.f184) [0,1,2,4,6,7,8,9,10,24,28,33,58,75] (by kernel_rfl) Tryz.func184 r (by kernel_rfl) (by kernel_rfl)<|aH<|fS (v:=.agg bT) (n:=2) (cs:=bT) (σ':=[[.box 1 0,aI],cP,bT]) r r r r r<|gC (n:=3) (cs:=bT) (σ':=[[.box 1 0,aI],cP,bT,bT]) aCi r r r<|aF (fr':=[(0,.box 0 0),(2,aI),(4,.box 2 0),(6,.box 3 0)]) r r<|aH<|mV (v:=.box 0 0) r<|aM r (fX r)<|aM r (bD uX r)<|aM r (aK (v:=.box 1 0) aGx r r r) ?_
   obtain ⟨x1,hx1,h2⟩:=aE h
   refine eD (v:=aI) (σ':=[[.box 1 0,aI],cP,bT,bT]) [1] r (fD hx1) r r ⟨lr,lr,lr,trivial⟩ (fO ⟨r,r,r,r,trivial⟩ aA) r r r<|sI r<|aF (fr':=[(0,.box 0 0),(2,aI),(4,.box 2 0),(6,.box 3 0),(7,aI)]) r r<|aP<|aH<|mV (v:=.box 0 0) r<|mI r<|aM r (nM r r)<|mB r<|og r r r (fun hc=>(bE (v:=aI) r))<|og r r r (fun hc=>(nD (gx r hc) r))<|aM r (bO r r r (fun e=>eO e)) ?_
   obtain ⟨x3,hx3,h4⟩:=aE h2
   refine eD (v:=aB) (σ':=[[.box 1 0,aI],cP,bT,bT]) [0,1] r (jM hx3) r r ⟨lr,lr,trivial⟩ (wG ⟨lr,lr,trivial⟩ (fO ⟨r,r,r,r,trivial⟩ aA)) (fA (by repeat (first | exact dX | refine aY r ?_ | refine aY (oS r) ?_ | refine aY oR ?_))) r r ?_
   refine aM r (eI r)<|aF (fr':=[(0,.box 0 0),(2,aI),(4,.box 2 0),(6,.box 3 0),(7,aI),(24,aB)]) r r<|bP h4 r (fun hb5 h5=>?_) (fun hb5 h5=>?_)
   ·
    refine aH<|aM r (dK (cs:=bT) aFP r)<|bU (v:=.agg bT) (us:=bT) (cs:=bT) (σ':=[[.box 1 0,aI],cP,bT,bT]) r fM r r r r r r r r<|aF (fr':=[(6,.box 3 0)]) r r<|bC<|aJ ?_
    obtain rfl:=sy h5
    exact bB (rs':=[.cell 6 26]) r<|cZ (us:=bT) (cs:=bT) fM r r r r<|aZ<|aN [] r r r (bK r ⟨r,r,r,⟨_,r⟩,⟨_,r⟩,trivial⟩) (wG ⟨lr,lr,trivial⟩ (fO ⟨r,r,r,r,trivial⟩ aA))
   ·
    refine aW<|bV<|aP<|aH<|sI r<|aF (fr':=[(0,.box 0 0),(2,aI),(4,.box 2 0),(6,.box 3 0),(7,aI),(8,aI)]) r r ?_
    obtain ⟨x7,hx7,h8⟩:=aE h5
    refine eB gF (fun j9=>x7=Fl.go j9) (fun (j9:(Int × aT × (List aC) × (List (List UInt8))))=>([(4,.box 2 0),(6,.box 3 0)]:Fr)) (fun (j9:(Int × aT × (List aC) × (List (List UInt8))))=>([[.box 1 0,ci j9.1],[.c (PV.ls 1 dF j9.2.1.b_),ci j9.2.1.at_,ci j9.2.1.err_,.c (.bool j9.2.1.made_)],[ci wZ,ci aCJ,.c (.str aCK),AV.os 0 5 bF j9.2.2.1,AV.os 1 1 eA j9.2.2.2],[ci 0,ci 0,.c (.str ([]:List UInt8)),AV.nil,AV.nil]]:St)) ?_ ?_
    ·
     refine bJ<|dV _ (fun (s10:(Int × Int × aT × (List aC) × (List (List UInt8))))=>([(0,.box 0 0),(2,ci qM),(4,.box 2 0),(6,.box 3 0),(7,ci x1.1),(8,ci s10.1)]:Fr)) (fun (s10:(Int × Int × aT × (List aC) × (List (List UInt8))))=>([[.box 1 0,ci s10.2.1],[.c (PV.ls 1 dF s10.2.2.1.b_),ci s10.2.2.1.at_,ci s10.2.2.1.err_,.c (.bool s10.2.2.1.made_)],[ci wZ,ci aCJ,.c (.str aCK),AV.os 0 5 bF s10.2.2.2.1,AV.os 1 1 eA s10.2.2.2.2],[ci 0,ci 0,.c (.str ([]:List UInt8)),AV.nil,AV.nil]]:St)) hx7 (aU [1000000,1000001] 4 r r r r ⟨lr,lr,lr,lr,lr,lr,trivial⟩ (bW r (bW r (wG ⟨lr,lr,lr,(vR r),(vR r),trivial⟩ (bW r aA))))) ?_
     intro s10 st10 hs10 ho10
     unfold eX at hs10
     refine aP<|aH<|mI r<|mI r<|aM r (dJ r r)<|aF (fr':=[(0,.box 0 0),(2,aI),(4,.box 2 0),(6,.box 3 0),(7,aI),(8,aI),(28,aB)]) r r<|bP hs10 r (fun hb11 h11=>?_) (fun hb11 h11=>?_)
     ·
      refine aW<|bV<|aP<|bJ ?_
      obtain ⟨x12,hx12,h13⟩:=aE h11
      refine fY (fun j14=>x12=Fl.go j14) (fun (j14:(aT × (List (List UInt8))))=>([(0,.box 0 0),(2,ci qM),(4,.box 2 0),(6,.box 3 0),(7,ci x1.1),(8,ci s10.1)]:Fr)) (fun (j14:(aT × (List (List UInt8))))=>([[.box 1 0,ci s10.2.1],[.c (PV.ls 1 dF j14.1.b_),ci j14.1.at_,ci j14.1.err_,.c (.bool j14.1.made_)],[ci wZ,ci aCJ,.c (.str aCK),AV.os 0 5 bF s10.2.2.2.1,AV.os 1 1 eA j14.2],[ci 0,ci 0,.c (.str ([]:List UInt8)),AV.nil,AV.nil]]:St)) ?_ ?_
      ·
       refine aH<|aM r (bD gW r)<|aM r (aK (v:=aI) eP r r r)<|aM r (bM r r)<|aF (fr':=[(0,.box 0 0),(2,aI),(4,.box 2 0),(6,.box 3 0),(7,aI),(8,aI),(33,aB)]) r r<|bP hx12 r (fun hb15 h15=>?_) (fun hb15 h15=>?_)
       ·
        refine aH<|mV (v:=.box 0 0) r<|aM r (fX r)<|aM r (bD uX r)<|aM r (aK (v:=.box 1 0) aGx r r r) ?_
        obtain ⟨x16,hx16,h17⟩:=aE h15
        refine eD (v:=aS) (σ':=[[.box 1 0,aI],cP,[aI,aI,aS,aO,aO],bT]) [1] r (jN hx16) r r ⟨lr,lr,trivial⟩ (fO ⟨r,r,r,r,trivial⟩ aA) r r r<|sS r<|aF (fr':=[(0,.box 0 0),(2,aI),(4,.box 2 0),(6,.box 3 0),(7,aI),(8,aI),(9,aS)]) r r<|aP<|aH<|mV (v:=.box 0 0) r<|mS r<|aM r (gL pJ r)<|aM r (nD r r)<|mB r<|og r r r (fun hc=>(bE (v:=aI) r))<|og r r r (fun hc=>(bM (gx r hc) r)) ?_
        refine og r r r (fun hc=>(bE (v:=aB) (gx r hc)))<|eL r r (fun hc=>eS r (bE (v:=aS) r))<|eL r r (fun hc=>eS r (bD jA r))<|eL r r (fun hc=>eS r (aK (v:=aO) kM (gx r hc) r r))<|eL r r (fun hc=>eS r (bE (v:=aI) r))<|eL r r (fun hc=>eS r (aFr (gx r hc) r)) ?_
        obtain ⟨x18,hx18,h19⟩:=aE h17
        refine eL r r (fun hc=>eS r (gR (cs:=[PV.str _]) vV (lG (gx r hc)) (gx r hc) (cA hx18 hc) r))<|eL r r (fun hc=>eS r (eG (p:=PV.str _) kD (gx r hc) r))<|eL r r (fun hc=>eS r (aQg (gx r hc) (gx r hc)))<|og r r r (fun hc=>(bY (gx r hc) r r (fun e=>oC hc (eO e))))<|aM r (bO r r r (fun e=>eO e)) ?_
        obtain ⟨x20,hx20,h21⟩:=aE h19
        refine eD (v:=aB) (σ':=[[.box 1 0,aI],cP,[aI,aI,aS,aO,aO],bT]) [0,1] r (jM hx20) r r ⟨lr,lr,trivial⟩ (wG ⟨lr,lr,trivial⟩ (fO ⟨r,r,r,r,trivial⟩ aA)) (fA (by repeat (first | exact dX | refine aY r ?_ | refine aY (oS r) ?_ | refine aY oR ?_))) r r ?_
        refine aM r (eI r)<|aF (fr':=[(0,.box 0 0),(2,aI),(4,.box 2 0),(6,.box 3 0),(7,aI),(8,aI),(9,aS),(58,aB)]) r r<|bP h21 r (fun hb22 h22=>?_) (fun hb22 h22=>?_)
        ·
         refine aH<|aM r (dK (cs:=bT) aFP r)<|bU (v:=.agg bT) (us:=bT) (cs:=bT) (σ':=[[.box 1 0,aI],cP,[aI,aI,aS,aO,aO],bT]) r fM r r r r r r r r<|aF (fr':=[(6,.box 3 0)]) r r<|bC<|aJ<|aJ<|bA<|aJ<|aJ<|bA<|aJ ?_
         refine aJ ?_
         have h23:=dQ h22 h13
         have h24:=cS h23 ho10
         have h25:=dQ h24 h8
         obtain rfl:=sy h25
         exact bB (rs':=[.cell 6 26]) r<|cZ (us:=bT) (cs:=bT) fM r r r r<|aZ<|aN [] r r r (bK r ⟨r,r,r,⟨_,r⟩,⟨_,r⟩,trivial⟩) (wG ⟨lr,lr,trivial⟩ (fO ⟨r,r,r,r,trivial⟩ aA))
        ·
         refine aW<|bV<|aQ<|aM r (bD jA r)<|aM r (aK (v:=aO) kM r r r)<|mS r<|kT (row:=eA) (xs:=([x16.1]:List (List UInt8))) (rows:=[[_]]) (σ':=[[.box 1 0,aI],cP,[aI,aI,aS,aO,aO],bT]) [0] vV r r r (cM r gY) r r ?_
         obtain ⟨x27,hx27,h28⟩:=aE h22
         exact wX (row:=eA) vV r pI r (lG r) (fun _=>r) hx27<|aM r (bD jA r)<|bU (v:=aO) (us:=[aO]) (cs:=[aI,aI,aS,aO,aL]) (σ':=[[.box 1 0,aI],cP,[aI,aI,aS,aO,aO],bT]) r kM r r r r r r r r<|cB (fr':=[(0,.box 0 0),(2,aI),(4,.box 2 0),(6,.box 3 0),(7,aI),(8,aI),(9,aS),(58,aB)]) r<|gD _ (sy h28) (aU [0,1024] 4 r r r r ⟨lr,lr,lr,lr,lr,lr,trivial⟩ (bW r (bW r (bW r (bW r aA)))))
       ·
        exact aW<|gD _ (sy h15) (aU [0,1] 4 r r r r ⟨lr,lr,lr,lr,lr,lr,trivial⟩ (bW r (bW r (bW r (bW r aA)))))
      ·
       intro j14 hj29
       have h29:=iC hj29 h13
       refine aH<|mV (v:=.box 0 0) r<|mI r<|aM r (dB r r) ?_
       obtain ⟨x30,hx30,h31⟩:=aE h29
       refine eD (v:=.agg bL) (σ':=[[.box 1 0,aI],cP,[aI,aI,aS,aO,aO],bT]) [0,1] r (ih_value_decoder_value hx30) r r ⟨lr,lr,trivial⟩ (wG ⟨lr,lr,trivial⟩ (fO ⟨r,r,r,r,trivial⟩ aA)) r r r<|gC (n:=4) (cs:=bT) (σ':=[[.box 1 0,aI],cP,[aI,aI,aS,aO,aO],bT,bT]) aCi r r r<|bU (v:=.agg bL) (us:=bL) (cs:=bT) (σ':=[[.box 1 0,aI],cP,[aI,aI,aS,aO,aO],bT,bL]) r fM r r r r r r r r<|aF (fr':=[(0,.box 0 0),(2,aI),(4,.box 2 0),(6,.box 3 0),(7,aI),(8,aI),(10,.box 4 0)]) r r<|aP<|aH<|mV (v:=.box 0 0) r<|aM r (fX r)<|aM r (bD uX r)<|aM r (aK (v:=.box 1 0) aGx r r r) ?_
       obtain ⟨x32,hx32,h33⟩:=aE h31
       refine eD (v:=aI) (σ':=[[.box 1 0,aI],cP,[aI,aI,aS,aO,aO],bT,bL]) [1] r (fC hx32) r r ⟨lr,trivial⟩ (fO ⟨r,r,r,r,trivial⟩ aA) r r r<|aM r (fI r r)<|aF (fr':=[(0,.box 0 0),(2,aI),(4,.box 2 0),(6,.box 3 0),(7,aI),(8,aI),(10,.box 4 0),(75,aB)]) r r<|bP h33 r (fun hb34 h34=>?_) (fun hb34 h34=>?_)
       ·
        refine aH<|aM r (dK (cs:=bT) aFP r)<|bU (v:=.agg bT) (us:=bT) (cs:=bT) (σ':=[[.box 1 0,aI],cP,[aI,aI,aS,aO,aO],bT,bL]) r fM r r r r r r r r<|aF (fr':=[(6,.box 3 0)]) r r<|bC<|aJ<|bA<|aJ<|aJ<|bA<|aJ<|aJ ?_
        have h35:=cS h34 ho10
        have h36:=dQ h35 h8
        obtain rfl:=sy h36
        exact bB (rs':=[.cell 6 26]) r<|cZ (us:=bT) (cs:=bT) fM r r r r<|aZ<|aN [] r r r (bK r ⟨r,r,r,⟨_,r⟩,⟨_,r⟩,trivial⟩) (wG ⟨lr,lr,trivial⟩ (fO ⟨r,r,r,r,trivial⟩ aA))
       ·
        refine aW<|bV<|aQ<|aM r (bD eJ r)<|aM r (aK (v:=aO) iF r r r)<|aM r (cN (us:=bL) fM r r r r)<|kT (row:=bF) (xs:=([x30.1]:List aC)) (rows:=[[_,_,_,_,_]]) (σ':=[[.box 1 0,aI],cP,[aI,aI,aS,aO,aO],bT,bL]) [0,0,0,5,1] mP r r r (cM (cE _) gY) r r ?_
        obtain ⟨x38,hx38,h39⟩:=aE h34
        exact wX (row:=bF) mP r nH r (lG r) aEd hx38<|aM r (bD eJ r)<|bU (v:=aO) (us:=[aO]) (cs:=[aI,aI,aS,aL,aO]) (σ':=[[.box 1 0,aI],cP,[aI,aI,aS,aO,aO],bT,bL]) r iF r r r r r r r r<|cB (fr':=[(0,.box 0 0),(2,aI),(4,.box 2 0),(6,.box 3 0),(7,aI),(8,aI),(10,.box 4 0),(75,aB)]) r<|bX<|bV<|aQ<|mI r<|aM r (dB r r)<|sI r<|cB (fr':=[(0,.box 0 0),(2,aI),(4,.box 2 0),(6,.box 3 0),(7,aI),(8,aI),(10,.box 4 0),(75,aB)]) r<|rX _ (sy h39) (aU [1296,1] 4 r r r r ⟨lr,lr,lr,lr,lr,lr,trivial⟩ (bW r (bW r (bW r (bW r aA)))))
     ·
      refine eK<|bR<|bR<|dC ?_
      have h40:=cS h11 ho10
      exact gD _ (sy h40) (aU [0,1] 4 r r r r ⟨lr,lr,trivial⟩ (bW r (bW r (bW r (bW r aA)))))
    ·
     intro j9 hj41
     have h41:=iC hj41 h8
     refine bV<|aH<|aM r (cN (us:=[aI,aI,aS,aO,aO]) fM r r r r)<|bU (v:=.agg [aI,aI,aS,aO,aO]) (us:=[aI,aI,aS,aO,aO]) (cs:=bT) (σ':=[[.box 1 0,aI],cP,[aI,aI,aS,aO,aO],[aI,aI,aS,aO,aO]]) r fM r r r r r r r r<|aF (fr':=[(6,.box 3 0)]) r r<|bC ?_
     obtain rfl:=sy h41
     exact bB (rs':=[.cell 6 26]) r<|cZ (us:=[aI,aI,aS,aO,aO]) (cs:=[aI,aI,aS,aO,aO]) fM r r r r<|aZ<|aN [] r r r (bK r ⟨r,r,r,r,r,trivial⟩) (wG ⟨lr,lr,trivial⟩ (fO ⟨r,r,r,r,trivial⟩ aA))
  ·
   intro mA fB lZ res h
   rw [dU] at h
   refine cJ (fn:=Tryz.f145) [0,1,4,5,17,42,45,46,64,72,86] (by kernel_rfl) Tryz.func145 r (by kernel_rfl) (by kernel_rfl)<|aH<|gC (n:=2) (cs:=bT) (σ':=[[.box 1 0,aI],cP,bT]) aCi r r r<|aF (fr':=[(0,.box 0 0),(1,aI),(4,.box 2 0)]) r r<|aP<|aH<|mV (v:=.box 0 0) r<|mV (v:=.box 0 0) r<|aM r (fX r)<|aM r (bD aH5 r)<|aM r (aK (v:=aI) eP r r r) ?_
   refine aM r (dJ r r)<|mB r<|og r r r (fun hc=>(bE (v:=aI) r))<|og r r r (fun hc=>(nD (gx r hc) r))<|aM r (bO r r r (fun e=>eO e)) ?_
   obtain ⟨x1,hx1,h2⟩:=aE h
   refine eD (v:=aB) (σ':=[[.box 1 0,aI],cP,bT]) [0,1] r (jM hx1) r r ⟨lr,lr,trivial⟩ (wG ⟨lr,lr,trivial⟩ (fO ⟨r,r,r,r,trivial⟩ aA)) (fA (by repeat (first | exact dX | refine aY r ?_ | refine aY (oS r) ?_ | refine aY oR ?_))) r r ?_
   refine aM r (eI r)<|aF (fr':=[(0,.box 0 0),(1,aI),(4,.box 2 0),(17,aB)]) r r<|bP h2 r (fun hb3 h3=>?_) (fun hb3 h3=>?_)
   ·
    refine aH<|aM r (dK (cs:=bT) aFP r)<|bU (v:=.agg bT) (us:=bT) (cs:=bT) (σ':=[[.box 1 0,aI],cP,bT]) r fM r r r r r r r r<|aF (fr':=[(4,.box 2 0)]) r r<|bC<|aJ ?_
    obtain rfl:=sy h3
    exact bB (rs':=[.cell 4 26]) r<|cZ (us:=bT) (cs:=bT) fM r r r r<|aZ<|aN [] r r r (bK r ⟨r,r,r,⟨_,r⟩,⟨_,r⟩,trivial⟩) (wG ⟨lr,lr,trivial⟩ (fO ⟨r,r,r,r,trivial⟩ aA))
   ·
    refine aW<|bV<|aH<|mV (v:=.box 0 0) r<|aM r (fX r)<|aM r (bD aH5 r)<|aM r (aK (v:=aI) eP r r r)<|aM r (dB r r)<|aM r (fX r)<|aM r (bD aH5 r)<|bU (v:=aI) (us:=[aI]) (cs:=[.box 1 0,aI]) (σ':=[[.box 1 0,aI],cP,bT]) r eP r r r r r r r r<|aF (fr':=[(0,.box 0 0),(1,aI),(4,.box 2 0)]) r r ?_
    refine aH<|mV (v:=.box 0 0) r<|aM r (fX r)<|aM r (bD uX r)<|aM r (aK (v:=.box 1 0) aGx r r r) ?_
    obtain ⟨x5,hx5,h6⟩:=aE h3
    refine eD (v:=aI) (σ':=[[.box 1 0,aI],cP,bT]) [1] r (fD hx5) r r ⟨lr,lr,lr,trivial⟩ (fO ⟨r,r,r,r,trivial⟩ aA) r r r<|aM r (dK (cs:=bT) aFP r)<|gC (n:=3) (cs:=bT) (σ':=[[.box 1 0,aI],cP,bT,bT]) aCi r r r<|bU (v:=.agg bT) (us:=bT) (cs:=bT) (σ':=[[.box 1 0,aI],cP,bT,bT]) r fM r r r r r r r r<|aF (fr':=[(0,.box 0 0),(1,aI),(4,.box 2 0),(5,.box 3 0)]) r r<|aP<|aH<|mV (v:=.box 0 0) r<|aM r (bD gW r)<|aM r (aK (v:=aI) eP r r r)<|aM r (nM r r)<|mB r ?_
    refine og r r r (fun hc=>(bD gW r))<|og r r r (fun hc=>(aK (v:=aI) eP (gx r hc) r r))<|og r r r (fun hc=>(nD (gx r hc) r))<|aM r (bO r r r (fun e=>eO e)) ?_
    obtain ⟨x7,hx7,h8⟩:=aE h6
    refine eD (v:=aB) (σ':=[[.box 1 0,aI],cP,bT,bT]) [0,1] r (jM hx7) r r ⟨lr,lr,trivial⟩ (wG ⟨lr,lr,trivial⟩ (fO ⟨r,r,r,r,trivial⟩ aA)) (fA (by repeat (first | exact dX | refine aY r ?_ | refine aY (oS r) ?_ | refine aY oR ?_))) r r ?_
    refine aM r (eI r)<|aF (fr':=[(0,.box 0 0),(1,aI),(4,.box 2 0),(5,.box 3 0),(42,aB)]) r r<|bP h8 r (fun hb9 h9=>?_) (fun hb9 h9=>?_)
    ·
     refine aH<|aM r (dK (cs:=bT) aFP r)<|bU (v:=.agg bT) (us:=bT) (cs:=bT) (σ':=[[.box 1 0,aI],cP,bT,bT]) r fM r r r r r r r r<|aF (fr':=[(4,.box 2 0)]) r r<|bC<|aJ ?_
     obtain rfl:=sy h9
     exact bB (rs':=[.cell 4 26]) r<|cZ (us:=bT) (cs:=bT) fM r r r r<|aZ<|aN [] r r r (bK r ⟨r,r,r,⟨_,r⟩,⟨_,r⟩,trivial⟩) (wG ⟨lr,lr,trivial⟩ (fO ⟨r,r,r,r,trivial⟩ aA))
    ·
     refine aW<|bV ?_
     obtain ⟨x11,hx11,h12⟩:=aE h9
     refine fY (fun j13=>x11=Fl.go j13) (fun (j13:(aT × Int × (List UInt8)))=>([(4,.box 2 0),(5,.box 3 0)]:Fr)) (fun (j13:(aT × Int × (List UInt8)))=>([[.box 1 0,ci (IntKind.wrap .i64 (fB+(1:Int)))],[.c (PV.ls 1 dF j13.1.b_),ci j13.1.at_,ci j13.1.err_,.c (.bool j13.1.made_)],[ci 0,ci 0,.c (.str ([]:List UInt8)),AV.nil,AV.nil],[ci x5.1,ci j13.2.1,.c (.str j13.2.2),AV.nil,AV.nil]]:St)) ?_ ?_
     ·
      refine aH<|aM r (bD gW r)<|aM r (aK (v:=aI) eP r r r)<|aF (fr':=[(0,.box 0 0),(1,aI),(4,.box 2 0),(5,.box 3 0),(45,aI)]) r r<|bJ<|aH<|aM r (bM r r)<|sB r<|aF (fr':=[(0,.box 0 0),(1,aI),(4,.box 2 0),(5,.box 3 0),(45,aI),(46,aB)]) r r<|bP hx11 r (fun hb14 h14=>?_) (fun hb14 h14=>?_)
      ·
       refine aH<|mV (v:=.box 0 0) r<|aM r (fX r)<|aM r (bD uX r)<|aM r (aK (v:=.box 1 0) aGx r r r) ?_
       obtain ⟨x15,hx15,h16⟩:=aE h14
       refine eD (v:=aI) (σ':=[[.box 1 0,aI],cP,bT,bT]) [1] r (fD hx15) r r ⟨lr,lr,lr,trivial⟩ (fO ⟨r,r,r,r,trivial⟩ aA) r r r<|aM r (bD mM r)<|bU (v:=aI) (us:=[aI]) (cs:=bT) (σ':=[[.box 1 0,aI],cP,bT,bT]) r eP r r r r r r r r<|aF (fr':=[(0,.box 0 0),(4,.box 2 0),(5,.box 3 0)]) r r<|aQ<|mV (v:=.box 0 0) r<|aM r (bD mM r)<|aM r (aK (v:=aI) eP r r r)<|aM r (bM r r)<|mB r<|og r r r (fun hc=>(bD mM r))<|og r r r (fun hc=>(aK (v:=aI) eP (gx r hc) r r))<|og r r r (fun hc=>(bM (gx r hc) r)) ?_
       refine aM r (bY r r r (fun e=>eO e)) ?_
       obtain ⟨x17,hx17,h18⟩:=aE h16
       refine eD (v:=aB) (σ':=[[.box 1 0,aI],cP,bT,bT]) [0,1] r (jM hx17) r r ⟨lr,lr,trivial⟩ (wG ⟨lr,lr,trivial⟩ (fO ⟨r,r,r,r,trivial⟩ aA)) (fA (by repeat (first | exact dX | refine aY r ?_ | refine aY (oS r) ?_ | refine aY oR ?_))) r r ?_
       exact cB (fr':=[(0,.box 0 0),(4,.box 2 0),(5,.box 3 0)]) r<|bX<|gD _ (sy h18) (aU [] 4 r r r r ⟨lr,lr,trivial⟩ (bW r (bW r (bW r (bW r aA)))))
      ·
       refine aH<|aM r (bM r r)<|sB r<|aF (fr':=[(0,.box 0 0),(1,aI),(4,.box 2 0),(5,.box 3 0),(45,aI),(64,aB)]) r r<|bP h14 r (fun hb19 h19=>?_) (fun hb19 h19=>?_)
       ·
        refine aQ<|mV (v:=.box 0 0) r<|aM r (fX r)<|aM r (bD uX r)<|aM r (aK (v:=.box 1 0) aGx r r r) ?_
        obtain ⟨x20,hx20,h21⟩:=aE h19
        exact eD (v:=aI) (σ':=[[.box 1 0,aI],cP,bT,bT]) [1] r (fD hx20) r r ⟨lr,lr,lr,trivial⟩ (fO ⟨r,r,r,r,trivial⟩ aA) r r r<|aM r (bD mM r)<|bU (v:=aI) (us:=[aI]) (cs:=bT) (σ':=[[.box 1 0,aI],cP,bT,bT]) r eP r r r r r r r r<|cB (fr':=[(0,.box 0 0),(1,aI),(4,.box 2 0),(5,.box 3 0),(45,aI),(64,aB)]) r<|bX<|gD _ (sy h21) (aU [] 4 r r r r ⟨lr,lr,trivial⟩ (bW r (bW r (bW r (bW r aA)))))
       ·
        refine aH<|aM r (bM r r)<|sB r<|aF (fr':=[(0,.box 0 0),(1,aI),(4,.box 2 0),(5,.box 3 0),(45,aI),(72,aB)]) r r<|bP h19 r (fun hb22 h22=>?_) (fun hb22 h22=>?_)
        ·
         refine aH<|mV (v:=.box 0 0) r<|aM r (fX r)<|aM r (bD uX r)<|aM r (aK (v:=.box 1 0) aGx r r r) ?_
         obtain ⟨x23,hx23,h24⟩:=aE h22
         refine eD (v:=aS) (σ':=[[.box 1 0,aI],cP,bT,bT]) [1] r (jN hx23) r r ⟨lr,lr,trivial⟩ (fO ⟨r,r,r,r,trivial⟩ aA) r r r<|aM r (bD lT r)<|bU (v:=aS) (us:=[aS]) (cs:=bT) (σ':=[[.box 1 0,aI],cP,bT,bT]) r kD r r r r r r r r<|aF (fr':=[(0,.box 0 0),(4,.box 2 0),(5,.box 3 0)]) r r<|aQ<|mV (v:=.box 0 0) r<|aM r (bD lT r)<|aM r (aK (v:=aS) kD r r r)<|aM r (gL pJ r)<|aM r (nD r r) ?_
         obtain ⟨x25,hx25,h26⟩:=aE h24
         exact eD (v:=aB) (σ':=[[.box 1 0,aI],cP,bT,bT]) [0,1] r (jM hx25) r r ⟨lr,lr,trivial⟩ (wG ⟨lr,lr,trivial⟩ (fO ⟨r,r,r,r,trivial⟩ aA)) r r r<|cB (fr':=[(0,.box 0 0),(4,.box 2 0),(5,.box 3 0)]) r<|bX<|gD _ (sy h26) (aU [] 4 r r r r ⟨lr,lr,trivial⟩ (bW r (bW r (bW r (bW r aA)))))
        ·
         obtain ⟨x27,hx27,h28⟩:=aE h22
         refine fY (fun j29=>x27=j29) (fun (j29:Bool)=>([(0,.box 0 0),(1,ci mA),(4,.box 2 0),(5,.box 3 0),(86,.c (.bool j29))]:Fr)) (fun (j29:Bool)=>([[.box 1 0,ci (IntKind.wrap .i64 (fB+(1:Int)))],[.c (PV.ls 1 dF x7.2.b_),ci x7.2.at_,ci x7.2.err_,.c (.bool x7.2.made_)],[ci 0,ci 0,.c (.str ([]:List UInt8)),AV.nil,AV.nil],[ci x5.1,ci 0,.c (.str ([]:List UInt8)),AV.nil,AV.nil]]:St)) ?_ ?_
         ·
          refine aH<|aM r (bM r r)<|sB r<|aF (fr':=[(0,.box 0 0),(1,aI),(4,.box 2 0),(5,.box 3 0),(45,aI),(86,aB)]) r r<|bP hx27 r (fun hb30 h30=>?_) (fun hb30 h30=>?_)
          ·
           exact aW<|gD _ (sy h30) (aU [] 4 r r r r ⟨lr,lr,lr,lr,lr,trivial⟩ (bW r (bW r (bW r (bW r aA)))))
          ·
           exact aQ<|aM r (bM r r)<|sB r<|cB (fr':=[(0,.box 0 0),(1,aI),(4,.box 2 0),(5,.box 3 0),(45,aI),(86,aB)]) r<|gD _ (sy h30) (aU [] 4 r r r r ⟨lr,lr,lr,lr,lr,trivial⟩ (bW r (bW r (bW r (bW r aA)))))
         ·
          intro j29 hj31
          subst hj31
          refine bP h28 r (fun hb32 h32=>?_) (fun hb32 h32=>?_)
          ·
           refine aH<|mV (v:=.box 0 0) r<|aM r (cN (us:=bT) fM r r r r)<|mI r ?_
           obtain ⟨x33,hx33,h34⟩:=aE h32
           refine eD (v:=.agg bL) (σ':=[[.box 1 0,aI],cP,bT,bT]) [0,1] r (ih_value_decoder_items hx33) r r ⟨lr,(aON r ⟨lr,lr,lr,lr,lr,trivial⟩),lr,trivial⟩ (wG ⟨lr,lr,trivial⟩ (fO ⟨r,r,r,r,trivial⟩ aA)) r r r<|bU (v:=.agg bL) (us:=bL) (cs:=bT) (σ':=[[.box 1 0,aI],cP,bL,bT]) r fM r r r r r r r r<|aF (fr':=[(4,.box 2 0)]) r r<|bC<|bA<|aJ ?_
           have h35:=dQ h34 h12
           obtain rfl:=sy h35
           exact bB (rs':=[.cell 4 26]) r<|cZ (us:=bL) (cs:=bL) fM r r r r<|aZ<|aN [] r r r (bK r ⟨r,r,r,r,r,trivial⟩) (wG ⟨lr,lr,trivial⟩ (fO ⟨r,r,r,r,trivial⟩ aA))
          ·
           exact aW<|bX<|gD _ (sy h32) (aU [] 4 r r r r ⟨lr,lr,trivial⟩ (bW r (bW r (bW r (bW r aA)))))
     ·
      intro j13 hj37
      have h37:=iC hj37 h12
      refine aH<|aM r (cN (us:=bT) fM r r r r)<|bU (v:=.agg bT) (us:=bT) (cs:=bT) (σ':=[[.box 1 0,aI],cP,bT,bT]) r fM r r r r r r r r<|aF (fr':=[(4,.box 2 0)]) r r<|bC ?_
      obtain rfl:=sy h37
      exact bB (rs':=[.cell 4 26]) r<|cZ (us:=bT) (cs:=bT) fM r r r r<|aZ<|aN [] r r r (bK r ⟨r,r,r,⟨_,r⟩,⟨_,r⟩,trivial⟩) (wG ⟨lr,lr,trivial⟩ (fO ⟨r,r,r,r,trivial⟩ aA))
noncomputable def mX (mA:Int) (fB:Int) (lZ:aT):Option (aC × Int × aT):=lim fun n=>dU n mA fB lZ
theorem aAs {mA:Int}{fB:Int}{lZ:aT}{res:(aC × Int × aT)} (h:mX mA fB lZ=some res):bS Tryz.prog 145 [.box 0 0,ci mA] [[.box 1 0,ci fB],AV.cs (cY lZ)] (.agg (AV.cs (cQ res.1))) [[.box 1 0,ci res.2.1],AV.cs (cY res.2.2)]:=by
 obtain ⟨n,hn⟩:=jZ h
 exact (aAa n).2 hn
noncomputable def tW (dA:aT):Option (aC × aT) :=
 (((eV dA).bind fun x4=>cond (decide (x4=(1:Int))) (some (Fl.done ((aC.mk (0:Int) (0:Int) ([]:List UInt8) ([]:(List aC)) ([]:(List (List UInt8)))),dA))) (some (Fl.go ()))):Option (Fl (aC × aT) Unit)).bind fun x1=>Fl.next x1 (fun j3=>((mX (1:Int) (0:Int) dA).bind fun x10=>(eV x10.2.2).bind fun x12=>cond (!decide (x12=(0:Int))) (some ((aC.mk (0:Int) (0:Int) ([]:List UInt8) ([]:(List aC)) ([]:(List (List UInt8)))),x10.2.2)) (some (x10.1,x10.2.2))))
theorem aF8 {dA:aT}{res:(aC × aT)} (h:tW dA=some res):bS Tryz.prog 72 [.box 0 0] [AV.cs (cY dA)] (.agg (AV.cs (cQ res.1))) [AV.cs (cY res.2)]:=by
 unfold tW at h
 refine cJ (fn:=Tryz.f72) [0,2,3,4,11,20] (by kernel_rfl) Tryz.func72 r (by kernel_rfl) (by kernel_rfl)<|aH<|gC (n:=1) (cs:=bT) (σ':=[cP,bT]) aCi r r r<|aF (fr':=[(0,.box 0 0),(2,.box 1 0)]) r r ?_
 obtain ⟨x1,hx1,h2⟩:=aE h
 refine fY (fun j3=>x1=Fl.go j3) (fun (j3:Unit)=>([(0,.box 0 0),(2,.box 1 0)]:Fr)) (fun (j3:Unit)=>([[.c (PV.ls 1 dF dA.b_),ci dA.at_,ci dA.err_,.c (.bool dA.made_)],[ci 0,ci 0,.c (.str ([]:List UInt8)),AV.nil,AV.nil]]:St)) ?_ ?_
 ·
  refine aH<|mV (v:=.box 0 0) r<|aM r (aHT aPm r r)<|mB r<|kG r r r<|mV (v:=.box 0 0) r<|kG r r r ?_
  obtain ⟨x4,hx4,h5⟩:=aE hx1
  refine eD (v:=aI) (σ':=[cP,bT]) [0] r (fC hx4) r r ⟨lr,trivial⟩ (fO ⟨r,r,r,r,trivial⟩ aA) r r r<|kG r r r<|aM r (bM r r)<|aM r (nE r r r)<|aF (fr':=[(0,.box 0 0),(2,.box 1 0),(11,aB)]) r r<|bP h5 r (fun hb6 h6=>?_) (fun hb6 h6=>?_)
  ·
   refine aH<|aM r (dK (cs:=bT) aFP r)<|bU (v:=.agg bT) (us:=bT) (cs:=bT) (σ':=[cP,bT]) r fM r r r r r r r r<|aF (fr':=[(2,.box 1 0)]) r r<|bC<|aJ ?_
   have h7:=dQ h6 h2
   obtain rfl:=sy h7
   exact bB (rs':=[.cell 2 26]) r<|cZ (us:=bT) (cs:=bT) fM r r r r<|aZ<|aN [] r r r (bK r ⟨r,r,r,⟨_,r⟩,⟨_,r⟩,trivial⟩) (fO ⟨r,r,r,r,trivial⟩ aA)
  ·
   exact aW<|gD _ (sy h6) (aU [] 2 r r r r ⟨lr,lr,trivial⟩ (bW r (bW r aA)))
 ·
  intro j3 hj9
  have h9:=iC hj9 h2
  refine aH<|mV (v:=.box 0 0) r<|aM r (dK (cs:=[.box 0 0,aI]) aRF r)<|fS (v:=.agg [.box 0 0,aI]) (n:=2) (cs:=[.box 0 0,aI]) (σ':=[cP,bT,[.box 0 0,aI]]) r r r r r<|sV (v:=.box 2 0) r<|aF (fr':=[(0,.box 0 0),(2,.box 1 0),(3,.box 2 0)]) r r<|aH<|mV (v:=.box 2 0) r ?_
  obtain ⟨x10,hx10,h11⟩:=aE h9
  refine eD (v:=.agg bL) (σ':=[cP,bT,[.box 0 0,aI]]) [2,0] r (aAs hx10) r r ⟨lr,lr,trivial⟩ (wG ⟨lr,lr,trivial⟩ (fO ⟨r,r,r,r,trivial⟩ aA)) r r r<|gC (n:=3) (cs:=bT) (σ':=[cP,bT,[.box 0 0,aI],bT]) aCi r r r<|bU (v:=.agg bL) (us:=bL) (cs:=bT) (σ':=[cP,bT,[.box 0 0,aI],bL]) r fM r r r r r r r r<|aF (fr':=[(0,.box 0 0),(2,.box 1 0),(4,.box 3 0)]) r r<|aP<|aH<|mV (v:=.box 0 0) r ?_
  obtain ⟨x12,hx12,h13⟩:=aE h11
  refine eD (v:=aI) (σ':=[cP,bT,[.box 0 0,aI],bL]) [0] r (fC hx12) r r ⟨lr,trivial⟩ (fO ⟨r,r,r,r,trivial⟩ aA) r r r<|aM r (fI r r)<|aF (fr':=[(2,.box 1 0),(4,.box 3 0),(20,aB)]) r r<|bP h13 r (fun hb14 h14=>?_) (fun hb14 h14=>?_)
  ·
   refine aH<|aM r (dK (cs:=bT) aFP r)<|bU (v:=.agg bT) (us:=bT) (cs:=bT) (σ':=[cP,bT,[.box 0 0,aI],bL]) r fM r r r r r r r r<|aF (fr':=[(2,.box 1 0)]) r r<|bC<|aJ ?_
   obtain rfl:=sy h14
   exact bB (rs':=[.cell 2 26]) r<|cZ (us:=bT) (cs:=bT) fM r r r r<|aZ<|aN [] r r r (bK r ⟨r,r,r,⟨_,r⟩,⟨_,r⟩,trivial⟩) (fO ⟨r,r,r,r,trivial⟩ aA)
  ·
   refine aW<|bV<|aH<|aM r (cN (us:=bL) fM r r r r)<|bU (v:=.agg bL) (us:=bL) (cs:=bT) (σ':=[cP,bL,[.box 0 0,aI],bL]) r fM r r r r r r r r<|aF (fr':=[(2,.box 1 0)]) r r<|bC ?_
   obtain rfl:=sy h14
   exact bB (rs':=[.cell 2 26]) r<|cZ (us:=bL) (cs:=bL) fM r r r r<|aZ<|aN [] r r r (bK r ⟨r,r,r,r,r,trivial⟩) (fO ⟨r,r,r,r,trivial⟩ aA)
noncomputable def nN (gJ:(List UInt8)) (fB:Int) (aEA:Int) (aEB:Int) (aEC:Int) (aED:Int) (aEE:Int) (aEF:Int) (aEG:Int):Option Unit :=
 some ()
theorem aA5 {gJ:(List UInt8)}{fB:Int}{aEA:Int}{aEB:Int}{aEC:Int}{aED:Int}{aEE:Int}{aEF:Int}{aEG:Int}{res:Unit} (h:nN gJ fB aEA aEB aEC aED aEE aEF aEG=some res):bS Tryz.prog 146 [.box 0 0] [[.c (.str gJ),ci fB,ci aEA,ci aEB,ci aEC,ci aED,ci aEE,ci aEF,ci aEG,AV.nil]] (.ptrs [(0,1),(0,2),(0,3),(0,4),(0,5),(0,6),(0,7),(0,8)]) [[.c (.str gJ),ci fB,ci aEA,ci aEB,ci aEC,ci aED,ci aEE,ci aEF,ci aEG,AV.nil]]:=by
 unfold nN at h
 refine cJ (fn:=Tryz.f146) [0,2] (by kernel_rfl) Tryz.func146 r (by kernel_rfl) (by kernel_rfl)<|aH<|sV (v:=AV.nil) r<|aF (fr':=[(0,.box 0 0)]) r r<|aP<|hF [.q 0,.q 1,.q 2,.q 3,.q 4,.q 5,.q 6,.q 7,.q 8,.q 9,.q 10,.q 11,.q 12,.q 13,.q 14,.q 15,.q 16,.q 17,.q 18,.q 19,.q 20,.q 21,.q 22,.q 23,.n 24 [],.n 25 []] [(some 3,[0]),(some 4,[3]),(some 5,[4]),(some 6,[0]),(some 7,[6]),(some 8,[7]),(some 9,[0]),(some 10,[9]),(some 11,[10]),(some 12,[0]),(some 13,[12]),(some 14,[13]),(some 15,[0]),(some 16,[15]),(some 17,[16]),(some 18,[0]),(some 19,[18]),(some 20,[19]),(some 21,[0]),(some 22,[21]),(some 23,[22]),(some 24,[0]),(some 25,[24]),(some 26,[25]),(some 27,[5,8,11,14,17,20,23,26]),(some 2,[27])] [0,1,3,0,8,24,0,64,192,0,512,1536,0,4096,12288,0,32768,98304,0,262144,786432,0,2097152,6291456,16777215,33554431] (by kernel_rfl)<|dq r r (bE (v:=.box 0 0) r)<|dq r r (fX r)<|dq r r (bD aB8 r)<|dq r r (bE (v:=.box 0 0) r)<|dq r r (fX r)<|dq r r (bD aB9 r) ?_
 refine dq r r (bE (v:=.box 0 0) r)<|dq r r (fX r)<|dq r r (bD aCa r)<|dq r r (bE (v:=.box 0 0) r)<|dq r r (fX r)<|dq r r (bD aCb r)<|dq r r (bE (v:=.box 0 0) r)<|dq r r (fX r)<|dq r r (bD aCc r)<|dq r r (bE (v:=.box 0 0) r)<|dq r r (fX r)<|dq r r (bD aCd r)<|dq r r (bE (v:=.box 0 0) r) ?_
 refine dq r r (fX r)<|dq r r (bD aCe r)<|dq r r (bE (v:=.box 0 0) r)<|dq r r (fX r)<|dq r r (bD aCf r)<|d_n r ?_ r
 refine aKo (l:=[(0,1),(0,2),(0,3),(0,4),(0,5),(0,6),(0,7),(0,8)]) mQ r r r r<|aCI<|⟨tD,?_⟩
 refine d_n r ?_ r
 refine sV (v:=.ptrs [(0,1),(0,2),(0,3),(0,4),(0,5),(0,6),(0,7),(0,8)]) r<|aCI<|⟨tD,?_⟩
 refine uE (fr':=[(2,.ptrs [(0,1),(0,2),(0,3),(0,4),(0,5),(0,6),(0,7),(0,8)])]) r r<|bC ?_
 obtain rfl:=sy h
 exact bB (rs':=[.tmp 2]) r<|bH (v:=.ptrs [(0,1),(0,2),(0,3),(0,4),(0,5),(0,6),(0,7),(0,8)]) r<|aZ<|aK5 [] r r r lr (bW r aA)
noncomputable def fQ (dA:aT):Option (Int × aT) :=
 (eQ (-9223372036854775808:Int) (9223372036854775807:Int) dA).bind fun x1=>some (x1.1,x1.2)
theorem gU {dA:aT}{res:(Int × aT)} (h:fQ dA=some res):bS Tryz.prog 147 [.box 0 0] [AV.cs (cY dA)] (ci res.1) [AV.cs (cY res.2)]:=by
 unfold fQ at h
 refine cJ (fn:=Tryz.f147) [0,2] (by kernel_rfl) Tryz.func147 r (by kernel_rfl) (by kernel_rfl)<|aH<|sI r<|aF (fr':=[(0,.box 0 0)]) r r<|aH<|mV (v:=.box 0 0) r ?_
 obtain ⟨x1,hx1,h2⟩:=aE h
 refine eD (v:=aI) (σ':=[cP]) [0] r (fD hx1) r r ⟨lr,lr,lr,trivial⟩ (fO ⟨r,r,r,r,trivial⟩ aA) r r r<|sI r<|aF (fr':=[(2,aI)]) r r<|bC ?_
 obtain rfl:=sy h2
 exact bB (rs':=[.tmp 2]) r<|bH (v:=aI) r<|aZ<|aN [] r r r lr (fO ⟨r,r,r,r,trivial⟩ aA)
noncomputable def kE (x22:(Int × aT)) (s38:(Int × aT × (List (List UInt8)))):Option (cI (Int × aT × (List (List UInt8))) (aT × (List (List UInt8)))) :=
 ((cond (decide (s38.1<x22.1)) ((eV s38.2.1).bind fun x43=>cond (decide (x43=(0:Int))) (some (Fl.go ())) (some (Fl.done (cI.out (s38.2.1,s38.2.2))))) (some (Fl.done (cI.out (s38.2.1,s38.2.2))))):Option (Fl (cI (Int × aT × (List (List UInt8))) (aT × (List (List UInt8)))) Unit)).bind fun x39=>Fl.next x39 (fun j41=>((gI (4096:Int) s38.2.1).bind fun x51=>(app 16 s38.2.2 ([x51.1]:List (List UInt8))).bind fun x53=>some (cI.next ((IntKind.wrap .i64 (s38.1+(1:Int))),x51.2,x53))))
noncomputable def jU (dA:aT):Option (bG × aT) :=
 (gI (4096:Int) dA).bind fun x1=>(nN x1.1 (0:Int) (0:Int) (0:Int) (0:Int) (0:Int) (0:Int) (0:Int) (0:Int)).bind fun x3=>(fQ x1.2).bind fun x6=>(fQ x6.2).bind fun x8=>(fQ x8.2).bind fun x10=>(fQ x10.2).bind fun x12=>(fQ x12.2).bind fun x14=>(fQ x14.2).bind fun x16=>(fQ x16.2).bind fun x18=>(fQ x18.2).bind fun x20=>(fQ x20.2).bind fun x22=>(((eV x22.2).bind fun x27=>(gd ((decide (x27=(0:Int)))==true) (iE x22.1 (0:Int) (64:Int))).bind fun x29=>cond (cond (decide (x27=(0:Int))) (!x29) false) ((lD (3:Int) x22.2).bind fun x32=>some x32) (some x22.2)):Option aT).bind fun x24=>(((dR (kE x22) (((0:Int),x24,([]:(List (List UInt8)))))):Option (aT × (List (List UInt8)))).bind fun x35=>((((eV x35.1).bind fun x59=>(gd ((decide (x59=(0:Int)))==true) (iD (bG.mk x1.1 x6.1 x8.1 x10.1 x12.1 x14.1 x16.1 x18.1 x20.1 x35.2))).bind fun x61=>cond (cond (decide (x59=(0:Int))) (!x61) false) ((lD (3:Int) x35.1).bind fun x64=>some x64) (some x35.1)):Option aT).bind fun x56=>((eV x56).bind fun x67=>cond (!decide (x67=(0:Int))) (some ((bG.mk ([]:List UInt8) (0:Int) (0:Int) (0:Int) (0:Int) (0:Int) (0:Int) (0:Int) (0:Int) ([]:(List (List UInt8)))),x56)) (some ((bG.mk x1.1 x6.1 x8.1 x10.1 x12.1 x14.1 x16.1 x18.1 x20.1 x35.2),x56)))))
theorem aAb {dA:aT}{res:(bG × aT)} (h:jU dA=some res):bS Tryz.prog 73 [.box 0 0] [AV.cs (cY dA)] (.agg (AV.cs (gS res.1))) [AV.cs (cY res.2)]:=by
 unfold jU at h
 refine cJ (fn:=Tryz.f73) [0,2,3,5,6,7,11,12,13,14,31,41,58,63] (by kernel_rfl) Tryz.func73 r (by kernel_rfl) (by kernel_rfl)<|aH<|gC (n:=1) (cs:=bN) (σ':=[cP,bN]) aQw r r r<|aF (fr':=[(0,.box 0 0),(2,.box 1 0)]) r r<|aH<|gC (n:=2) (cs:=bN) (σ':=[cP,bN,bN]) aQw r r r<|aF (fr':=[(0,.box 0 0),(2,.box 1 0),(3,.box 2 0)]) r r<|aH<|mV (v:=.box 0 0) r ?_
 obtain ⟨x1,hx1,h2⟩:=aE h
 refine eD (v:=aS) (σ':=[cP,bN,bN]) [0] r (jN hx1) r r ⟨lr,lr,trivial⟩ (fO ⟨r,r,r,r,trivial⟩ aA) r r r<|aM r (bD vT r)<|bU (v:=aS) (us:=[aS]) (cs:=bN) (σ':=[cP,bN,bN]) r kD r r r r r r r r<|aF (fr':=[(0,.box 0 0),(2,.box 1 0),(3,.box 2 0)]) r r<|aP<|aP<|aQ ?_
 obtain ⟨x3,hx3,h4⟩:=aE h2
 refine xT (v:=.ptrs [(2,1),(2,2),(2,3),(2,4),(2,5),(2,6),(2,7),(2,8)]) (σ':=[cP,bN,bN]) 11 [2] [] r (aA5 hx3) r r r ⟨lr,trivial⟩ (wG ⟨lr,lr,lr,lr,lr,lr,lr,lr,lr,lr,trivial⟩ aA) r r r<|aM r (aHS aPn r)<|mI r<|aF (fr':=[(0,.box 0 0),(2,.box 1 0),(3,.box 2 0),(11,.ptrs [(2,1),(2,2),(2,3),(2,4),(2,5),(2,6),(2,7),(2,8)]),(12,aI),(13,aI)]) r r<|bJ<|aLu 64<|pT<|aH<|aM r (rC (dJ r r) (show _=.bool true from r))<|aF (fr':=[(0,.box 0 0),(2,.box 1 0),(3,.box 2 0),(11,.ptrs [(2,1),(2,2),(2,3),(2,4),(2,5),(2,6),(2,7),(2,8)]),(12,aI),(13,aI),(14,aB)]) r r<|aP<|fL r ?_
 refine aW<|bV<|aP<|bJ<|aH<|aM r (iR (p:=(2,1)) mQ r r r)<|aM r (fN nS r)<|sV (v:=.box 2 1) r<|aF (fr':=[(0,.box 0 0),(2,.box 1 0),(3,.box 2 0),(5,.box 2 1),(11,.ptrs [(2,1),(2,2),(2,3),(2,4),(2,5),(2,6),(2,7),(2,8)]),(12,aI),(13,aI)]) r r<|aQ<|mV (v:=.box 2 1) r<|mV (v:=.box 0 0) r ?_
 obtain ⟨x6,hx6,h7⟩:=aE h4
 refine eD (v:=aI) (σ':=[cP,bN,bN]) [0] r (gU hx6) r r ⟨lr,trivial⟩ (fO ⟨r,r,r,r,trivial⟩ aA) r r r<|aM r (fX r)<|bU (v:=aI) (us:=[aI]) (cs:=bN) (σ':=[cP,bN,bN]) r eP r r r r r r r r<|cB (fr':=[(0,.box 0 0),(2,.box 1 0),(3,.box 2 0),(5,.box 2 1),(11,.ptrs [(2,1),(2,2),(2,3),(2,4),(2,5),(2,6),(2,7),(2,8)]),(12,aI),(13,aI)]) r<|bX<|bV<|aQ<|aM r (rC (dB r r) (show _=.int .i64 (1:Int) from r))<|mI r<|cB (fr':=[(0,.box 0 0),(2,.box 1 0),(3,.box 2 0),(5,.box 2 1),(11,.ptrs [(2,1),(2,2),(2,3),(2,4),(2,5),(2,6),(2,7),(2,8)]),(12,aI),(13,aI)]) r<|gP<|pT<|aP ?_
 refine aQ<|aM r (rC (dJ r r) (show _=.bool true from r))<|aF (fr':=[(0,.box 0 0),(2,.box 1 0),(3,.box 2 0),(11,.ptrs [(2,1),(2,2),(2,3),(2,4),(2,5),(2,6),(2,7),(2,8)]),(12,aI),(13,aI),(14,aB)]) r r<|aP<|fL r<|aW<|bV<|aP<|bJ<|aH<|aM r (iR (p:=(2,2)) mQ r r r)<|aM r (fN nS r) ?_
 refine sV (v:=.box 2 2) r<|aF (fr':=[(0,.box 0 0),(2,.box 1 0),(3,.box 2 0),(5,.box 2 2),(11,.ptrs [(2,1),(2,2),(2,3),(2,4),(2,5),(2,6),(2,7),(2,8)]),(12,aI),(13,aI)]) r r<|aQ<|mV (v:=.box 2 2) r<|mV (v:=.box 0 0) r ?_
 obtain ⟨x8,hx8,h9⟩:=aE h7
 refine eD (v:=aI) (σ':=[cP,bN,bN]) [0] r (gU hx8) r r ⟨lr,trivial⟩ (fO ⟨r,r,r,r,trivial⟩ aA) r r r<|aM r (fX r)<|bU (v:=aI) (us:=[aI]) (cs:=bN) (σ':=[cP,bN,bN]) r eP r r r r r r r r<|cB (fr':=[(0,.box 0 0),(2,.box 1 0),(3,.box 2 0),(5,.box 2 2),(11,.ptrs [(2,1),(2,2),(2,3),(2,4),(2,5),(2,6),(2,7),(2,8)]),(12,aI),(13,aI)]) r<|bX<|bV<|aQ<|aM r (rC (dB r r) (show _=.int .i64 (2:Int) from r))<|mI r<|cB (fr':=[(0,.box 0 0),(2,.box 1 0),(3,.box 2 0),(5,.box 2 2),(11,.ptrs [(2,1),(2,2),(2,3),(2,4),(2,5),(2,6),(2,7),(2,8)]),(12,aI),(13,aI)]) r<|gP<|pT<|aP ?_
 refine aQ<|aM r (rC (dJ r r) (show _=.bool true from r))<|aF (fr':=[(0,.box 0 0),(2,.box 1 0),(3,.box 2 0),(11,.ptrs [(2,1),(2,2),(2,3),(2,4),(2,5),(2,6),(2,7),(2,8)]),(12,aI),(13,aI),(14,aB)]) r r<|aP<|fL r<|aW<|bV<|aP<|bJ<|aH<|aM r (iR (p:=(2,3)) mQ r r r)<|aM r (fN nS r) ?_
 refine sV (v:=.box 2 3) r<|aF (fr':=[(0,.box 0 0),(2,.box 1 0),(3,.box 2 0),(5,.box 2 3),(11,.ptrs [(2,1),(2,2),(2,3),(2,4),(2,5),(2,6),(2,7),(2,8)]),(12,aI),(13,aI)]) r r<|aQ<|mV (v:=.box 2 3) r<|mV (v:=.box 0 0) r ?_
 obtain ⟨x10,hx10,h11⟩:=aE h9
 refine eD (v:=aI) (σ':=[cP,bN,bN]) [0] r (gU hx10) r r ⟨lr,trivial⟩ (fO ⟨r,r,r,r,trivial⟩ aA) r r r<|aM r (fX r)<|bU (v:=aI) (us:=[aI]) (cs:=bN) (σ':=[cP,bN,bN]) r eP r r r r r r r r<|cB (fr':=[(0,.box 0 0),(2,.box 1 0),(3,.box 2 0),(5,.box 2 3),(11,.ptrs [(2,1),(2,2),(2,3),(2,4),(2,5),(2,6),(2,7),(2,8)]),(12,aI),(13,aI)]) r<|bX<|bV<|aQ<|aM r (rC (dB r r) (show _=.int .i64 (3:Int) from r))<|mI r<|cB (fr':=[(0,.box 0 0),(2,.box 1 0),(3,.box 2 0),(5,.box 2 3),(11,.ptrs [(2,1),(2,2),(2,3),(2,4),(2,5),(2,6),(2,7),(2,8)]),(12,aI),(13,aI)]) r<|gP<|pT<|aP ?_
 refine aQ<|aM r (rC (dJ r r) (show _=.bool true from r))<|aF (fr':=[(0,.box 0 0),(2,.box 1 0),(3,.box 2 0),(11,.ptrs [(2,1),(2,2),(2,3),(2,4),(2,5),(2,6),(2,7),(2,8)]),(12,aI),(13,aI),(14,aB)]) r r<|aP<|fL r<|aW<|bV<|aP<|bJ<|aH<|aM r (iR (p:=(2,4)) mQ r r r)<|aM r (fN nS r) ?_
 refine sV (v:=.box 2 4) r<|aF (fr':=[(0,.box 0 0),(2,.box 1 0),(3,.box 2 0),(5,.box 2 4),(11,.ptrs [(2,1),(2,2),(2,3),(2,4),(2,5),(2,6),(2,7),(2,8)]),(12,aI),(13,aI)]) r r<|aQ<|mV (v:=.box 2 4) r<|mV (v:=.box 0 0) r ?_
 obtain ⟨x12,hx12,h13⟩:=aE h11
 refine eD (v:=aI) (σ':=[cP,bN,bN]) [0] r (gU hx12) r r ⟨lr,trivial⟩ (fO ⟨r,r,r,r,trivial⟩ aA) r r r<|aM r (fX r)<|bU (v:=aI) (us:=[aI]) (cs:=bN) (σ':=[cP,bN,bN]) r eP r r r r r r r r<|cB (fr':=[(0,.box 0 0),(2,.box 1 0),(3,.box 2 0),(5,.box 2 4),(11,.ptrs [(2,1),(2,2),(2,3),(2,4),(2,5),(2,6),(2,7),(2,8)]),(12,aI),(13,aI)]) r<|bX<|bV<|aQ<|aM r (rC (dB r r) (show _=.int .i64 (4:Int) from r))<|mI r<|cB (fr':=[(0,.box 0 0),(2,.box 1 0),(3,.box 2 0),(5,.box 2 4),(11,.ptrs [(2,1),(2,2),(2,3),(2,4),(2,5),(2,6),(2,7),(2,8)]),(12,aI),(13,aI)]) r<|gP<|pT<|aP ?_
 refine aQ<|aM r (rC (dJ r r) (show _=.bool true from r))<|aF (fr':=[(0,.box 0 0),(2,.box 1 0),(3,.box 2 0),(11,.ptrs [(2,1),(2,2),(2,3),(2,4),(2,5),(2,6),(2,7),(2,8)]),(12,aI),(13,aI),(14,aB)]) r r<|aP<|fL r<|aW<|bV<|aP<|bJ<|aH<|aM r (iR (p:=(2,5)) mQ r r r)<|aM r (fN nS r) ?_
 refine sV (v:=.box 2 5) r<|aF (fr':=[(0,.box 0 0),(2,.box 1 0),(3,.box 2 0),(5,.box 2 5),(11,.ptrs [(2,1),(2,2),(2,3),(2,4),(2,5),(2,6),(2,7),(2,8)]),(12,aI),(13,aI)]) r r<|aQ<|mV (v:=.box 2 5) r<|mV (v:=.box 0 0) r ?_
 obtain ⟨x14,hx14,h15⟩:=aE h13
 refine eD (v:=aI) (σ':=[cP,bN,bN]) [0] r (gU hx14) r r ⟨lr,trivial⟩ (fO ⟨r,r,r,r,trivial⟩ aA) r r r<|aM r (fX r)<|bU (v:=aI) (us:=[aI]) (cs:=bN) (σ':=[cP,bN,bN]) r eP r r r r r r r r<|cB (fr':=[(0,.box 0 0),(2,.box 1 0),(3,.box 2 0),(5,.box 2 5),(11,.ptrs [(2,1),(2,2),(2,3),(2,4),(2,5),(2,6),(2,7),(2,8)]),(12,aI),(13,aI)]) r<|bX<|bV<|aQ<|aM r (rC (dB r r) (show _=.int .i64 (5:Int) from r))<|mI r<|cB (fr':=[(0,.box 0 0),(2,.box 1 0),(3,.box 2 0),(5,.box 2 5),(11,.ptrs [(2,1),(2,2),(2,3),(2,4),(2,5),(2,6),(2,7),(2,8)]),(12,aI),(13,aI)]) r<|gP<|pT<|aP ?_
 refine aQ<|aM r (rC (dJ r r) (show _=.bool true from r))<|aF (fr':=[(0,.box 0 0),(2,.box 1 0),(3,.box 2 0),(11,.ptrs [(2,1),(2,2),(2,3),(2,4),(2,5),(2,6),(2,7),(2,8)]),(12,aI),(13,aI),(14,aB)]) r r<|aP<|fL r<|aW<|bV<|aP<|bJ<|aH<|aM r (iR (p:=(2,6)) mQ r r r)<|aM r (fN nS r) ?_
 refine sV (v:=.box 2 6) r<|aF (fr':=[(0,.box 0 0),(2,.box 1 0),(3,.box 2 0),(5,.box 2 6),(11,.ptrs [(2,1),(2,2),(2,3),(2,4),(2,5),(2,6),(2,7),(2,8)]),(12,aI),(13,aI)]) r r<|aQ<|mV (v:=.box 2 6) r<|mV (v:=.box 0 0) r ?_
 obtain ⟨x16,hx16,h17⟩:=aE h15
 refine eD (v:=aI) (σ':=[cP,bN,bN]) [0] r (gU hx16) r r ⟨lr,trivial⟩ (fO ⟨r,r,r,r,trivial⟩ aA) r r r<|aM r (fX r)<|bU (v:=aI) (us:=[aI]) (cs:=bN) (σ':=[cP,bN,bN]) r eP r r r r r r r r<|cB (fr':=[(0,.box 0 0),(2,.box 1 0),(3,.box 2 0),(5,.box 2 6),(11,.ptrs [(2,1),(2,2),(2,3),(2,4),(2,5),(2,6),(2,7),(2,8)]),(12,aI),(13,aI)]) r<|bX<|bV<|aQ<|aM r (rC (dB r r) (show _=.int .i64 (6:Int) from r))<|mI r<|cB (fr':=[(0,.box 0 0),(2,.box 1 0),(3,.box 2 0),(5,.box 2 6),(11,.ptrs [(2,1),(2,2),(2,3),(2,4),(2,5),(2,6),(2,7),(2,8)]),(12,aI),(13,aI)]) r<|gP<|pT<|aP ?_
 refine aQ<|aM r (rC (dJ r r) (show _=.bool true from r))<|aF (fr':=[(0,.box 0 0),(2,.box 1 0),(3,.box 2 0),(11,.ptrs [(2,1),(2,2),(2,3),(2,4),(2,5),(2,6),(2,7),(2,8)]),(12,aI),(13,aI),(14,aB)]) r r<|aP<|fL r<|aW<|bV<|aP<|bJ<|aH<|aM r (iR (p:=(2,7)) mQ r r r)<|aM r (fN nS r) ?_
 refine sV (v:=.box 2 7) r<|aF (fr':=[(0,.box 0 0),(2,.box 1 0),(3,.box 2 0),(5,.box 2 7),(11,.ptrs [(2,1),(2,2),(2,3),(2,4),(2,5),(2,6),(2,7),(2,8)]),(12,aI),(13,aI)]) r r<|aQ<|mV (v:=.box 2 7) r<|mV (v:=.box 0 0) r ?_
 obtain ⟨x18,hx18,h19⟩:=aE h17
 refine eD (v:=aI) (σ':=[cP,bN,bN]) [0] r (gU hx18) r r ⟨lr,trivial⟩ (fO ⟨r,r,r,r,trivial⟩ aA) r r r<|aM r (fX r)<|bU (v:=aI) (us:=[aI]) (cs:=bN) (σ':=[cP,bN,bN]) r eP r r r r r r r r<|cB (fr':=[(0,.box 0 0),(2,.box 1 0),(3,.box 2 0),(5,.box 2 7),(11,.ptrs [(2,1),(2,2),(2,3),(2,4),(2,5),(2,6),(2,7),(2,8)]),(12,aI),(13,aI)]) r<|bX<|bV<|aQ<|aM r (rC (dB r r) (show _=.int .i64 (7:Int) from r))<|mI r<|cB (fr':=[(0,.box 0 0),(2,.box 1 0),(3,.box 2 0),(5,.box 2 7),(11,.ptrs [(2,1),(2,2),(2,3),(2,4),(2,5),(2,6),(2,7),(2,8)]),(12,aI),(13,aI)]) r<|gP<|pT<|aP ?_
 refine aQ<|aM r (rC (dJ r r) (show _=.bool true from r))<|aF (fr':=[(0,.box 0 0),(2,.box 1 0),(3,.box 2 0),(11,.ptrs [(2,1),(2,2),(2,3),(2,4),(2,5),(2,6),(2,7),(2,8)]),(12,aI),(13,aI),(14,aB)]) r r<|aP<|fL r<|aW<|bV<|aP<|bJ<|aH<|aM r (iR (p:=(2,8)) mQ r r r)<|aM r (fN nS r) ?_
 refine sV (v:=.box 2 8) r<|aF (fr':=[(0,.box 0 0),(2,.box 1 0),(3,.box 2 0),(5,.box 2 8),(11,.ptrs [(2,1),(2,2),(2,3),(2,4),(2,5),(2,6),(2,7),(2,8)]),(12,aI),(13,aI)]) r r<|aQ<|mV (v:=.box 2 8) r<|mV (v:=.box 0 0) r ?_
 obtain ⟨x20,hx20,h21⟩:=aE h19
 refine eD (v:=aI) (σ':=[cP,bN,bN]) [0] r (gU hx20) r r ⟨lr,trivial⟩ (fO ⟨r,r,r,r,trivial⟩ aA) r r r<|aM r (fX r)<|bU (v:=aI) (us:=[aI]) (cs:=bN) (σ':=[cP,bN,bN]) r eP r r r r r r r r<|cB (fr':=[(0,.box 0 0),(2,.box 1 0),(3,.box 2 0),(5,.box 2 8),(11,.ptrs [(2,1),(2,2),(2,3),(2,4),(2,5),(2,6),(2,7),(2,8)]),(12,aI),(13,aI)]) r<|bX<|bV<|aQ<|aM r (rC (dB r r) (show _=.int .i64 (8:Int) from r))<|mI r<|cB (fr':=[(0,.box 0 0),(2,.box 1 0),(3,.box 2 0),(5,.box 2 8),(11,.ptrs [(2,1),(2,2),(2,3),(2,4),(2,5),(2,6),(2,7),(2,8)]),(12,aI),(13,aI)]) r<|gP<|pT<|aP ?_
 refine aQ<|aM r (rC (dJ r r) (show _=.bool false from r))<|aF (fr':=[(0,.box 0 0),(2,.box 1 0),(3,.box 2 0),(11,.ptrs [(2,1),(2,2),(2,3),(2,4),(2,5),(2,6),(2,7),(2,8)]),(12,aI),(13,aI),(14,aB)]) r r<|aP<|yX r<|eK<|bR<|bR<|dC<|bV<|aH<|mV (v:=.box 0 0) r ?_
 obtain ⟨x22,hx22,h23⟩:=aE h21
 refine eD (v:=aI) (σ':=[cP,bN,bN]) [0] r (gU hx22) r r ⟨lr,trivial⟩ (fO ⟨r,r,r,r,trivial⟩ aA) r r r<|sI r<|aF (fr':=[(0,.box 0 0),(2,.box 1 0),(3,.box 2 0),(6,aI)]) r r ?_
 obtain ⟨x24,hx24,h25⟩:=aE h23
 refine fY (fun j26=>x24=j26) (fun (j26:aT)=>([(0,.box 0 0),(2,.box 1 0),(3,.box 2 0),(6,ci x22.1)]:Fr)) (fun (j26:aT)=>([[.c (PV.ls 1 dF j26.b_),ci j26.at_,ci j26.err_,.c (.bool j26.made_)],[.c (.str ([]:List UInt8)),ci 0,ci 0,ci 0,ci 0,ci 0,ci 0,ci 0,ci 0,AV.nil],[.c (.str x1.1),ci x6.1,ci x8.1,ci x10.1,ci x12.1,ci x14.1,ci x16.1,ci x18.1,ci x20.1,AV.nil]]:St)) ?_ ?_
 ·
  refine aH<|mV (v:=.box 0 0) r ?_
  obtain ⟨x27,hx27,h28⟩:=aE hx24
  refine eD (v:=aI) (σ':=[cP,bN,bN]) [0] r (fC hx27) r r ⟨lr,trivial⟩ (fO ⟨r,r,r,r,trivial⟩ aA) r r r<|aM r (bM r r)<|mB r<|og r r r (fun hc=>(bE (v:=aI) r)) ?_
  obtain ⟨x29,hx29,h30⟩:=aE h28
  refine sM r r (fun hc=>aX (v:=aB) r (iT (cA hx29 hc)) ⟨(eH (gx r hc) lr),lr,lr,trivial⟩ (fA (by repeat (first | exact dX | refine aY r ?_ | refine aY (oS r) ?_ | refine aY oR ?_))) r r) ?_
  refine og r r r (fun hc=>(eI (gx r hc)))<|aM r (bO r r r (fun e=>eO e))<|aF (fr':=[(0,.box 0 0),(2,.box 1 0),(3,.box 2 0),(6,aI),(31,aB)]) r r<|bP h30 r (fun hb31 h31=>?_) (fun hb31 h31=>?_)
  ·
   refine aQ<|mV (v:=.box 0 0) r ?_
   obtain ⟨x32,hx32,h33⟩:=aE h31
   exact eD (v:=_) (σ':=[cP,bN,bN]) [0] r (nZ hx32) r r ⟨lr,lr,trivial⟩ (fO ⟨r,r,r,r,trivial⟩ aA) r r r<|cB (fr':=[(0,.box 0 0),(2,.box 1 0),(3,.box 2 0),(6,aI),(31,aB)]) r<|gD _ (sy h33) (aU [] 3 r r r r ⟨lr,lr,lr,lr,trivial⟩ (bW r (bW r (bW r aA))))
  ·
   exact aW<|gD _ (sy h31) (aU [] 3 r r r r ⟨lr,lr,lr,lr,trivial⟩ (bW r (bW r (bW r aA))))
 ·
  intro j26 hj34
  subst hj34
  refine aP<|aH<|sI r<|aF (fr':=[(0,.box 0 0),(2,.box 1 0),(3,.box 2 0),(6,aI),(7,aI)]) r r ?_
  obtain ⟨x35,hx35,h36⟩:=aE h25
  refine eB gF (fun j37=>x35=j37) (fun (j37:(aT × (List (List UInt8))))=>([(0,.box 0 0),(2,.box 1 0),(3,.box 2 0)]:Fr)) (fun (j37:(aT × (List (List UInt8))))=>([[.c (PV.ls 1 dF j37.1.b_),ci j37.1.at_,ci j37.1.err_,.c (.bool j37.1.made_)],[.c (.str ([]:List UInt8)),ci 0,ci 0,ci 0,ci 0,ci 0,ci 0,ci 0,ci 0,AV.nil],[.c (.str x1.1),ci x6.1,ci x8.1,ci x10.1,ci x12.1,ci x14.1,ci x16.1,ci x18.1,ci x20.1,AV.os 0 1 eA j37.2]]:St)) ?_ ?_
  ·
   refine bJ<|dV _ (fun (s38:(Int × aT × (List (List UInt8))))=>([(0,.box 0 0),(2,.box 1 0),(3,.box 2 0),(6,ci x22.1),(7,ci s38.1)]:Fr)) (fun (s38:(Int × aT × (List (List UInt8))))=>([[.c (PV.ls 1 dF s38.2.1.b_),ci s38.2.1.at_,ci s38.2.1.err_,.c (.bool s38.2.1.made_)],[.c (.str ([]:List UInt8)),ci 0,ci 0,ci 0,ci 0,ci 0,ci 0,ci 0,ci 0,AV.nil],[.c (.str x1.1),ci x6.1,ci x8.1,ci x10.1,ci x12.1,ci x14.1,ci x16.1,ci x18.1,ci x20.1,AV.os 0 1 eA s38.2.2]]:St)) hx35 (aU [1000000] 3 r r r r ⟨lr,lr,lr,lr,lr,trivial⟩ (bW r (bW r (wG ⟨lr,lr,lr,lr,lr,lr,lr,lr,lr,(vR r),trivial⟩ aA)))) ?_
   intro s38 st38 hs38 ho38
   unfold kE at hs38
   obtain ⟨x39,hx39,h40⟩:=aE hs38
   refine fY (fun j41=>x39=Fl.go j41) (fun (j41:Unit)=>([(0,.box 0 0),(2,.box 1 0),(3,.box 2 0),(6,ci x22.1),(7,ci s38.1)]:Fr)) (fun (j41:Unit)=>([[.c (PV.ls 1 dF s38.2.1.b_),ci s38.2.1.at_,ci s38.2.1.err_,.c (.bool s38.2.1.made_)],[.c (.str ([]:List UInt8)),ci 0,ci 0,ci 0,ci 0,ci 0,ci 0,ci 0,ci 0,AV.nil],[.c (.str x1.1),ci x6.1,ci x8.1,ci x10.1,ci x12.1,ci x14.1,ci x16.1,ci x18.1,ci x20.1,AV.os 0 1 eA s38.2.2]]:St)) ?_ ?_
   ·
    refine aH<|mI r<|mI r<|aM r (dJ r r)<|mB r<|aKt hx39 (fun hb42 h42=>?_) (fun hb42 h42=>?_)
    ·
     refine kG r r hb42<|mV (v:=.box 0 0) r<|kG r r hb42 ?_
     obtain ⟨x43,hx43,h44⟩:=aE h42
     refine eD (v:=aI) (σ':=[cP,bN,[aS,aI,aI,aI,aI,aI,aI,aI,aI,aO]]) [0] r (fC hx43) r r ⟨lr,trivial⟩ (fO ⟨r,r,r,r,trivial⟩ aA) r r r<|kG r r hb42<|aM r (bM r r)<|aM r (vI r hb42 r)<|aF (fr':=[(0,.box 0 0),(2,.box 1 0),(3,.box 2 0),(6,aI),(7,aI),(41,aB)]) r r<|bP h44 r (fun hb45 h45=>?_) (fun hb45 h45=>?_)
     ·
      exact aW<|gD _ (sy h45) (aU [0] 3 r r r r ⟨lr,lr,lr,lr,lr,trivial⟩ (bW r (bW r (bW r aA))))
     ·
      refine eK<|bR<|bR<|dC ?_
      have h46:=dQ h45 h40
      have h47:=cS h46 ho38
      exact gD _ (sy h47) (aU [0] 3 r r r r ⟨lr,lr,lr,trivial⟩ (bW r (bW r (bW r aA))))
    ·
     refine rZ r r hb42<|rZ r r hb42<|rZ r r hb42<|aM r (nE r hb42 r)<|aF (fr':=[(0,.box 0 0),(2,.box 1 0),(3,.box 2 0),(6,aI),(7,aI),(41,aB)]) r r<|yX r<|eK<|bR<|bR<|dC ?_
     have h48:=dQ h42 h40
     have h49:=cS h48 ho38
     exact gD _ (sy h49) (aU [0] 3 r r r r ⟨lr,lr,lr,trivial⟩ (bW r (bW r (bW r aA))))
   ·
    intro j41 hj50
    have h50:=iC hj50 h40
    refine aP<|bJ<|hF [.q 0,.q 1,.q 2,.n 3 [0,1],.n 4 [0,1],.n 5 [],.q 6,.n 7 []] [(some 44,[3]),(some 45,[44]),(some 46,[0]),(some 47,[46]),(some 48,[47]),(some 49,[45,48]),(some 50,[3]),(none,[50,49])] [0,1,0,4,12,31,63,127] (by kernel_rfl)<|dq r r (bD lI r)<|dq r r (aK (v:=aO) kM r r r)<|dq r r (bE (v:=.box 0 0) r)<|d_n r ?_ r
    obtain ⟨x51,hx51,h52⟩:=aE h50
    refine eD (v:=aS) (σ':=[cP,bN,[aS,aI,aI,aI,aI,aI,aI,aI,aI,aO]]) [0] r (jN hx51) r r ⟨lr,lr,trivial⟩ (fO ⟨r,r,r,r,trivial⟩ aA) r r r<|aCI<|⟨(aOU (v:=.box 2 9) r r (rK r (bD lI r)) (aOU (v:=aO) r r (rK r (aK (v:=aO) kM r r r)) tD)),?_⟩
    refine d_n r ?_ r
    refine kT (row:=eA) (xs:=([x51.1]:List (List UInt8))) (rows:=[[_]]) (σ':=[cP,bN,[aS,aI,aI,aI,aI,aI,aI,aI,aI,aO]]) [0] vV r r r (cM r gY) r r<|aCI<|⟨(aOU (v:=.box 2 9) r r (rK r (bD lI r)) (aOU (v:=aO) r r (rK r (aK (v:=aO) kM r r r)) tD)),?_⟩
    refine d_n r ?_ r
    obtain ⟨x53,hx53,h54⟩:=aE h52
    refine wX (row:=eA) vV r pI r (lG r) (fun _=>r) hx53<|aCI<|⟨tD,?_⟩
    refine dq r r (bD lI r)<|d_n r ?_ r
    refine bU (v:=aO) (us:=[aO]) (cs:=bZ) (σ':=[cP,bN,[aS,aI,aI,aI,aI,aI,aI,aI,aI,aO]]) r kM r r r r r r r r<|aCI<|⟨tD,?_⟩
    exact aQL (fr':=[(0,.box 0 0),(2,.box 1 0),(3,.box 2 0),(6,aI),(7,aI)]) r<|bX<|bV<|aQ<|mI r<|aM r (dB r r)<|sI r<|cB (fr':=[(0,.box 0 0),(2,.box 1 0),(3,.box 2 0),(6,aI),(7,aI)]) r<|rX _ (sy h54) (aU [784] 3 r r r r ⟨lr,lr,lr,lr,lr,trivial⟩ (bW r (bW r (bW r aA))))
  ·
   intro j37 hj55
   subst hj55
   refine bV ?_
   obtain ⟨x56,hx56,h57⟩:=aE h36
   refine fY (fun j58=>x56=j58) (fun (j58:aT)=>([(0,.box 0 0),(2,.box 1 0),(3,.box 2 0)]:Fr)) (fun (j58:aT)=>([[.c (PV.ls 1 dF j58.b_),ci j58.at_,ci j58.err_,.c (.bool j58.made_)],[.c (.str ([]:List UInt8)),ci 0,ci 0,ci 0,ci 0,ci 0,ci 0,ci 0,ci 0,AV.nil],[.c (.str x1.1),ci x6.1,ci x8.1,ci x10.1,ci x12.1,ci x14.1,ci x16.1,ci x18.1,ci x20.1,AV.os 0 1 eA x35.2]]:St)) ?_ ?_
   ·
    refine aH<|mV (v:=.box 0 0) r ?_
    obtain ⟨x59,hx59,h60⟩:=aE hx56
    refine eD (v:=aI) (σ':=[cP,bN,[aS,aI,aI,aI,aI,aI,aI,aI,aI,aO]]) [0] r (fC hx59) r r ⟨lr,trivial⟩ (fO ⟨r,r,r,r,trivial⟩ aA) r r r<|aM r (bM r r)<|mB r<|og r r r (fun hc=>(cN (us:=[aS,aI,aI,aI,aI,aI,aI,aI,aI,aO]) wH r r r r)) ?_
    obtain ⟨x61,hx61,h62⟩:=aE h60
    refine sM r r (fun hc=>aX (v:=aB) r (oY (cA hx61 hc)) ⟨(eH (gx r hc) (bK r ⟨r,r,r,r,r,r,r,r,r,r,trivial⟩)),trivial⟩ (fA (by repeat (first | exact dX | refine aY r ?_ | refine aY (oS r) ?_ | refine aY oR ?_))) r r) ?_
    refine og r r r (fun hc=>(eI (gx r hc)))<|aM r (bO r r r (fun e=>eO e))<|aF (fr':=[(0,.box 0 0),(2,.box 1 0),(3,.box 2 0),(58,aB)]) r r<|bP h62 r (fun hb63 h63=>?_) (fun hb63 h63=>?_)
    ·
     refine aQ<|mV (v:=.box 0 0) r ?_
     obtain ⟨x64,hx64,h65⟩:=aE h63
     exact eD (v:=_) (σ':=[cP,bN,[aS,aI,aI,aI,aI,aI,aI,aI,aI,aO]]) [0] r (nZ hx64) r r ⟨lr,lr,trivial⟩ (fO ⟨r,r,r,r,trivial⟩ aA) r r r<|cB (fr':=[(0,.box 0 0),(2,.box 1 0),(3,.box 2 0),(58,aB)]) r<|gD _ (sy h65) (aU [0] 3 r r r r ⟨lr,lr,lr,trivial⟩ (bW r (bW r (bW r aA))))
    ·
     exact aW<|gD _ (sy h63) (aU [0] 3 r r r r ⟨lr,lr,lr,trivial⟩ (bW r (bW r (bW r aA))))
   ·
    intro j58 hj66
    subst hj66
    refine aP<|aH<|mV (v:=.box 0 0) r ?_
    obtain ⟨x67,hx67,h68⟩:=aE h57
    refine eD (v:=aI) (σ':=[cP,bN,[aS,aI,aI,aI,aI,aI,aI,aI,aI,aO]]) [0] r (fC hx67) r r ⟨lr,trivial⟩ (fO ⟨r,r,r,r,trivial⟩ aA) r r r<|aM r (fI r r)<|aF (fr':=[(2,.box 1 0),(3,.box 2 0),(63,aB)]) r r<|bP h68 r (fun hb69 h69=>?_) (fun hb69 h69=>?_)
    ·
     refine aH<|aM r (pU (c0:=bN) (cs:=bN) aNG r pR)<|bU (v:=.agg bN) (us:=bN) (cs:=bN) (σ':=[cP,bN,[aS,aI,aI,aI,aI,aI,aI,aI,aI,aO]]) r wH r r r r r r r r<|aF (fr':=[(2,.box 1 0)]) r r<|bC<|aJ ?_
     obtain rfl:=sy h69
     exact bB (rs':=[.cell 2 28]) r<|cZ (us:=bN) (cs:=bN) wH r r r r<|aZ<|aN [] r r r (bK r ⟨r,r,r,r,r,r,r,r,r,⟨_,r⟩,trivial⟩) (fO ⟨r,r,r,r,trivial⟩ aA)
    ·
     refine aW<|bV<|aH<|aM r (cN (us:=[aS,aI,aI,aI,aI,aI,aI,aI,aI,aO]) wH r r r r)<|bU (v:=.agg [aS,aI,aI,aI,aI,aI,aI,aI,aI,aO]) (us:=[aS,aI,aI,aI,aI,aI,aI,aI,aI,aO]) (cs:=bN) (σ':=[cP,[aS,aI,aI,aI,aI,aI,aI,aI,aI,aO],[aS,aI,aI,aI,aI,aI,aI,aI,aI,aO]]) r wH r r r r r r r r<|aF (fr':=[(2,.box 1 0)]) r r<|bC ?_
     obtain rfl:=sy h69
     exact bB (rs':=[.cell 2 28]) r<|cZ (us:=[aS,aI,aI,aI,aI,aI,aI,aI,aI,aO]) (cs:=[aS,aI,aI,aI,aI,aI,aI,aI,aI,aO]) wH r r r r<|aZ<|aN [] r r r (bK r ⟨r,r,r,r,r,r,r,r,r,r,trivial⟩) (fO ⟨r,r,r,r,trivial⟩ aA)
end Go.Proofs.YtnigjppddilpcaaGreatDoor
