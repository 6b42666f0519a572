import Derived.Test.YtnigjppddilpcaaGreatDoorGETy
import Derived.Test.YtnigjppddilpcaaGreatDoorGEF0
import Derived.Test.YtnigjppddilpcaaGreatDoorGEF1
import Derived.Test.YtnigjppddilpcaaGreatDoorGEF4
namespace Go.Proofs.YtnigjppddilpcaaGreatDoor
open Go Abs
set_option maxRecDepth 100000
set_option linter.unusedVariables false
set_option linter.unusedSimpArgs false
noncomputable def cQ (kN:Int→Int→aD→Option (aC × Int × aD)) (x1:(Int × aD)) (oU:Int) (kL:Int) (s10:(Int × Int × aD × (List aC) × (List (List UInt8)))):Option (bS (Int × Int × aD × (List aC) × (List (List UInt8))) (Fl (aC × Int × aD) (Int × aD × (List aC) × (List (List UInt8))))) :=
 cond (decide (s10.1<x1.1)) (((cond (decide (oU=(5:Int))) ((eC (9223372036854775807:Int) s10.2.2.1).bind fun x16=>(gd (((decide (((x16.1).length:Int)≤(4096:Int)))==true)&&((decide (s10.1=(0:Int)))==false)) (jV s10.2.2.2.2 (IntKind.wrap .i64 (s10.1 - (1:Int))))).bind fun x18=>(fD (cond (decide (((x16.1).length:Int)≤(4096:Int))) (cond (decide (s10.1=(0:Int))) true (!(Op.bytesLess x16.1 x18||decide (x16.1=x18)))) false) s10.2.1 x16.2).bind fun x20=>cond (!x20.1) (some (Fl.done (bS.out (Fl.done ((aC.mk (0:Int) (0:Int) ([]:List UInt8) ([]:(List aC)) ([]:(List (List UInt8)))),s10.2.1,x20.2))))) ((app 16 s10.2.2.2.2 ([x16.1]:List (List UInt8))).bind fun x27=>some (Fl.go (x20.2,x27)))) (some (Fl.go (s10.2.2.1,s10.2.2.2.2)))):Option (Fl (bS (Int × Int × aD × (List aC) × (List (List UInt8))) (Fl (aC × Int × aD) (Int × aD × (List aC) × (List (List UInt8))))) (aD × (List (List UInt8))))).bind fun x12=>Fl.next x12 (fun j14=>((kN (IntKind.wrap .i64 (kL+(1:Int))) s10.2.1 j14.1).bind fun x30=>(dS x30.2.2).bind fun x32=>cond (!decide (x32=(0:Int))) (some (bS.out (Fl.done ((aC.mk (0:Int) (0:Int) ([]:List UInt8) ([]:(List aC)) ([]:(List (List UInt8)))),x30.2.1,x30.2.2)))) ((app 80 s10.2.2.2.1 ([x30.1]:List aC)).bind fun x38=>some (bS.next ((IntKind.wrap .i64 (s10.1+(1:Int))),x30.2.1,x30.2.2,x38,j14.2)))))) (some (bS.out (Fl.go (s10.2.1,s10.2.2.1,s10.2.2.2.1,s10.2.2.2.2))))
mutual
noncomputable def eE:Nat→Int→Int→(List UInt8)→Int→Int→aD→Option (aC × Int × aD)
 | 0,_,_,_,_,_,_=>none
 | n+1,oU,aAU,aAV,kL,cN,gY =>
  (cW (-9223372036854775808:Int) (9223372036854775807:Int) gY).bind fun x1=>(fD (cond (decide ((0:Int)≤x1.1)) (decide (x1.1≤(1000:Int))) false) cN x1.2).bind fun x3=>cond (!x3.1) (some ((aC.mk (0:Int) (0:Int) ([]:List UInt8) ([]:(List aC)) ([]:(List (List UInt8)))),cN,x3.2)) (((dL (cQ (bX n) x1 oU kL) (((0:Int),cN,x3.2,([]:(List aC)),([]:(List (List UInt8)))))):Option (Fl (aC × Int × aD) (Int × aD × (List aC) × (List (List UInt8))))).bind fun x7=>Fl.next x7 (fun j9=>(some ((aC.mk oU aAU aAV j9.2.2.1 j9.2.2.2),j9.1,j9.2.1))))
noncomputable def bX:Nat→Int→Int→aD→Option (aC × Int × aD)
 | 0,_,_,_=>none
 | n+1,iI,cN,gY =>
  (fD (cond (decide (cN<(1000:Int))) (decide (iI≤(16:Int))) false) cN gY).bind fun x1=>cond (!x1.1) (some ((aC.mk (0:Int) (0:Int) ([]:List UInt8) ([]:(List aC)) ([]:(List (List UInt8)))),cN,x1.2)) ((cW (-9223372036854775808:Int) (9223372036854775807:Int) x1.2).bind fun x5=>(fD (cond (decide ((0:Int)≤x5.1)) (decide (x5.1≤(5:Int))) false) (IntKind.wrap .i64 (cN+(1:Int))) x5.2).bind fun x7=>cond (!x7.1) (some ((aC.mk (0:Int) (0:Int) ([]:List UInt8) ([]:(List aC)) ([]:(List (List UInt8)))),(IntKind.wrap .i64 (cN+(1:Int))),x7.2)) (((cond (decide (x5.1=(1:Int))) ((cW (-9223372036854775808:Int) (9223372036854775807:Int) x7.2).bind fun x15=>(fD (cond (decide (x15.1=(0:Int))) true (decide (x15.1=(1:Int)))) (IntKind.wrap .i64 (cN+(1:Int))) x15.2).bind fun x17=>some (Fl.go (x17.2,x15.1,([]:List UInt8)))) (cond (decide (x5.1=(2:Int))) ((cW (-9223372036854775808:Int) (9223372036854775807:Int) x7.2).bind fun x20=>some (Fl.go (x20.2,x20.1,([]:List UInt8)))) (cond (decide (x5.1=(3:Int))) ((eC (9223372036854775807:Int) x7.2).bind fun x23=>(fD (decide (((x23.1).length:Int)≤(4096:Int))) (IntKind.wrap .i64 (cN+(1:Int))) x23.2).bind fun x25=>some (Fl.go (x25.2,(0:Int),x23.1))) (((cond (decide (x5.1=(4:Int))) (some (decide (x5.1=(4:Int)))) (some (decide (x5.1=(5:Int))))):Option Bool).bind fun x27=>(cond x27 (((eE n) x5.1 (0:Int) ([]:List UInt8) iI (IntKind.wrap .i64 (cN+(1:Int))) x7.2).bind fun x33=>some (Fl.done (x33.1,x33.2.1,x33.2.2))) (some (Fl.go (x7.2,(0:Int),([]:List UInt8))))))))):Option (Fl (aC × Int × aD) (aD × Int × (List UInt8)))).bind fun x11=>Fl.next x11 (fun j13=>(some ((aC.mk x5.1 j13.2.1 j13.2.2 ([]:(List aC)) ([]:(List (List UInt8)))),(IntKind.wrap .i64 (cN+(1:Int))),j13.1)))))
end
theorem aAl:∀ n:Nat,(∀ {oU:Int}{aAU:Int}{aAV:(List UInt8)}{kL:Int}{cN:Int}{gY:aD}{res:(aC × Int × aD)},eE n oU aAU aAV kL cN gY=some res→cC Tryz.prog 184 [.box 0 0,.agg [ci oU,ci aAU,.c (.str aAV),AV.nil,AV.nil],ci kL] [[.box 1 0,ci cN],AV.cs (cL gY)] (.agg (AV.cs (eF res.1))) [[.box 1 0,ci res.2.1],AV.cs (cL res.2.2)])∧(∀ {iI:Int}{cN:Int}{gY:aD}{res:(aC × Int × aD)},bX n iI cN gY=some res→cC Tryz.prog 145 [.box 0 0,ci iI] [[.box 1 0,ci cN],AV.cs (cL gY)] (.agg (AV.cs (eF res.1))) [[.box 1 0,ci res.2.1],AV.cs (cL res.2.2)]):=by
 intro n
 induction n with
 | zero=>exact ⟨fun {oU aAU aAV kL cN gY res} h=>absurd h (by simp [eE]),fun {iI cN gY res} h=>absurd h (by simp [bX])⟩
 | succ n ih =>
  obtain ⟨ih_value_decoder_items,ih_value_decoder_value⟩:=ih
  refine ⟨?_,?_⟩
  ·
   intro oU aAU aAV kL cN gY res h
   rw [eE] at h
   refine cY (fn:=Tryz.f184) [0,1,2,4,6,7,8,9,10,24,28,33,58,75] (by kernel_rfl) Tryz.func184 r (by kernel_rfl) (by kernel_rfl)<|aK<|iH (v:=.agg bK) (n:=2) (cs:=bK) (σ':=[[.box 1 0,aI],bW,bK]) r r r r r<|iG (n:=3) (cs:=bK) (σ':=[[.box 1 0,aI],bW,bK,bK]) aED r r r<|aH (fr':=[(0,.box 0 0),(2,aI),(4,.box 2 0),(6,.box 3 0)]) r r<|aK<|mV (v:=.box 0 0) r<|aT r (gB r)<|aT r (bD tO r)<|aT r (aJ (v:=.box 1 0) aGJ r r r) ?_
   obtain ⟨x1,hx1,h2⟩:=aG h
   refine dM (v:=aI) (σ':=[[.box 1 0,aI],bW,bK,bK]) [1] r (jE hx1) r r ⟨lr,lr,lr,trivial⟩ (eW ⟨r,r,r,r,trivial⟩ aF) r r r<|sI r<|aH (fr':=[(0,.box 0 0),(2,aI),(4,.box 2 0),(6,.box 3 0),(7,aI)]) r r<|aU<|aK<|mV (v:=.box 0 0) r<|mI r<|aT r (rP r r)<|mB r<|og r r r (fun hc=>(bA (v:=aI) r))<|og r r r (fun hc=>(wI (gx r hc) r))<|aT r (cE r r r (fun e=>fW e)) ?_
   obtain ⟨x3,hx3,h4⟩:=aG h2
   refine dM (v:=aB) (σ':=[[.box 1 0,aI],bW,bK,bK]) [0,1] r (jT hx3) r r ⟨lr,lr,trivial⟩ (wR ⟨lr,lr,trivial⟩ (eW ⟨r,r,r,r,trivial⟩ aF)) (gJ (by repeat (first | exact fF | refine aZ r ?_ | refine aZ (uH r) ?_ | refine aZ uG ?_))) r r ?_
   refine aT r (fH r)<|aH (fr':=[(0,.box 0 0),(2,aI),(4,.box 2 0),(6,.box 3 0),(7,aI),(24,aB)]) r r<|cV h4 r (fun hb5 h5=>?_) (fun hb5 h5=>?_)
   ·
    refine aK<|aT r (jA (cs:=bK) aGG r)<|bU (v:=.agg bK) (us:=bK) (cs:=bK) (σ':=[[.box 1 0,aI],bW,bK,bK]) r gV r r r r r r r r<|aH (fr':=[(6,.box 3 0)]) r r<|bI<|aN ?_
    obtain rfl:=sy h5
    exact bH (rs':=[.cell 6 26]) r<|fA (us:=bK) (cs:=bK) gV r r r r<|bG<|aQ [] r r r (bO r ⟨r,r,r,⟨_,r⟩,⟨_,r⟩,trivial⟩) (wR ⟨lr,lr,trivial⟩ (eW ⟨r,r,r,r,trivial⟩ aF))
   ·
    refine bJ<|cM<|aU<|aK<|sI r<|aH (fr':=[(0,.box 0 0),(2,aI),(4,.box 2 0),(6,.box 3 0),(7,aI),(8,aI)]) r r ?_
    obtain ⟨x7,hx7,h8⟩:=aG h5
    refine gZ mO (fun j9=>x7=Fl.go j9) (fun (j9:(Int × aD × (List aC) × (List (List UInt8))))=>([(4,.box 2 0),(6,.box 3 0)]:Fr)) (fun (j9:(Int × aD × (List aC) × (List (List UInt8))))=>([[.box 1 0,ci j9.1],[.c (PV.ls 1 gA j9.2.1.b_),ci j9.2.1.at_,ci j9.2.1.err_,.c (.bool j9.2.1.made_)],[ci oU,ci aAU,.c (.str aAV),AV.os 0 5 bM j9.2.2.1,AV.os 1 1 gL j9.2.2.2],[ci 0,ci 0,.c (.str ([]:List UInt8)),AV.nil,AV.nil]]:St)) ?_ ?_
    ·
     refine bZ<|gU _ (fun (s10:(Int × Int × aD × (List aC) × (List (List UInt8))))=>([(0,.box 0 0),(2,ci kL),(4,.box 2 0),(6,.box 3 0),(7,ci x1.1),(8,ci s10.1)]:Fr)) (fun (s10:(Int × Int × aD × (List aC) × (List (List UInt8))))=>([[.box 1 0,ci s10.2.1],[.c (PV.ls 1 gA s10.2.2.1.b_),ci s10.2.2.1.at_,ci s10.2.2.1.err_,.c (.bool s10.2.2.1.made_)],[ci oU,ci aAU,.c (.str aAV),AV.os 0 5 bM s10.2.2.2.1,AV.os 1 1 gL s10.2.2.2.2],[ci 0,ci 0,.c (.str ([]:List UInt8)),AV.nil,AV.nil]]:St)) hx7 (bT [1000000,1000001] 4 r r r r ⟨lr,lr,lr,lr,lr,lr,trivial⟩ (cZ r (cZ r (wR ⟨lr,lr,lr,(aB4 r),(aB4 r),trivial⟩ (cZ r aF))))) ?_
     intro s10 st10 hs10 ho10
     unfold cQ at hs10
     refine aU<|aK<|mI r<|mI r<|aT r (fM r r)<|aH (fr':=[(0,.box 0 0),(2,aI),(4,.box 2 0),(6,.box 3 0),(7,aI),(8,aI),(28,aB)]) r r<|cV hs10 r (fun hb11 h11=>?_) (fun hb11 h11=>?_)
     ·
      refine bJ<|cM<|aU<|bZ ?_
      obtain ⟨x12,hx12,h13⟩:=aG h11
      refine nB (fun j14=>x12=Fl.go j14) (fun (j14:(aD × (List (List UInt8))))=>([(0,.box 0 0),(2,ci kL),(4,.box 2 0),(6,.box 3 0),(7,ci x1.1),(8,ci s10.1)]:Fr)) (fun (j14:(aD × (List (List UInt8))))=>([[.box 1 0,ci s10.2.1],[.c (PV.ls 1 gA j14.1.b_),ci j14.1.at_,ci j14.1.err_,.c (.bool j14.1.made_)],[ci oU,ci aAU,.c (.str aAV),AV.os 0 5 bM s10.2.2.2.1,AV.os 1 1 gL j14.2],[ci 0,ci 0,.c (.str ([]:List UInt8)),AV.nil,AV.nil]]:St)) ?_ ?_
      ·
       refine aK<|aT r (bD oC r)<|aT r (aJ (v:=aI) fY r r r)<|aT r (dG r r)<|aH (fr':=[(0,.box 0 0),(2,aI),(4,.box 2 0),(6,.box 3 0),(7,aI),(8,aI),(33,aB)]) r r<|cV hx12 r (fun hb15 h15=>?_) (fun hb15 h15=>?_)
       ·
        refine aK<|mV (v:=.box 0 0) r<|aT r (gB r)<|aT r (bD tO r)<|aT r (aJ (v:=.box 1 0) aGJ r r r) ?_
        obtain ⟨x16,hx16,h17⟩:=aG h15
        refine dM (v:=aS) (σ':=[[.box 1 0,aI],bW,[aI,aI,aS,aO,aO],bK]) [1] r (iR hx16) r r ⟨lr,lr,trivial⟩ (eW ⟨r,r,r,r,trivial⟩ aF) r r r<|sS r<|aH (fr':=[(0,.box 0 0),(2,aI),(4,.box 2 0),(6,.box 3 0),(7,aI),(8,aI),(9,aS)]) r r<|aU<|aK<|mV (v:=.box 0 0) r<|mS r<|aT r (nI wT r)<|aT r (wI r r)<|mB r<|og r r r (fun hc=>(bA (v:=aI) r))<|og r r r (fun hc=>(dG (gx r hc) r)) ?_
        refine og r r r (fun hc=>(bA (v:=aB) (gx r hc)))<|eX r r (fun hc=>fJ r (bA (v:=aS) r))<|eX r r (fun hc=>fJ r (bD qU r))<|eX r r (fun hc=>fJ r (aJ (v:=aO) rG (gx r hc) r r))<|eX r r (fun hc=>fJ r (bA (v:=aI) r))<|eX r r (fun hc=>fJ r (aNv (gx r hc) r)) ?_
        obtain ⟨x18,hx18,h19⟩:=aG h17
        refine eX r r (fun hc=>fJ r (oV (cs:=[PV.str _]) aAe (tW (gx r hc)) (gx r hc) (dW hx18 hc) r))<|eX r r (fun hc=>fJ r (jW (p:=PV.str _) nE (gx r hc) r))<|eX r r (fun hc=>fJ r (aPL (gx r hc) (gx r hc)))<|og r r r (fun hc=>(cB (gx r hc) r r (fun e=>rF hc (fW e))))<|aT r (cE r r r (fun e=>fW e)) ?_
        obtain ⟨x20,hx20,h21⟩:=aG h19
        refine dM (v:=aB) (σ':=[[.box 1 0,aI],bW,[aI,aI,aS,aO,aO],bK]) [0,1] r (jT hx20) r r ⟨lr,lr,trivial⟩ (wR ⟨lr,lr,trivial⟩ (eW ⟨r,r,r,r,trivial⟩ aF)) (gJ (by repeat (first | exact fF | refine aZ r ?_ | refine aZ (uH r) ?_ | refine aZ uG ?_))) r r ?_
        refine aT r (fH r)<|aH (fr':=[(0,.box 0 0),(2,aI),(4,.box 2 0),(6,.box 3 0),(7,aI),(8,aI),(9,aS),(58,aB)]) r r<|cV h21 r (fun hb22 h22=>?_) (fun hb22 h22=>?_)
        ·
         refine aK<|aT r (jA (cs:=bK) aGG r)<|bU (v:=.agg bK) (us:=bK) (cs:=bK) (σ':=[[.box 1 0,aI],bW,[aI,aI,aS,aO,aO],bK]) r gV r r r r r r r r<|aH (fr':=[(6,.box 3 0)]) r r<|bI<|aN<|aN<|bN<|aN<|aN<|bN<|aN ?_
         refine aN ?_
         have h23:=fI h22 h13
         have h24:=eY h23 ho10
         have h25:=fI h24 h8
         obtain rfl:=sy h25
         exact bH (rs':=[.cell 6 26]) r<|fA (us:=bK) (cs:=bK) gV r r r r<|bG<|aQ [] r r r (bO r ⟨r,r,r,⟨_,r⟩,⟨_,r⟩,trivial⟩) (wR ⟨lr,lr,trivial⟩ (eW ⟨r,r,r,r,trivial⟩ aF))
        ·
         refine bJ<|cM<|aX<|aT r (bD qU r)<|aT r (aJ (v:=aO) rG r r r)<|mS r<|xX (row:=gL) (xs:=([x16.1]:List (List UInt8))) (rows:=[[_]]) (σ':=[[.box 1 0,aI],bW,[aI,aI,aS,aO,aO],bK]) [0] aAe r r r (gX r pX) r r ?_
         obtain ⟨x27,hx27,h28⟩:=aG h22
         exact aFB (row:=gL) aAe r yQ r (tW r) (fun _=>r) hx27<|aT r (bD qU r)<|bU (v:=aO) (us:=[aO]) (cs:=[aI,aI,aS,aO,aL]) (σ':=[[.box 1 0,aI],bW,[aI,aI,aS,aO,aO],bK]) r rG r r r r r r r r<|dT (fr':=[(0,.box 0 0),(2,aI),(4,.box 2 0),(6,.box 3 0),(7,aI),(8,aI),(9,aS),(58,aB)]) r<|pG _ (sy h28) (bT [0,1024] 4 r r r r ⟨lr,lr,lr,lr,lr,lr,trivial⟩ (cZ r (cZ r (cZ r (cZ r aF)))))
       ·
        exact bJ<|pG _ (sy h15) (bT [0,1] 4 r r r r ⟨lr,lr,lr,lr,lr,lr,trivial⟩ (cZ r (cZ r (cZ r (cZ r aF)))))
      ·
       intro j14 hj29
       have h29:=nG hj29 h13
       refine aK<|mV (v:=.box 0 0) r<|mI r<|aT r (fL r r) ?_
       obtain ⟨x30,hx30,h31⟩:=aG h29
       refine dM (v:=.agg bQ) (σ':=[[.box 1 0,aI],bW,[aI,aI,aS,aO,aO],bK]) [0,1] r (ih_value_decoder_value hx30) r r ⟨lr,lr,trivial⟩ (wR ⟨lr,lr,trivial⟩ (eW ⟨r,r,r,r,trivial⟩ aF)) r r r<|iG (n:=4) (cs:=bK) (σ':=[[.box 1 0,aI],bW,[aI,aI,aS,aO,aO],bK,bK]) aED r r r<|bU (v:=.agg bQ) (us:=bQ) (cs:=bK) (σ':=[[.box 1 0,aI],bW,[aI,aI,aS,aO,aO],bK,bQ]) r gV r r r r r r r r<|aH (fr':=[(0,.box 0 0),(2,aI),(4,.box 2 0),(6,.box 3 0),(7,aI),(8,aI),(10,.box 4 0)]) r r<|aU<|aK<|mV (v:=.box 0 0) r<|aT r (gB r)<|aT r (bD tO r)<|aT r (aJ (v:=.box 1 0) aGJ r r r) ?_
       obtain ⟨x32,hx32,h33⟩:=aG h31
       refine dM (v:=aI) (σ':=[[.box 1 0,aI],bW,[aI,aI,aS,aO,aO],bK,bQ]) [1] r (eV hx32) r r ⟨lr,trivial⟩ (eW ⟨r,r,r,r,trivial⟩ aF) r r r<|aT r (gQ r r)<|aH (fr':=[(0,.box 0 0),(2,aI),(4,.box 2 0),(6,.box 3 0),(7,aI),(8,aI),(10,.box 4 0),(75,aB)]) r r<|cV h33 r (fun hb34 h34=>?_) (fun hb34 h34=>?_)
       ·
        refine aK<|aT r (jA (cs:=bK) aGG r)<|bU (v:=.agg bK) (us:=bK) (cs:=bK) (σ':=[[.box 1 0,aI],bW,[aI,aI,aS,aO,aO],bK,bQ]) r gV r r r r r r r r<|aH (fr':=[(6,.box 3 0)]) r r<|bI<|aN<|bN<|aN<|aN<|bN<|aN<|aN ?_
        have h35:=eY h34 ho10
        have h36:=fI h35 h8
        obtain rfl:=sy h36
        exact bH (rs':=[.cell 6 26]) r<|fA (us:=bK) (cs:=bK) gV r r r r<|bG<|aQ [] r r r (bO r ⟨r,r,r,⟨_,r⟩,⟨_,r⟩,trivial⟩) (wR ⟨lr,lr,trivial⟩ (eW ⟨r,r,r,r,trivial⟩ aF))
       ·
        refine bJ<|cM<|aX<|aT r (bD kY r)<|aT r (aJ (v:=aO) vM r r r)<|aT r (dJ (us:=bQ) gV r r r r)<|xX (row:=bM) (xs:=([x30.1]:List aC)) (rows:=[[_,_,_,_,_]]) (σ':=[[.box 1 0,aI],bW,[aI,aI,aS,aO,aO],bK,bQ]) [0,0,0,5,1] aBE r r r (gX (eT _) pX) r r ?_
        obtain ⟨x38,hx38,h39⟩:=aG h34
        exact aFB (row:=bM) aBE r aAE r (tW r) aEB hx38<|aT r (bD kY r)<|bU (v:=aO) (us:=[aO]) (cs:=[aI,aI,aS,aL,aO]) (σ':=[[.box 1 0,aI],bW,[aI,aI,aS,aO,aO],bK,bQ]) r vM r r r r r r r r<|dT (fr':=[(0,.box 0 0),(2,aI),(4,.box 2 0),(6,.box 3 0),(7,aI),(8,aI),(10,.box 4 0),(75,aB)]) r<|dH<|cM<|aX<|mI r<|aT r (fL r r)<|sI r<|dT (fr':=[(0,.box 0 0),(2,aI),(4,.box 2 0),(6,.box 3 0),(7,aI),(8,aI),(10,.box 4 0),(75,aB)]) r<|e_l _ (sy h39) (bT [1296,1] 4 r r r r ⟨lr,lr,lr,lr,lr,lr,trivial⟩ (cZ r (cZ r (cZ r (cZ r aF)))))
     ·
      refine hH<|cX<|cX<|fU ?_
      have h40:=eY h11 ho10
      exact pG _ (sy h40) (bT [0,1] 4 r r r r ⟨lr,lr,trivial⟩ (cZ r (cZ r (cZ r (cZ r aF)))))
    ·
     intro j9 hj41
     have h41:=nG hj41 h8
     refine cM<|aK<|aT r (dJ (us:=[aI,aI,aS,aO,aO]) gV r r r r)<|bU (v:=.agg [aI,aI,aS,aO,aO]) (us:=[aI,aI,aS,aO,aO]) (cs:=bK) (σ':=[[.box 1 0,aI],bW,[aI,aI,aS,aO,aO],[aI,aI,aS,aO,aO]]) r gV r r r r r r r r<|aH (fr':=[(6,.box 3 0)]) r r<|bI ?_
     obtain rfl:=sy h41
     exact bH (rs':=[.cell 6 26]) r<|fA (us:=[aI,aI,aS,aO,aO]) (cs:=[aI,aI,aS,aO,aO]) gV r r r r<|bG<|aQ [] r r r (bO r ⟨r,r,r,r,r,trivial⟩) (wR ⟨lr,lr,trivial⟩ (eW ⟨r,r,r,r,trivial⟩ aF))
  ·
   intro iI cN gY res h
   rw [bX] at h
   refine cY (fn:=Tryz.f145) [0,1,4,5,17,42,45,46,64,72,86] (by kernel_rfl) Tryz.func145 r (by kernel_rfl) (by kernel_rfl)<|aK<|iG (n:=2) (cs:=bK) (σ':=[[.box 1 0,aI],bW,bK]) aED r r r<|aH (fr':=[(0,.box 0 0),(1,aI),(4,.box 2 0)]) r r<|aU<|aK<|mV (v:=.box 0 0) r<|mV (v:=.box 0 0) r<|aT r (gB r)<|aT r (bD aH1 r)<|aT r (aJ (v:=aI) fY r r r) ?_
   refine aT r (fM r r)<|mB r<|og r r r (fun hc=>(bA (v:=aI) r))<|og r r r (fun hc=>(wI (gx r hc) r))<|aT r (cE r r r (fun e=>fW e)) ?_
   obtain ⟨x1,hx1,h2⟩:=aG h
   refine dM (v:=aB) (σ':=[[.box 1 0,aI],bW,bK]) [0,1] r (jT hx1) r r ⟨lr,lr,trivial⟩ (wR ⟨lr,lr,trivial⟩ (eW ⟨r,r,r,r,trivial⟩ aF)) (gJ (by repeat (first | exact fF | refine aZ r ?_ | refine aZ (uH r) ?_ | refine aZ uG ?_))) r r ?_
   refine aT r (fH r)<|aH (fr':=[(0,.box 0 0),(1,aI),(4,.box 2 0),(17,aB)]) r r<|cV h2 r (fun hb3 h3=>?_) (fun hb3 h3=>?_)
   ·
    refine aK<|aT r (jA (cs:=bK) aGG r)<|bU (v:=.agg bK) (us:=bK) (cs:=bK) (σ':=[[.box 1 0,aI],bW,bK]) r gV r r r r r r r r<|aH (fr':=[(4,.box 2 0)]) r r<|bI<|aN ?_
    obtain rfl:=sy h3
    exact bH (rs':=[.cell 4 26]) r<|fA (us:=bK) (cs:=bK) gV r r r r<|bG<|aQ [] r r r (bO r ⟨r,r,r,⟨_,r⟩,⟨_,r⟩,trivial⟩) (wR ⟨lr,lr,trivial⟩ (eW ⟨r,r,r,r,trivial⟩ aF))
   ·
    refine bJ<|cM<|aK<|mV (v:=.box 0 0) r<|aT r (gB r)<|aT r (bD aH1 r)<|aT r (aJ (v:=aI) fY r r r)<|aT r (fL r r)<|aT r (gB r)<|aT r (bD aH1 r)<|bU (v:=aI) (us:=[aI]) (cs:=[.box 1 0,aI]) (σ':=[[.box 1 0,aI],bW,bK]) r fY r r r r r r r r<|aH (fr':=[(0,.box 0 0),(1,aI),(4,.box 2 0)]) r r ?_
    refine aK<|mV (v:=.box 0 0) r<|aT r (gB r)<|aT r (bD tO r)<|aT r (aJ (v:=.box 1 0) aGJ r r r) ?_
    obtain ⟨x5,hx5,h6⟩:=aG h3
    refine dM (v:=aI) (σ':=[[.box 1 0,aI],bW,bK]) [1] r (jE hx5) r r ⟨lr,lr,lr,trivial⟩ (eW ⟨r,r,r,r,trivial⟩ aF) r r r<|aT r (jA (cs:=bK) aGG r)<|iG (n:=3) (cs:=bK) (σ':=[[.box 1 0,aI],bW,bK,bK]) aED r r r<|bU (v:=.agg bK) (us:=bK) (cs:=bK) (σ':=[[.box 1 0,aI],bW,bK,bK]) r gV r r r r r r r r<|aH (fr':=[(0,.box 0 0),(1,aI),(4,.box 2 0),(5,.box 3 0)]) r r<|aU<|aK<|mV (v:=.box 0 0) r<|aT r (bD oC r)<|aT r (aJ (v:=aI) fY r r r)<|aT r (rP r r)<|mB r ?_
    refine og r r r (fun hc=>(bD oC r))<|og r r r (fun hc=>(aJ (v:=aI) fY (gx r hc) r r))<|og r r r (fun hc=>(wI (gx r hc) r))<|aT r (cE r r r (fun e=>fW e)) ?_
    obtain ⟨x7,hx7,h8⟩:=aG h6
    refine dM (v:=aB) (σ':=[[.box 1 0,aI],bW,bK,bK]) [0,1] r (jT hx7) r r ⟨lr,lr,trivial⟩ (wR ⟨lr,lr,trivial⟩ (eW ⟨r,r,r,r,trivial⟩ aF)) (gJ (by repeat (first | exact fF | refine aZ r ?_ | refine aZ (uH r) ?_ | refine aZ uG ?_))) r r ?_
    refine aT r (fH r)<|aH (fr':=[(0,.box 0 0),(1,aI),(4,.box 2 0),(5,.box 3 0),(42,aB)]) r r<|cV h8 r (fun hb9 h9=>?_) (fun hb9 h9=>?_)
    ·
     refine aK<|aT r (jA (cs:=bK) aGG r)<|bU (v:=.agg bK) (us:=bK) (cs:=bK) (σ':=[[.box 1 0,aI],bW,bK,bK]) r gV r r r r r r r r<|aH (fr':=[(4,.box 2 0)]) r r<|bI<|aN ?_
     obtain rfl:=sy h9
     exact bH (rs':=[.cell 4 26]) r<|fA (us:=bK) (cs:=bK) gV r r r r<|bG<|aQ [] r r r (bO r ⟨r,r,r,⟨_,r⟩,⟨_,r⟩,trivial⟩) (wR ⟨lr,lr,trivial⟩ (eW ⟨r,r,r,r,trivial⟩ aF))
    ·
     refine bJ<|cM ?_
     obtain ⟨x11,hx11,h12⟩:=aG h9
     refine nB (fun j13=>x11=Fl.go j13) (fun (j13:(aD × Int × (List UInt8)))=>([(4,.box 2 0),(5,.box 3 0)]:Fr)) (fun (j13:(aD × Int × (List UInt8)))=>([[.box 1 0,ci (IntKind.wrap .i64 (cN+(1:Int)))],[.c (PV.ls 1 gA j13.1.b_),ci j13.1.at_,ci j13.1.err_,.c (.bool j13.1.made_)],[ci 0,ci 0,.c (.str ([]:List UInt8)),AV.nil,AV.nil],[ci x5.1,ci j13.2.1,.c (.str j13.2.2),AV.nil,AV.nil]]:St)) ?_ ?_
     ·
      refine aK<|aT r (bD oC r)<|aT r (aJ (v:=aI) fY r r r)<|aH (fr':=[(0,.box 0 0),(1,aI),(4,.box 2 0),(5,.box 3 0),(45,aI)]) r r<|bZ<|aK<|aT r (dG r r)<|sB r<|aH (fr':=[(0,.box 0 0),(1,aI),(4,.box 2 0),(5,.box 3 0),(45,aI),(46,aB)]) r r<|cV hx11 r (fun hb14 h14=>?_) (fun hb14 h14=>?_)
      ·
       refine aK<|mV (v:=.box 0 0) r<|aT r (gB r)<|aT r (bD tO r)<|aT r (aJ (v:=.box 1 0) aGJ r r r) ?_
       obtain ⟨x15,hx15,h16⟩:=aG h14
       refine dM (v:=aI) (σ':=[[.box 1 0,aI],bW,bK,bK]) [1] r (jE hx15) r r ⟨lr,lr,lr,trivial⟩ (eW ⟨r,r,r,r,trivial⟩ aF) r r r<|aT r (bD tD r)<|bU (v:=aI) (us:=[aI]) (cs:=bK) (σ':=[[.box 1 0,aI],bW,bK,bK]) r fY r r r r r r r r<|aH (fr':=[(0,.box 0 0),(4,.box 2 0),(5,.box 3 0)]) r r<|aX<|mV (v:=.box 0 0) r<|aT r (bD tD r)<|aT r (aJ (v:=aI) fY r r r)<|aT r (dG r r)<|mB r<|og r r r (fun hc=>(bD tD r))<|og r r r (fun hc=>(aJ (v:=aI) fY (gx r hc) r r))<|og r r r (fun hc=>(dG (gx r hc) r)) ?_
       refine aT r (cB r r r (fun e=>fW e)) ?_
       obtain ⟨x17,hx17,h18⟩:=aG h16
       refine dM (v:=aB) (σ':=[[.box 1 0,aI],bW,bK,bK]) [0,1] r (jT hx17) r r ⟨lr,lr,trivial⟩ (wR ⟨lr,lr,trivial⟩ (eW ⟨r,r,r,r,trivial⟩ aF)) (gJ (by repeat (first | exact fF | refine aZ r ?_ | refine aZ (uH r) ?_ | refine aZ uG ?_))) r r ?_
       exact dT (fr':=[(0,.box 0 0),(4,.box 2 0),(5,.box 3 0)]) r<|dH<|pG _ (sy h18) (bT [] 4 r r r r ⟨lr,lr,trivial⟩ (cZ r (cZ r (cZ r (cZ r aF)))))
      ·
       refine aK<|aT r (dG r r)<|sB r<|aH (fr':=[(0,.box 0 0),(1,aI),(4,.box 2 0),(5,.box 3 0),(45,aI),(64,aB)]) r r<|cV h14 r (fun hb19 h19=>?_) (fun hb19 h19=>?_)
       ·
        refine aX<|mV (v:=.box 0 0) r<|aT r (gB r)<|aT r (bD tO r)<|aT r (aJ (v:=.box 1 0) aGJ r r r) ?_
        obtain ⟨x20,hx20,h21⟩:=aG h19
        exact dM (v:=aI) (σ':=[[.box 1 0,aI],bW,bK,bK]) [1] r (jE hx20) r r ⟨lr,lr,lr,trivial⟩ (eW ⟨r,r,r,r,trivial⟩ aF) r r r<|aT r (bD tD r)<|bU (v:=aI) (us:=[aI]) (cs:=bK) (σ':=[[.box 1 0,aI],bW,bK,bK]) r fY r r r r r r r r<|dT (fr':=[(0,.box 0 0),(1,aI),(4,.box 2 0),(5,.box 3 0),(45,aI),(64,aB)]) r<|dH<|pG _ (sy h21) (bT [] 4 r r r r ⟨lr,lr,trivial⟩ (cZ r (cZ r (cZ r (cZ r aF)))))
       ·
        refine aK<|aT r (dG r r)<|sB r<|aH (fr':=[(0,.box 0 0),(1,aI),(4,.box 2 0),(5,.box 3 0),(45,aI),(72,aB)]) r r<|cV h19 r (fun hb22 h22=>?_) (fun hb22 h22=>?_)
        ·
         refine aK<|mV (v:=.box 0 0) r<|aT r (gB r)<|aT r (bD tO r)<|aT r (aJ (v:=.box 1 0) aGJ r r r) ?_
         obtain ⟨x23,hx23,h24⟩:=aG h22
         refine dM (v:=aS) (σ':=[[.box 1 0,aI],bW,bK,bK]) [1] r (iR hx23) r r ⟨lr,lr,trivial⟩ (eW ⟨r,r,r,r,trivial⟩ aF) r r r<|aT r (bD yB r)<|bU (v:=aS) (us:=[aS]) (cs:=bK) (σ':=[[.box 1 0,aI],bW,bK,bK]) r nE r r r r r r r r<|aH (fr':=[(0,.box 0 0),(4,.box 2 0),(5,.box 3 0)]) r r<|aX<|mV (v:=.box 0 0) r<|aT r (bD yB r)<|aT r (aJ (v:=aS) nE r r r)<|aT r (nI wT r)<|aT r (wI r r) ?_
         obtain ⟨x25,hx25,h26⟩:=aG h24
         exact dM (v:=aB) (σ':=[[.box 1 0,aI],bW,bK,bK]) [0,1] r (jT hx25) r r ⟨lr,lr,trivial⟩ (wR ⟨lr,lr,trivial⟩ (eW ⟨r,r,r,r,trivial⟩ aF)) r r r<|dT (fr':=[(0,.box 0 0),(4,.box 2 0),(5,.box 3 0)]) r<|dH<|pG _ (sy h26) (bT [] 4 r r r r ⟨lr,lr,trivial⟩ (cZ r (cZ r (cZ r (cZ r aF)))))
        ·
         obtain ⟨x27,hx27,h28⟩:=aG h22
         refine nB (fun j29=>x27=j29) (fun (j29:Bool)=>([(0,.box 0 0),(1,ci iI),(4,.box 2 0),(5,.box 3 0),(86,.c (.bool j29))]:Fr)) (fun (j29:Bool)=>([[.box 1 0,ci (IntKind.wrap .i64 (cN+(1:Int)))],[.c (PV.ls 1 gA x7.2.b_),ci x7.2.at_,ci x7.2.err_,.c (.bool x7.2.made_)],[ci 0,ci 0,.c (.str ([]:List UInt8)),AV.nil,AV.nil],[ci x5.1,ci 0,.c (.str ([]:List UInt8)),AV.nil,AV.nil]]:St)) ?_ ?_
         ·
          refine aK<|aT r (dG r r)<|sB r<|aH (fr':=[(0,.box 0 0),(1,aI),(4,.box 2 0),(5,.box 3 0),(45,aI),(86,aB)]) r r<|cV hx27 r (fun hb30 h30=>?_) (fun hb30 h30=>?_)
          ·
           exact bJ<|pG _ (sy h30) (bT [] 4 r r r r ⟨lr,lr,lr,lr,lr,trivial⟩ (cZ r (cZ r (cZ r (cZ r aF)))))
          ·
           exact aX<|aT r (dG r r)<|sB r<|dT (fr':=[(0,.box 0 0),(1,aI),(4,.box 2 0),(5,.box 3 0),(45,aI),(86,aB)]) r<|pG _ (sy h30) (bT [] 4 r r r r ⟨lr,lr,lr,lr,lr,trivial⟩ (cZ r (cZ r (cZ r (cZ r aF)))))
         ·
          intro j29 hj31
          subst hj31
          refine cV h28 r (fun hb32 h32=>?_) (fun hb32 h32=>?_)
          ·
           refine aK<|mV (v:=.box 0 0) r<|aT r (dJ (us:=bK) gV r r r r)<|mI r ?_
           obtain ⟨x33,hx33,h34⟩:=aG h32
           refine dM (v:=.agg bQ) (σ':=[[.box 1 0,aI],bW,bK,bK]) [0,1] r (ih_value_decoder_items hx33) r r ⟨lr,(aOn r ⟨lr,lr,lr,lr,lr,trivial⟩),lr,trivial⟩ (wR ⟨lr,lr,trivial⟩ (eW ⟨r,r,r,r,trivial⟩ aF)) r r r<|bU (v:=.agg bQ) (us:=bQ) (cs:=bK) (σ':=[[.box 1 0,aI],bW,bQ,bK]) r gV r r r r r r r r<|aH (fr':=[(4,.box 2 0)]) r r<|bI<|bN<|aN ?_
           have h35:=fI h34 h12
           obtain rfl:=sy h35
           exact bH (rs':=[.cell 4 26]) r<|fA (us:=bQ) (cs:=bQ) gV r r r r<|bG<|aQ [] r r r (bO r ⟨r,r,r,r,r,trivial⟩) (wR ⟨lr,lr,trivial⟩ (eW ⟨r,r,r,r,trivial⟩ aF))
          ·
           exact bJ<|dH<|pG _ (sy h32) (bT [] 4 r r r r ⟨lr,lr,trivial⟩ (cZ r (cZ r (cZ r (cZ r aF)))))
     ·
      intro j13 hj37
      have h37:=nG hj37 h12
      refine aK<|aT r (dJ (us:=bK) gV r r r r)<|bU (v:=.agg bK) (us:=bK) (cs:=bK) (σ':=[[.box 1 0,aI],bW,bK,bK]) r gV r r r r r r r r<|aH (fr':=[(4,.box 2 0)]) r r<|bI ?_
      obtain rfl:=sy h37
      exact bH (rs':=[.cell 4 26]) r<|fA (us:=bK) (cs:=bK) gV r r r r<|bG<|aQ [] r r r (bO r ⟨r,r,r,⟨_,r⟩,⟨_,r⟩,trivial⟩) (wR ⟨lr,lr,trivial⟩ (eW ⟨r,r,r,r,trivial⟩ aF))
noncomputable def mP (iI:Int) (cN:Int) (gY:aD):Option (aC × Int × aD):=lim fun n=>bX n iI cN gY
theorem aAF {iI:Int}{cN:Int}{gY:aD}{res:(aC × Int × aD)} (h:mP iI cN gY=some res):cC Tryz.prog 145 [.box 0 0,ci iI] [[.box 1 0,ci cN],AV.cs (cL gY)] (.agg (AV.cs (eF res.1))) [[.box 1 0,ci res.2.1],AV.cs (cL res.2.2)]:=by
 obtain ⟨n,hn⟩:=pZ h
 exact (aAl n).2 hn
noncomputable def jZ (bV:aD):Option (aC × aD) :=
 (((dS bV).bind fun x4=>cond (decide (x4=(1:Int))) (some (Fl.done ((aC.mk (0:Int) (0:Int) ([]:List UInt8) ([]:(List aC)) ([]:(List (List UInt8)))),bV))) (some (Fl.go ()))):Option (Fl (aC × aD) Unit)).bind fun x1=>Fl.next x1 (fun j3=>((mP (1:Int) (0:Int) bV).bind fun x10=>(dS x10.2.2).bind fun x12=>cond (!decide (x12=(0:Int))) (some ((aC.mk (0:Int) (0:Int) ([]:List UInt8) ([]:(List aC)) ([]:(List (List UInt8)))),x10.2.2)) (some (x10.1,x10.2.2))))
theorem aBj {bV:aD}{res:(aC × aD)} (h:jZ bV=some res):cC Tryz.prog 72 [.box 0 0] [AV.cs (cL bV)] (.agg (AV.cs (eF res.1))) [AV.cs (cL res.2)]:=by
 unfold jZ at h
 refine cY (fn:=Tryz.f72) [0,2,3,4,11,20] (by kernel_rfl) Tryz.func72 r (by kernel_rfl) (by kernel_rfl)<|aK<|iG (n:=1) (cs:=bK) (σ':=[bW,bK]) aED r r r<|aH (fr':=[(0,.box 0 0),(2,.box 1 0)]) r r ?_
 obtain ⟨x1,hx1,h2⟩:=aG h
 refine nB (fun j3=>x1=Fl.go j3) (fun (j3:Unit)=>([(0,.box 0 0),(2,.box 1 0)]:Fr)) (fun (j3:Unit)=>([[.c (PV.ls 1 gA bV.b_),ci bV.at_,ci bV.err_,.c (.bool bV.made_)],[ci 0,ci 0,.c (.str ([]:List UInt8)),AV.nil,AV.nil]]:St)) ?_ ?_
 ·
  refine aK<|mV (v:=.box 0 0) r<|aT r (aKq aP1 r r)<|mB r<|rO r r r<|mV (v:=.box 0 0) r<|rO r r r ?_
  obtain ⟨x4,hx4,h5⟩:=aG hx1
  refine dM (v:=aI) (σ':=[bW,bK]) [0] r (eV hx4) r r ⟨lr,trivial⟩ (eW ⟨r,r,r,r,trivial⟩ aF) r r r<|rO r r r<|aT r (dG r r)<|aT r (aAW r r r)<|aH (fr':=[(0,.box 0 0),(2,.box 1 0),(11,aB)]) r r<|cV h5 r (fun hb6 h6=>?_) (fun hb6 h6=>?_)
  ·
   refine aK<|aT r (jA (cs:=bK) aGG r)<|bU (v:=.agg bK) (us:=bK) (cs:=bK) (σ':=[bW,bK]) r gV r r r r r r r r<|aH (fr':=[(2,.box 1 0)]) r r<|bI<|aN ?_
   have h7:=fI h6 h2
   obtain rfl:=sy h7
   exact bH (rs':=[.cell 2 26]) r<|fA (us:=bK) (cs:=bK) gV r r r r<|bG<|aQ [] r r r (bO r ⟨r,r,r,⟨_,r⟩,⟨_,r⟩,trivial⟩) (eW ⟨r,r,r,r,trivial⟩ aF)
  ·
   exact bJ<|pG _ (sy h6) (bT [] 2 r r r r ⟨lr,lr,trivial⟩ (cZ r (cZ r aF)))
 ·
  intro j3 hj9
  have h9:=nG hj9 h2
  refine aK<|mV (v:=.box 0 0) r<|aT r (jA (cs:=[.box 0 0,aI]) aQH r)<|iH (v:=.agg [.box 0 0,aI]) (n:=2) (cs:=[.box 0 0,aI]) (σ':=[bW,bK,[.box 0 0,aI]]) r r r r r<|sV (v:=.box 2 0) r<|aH (fr':=[(0,.box 0 0),(2,.box 1 0),(3,.box 2 0)]) r r<|aK<|mV (v:=.box 2 0) r ?_
  obtain ⟨x10,hx10,h11⟩:=aG h9
  refine dM (v:=.agg bQ) (σ':=[bW,bK,[.box 0 0,aI]]) [2,0] r (aAF hx10) r r ⟨lr,lr,trivial⟩ (wR ⟨lr,lr,trivial⟩ (eW ⟨r,r,r,r,trivial⟩ aF)) r r r<|iG (n:=3) (cs:=bK) (σ':=[bW,bK,[.box 0 0,aI],bK]) aED r r r<|bU (v:=.agg bQ) (us:=bQ) (cs:=bK) (σ':=[bW,bK,[.box 0 0,aI],bQ]) r gV r r r r r r r r<|aH (fr':=[(0,.box 0 0),(2,.box 1 0),(4,.box 3 0)]) r r<|aU<|aK<|mV (v:=.box 0 0) r ?_
  obtain ⟨x12,hx12,h13⟩:=aG h11
  refine dM (v:=aI) (σ':=[bW,bK,[.box 0 0,aI],bQ]) [0] r (eV hx12) r r ⟨lr,trivial⟩ (eW ⟨r,r,r,r,trivial⟩ aF) r r r<|aT r (gQ r r)<|aH (fr':=[(2,.box 1 0),(4,.box 3 0),(20,aB)]) r r<|cV h13 r (fun hb14 h14=>?_) (fun hb14 h14=>?_)
  ·
   refine aK<|aT r (jA (cs:=bK) aGG r)<|bU (v:=.agg bK) (us:=bK) (cs:=bK) (σ':=[bW,bK,[.box 0 0,aI],bQ]) r gV r r r r r r r r<|aH (fr':=[(2,.box 1 0)]) r r<|bI<|aN ?_
   obtain rfl:=sy h14
   exact bH (rs':=[.cell 2 26]) r<|fA (us:=bK) (cs:=bK) gV r r r r<|bG<|aQ [] r r r (bO r ⟨r,r,r,⟨_,r⟩,⟨_,r⟩,trivial⟩) (eW ⟨r,r,r,r,trivial⟩ aF)
  ·
   refine bJ<|cM<|aK<|aT r (dJ (us:=bQ) gV r r r r)<|bU (v:=.agg bQ) (us:=bQ) (cs:=bK) (σ':=[bW,bQ,[.box 0 0,aI],bQ]) r gV r r r r r r r r<|aH (fr':=[(2,.box 1 0)]) r r<|bI ?_
   obtain rfl:=sy h14
   exact bH (rs':=[.cell 2 26]) r<|fA (us:=bQ) (cs:=bQ) gV r r r r<|bG<|aQ [] r r r (bO r ⟨r,r,r,r,r,trivial⟩) (eW ⟨r,r,r,r,trivial⟩ aF)
noncomputable def lF (gD:(List UInt8)) (cN:Int) (aEQ:Int) (aER:Int) (aES:Int) (aET:Int) (aEU:Int) (aEV:Int) (aEW:Int):Option Unit :=
 some ()
theorem aBg {gD:(List UInt8)}{cN:Int}{aEQ:Int}{aER:Int}{aES:Int}{aET:Int}{aEU:Int}{aEV:Int}{aEW:Int}{res:Unit} (h:lF gD cN aEQ aER aES aET aEU aEV aEW=some res):cC Tryz.prog 146 [.box 0 0] [[.c (.str gD),ci cN,ci aEQ,ci aER,ci aES,ci aET,ci aEU,ci aEV,ci aEW,AV.nil]] (.ptrs [(0,1),(0,2),(0,3),(0,4),(0,5),(0,6),(0,7),(0,8)]) [[.c (.str gD),ci cN,ci aEQ,ci aER,ci aES,ci aET,ci aEU,ci aEV,ci aEW,AV.nil]]:=by
 unfold lF at h
 refine cY (fn:=Tryz.f146) [0,2] (by kernel_rfl) Tryz.func146 r (by kernel_rfl) (by kernel_rfl)<|aK<|sV (v:=AV.nil) r<|aH (fr':=[(0,.box 0 0)]) r r<|aU<|jD [.q 0,.q 1,.q 2,.q 3,.q 4,.q 5,.q 6,.q 7,.q 8,.q 9,.q 10,.q 11,.q 12,.q 13,.q 14,.q 15,.q 16,.q 17,.q 18,.q 19,.q 20,.q 21,.q 22,.q 23,.n 24 [],.n 25 []] [(some 3,[0]),(some 4,[3]),(some 5,[4]),(some 6,[0]),(some 7,[6]),(some 8,[7]),(some 9,[0]),(some 10,[9]),(some 11,[10]),(some 12,[0]),(some 13,[12]),(some 14,[13]),(some 15,[0]),(some 16,[15]),(some 17,[16]),(some 18,[0]),(some 19,[18]),(some 20,[19]),(some 21,[0]),(some 22,[21]),(some 23,[22]),(some 24,[0]),(some 25,[24]),(some 26,[25]),(some 27,[5,8,11,14,17,20,23,26]),(some 2,[27])] [0,1,3,0,8,24,0,64,192,0,512,1536,0,4096,12288,0,32768,98304,0,262144,786432,0,2097152,6291456,16777215,33554431] (by kernel_rfl)<|dq r r (bA (v:=.box 0 0) r)<|dq r r (gB r)<|dq r r (bD aF0 r)<|dq r r (bA (v:=.box 0 0) r)<|dq r r (gB r)<|dq r r (bD aF1 r) ?_
 refine dq r r (bA (v:=.box 0 0) r)<|dq r r (gB r)<|dq r r (bD aF2 r)<|dq r r (bA (v:=.box 0 0) r)<|dq r r (gB r)<|dq r r (bD aF3 r)<|dq r r (bA (v:=.box 0 0) r)<|dq r r (gB r)<|dq r r (bD aF4 r)<|dq r r (bA (v:=.box 0 0) r)<|dq r r (gB r)<|dq r r (bD aF5 r)<|dq r r (bA (v:=.box 0 0) r) ?_
 refine dq r r (gB r)<|dq r r (bD aF6 r)<|dq r r (bA (v:=.box 0 0) r)<|dq r r (gB r)<|dq r r (bD aF7 r)<|d_n r ?_ r
 refine aNr (l:=[(0,1),(0,2),(0,3),(0,4),(0,5),(0,6),(0,7),(0,8)]) pO r r r r<|aBD<|⟨pS,?_⟩
 refine d_n r ?_ r
 refine sV (v:=.ptrs [(0,1),(0,2),(0,3),(0,4),(0,5),(0,6),(0,7),(0,8)]) r<|aBD<|⟨pS,?_⟩
 refine xA (fr':=[(2,.ptrs [(0,1),(0,2),(0,3),(0,4),(0,5),(0,6),(0,7),(0,8)])]) r r<|bI ?_
 obtain rfl:=sy h
 exact bH (rs':=[.tmp 2]) r<|bP (v:=.ptrs [(0,1),(0,2),(0,3),(0,4),(0,5),(0,6),(0,7),(0,8)]) r<|bG<|aK1 [] r r r lr (cZ r aF)
noncomputable def dZ (bV:aD):Option (Int × aD) :=
 (cW (-9223372036854775808:Int) (9223372036854775807:Int) bV).bind fun x1=>some (x1.1,x1.2)
theorem fG {bV:aD}{res:(Int × aD)} (h:dZ bV=some res):cC Tryz.prog 147 [.box 0 0] [AV.cs (cL bV)] (ci res.1) [AV.cs (cL res.2)]:=by
 unfold dZ at h
 refine cY (fn:=Tryz.f147) [0,2] (by kernel_rfl) Tryz.func147 r (by kernel_rfl) (by kernel_rfl)<|aK<|sI r<|aH (fr':=[(0,.box 0 0)]) r r<|aK<|mV (v:=.box 0 0) r ?_
 obtain ⟨x1,hx1,h2⟩:=aG h
 refine dM (v:=aI) (σ':=[bW]) [0] r (jE hx1) r r ⟨lr,lr,lr,trivial⟩ (eW ⟨r,r,r,r,trivial⟩ aF) r r r<|sI r<|aH (fr':=[(2,aI)]) r r<|bI ?_
 obtain rfl:=sy h2
 exact bH (rs':=[.tmp 2]) r<|bP (v:=aI) r<|bG<|aQ [] r r r lr (eW ⟨r,r,r,r,trivial⟩ aF)
noncomputable def fB (x22:(Int × aD)) (s38:(Int × aD × (List (List UInt8)))):Option (bS (Int × aD × (List (List UInt8))) (aD × (List (List UInt8)))) :=
 ((cond (decide (s38.1<x22.1)) ((dS s38.2.1).bind fun x43=>cond (decide (x43=(0:Int))) (some (Fl.go ())) (some (Fl.done (bS.out (s38.2.1,s38.2.2))))) (some (Fl.done (bS.out (s38.2.1,s38.2.2))))):Option (Fl (bS (Int × aD × (List (List UInt8))) (aD × (List (List UInt8)))) Unit)).bind fun x39=>Fl.next x39 (fun j41=>((eC (4096:Int) s38.2.1).bind fun x51=>(app 16 s38.2.2 ([x51.1]:List (List UInt8))).bind fun x53=>some (bS.next ((IntKind.wrap .i64 (s38.1+(1:Int))),x51.2,x53))))
noncomputable def fT (bV:aD):Option (bL × aD) :=
 (eC (4096:Int) bV).bind fun x1=>(lF x1.1 (0:Int) (0:Int) (0:Int) (0:Int) (0:Int) (0:Int) (0:Int) (0:Int)).bind fun x3=>(dZ x1.2).bind fun x6=>(dZ x6.2).bind fun x8=>(dZ x8.2).bind fun x10=>(dZ x10.2).bind fun x12=>(dZ x12.2).bind fun x14=>(dZ x14.2).bind fun x16=>(dZ x16.2).bind fun x18=>(dZ x18.2).bind fun x20=>(dZ x20.2).bind fun x22=>(((dS x22.2).bind fun x27=>(gd ((decide (x27=(0:Int)))==true) (iD x22.1 (0:Int) (64:Int))).bind fun x29=>cond (cond (decide (x27=(0:Int))) (!x29) false) ((fE (3:Int) x22.2).bind fun x32=>some x32) (some x22.2)):Option aD).bind fun x24=>(((dL (fB x22) (((0:Int),x24,([]:(List (List UInt8)))))):Option (aD × (List (List UInt8)))).bind fun x35=>((((dS x35.1).bind fun x59=>(gd ((decide (x59=(0:Int)))==true) (iC (bL.mk x1.1 x6.1 x8.1 x10.1 x12.1 x14.1 x16.1 x18.1 x20.1 x35.2))).bind fun x61=>cond (cond (decide (x59=(0:Int))) (!x61) false) ((fE (3:Int) x35.1).bind fun x64=>some x64) (some x35.1)):Option aD).bind fun x56=>((dS x56).bind fun x67=>cond (!decide (x67=(0:Int))) (some ((bL.mk ([]:List UInt8) (0:Int) (0:Int) (0:Int) (0:Int) (0:Int) (0:Int) (0:Int) (0:Int) ([]:(List (List UInt8)))),x56)) (some ((bL.mk x1.1 x6.1 x8.1 x10.1 x12.1 x14.1 x16.1 x18.1 x20.1 x35.2),x56)))))
theorem aAm {bV:aD}{res:(bL × aD)} (h:fT bV=some res):cC Tryz.prog 73 [.box 0 0] [AV.cs (cL bV)] (.agg (AV.cs (jX res.1))) [AV.cs (cL res.2)]:=by
 unfold fT at h
 refine cY (fn:=Tryz.f73) [0,2,3,5,6,7,11,12,13,14,31,41,58,63] (by kernel_rfl) Tryz.func73 r (by kernel_rfl) (by kernel_rfl)<|aK<|iG (n:=1) (cs:=bB) (σ':=[bW,bB]) aP4 r r r<|aH (fr':=[(0,.box 0 0),(2,.box 1 0)]) r r<|aK<|iG (n:=2) (cs:=bB) (σ':=[bW,bB,bB]) aP4 r r r<|aH (fr':=[(0,.box 0 0),(2,.box 1 0),(3,.box 2 0)]) r r<|aK<|mV (v:=.box 0 0) r ?_
 obtain ⟨x1,hx1,h2⟩:=aG h
 refine dM (v:=aS) (σ':=[bW,bB,bB]) [0] r (iR hx1) r r ⟨lr,lr,trivial⟩ (eW ⟨r,r,r,r,trivial⟩ aF) r r r<|aT r (bD aBa r)<|bU (v:=aS) (us:=[aS]) (cs:=bB) (σ':=[bW,bB,bB]) r nE r r r r r r r r<|aH (fr':=[(0,.box 0 0),(2,.box 1 0),(3,.box 2 0)]) r r<|aU<|aU<|aX ?_
 obtain ⟨x3,hx3,h4⟩:=aG h2
 refine xI (v:=.ptrs [(2,1),(2,2),(2,3),(2,4),(2,5),(2,6),(2,7),(2,8)]) (σ':=[bW,bB,bB]) 11 [2] [] r (aBg hx3) r r r ⟨lr,trivial⟩ (wR ⟨lr,lr,lr,lr,lr,lr,lr,lr,lr,lr,trivial⟩ aF) r r r<|aT r (aKp aP2 r)<|mI r<|aH (fr':=[(0,.box 0 0),(2,.box 1 0),(3,.box 2 0),(11,.ptrs [(2,1),(2,2),(2,3),(2,4),(2,5),(2,6),(2,7),(2,8)]),(12,aI),(13,aI)]) r r<|bZ<|aNZ 64<|sU<|aK<|aT r (uL (fM r r) (show _=.bool true from r))<|aH (fr':=[(0,.box 0 0),(2,.box 1 0),(3,.box 2 0),(11,.ptrs [(2,1),(2,2),(2,3),(2,4),(2,5),(2,6),(2,7),(2,8)]),(12,aI),(13,aI),(14,aB)]) r r<|aU<|gT r ?_
 refine bJ<|cM<|aU<|bZ<|aK<|aT r (lB (p:=(2,1)) pO r r r)<|aT r (gE qG r)<|sV (v:=.box 2 1) r<|aH (fr':=[(0,.box 0 0),(2,.box 1 0),(3,.box 2 0),(5,.box 2 1),(11,.ptrs [(2,1),(2,2),(2,3),(2,4),(2,5),(2,6),(2,7),(2,8)]),(12,aI),(13,aI)]) r r<|aX<|mV (v:=.box 2 1) r<|mV (v:=.box 0 0) r ?_
 obtain ⟨x6,hx6,h7⟩:=aG h4
 refine dM (v:=aI) (σ':=[bW,bB,bB]) [0] r (fG hx6) r r ⟨lr,trivial⟩ (eW ⟨r,r,r,r,trivial⟩ aF) r r r<|aT r (gB r)<|bU (v:=aI) (us:=[aI]) (cs:=bB) (σ':=[bW,bB,bB]) r fY r r r r r r r r<|dT (fr':=[(0,.box 0 0),(2,.box 1 0),(3,.box 2 0),(5,.box 2 1),(11,.ptrs [(2,1),(2,2),(2,3),(2,4),(2,5),(2,6),(2,7),(2,8)]),(12,aI),(13,aI)]) r<|dH<|cM<|aX<|aT r (uL (fL r r) (show _=.int .i64 (1:Int) from r))<|mI r<|dT (fr':=[(0,.box 0 0),(2,.box 1 0),(3,.box 2 0),(5,.box 2 1),(11,.ptrs [(2,1),(2,2),(2,3),(2,4),(2,5),(2,6),(2,7),(2,8)]),(12,aI),(13,aI)]) r<|iV<|sU<|aU ?_
 refine aX<|aT r (uL (fM r r) (show _=.bool true from r))<|aH (fr':=[(0,.box 0 0),(2,.box 1 0),(3,.box 2 0),(11,.ptrs [(2,1),(2,2),(2,3),(2,4),(2,5),(2,6),(2,7),(2,8)]),(12,aI),(13,aI),(14,aB)]) r r<|aU<|gT r<|bJ<|cM<|aU<|bZ<|aK<|aT r (lB (p:=(2,2)) pO r r r)<|aT r (gE qG r) ?_
 refine sV (v:=.box 2 2) r<|aH (fr':=[(0,.box 0 0),(2,.box 1 0),(3,.box 2 0),(5,.box 2 2),(11,.ptrs [(2,1),(2,2),(2,3),(2,4),(2,5),(2,6),(2,7),(2,8)]),(12,aI),(13,aI)]) r r<|aX<|mV (v:=.box 2 2) r<|mV (v:=.box 0 0) r ?_
 obtain ⟨x8,hx8,h9⟩:=aG h7
 refine dM (v:=aI) (σ':=[bW,bB,bB]) [0] r (fG hx8) r r ⟨lr,trivial⟩ (eW ⟨r,r,r,r,trivial⟩ aF) r r r<|aT r (gB r)<|bU (v:=aI) (us:=[aI]) (cs:=bB) (σ':=[bW,bB,bB]) r fY r r r r r r r r<|dT (fr':=[(0,.box 0 0),(2,.box 1 0),(3,.box 2 0),(5,.box 2 2),(11,.ptrs [(2,1),(2,2),(2,3),(2,4),(2,5),(2,6),(2,7),(2,8)]),(12,aI),(13,aI)]) r<|dH<|cM<|aX<|aT r (uL (fL r r) (show _=.int .i64 (2:Int) from r))<|mI r<|dT (fr':=[(0,.box 0 0),(2,.box 1 0),(3,.box 2 0),(5,.box 2 2),(11,.ptrs [(2,1),(2,2),(2,3),(2,4),(2,5),(2,6),(2,7),(2,8)]),(12,aI),(13,aI)]) r<|iV<|sU<|aU ?_
 refine aX<|aT r (uL (fM r r) (show _=.bool true from r))<|aH (fr':=[(0,.box 0 0),(2,.box 1 0),(3,.box 2 0),(11,.ptrs [(2,1),(2,2),(2,3),(2,4),(2,5),(2,6),(2,7),(2,8)]),(12,aI),(13,aI),(14,aB)]) r r<|aU<|gT r<|bJ<|cM<|aU<|bZ<|aK<|aT r (lB (p:=(2,3)) pO r r r)<|aT r (gE qG r) ?_
 refine sV (v:=.box 2 3) r<|aH (fr':=[(0,.box 0 0),(2,.box 1 0),(3,.box 2 0),(5,.box 2 3),(11,.ptrs [(2,1),(2,2),(2,3),(2,4),(2,5),(2,6),(2,7),(2,8)]),(12,aI),(13,aI)]) r r<|aX<|mV (v:=.box 2 3) r<|mV (v:=.box 0 0) r ?_
 obtain ⟨x10,hx10,h11⟩:=aG h9
 refine dM (v:=aI) (σ':=[bW,bB,bB]) [0] r (fG hx10) r r ⟨lr,trivial⟩ (eW ⟨r,r,r,r,trivial⟩ aF) r r r<|aT r (gB r)<|bU (v:=aI) (us:=[aI]) (cs:=bB) (σ':=[bW,bB,bB]) r fY r r r r r r r r<|dT (fr':=[(0,.box 0 0),(2,.box 1 0),(3,.box 2 0),(5,.box 2 3),(11,.ptrs [(2,1),(2,2),(2,3),(2,4),(2,5),(2,6),(2,7),(2,8)]),(12,aI),(13,aI)]) r<|dH<|cM<|aX<|aT r (uL (fL r r) (show _=.int .i64 (3:Int) from r))<|mI r<|dT (fr':=[(0,.box 0 0),(2,.box 1 0),(3,.box 2 0),(5,.box 2 3),(11,.ptrs [(2,1),(2,2),(2,3),(2,4),(2,5),(2,6),(2,7),(2,8)]),(12,aI),(13,aI)]) r<|iV<|sU<|aU ?_
 refine aX<|aT r (uL (fM r r) (show _=.bool true from r))<|aH (fr':=[(0,.box 0 0),(2,.box 1 0),(3,.box 2 0),(11,.ptrs [(2,1),(2,2),(2,3),(2,4),(2,5),(2,6),(2,7),(2,8)]),(12,aI),(13,aI),(14,aB)]) r r<|aU<|gT r<|bJ<|cM<|aU<|bZ<|aK<|aT r (lB (p:=(2,4)) pO r r r)<|aT r (gE qG r) ?_
 refine sV (v:=.box 2 4) r<|aH (fr':=[(0,.box 0 0),(2,.box 1 0),(3,.box 2 0),(5,.box 2 4),(11,.ptrs [(2,1),(2,2),(2,3),(2,4),(2,5),(2,6),(2,7),(2,8)]),(12,aI),(13,aI)]) r r<|aX<|mV (v:=.box 2 4) r<|mV (v:=.box 0 0) r ?_
 obtain ⟨x12,hx12,h13⟩:=aG h11
 refine dM (v:=aI) (σ':=[bW,bB,bB]) [0] r (fG hx12) r r ⟨lr,trivial⟩ (eW ⟨r,r,r,r,trivial⟩ aF) r r r<|aT r (gB r)<|bU (v:=aI) (us:=[aI]) (cs:=bB) (σ':=[bW,bB,bB]) r fY r r r r r r r r<|dT (fr':=[(0,.box 0 0),(2,.box 1 0),(3,.box 2 0),(5,.box 2 4),(11,.ptrs [(2,1),(2,2),(2,3),(2,4),(2,5),(2,6),(2,7),(2,8)]),(12,aI),(13,aI)]) r<|dH<|cM<|aX<|aT r (uL (fL r r) (show _=.int .i64 (4:Int) from r))<|mI r<|dT (fr':=[(0,.box 0 0),(2,.box 1 0),(3,.box 2 0),(5,.box 2 4),(11,.ptrs [(2,1),(2,2),(2,3),(2,4),(2,5),(2,6),(2,7),(2,8)]),(12,aI),(13,aI)]) r<|iV<|sU<|aU ?_
 refine aX<|aT r (uL (fM r r) (show _=.bool true from r))<|aH (fr':=[(0,.box 0 0),(2,.box 1 0),(3,.box 2 0),(11,.ptrs [(2,1),(2,2),(2,3),(2,4),(2,5),(2,6),(2,7),(2,8)]),(12,aI),(13,aI),(14,aB)]) r r<|aU<|gT r<|bJ<|cM<|aU<|bZ<|aK<|aT r (lB (p:=(2,5)) pO r r r)<|aT r (gE qG r) ?_
 refine sV (v:=.box 2 5) r<|aH (fr':=[(0,.box 0 0),(2,.box 1 0),(3,.box 2 0),(5,.box 2 5),(11,.ptrs [(2,1),(2,2),(2,3),(2,4),(2,5),(2,6),(2,7),(2,8)]),(12,aI),(13,aI)]) r r<|aX<|mV (v:=.box 2 5) r<|mV (v:=.box 0 0) r ?_
 obtain ⟨x14,hx14,h15⟩:=aG h13
 refine dM (v:=aI) (σ':=[bW,bB,bB]) [0] r (fG hx14) r r ⟨lr,trivial⟩ (eW ⟨r,r,r,r,trivial⟩ aF) r r r<|aT r (gB r)<|bU (v:=aI) (us:=[aI]) (cs:=bB) (σ':=[bW,bB,bB]) r fY r r r r r r r r<|dT (fr':=[(0,.box 0 0),(2,.box 1 0),(3,.box 2 0),(5,.box 2 5),(11,.ptrs [(2,1),(2,2),(2,3),(2,4),(2,5),(2,6),(2,7),(2,8)]),(12,aI),(13,aI)]) r<|dH<|cM<|aX<|aT r (uL (fL r r) (show _=.int .i64 (5:Int) from r))<|mI r<|dT (fr':=[(0,.box 0 0),(2,.box 1 0),(3,.box 2 0),(5,.box 2 5),(11,.ptrs [(2,1),(2,2),(2,3),(2,4),(2,5),(2,6),(2,7),(2,8)]),(12,aI),(13,aI)]) r<|iV<|sU<|aU ?_
 refine aX<|aT r (uL (fM r r) (show _=.bool true from r))<|aH (fr':=[(0,.box 0 0),(2,.box 1 0),(3,.box 2 0),(11,.ptrs [(2,1),(2,2),(2,3),(2,4),(2,5),(2,6),(2,7),(2,8)]),(12,aI),(13,aI),(14,aB)]) r r<|aU<|gT r<|bJ<|cM<|aU<|bZ<|aK<|aT r (lB (p:=(2,6)) pO r r r)<|aT r (gE qG r) ?_
 refine sV (v:=.box 2 6) r<|aH (fr':=[(0,.box 0 0),(2,.box 1 0),(3,.box 2 0),(5,.box 2 6),(11,.ptrs [(2,1),(2,2),(2,3),(2,4),(2,5),(2,6),(2,7),(2,8)]),(12,aI),(13,aI)]) r r<|aX<|mV (v:=.box 2 6) r<|mV (v:=.box 0 0) r ?_
 obtain ⟨x16,hx16,h17⟩:=aG h15
 refine dM (v:=aI) (σ':=[bW,bB,bB]) [0] r (fG hx16) r r ⟨lr,trivial⟩ (eW ⟨r,r,r,r,trivial⟩ aF) r r r<|aT r (gB r)<|bU (v:=aI) (us:=[aI]) (cs:=bB) (σ':=[bW,bB,bB]) r fY r r r r r r r r<|dT (fr':=[(0,.box 0 0),(2,.box 1 0),(3,.box 2 0),(5,.box 2 6),(11,.ptrs [(2,1),(2,2),(2,3),(2,4),(2,5),(2,6),(2,7),(2,8)]),(12,aI),(13,aI)]) r<|dH<|cM<|aX<|aT r (uL (fL r r) (show _=.int .i64 (6:Int) from r))<|mI r<|dT (fr':=[(0,.box 0 0),(2,.box 1 0),(3,.box 2 0),(5,.box 2 6),(11,.ptrs [(2,1),(2,2),(2,3),(2,4),(2,5),(2,6),(2,7),(2,8)]),(12,aI),(13,aI)]) r<|iV<|sU<|aU ?_
 refine aX<|aT r (uL (fM r r) (show _=.bool true from r))<|aH (fr':=[(0,.box 0 0),(2,.box 1 0),(3,.box 2 0),(11,.ptrs [(2,1),(2,2),(2,3),(2,4),(2,5),(2,6),(2,7),(2,8)]),(12,aI),(13,aI),(14,aB)]) r r<|aU<|gT r<|bJ<|cM<|aU<|bZ<|aK<|aT r (lB (p:=(2,7)) pO r r r)<|aT r (gE qG r) ?_
 refine sV (v:=.box 2 7) r<|aH (fr':=[(0,.box 0 0),(2,.box 1 0),(3,.box 2 0),(5,.box 2 7),(11,.ptrs [(2,1),(2,2),(2,3),(2,4),(2,5),(2,6),(2,7),(2,8)]),(12,aI),(13,aI)]) r r<|aX<|mV (v:=.box 2 7) r<|mV (v:=.box 0 0) r ?_
 obtain ⟨x18,hx18,h19⟩:=aG h17
 refine dM (v:=aI) (σ':=[bW,bB,bB]) [0] r (fG hx18) r r ⟨lr,trivial⟩ (eW ⟨r,r,r,r,trivial⟩ aF) r r r<|aT r (gB r)<|bU (v:=aI) (us:=[aI]) (cs:=bB) (σ':=[bW,bB,bB]) r fY r r r r r r r r<|dT (fr':=[(0,.box 0 0),(2,.box 1 0),(3,.box 2 0),(5,.box 2 7),(11,.ptrs [(2,1),(2,2),(2,3),(2,4),(2,5),(2,6),(2,7),(2,8)]),(12,aI),(13,aI)]) r<|dH<|cM<|aX<|aT r (uL (fL r r) (show _=.int .i64 (7:Int) from r))<|mI r<|dT (fr':=[(0,.box 0 0),(2,.box 1 0),(3,.box 2 0),(5,.box 2 7),(11,.ptrs [(2,1),(2,2),(2,3),(2,4),(2,5),(2,6),(2,7),(2,8)]),(12,aI),(13,aI)]) r<|iV<|sU<|aU ?_
 refine aX<|aT r (uL (fM r r) (show _=.bool true from r))<|aH (fr':=[(0,.box 0 0),(2,.box 1 0),(3,.box 2 0),(11,.ptrs [(2,1),(2,2),(2,3),(2,4),(2,5),(2,6),(2,7),(2,8)]),(12,aI),(13,aI),(14,aB)]) r r<|aU<|gT r<|bJ<|cM<|aU<|bZ<|aK<|aT r (lB (p:=(2,8)) pO r r r)<|aT r (gE qG r) ?_
 refine sV (v:=.box 2 8) r<|aH (fr':=[(0,.box 0 0),(2,.box 1 0),(3,.box 2 0),(5,.box 2 8),(11,.ptrs [(2,1),(2,2),(2,3),(2,4),(2,5),(2,6),(2,7),(2,8)]),(12,aI),(13,aI)]) r r<|aX<|mV (v:=.box 2 8) r<|mV (v:=.box 0 0) r ?_
 obtain ⟨x20,hx20,h21⟩:=aG h19
 refine dM (v:=aI) (σ':=[bW,bB,bB]) [0] r (fG hx20) r r ⟨lr,trivial⟩ (eW ⟨r,r,r,r,trivial⟩ aF) r r r<|aT r (gB r)<|bU (v:=aI) (us:=[aI]) (cs:=bB) (σ':=[bW,bB,bB]) r fY r r r r r r r r<|dT (fr':=[(0,.box 0 0),(2,.box 1 0),(3,.box 2 0),(5,.box 2 8),(11,.ptrs [(2,1),(2,2),(2,3),(2,4),(2,5),(2,6),(2,7),(2,8)]),(12,aI),(13,aI)]) r<|dH<|cM<|aX<|aT r (uL (fL r r) (show _=.int .i64 (8:Int) from r))<|mI r<|dT (fr':=[(0,.box 0 0),(2,.box 1 0),(3,.box 2 0),(5,.box 2 8),(11,.ptrs [(2,1),(2,2),(2,3),(2,4),(2,5),(2,6),(2,7),(2,8)]),(12,aI),(13,aI)]) r<|iV<|sU<|aU ?_
 refine aX<|aT r (uL (fM r r) (show _=.bool false from r))<|aH (fr':=[(0,.box 0 0),(2,.box 1 0),(3,.box 2 0),(11,.ptrs [(2,1),(2,2),(2,3),(2,4),(2,5),(2,6),(2,7),(2,8)]),(12,aI),(13,aI),(14,aB)]) r r<|aU<|aBh r<|hH<|cX<|cX<|fU<|cM<|aK<|mV (v:=.box 0 0) r ?_
 obtain ⟨x22,hx22,h23⟩:=aG h21
 refine dM (v:=aI) (σ':=[bW,bB,bB]) [0] r (fG hx22) r r ⟨lr,trivial⟩ (eW ⟨r,r,r,r,trivial⟩ aF) r r r<|sI r<|aH (fr':=[(0,.box 0 0),(2,.box 1 0),(3,.box 2 0),(6,aI)]) r r ?_
 obtain ⟨x24,hx24,h25⟩:=aG h23
 refine nB (fun j26=>x24=j26) (fun (j26:aD)=>([(0,.box 0 0),(2,.box 1 0),(3,.box 2 0),(6,ci x22.1)]:Fr)) (fun (j26:aD)=>([[.c (PV.ls 1 gA j26.b_),ci j26.at_,ci j26.err_,.c (.bool j26.made_)],[.c (.str ([]:List UInt8)),ci 0,ci 0,ci 0,ci 0,ci 0,ci 0,ci 0,ci 0,AV.nil],[.c (.str x1.1),ci x6.1,ci x8.1,ci x10.1,ci x12.1,ci x14.1,ci x16.1,ci x18.1,ci x20.1,AV.nil]]:St)) ?_ ?_
 ·
  refine aK<|mV (v:=.box 0 0) r ?_
  obtain ⟨x27,hx27,h28⟩:=aG hx24
  refine dM (v:=aI) (σ':=[bW,bB,bB]) [0] r (eV hx27) r r ⟨lr,trivial⟩ (eW ⟨r,r,r,r,trivial⟩ aF) r r r<|aT r (dG r r)<|mB r<|og r r r (fun hc=>(bA (v:=aI) r)) ?_
  obtain ⟨x29,hx29,h30⟩:=aG h28
  refine yS r r (fun hc=>bC (v:=aB) r (jC (dW hx29 hc)) ⟨(fK (gx r hc) lr),lr,lr,trivial⟩ (gJ (by repeat (first | exact fF | refine aZ r ?_ | refine aZ (uH r) ?_ | refine aZ uG ?_))) r r) ?_
  refine og r r r (fun hc=>(fH (gx r hc)))<|aT r (cE r r r (fun e=>fW e))<|aH (fr':=[(0,.box 0 0),(2,.box 1 0),(3,.box 2 0),(6,aI),(31,aB)]) r r<|cV h30 r (fun hb31 h31=>?_) (fun hb31 h31=>?_)
  ·
   refine aX<|mV (v:=.box 0 0) r ?_
   obtain ⟨x32,hx32,h33⟩:=aG h31
   exact dM (v:=_) (σ':=[bW,bB,bB]) [0] r (lI hx32) r r ⟨lr,lr,trivial⟩ (eW ⟨r,r,r,r,trivial⟩ aF) r r r<|dT (fr':=[(0,.box 0 0),(2,.box 1 0),(3,.box 2 0),(6,aI),(31,aB)]) r<|pG _ (sy h33) (bT [] 3 r r r r ⟨lr,lr,lr,lr,trivial⟩ (cZ r (cZ r (cZ r aF))))
  ·
   exact bJ<|pG _ (sy h31) (bT [] 3 r r r r ⟨lr,lr,lr,lr,trivial⟩ (cZ r (cZ r (cZ r aF))))
 ·
  intro j26 hj34
  subst hj34
  refine aU<|aK<|sI r<|aH (fr':=[(0,.box 0 0),(2,.box 1 0),(3,.box 2 0),(6,aI),(7,aI)]) r r ?_
  obtain ⟨x35,hx35,h36⟩:=aG h25
  refine gZ mO (fun j37=>x35=j37) (fun (j37:(aD × (List (List UInt8))))=>([(0,.box 0 0),(2,.box 1 0),(3,.box 2 0)]:Fr)) (fun (j37:(aD × (List (List UInt8))))=>([[.c (PV.ls 1 gA j37.1.b_),ci j37.1.at_,ci j37.1.err_,.c (.bool j37.1.made_)],[.c (.str ([]:List UInt8)),ci 0,ci 0,ci 0,ci 0,ci 0,ci 0,ci 0,ci 0,AV.nil],[.c (.str x1.1),ci x6.1,ci x8.1,ci x10.1,ci x12.1,ci x14.1,ci x16.1,ci x18.1,ci x20.1,AV.os 0 1 gL j37.2]]:St)) ?_ ?_
  ·
   refine bZ<|gU _ (fun (s38:(Int × aD × (List (List UInt8))))=>([(0,.box 0 0),(2,.box 1 0),(3,.box 2 0),(6,ci x22.1),(7,ci s38.1)]:Fr)) (fun (s38:(Int × aD × (List (List UInt8))))=>([[.c (PV.ls 1 gA s38.2.1.b_),ci s38.2.1.at_,ci s38.2.1.err_,.c (.bool s38.2.1.made_)],[.c (.str ([]:List UInt8)),ci 0,ci 0,ci 0,ci 0,ci 0,ci 0,ci 0,ci 0,AV.nil],[.c (.str x1.1),ci x6.1,ci x8.1,ci x10.1,ci x12.1,ci x14.1,ci x16.1,ci x18.1,ci x20.1,AV.os 0 1 gL s38.2.2]]:St)) hx35 (bT [1000000] 3 r r r r ⟨lr,lr,lr,lr,lr,trivial⟩ (cZ r (cZ r (wR ⟨lr,lr,lr,lr,lr,lr,lr,lr,lr,(aB4 r),trivial⟩ aF)))) ?_
   intro s38 st38 hs38 ho38
   unfold fB at hs38
   obtain ⟨x39,hx39,h40⟩:=aG hs38
   refine nB (fun j41=>x39=Fl.go j41) (fun (j41:Unit)=>([(0,.box 0 0),(2,.box 1 0),(3,.box 2 0),(6,ci x22.1),(7,ci s38.1)]:Fr)) (fun (j41:Unit)=>([[.c (PV.ls 1 gA s38.2.1.b_),ci s38.2.1.at_,ci s38.2.1.err_,.c (.bool s38.2.1.made_)],[.c (.str ([]:List UInt8)),ci 0,ci 0,ci 0,ci 0,ci 0,ci 0,ci 0,ci 0,AV.nil],[.c (.str x1.1),ci x6.1,ci x8.1,ci x10.1,ci x12.1,ci x14.1,ci x16.1,ci x18.1,ci x20.1,AV.os 0 1 gL s38.2.2]]:St)) ?_ ?_
   ·
    refine aK<|mI r<|mI r<|aT r (fM r r)<|mB r<|aQx hx39 (fun hb42 h42=>?_) (fun hb42 h42=>?_)
    ·
     refine rO r r hb42<|mV (v:=.box 0 0) r<|rO r r hb42 ?_
     obtain ⟨x43,hx43,h44⟩:=aG h42
     refine dM (v:=aI) (σ':=[bW,bB,[aS,aI,aI,aI,aI,aI,aI,aI,aI,aO]]) [0] r (eV hx43) r r ⟨lr,trivial⟩ (eW ⟨r,r,r,r,trivial⟩ aF) r r r<|rO r r hb42<|aT r (dG r r)<|aT r (aI3 r hb42 r)<|aH (fr':=[(0,.box 0 0),(2,.box 1 0),(3,.box 2 0),(6,aI),(7,aI),(41,aB)]) r r<|cV h44 r (fun hb45 h45=>?_) (fun hb45 h45=>?_)
     ·
      exact bJ<|pG _ (sy h45) (bT [0] 3 r r r r ⟨lr,lr,lr,lr,lr,trivial⟩ (cZ r (cZ r (cZ r aF))))
     ·
      refine hH<|cX<|cX<|fU ?_
      have h46:=fI h45 h40
      have h47:=eY h46 ho38
      exact pG _ (sy h47) (bT [0] 3 r r r r ⟨lr,lr,lr,trivial⟩ (cZ r (cZ r (cZ r aF))))
    ·
     refine aL9 r r hb42<|aL9 r r hb42<|aL9 r r hb42<|aT r (aAW r hb42 r)<|aH (fr':=[(0,.box 0 0),(2,.box 1 0),(3,.box 2 0),(6,aI),(7,aI),(41,aB)]) r r<|aBh r<|hH<|cX<|cX<|fU ?_
     have h48:=fI h42 h40
     have h49:=eY h48 ho38
     exact pG _ (sy h49) (bT [0] 3 r r r r ⟨lr,lr,lr,trivial⟩ (cZ r (cZ r (cZ r aF))))
   ·
    intro j41 hj50
    have h50:=nG hj50 h40
    refine aU<|bZ<|jD [.q 0,.q 1,.q 2,.n 3 [0,1],.n 4 [0,1],.n 5 [],.q 6,.n 7 []] [(some 44,[3]),(some 45,[44]),(some 46,[0]),(some 47,[46]),(some 48,[47]),(some 49,[45,48]),(some 50,[3]),(none,[50,49])] [0,1,0,4,12,31,63,127] (by kernel_rfl)<|dq r r (bD qV r)<|dq r r (aJ (v:=aO) rG r r r)<|dq r r (bA (v:=.box 0 0) r)<|d_n r ?_ r
    obtain ⟨x51,hx51,h52⟩:=aG h50
    refine dM (v:=aS) (σ':=[bW,bB,[aS,aI,aI,aI,aI,aI,aI,aI,aI,aO]]) [0] r (iR hx51) r r ⟨lr,lr,trivial⟩ (eW ⟨r,r,r,r,trivial⟩ aF) r r r<|aBD<|⟨(aEv (v:=.box 2 9) r r (aDy r (bD qV r)) (aEv (v:=aO) r r (aDy r (aJ (v:=aO) rG r r r)) pS)),?_⟩
    refine d_n r ?_ r
    refine xX (row:=gL) (xs:=([x51.1]:List (List UInt8))) (rows:=[[_]]) (σ':=[bW,bB,[aS,aI,aI,aI,aI,aI,aI,aI,aI,aO]]) [0] aAe r r r (gX r pX) r r<|aBD<|⟨(aEv (v:=.box 2 9) r r (aDy r (bD qV r)) (aEv (v:=aO) r r (aDy r (aJ (v:=aO) rG r r r)) pS)),?_⟩
    refine d_n r ?_ r
    obtain ⟨x53,hx53,h54⟩:=aG h52
    refine aFB (row:=gL) aAe r yQ r (tW r) (fun _=>r) hx53<|aBD<|⟨pS,?_⟩
    refine dq r r (bD qV r)<|d_n r ?_ r
    refine bU (v:=aO) (us:=[aO]) (cs:=cI) (σ':=[bW,bB,[aS,aI,aI,aI,aI,aI,aI,aI,aI,aO]]) r rG r r r r r r r r<|aBD<|⟨pS,?_⟩
    exact aQf (fr':=[(0,.box 0 0),(2,.box 1 0),(3,.box 2 0),(6,aI),(7,aI)]) r<|dH<|cM<|aX<|mI r<|aT r (fL r r)<|sI r<|dT (fr':=[(0,.box 0 0),(2,.box 1 0),(3,.box 2 0),(6,aI),(7,aI)]) r<|e_l _ (sy h54) (bT [784] 3 r r r r ⟨lr,lr,lr,lr,lr,trivial⟩ (cZ r (cZ r (cZ r aF))))
  ·
   intro j37 hj55
   subst hj55
   refine cM ?_
   obtain ⟨x56,hx56,h57⟩:=aG h36
   refine nB (fun j58=>x56=j58) (fun (j58:aD)=>([(0,.box 0 0),(2,.box 1 0),(3,.box 2 0)]:Fr)) (fun (j58:aD)=>([[.c (PV.ls 1 gA j58.b_),ci j58.at_,ci j58.err_,.c (.bool j58.made_)],[.c (.str ([]:List UInt8)),ci 0,ci 0,ci 0,ci 0,ci 0,ci 0,ci 0,ci 0,AV.nil],[.c (.str x1.1),ci x6.1,ci x8.1,ci x10.1,ci x12.1,ci x14.1,ci x16.1,ci x18.1,ci x20.1,AV.os 0 1 gL x35.2]]:St)) ?_ ?_
   ·
    refine aK<|mV (v:=.box 0 0) r ?_
    obtain ⟨x59,hx59,h60⟩:=aG hx56
    refine dM (v:=aI) (σ':=[bW,bB,[aS,aI,aI,aI,aI,aI,aI,aI,aI,aO]]) [0] r (eV hx59) r r ⟨lr,trivial⟩ (eW ⟨r,r,r,r,trivial⟩ aF) r r r<|aT r (dG r r)<|mB r<|og r r r (fun hc=>(dJ (us:=[aS,aI,aI,aI,aI,aI,aI,aI,aI,aO]) aBF r r r r)) ?_
    obtain ⟨x61,hx61,h62⟩:=aG h60
    refine yS r r (fun hc=>bC (v:=aB) r (sM (dW hx61 hc)) ⟨(fK (gx r hc) (bO r ⟨r,r,r,r,r,r,r,r,r,r,trivial⟩)),trivial⟩ (gJ (by repeat (first | exact fF | refine aZ r ?_ | refine aZ (uH r) ?_ | refine aZ uG ?_))) r r) ?_
    refine og r r r (fun hc=>(fH (gx r hc)))<|aT r (cE r r r (fun e=>fW e))<|aH (fr':=[(0,.box 0 0),(2,.box 1 0),(3,.box 2 0),(58,aB)]) r r<|cV h62 r (fun hb63 h63=>?_) (fun hb63 h63=>?_)
    ·
     refine aX<|mV (v:=.box 0 0) r ?_
     obtain ⟨x64,hx64,h65⟩:=aG h63
     exact dM (v:=_) (σ':=[bW,bB,[aS,aI,aI,aI,aI,aI,aI,aI,aI,aO]]) [0] r (lI hx64) r r ⟨lr,lr,trivial⟩ (eW ⟨r,r,r,r,trivial⟩ aF) r r r<|dT (fr':=[(0,.box 0 0),(2,.box 1 0),(3,.box 2 0),(58,aB)]) r<|pG _ (sy h65) (bT [0] 3 r r r r ⟨lr,lr,lr,trivial⟩ (cZ r (cZ r (cZ r aF))))
    ·
     exact bJ<|pG _ (sy h63) (bT [0] 3 r r r r ⟨lr,lr,lr,trivial⟩ (cZ r (cZ r (cZ r aF))))
   ·
    intro j58 hj66
    subst hj66
    refine aU<|aK<|mV (v:=.box 0 0) r ?_
    obtain ⟨x67,hx67,h68⟩:=aG h57
    refine dM (v:=aI) (σ':=[bW,bB,[aS,aI,aI,aI,aI,aI,aI,aI,aI,aO]]) [0] r (eV hx67) r r ⟨lr,trivial⟩ (eW ⟨r,r,r,r,trivial⟩ aF) r r r<|aT r (gQ r r)<|aH (fr':=[(2,.box 1 0),(3,.box 2 0),(63,aB)]) r r<|cV h68 r (fun hb69 h69=>?_) (fun hb69 h69=>?_)
    ·
     refine aK<|aT r (iA (c0:=bB) (cs:=bB) aP0 r hZ)<|bU (v:=.agg bB) (us:=bB) (cs:=bB) (σ':=[bW,bB,[aS,aI,aI,aI,aI,aI,aI,aI,aI,aO]]) r aBF r r r r r r r r<|aH (fr':=[(2,.box 1 0)]) r r<|bI<|aN ?_
     obtain rfl:=sy h69
     exact bH (rs':=[.cell 2 28]) r<|fA (us:=bB) (cs:=bB) aBF r r r r<|bG<|aQ [] r r r (bO r ⟨r,r,r,r,r,r,r,r,r,⟨_,r⟩,trivial⟩) (eW ⟨r,r,r,r,trivial⟩ aF)
    ·
     refine bJ<|cM<|aK<|aT r (dJ (us:=[aS,aI,aI,aI,aI,aI,aI,aI,aI,aO]) aBF r r r r)<|bU (v:=.agg [aS,aI,aI,aI,aI,aI,aI,aI,aI,aO]) (us:=[aS,aI,aI,aI,aI,aI,aI,aI,aI,aO]) (cs:=bB) (σ':=[bW,[aS,aI,aI,aI,aI,aI,aI,aI,aI,aO],[aS,aI,aI,aI,aI,aI,aI,aI,aI,aO]]) r aBF r r r r r r r r<|aH (fr':=[(2,.box 1 0)]) r r<|bI ?_
     obtain rfl:=sy h69
     exact bH (rs':=[.cell 2 28]) r<|fA (us:=[aS,aI,aI,aI,aI,aI,aI,aI,aI,aO]) (cs:=[aS,aI,aI,aI,aI,aI,aI,aI,aI,aO]) aBF r r r r<|bG<|aQ [] r r r (bO r ⟨r,r,r,r,r,r,r,r,r,r,trivial⟩) (eW ⟨r,r,r,r,trivial⟩ aF)
end Go.Proofs.YtnigjppddilpcaaGreatDoor
