import Derived.Test.YtnigjppddilpcaaGreatDoorGETy
import Derived.Test.YtnigjppddilpcaaGreatDoorGEF0
import Derived.Test.YtnigjppddilpcaaGreatDoorGEF1
import Derived.Test.YtnigjppddilpcaaGreatDoorGEF4
namespace Go.Proofs.YtnigjppddilpcaaGreatDoor
open Go Abs
set_option maxRecDepth 100000
set_option linter.unusedVariables false
set_option linter.unusedSimpArgs false
noncomputable def fD (qY:Int→Int→aM→Option (aF × Int × aM)) (x1:(Int × aM)) (rT:Int) (mY:Int) (s10:(Int × Int × aM × (List aF) × (List (List UInt8)))):Option (dN (Int × Int × aM × (List aF) × (List (List UInt8))) (Fl (aF × Int × aM) (Int × aM × (List aF) × (List (List UInt8))))) :=
 cond (decide (s10.1<x1.1)) (((cond (decide (rT=5)) ((hG 9223372036854775807 s10.2.2.1).bind fun x16=>(gd (((decide (((x16.1).length:Int)≤4096))==true)&&((decide (s10.1=0))==false)) (lO s10.2.2.2.2 (IntKind.wrap .i64 (s10.1 - 1)))).bind fun x18=>(jY (cond (decide (((x16.1).length:Int)≤4096)) (cond (decide (s10.1=0)) true (!(Op.bytesLess x16.1 x18||decide (x16.1=x18)))) false) s10.2.1 x16.2).bind fun x20=>cond (!x20.1) (some (Fl.done (dN.out (Fl.done ((aF.mk 0 0 ([]:List UInt8) ([]:(List aF)) ([]:(List (List UInt8)))),s10.2.1,x20.2))))) ((app 16 s10.2.2.2.2 ([x16.1]:List (List UInt8))).bind fun x27=>some (Fl.go (x20.2,x27)))) (some (Fl.go (s10.2.2.1,s10.2.2.2.2)))):Option (Fl (dN (Int × Int × aM × (List aF) × (List (List UInt8))) (Fl (aF × Int × aM) (Int × aM × (List aF) × (List (List UInt8))))) (aM × (List (List UInt8))))).bind fun x12=>Fl.next x12 (fun j14=>((qY (IntKind.wrap .i64 (mY+1)) s10.2.1 j14.1).bind fun x30=>(gP x30.2.2).bind fun x32=>cond (!decide (x32=0)) (some (dN.out (Fl.done ((aF.mk 0 0 ([]:List UInt8) ([]:(List aF)) ([]:(List (List UInt8)))),x30.2.1,x30.2.2)))) ((app 80 s10.2.2.2.1 ([x30.1]:List aF)).bind fun x38=>some (dN.next ((IntKind.wrap .i64 (s10.1+1)),x30.2.1,x30.2.2,x38,j14.2)))))) (some (dN.out (Fl.go (s10.2.1,s10.2.2.1,s10.2.2.2.1,s10.2.2.2.2))))
mutual
noncomputable def gV:Nat→Int→Int→(List UInt8)→Int→Int→aM→Option (aF × Int × aM)
 | 0,_,_,_,_,_,_=>none
 | n+1,rT,zN,zO,mY,dU,jE =>
  (eC (-9223372036854775808) 9223372036854775807 jE).bind fun x1=>(jY (cond (decide (0≤x1.1)) (decide (x1.1≤1000)) false) dU x1.2).bind fun x3=>cond (!x3.1) (some ((aF.mk 0 0 ([]:List UInt8) ([]:(List aF)) ([]:(List (List UInt8)))),dU,x3.2)) ((fI (fD (eE n) x1 rT mY) ((0,dU,x3.2,([]:(List aF)),([]:(List (List UInt8)))))).bind fun x7=>Fl.next x7 (fun j9=>(some ((aF.mk rT zN zO j9.2.2.1 j9.2.2.2),j9.1,j9.2.1))))
noncomputable def eE:Nat→Int→Int→aM→Option (aF × Int × aM)
 | 0,_,_,_=>none
 | n+1,kZ,dU,jE =>
  (jY (cond (decide (dU<1000)) (decide (kZ≤16)) false) dU jE).bind fun x1=>cond (!x1.1) (some ((aF.mk 0 0 ([]:List UInt8) ([]:(List aF)) ([]:(List (List UInt8)))),dU,x1.2)) ((eC (-9223372036854775808) 9223372036854775807 x1.2).bind fun x5=>(jY (cond (decide (0≤x5.1)) (decide (x5.1≤5)) false) (IntKind.wrap .i64 (dU+1)) x5.2).bind fun x7=>cond (!x7.1) (some ((aF.mk 0 0 ([]:List UInt8) ([]:(List aF)) ([]:(List (List UInt8)))),(IntKind.wrap .i64 (dU+1)),x7.2)) (((cond (decide (x5.1=1)) ((eC (-9223372036854775808) 9223372036854775807 x7.2).bind fun x15=>(jY (cond (decide (x15.1=0)) true (decide (x15.1=1))) (IntKind.wrap .i64 (dU+1)) x15.2).bind fun x17=>some (Fl.go (x17.2,x15.1,([]:List UInt8)))) (cond (decide (x5.1=2)) ((eC (-9223372036854775808) 9223372036854775807 x7.2).bind fun x20=>some (Fl.go (x20.2,x20.1,([]:List UInt8)))) (cond (decide (x5.1=3)) ((hG 9223372036854775807 x7.2).bind fun x23=>(jY (decide (((x23.1).length:Int)≤4096)) (IntKind.wrap .i64 (dU+1)) x23.2).bind fun x25=>some (Fl.go (x25.2,0,x23.1))) (((cond (decide (x5.1=4)) (some (decide (x5.1=4))) (some (decide (x5.1=5)))):Option Bool).bind fun x27=>(cond x27 (((gV n) x5.1 0 ([]:List UInt8) kZ (IntKind.wrap .i64 (dU+1)) x7.2).bind fun x33=>some (Fl.done (x33.1,x33.2.1,x33.2.2))) (some (Fl.go (x7.2,0,([]:List UInt8))))))))):Option (Fl (aF × Int × aM) (aM × Int × (List UInt8)))).bind fun x11=>Fl.next x11 (fun j13=>(some ((aF.mk x5.1 j13.2.1 j13.2.2 ([]:(List aF)) ([]:(List (List UInt8)))),(IntKind.wrap .i64 (dU+1)),j13.1)))))
end
theorem aDI:∀ n:Nat,(∀ {rT:Int}{zN:Int}{zO:(List UInt8)}{mY:Int}{dU:Int}{jE:aM}{res:(aF × Int × aM)},gV n rT zN zO mY dU jE=some res→cX Tryz.prog 184 [.box 0 0,.agg [ci rT,ci zN,.c (.str zO),AV.nil,AV.nil],ci mY] [[.box 1 0,ci dU],AV.cs (fL jE)] (.agg (AV.cs (eR res.1))) [[.box 1 0,ci res.2.1],AV.cs (fL res.2.2)])∧(∀ {kZ:Int}{dU:Int}{jE:aM}{res:(aF × Int × aM)},eE n kZ dU jE=some res→cX Tryz.prog 145 [.box 0 0,ci kZ] [[.box 1 0,ci dU],AV.cs (fL jE)] (.agg (AV.cs (eR res.1))) [[.box 1 0,ci res.2.1],AV.cs (fL res.2.2)]):=by
 intro n
 induction n with
 | zero=>exact ⟨fun {rT zN zO mY dU jE res} h=>absurd h (by simp [gV]),fun {kZ dU jE res} h=>absurd h (by simp [eE])⟩
 | succ n ih =>
  obtain ⟨ih_value_decoder_items,ih_value_decoder_value⟩:=ih
  refine ⟨?_,?_⟩
  ·
   intro rT zN zO mY dU jE res h
   rw [gV] at h
   refine dR (fn:=Tryz.f184) [0,1,2,4,6,7,8,9,10,24,28,33,58,75] (by kernel_rfl) Tryz.func184 r (by kernel_rfl) (by kernel_rfl)<|aJ<|kP (v:=.agg bY) (n:=2) (cs:=bY) (σ':=[[bD,aI],eG,bY]) r r r r r<|jV (n:=3) (cs:=bY) (σ':=[[bD,aI],eG,bY,bY]) aDE r r r<|aH (fr':=[(0,aD),(2,aI),(4,dE),(6,jD)]) r r<|aJ<|mV (v:=aD) r<|aU r (iV r)<|aU r (bU aA4 r)<|aU r (aR (v:=bD) aJ2 r r r)<|bx h fun x1 hx1 h2=>dP (v:=aI) (σ':=[[bD,aI],eG,bY,bY]) [1] r (jG hx1) r r nW (fE sG aC) r r r<|sI r<|aH (fr':=[(0,aD),(2,aI),(4,dE),(6,jD),(7,aI)]) r r<|aX<|aJ<|mV (v:=aD) r<|mI r<|aU r (uE r r)<|mB r<|og r r r (fun hc=>(bK (v:=aI) r))<|og r r r (fun hc=>(rU (gx r hc) r))<|aU r (cS r r r (fun e=>hH e))<|bx h2 fun x3 hx3 h4=>dP (v:=aB) (σ':=[[bD,aI],eG,bY,bY]) [0,1] r (pX hx3) r r kR (qU kR (fE sG aC)) (iO (by repeat (first | exact fU | refine bG r ?_ | refine bG (vD r) ?_ | refine bG vC ?_))) r r ?_
   refine aU r (gX r)<|aH (fr':=[(0,aD),(2,aI),(4,dE),(6,jD),(7,aI),(24,aB)]) r r<|cU h4 r (fun hb5 h5=>?_) (fun hb5 h5=>?_)
   ·
    refine aJ<|aU r (fM (cs:=bY) aGq r)<|cN (v:=.agg bY) (us:=bY) (cs:=bY) (σ':=[[bD,aI],eG,bY,bY]) r jC r r r r r r r r<|aH (fr':=[(6,jD)]) r r<|bO<|aN ?_
    obtain rfl:=sy h5
    exact bN (rs':=[.cell 6 26]) r<|eX (us:=bY) (cs:=bY) jC r r r r<|bM<|aP [] r r r (cM r ⟨r,r,r,⟨_,r⟩,⟨_,r⟩,trivial⟩) (qU kR (fE sG aC))
   ·
    refine bI<|dB<|aX<|aJ<|sI r<|aH (fr':=[(0,aD),(2,aI),(4,dE),(6,jD),(7,aI),(8,aI)]) r r<|bx h5 fun x7 hx7 h8=>hF lP (fun j9=>x7=Fl.go j9) (fun (j9:(Int × aM × (List aF) × (List (List UInt8))))=>([(4,dE),(6,jD)]:Fr)) (fun (j9:(Int × aM × (List aF) × (List (List UInt8))))=>([[bD,ci j9.1],[.c (PV.ls 1 gW j9.2.1.b_),ci j9.2.1.at_,ci j9.2.1.err_,.c (.bool j9.2.1.made_)],[ci rT,ci zN,.c (.str zO),AV.os 0 5 cF j9.2.2.1,AV.os 1 1 iF j9.2.2.2],[ci 0,ci 0,.c (.str ([]:List UInt8)),AV.nil,AV.nil]]:St)) ?_ ?_
    ·
     refine cP<|gY _ (fun (s10:(Int × Int × aM × (List aF) × (List (List UInt8))))=>([(0,aD),(2,ci mY),(4,dE),(6,jD),(7,ci x1.1),(8,ci s10.1)]:Fr)) (fun (s10:(Int × Int × aM × (List aF) × (List (List UInt8))))=>([[bD,ci s10.2.1],[.c (PV.ls 1 gW s10.2.2.1.b_),ci s10.2.2.1.at_,ci s10.2.2.1.err_,.c (.bool s10.2.2.1.made_)],[ci rT,ci zN,.c (.str zO),AV.os 0 5 cF s10.2.2.2.1,AV.os 1 1 iF s10.2.2.2.2],[ci 0,ci 0,.c (.str ([]:List UInt8)),AV.nil,AV.nil]]:St)) hx7 (bJ [1000000,1000001] 4 r r r r kL6 (cO r (cO r (qU ⟨lr,lr,lr,(wK r),(wK r),trivial⟩ (cO r aC))))) ?_
     intro s10 st10 hs10 ho10
     unfold fD at hs10
     refine aX<|aJ<|mI r<|mI r<|aU r (fY r r)<|aH (fr':=[(0,aD),(2,aI),(4,dE),(6,jD),(7,aI),(8,aI),(28,aB)]) r r<|cU hs10 r (fun hb11 h11=>?_) (fun hb11 h11=>?_)
     ·
      refine bI<|dB<|aX<|cP<|bx h11 fun x12 hx12 h13=>kF (fun j14=>x12=Fl.go j14) (fun (j14:(aM × (List (List UInt8))))=>([(0,aD),(2,ci mY),(4,dE),(6,jD),(7,ci x1.1),(8,ci s10.1)]:Fr)) (fun (j14:(aM × (List (List UInt8))))=>([[bD,ci s10.2.1],[.c (PV.ls 1 gW j14.1.b_),ci j14.1.at_,ci j14.1.err_,.c (.bool j14.1.made_)],[ci rT,ci zN,.c (.str zO),AV.os 0 5 cF s10.2.2.2.1,AV.os 1 1 iF j14.2],[ci 0,ci 0,.c (.str ([]:List UInt8)),AV.nil,AV.nil]]:St)) ?_ ?_
      ·
       refine aJ<|aU r (bU mE r)<|aU r (aR (v:=aI) hU r r r)<|aU r (cQ r r)<|aH (fr':=[(0,aD),(2,aI),(4,dE),(6,jD),(7,aI),(8,aI),(33,aB)]) r r<|cU hx12 r (fun hb15 h15=>?_) (fun hb15 h15=>?_)
       ·
        refine aJ<|mV (v:=aD) r<|aU r (iV r)<|aU r (bU aA4 r)<|aU r (aR (v:=bD) aJ2 r r r)<|bx h15 fun x16 hx16 h17=>dP (v:=aS) (σ':=[[bD,aI],eG,[aI,aI,aS,aO,aO],bY]) [1] r (pY hx16) r r kR (fE sG aC) r r r<|sS r<|aH (fr':=[(0,aD),(2,aI),(4,dE),(6,jD),(7,aI),(8,aI),(9,aS)]) r r<|aX<|aJ<|mV (v:=aD) r<|mS r<|aU r (nR zZ r)<|aU r (rU r r)<|mB r<|og r r r (fun hc=>(bK (v:=aI) r))<|og r r r (fun hc=>(cQ (gx r hc) r))<|og r r r (fun hc=>(bK (v:=aB) (gx r hc)))<|hZ r r (fun hc=>iI r (bK (v:=aS) r))<|hZ r r (fun hc=>iI r (bU oI r))<|hZ r r (fun hc=>iI r (aR (v:=aO) qP (gx r hc) r r))<|hZ r r (fun hc=>iI r (bK (v:=aI) r))<|hZ r r (fun hc=>iI r (aCQ (gx r hc) r))<|bx h17 fun x18 hx18 h19=>hZ r r (fun hc=>iI r (lC (cs:=[PV.str _]) aAW (nB (gx r hc)) (gx r hc) (dM hx18 hc) r))<|hZ r r (fun hc=>iI r (fO (p:=PV.str _) rZ (gx r hc) r))<|hZ r r (fun hc=>iI r (aUx (gx r hc) (gx r hc)))<|og r r r (fun hc=>(dK (gx r hc) r r (fun e=>vF hc (hH e))))<|aU r (cS r r r (fun e=>hH e))<|bx h19 fun x20 hx20 h21=>dP (v:=aB) (σ':=[[bD,aI],eG,[aI,aI,aS,aO,aO],bY]) [0,1] r (pX hx20) r r kR (qU kR (fE sG aC)) (iO (by repeat (first | exact fU | refine bG r ?_ | refine bG (vD r) ?_ | refine bG vC ?_))) r r ?_
        refine aU r (gX r)<|aH (fr':=[(0,aD),(2,aI),(4,dE),(6,jD),(7,aI),(8,aI),(9,aS),(58,aB)]) r r<|cU h21 r (fun hb22 h22=>?_) (fun hb22 h22=>?_)
        ·
         refine aJ<|aU r (fM (cs:=bY) aGq r)<|cN (v:=.agg bY) (us:=bY) (cs:=bY) (σ':=[[bD,aI],eG,[aI,aI,aS,aO,aO],bY]) r jC r r r r r r r r<|aH (fr':=[(6,jD)]) r r<|bO<|aN<|aN<|bT<|aN<|aN<|bT<|aN<|aN ?_
         have h23:=gI h22 h13
         have h24:=eS h23 ho10
         have h25:=gI h24 h8
         obtain rfl:=sy h25
         exact bN (rs':=[.cell 6 26]) r<|eX (us:=bY) (cs:=bY) jC r r r r<|bM<|aP [] r r r (cM r ⟨r,r,r,⟨_,r⟩,⟨_,r⟩,trivial⟩) (qU kR (fE sG aC))
        ·
         exact bI<|dB<|bA<|aU r (bU oI r)<|aU r (aR (v:=aO) qP r r r)<|mS r<|uU (row:=iF) (xs:=([x16.1]:List (List UInt8))) (rows:=[[_]]) (σ':=[[bD,aI],eG,[aI,aI,aS,aO,aO],bY]) [0] aAW r r r (fR r oL) r r<|bx h22 fun x27 hx27 h28=>aCn (row:=iF) aAW r yV r (nB r) (fun _=>r) hx27<|aU r (bU oI r)<|cN (v:=aO) (us:=[aO]) (cs:=[aI,aI,aS,aO,aL]) (σ':=[[bD,aI],eG,[aI,aI,aS,aO,aO],bY]) r qP r r r r r r r r<|dQ (fr':=[(0,aD),(2,aI),(4,dE),(6,jD),(7,aI),(8,aI),(9,aS),(58,aB)]) r<|lB _ (sy h28) (bJ [0,1024] 4 r r r r kL6 (cO r (cO r (cO r (cO r aC)))))
       ·
        exact bI<|lB _ (sy h15) (bJ [0,1] 4 r r r r kL6 (cO r (cO r (cO r (cO r aC)))))
      ·
       intro j14 hj29
       have h29:=nY hj29 h13
       refine aJ<|mV (v:=aD) r<|mI r<|aU r (fX r r)<|bx h29 fun x30 hx30 h31=>dP (v:=.agg cJ) (σ':=[[bD,aI],eG,[aI,aI,aS,aO,aO],bY]) [0,1] r (ih_value_decoder_value hx30) r r kR (qU kR (fE sG aC)) r r r<|jV (n:=4) (cs:=bY) (σ':=[[bD,aI],eG,[aI,aI,aS,aO,aO],bY,bY]) aDE r r r<|cN (v:=.agg cJ) (us:=cJ) (cs:=bY) (σ':=[[bD,aI],eG,[aI,aI,aS,aO,aO],bY,cJ]) r jC r r r r r r r r<|aH (fr':=[(0,aD),(2,aI),(4,dE),(6,jD),(7,aI),(8,aI),(10,aOY)]) r r<|aX<|aJ<|mV (v:=aD) r<|aU r (iV r)<|aU r (bU aA4 r)<|aU r (aR (v:=bD) aJ2 r r r)<|bx h31 fun x32 hx32 h33=>dP (v:=aI) (σ':=[[bD,aI],eG,[aI,aI,aS,aO,aO],bY,cJ]) [1] r (jF hx32) r r ⟨lr,trivial⟩ (fE sG aC) r r r<|aU r (iZ r r)<|aH (fr':=[(0,aD),(2,aI),(4,dE),(6,jD),(7,aI),(8,aI),(10,aOY),(75,aB)]) r r<|cU h33 r (fun hb34 h34=>?_) (fun hb34 h34=>?_)
       ·
        refine aJ<|aU r (fM (cs:=bY) aGq r)<|cN (v:=.agg bY) (us:=bY) (cs:=bY) (σ':=[[bD,aI],eG,[aI,aI,aS,aO,aO],bY,cJ]) r jC r r r r r r r r<|aH (fr':=[(6,jD)]) r r<|bO<|aN<|bT<|aN<|aN<|bT<|aN<|aN ?_
        have h35:=eS h34 ho10
        have h36:=gI h35 h8
        obtain rfl:=sy h36
        exact bN (rs':=[.cell 6 26]) r<|eX (us:=bY) (cs:=bY) jC r r r r<|bM<|aP [] r r r (cM r ⟨r,r,r,⟨_,r⟩,⟨_,r⟩,trivial⟩) (qU kR (fE sG aC))
       ·
        exact bI<|dB<|bA<|aU r (bU iB r)<|aU r (aR (v:=aO) nS r r r)<|aU r (eL (us:=cJ) jC r r r r)<|uU (row:=cF) (xs:=([x30.1]:List aF)) (rows:=[[_,_,_,_,_]]) (σ':=[[bD,aI],eG,[aI,aI,aS,aO,aO],bY,cJ]) [0,0,0,5,1] uF r r r (fR (dZ _) oL) r r<|bx h34 fun x38 hx38 h39=>aCn (row:=cF) uF r vL r (nB r) aDU hx38<|aU r (bU iB r)<|cN (v:=aO) (us:=[aO]) (cs:=[aI,aI,aS,aL,aO]) (σ':=[[bD,aI],eG,[aI,aI,aS,aO,aO],bY,cJ]) r nS r r r r r r r r<|dQ (fr':=[(0,aD),(2,aI),(4,dE),(6,jD),(7,aI),(8,aI),(10,aOY),(75,aB)]) r<|dI<|dB<|bA<|mI r<|aU r (fX r r)<|sI r<|dQ (fr':=[(0,aD),(2,aI),(4,dE),(6,jD),(7,aI),(8,aI),(10,aOY),(75,aB)]) r<|zY _ (sy h39) (bJ [1296,1] 4 r r r r kL6 (cO r (cO r (cO r (cO r aC)))))
     ·
      refine iE<|cZ<|cZ<|fT ?_
      have h40:=eS h11 ho10
      exact lB _ (sy h40) (bJ [0,1] 4 r r r r kR (cO r (cO r (cO r (cO r aC)))))
    ·
     intro j9 hj41
     have h41:=nY hj41 h8
     refine dB<|aJ<|aU r (eL (us:=[aI,aI,aS,aO,aO]) jC r r r r)<|cN (v:=.agg [aI,aI,aS,aO,aO]) (us:=[aI,aI,aS,aO,aO]) (cs:=bY) (σ':=[[bD,aI],eG,[aI,aI,aS,aO,aO],[aI,aI,aS,aO,aO]]) r jC r r r r r r r r<|aH (fr':=[(6,jD)]) r r<|bO ?_
     obtain rfl:=sy h41
     exact bN (rs':=[.cell 6 26]) r<|eX (us:=[aI,aI,aS,aO,aO]) (cs:=[aI,aI,aS,aO,aO]) jC r r r r<|bM<|aP [] r r r (cM r kR5) (qU kR (fE sG aC))
  ·
   intro kZ dU jE res h
   rw [eE] at h
   refine dR (fn:=Tryz.f145) [0,1,4,5,17,42,45,46,64,72,86] (by kernel_rfl) Tryz.func145 r (by kernel_rfl) (by kernel_rfl)<|aJ<|jV (n:=2) (cs:=bY) (σ':=[[bD,aI],eG,bY]) aDE r r r<|aH (fr':=[(0,aD),(1,aI),(4,dE)]) r r<|aX<|aJ<|mV (v:=aD) r<|mV (v:=aD) r<|aU r (iV r)<|aU r (bU aLA r)<|aU r (aR (v:=aI) hU r r r)<|aU r (fY r r)<|mB r<|og r r r (fun hc=>(bK (v:=aI) r))<|og r r r (fun hc=>(rU (gx r hc) r))<|aU r (cS r r r (fun e=>hH e))<|bx h fun x1 hx1 h2=>dP (v:=aB) (σ':=[[bD,aI],eG,bY]) [0,1] r (pX hx1) r r kR (qU kR (fE sG aC)) (iO (by repeat (first | exact fU | refine bG r ?_ | refine bG (vD r) ?_ | refine bG vC ?_))) r r ?_
   refine aU r (gX r)<|aH (fr':=[(0,aD),(1,aI),(4,dE),(17,aB)]) r r<|cU h2 r (fun hb3 h3=>?_) (fun hb3 h3=>?_)
   ·
    refine aJ<|aU r (fM (cs:=bY) aGq r)<|cN (v:=.agg bY) (us:=bY) (cs:=bY) (σ':=[[bD,aI],eG,bY]) r jC r r r r r r r r<|aH (fr':=[(4,dE)]) r r<|bO<|aN ?_
    obtain rfl:=sy h3
    exact bN (rs':=[.cell 4 26]) r<|eX (us:=bY) (cs:=bY) jC r r r r<|bM<|aP [] r r r (cM r ⟨r,r,r,⟨_,r⟩,⟨_,r⟩,trivial⟩) (qU kR (fE sG aC))
   ·
    refine bI<|dB<|aJ<|mV (v:=aD) r<|aU r (iV r)<|aU r (bU aLA r)<|aU r (aR (v:=aI) hU r r r)<|aU r (fX r r)<|aU r (iV r)<|aU r (bU aLA r)<|cN (v:=aI) (us:=[aI]) (cs:=[bD,aI]) (σ':=[[bD,aI],eG,bY]) r hU r r r r r r r r<|aH (fr':=[(0,aD),(1,aI),(4,dE)]) r r<|aJ<|mV (v:=aD) r<|aU r (iV r)<|aU r (bU aA4 r)<|aU r (aR (v:=bD) aJ2 r r r)<|bx h3 fun x5 hx5 h6=>dP (v:=aI) (σ':=[[bD,aI],eG,bY]) [1] r (jG hx5) r r nW (fE sG aC) r r r<|aU r (fM (cs:=bY) aGq r)<|jV (n:=3) (cs:=bY) (σ':=[[bD,aI],eG,bY,bY]) aDE r r r<|cN (v:=.agg bY) (us:=bY) (cs:=bY) (σ':=[[bD,aI],eG,bY,bY]) r jC r r r r r r r r<|aH (fr':=[(0,aD),(1,aI),(4,dE),(5,jD)]) r r<|aX<|aJ<|mV (v:=aD) r<|aU r (bU mE r)<|aU r (aR (v:=aI) hU r r r)<|aU r (uE r r)<|mB r<|og r r r (fun hc=>(bU mE r))<|og r r r (fun hc=>(aR (v:=aI) hU (gx r hc) r r))<|og r r r (fun hc=>(rU (gx r hc) r))<|aU r (cS r r r (fun e=>hH e))<|bx h6 fun x7 hx7 h8=>dP (v:=aB) (σ':=[[bD,aI],eG,bY,bY]) [0,1] r (pX hx7) r r kR (qU kR (fE sG aC)) (iO (by repeat (first | exact fU | refine bG r ?_ | refine bG (vD r) ?_ | refine bG vC ?_))) r r ?_
    refine aU r (gX r)<|aH (fr':=[(0,aD),(1,aI),(4,dE),(5,jD),(42,aB)]) r r<|cU h8 r (fun hb9 h9=>?_) (fun hb9 h9=>?_)
    ·
     refine aJ<|aU r (fM (cs:=bY) aGq r)<|cN (v:=.agg bY) (us:=bY) (cs:=bY) (σ':=[[bD,aI],eG,bY,bY]) r jC r r r r r r r r<|aH (fr':=[(4,dE)]) r r<|bO<|aN ?_
     obtain rfl:=sy h9
     exact bN (rs':=[.cell 4 26]) r<|eX (us:=bY) (cs:=bY) jC r r r r<|bM<|aP [] r r r (cM r ⟨r,r,r,⟨_,r⟩,⟨_,r⟩,trivial⟩) (qU kR (fE sG aC))
    ·
     refine bI<|dB<|bx h9 fun x11 hx11 h12=>kF (fun j13=>x11=Fl.go j13) (fun (j13:(aM × Int × (List UInt8)))=>([(4,dE),(5,jD)]:Fr)) (fun (j13:(aM × Int × (List UInt8)))=>([[bD,ci (IntKind.wrap .i64 (dU+(1:Int)))],[.c (PV.ls 1 gW j13.1.b_),ci j13.1.at_,ci j13.1.err_,.c (.bool j13.1.made_)],[ci 0,ci 0,.c (.str ([]:List UInt8)),AV.nil,AV.nil],[ci x5.1,ci j13.2.1,.c (.str j13.2.2),AV.nil,AV.nil]]:St)) ?_ ?_
     ·
      refine aJ<|aU r (bU mE r)<|aU r (aR (v:=aI) hU r r r)<|aH (fr':=[(0,aD),(1,aI),(4,dE),(5,jD),(45,aI)]) r r<|cP<|aJ<|aU r (cQ r r)<|sB r<|aH (fr':=[(0,aD),(1,aI),(4,dE),(5,jD),(45,aI),(46,aB)]) r r<|cU hx11 r (fun hb14 h14=>?_) (fun hb14 h14=>?_)
      ·
       refine aJ<|mV (v:=aD) r<|aU r (iV r)<|aU r (bU aA4 r)<|aU r (aR (v:=bD) aJ2 r r r)<|bx h14 fun x15 hx15 h16=>dP (v:=aI) (σ':=[[bD,aI],eG,bY,bY]) [1] r (jG hx15) r r nW (fE sG aC) r r r<|aU r (bU rO r)<|cN (v:=aI) (us:=[aI]) (cs:=bY) (σ':=[[bD,aI],eG,bY,bY]) r hU r r r r r r r r<|aH (fr':=[(0,aD),(4,dE),(5,jD)]) r r<|bA<|mV (v:=aD) r<|aU r (bU rO r)<|aU r (aR (v:=aI) hU r r r)<|aU r (cQ r r)<|mB r<|og r r r (fun hc=>(bU rO r))<|og r r r (fun hc=>(aR (v:=aI) hU (gx r hc) r r))<|og r r r (fun hc=>(cQ (gx r hc) r))<|aU r (dK r r r (fun e=>hH e))<|bx h16 fun x17 hx17 h18=>dP (v:=aB) (σ':=[[bD,aI],eG,bY,bY]) [0,1] r (pX hx17) r r kR (qU kR (fE sG aC)) (iO (by repeat (first | exact fU | refine bG r ?_ | refine bG (vD r) ?_ | refine bG vC ?_))) r r ?_
       exact dQ (fr':=[(0,aD),(4,dE),(5,jD)]) r<|dI<|lB _ (sy h18) (bJ [] 4 r r r r kR (cO r (cO r (cO r (cO r aC)))))
      ·
       refine aJ<|aU r (cQ r r)<|sB r<|aH (fr':=[(0,aD),(1,aI),(4,dE),(5,jD),(45,aI),(64,aB)]) r r<|cU h14 r (fun hb19 h19=>?_) (fun hb19 h19=>?_)
       ·
        exact bA<|mV (v:=aD) r<|aU r (iV r)<|aU r (bU aA4 r)<|aU r (aR (v:=bD) aJ2 r r r)<|bx h19 fun x20 hx20 h21=>dP (v:=aI) (σ':=[[bD,aI],eG,bY,bY]) [1] r (jG hx20) r r nW (fE sG aC) r r r<|aU r (bU rO r)<|cN (v:=aI) (us:=[aI]) (cs:=bY) (σ':=[[bD,aI],eG,bY,bY]) r hU r r r r r r r r<|dQ (fr':=[(0,aD),(1,aI),(4,dE),(5,jD),(45,aI),(64,aB)]) r<|dI<|lB _ (sy h21) (bJ [] 4 r r r r kR (cO r (cO r (cO r (cO r aC)))))
       ·
        refine aJ<|aU r (cQ r r)<|sB r<|aH (fr':=[(0,aD),(1,aI),(4,dE),(5,jD),(45,aI),(72,aB)]) r r<|cU h19 r (fun hb22 h22=>?_) (fun hb22 h22=>?_)
        ·
         exact aJ<|mV (v:=aD) r<|aU r (iV r)<|aU r (bU aA4 r)<|aU r (aR (v:=bD) aJ2 r r r)<|bx h22 fun x23 hx23 h24=>dP (v:=aS) (σ':=[[bD,aI],eG,bY,bY]) [1] r (pY hx23) r r kR (fE sG aC) r r r<|aU r (bU uA r)<|cN (v:=aS) (us:=[aS]) (cs:=bY) (σ':=[[bD,aI],eG,bY,bY]) r rZ r r r r r r r r<|aH (fr':=[(0,aD),(4,dE),(5,jD)]) r r<|bA<|mV (v:=aD) r<|aU r (bU uA r)<|aU r (aR (v:=aS) rZ r r r)<|aU r (nR zZ r)<|aU r (rU r r)<|bx h24 fun x25 hx25 h26=>dP (v:=aB) (σ':=[[bD,aI],eG,bY,bY]) [0,1] r (pX hx25) r r kR (qU kR (fE sG aC)) r r r<|dQ (fr':=[(0,aD),(4,dE),(5,jD)]) r<|dI<|lB _ (sy h26) (bJ [] 4 r r r r kR (cO r (cO r (cO r (cO r aC)))))
        ·
         obtain ⟨x27,hx27,h28⟩:=eF h22
         refine kF (fun j29=>x27=j29) (fun (j29:Bool)=>([(0,aD),(1,ci kZ),(4,dE),(5,jD),(86,.c (.bool j29))]:Fr)) (fun (j29:Bool)=>([[bD,ci (IntKind.wrap .i64 (dU+(1:Int)))],[.c (PV.ls 1 gW x7.2.b_),ci x7.2.at_,ci x7.2.err_,.c (.bool x7.2.made_)],[ci 0,ci 0,.c (.str ([]:List UInt8)),AV.nil,AV.nil],[ci x5.1,ci 0,.c (.str ([]:List UInt8)),AV.nil,AV.nil]]:St)) ?_ ?_
         ·
          refine aJ<|aU r (cQ r r)<|sB r<|aH (fr':=[(0,aD),(1,aI),(4,dE),(5,jD),(45,aI),(86,aB)]) r r<|cU hx27 r (fun hb30 h30=>?_) (fun hb30 h30=>?_)
          ·
           exact bI<|lB _ (sy h30) (bJ [] 4 r r r r kL5 (cO r (cO r (cO r (cO r aC)))))
          ·
           exact bA<|aU r (cQ r r)<|sB r<|dQ (fr':=[(0,aD),(1,aI),(4,dE),(5,jD),(45,aI),(86,aB)]) r<|lB _ (sy h30) (bJ [] 4 r r r r kL5 (cO r (cO r (cO r (cO r aC)))))
         ·
          intro j29 hj31
          subst hj31
          refine cU h28 r (fun hb32 h32=>?_) (fun hb32 h32=>?_)
          ·
           refine aJ<|mV (v:=aD) r<|aU r (eL (us:=bY) jC r r r r)<|mI r<|bx h32 fun x33 hx33 h34=>dP (v:=.agg cJ) (σ':=[[bD,aI],eG,bY,bY]) [0,1] r (ih_value_decoder_items hx33) r r ⟨lr,(aO7 r kL5),lr,trivial⟩ (qU kR (fE sG aC)) r r r<|cN (v:=.agg cJ) (us:=cJ) (cs:=bY) (σ':=[[bD,aI],eG,cJ,bY]) r jC r r r r r r r r<|aH (fr':=[(4,dE)]) r r<|bO<|bT<|aN ?_
           have h35:=gI h34 h12
           obtain rfl:=sy h35
           exact bN (rs':=[.cell 4 26]) r<|eX (us:=cJ) (cs:=cJ) jC r r r r<|bM<|aP [] r r r (cM r kR5) (qU kR (fE sG aC))
          ·
           exact bI<|dI<|lB _ (sy h32) (bJ [] 4 r r r r kR (cO r (cO r (cO r (cO r aC)))))
     ·
      intro j13 hj37
      have h37:=nY hj37 h12
      refine aJ<|aU r (eL (us:=bY) jC r r r r)<|cN (v:=.agg bY) (us:=bY) (cs:=bY) (σ':=[[bD,aI],eG,bY,bY]) r jC r r r r r r r r<|aH (fr':=[(4,dE)]) r r<|bO ?_
      obtain rfl:=sy h37
      exact bN (rs':=[.cell 4 26]) r<|eX (us:=bY) (cs:=bY) jC r r r r<|bM<|aP [] r r r (cM r ⟨r,r,r,⟨_,r⟩,⟨_,r⟩,trivial⟩) (qU kR (fE sG aC))
noncomputable def uN (kZ:Int) (dU:Int) (jE:aM):Option (aF × Int × aM):=lim fun n=>eE n kZ dU jE
theorem aD5 {kZ:Int}{dU:Int}{jE:aM}{res:(aF × Int × aM)} (h:uN kZ dU jE=some res):cX Tryz.prog 145 [.box 0 0,ci kZ] [[.box 1 0,ci dU],AV.cs (fL jE)] (.agg (AV.cs (eR res.1))) [[.box 1 0,ci res.2.1],AV.cs (fL res.2.2)]:=by
 obtain ⟨n,hn⟩:=qN h
 exact (aDI n).2 hn
noncomputable def rP (dA:aM):Option (aF × aM) :=
 (((gP dA).bind fun x4=>cond (decide (x4=1)) (some (Fl.done ((aF.mk 0 0 ([]:List UInt8) ([]:(List aF)) ([]:(List (List UInt8)))),dA))) (some (Fl.go ()))):Option (Fl (aF × aM) Unit)).bind fun x1=>Fl.next x1 (fun j3=>((uN 1 0 dA).bind fun x10=>(gP x10.2.2).bind fun x12=>cond (!decide (x12=0)) (some ((aF.mk 0 0 ([]:List UInt8) ([]:(List aF)) ([]:(List (List UInt8)))),x10.2.2)) (some (x10.1,x10.2.2))))
theorem aJC {dA:aM}{res:(aF × aM)} (h:rP dA=some res):cX Tryz.prog 72 [.box 0 0] [AV.cs (fL dA)] (.agg (AV.cs (eR res.1))) [AV.cs (fL res.2)]:=by
 unfold rP at h
 refine dR (fn:=Tryz.f72) [0,2,3,4,11,20] (by kernel_rfl) Tryz.func72 r (by kernel_rfl) (by kernel_rfl)<|aJ<|jV (n:=1) (cs:=bY) (σ':=[eG,bY]) aDE r r r<|aH (fr':=[(0,aD),(2,bD)]) r r<|bx h fun x1 hx1 h2=>kF (fun j3=>x1=Fl.go j3) (fun (j3:Unit)=>([(0,aD),(2,bD)]:Fr)) (fun (j3:Unit)=>([[.c (PV.ls 1 gW dA.b_),ci dA.at_,ci dA.err_,.c (.bool dA.made_)],[ci 0,ci 0,.c (.str ([]:List UInt8)),AV.nil,AV.nil]]:St)) ?_ ?_
 ·
  refine aJ<|mV (v:=aD) r<|aU r (aGW aTt r r)<|mB r<|nK r r r<|mV (v:=aD) r<|nK r r r<|bx hx1 fun x4 hx4 h5=>dP (v:=aI) (σ':=[eG,bY]) [0] r (jF hx4) r r ⟨lr,trivial⟩ (fE sG aC) r r r<|nK r r r<|aU r (cQ r r)<|aU r (sN r r r)<|aH (fr':=[(0,aD),(2,bD),(11,aB)]) r r<|cU h5 r (fun hb6 h6=>?_) (fun hb6 h6=>?_)
  ·
   refine aJ<|aU r (fM (cs:=bY) aGq r)<|cN (v:=.agg bY) (us:=bY) (cs:=bY) (σ':=[eG,bY]) r jC r r r r r r r r<|aH (fr':=[(2,bD)]) r r<|bO<|aN ?_
   have h7:=gI h6 h2
   obtain rfl:=sy h7
   exact bN (rs':=[.cell 2 26]) r<|eX (us:=bY) (cs:=bY) jC r r r r<|bM<|aP [] r r r (cM r ⟨r,r,r,⟨_,r⟩,⟨_,r⟩,trivial⟩) (fE sG aC)
  ·
   exact bI<|lB _ (sy h6) (bJ [] 2 r r r r kR (cO r (cO r aC)))
 ·
  intro j3 hj9
  have h9:=nY hj9 h2
  refine aJ<|mV (v:=aD) r<|aU r (fM (cs:=[aD,aI]) aVY r)<|kP (v:=.agg [aD,aI]) (n:=2) (cs:=[aD,aI]) (σ':=[eG,bY,[aD,aI]]) r r r r r<|sV (v:=dE) r<|aH (fr':=[(0,aD),(2,bD),(3,dE)]) r r<|aJ<|mV (v:=dE) r<|bx h9 fun x10 hx10 h11=>dP (v:=.agg cJ) (σ':=[eG,bY,[aD,aI]]) [2,0] r (aD5 hx10) r r kR (qU kR (fE sG aC)) r r r<|jV (n:=3) (cs:=bY) (σ':=[eG,bY,[aD,aI],bY]) aDE r r r<|cN (v:=.agg cJ) (us:=cJ) (cs:=bY) (σ':=[eG,bY,[aD,aI],cJ]) r jC r r r r r r r r<|aH (fr':=[(0,aD),(2,bD),(4,jD)]) r r<|aX<|aJ<|mV (v:=aD) r<|bx h11 fun x12 hx12 h13=>dP (v:=aI) (σ':=[eG,bY,[aD,aI],cJ]) [0] r (jF hx12) r r ⟨lr,trivial⟩ (fE sG aC) r r r<|aU r (iZ r r)<|aH (fr':=[(2,bD),(4,jD),(20,aB)]) r r<|cU h13 r (fun hb14 h14=>?_) (fun hb14 h14=>?_)
  ·
   refine aJ<|aU r (fM (cs:=bY) aGq r)<|cN (v:=.agg bY) (us:=bY) (cs:=bY) (σ':=[eG,bY,[aD,aI],cJ]) r jC r r r r r r r r<|aH (fr':=[(2,bD)]) r r<|bO<|aN ?_
   obtain rfl:=sy h14
   exact bN (rs':=[.cell 2 26]) r<|eX (us:=bY) (cs:=bY) jC r r r r<|bM<|aP [] r r r (cM r ⟨r,r,r,⟨_,r⟩,⟨_,r⟩,trivial⟩) (fE sG aC)
  ·
   refine bI<|dB<|aJ<|aU r (eL (us:=cJ) jC r r r r)<|cN (v:=.agg cJ) (us:=cJ) (cs:=bY) (σ':=[eG,cJ,[aD,aI],cJ]) r jC r r r r r r r r<|aH (fr':=[(2,bD)]) r r<|bO ?_
   obtain rfl:=sy h14
   exact bN (rs':=[.cell 2 26]) r<|eX (us:=cJ) (cs:=cJ) jC r r r r<|bM<|aP [] r r r (cM r kR5) (fE sG aC)
noncomputable def sK (lQ:(List UInt8)) (dU:Int) (aH2:Int) (aH3:Int) (aH4:Int) (aH5:Int) (aH6:Int) (aH7:Int) (aH8:Int):Option Unit :=
 some ()
theorem aEA {lQ:(List UInt8)}{dU:Int}{aH2:Int}{aH3:Int}{aH4:Int}{aH5:Int}{aH6:Int}{aH7:Int}{aH8:Int}{res:Unit} (h:sK lQ dU aH2 aH3 aH4 aH5 aH6 aH7 aH8=some res):cX Tryz.prog 146 [.box 0 0] [[.c (.str lQ),ci dU,ci aH2,ci aH3,ci aH4,ci aH5,ci aH6,ci aH7,ci aH8,AV.nil]] (.ptrs [(0,1),(0,2),(0,3),(0,4),(0,5),(0,6),(0,7),(0,8)]) [[.c (.str lQ),ci dU,ci aH2,ci aH3,ci aH4,ci aH5,ci aH6,ci aH7,ci aH8,AV.nil]]:=by
 unfold sK at h
 refine dR (fn:=Tryz.f146) [0,2] (by kernel_rfl) Tryz.func146 r (by kernel_rfl) (by kernel_rfl)<|aJ<|sV (v:=AV.nil) r<|aH (fr':=[(0,aD)]) r r<|aX<|lJ [.q 0,.q 1,.q 2,.q 3,.q 4,.q 5,.q 6,.q 7,.q 8,.q 9,.q 10,.q 11,.q 12,.q 13,.q 14,.q 15,.q 16,.q 17,.q 18,.q 19,.q 20,.q 21,.q 22,.q 23,.n 24 [],.n 25 []] [(some 3,[0]),(some 4,[3]),(some 5,[4]),(some 6,[0]),(some 7,[6]),(some 8,[7]),(some 9,[0]),(some 10,[9]),(some 11,[10]),(some 12,[0]),(some 13,[12]),(some 14,[13]),(some 15,[0]),(some 16,[15]),(some 17,[16]),(some 18,[0]),(some 19,[18]),(some 20,[19]),(some 21,[0]),(some 22,[21]),(some 23,[22]),(some 24,[0]),(some 25,[24]),(some 26,[25]),(some 27,[5,8,11,14,17,20,23,26]),(some 2,[27])] [0,1,3,0,8,24,0,64,192,0,512,1536,0,4096,12288,0,32768,98304,0,262144,786432,0,2097152,6291456,16777215,33554431] (by kernel_rfl)<|dq r r (bK (v:=aD) r)<|dq r r (iV r)<|dq r r (bU aFA r)<|dq r r (bK (v:=aD) r)<|dq r r (iV r)<|dq r r (bU aFB r)<|dq r r (bK (v:=aD) r)<|dq r r (iV r)<|dq r r (bU aFC r)<|dq r r (bK (v:=aD) r)<|dq r r (iV r)<|dq r r (bU aFD r)<|dq r r (bK (v:=aD) r)<|dq r r (iV r)<|dq r r (bU aFE r)<|dq r r (bK (v:=aD) r)<|dq r r (iV r)<|dq r r (bU aFF r)<|dq r r (bK (v:=aD) r)<|dq r r (iV r)<|dq r r (bU aFG r)<|dq r r (bK (v:=aD) r)<|dq r r (iV r)<|dq r r (bU aFH r)<|d_n r ?_ r
 refine aOi (l:=[(0,1),(0,2),(0,3),(0,4),(0,5),(0,6),(0,7),(0,8)]) uG r r r r<|aAL<|⟨pI,?_⟩
 refine d_n r ?_ r
 refine sV (v:=.ptrs [(0,1),(0,2),(0,3),(0,4),(0,5),(0,6),(0,7),(0,8)]) r<|aAL<|⟨pI,?_⟩
 refine aAe (fr':=[(2,.ptrs [(0,1),(0,2),(0,3),(0,4),(0,5),(0,6),(0,7),(0,8)])]) r r<|bO ?_
 obtain rfl:=sy h
 exact bN (rs':=[.tmp 2]) r<|cE (v:=.ptrs [(0,1),(0,2),(0,3),(0,4),(0,5),(0,6),(0,7),(0,8)]) r<|bM<|aO6 [] r r r lr (cO r aC)
noncomputable def iK (dA:aM):Option (Int × aM) :=
 (eC (-9223372036854775808) 9223372036854775807 dA).bind fun x1=>some (x1.1,x1.2)
theorem mF {dA:aM}{res:(Int × aM)} (h:iK dA=some res):cX Tryz.prog 147 [.box 0 0] [AV.cs (fL dA)] (ci res.1) [AV.cs (fL res.2)]:=by
 unfold iK at h
 refine dR (fn:=Tryz.f147) [0,2] (by kernel_rfl) Tryz.func147 r (by kernel_rfl) (by kernel_rfl)<|aJ<|sI r<|aH (fr':=[(0,aD)]) r r<|aJ<|mV (v:=aD) r<|bx h fun x1 hx1 h2=>dP (v:=aI) (σ':=[eG]) [0] r (jG hx1) r r nW (fE sG aC) r r r<|sI r<|aH (fr':=[(2,aI)]) r r<|bO ?_
 obtain rfl:=sy h2
 exact bN (rs':=[.tmp 2]) r<|cE (v:=aI) r<|bM<|aP [] r r r lr (fE sG aC)
noncomputable def jT (x22:(Int × aM)) (s38:(Int × aM × (List (List UInt8)))):Option (dN (Int × aM × (List (List UInt8))) (aM × (List (List UInt8)))) :=
 ((cond (decide (s38.1<x22.1)) ((gP s38.2.1).bind fun x43=>cond (decide (x43=0)) (some (Fl.go ())) (some (Fl.done (dN.out (s38.2.1,s38.2.2))))) (some (Fl.done (dN.out (s38.2.1,s38.2.2))))):Option (Fl (dN (Int × aM × (List (List UInt8))) (aM × (List (List UInt8)))) Unit)).bind fun x39=>Fl.next x39 (fun j41=>((hG 4096 s38.2.1).bind fun x51=>(app 16 s38.2.2 ([x51.1]:List (List UInt8))).bind fun x53=>some (dN.next ((IntKind.wrap .i64 (s38.1+1)),x51.2,x53))))
noncomputable def kW (dA:aM):Option (bV × aM) :=
 (hG 4096 dA).bind fun x1=>(sK x1.1 0 0 0 0 0 0 0 0).bind fun x3=>(iK x1.2).bind fun x6=>(iK x6.2).bind fun x8=>(iK x8.2).bind fun x10=>(iK x10.2).bind fun x12=>(iK x12.2).bind fun x14=>(iK x14.2).bind fun x16=>(iK x16.2).bind fun x18=>(iK x18.2).bind fun x20=>(iK x20.2).bind fun x22=>(((gP x22.2).bind fun x27=>(gd ((decide (x27=0))==true) (nP x22.1 0 64)).bind fun x29=>cond (cond (decide (x27=0)) (!x29) false) ((lN 3 x22.2).bind fun x32=>some x32) (some x22.2)):Option aM).bind fun x24=>((fI (jT x22) ((0,x24,([]:(List (List UInt8)))))).bind fun x35=>((((gP x35.1).bind fun x59=>(gd ((decide (x59=0))==true) (mQ (bV.mk x1.1 x6.1 x8.1 x10.1 x12.1 x14.1 x16.1 x18.1 x20.1 x35.2))).bind fun x61=>cond (cond (decide (x59=0)) (!x61) false) ((lN 3 x35.1).bind fun x64=>some x64) (some x35.1)):Option aM).bind fun x56=>((gP x56).bind fun x67=>cond (!decide (x67=0)) (some ((bV.mk ([]:List UInt8) 0 0 0 0 0 0 0 0 ([]:(List (List UInt8)))),x56)) (some ((bV.mk x1.1 x6.1 x8.1 x10.1 x12.1 x14.1 x16.1 x18.1 x20.1 x35.2),x56)))))
theorem aDJ {dA:aM}{res:(bV × aM)} (h:kW dA=some res):cX Tryz.prog 73 [.box 0 0] [AV.cs (fL dA)] (.agg (AV.cs (mU res.1))) [AV.cs (fL res.2)]:=by
 unfold kW at h
 refine dR (fn:=Tryz.f73) [0,2,3,5,6,7,11,12,13,14,31,41,58,63] (by kernel_rfl) Tryz.func73 r (by kernel_rfl) (by kernel_rfl)<|aJ<|jV (n:=1) (cs:=bB) (σ':=[eG,bB]) aR0 r r r<|aH (fr':=[(0,aD),(2,bD)]) r r<|aJ<|jV (n:=2) (cs:=bB) (σ':=[eG,bB,bB]) aR0 r r r<|aH (fr':=[(0,aD),(2,bD),(3,dE)]) r r<|aJ<|mV (v:=aD) r<|bx h fun x1 hx1 h2=>dP (v:=aS) (σ':=[eG,bB,bB]) [0] r (pY hx1) r r kR (fE sG aC) r r r<|aU r (bU aCz r)<|cN (v:=aS) (us:=[aS]) (cs:=bB) (σ':=[eG,bB,bB]) r rZ r r r r r r r r<|aH (fr':=[(0,aD),(2,bD),(3,dE)]) r r<|aX<|aX<|bA<|bx h2 fun x3 hx3 h4=>aCo (v:=.ptrs [(2,1),(2,2),(2,3),(2,4),(2,5),(2,6),(2,7),(2,8)]) (σ':=[eG,bB,bB]) 11 [2] [] r (aEA hx3) r r r ⟨lr,trivial⟩ (qU aWB aC) r r r<|aU r (aLo aTu r)<|mI r<|aH (fr':=[(0,aD),(2,bD),(3,dE),(11,.ptrs [(2,1),(2,2),(2,3),(2,4),(2,5),(2,6),(2,7),(2,8)]),(12,aI),(13,aI)]) r r<|cP<|aPy 64<|xH<|aJ<|aU r (yK (fY r r) (show _=.bool true from r))<|aH (fr':=[(0,aD),(2,bD),(3,dE),(11,.ptrs [(2,1),(2,2),(2,3),(2,4),(2,5),(2,6),(2,7),(2,8)]),(12,aI),(13,aI),(14,aB)]) r r<|aX<|kI r<|bI<|dB<|aX<|cP<|aJ<|aU r (oX (p:=(2,1)) uG r r r)<|aU r (kC vM r)<|sV (v:=aE2) r<|aH (fr':=[(0,aD),(2,bD),(3,dE),(5,aE2),(11,.ptrs [(2,1),(2,2),(2,3),(2,4),(2,5),(2,6),(2,7),(2,8)]),(12,aI),(13,aI)]) r r<|bA<|mV (v:=aE2) r<|mV (v:=aD) r<|bx h4 fun x6 hx6 h7=>dP (v:=aI) (σ':=[eG,bB,bB]) [0] r (mF hx6) r r ⟨lr,trivial⟩ (fE sG aC) r r r<|aU r (iV r)<|cN (v:=aI) (us:=[aI]) (cs:=bB) (σ':=[eG,bB,bB]) r hU r r r r r r r r<|dQ (fr':=[(0,aD),(2,bD),(3,dE),(5,aE2),(11,.ptrs [(2,1),(2,2),(2,3),(2,4),(2,5),(2,6),(2,7),(2,8)]),(12,aI),(13,aI)]) r<|dI<|dB<|bA<|aU r (yK (fX r r) (show _=.int .i64 (1:Int) from r))<|mI r<|dQ (fr':=[(0,aD),(2,bD),(3,dE),(5,aE2),(11,.ptrs [(2,1),(2,2),(2,3),(2,4),(2,5),(2,6),(2,7),(2,8)]),(12,aI),(13,aI)]) r<|mC<|xH<|aX<|bA<|aU r (yK (fY r r) (show _=.bool true from r))<|aH (fr':=[(0,aD),(2,bD),(3,dE),(11,.ptrs [(2,1),(2,2),(2,3),(2,4),(2,5),(2,6),(2,7),(2,8)]),(12,aI),(13,aI),(14,aB)]) r r<|aX<|kI r<|bI<|dB<|aX<|cP<|aJ<|aU r (oX (p:=(2,2)) uG r r r)<|aU r (kC vM r)<|sV (v:=aE3) r<|aH (fr':=[(0,aD),(2,bD),(3,dE),(5,aE3),(11,.ptrs [(2,1),(2,2),(2,3),(2,4),(2,5),(2,6),(2,7),(2,8)]),(12,aI),(13,aI)]) r r<|bA<|mV (v:=aE3) r<|mV (v:=aD) r<|bx h7 fun x8 hx8 h9=>dP (v:=aI) (σ':=[eG,bB,bB]) [0] r (mF hx8) r r ⟨lr,trivial⟩ (fE sG aC) r r r<|aU r (iV r)<|cN (v:=aI) (us:=[aI]) (cs:=bB) (σ':=[eG,bB,bB]) r hU r r r r r r r r<|dQ (fr':=[(0,aD),(2,bD),(3,dE),(5,aE3),(11,.ptrs [(2,1),(2,2),(2,3),(2,4),(2,5),(2,6),(2,7),(2,8)]),(12,aI),(13,aI)]) r<|dI<|dB<|bA<|aU r (yK (fX r r) (show _=.int .i64 (2:Int) from r))<|mI r<|dQ (fr':=[(0,aD),(2,bD),(3,dE),(5,aE3),(11,.ptrs [(2,1),(2,2),(2,3),(2,4),(2,5),(2,6),(2,7),(2,8)]),(12,aI),(13,aI)]) r<|mC<|xH<|aX<|bA<|aU r (yK (fY r r) (show _=.bool true from r))<|aH (fr':=[(0,aD),(2,bD),(3,dE),(11,.ptrs [(2,1),(2,2),(2,3),(2,4),(2,5),(2,6),(2,7),(2,8)]),(12,aI),(13,aI),(14,aB)]) r r<|aX<|kI r<|bI<|dB<|aX<|cP<|aJ<|aU r (oX (p:=(2,3)) uG r r r)<|aU r (kC vM r)<|sV (v:=aDO) r<|aH (fr':=[(0,aD),(2,bD),(3,dE),(5,aDO),(11,.ptrs [(2,1),(2,2),(2,3),(2,4),(2,5),(2,6),(2,7),(2,8)]),(12,aI),(13,aI)]) r r<|bA<|mV (v:=aDO) r<|mV (v:=aD) r<|bx h9 fun x10 hx10 h11=>dP (v:=aI) (σ':=[eG,bB,bB]) [0] r (mF hx10) r r ⟨lr,trivial⟩ (fE sG aC) r r r<|aU r (iV r)<|cN (v:=aI) (us:=[aI]) (cs:=bB) (σ':=[eG,bB,bB]) r hU r r r r r r r r<|dQ (fr':=[(0,aD),(2,bD),(3,dE),(5,aDO),(11,.ptrs [(2,1),(2,2),(2,3),(2,4),(2,5),(2,6),(2,7),(2,8)]),(12,aI),(13,aI)]) r<|dI<|dB<|bA<|aU r (yK (fX r r) (show _=.int .i64 (3:Int) from r))<|mI r<|dQ (fr':=[(0,aD),(2,bD),(3,dE),(5,aDO),(11,.ptrs [(2,1),(2,2),(2,3),(2,4),(2,5),(2,6),(2,7),(2,8)]),(12,aI),(13,aI)]) r<|mC<|xH<|aX<|bA<|aU r (yK (fY r r) (show _=.bool true from r))<|aH (fr':=[(0,aD),(2,bD),(3,dE),(11,.ptrs [(2,1),(2,2),(2,3),(2,4),(2,5),(2,6),(2,7),(2,8)]),(12,aI),(13,aI),(14,aB)]) r r<|aX<|kI r<|bI<|dB<|aX<|cP<|aJ<|aU r (oX (p:=(2,4)) uG r r r)<|aU r (kC vM r)<|sV (v:=aDP) r<|aH (fr':=[(0,aD),(2,bD),(3,dE),(5,aDP),(11,.ptrs [(2,1),(2,2),(2,3),(2,4),(2,5),(2,6),(2,7),(2,8)]),(12,aI),(13,aI)]) r r<|bA<|mV (v:=aDP) r<|mV (v:=aD) r<|bx h11 fun x12 hx12 h13=>dP (v:=aI) (σ':=[eG,bB,bB]) [0] r (mF hx12) r r ⟨lr,trivial⟩ (fE sG aC) r r r<|aU r (iV r)<|cN (v:=aI) (us:=[aI]) (cs:=bB) (σ':=[eG,bB,bB]) r hU r r r r r r r r<|dQ (fr':=[(0,aD),(2,bD),(3,dE),(5,aDP),(11,.ptrs [(2,1),(2,2),(2,3),(2,4),(2,5),(2,6),(2,7),(2,8)]),(12,aI),(13,aI)]) r<|dI<|dB<|bA<|aU r (yK (fX r r) (show _=.int .i64 (4:Int) from r))<|mI r<|dQ (fr':=[(0,aD),(2,bD),(3,dE),(5,aDP),(11,.ptrs [(2,1),(2,2),(2,3),(2,4),(2,5),(2,6),(2,7),(2,8)]),(12,aI),(13,aI)]) r<|mC<|xH<|aX<|bA<|aU r (yK (fY r r) (show _=.bool true from r))<|aH (fr':=[(0,aD),(2,bD),(3,dE),(11,.ptrs [(2,1),(2,2),(2,3),(2,4),(2,5),(2,6),(2,7),(2,8)]),(12,aI),(13,aI),(14,aB)]) r r<|aX<|kI r<|bI<|dB<|aX<|cP<|aJ<|aU r (oX (p:=(2,5)) uG r r r)<|aU r (kC vM r)<|sV (v:=aE4) r<|aH (fr':=[(0,aD),(2,bD),(3,dE),(5,aE4),(11,.ptrs [(2,1),(2,2),(2,3),(2,4),(2,5),(2,6),(2,7),(2,8)]),(12,aI),(13,aI)]) r r<|bA<|mV (v:=aE4) r<|mV (v:=aD) r<|bx h13 fun x14 hx14 h15=>dP (v:=aI) (σ':=[eG,bB,bB]) [0] r (mF hx14) r r ⟨lr,trivial⟩ (fE sG aC) r r r<|aU r (iV r)<|cN (v:=aI) (us:=[aI]) (cs:=bB) (σ':=[eG,bB,bB]) r hU r r r r r r r r<|dQ (fr':=[(0,aD),(2,bD),(3,dE),(5,aE4),(11,.ptrs [(2,1),(2,2),(2,3),(2,4),(2,5),(2,6),(2,7),(2,8)]),(12,aI),(13,aI)]) r<|dI<|dB<|bA<|aU r (yK (fX r r) (show _=.int .i64 (5:Int) from r))<|mI r<|dQ (fr':=[(0,aD),(2,bD),(3,dE),(5,aE4),(11,.ptrs [(2,1),(2,2),(2,3),(2,4),(2,5),(2,6),(2,7),(2,8)]),(12,aI),(13,aI)]) r<|mC<|xH<|aX<|bA<|aU r (yK (fY r r) (show _=.bool true from r))<|aH (fr':=[(0,aD),(2,bD),(3,dE),(11,.ptrs [(2,1),(2,2),(2,3),(2,4),(2,5),(2,6),(2,7),(2,8)]),(12,aI),(13,aI),(14,aB)]) r r<|aX<|kI r<|bI<|dB<|aX<|cP<|aJ<|aU r (oX (p:=(2,6)) uG r r r)<|aU r (kC vM r)<|sV (v:=aE5) r<|aH (fr':=[(0,aD),(2,bD),(3,dE),(5,aE5),(11,.ptrs [(2,1),(2,2),(2,3),(2,4),(2,5),(2,6),(2,7),(2,8)]),(12,aI),(13,aI)]) r r<|bA<|mV (v:=aE5) r<|mV (v:=aD) r<|bx h15 fun x16 hx16 h17=>dP (v:=aI) (σ':=[eG,bB,bB]) [0] r (mF hx16) r r ⟨lr,trivial⟩ (fE sG aC) r r r<|aU r (iV r)<|cN (v:=aI) (us:=[aI]) (cs:=bB) (σ':=[eG,bB,bB]) r hU r r r r r r r r<|dQ (fr':=[(0,aD),(2,bD),(3,dE),(5,aE5),(11,.ptrs [(2,1),(2,2),(2,3),(2,4),(2,5),(2,6),(2,7),(2,8)]),(12,aI),(13,aI)]) r<|dI<|dB<|bA<|aU r (yK (fX r r) (show _=.int .i64 (6:Int) from r))<|mI r<|dQ (fr':=[(0,aD),(2,bD),(3,dE),(5,aE5),(11,.ptrs [(2,1),(2,2),(2,3),(2,4),(2,5),(2,6),(2,7),(2,8)]),(12,aI),(13,aI)]) r<|mC<|xH<|aX<|bA<|aU r (yK (fY r r) (show _=.bool true from r))<|aH (fr':=[(0,aD),(2,bD),(3,dE),(11,.ptrs [(2,1),(2,2),(2,3),(2,4),(2,5),(2,6),(2,7),(2,8)]),(12,aI),(13,aI),(14,aB)]) r r<|aX<|kI r<|bI<|dB<|aX<|cP<|aJ<|aU r (oX (p:=(2,7)) uG r r r)<|aU r (kC vM r)<|sV (v:=aMg) r<|aH (fr':=[(0,aD),(2,bD),(3,dE),(5,aMg),(11,.ptrs [(2,1),(2,2),(2,3),(2,4),(2,5),(2,6),(2,7),(2,8)]),(12,aI),(13,aI)]) r r<|bA<|mV (v:=aMg) r<|mV (v:=aD) r<|bx h17 fun x18 hx18 h19=>dP (v:=aI) (σ':=[eG,bB,bB]) [0] r (mF hx18) r r ⟨lr,trivial⟩ (fE sG aC) r r r<|aU r (iV r)<|cN (v:=aI) (us:=[aI]) (cs:=bB) (σ':=[eG,bB,bB]) r hU r r r r r r r r<|dQ (fr':=[(0,aD),(2,bD),(3,dE),(5,aMg),(11,.ptrs [(2,1),(2,2),(2,3),(2,4),(2,5),(2,6),(2,7),(2,8)]),(12,aI),(13,aI)]) r<|dI<|dB<|bA<|aU r (yK (fX r r) (show _=.int .i64 (7:Int) from r))<|mI r<|dQ (fr':=[(0,aD),(2,bD),(3,dE),(5,aMg),(11,.ptrs [(2,1),(2,2),(2,3),(2,4),(2,5),(2,6),(2,7),(2,8)]),(12,aI),(13,aI)]) r<|mC<|xH<|aX<|bA<|aU r (yK (fY r r) (show _=.bool true from r))<|aH (fr':=[(0,aD),(2,bD),(3,dE),(11,.ptrs [(2,1),(2,2),(2,3),(2,4),(2,5),(2,6),(2,7),(2,8)]),(12,aI),(13,aI),(14,aB)]) r r<|aX<|kI r<|bI<|dB<|aX<|cP<|aJ<|aU r (oX (p:=(2,8)) uG r r r)<|aU r (kC vM r)<|sV (v:=aMh) r<|aH (fr':=[(0,aD),(2,bD),(3,dE),(5,aMh),(11,.ptrs [(2,1),(2,2),(2,3),(2,4),(2,5),(2,6),(2,7),(2,8)]),(12,aI),(13,aI)]) r r<|bA<|mV (v:=aMh) r<|mV (v:=aD) r ?_
 obtain ⟨x20,hx20,h21⟩:=eF h19
 refine dP (v:=aI) (σ':=[eG,bB,bB]) [0] r (mF hx20) r r ⟨lr,trivial⟩ (fE sG aC) r r r<|aU r (iV r)<|cN (v:=aI) (us:=[aI]) (cs:=bB) (σ':=[eG,bB,bB]) r hU r r r r r r r r<|dQ (fr':=[(0,aD),(2,bD),(3,dE),(5,aMh),(11,.ptrs [(2,1),(2,2),(2,3),(2,4),(2,5),(2,6),(2,7),(2,8)]),(12,aI),(13,aI)]) r<|dI<|dB<|bA<|aU r (yK (fX r r) (show _=.int .i64 (8:Int) from r))<|mI r<|dQ (fr':=[(0,aD),(2,bD),(3,dE),(5,aMh),(11,.ptrs [(2,1),(2,2),(2,3),(2,4),(2,5),(2,6),(2,7),(2,8)]),(12,aI),(13,aI)]) r<|mC<|xH<|aX<|bA<|aU r (yK (fY r r) (show _=.bool false from r))<|aH (fr':=[(0,aD),(2,bD),(3,dE),(11,.ptrs [(2,1),(2,2),(2,3),(2,4),(2,5),(2,6),(2,7),(2,8)]),(12,aI),(13,aI),(14,aB)]) r r<|aX<|aAI r<|iE<|cZ<|cZ<|fT<|dB<|aJ<|mV (v:=aD) r<|bx h21 fun x22 hx22 h23=>dP (v:=aI) (σ':=[eG,bB,bB]) [0] r (mF hx22) r r ⟨lr,trivial⟩ (fE sG aC) r r r<|sI r<|aH (fr':=[(0,aD),(2,bD),(3,dE),(6,aI)]) r r<|bx h23 fun x24 hx24 h25=>kF (fun j26=>x24=j26) (fun (j26:aM)=>([(0,aD),(2,bD),(3,dE),(6,ci x22.1)]:Fr)) (fun (j26:aM)=>([[.c (PV.ls 1 gW j26.b_),ci j26.at_,ci j26.err_,.c (.bool j26.made_)],[.c (.str ([]:List UInt8)),ci 0,ci 0,ci 0,ci 0,ci 0,ci 0,ci 0,ci 0,AV.nil],[.c (.str x1.1),ci x6.1,ci x8.1,ci x10.1,ci x12.1,ci x14.1,ci x16.1,ci x18.1,ci x20.1,AV.nil]]:St)) ?_ ?_
 ·
  refine aJ<|mV (v:=aD) r<|bx hx24 fun x27 hx27 h28=>dP (v:=aI) (σ':=[eG,bB,bB]) [0] r (jF hx27) r r ⟨lr,trivial⟩ (fE sG aC) r r r<|aU r (cQ r r)<|mB r<|og r r r (fun hc=>(bK (v:=aI) r))<|bx h28 fun x29 hx29 h30=>zG r r (fun hc=>cA (v:=aB) r (pA (dM hx29 hc)) ⟨(iA (gx r hc) lr),lr,lr,trivial⟩ (iO (by repeat (first | exact fU | refine bG r ?_ | refine bG (vD r) ?_ | refine bG vC ?_))) r r) ?_
  refine og r r r (fun hc=>(gX (gx r hc)))<|aU r (cS r r r (fun e=>hH e))<|aH (fr':=[(0,aD),(2,bD),(3,dE),(6,aI),(31,aB)]) r r<|cU h30 r (fun hb31 h31=>?_) (fun hb31 h31=>?_)
  ·
   exact bA<|mV (v:=aD) r<|bx h31 fun x32 hx32 h33=>dP (v:=_) (σ':=[eG,bB,bB]) [0] r (vT hx32) r r kR (fE sG aC) r r r<|dQ (fr':=[(0,aD),(2,bD),(3,dE),(6,aI),(31,aB)]) r<|lB _ (sy h33) (bJ [] 3 r r r r kL4 (cO r (cO r (cO r aC))))
  ·
   exact bI<|lB _ (sy h31) (bJ [] 3 r r r r kL4 (cO r (cO r (cO r aC))))
 ·
  intro j26 hj34
  subst hj34
  refine aX<|aJ<|sI r<|aH (fr':=[(0,aD),(2,bD),(3,dE),(6,aI),(7,aI)]) r r<|bx h25 fun x35 hx35 h36=>hF lP (fun j37=>x35=j37) (fun (j37:(aM × (List (List UInt8))))=>([(0,aD),(2,bD),(3,dE)]:Fr)) (fun (j37:(aM × (List (List UInt8))))=>([[.c (PV.ls 1 gW j37.1.b_),ci j37.1.at_,ci j37.1.err_,.c (.bool j37.1.made_)],[.c (.str ([]:List UInt8)),ci 0,ci 0,ci 0,ci 0,ci 0,ci 0,ci 0,ci 0,AV.nil],[.c (.str x1.1),ci x6.1,ci x8.1,ci x10.1,ci x12.1,ci x14.1,ci x16.1,ci x18.1,ci x20.1,AV.os 0 1 iF j37.2]]:St)) ?_ ?_
  ·
   refine cP<|gY _ (fun (s38:(Int × aM × (List (List UInt8))))=>([(0,aD),(2,bD),(3,dE),(6,ci x22.1),(7,ci s38.1)]:Fr)) (fun (s38:(Int × aM × (List (List UInt8))))=>([[.c (PV.ls 1 gW s38.2.1.b_),ci s38.2.1.at_,ci s38.2.1.err_,.c (.bool s38.2.1.made_)],[.c (.str ([]:List UInt8)),ci 0,ci 0,ci 0,ci 0,ci 0,ci 0,ci 0,ci 0,AV.nil],[.c (.str x1.1),ci x6.1,ci x8.1,ci x10.1,ci x12.1,ci x14.1,ci x16.1,ci x18.1,ci x20.1,AV.os 0 1 iF s38.2.2]]:St)) hx35 (bJ [1000000] 3 r r r r kL5 (cO r (cO r (qU ⟨lr,lr,lr,lr,lr,lr,lr,lr,lr,(wK r),trivial⟩ aC)))) ?_
   intro s38 st38 hs38 ho38
   unfold jT at hs38
   obtain ⟨x39,hx39,h40⟩:=eF hs38
   refine kF (fun j41=>x39=Fl.go j41) (fun (j41:Unit)=>([(0,aD),(2,bD),(3,dE),(6,ci x22.1),(7,ci s38.1)]:Fr)) (fun (j41:Unit)=>([[.c (PV.ls 1 gW s38.2.1.b_),ci s38.2.1.at_,ci s38.2.1.err_,.c (.bool s38.2.1.made_)],[.c (.str ([]:List UInt8)),ci 0,ci 0,ci 0,ci 0,ci 0,ci 0,ci 0,ci 0,AV.nil],[.c (.str x1.1),ci x6.1,ci x8.1,ci x10.1,ci x12.1,ci x14.1,ci x16.1,ci x18.1,ci x20.1,AV.os 0 1 iF s38.2.2]]:St)) ?_ ?_
   ·
    refine aJ<|mI r<|mI r<|aU r (fY r r)<|mB r<|aOo hx39 (fun hb42 h42=>?_) (fun hb42 h42=>?_)
    ·
     refine nK r r hb42<|mV (v:=aD) r<|nK r r hb42<|bx h42 fun x43 hx43 h44=>dP (v:=aI) (σ':=[eG,bB,[aS,aI,aI,aI,aI,aI,aI,aI,aI,aO]]) [0] r (jF hx43) r r ⟨lr,trivial⟩ (fE sG aC) r r r<|nK r r hb42<|aU r (cQ r r)<|aU r (aB1 r hb42 r)<|aH (fr':=[(0,aD),(2,bD),(3,dE),(6,aI),(7,aI),(41,aB)]) r r<|cU h44 r (fun hb45 h45=>?_) (fun hb45 h45=>?_)
     ·
      exact bI<|lB _ (sy h45) (bJ [0] 3 r r r r kL5 (cO r (cO r (cO r aC))))
     ·
      refine iE<|cZ<|cZ<|fT ?_
      have h46:=gI h45 h40
      have h47:=eS h46 ho38
      exact lB _ (sy h47) (bJ [0] 3 r r r r nW (cO r (cO r (cO r aC))))
    ·
     refine aAk r r hb42<|aAk r r hb42<|aAk r r hb42<|aU r (sN r hb42 r)<|aH (fr':=[(0,aD),(2,bD),(3,dE),(6,aI),(7,aI),(41,aB)]) r r<|aAI r<|iE<|cZ<|cZ<|fT ?_
     have h48:=gI h42 h40
     have h49:=eS h48 ho38
     exact lB _ (sy h49) (bJ [0] 3 r r r r nW (cO r (cO r (cO r aC))))
   ·
    intro j41 hj50
    have h50:=nY hj50 h40
    refine aX<|cP<|lJ [.q 0,.q 1,.q 2,.n 3 [0,1],.n 4 [0,1],.n 5 [],.q 6,.n 7 []] [(some 44,[3]),(some 45,[44]),(some 46,[0]),(some 47,[46]),(some 48,[47]),(some 49,[45,48]),(some 50,[3]),(none,[50,49])] [0,1,0,4,12,31,63,127] (by kernel_rfl)<|dq r r (bU tC r)<|dq r r (aR (v:=aO) qP r r r)<|dq r r (bK (v:=aD) r)<|d_n r ?_ r
    obtain ⟨x51,hx51,h52⟩:=eF h50
    refine dP (v:=aS) (σ':=[eG,bB,[aS,aI,aI,aI,aI,aI,aI,aI,aI,aO]]) [0] r (pY hx51) r r kR (fE sG aC) r r r<|aAL<|⟨(wB (v:=aOX) r r (mG r (bU tC r)) (wB (v:=aO) r r (mG r (aR (v:=aO) qP r r r)) pI)),?_⟩
    refine d_n r ?_ r
    refine uU (row:=iF) (xs:=([x51.1]:List (List UInt8))) (rows:=[[_]]) (σ':=[eG,bB,[aS,aI,aI,aI,aI,aI,aI,aI,aI,aO]]) [0] aAW r r r (fR r oL) r r<|aAL<|⟨(wB (v:=aOX) r r (mG r (bU tC r)) (wB (v:=aO) r r (mG r (aR (v:=aO) qP r r r)) pI)),?_⟩
    refine d_n r ?_ r
    obtain ⟨x53,hx53,h54⟩:=eF h52
    refine aCn (row:=iF) aAW r yV r (nB r) (fun _=>r) hx53<|aAL<|⟨pI,?_⟩
    refine dq r r (bU tC r)<|d_n r ?_ r
    refine cN (v:=aO) (us:=[aO]) (cs:=dO) (σ':=[eG,bB,[aS,aI,aI,aI,aI,aI,aI,aI,aI,aO]]) r qP r r r r r r r r<|aAL<|⟨pI,?_⟩
    exact aOZ (fr':=[(0,aD),(2,bD),(3,dE),(6,aI),(7,aI)]) r<|dI<|dB<|bA<|mI r<|aU r (fX r r)<|sI r<|dQ (fr':=[(0,aD),(2,bD),(3,dE),(6,aI),(7,aI)]) r<|zY _ (sy h54) (bJ [784] 3 r r r r kL5 (cO r (cO r (cO r aC))))
  ·
   intro j37 hj55
   subst hj55
   refine dB<|bx h36 fun x56 hx56 h57=>kF (fun j58=>x56=j58) (fun (j58:aM)=>([(0,aD),(2,bD),(3,dE)]:Fr)) (fun (j58:aM)=>([[.c (PV.ls 1 gW j58.b_),ci j58.at_,ci j58.err_,.c (.bool j58.made_)],[.c (.str ([]:List UInt8)),ci 0,ci 0,ci 0,ci 0,ci 0,ci 0,ci 0,ci 0,AV.nil],[.c (.str x1.1),ci x6.1,ci x8.1,ci x10.1,ci x12.1,ci x14.1,ci x16.1,ci x18.1,ci x20.1,AV.os 0 1 iF x35.2]]:St)) ?_ ?_
   ·
    refine aJ<|mV (v:=aD) r<|bx hx56 fun x59 hx59 h60=>dP (v:=aI) (σ':=[eG,bB,[aS,aI,aI,aI,aI,aI,aI,aI,aI,aO]]) [0] r (jF hx59) r r ⟨lr,trivial⟩ (fE sG aC) r r r<|aU r (cQ r r)<|mB r<|og r r r (fun hc=>(eL (us:=[aS,aI,aI,aI,aI,aI,aI,aI,aI,aO]) zW r r r r))<|bx h60 fun x61 hx61 h62=>zG r r (fun hc=>cA (v:=aB) r (wP (dM hx61 hc)) ⟨(iA (gx r hc) (cM r aDf)),trivial⟩ (iO (by repeat (first | exact fU | refine bG r ?_ | refine bG (vD r) ?_ | refine bG vC ?_))) r r) ?_
    refine og r r r (fun hc=>(gX (gx r hc)))<|aU r (cS r r r (fun e=>hH e))<|aH (fr':=[(0,aD),(2,bD),(3,dE),(58,aB)]) r r<|cU h62 r (fun hb63 h63=>?_) (fun hb63 h63=>?_)
    ·
     exact bA<|mV (v:=aD) r<|bx h63 fun x64 hx64 h65=>dP (v:=_) (σ':=[eG,bB,[aS,aI,aI,aI,aI,aI,aI,aI,aI,aO]]) [0] r (vT hx64) r r kR (fE sG aC) r r r<|dQ (fr':=[(0,aD),(2,bD),(3,dE),(58,aB)]) r<|lB _ (sy h65) (bJ [0] 3 r r r r nW (cO r (cO r (cO r aC))))
    ·
     exact bI<|lB _ (sy h63) (bJ [0] 3 r r r r nW (cO r (cO r (cO r aC))))
   ·
    intro j58 hj66
    subst hj66
    refine aX<|aJ<|mV (v:=aD) r<|bx h57 fun x67 hx67 h68=>dP (v:=aI) (σ':=[eG,bB,[aS,aI,aI,aI,aI,aI,aI,aI,aI,aO]]) [0] r (jF hx67) r r ⟨lr,trivial⟩ (fE sG aC) r r r<|aU r (iZ r r)<|aH (fr':=[(2,bD),(3,dE),(63,aB)]) r r<|cU h68 r (fun hb69 h69=>?_) (fun hb69 h69=>?_)
    ·
     refine aJ<|aU r (rI (c0:=bB) (cs:=bB) aOC r rH)<|cN (v:=.agg bB) (us:=bB) (cs:=bB) (σ':=[eG,bB,[aS,aI,aI,aI,aI,aI,aI,aI,aI,aO]]) r zW r r r r r r r r<|aH (fr':=[(2,bD)]) r r<|bO<|aN ?_
     obtain rfl:=sy h69
     exact bN (rs':=[.cell 2 28]) r<|eX (us:=bB) (cs:=bB) zW r r r r<|bM<|aP [] r r r (cM r ⟨r,r,r,r,r,r,r,r,r,⟨_,r⟩,trivial⟩) (fE sG aC)
    ·
     refine bI<|dB<|aJ<|aU r (eL (us:=[aS,aI,aI,aI,aI,aI,aI,aI,aI,aO]) zW r r r r)<|cN (v:=.agg [aS,aI,aI,aI,aI,aI,aI,aI,aI,aO]) (us:=[aS,aI,aI,aI,aI,aI,aI,aI,aI,aO]) (cs:=bB) (σ':=[eG,[aS,aI,aI,aI,aI,aI,aI,aI,aI,aO],[aS,aI,aI,aI,aI,aI,aI,aI,aI,aO]]) r zW r r r r r r r r<|aH (fr':=[(2,bD)]) r r<|bO ?_
     obtain rfl:=sy h69
     exact bN (rs':=[.cell 2 28]) r<|eX (us:=[aS,aI,aI,aI,aI,aI,aI,aI,aI,aO]) (cs:=[aS,aI,aI,aI,aI,aI,aI,aI,aI,aO]) zW r r r r<|bM<|aP [] r r r (cM r aDf) (fE sG aC)
