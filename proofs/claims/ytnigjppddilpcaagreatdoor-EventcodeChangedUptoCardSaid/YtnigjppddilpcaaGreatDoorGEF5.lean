import Derived.Test.YtnigjppddilpcaaGreatDoorGETy
import Derived.Test.YtnigjppddilpcaaGreatDoorGEF0
import Derived.Test.YtnigjppddilpcaaGreatDoorGEF1
import Derived.Test.YtnigjppddilpcaaGreatDoorGEF4
namespace Go.Proofs.YtnigjppddilpcaaGreatDoor
open Go Abs
set_option maxRecDepth 100000
set_option linter.unusedVariables false
set_option linter.unusedSimpArgs false
noncomputable def dQ (iF:Int→Int→aG→Option (aD × Int × aG)) (x1:(Int × aG)) (rR:Int) (mZ:Int) (s10:(Int × Int × aG × (List aD) × (List (List UInt8)))):Option (cD (Int × Int × aG × (List aD) × (List (List UInt8))) (Fl (aD × Int × aG) (Int × aG × (List aD) × (List (List UInt8))))) :=
 cond (decide (s10.1<x1.1)) (((cond (decide (rR=(5:Int))) ((fF (9223372036854775807:Int) s10.2.2.1).bind fun x16=>(gd (((decide (((x16.1).length:Int)≤(4096:Int)))==true)&&((decide (s10.1=(0:Int)))==false)) (gR s10.2.2.2.2 (IntKind.wrap .i64 (s10.1 - (1:Int))))).bind fun x18=>(fS (cond (decide (((x16.1).length:Int)≤(4096:Int))) (cond (decide (s10.1=(0:Int))) true (!(Op.bytesLess x16.1 x18||decide (x16.1=x18)))) false) s10.2.1 x16.2).bind fun x20=>cond (!x20.1) (some (Fl.done (cD.out (Fl.done ((aD.mk (0:Int) (0:Int) ([]:List UInt8) ([]:(List aD)) ([]:(List (List UInt8)))),s10.2.1,x20.2))))) ((app 16 s10.2.2.2.2 ([x16.1]:List (List UInt8))).bind fun x27=>some (Fl.go (x20.2,x27)))) (some (Fl.go (s10.2.2.1,s10.2.2.2.2)))):Option (Fl (cD (Int × Int × aG × (List aD) × (List (List UInt8))) (Fl (aD × Int × aG) (Int × aG × (List aD) × (List (List UInt8))))) (aG × (List (List UInt8))))).bind fun x12=>Fl.next x12 (fun j14=>((iF (IntKind.wrap .i64 (mZ+(1:Int))) s10.2.1 j14.1).bind fun x30=>(dS x30.2.2).bind fun x32=>cond (!decide (x32=(0:Int))) (some (cD.out (Fl.done ((aD.mk (0:Int) (0:Int) ([]:List UInt8) ([]:(List aD)) ([]:(List (List UInt8)))),x30.2.1,x30.2.2)))) ((app 80 s10.2.2.2.1 ([x30.1]:List aD)).bind fun x38=>some (cD.next ((IntKind.wrap .i64 (s10.1+(1:Int))),x30.2.1,x30.2.2,x38,j14.2)))))) (some (cD.out (Fl.go (s10.2.1,s10.2.2.1,s10.2.2.2.1,s10.2.2.2.2))))
mutual
noncomputable def eF:Nat→Int→Int→(List UInt8)→Int→Int→aG→Option (aD × Int × aG)
 | 0,_,_,_,_,_,_=>none
 | n+1,rR,zX,zY,mZ,dT,jL =>
  (dG (-9223372036854775808:Int) (9223372036854775807:Int) jL).bind fun x1=>(fS (cond (decide ((0:Int)≤x1.1)) (decide (x1.1≤(1000:Int))) false) dT x1.2).bind fun x3=>cond (!x3.1) (some ((aD.mk (0:Int) (0:Int) ([]:List UInt8) ([]:(List aD)) ([]:(List (List UInt8)))),dT,x3.2)) (((dO (dQ (cY n) x1 rR mZ) (((0:Int),dT,x3.2,([]:(List aD)),([]:(List (List UInt8)))))):Option (Fl (aD × Int × aG) (Int × aG × (List aD) × (List (List UInt8))))).bind fun x7=>Fl.next x7 (fun j9=>(some ((aD.mk rR zX zY j9.2.2.1 j9.2.2.2),j9.1,j9.2.1))))
noncomputable def cY:Nat→Int→Int→aG→Option (aD × Int × aG)
 | 0,_,_,_=>none
 | n+1,jM,dT,jL =>
  (fS (cond (decide (dT<(1000:Int))) (decide (jM≤(16:Int))) false) dT jL).bind fun x1=>cond (!x1.1) (some ((aD.mk (0:Int) (0:Int) ([]:List UInt8) ([]:(List aD)) ([]:(List (List UInt8)))),dT,x1.2)) ((dG (-9223372036854775808:Int) (9223372036854775807:Int) x1.2).bind fun x5=>(fS (cond (decide ((0:Int)≤x5.1)) (decide (x5.1≤(5:Int))) false) (IntKind.wrap .i64 (dT+(1:Int))) x5.2).bind fun x7=>cond (!x7.1) (some ((aD.mk (0:Int) (0:Int) ([]:List UInt8) ([]:(List aD)) ([]:(List (List UInt8)))),(IntKind.wrap .i64 (dT+(1:Int))),x7.2)) (((cond (decide (x5.1=(1:Int))) ((dG (-9223372036854775808:Int) (9223372036854775807:Int) x7.2).bind fun x15=>(fS (cond (decide (x15.1=(0:Int))) true (decide (x15.1=(1:Int)))) (IntKind.wrap .i64 (dT+(1:Int))) x15.2).bind fun x17=>some (Fl.go (x17.2,x15.1,([]:List UInt8)))) (cond (decide (x5.1=(2:Int))) ((dG (-9223372036854775808:Int) (9223372036854775807:Int) x7.2).bind fun x20=>some (Fl.go (x20.2,x20.1,([]:List UInt8)))) (cond (decide (x5.1=(3:Int))) ((fF (9223372036854775807:Int) x7.2).bind fun x23=>(fS (decide (((x23.1).length:Int)≤(4096:Int))) (IntKind.wrap .i64 (dT+(1:Int))) x23.2).bind fun x25=>some (Fl.go (x25.2,(0:Int),x23.1))) (((cond (decide (x5.1=(4:Int))) (some (decide (x5.1=(4:Int)))) (some (decide (x5.1=(5:Int))))):Option Bool).bind fun x27=>(cond x27 (((eF n) x5.1 (0:Int) ([]:List UInt8) jM (IntKind.wrap .i64 (dT+(1:Int))) x7.2).bind fun x33=>some (Fl.done (x33.1,x33.2.1,x33.2.2))) (some (Fl.go (x7.2,(0:Int),([]:List UInt8))))))))):Option (Fl (aD × Int × aG) (aG × Int × (List UInt8)))).bind fun x11=>Fl.next x11 (fun j13=>(some ((aD.mk x5.1 j13.2.1 j13.2.2 ([]:(List aD)) ([]:(List (List UInt8)))),(IntKind.wrap .i64 (dT+(1:Int))),j13.1)))))
end
theorem vB:∀ n:Nat,(∀ {rR:Int}{zX:Int}{zY:(List UInt8)}{mZ:Int}{dT:Int}{jL:aG}{res:(aD × Int × aG)},eF n rR zX zY mZ dT jL=some res→bR Tryz.prog 184 [.box 0 0,.agg [ci rR,ci zX,.c (.str zY),AV.nil,AV.nil],ci mZ] [[.box 1 0,ci dT],AV.cs (cN jL)] (.agg (AV.cs (dD res.1))) [[.box 1 0,ci res.2.1],AV.cs (cN res.2.2)])∧(∀ {jM:Int}{dT:Int}{jL:aG}{res:(aD × Int × aG)},cY n jM dT jL=some res→bR Tryz.prog 145 [.box 0 0,ci jM] [[.box 1 0,ci dT],AV.cs (cN jL)] (.agg (AV.cs (dD res.1))) [[.box 1 0,ci res.2.1],AV.cs (cN res.2.2)]):=by
 intro n
 induction n with
 | zero=>exact ⟨fun {rR zX zY mZ dT jL res} h=>absurd h (by simp [eF]),fun {jM dT jL res} h=>absurd h (by simp [cY])⟩
 | succ n ih =>
  obtain ⟨ih_value_decoder_items,ih_value_decoder_value⟩:=ih
  refine ⟨?_,?_⟩
  ·
   intro rR zX zY mZ dT jL res h
   rw [eF] at h
   refine cP (fn:=Tryz.f184) [0,1,2,4,6,7,8,9,10,24,28,33,58,75] (by kernel_rfl) Tryz.func184 r (by kernel_rfl) (by kernel_rfl)<|aJ<|gH (v:=.agg bH) (n:=2) (cs:=bH) (σ':=[[.box 1 0,aI],bV,bH]) r r r r r<|fZ (n:=3) (cs:=bH) (σ':=[[.box 1 0,aI],bV,bH,bH]) aAm r r r<|aF (fr':=[(0,.box 0 0),(2,aI),(4,.box 2 0),(6,.box 3 0)]) r r<|aJ<|mV (v:=.box 0 0) r<|aQ r (eQ r)<|aQ r (bF pW r)<|aQ r (aP (v:=.box 1 0) aDm r r r) ?_
   obtain ⟨x1,hx1,h2⟩:=aE h
   refine dK (v:=aI) (σ':=[[.box 1 0,aI],bV,bH,bH]) [1] r (dV hx1) r r ⟨lr,lr,lr,trivial⟩ (eM ⟨r,r,r,r,trivial⟩ aC) r r r<|sI r<|aF (fr':=[(0,.box 0 0),(2,aI),(4,.box 2 0),(6,.box 3 0),(7,aI)]) r r<|aN<|aJ<|mV (v:=.box 0 0) r<|mI r<|aQ r (qJ r r)<|mB r<|og r r r (fun hc=>(aU (v:=aI) r))<|og r r r (fun hc=>(tN (gx r hc) r))<|aQ r (bS r r r (fun e=>fG e)) ?_
   obtain ⟨x3,hx3,h4⟩:=aE h2
   refine dK (v:=aB) (σ':=[[.box 1 0,aI],bV,bH,bH]) [0,1] r (gW hx3) r r ⟨lr,lr,trivial⟩ (rV ⟨lr,lr,trivial⟩ (eM ⟨r,r,r,r,trivial⟩ aC)) (fT (by repeat (first | exact eK | refine aY r ?_ | refine aY (rI r) ?_ | refine aY rH ?_))) r r ?_
   refine aQ r (eU r)<|aF (fr':=[(0,.box 0 0),(2,aI),(4,.box 2 0),(6,.box 3 0),(7,aI),(24,aB)]) r r<|cC h4 r (fun hb5 h5=>?_) (fun hb5 h5=>?_)
   ·
    refine aJ<|aQ r (eI (cs:=bH) aDl r)<|bO (v:=.agg bH) (us:=bH) (cs:=bH) (σ':=[[.box 1 0,aI],bV,bH,bH]) r fQ r r r r r r r r<|aF (fr':=[(6,.box 3 0)]) r r<|bE<|aK ?_
    obtain rfl:=sy h5
    exact bD (rs':=[.cell 6 26]) r<|dX (us:=bH) (cs:=bH) fQ r r r r<|bC<|aR [] r r r (bM r ⟨r,r,r,⟨_,r⟩,⟨_,r⟩,trivial⟩) (rV ⟨lr,lr,trivial⟩ (eM ⟨r,r,r,r,trivial⟩ aC))
   ·
    refine bA<|bT<|aN<|aJ<|sI r<|aF (fr':=[(0,.box 0 0),(2,aI),(4,.box 2 0),(6,.box 3 0),(7,aI),(8,aI)]) r r ?_
    obtain ⟨x7,hx7,h8⟩:=aE h5
    refine fI iV (fun j9=>x7=Fl.go j9) (fun (j9:(Int × aG × (List aD) × (List (List UInt8))))=>([(4,.box 2 0),(6,.box 3 0)]:Fr)) (fun (j9:(Int × aG × (List aD) × (List (List UInt8))))=>([[.box 1 0,ci j9.1],[.c (PV.ls 1 eD j9.2.1.b_),ci j9.2.1.at_,ci j9.2.1.err_,.c (.bool j9.2.1.made_)],[ci rR,ci zX,.c (.str zY),AV.os 0 5 aZ j9.2.2.1,AV.os 1 1 fD j9.2.2.2],[ci 0,ci 0,.c (.str ([]:List UInt8)),AV.nil,AV.nil]]:St)) ?_ ?_
    ·
     refine bK<|fB _ (fun (s10:(Int × Int × aG × (List aD) × (List (List UInt8))))=>([(0,.box 0 0),(2,ci mZ),(4,.box 2 0),(6,.box 3 0),(7,ci x1.1),(8,ci s10.1)]:Fr)) (fun (s10:(Int × Int × aG × (List aD) × (List (List UInt8))))=>([[.box 1 0,ci s10.2.1],[.c (PV.ls 1 eD s10.2.2.1.b_),ci s10.2.2.1.at_,ci s10.2.2.1.err_,.c (.bool s10.2.2.1.made_)],[ci rR,ci zX,.c (.str zY),AV.os 0 5 aZ s10.2.2.2.1,AV.os 1 1 fD s10.2.2.2.2],[ci 0,ci 0,.c (.str ([]:List UInt8)),AV.nil,AV.nil]]:St)) hx7 (bJ [1000000,1000001] 4 r r r r ⟨lr,lr,lr,lr,lr,lr,trivial⟩ (cK r (cK r (rV ⟨lr,lr,lr,(tE r),(tE r),trivial⟩ (cK r aC))))) ?_
     intro s10 st10 hs10 ho10
     unfold dQ at hs10
     refine aN<|aJ<|mI r<|mI r<|aQ r (dU r r)<|aF (fr':=[(0,.box 0 0),(2,aI),(4,.box 2 0),(6,.box 3 0),(7,aI),(8,aI),(28,aB)]) r r<|cC hs10 r (fun hb11 h11=>?_) (fun hb11 h11=>?_)
     ·
      refine bA<|bT<|aN<|bK ?_
      obtain ⟨x12,hx12,h13⟩:=aE h11
      refine jX (fun j14=>x12=Fl.go j14) (fun (j14:(aG × (List (List UInt8))))=>([(0,.box 0 0),(2,ci mZ),(4,.box 2 0),(6,.box 3 0),(7,ci x1.1),(8,ci s10.1)]:Fr)) (fun (j14:(aG × (List (List UInt8))))=>([[.box 1 0,ci s10.2.1],[.c (PV.ls 1 eD j14.1.b_),ci j14.1.at_,ci j14.1.err_,.c (.bool j14.1.made_)],[ci rR,ci zX,.c (.str zY),AV.os 0 5 aZ s10.2.2.2.1,AV.os 1 1 fD j14.2],[ci 0,ci 0,.c (.str ([]:List UInt8)),AV.nil,AV.nil]]:St)) ?_ ?_
      ·
       refine aJ<|aQ r (bF jE r)<|aQ r (aP (v:=aI) fC r r r)<|aQ r (bX r r)<|aF (fr':=[(0,.box 0 0),(2,aI),(4,.box 2 0),(6,.box 3 0),(7,aI),(8,aI),(33,aB)]) r r<|cC hx12 r (fun hb15 h15=>?_) (fun hb15 h15=>?_)
       ·
        refine aJ<|mV (v:=.box 0 0) r<|aQ r (eQ r)<|aQ r (bF pW r)<|aQ r (aP (v:=.box 1 0) aDm r r r) ?_
        obtain ⟨x16,hx16,h17⟩:=aE h15
        refine dK (v:=aS) (σ':=[[.box 1 0,aI],bV,[aI,aI,aS,aO,aO],bH]) [1] r (gX hx16) r r ⟨lr,lr,trivial⟩ (eM ⟨r,r,r,r,trivial⟩ aC) r r r<|sS r<|aF (fr':=[(0,.box 0 0),(2,aI),(4,.box 2 0),(6,.box 3 0),(7,aI),(8,aI),(9,aS)]) r r<|aN<|aJ<|mV (v:=.box 0 0) r<|mS r<|aQ r (jT tT r)<|aQ r (tN r r)<|mB r<|og r r r (fun hc=>(aU (v:=aI) r))<|og r r r (fun hc=>(bX (gx r hc) r)) ?_
        refine og r r r (fun hc=>(aU (v:=aB) (gx r hc)))<|eJ r r (fun hc=>eW r (aU (v:=aS) r))<|eJ r r (fun hc=>eW r (bF mR r))<|eJ r r (fun hc=>eW r (aP (v:=aO) nA (gx r hc) r r))<|eJ r r (fun hc=>eW r (aU (v:=aI) r))<|eJ r r (fun hc=>eW r (aHD (gx r hc) r)) ?_
        obtain ⟨x18,hx18,h19⟩:=aE h17
        refine eJ r r (fun hc=>eW r (jS (cs:=[PV.str _]) uW (qF (gx r hc)) (gx r hc) (cV hx18 hc) r))<|eJ r r (fun hc=>eW r (fV (p:=PV.str _) nV (gx r hc) r))<|eJ r r (fun hc=>eW r (aMw (gx r hc) (gx r hc)))<|og r r r (fun hc=>(cB (gx r hc) r r (fun e=>qB hc (fG e))))<|aQ r (bS r r r (fun e=>fG e)) ?_
        obtain ⟨x20,hx20,h21⟩:=aE h19
        refine dK (v:=aB) (σ':=[[.box 1 0,aI],bV,[aI,aI,aS,aO,aO],bH]) [0,1] r (gW hx20) r r ⟨lr,lr,trivial⟩ (rV ⟨lr,lr,trivial⟩ (eM ⟨r,r,r,r,trivial⟩ aC)) (fT (by repeat (first | exact eK | refine aY r ?_ | refine aY (rI r) ?_ | refine aY rH ?_))) r r ?_
        refine aQ r (eU r)<|aF (fr':=[(0,.box 0 0),(2,aI),(4,.box 2 0),(6,.box 3 0),(7,aI),(8,aI),(9,aS),(58,aB)]) r r<|cC h21 r (fun hb22 h22=>?_) (fun hb22 h22=>?_)
        ·
         refine aJ<|aQ r (eI (cs:=bH) aDl r)<|bO (v:=.agg bH) (us:=bH) (cs:=bH) (σ':=[[.box 1 0,aI],bV,[aI,aI,aS,aO,aO],bH]) r fQ r r r r r r r r<|aF (fr':=[(6,.box 3 0)]) r r<|bE<|aK<|aK<|bB<|aK<|aK<|bB<|aK ?_
         refine aK ?_
         have h23:=eA h22 h13
         have h24:=dN h23 ho10
         have h25:=eA h24 h8
         obtain rfl:=sy h25
         exact bD (rs':=[.cell 6 26]) r<|dX (us:=bH) (cs:=bH) fQ r r r r<|bC<|aR [] r r r (bM r ⟨r,r,r,⟨_,r⟩,⟨_,r⟩,trivial⟩) (rV ⟨lr,lr,trivial⟩ (eM ⟨r,r,r,r,trivial⟩ aC))
        ·
         refine bA<|bT<|aT<|aQ r (bF mR r)<|aQ r (aP (v:=aO) nA r r r)<|mS r<|rP (row:=fD) (xs:=([x16.1]:List (List UInt8))) (rows:=[[_]]) (σ':=[[.box 1 0,aI],bV,[aI,aI,aS,aO,aO],bH]) [0] uW r r r (fR r mD) r r ?_
         obtain ⟨x27,hx27,h28⟩:=aE h22
         exact aBd (row:=fD) uW r rZ r (qF r) (fun _=>r) hx27<|aQ r (bF mR r)<|bO (v:=aO) (us:=[aO]) (cs:=[aI,aI,aS,aO,aL]) (σ':=[[.box 1 0,aI],bV,[aI,aI,aS,aO,aO],bH]) r nA r r r r r r r r<|cI (fr':=[(0,.box 0 0),(2,aI),(4,.box 2 0),(6,.box 3 0),(7,aI),(8,aI),(9,aS),(58,aB)]) r<|lF _ (sy h28) (bJ [0,1024] 4 r r r r ⟨lr,lr,lr,lr,lr,lr,trivial⟩ (cK r (cK r (cK r (cK r aC)))))
       ·
        exact bA<|lF _ (sy h15) (bJ [0,1] 4 r r r r ⟨lr,lr,lr,lr,lr,lr,trivial⟩ (cK r (cK r (cK r (cK r aC)))))
      ·
       intro j14 hj29
       have h29:=kN hj29 h13
       refine aJ<|mV (v:=.box 0 0) r<|mI r<|aQ r (dR r r) ?_
       obtain ⟨x30,hx30,h31⟩:=aE h29
       refine dK (v:=.agg bI) (σ':=[[.box 1 0,aI],bV,[aI,aI,aS,aO,aO],bH]) [0,1] r (ih_value_decoder_value hx30) r r ⟨lr,lr,trivial⟩ (rV ⟨lr,lr,trivial⟩ (eM ⟨r,r,r,r,trivial⟩ aC)) r r r<|fZ (n:=4) (cs:=bH) (σ':=[[.box 1 0,aI],bV,[aI,aI,aS,aO,aO],bH,bH]) aAm r r r<|bO (v:=.agg bI) (us:=bI) (cs:=bH) (σ':=[[.box 1 0,aI],bV,[aI,aI,aS,aO,aO],bH,bI]) r fQ r r r r r r r r<|aF (fr':=[(0,.box 0 0),(2,aI),(4,.box 2 0),(6,.box 3 0),(7,aI),(8,aI),(10,.box 4 0)]) r r<|aN<|aJ<|mV (v:=.box 0 0) r<|aQ r (eQ r)<|aQ r (bF pW r)<|aQ r (aP (v:=.box 1 0) aDm r r r) ?_
       obtain ⟨x32,hx32,h33⟩:=aE h31
       refine dK (v:=aI) (σ':=[[.box 1 0,aI],bV,[aI,aI,aS,aO,aO],bH,bI]) [1] r (eB hx32) r r ⟨lr,trivial⟩ (eM ⟨r,r,r,r,trivial⟩ aC) r r r<|aQ r (fU r r)<|aF (fr':=[(0,.box 0 0),(2,aI),(4,.box 2 0),(6,.box 3 0),(7,aI),(8,aI),(10,.box 4 0),(75,aB)]) r r<|cC h33 r (fun hb34 h34=>?_) (fun hb34 h34=>?_)
       ·
        refine aJ<|aQ r (eI (cs:=bH) aDl r)<|bO (v:=.agg bH) (us:=bH) (cs:=bH) (σ':=[[.box 1 0,aI],bV,[aI,aI,aS,aO,aO],bH,bI]) r fQ r r r r r r r r<|aF (fr':=[(6,.box 3 0)]) r r<|bE<|aK<|bB<|aK<|aK<|bB<|aK<|aK ?_
        have h35:=dN h34 ho10
        have h36:=eA h35 h8
        obtain rfl:=sy h36
        exact bD (rs':=[.cell 6 26]) r<|dX (us:=bH) (cs:=bH) fQ r r r r<|bC<|aR [] r r r (bM r ⟨r,r,r,⟨_,r⟩,⟨_,r⟩,trivial⟩) (rV ⟨lr,lr,trivial⟩ (eM ⟨r,r,r,r,trivial⟩ aC))
       ·
        refine bA<|bT<|aT<|aQ r (bF gG r)<|aQ r (aP (v:=aO) nR r r r)<|aQ r (dF (us:=bI) fQ r r r r)<|rP (row:=aZ) (xs:=([x30.1]:List aD)) (rows:=[[_,_,_,_,_]]) (σ':=[[.box 1 0,aI],bV,[aI,aI,aS,aO,aO],bH,bI]) [0,0,0,5,1] sK r r r (fR (dA _) mD) r r ?_
        obtain ⟨x38,hx38,h39⟩:=aE h34
        exact aBd (row:=aZ) sK r sJ r (qF r) aBq hx38<|aQ r (bF gG r)<|bO (v:=aO) (us:=[aO]) (cs:=[aI,aI,aS,aL,aO]) (σ':=[[.box 1 0,aI],bV,[aI,aI,aS,aO,aO],bH,bI]) r nR r r r r r r r r<|cI (fr':=[(0,.box 0 0),(2,aI),(4,.box 2 0),(6,.box 3 0),(7,aI),(8,aI),(10,.box 4 0),(75,aB)]) r<|cA<|bT<|aT<|mI r<|aQ r (dR r r)<|sI r<|cI (fr':=[(0,.box 0 0),(2,aI),(4,.box 2 0),(6,.box 3 0),(7,aI),(8,aI),(10,.box 4 0),(75,aB)]) r<|xG _ (sy h39) (bJ [1296,1] 4 r r r r ⟨lr,lr,lr,lr,lr,lr,trivial⟩ (cK r (cK r (cK r (cK r aC)))))
     ·
      refine fJ<|bY<|bY<|eC ?_
      have h40:=dN h11 ho10
      exact lF _ (sy h40) (bJ [0,1] 4 r r r r ⟨lr,lr,trivial⟩ (cK r (cK r (cK r (cK r aC)))))
    ·
     intro j9 hj41
     have h41:=kN hj41 h8
     refine bT<|aJ<|aQ r (dF (us:=[aI,aI,aS,aO,aO]) fQ r r r r)<|bO (v:=.agg [aI,aI,aS,aO,aO]) (us:=[aI,aI,aS,aO,aO]) (cs:=bH) (σ':=[[.box 1 0,aI],bV,[aI,aI,aS,aO,aO],[aI,aI,aS,aO,aO]]) r fQ r r r r r r r r<|aF (fr':=[(6,.box 3 0)]) r r<|bE ?_
     obtain rfl:=sy h41
     exact bD (rs':=[.cell 6 26]) r<|dX (us:=[aI,aI,aS,aO,aO]) (cs:=[aI,aI,aS,aO,aO]) fQ r r r r<|bC<|aR [] r r r (bM r ⟨r,r,r,r,r,trivial⟩) (rV ⟨lr,lr,trivial⟩ (eM ⟨r,r,r,r,trivial⟩ aC))
  ·
   intro jM dT jL res h
   rw [cY] at h
   refine cP (fn:=Tryz.f145) [0,1,4,5,17,42,45,46,64,72,86] (by kernel_rfl) Tryz.func145 r (by kernel_rfl) (by kernel_rfl)<|aJ<|fZ (n:=2) (cs:=bH) (σ':=[[.box 1 0,aI],bV,bH]) aAm r r r<|aF (fr':=[(0,.box 0 0),(1,aI),(4,.box 2 0)]) r r<|aN<|aJ<|mV (v:=.box 0 0) r<|mV (v:=.box 0 0) r<|aQ r (eQ r)<|aQ r (bF aEM r)<|aQ r (aP (v:=aI) fC r r r) ?_
   refine aQ r (dU r r)<|mB r<|og r r r (fun hc=>(aU (v:=aI) r))<|og r r r (fun hc=>(tN (gx r hc) r))<|aQ r (bS r r r (fun e=>fG e)) ?_
   obtain ⟨x1,hx1,h2⟩:=aE h
   refine dK (v:=aB) (σ':=[[.box 1 0,aI],bV,bH]) [0,1] r (gW hx1) r r ⟨lr,lr,trivial⟩ (rV ⟨lr,lr,trivial⟩ (eM ⟨r,r,r,r,trivial⟩ aC)) (fT (by repeat (first | exact eK | refine aY r ?_ | refine aY (rI r) ?_ | refine aY rH ?_))) r r ?_
   refine aQ r (eU r)<|aF (fr':=[(0,.box 0 0),(1,aI),(4,.box 2 0),(17,aB)]) r r<|cC h2 r (fun hb3 h3=>?_) (fun hb3 h3=>?_)
   ·
    refine aJ<|aQ r (eI (cs:=bH) aDl r)<|bO (v:=.agg bH) (us:=bH) (cs:=bH) (σ':=[[.box 1 0,aI],bV,bH]) r fQ r r r r r r r r<|aF (fr':=[(4,.box 2 0)]) r r<|bE<|aK ?_
    obtain rfl:=sy h3
    exact bD (rs':=[.cell 4 26]) r<|dX (us:=bH) (cs:=bH) fQ r r r r<|bC<|aR [] r r r (bM r ⟨r,r,r,⟨_,r⟩,⟨_,r⟩,trivial⟩) (rV ⟨lr,lr,trivial⟩ (eM ⟨r,r,r,r,trivial⟩ aC))
   ·
    refine bA<|bT<|aJ<|mV (v:=.box 0 0) r<|aQ r (eQ r)<|aQ r (bF aEM r)<|aQ r (aP (v:=aI) fC r r r)<|aQ r (dR r r)<|aQ r (eQ r)<|aQ r (bF aEM r)<|bO (v:=aI) (us:=[aI]) (cs:=[.box 1 0,aI]) (σ':=[[.box 1 0,aI],bV,bH]) r fC r r r r r r r r<|aF (fr':=[(0,.box 0 0),(1,aI),(4,.box 2 0)]) r r ?_
    refine aJ<|mV (v:=.box 0 0) r<|aQ r (eQ r)<|aQ r (bF pW r)<|aQ r (aP (v:=.box 1 0) aDm r r r) ?_
    obtain ⟨x5,hx5,h6⟩:=aE h3
    refine dK (v:=aI) (σ':=[[.box 1 0,aI],bV,bH]) [1] r (dV hx5) r r ⟨lr,lr,lr,trivial⟩ (eM ⟨r,r,r,r,trivial⟩ aC) r r r<|aQ r (eI (cs:=bH) aDl r)<|fZ (n:=3) (cs:=bH) (σ':=[[.box 1 0,aI],bV,bH,bH]) aAm r r r<|bO (v:=.agg bH) (us:=bH) (cs:=bH) (σ':=[[.box 1 0,aI],bV,bH,bH]) r fQ r r r r r r r r<|aF (fr':=[(0,.box 0 0),(1,aI),(4,.box 2 0),(5,.box 3 0)]) r r<|aN<|aJ<|mV (v:=.box 0 0) r<|aQ r (bF jE r)<|aQ r (aP (v:=aI) fC r r r)<|aQ r (qJ r r)<|mB r ?_
    refine og r r r (fun hc=>(bF jE r))<|og r r r (fun hc=>(aP (v:=aI) fC (gx r hc) r r))<|og r r r (fun hc=>(tN (gx r hc) r))<|aQ r (bS r r r (fun e=>fG e)) ?_
    obtain ⟨x7,hx7,h8⟩:=aE h6
    refine dK (v:=aB) (σ':=[[.box 1 0,aI],bV,bH,bH]) [0,1] r (gW hx7) r r ⟨lr,lr,trivial⟩ (rV ⟨lr,lr,trivial⟩ (eM ⟨r,r,r,r,trivial⟩ aC)) (fT (by repeat (first | exact eK | refine aY r ?_ | refine aY (rI r) ?_ | refine aY rH ?_))) r r ?_
    refine aQ r (eU r)<|aF (fr':=[(0,.box 0 0),(1,aI),(4,.box 2 0),(5,.box 3 0),(42,aB)]) r r<|cC h8 r (fun hb9 h9=>?_) (fun hb9 h9=>?_)
    ·
     refine aJ<|aQ r (eI (cs:=bH) aDl r)<|bO (v:=.agg bH) (us:=bH) (cs:=bH) (σ':=[[.box 1 0,aI],bV,bH,bH]) r fQ r r r r r r r r<|aF (fr':=[(4,.box 2 0)]) r r<|bE<|aK ?_
     obtain rfl:=sy h9
     exact bD (rs':=[.cell 4 26]) r<|dX (us:=bH) (cs:=bH) fQ r r r r<|bC<|aR [] r r r (bM r ⟨r,r,r,⟨_,r⟩,⟨_,r⟩,trivial⟩) (rV ⟨lr,lr,trivial⟩ (eM ⟨r,r,r,r,trivial⟩ aC))
    ·
     refine bA<|bT ?_
     obtain ⟨x11,hx11,h12⟩:=aE h9
     refine jX (fun j13=>x11=Fl.go j13) (fun (j13:(aG × Int × (List UInt8)))=>([(4,.box 2 0),(5,.box 3 0)]:Fr)) (fun (j13:(aG × Int × (List UInt8)))=>([[.box 1 0,ci (IntKind.wrap .i64 (dT+(1:Int)))],[.c (PV.ls 1 eD j13.1.b_),ci j13.1.at_,ci j13.1.err_,.c (.bool j13.1.made_)],[ci 0,ci 0,.c (.str ([]:List UInt8)),AV.nil,AV.nil],[ci x5.1,ci j13.2.1,.c (.str j13.2.2),AV.nil,AV.nil]]:St)) ?_ ?_
     ·
      refine aJ<|aQ r (bF jE r)<|aQ r (aP (v:=aI) fC r r r)<|aF (fr':=[(0,.box 0 0),(1,aI),(4,.box 2 0),(5,.box 3 0),(45,aI)]) r r<|bK<|aJ<|aQ r (bX r r)<|sB r<|aF (fr':=[(0,.box 0 0),(1,aI),(4,.box 2 0),(5,.box 3 0),(45,aI),(46,aB)]) r r<|cC hx11 r (fun hb14 h14=>?_) (fun hb14 h14=>?_)
      ·
       refine aJ<|mV (v:=.box 0 0) r<|aQ r (eQ r)<|aQ r (bF pW r)<|aQ r (aP (v:=.box 1 0) aDm r r r) ?_
       obtain ⟨x15,hx15,h16⟩:=aE h14
       refine dK (v:=aI) (σ':=[[.box 1 0,aI],bV,bH,bH]) [1] r (dV hx15) r r ⟨lr,lr,lr,trivial⟩ (eM ⟨r,r,r,r,trivial⟩ aC) r r r<|aQ r (bF pO r)<|bO (v:=aI) (us:=[aI]) (cs:=bH) (σ':=[[.box 1 0,aI],bV,bH,bH]) r fC r r r r r r r r<|aF (fr':=[(0,.box 0 0),(4,.box 2 0),(5,.box 3 0)]) r r<|aT<|mV (v:=.box 0 0) r<|aQ r (bF pO r)<|aQ r (aP (v:=aI) fC r r r)<|aQ r (bX r r)<|mB r<|og r r r (fun hc=>(bF pO r))<|og r r r (fun hc=>(aP (v:=aI) fC (gx r hc) r r))<|og r r r (fun hc=>(bX (gx r hc) r)) ?_
       refine aQ r (cB r r r (fun e=>fG e)) ?_
       obtain ⟨x17,hx17,h18⟩:=aE h16
       refine dK (v:=aB) (σ':=[[.box 1 0,aI],bV,bH,bH]) [0,1] r (gW hx17) r r ⟨lr,lr,trivial⟩ (rV ⟨lr,lr,trivial⟩ (eM ⟨r,r,r,r,trivial⟩ aC)) (fT (by repeat (first | exact eK | refine aY r ?_ | refine aY (rI r) ?_ | refine aY rH ?_))) r r ?_
       exact cI (fr':=[(0,.box 0 0),(4,.box 2 0),(5,.box 3 0)]) r<|cA<|lF _ (sy h18) (bJ [] 4 r r r r ⟨lr,lr,trivial⟩ (cK r (cK r (cK r (cK r aC)))))
      ·
       refine aJ<|aQ r (bX r r)<|sB r<|aF (fr':=[(0,.box 0 0),(1,aI),(4,.box 2 0),(5,.box 3 0),(45,aI),(64,aB)]) r r<|cC h14 r (fun hb19 h19=>?_) (fun hb19 h19=>?_)
       ·
        refine aT<|mV (v:=.box 0 0) r<|aQ r (eQ r)<|aQ r (bF pW r)<|aQ r (aP (v:=.box 1 0) aDm r r r) ?_
        obtain ⟨x20,hx20,h21⟩:=aE h19
        exact dK (v:=aI) (σ':=[[.box 1 0,aI],bV,bH,bH]) [1] r (dV hx20) r r ⟨lr,lr,lr,trivial⟩ (eM ⟨r,r,r,r,trivial⟩ aC) r r r<|aQ r (bF pO r)<|bO (v:=aI) (us:=[aI]) (cs:=bH) (σ':=[[.box 1 0,aI],bV,bH,bH]) r fC r r r r r r r r<|cI (fr':=[(0,.box 0 0),(1,aI),(4,.box 2 0),(5,.box 3 0),(45,aI),(64,aB)]) r<|cA<|lF _ (sy h21) (bJ [] 4 r r r r ⟨lr,lr,trivial⟩ (cK r (cK r (cK r (cK r aC)))))
       ·
        refine aJ<|aQ r (bX r r)<|sB r<|aF (fr':=[(0,.box 0 0),(1,aI),(4,.box 2 0),(5,.box 3 0),(45,aI),(72,aB)]) r r<|cC h19 r (fun hb22 h22=>?_) (fun hb22 h22=>?_)
        ·
         refine aJ<|mV (v:=.box 0 0) r<|aQ r (eQ r)<|aQ r (bF pW r)<|aQ r (aP (v:=.box 1 0) aDm r r r) ?_
         obtain ⟨x23,hx23,h24⟩:=aE h22
         refine dK (v:=aS) (σ':=[[.box 1 0,aI],bV,bH,bH]) [1] r (gX hx23) r r ⟨lr,lr,trivial⟩ (eM ⟨r,r,r,r,trivial⟩ aC) r r r<|aQ r (bF qR r)<|bO (v:=aS) (us:=[aS]) (cs:=bH) (σ':=[[.box 1 0,aI],bV,bH,bH]) r nV r r r r r r r r<|aF (fr':=[(0,.box 0 0),(4,.box 2 0),(5,.box 3 0)]) r r<|aT<|mV (v:=.box 0 0) r<|aQ r (bF qR r)<|aQ r (aP (v:=aS) nV r r r)<|aQ r (jT tT r)<|aQ r (tN r r) ?_
         obtain ⟨x25,hx25,h26⟩:=aE h24
         exact dK (v:=aB) (σ':=[[.box 1 0,aI],bV,bH,bH]) [0,1] r (gW hx25) r r ⟨lr,lr,trivial⟩ (rV ⟨lr,lr,trivial⟩ (eM ⟨r,r,r,r,trivial⟩ aC)) r r r<|cI (fr':=[(0,.box 0 0),(4,.box 2 0),(5,.box 3 0)]) r<|cA<|lF _ (sy h26) (bJ [] 4 r r r r ⟨lr,lr,trivial⟩ (cK r (cK r (cK r (cK r aC)))))
        ·
         obtain ⟨x27,hx27,h28⟩:=aE h22
         refine jX (fun j29=>x27=j29) (fun (j29:Bool)=>([(0,.box 0 0),(1,ci jM),(4,.box 2 0),(5,.box 3 0),(86,.c (.bool j29))]:Fr)) (fun (j29:Bool)=>([[.box 1 0,ci (IntKind.wrap .i64 (dT+(1:Int)))],[.c (PV.ls 1 eD x7.2.b_),ci x7.2.at_,ci x7.2.err_,.c (.bool x7.2.made_)],[ci 0,ci 0,.c (.str ([]:List UInt8)),AV.nil,AV.nil],[ci x5.1,ci 0,.c (.str ([]:List UInt8)),AV.nil,AV.nil]]:St)) ?_ ?_
         ·
          refine aJ<|aQ r (bX r r)<|sB r<|aF (fr':=[(0,.box 0 0),(1,aI),(4,.box 2 0),(5,.box 3 0),(45,aI),(86,aB)]) r r<|cC hx27 r (fun hb30 h30=>?_) (fun hb30 h30=>?_)
          ·
           exact bA<|lF _ (sy h30) (bJ [] 4 r r r r ⟨lr,lr,lr,lr,lr,trivial⟩ (cK r (cK r (cK r (cK r aC)))))
          ·
           exact aT<|aQ r (bX r r)<|sB r<|cI (fr':=[(0,.box 0 0),(1,aI),(4,.box 2 0),(5,.box 3 0),(45,aI),(86,aB)]) r<|lF _ (sy h30) (bJ [] 4 r r r r ⟨lr,lr,lr,lr,lr,trivial⟩ (cK r (cK r (cK r (cK r aC)))))
         ·
          intro j29 hj31
          subst hj31
          refine cC h28 r (fun hb32 h32=>?_) (fun hb32 h32=>?_)
          ·
           refine aJ<|mV (v:=.box 0 0) r<|aQ r (dF (us:=bH) fQ r r r r)<|mI r ?_
           obtain ⟨x33,hx33,h34⟩:=aE h32
           refine dK (v:=.agg bI) (σ':=[[.box 1 0,aI],bV,bH,bH]) [0,1] r (ih_value_decoder_items hx33) r r ⟨lr,(aKY r ⟨lr,lr,lr,lr,lr,trivial⟩),lr,trivial⟩ (rV ⟨lr,lr,trivial⟩ (eM ⟨r,r,r,r,trivial⟩ aC)) r r r<|bO (v:=.agg bI) (us:=bI) (cs:=bH) (σ':=[[.box 1 0,aI],bV,bI,bH]) r fQ r r r r r r r r<|aF (fr':=[(4,.box 2 0)]) r r<|bE<|bB<|aK ?_
           have h35:=eA h34 h12
           obtain rfl:=sy h35
           exact bD (rs':=[.cell 4 26]) r<|dX (us:=bI) (cs:=bI) fQ r r r r<|bC<|aR [] r r r (bM r ⟨r,r,r,r,r,trivial⟩) (rV ⟨lr,lr,trivial⟩ (eM ⟨r,r,r,r,trivial⟩ aC))
          ·
           exact bA<|cA<|lF _ (sy h32) (bJ [] 4 r r r r ⟨lr,lr,trivial⟩ (cK r (cK r (cK r (cK r aC)))))
     ·
      intro j13 hj37
      have h37:=kN hj37 h12
      refine aJ<|aQ r (dF (us:=bH) fQ r r r r)<|bO (v:=.agg bH) (us:=bH) (cs:=bH) (σ':=[[.box 1 0,aI],bV,bH,bH]) r fQ r r r r r r r r<|aF (fr':=[(4,.box 2 0)]) r r<|bE ?_
      obtain rfl:=sy h37
      exact bD (rs':=[.cell 4 26]) r<|dX (us:=bH) (cs:=bH) fQ r r r r<|bC<|aR [] r r r (bM r ⟨r,r,r,⟨_,r⟩,⟨_,r⟩,trivial⟩) (rV ⟨lr,lr,trivial⟩ (eM ⟨r,r,r,r,trivial⟩ aC))
noncomputable def kD (jM:Int) (dT:Int) (jL:aG):Option (aD × Int × aG):=lim fun n=>cY n jM dT jL
theorem vP {jM:Int}{dT:Int}{jL:aG}{res:(aD × Int × aG)} (h:kD jM dT jL=some res):bR Tryz.prog 145 [.box 0 0,ci jM] [[.box 1 0,ci dT],AV.cs (cN jL)] (.agg (AV.cs (dD res.1))) [[.box 1 0,ci res.2.1],AV.cs (cN res.2.2)]:=by
 obtain ⟨n,hn⟩:=nM h
 exact (vB n).2 hn
noncomputable def oX (cQ:aG):Option (aD × aG) :=
 (((dS cQ).bind fun x4=>cond (decide (x4=(1:Int))) (some (Fl.done ((aD.mk (0:Int) (0:Int) ([]:List UInt8) ([]:(List aD)) ([]:(List (List UInt8)))),cQ))) (some (Fl.go ()))):Option (Fl (aD × aG) Unit)).bind fun x1=>Fl.next x1 (fun j3=>((kD (1:Int) (0:Int) cQ).bind fun x10=>(dS x10.2.2).bind fun x12=>cond (!decide (x12=(0:Int))) (some ((aD.mk (0:Int) (0:Int) ([]:List UInt8) ([]:(List aD)) ([]:(List (List UInt8)))),x10.2.2)) (some (x10.1,x10.2.2))))
theorem aCY {cQ:aG}{res:(aD × aG)} (h:oX cQ=some res):bR Tryz.prog 72 [.box 0 0] [AV.cs (cN cQ)] (.agg (AV.cs (dD res.1))) [AV.cs (cN res.2)]:=by
 unfold oX at h
 refine cP (fn:=Tryz.f72) [0,2,3,4,11,20] (by kernel_rfl) Tryz.func72 r (by kernel_rfl) (by kernel_rfl)<|aJ<|fZ (n:=1) (cs:=bH) (σ':=[bV,bH]) aAm r r r<|aF (fr':=[(0,.box 0 0),(2,.box 1 0)]) r r ?_
 obtain ⟨x1,hx1,h2⟩:=aE h
 refine jX (fun j3=>x1=Fl.go j3) (fun (j3:Unit)=>([(0,.box 0 0),(2,.box 1 0)]:Fr)) (fun (j3:Unit)=>([[.c (PV.ls 1 eD cQ.b_),ci cQ.at_,ci cQ.err_,.c (.bool cQ.made_)],[ci 0,ci 0,.c (.str ([]:List UInt8)),AV.nil,AV.nil]]:St)) ?_ ?_
 ·
  refine aJ<|mV (v:=.box 0 0) r<|aQ r (aG0 aMN r r)<|mB r<|qU r r r<|mV (v:=.box 0 0) r<|qU r r r ?_
  obtain ⟨x4,hx4,h5⟩:=aE hx1
  refine dK (v:=aI) (σ':=[bV,bH]) [0] r (eB hx4) r r ⟨lr,trivial⟩ (eM ⟨r,r,r,r,trivial⟩ aC) r r r<|qU r r r<|aQ r (bX r r)<|aQ r (aAa r r r)<|aF (fr':=[(0,.box 0 0),(2,.box 1 0),(11,aB)]) r r<|cC h5 r (fun hb6 h6=>?_) (fun hb6 h6=>?_)
  ·
   refine aJ<|aQ r (eI (cs:=bH) aDl r)<|bO (v:=.agg bH) (us:=bH) (cs:=bH) (σ':=[bV,bH]) r fQ r r r r r r r r<|aF (fr':=[(2,.box 1 0)]) r r<|bE<|aK ?_
   have h7:=eA h6 h2
   obtain rfl:=sy h7
   exact bD (rs':=[.cell 2 26]) r<|dX (us:=bH) (cs:=bH) fQ r r r r<|bC<|aR [] r r r (bM r ⟨r,r,r,⟨_,r⟩,⟨_,r⟩,trivial⟩) (eM ⟨r,r,r,r,trivial⟩ aC)
  ·
   exact bA<|lF _ (sy h6) (bJ [] 2 r r r r ⟨lr,lr,trivial⟩ (cK r (cK r aC)))
 ·
  intro j3 hj9
  have h9:=kN hj9 h2
  refine aJ<|mV (v:=.box 0 0) r<|aQ r (eI (cs:=[.box 0 0,aI]) aNu r)<|gH (v:=.agg [.box 0 0,aI]) (n:=2) (cs:=[.box 0 0,aI]) (σ':=[bV,bH,[.box 0 0,aI]]) r r r r r<|sV (v:=.box 2 0) r<|aF (fr':=[(0,.box 0 0),(2,.box 1 0),(3,.box 2 0)]) r r<|aJ<|mV (v:=.box 2 0) r ?_
  obtain ⟨x10,hx10,h11⟩:=aE h9
  refine dK (v:=.agg bI) (σ':=[bV,bH,[.box 0 0,aI]]) [2,0] r (vP hx10) r r ⟨lr,lr,trivial⟩ (rV ⟨lr,lr,trivial⟩ (eM ⟨r,r,r,r,trivial⟩ aC)) r r r<|fZ (n:=3) (cs:=bH) (σ':=[bV,bH,[.box 0 0,aI],bH]) aAm r r r<|bO (v:=.agg bI) (us:=bI) (cs:=bH) (σ':=[bV,bH,[.box 0 0,aI],bI]) r fQ r r r r r r r r<|aF (fr':=[(0,.box 0 0),(2,.box 1 0),(4,.box 3 0)]) r r<|aN<|aJ<|mV (v:=.box 0 0) r ?_
  obtain ⟨x12,hx12,h13⟩:=aE h11
  refine dK (v:=aI) (σ':=[bV,bH,[.box 0 0,aI],bI]) [0] r (eB hx12) r r ⟨lr,trivial⟩ (eM ⟨r,r,r,r,trivial⟩ aC) r r r<|aQ r (fU r r)<|aF (fr':=[(2,.box 1 0),(4,.box 3 0),(20,aB)]) r r<|cC h13 r (fun hb14 h14=>?_) (fun hb14 h14=>?_)
  ·
   refine aJ<|aQ r (eI (cs:=bH) aDl r)<|bO (v:=.agg bH) (us:=bH) (cs:=bH) (σ':=[bV,bH,[.box 0 0,aI],bI]) r fQ r r r r r r r r<|aF (fr':=[(2,.box 1 0)]) r r<|bE<|aK ?_
   obtain rfl:=sy h14
   exact bD (rs':=[.cell 2 26]) r<|dX (us:=bH) (cs:=bH) fQ r r r r<|bC<|aR [] r r r (bM r ⟨r,r,r,⟨_,r⟩,⟨_,r⟩,trivial⟩) (eM ⟨r,r,r,r,trivial⟩ aC)
  ·
   refine bA<|bT<|aJ<|aQ r (dF (us:=bI) fQ r r r r)<|bO (v:=.agg bI) (us:=bI) (cs:=bH) (σ':=[bV,bI,[.box 0 0,aI],bI]) r fQ r r r r r r r r<|aF (fr':=[(2,.box 1 0)]) r r<|bE ?_
   obtain rfl:=sy h14
   exact bD (rs':=[.cell 2 26]) r<|dX (us:=bI) (cs:=bI) fQ r r r r<|bC<|aR [] r r r (bM r ⟨r,r,r,r,r,trivial⟩) (eM ⟨r,r,r,r,trivial⟩ aC)
noncomputable def kT (fH:(List UInt8)) (dT:Int) (aBH:Int) (aBI:Int) (aBJ:Int) (aBK:Int) (aBL:Int) (aBM:Int) (aBN:Int):Option Unit :=
 some ()
theorem wY {fH:(List UInt8)}{dT:Int}{aBH:Int}{aBI:Int}{aBJ:Int}{aBK:Int}{aBL:Int}{aBM:Int}{aBN:Int}{res:Unit} (h:kT fH dT aBH aBI aBJ aBK aBL aBM aBN=some res):bR Tryz.prog 146 [.box 0 0] [[.c (.str fH),ci dT,ci aBH,ci aBI,ci aBJ,ci aBK,ci aBL,ci aBM,ci aBN,AV.nil]] (.ptrs [(0,1),(0,2),(0,3),(0,4),(0,5),(0,6),(0,7),(0,8)]) [[.c (.str fH),ci dT,ci aBH,ci aBI,ci aBJ,ci aBK,ci aBL,ci aBM,ci aBN,AV.nil]]:=by
 unfold kT at h
 refine cP (fn:=Tryz.f146) [0,2] (by kernel_rfl) Tryz.func146 r (by kernel_rfl) (by kernel_rfl)<|aJ<|sV (v:=AV.nil) r<|aF (fr':=[(0,.box 0 0)]) r r<|aN<|gP [.q 0,.q 1,.q 2,.q 3,.q 4,.q 5,.q 6,.q 7,.q 8,.q 9,.q 10,.q 11,.q 12,.q 13,.q 14,.q 15,.q 16,.q 17,.q 18,.q 19,.q 20,.q 21,.q 22,.q 23,.n 24 [],.n 25 []] [(some 3,[0]),(some 4,[3]),(some 5,[4]),(some 6,[0]),(some 7,[6]),(some 8,[7]),(some 9,[0]),(some 10,[9]),(some 11,[10]),(some 12,[0]),(some 13,[12]),(some 14,[13]),(some 15,[0]),(some 16,[15]),(some 17,[16]),(some 18,[0]),(some 19,[18]),(some 20,[19]),(some 21,[0]),(some 22,[21]),(some 23,[22]),(some 24,[0]),(some 25,[24]),(some 26,[25]),(some 27,[5,8,11,14,17,20,23,26]),(some 2,[27])] [0,1,3,0,8,24,0,64,192,0,512,1536,0,4096,12288,0,32768,98304,0,262144,786432,0,2097152,6291456,16777215,33554431] (by kernel_rfl)<|dq r r (aU (v:=.box 0 0) r)<|dq r r (eQ r)<|dq r r (bF aCG r)<|dq r r (aU (v:=.box 0 0) r)<|dq r r (eQ r)<|dq r r (bF aCH r) ?_
 refine dq r r (aU (v:=.box 0 0) r)<|dq r r (eQ r)<|dq r r (bF aCI r)<|dq r r (aU (v:=.box 0 0) r)<|dq r r (eQ r)<|dq r r (bF aCJ r)<|dq r r (aU (v:=.box 0 0) r)<|dq r r (eQ r)<|dq r r (bF aCK r)<|dq r r (aU (v:=.box 0 0) r)<|dq r r (eQ r)<|dq r r (bF aCL r)<|dq r r (aU (v:=.box 0 0) r) ?_
 refine dq r r (eQ r)<|dq r r (bF aCM r)<|dq r r (aU (v:=.box 0 0) r)<|dq r r (eQ r)<|dq r r (bF aCN r)<|d_n r ?_ r
 refine aGX (l:=[(0,1),(0,2),(0,3),(0,4),(0,5),(0,6),(0,7),(0,8)]) kA r r r r<|aCn<|⟨rT,?_⟩
 refine d_n r ?_ r
 refine sV (v:=.ptrs [(0,1),(0,2),(0,3),(0,4),(0,5),(0,6),(0,7),(0,8)]) r<|aCn<|⟨rT,?_⟩
 refine tB (fr':=[(2,.ptrs [(0,1),(0,2),(0,3),(0,4),(0,5),(0,6),(0,7),(0,8)])]) r r<|bE ?_
 obtain rfl:=sy h
 exact bD (rs':=[.tmp 2]) r<|bL (v:=.ptrs [(0,1),(0,2),(0,3),(0,4),(0,5),(0,6),(0,7),(0,8)]) r<|bC<|aHx [] r r r lr (cK r aC)
noncomputable def eG (cQ:aG):Option (Int × aG) :=
 (dG (-9223372036854775808:Int) (9223372036854775807:Int) cQ).bind fun x1=>some (x1.1,x1.2)
theorem fP {cQ:aG}{res:(Int × aG)} (h:eG cQ=some res):bR Tryz.prog 147 [.box 0 0] [AV.cs (cN cQ)] (ci res.1) [AV.cs (cN res.2)]:=by
 unfold eG at h
 refine cP (fn:=Tryz.f147) [0,2] (by kernel_rfl) Tryz.func147 r (by kernel_rfl) (by kernel_rfl)<|aJ<|sI r<|aF (fr':=[(0,.box 0 0)]) r r<|aJ<|mV (v:=.box 0 0) r ?_
 obtain ⟨x1,hx1,h2⟩:=aE h
 refine dK (v:=aI) (σ':=[bV]) [0] r (dV hx1) r r ⟨lr,lr,lr,trivial⟩ (eM ⟨r,r,r,r,trivial⟩ aC) r r r<|sI r<|aF (fr':=[(2,aI)]) r r<|bE ?_
 obtain rfl:=sy h2
 exact bD (rs':=[.tmp 2]) r<|bL (v:=aI) r<|bC<|aR [] r r r lr (eM ⟨r,r,r,r,trivial⟩ aC)
noncomputable def iE (x22:(Int × aG)) (s38:(Int × aG × (List (List UInt8)))):Option (cD (Int × aG × (List (List UInt8))) (aG × (List (List UInt8)))) :=
 ((cond (decide (s38.1<x22.1)) ((dS s38.2.1).bind fun x43=>cond (decide (x43=(0:Int))) (some (Fl.go ())) (some (Fl.done (cD.out (s38.2.1,s38.2.2))))) (some (Fl.done (cD.out (s38.2.1,s38.2.2))))):Option (Fl (cD (Int × aG × (List (List UInt8))) (aG × (List (List UInt8)))) Unit)).bind fun x39=>Fl.next x39 (fun j41=>((fF (4096:Int) s38.2.1).bind fun x51=>(app 16 s38.2.2 ([x51.1]:List (List UInt8))).bind fun x53=>some (cD.next ((IntKind.wrap .i64 (s38.1+(1:Int))),x51.2,x53))))
noncomputable def hY (cQ:aG):Option (bP × aG) :=
 (fF (4096:Int) cQ).bind fun x1=>(kT x1.1 (0:Int) (0:Int) (0:Int) (0:Int) (0:Int) (0:Int) (0:Int) (0:Int)).bind fun x3=>(eG x1.2).bind fun x6=>(eG x6.2).bind fun x8=>(eG x8.2).bind fun x10=>(eG x10.2).bind fun x12=>(eG x12.2).bind fun x14=>(eG x14.2).bind fun x16=>(eG x16.2).bind fun x18=>(eG x18.2).bind fun x20=>(eG x20.2).bind fun x22=>(((dS x22.2).bind fun x27=>(gd ((decide (x27=(0:Int)))==true) (gD x22.1 (0:Int) (64:Int))).bind fun x29=>cond (cond (decide (x27=(0:Int))) (!x29) false) ((iU (3:Int) x22.2).bind fun x32=>some x32) (some x22.2)):Option aG).bind fun x24=>(((dO (iE x22) (((0:Int),x24,([]:(List (List UInt8)))))):Option (aG × (List (List UInt8)))).bind fun x35=>((((dS x35.1).bind fun x59=>(gd ((decide (x59=(0:Int)))==true) (gC (bP.mk x1.1 x6.1 x8.1 x10.1 x12.1 x14.1 x16.1 x18.1 x20.1 x35.2))).bind fun x61=>cond (cond (decide (x59=(0:Int))) (!x61) false) ((iU (3:Int) x35.1).bind fun x64=>some x64) (some x35.1)):Option aG).bind fun x56=>((dS x56).bind fun x67=>cond (!decide (x67=(0:Int))) (some ((bP.mk ([]:List UInt8) (0:Int) (0:Int) (0:Int) (0:Int) (0:Int) (0:Int) (0:Int) (0:Int) ([]:(List (List UInt8)))),x56)) (some ((bP.mk x1.1 x6.1 x8.1 x10.1 x12.1 x14.1 x16.1 x18.1 x20.1 x35.2),x56)))))
theorem vC {cQ:aG}{res:(bP × aG)} (h:hY cQ=some res):bR Tryz.prog 73 [.box 0 0] [AV.cs (cN cQ)] (.agg (AV.cs (gA res.1))) [AV.cs (cN res.2)]:=by
 unfold hY at h
 refine cP (fn:=Tryz.f73) [0,2,3,5,6,7,11,12,13,14,31,41,58,63] (by kernel_rfl) Tryz.func73 r (by kernel_rfl) (by kernel_rfl)<|aJ<|fZ (n:=1) (cs:=aX) (σ':=[bV,aX]) aMO r r r<|aF (fr':=[(0,.box 0 0),(2,.box 1 0)]) r r<|aJ<|fZ (n:=2) (cs:=aX) (σ':=[bV,aX,aX]) aMO r r r<|aF (fr':=[(0,.box 0 0),(2,.box 1 0),(3,.box 2 0)]) r r<|aJ<|mV (v:=.box 0 0) r ?_
 obtain ⟨x1,hx1,h2⟩:=aE h
 refine dK (v:=aS) (σ':=[bV,aX,aX]) [0] r (gX hx1) r r ⟨lr,lr,trivial⟩ (eM ⟨r,r,r,r,trivial⟩ aC) r r r<|aQ r (bF uR r)<|bO (v:=aS) (us:=[aS]) (cs:=aX) (σ':=[bV,aX,aX]) r nV r r r r r r r r<|aF (fr':=[(0,.box 0 0),(2,.box 1 0),(3,.box 2 0)]) r r<|aN<|aN<|aT ?_
 obtain ⟨x3,hx3,h4⟩:=aE h2
 refine sU (v:=.ptrs [(2,1),(2,2),(2,3),(2,4),(2,5),(2,6),(2,7),(2,8)]) (σ':=[bV,aX,aX]) 11 [2] [] r (wY hx3) r r r ⟨lr,trivial⟩ (rV ⟨lr,lr,lr,lr,lr,lr,lr,lr,lr,lr,trivial⟩ aC) r r r<|aQ r (aED aLx r)<|mI r<|aF (fr':=[(0,.box 0 0),(2,.box 1 0),(3,.box 2 0),(11,.ptrs [(2,1),(2,2),(2,3),(2,4),(2,5),(2,6),(2,7),(2,8)]),(12,aI),(13,aI)]) r r<|bK<|aHX 64<|mN<|aJ<|aQ r (nH (dU r r) (show _=.bool true from r))<|aF (fr':=[(0,.box 0 0),(2,.box 1 0),(3,.box 2 0),(11,.ptrs [(2,1),(2,2),(2,3),(2,4),(2,5),(2,6),(2,7),(2,8)]),(12,aI),(13,aI),(14,aB)]) r r<|aN<|eL r ?_
 refine bA<|bT<|aN<|bK<|aJ<|aQ r (gJ (p:=(2,1)) kA r r r)<|aQ r (eE kY r)<|sV (v:=.box 2 1) r<|aF (fr':=[(0,.box 0 0),(2,.box 1 0),(3,.box 2 0),(5,.box 2 1),(11,.ptrs [(2,1),(2,2),(2,3),(2,4),(2,5),(2,6),(2,7),(2,8)]),(12,aI),(13,aI)]) r r<|aT<|mV (v:=.box 2 1) r<|mV (v:=.box 0 0) r ?_
 obtain ⟨x6,hx6,h7⟩:=aE h4
 refine dK (v:=aI) (σ':=[bV,aX,aX]) [0] r (fP hx6) r r ⟨lr,trivial⟩ (eM ⟨r,r,r,r,trivial⟩ aC) r r r<|aQ r (eQ r)<|bO (v:=aI) (us:=[aI]) (cs:=aX) (σ':=[bV,aX,aX]) r fC r r r r r r r r<|cI (fr':=[(0,.box 0 0),(2,.box 1 0),(3,.box 2 0),(5,.box 2 1),(11,.ptrs [(2,1),(2,2),(2,3),(2,4),(2,5),(2,6),(2,7),(2,8)]),(12,aI),(13,aI)]) r<|cA<|bT<|aT<|aQ r (nH (dR r r) (show _=.int .i64 (1:Int) from r))<|mI r<|cI (fr':=[(0,.box 0 0),(2,.box 1 0),(3,.box 2 0),(5,.box 2 1),(11,.ptrs [(2,1),(2,2),(2,3),(2,4),(2,5),(2,6),(2,7),(2,8)]),(12,aI),(13,aI)]) r<|fM<|mN<|aN ?_
 refine aT<|aQ r (nH (dU r r) (show _=.bool true from r))<|aF (fr':=[(0,.box 0 0),(2,.box 1 0),(3,.box 2 0),(11,.ptrs [(2,1),(2,2),(2,3),(2,4),(2,5),(2,6),(2,7),(2,8)]),(12,aI),(13,aI),(14,aB)]) r r<|aN<|eL r<|bA<|bT<|aN<|bK<|aJ<|aQ r (gJ (p:=(2,2)) kA r r r)<|aQ r (eE kY r) ?_
 refine sV (v:=.box 2 2) r<|aF (fr':=[(0,.box 0 0),(2,.box 1 0),(3,.box 2 0),(5,.box 2 2),(11,.ptrs [(2,1),(2,2),(2,3),(2,4),(2,5),(2,6),(2,7),(2,8)]),(12,aI),(13,aI)]) r r<|aT<|mV (v:=.box 2 2) r<|mV (v:=.box 0 0) r ?_
 obtain ⟨x8,hx8,h9⟩:=aE h7
 refine dK (v:=aI) (σ':=[bV,aX,aX]) [0] r (fP hx8) r r ⟨lr,trivial⟩ (eM ⟨r,r,r,r,trivial⟩ aC) r r r<|aQ r (eQ r)<|bO (v:=aI) (us:=[aI]) (cs:=aX) (σ':=[bV,aX,aX]) r fC r r r r r r r r<|cI (fr':=[(0,.box 0 0),(2,.box 1 0),(3,.box 2 0),(5,.box 2 2),(11,.ptrs [(2,1),(2,2),(2,3),(2,4),(2,5),(2,6),(2,7),(2,8)]),(12,aI),(13,aI)]) r<|cA<|bT<|aT<|aQ r (nH (dR r r) (show _=.int .i64 (2:Int) from r))<|mI r<|cI (fr':=[(0,.box 0 0),(2,.box 1 0),(3,.box 2 0),(5,.box 2 2),(11,.ptrs [(2,1),(2,2),(2,3),(2,4),(2,5),(2,6),(2,7),(2,8)]),(12,aI),(13,aI)]) r<|fM<|mN<|aN ?_
 refine aT<|aQ r (nH (dU r r) (show _=.bool true from r))<|aF (fr':=[(0,.box 0 0),(2,.box 1 0),(3,.box 2 0),(11,.ptrs [(2,1),(2,2),(2,3),(2,4),(2,5),(2,6),(2,7),(2,8)]),(12,aI),(13,aI),(14,aB)]) r r<|aN<|eL r<|bA<|bT<|aN<|bK<|aJ<|aQ r (gJ (p:=(2,3)) kA r r r)<|aQ r (eE kY r) ?_
 refine sV (v:=.box 2 3) r<|aF (fr':=[(0,.box 0 0),(2,.box 1 0),(3,.box 2 0),(5,.box 2 3),(11,.ptrs [(2,1),(2,2),(2,3),(2,4),(2,5),(2,6),(2,7),(2,8)]),(12,aI),(13,aI)]) r r<|aT<|mV (v:=.box 2 3) r<|mV (v:=.box 0 0) r ?_
 obtain ⟨x10,hx10,h11⟩:=aE h9
 refine dK (v:=aI) (σ':=[bV,aX,aX]) [0] r (fP hx10) r r ⟨lr,trivial⟩ (eM ⟨r,r,r,r,trivial⟩ aC) r r r<|aQ r (eQ r)<|bO (v:=aI) (us:=[aI]) (cs:=aX) (σ':=[bV,aX,aX]) r fC r r r r r r r r<|cI (fr':=[(0,.box 0 0),(2,.box 1 0),(3,.box 2 0),(5,.box 2 3),(11,.ptrs [(2,1),(2,2),(2,3),(2,4),(2,5),(2,6),(2,7),(2,8)]),(12,aI),(13,aI)]) r<|cA<|bT<|aT<|aQ r (nH (dR r r) (show _=.int .i64 (3:Int) from r))<|mI r<|cI (fr':=[(0,.box 0 0),(2,.box 1 0),(3,.box 2 0),(5,.box 2 3),(11,.ptrs [(2,1),(2,2),(2,3),(2,4),(2,5),(2,6),(2,7),(2,8)]),(12,aI),(13,aI)]) r<|fM<|mN<|aN ?_
 refine aT<|aQ r (nH (dU r r) (show _=.bool true from r))<|aF (fr':=[(0,.box 0 0),(2,.box 1 0),(3,.box 2 0),(11,.ptrs [(2,1),(2,2),(2,3),(2,4),(2,5),(2,6),(2,7),(2,8)]),(12,aI),(13,aI),(14,aB)]) r r<|aN<|eL r<|bA<|bT<|aN<|bK<|aJ<|aQ r (gJ (p:=(2,4)) kA r r r)<|aQ r (eE kY r) ?_
 refine sV (v:=.box 2 4) r<|aF (fr':=[(0,.box 0 0),(2,.box 1 0),(3,.box 2 0),(5,.box 2 4),(11,.ptrs [(2,1),(2,2),(2,3),(2,4),(2,5),(2,6),(2,7),(2,8)]),(12,aI),(13,aI)]) r r<|aT<|mV (v:=.box 2 4) r<|mV (v:=.box 0 0) r ?_
 obtain ⟨x12,hx12,h13⟩:=aE h11
 refine dK (v:=aI) (σ':=[bV,aX,aX]) [0] r (fP hx12) r r ⟨lr,trivial⟩ (eM ⟨r,r,r,r,trivial⟩ aC) r r r<|aQ r (eQ r)<|bO (v:=aI) (us:=[aI]) (cs:=aX) (σ':=[bV,aX,aX]) r fC r r r r r r r r<|cI (fr':=[(0,.box 0 0),(2,.box 1 0),(3,.box 2 0),(5,.box 2 4),(11,.ptrs [(2,1),(2,2),(2,3),(2,4),(2,5),(2,6),(2,7),(2,8)]),(12,aI),(13,aI)]) r<|cA<|bT<|aT<|aQ r (nH (dR r r) (show _=.int .i64 (4:Int) from r))<|mI r<|cI (fr':=[(0,.box 0 0),(2,.box 1 0),(3,.box 2 0),(5,.box 2 4),(11,.ptrs [(2,1),(2,2),(2,3),(2,4),(2,5),(2,6),(2,7),(2,8)]),(12,aI),(13,aI)]) r<|fM<|mN<|aN ?_
 refine aT<|aQ r (nH (dU r r) (show _=.bool true from r))<|aF (fr':=[(0,.box 0 0),(2,.box 1 0),(3,.box 2 0),(11,.ptrs [(2,1),(2,2),(2,3),(2,4),(2,5),(2,6),(2,7),(2,8)]),(12,aI),(13,aI),(14,aB)]) r r<|aN<|eL r<|bA<|bT<|aN<|bK<|aJ<|aQ r (gJ (p:=(2,5)) kA r r r)<|aQ r (eE kY r) ?_
 refine sV (v:=.box 2 5) r<|aF (fr':=[(0,.box 0 0),(2,.box 1 0),(3,.box 2 0),(5,.box 2 5),(11,.ptrs [(2,1),(2,2),(2,3),(2,4),(2,5),(2,6),(2,7),(2,8)]),(12,aI),(13,aI)]) r r<|aT<|mV (v:=.box 2 5) r<|mV (v:=.box 0 0) r ?_
 obtain ⟨x14,hx14,h15⟩:=aE h13
 refine dK (v:=aI) (σ':=[bV,aX,aX]) [0] r (fP hx14) r r ⟨lr,trivial⟩ (eM ⟨r,r,r,r,trivial⟩ aC) r r r<|aQ r (eQ r)<|bO (v:=aI) (us:=[aI]) (cs:=aX) (σ':=[bV,aX,aX]) r fC r r r r r r r r<|cI (fr':=[(0,.box 0 0),(2,.box 1 0),(3,.box 2 0),(5,.box 2 5),(11,.ptrs [(2,1),(2,2),(2,3),(2,4),(2,5),(2,6),(2,7),(2,8)]),(12,aI),(13,aI)]) r<|cA<|bT<|aT<|aQ r (nH (dR r r) (show _=.int .i64 (5:Int) from r))<|mI r<|cI (fr':=[(0,.box 0 0),(2,.box 1 0),(3,.box 2 0),(5,.box 2 5),(11,.ptrs [(2,1),(2,2),(2,3),(2,4),(2,5),(2,6),(2,7),(2,8)]),(12,aI),(13,aI)]) r<|fM<|mN<|aN ?_
 refine aT<|aQ r (nH (dU r r) (show _=.bool true from r))<|aF (fr':=[(0,.box 0 0),(2,.box 1 0),(3,.box 2 0),(11,.ptrs [(2,1),(2,2),(2,3),(2,4),(2,5),(2,6),(2,7),(2,8)]),(12,aI),(13,aI),(14,aB)]) r r<|aN<|eL r<|bA<|bT<|aN<|bK<|aJ<|aQ r (gJ (p:=(2,6)) kA r r r)<|aQ r (eE kY r) ?_
 refine sV (v:=.box 2 6) r<|aF (fr':=[(0,.box 0 0),(2,.box 1 0),(3,.box 2 0),(5,.box 2 6),(11,.ptrs [(2,1),(2,2),(2,3),(2,4),(2,5),(2,6),(2,7),(2,8)]),(12,aI),(13,aI)]) r r<|aT<|mV (v:=.box 2 6) r<|mV (v:=.box 0 0) r ?_
 obtain ⟨x16,hx16,h17⟩:=aE h15
 refine dK (v:=aI) (σ':=[bV,aX,aX]) [0] r (fP hx16) r r ⟨lr,trivial⟩ (eM ⟨r,r,r,r,trivial⟩ aC) r r r<|aQ r (eQ r)<|bO (v:=aI) (us:=[aI]) (cs:=aX) (σ':=[bV,aX,aX]) r fC r r r r r r r r<|cI (fr':=[(0,.box 0 0),(2,.box 1 0),(3,.box 2 0),(5,.box 2 6),(11,.ptrs [(2,1),(2,2),(2,3),(2,4),(2,5),(2,6),(2,7),(2,8)]),(12,aI),(13,aI)]) r<|cA<|bT<|aT<|aQ r (nH (dR r r) (show _=.int .i64 (6:Int) from r))<|mI r<|cI (fr':=[(0,.box 0 0),(2,.box 1 0),(3,.box 2 0),(5,.box 2 6),(11,.ptrs [(2,1),(2,2),(2,3),(2,4),(2,5),(2,6),(2,7),(2,8)]),(12,aI),(13,aI)]) r<|fM<|mN<|aN ?_
 refine aT<|aQ r (nH (dU r r) (show _=.bool true from r))<|aF (fr':=[(0,.box 0 0),(2,.box 1 0),(3,.box 2 0),(11,.ptrs [(2,1),(2,2),(2,3),(2,4),(2,5),(2,6),(2,7),(2,8)]),(12,aI),(13,aI),(14,aB)]) r r<|aN<|eL r<|bA<|bT<|aN<|bK<|aJ<|aQ r (gJ (p:=(2,7)) kA r r r)<|aQ r (eE kY r) ?_
 refine sV (v:=.box 2 7) r<|aF (fr':=[(0,.box 0 0),(2,.box 1 0),(3,.box 2 0),(5,.box 2 7),(11,.ptrs [(2,1),(2,2),(2,3),(2,4),(2,5),(2,6),(2,7),(2,8)]),(12,aI),(13,aI)]) r r<|aT<|mV (v:=.box 2 7) r<|mV (v:=.box 0 0) r ?_
 obtain ⟨x18,hx18,h19⟩:=aE h17
 refine dK (v:=aI) (σ':=[bV,aX,aX]) [0] r (fP hx18) r r ⟨lr,trivial⟩ (eM ⟨r,r,r,r,trivial⟩ aC) r r r<|aQ r (eQ r)<|bO (v:=aI) (us:=[aI]) (cs:=aX) (σ':=[bV,aX,aX]) r fC r r r r r r r r<|cI (fr':=[(0,.box 0 0),(2,.box 1 0),(3,.box 2 0),(5,.box 2 7),(11,.ptrs [(2,1),(2,2),(2,3),(2,4),(2,5),(2,6),(2,7),(2,8)]),(12,aI),(13,aI)]) r<|cA<|bT<|aT<|aQ r (nH (dR r r) (show _=.int .i64 (7:Int) from r))<|mI r<|cI (fr':=[(0,.box 0 0),(2,.box 1 0),(3,.box 2 0),(5,.box 2 7),(11,.ptrs [(2,1),(2,2),(2,3),(2,4),(2,5),(2,6),(2,7),(2,8)]),(12,aI),(13,aI)]) r<|fM<|mN<|aN ?_
 refine aT<|aQ r (nH (dU r r) (show _=.bool true from r))<|aF (fr':=[(0,.box 0 0),(2,.box 1 0),(3,.box 2 0),(11,.ptrs [(2,1),(2,2),(2,3),(2,4),(2,5),(2,6),(2,7),(2,8)]),(12,aI),(13,aI),(14,aB)]) r r<|aN<|eL r<|bA<|bT<|aN<|bK<|aJ<|aQ r (gJ (p:=(2,8)) kA r r r)<|aQ r (eE kY r) ?_
 refine sV (v:=.box 2 8) r<|aF (fr':=[(0,.box 0 0),(2,.box 1 0),(3,.box 2 0),(5,.box 2 8),(11,.ptrs [(2,1),(2,2),(2,3),(2,4),(2,5),(2,6),(2,7),(2,8)]),(12,aI),(13,aI)]) r r<|aT<|mV (v:=.box 2 8) r<|mV (v:=.box 0 0) r ?_
 obtain ⟨x20,hx20,h21⟩:=aE h19
 refine dK (v:=aI) (σ':=[bV,aX,aX]) [0] r (fP hx20) r r ⟨lr,trivial⟩ (eM ⟨r,r,r,r,trivial⟩ aC) r r r<|aQ r (eQ r)<|bO (v:=aI) (us:=[aI]) (cs:=aX) (σ':=[bV,aX,aX]) r fC r r r r r r r r<|cI (fr':=[(0,.box 0 0),(2,.box 1 0),(3,.box 2 0),(5,.box 2 8),(11,.ptrs [(2,1),(2,2),(2,3),(2,4),(2,5),(2,6),(2,7),(2,8)]),(12,aI),(13,aI)]) r<|cA<|bT<|aT<|aQ r (nH (dR r r) (show _=.int .i64 (8:Int) from r))<|mI r<|cI (fr':=[(0,.box 0 0),(2,.box 1 0),(3,.box 2 0),(5,.box 2 8),(11,.ptrs [(2,1),(2,2),(2,3),(2,4),(2,5),(2,6),(2,7),(2,8)]),(12,aI),(13,aI)]) r<|fM<|mN<|aN ?_
 refine aT<|aQ r (nH (dU r r) (show _=.bool false from r))<|aF (fr':=[(0,.box 0 0),(2,.box 1 0),(3,.box 2 0),(11,.ptrs [(2,1),(2,2),(2,3),(2,4),(2,5),(2,6),(2,7),(2,8)]),(12,aI),(13,aI),(14,aB)]) r r<|aN<|wZ r<|fJ<|bY<|bY<|eC<|bT<|aJ<|mV (v:=.box 0 0) r ?_
 obtain ⟨x22,hx22,h23⟩:=aE h21
 refine dK (v:=aI) (σ':=[bV,aX,aX]) [0] r (fP hx22) r r ⟨lr,trivial⟩ (eM ⟨r,r,r,r,trivial⟩ aC) r r r<|sI r<|aF (fr':=[(0,.box 0 0),(2,.box 1 0),(3,.box 2 0),(6,aI)]) r r ?_
 obtain ⟨x24,hx24,h25⟩:=aE h23
 refine jX (fun j26=>x24=j26) (fun (j26:aG)=>([(0,.box 0 0),(2,.box 1 0),(3,.box 2 0),(6,ci x22.1)]:Fr)) (fun (j26:aG)=>([[.c (PV.ls 1 eD j26.b_),ci j26.at_,ci j26.err_,.c (.bool j26.made_)],[.c (.str ([]:List UInt8)),ci 0,ci 0,ci 0,ci 0,ci 0,ci 0,ci 0,ci 0,AV.nil],[.c (.str x1.1),ci x6.1,ci x8.1,ci x10.1,ci x12.1,ci x14.1,ci x16.1,ci x18.1,ci x20.1,AV.nil]]:St)) ?_ ?_
 ·
  refine aJ<|mV (v:=.box 0 0) r ?_
  obtain ⟨x27,hx27,h28⟩:=aE hx24
  refine dK (v:=aI) (σ':=[bV,aX,aX]) [0] r (eB hx27) r r ⟨lr,trivial⟩ (eM ⟨r,r,r,r,trivial⟩ aC) r r r<|aQ r (bX r r)<|mB r<|og r r r (fun hc=>(aU (v:=aI) r)) ?_
  obtain ⟨x29,hx29,h30⟩:=aE h28
  refine vQ r r (fun hc=>bG (v:=aB) r (gL (cV hx29 hc)) ⟨(fK (gx r hc) lr),lr,lr,trivial⟩ (fT (by repeat (first | exact eK | refine aY r ?_ | refine aY (rI r) ?_ | refine aY rH ?_))) r r) ?_
  refine og r r r (fun hc=>(eU (gx r hc)))<|aQ r (bS r r r (fun e=>fG e))<|aF (fr':=[(0,.box 0 0),(2,.box 1 0),(3,.box 2 0),(6,aI),(31,aB)]) r r<|cC h30 r (fun hb31 h31=>?_) (fun hb31 h31=>?_)
  ·
   refine aT<|mV (v:=.box 0 0) r ?_
   obtain ⟨x32,hx32,h33⟩:=aE h31
   exact dK (v:=_) (σ':=[bV,aX,aX]) [0] r (lD hx32) r r ⟨lr,lr,trivial⟩ (eM ⟨r,r,r,r,trivial⟩ aC) r r r<|cI (fr':=[(0,.box 0 0),(2,.box 1 0),(3,.box 2 0),(6,aI),(31,aB)]) r<|lF _ (sy h33) (bJ [] 3 r r r r ⟨lr,lr,lr,lr,trivial⟩ (cK r (cK r (cK r aC))))
  ·
   exact bA<|lF _ (sy h31) (bJ [] 3 r r r r ⟨lr,lr,lr,lr,trivial⟩ (cK r (cK r (cK r aC))))
 ·
  intro j26 hj34
  subst hj34
  refine aN<|aJ<|sI r<|aF (fr':=[(0,.box 0 0),(2,.box 1 0),(3,.box 2 0),(6,aI),(7,aI)]) r r ?_
  obtain ⟨x35,hx35,h36⟩:=aE h25
  refine fI iV (fun j37=>x35=j37) (fun (j37:(aG × (List (List UInt8))))=>([(0,.box 0 0),(2,.box 1 0),(3,.box 2 0)]:Fr)) (fun (j37:(aG × (List (List UInt8))))=>([[.c (PV.ls 1 eD j37.1.b_),ci j37.1.at_,ci j37.1.err_,.c (.bool j37.1.made_)],[.c (.str ([]:List UInt8)),ci 0,ci 0,ci 0,ci 0,ci 0,ci 0,ci 0,ci 0,AV.nil],[.c (.str x1.1),ci x6.1,ci x8.1,ci x10.1,ci x12.1,ci x14.1,ci x16.1,ci x18.1,ci x20.1,AV.os 0 1 fD j37.2]]:St)) ?_ ?_
  ·
   refine bK<|fB _ (fun (s38:(Int × aG × (List (List UInt8))))=>([(0,.box 0 0),(2,.box 1 0),(3,.box 2 0),(6,ci x22.1),(7,ci s38.1)]:Fr)) (fun (s38:(Int × aG × (List (List UInt8))))=>([[.c (PV.ls 1 eD s38.2.1.b_),ci s38.2.1.at_,ci s38.2.1.err_,.c (.bool s38.2.1.made_)],[.c (.str ([]:List UInt8)),ci 0,ci 0,ci 0,ci 0,ci 0,ci 0,ci 0,ci 0,AV.nil],[.c (.str x1.1),ci x6.1,ci x8.1,ci x10.1,ci x12.1,ci x14.1,ci x16.1,ci x18.1,ci x20.1,AV.os 0 1 fD s38.2.2]]:St)) hx35 (bJ [1000000] 3 r r r r ⟨lr,lr,lr,lr,lr,trivial⟩ (cK r (cK r (rV ⟨lr,lr,lr,lr,lr,lr,lr,lr,lr,(tE r),trivial⟩ aC)))) ?_
   intro s38 st38 hs38 ho38
   unfold iE at hs38
   obtain ⟨x39,hx39,h40⟩:=aE hs38
   refine jX (fun j41=>x39=Fl.go j41) (fun (j41:Unit)=>([(0,.box 0 0),(2,.box 1 0),(3,.box 2 0),(6,ci x22.1),(7,ci s38.1)]:Fr)) (fun (j41:Unit)=>([[.c (PV.ls 1 eD s38.2.1.b_),ci s38.2.1.at_,ci s38.2.1.err_,.c (.bool s38.2.1.made_)],[.c (.str ([]:List UInt8)),ci 0,ci 0,ci 0,ci 0,ci 0,ci 0,ci 0,ci 0,AV.nil],[.c (.str x1.1),ci x6.1,ci x8.1,ci x10.1,ci x12.1,ci x14.1,ci x16.1,ci x18.1,ci x20.1,AV.os 0 1 fD s38.2.2]]:St)) ?_ ?_
   ·
    refine aJ<|mI r<|mI r<|aQ r (dU r r)<|mB r<|aN1 hx39 (fun hb42 h42=>?_) (fun hb42 h42=>?_)
    ·
     refine qU r r hb42<|mV (v:=.box 0 0) r<|qU r r hb42 ?_
     obtain ⟨x43,hx43,h44⟩:=aE h42
     refine dK (v:=aI) (σ':=[bV,aX,[aS,aI,aI,aI,aI,aI,aI,aI,aI,aO]]) [0] r (eB hx43) r r ⟨lr,trivial⟩ (eM ⟨r,r,r,r,trivial⟩ aC) r r r<|qU r r hb42<|aQ r (bX r r)<|aQ r (aJU r hb42 r)<|aF (fr':=[(0,.box 0 0),(2,.box 1 0),(3,.box 2 0),(6,aI),(7,aI),(41,aB)]) r r<|cC h44 r (fun hb45 h45=>?_) (fun hb45 h45=>?_)
     ·
      exact bA<|lF _ (sy h45) (bJ [0] 3 r r r r ⟨lr,lr,lr,lr,lr,trivial⟩ (cK r (cK r (cK r aC))))
     ·
      refine fJ<|bY<|bY<|eC ?_
      have h46:=eA h45 h40
      have h47:=dN h46 ho38
      exact lF _ (sy h47) (bJ [0] 3 r r r r ⟨lr,lr,lr,trivial⟩ (cK r (cK r (cK r aC))))
    ·
     refine aMo r r hb42<|aMo r r hb42<|aMo r r hb42<|aQ r (aAa r hb42 r)<|aF (fr':=[(0,.box 0 0),(2,.box 1 0),(3,.box 2 0),(6,aI),(7,aI),(41,aB)]) r r<|wZ r<|fJ<|bY<|bY<|eC ?_
     have h48:=eA h42 h40
     have h49:=dN h48 ho38
     exact lF _ (sy h49) (bJ [0] 3 r r r r ⟨lr,lr,lr,trivial⟩ (cK r (cK r (cK r aC))))
   ·
    intro j41 hj50
    have h50:=kN hj50 h40
    refine aN<|bK<|gP [.q 0,.q 1,.q 2,.n 3 [0,1],.n 4 [0,1],.n 5 [],.q 6,.n 7 []] [(some 44,[3]),(some 45,[44]),(some 46,[0]),(some 47,[46]),(some 48,[47]),(some 49,[45,48]),(some 50,[3]),(none,[50,49])] [0,1,0,4,12,31,63,127] (by kernel_rfl)<|dq r r (bF mT r)<|dq r r (aP (v:=aO) nA r r r)<|dq r r (aU (v:=.box 0 0) r)<|d_n r ?_ r
    obtain ⟨x51,hx51,h52⟩:=aE h50
    refine dK (v:=aS) (σ':=[bV,aX,[aS,aI,aI,aI,aI,aI,aI,aI,aI,aO]]) [0] r (gX hx51) r r ⟨lr,lr,trivial⟩ (eM ⟨r,r,r,r,trivial⟩ aC) r r r<|aCn<|⟨(aK9 (v:=.box 2 9) r r (rA r (bF mT r)) (aK9 (v:=aO) r r (rA r (aP (v:=aO) nA r r r)) rT)),?_⟩
    refine d_n r ?_ r
    refine rP (row:=fD) (xs:=([x51.1]:List (List UInt8))) (rows:=[[_]]) (σ':=[bV,aX,[aS,aI,aI,aI,aI,aI,aI,aI,aI,aO]]) [0] uW r r r (fR r mD) r r<|aCn<|⟨(aK9 (v:=.box 2 9) r r (rA r (bF mT r)) (aK9 (v:=aO) r r (rA r (aP (v:=aO) nA r r r)) rT)),?_⟩
    refine d_n r ?_ r
    obtain ⟨x53,hx53,h54⟩:=aE h52
    refine aBd (row:=fD) uW r rZ r (qF r) (fun _=>r) hx53<|aCn<|⟨rT,?_⟩
    refine dq r r (bF mT r)<|d_n r ?_ r
    refine bO (v:=aO) (us:=[aO]) (cs:=bU) (σ':=[bV,aX,[aS,aI,aI,aI,aI,aI,aI,aI,aI,aO]]) r nA r r r r r r r r<|aCn<|⟨rT,?_⟩
    exact aM2 (fr':=[(0,.box 0 0),(2,.box 1 0),(3,.box 2 0),(6,aI),(7,aI)]) r<|cA<|bT<|aT<|mI r<|aQ r (dR r r)<|sI r<|cI (fr':=[(0,.box 0 0),(2,.box 1 0),(3,.box 2 0),(6,aI),(7,aI)]) r<|xG _ (sy h54) (bJ [784] 3 r r r r ⟨lr,lr,lr,lr,lr,trivial⟩ (cK r (cK r (cK r aC))))
  ·
   intro j37 hj55
   subst hj55
   refine bT ?_
   obtain ⟨x56,hx56,h57⟩:=aE h36
   refine jX (fun j58=>x56=j58) (fun (j58:aG)=>([(0,.box 0 0),(2,.box 1 0),(3,.box 2 0)]:Fr)) (fun (j58:aG)=>([[.c (PV.ls 1 eD j58.b_),ci j58.at_,ci j58.err_,.c (.bool j58.made_)],[.c (.str ([]:List UInt8)),ci 0,ci 0,ci 0,ci 0,ci 0,ci 0,ci 0,ci 0,AV.nil],[.c (.str x1.1),ci x6.1,ci x8.1,ci x10.1,ci x12.1,ci x14.1,ci x16.1,ci x18.1,ci x20.1,AV.os 0 1 fD x35.2]]:St)) ?_ ?_
   ·
    refine aJ<|mV (v:=.box 0 0) r ?_
    obtain ⟨x59,hx59,h60⟩:=aE hx56
    refine dK (v:=aI) (σ':=[bV,aX,[aS,aI,aI,aI,aI,aI,aI,aI,aI,aO]]) [0] r (eB hx59) r r ⟨lr,trivial⟩ (eM ⟨r,r,r,r,trivial⟩ aC) r r r<|aQ r (bX r r)<|mB r<|og r r r (fun hc=>(dF (us:=[aS,aI,aI,aI,aI,aI,aI,aI,aI,aO]) xQ r r r r)) ?_
    obtain ⟨x61,hx61,h62⟩:=aE h60
    refine vQ r r (fun hc=>bG (v:=aB) r (lV (cV hx61 hc)) ⟨(fK (gx r hc) (bM r ⟨r,r,r,r,r,r,r,r,r,r,trivial⟩)),trivial⟩ (fT (by repeat (first | exact eK | refine aY r ?_ | refine aY (rI r) ?_ | refine aY rH ?_))) r r) ?_
    refine og r r r (fun hc=>(eU (gx r hc)))<|aQ r (bS r r r (fun e=>fG e))<|aF (fr':=[(0,.box 0 0),(2,.box 1 0),(3,.box 2 0),(58,aB)]) r r<|cC h62 r (fun hb63 h63=>?_) (fun hb63 h63=>?_)
    ·
     refine aT<|mV (v:=.box 0 0) r ?_
     obtain ⟨x64,hx64,h65⟩:=aE h63
     exact dK (v:=_) (σ':=[bV,aX,[aS,aI,aI,aI,aI,aI,aI,aI,aI,aO]]) [0] r (lD hx64) r r ⟨lr,lr,trivial⟩ (eM ⟨r,r,r,r,trivial⟩ aC) r r r<|cI (fr':=[(0,.box 0 0),(2,.box 1 0),(3,.box 2 0),(58,aB)]) r<|lF _ (sy h65) (bJ [0] 3 r r r r ⟨lr,lr,lr,trivial⟩ (cK r (cK r (cK r aC))))
    ·
     exact bA<|lF _ (sy h63) (bJ [0] 3 r r r r ⟨lr,lr,lr,trivial⟩ (cK r (cK r (cK r aC))))
   ·
    intro j58 hj66
    subst hj66
    refine aN<|aJ<|mV (v:=.box 0 0) r ?_
    obtain ⟨x67,hx67,h68⟩:=aE h57
    refine dK (v:=aI) (σ':=[bV,aX,[aS,aI,aI,aI,aI,aI,aI,aI,aI,aO]]) [0] r (eB hx67) r r ⟨lr,trivial⟩ (eM ⟨r,r,r,r,trivial⟩ aC) r r r<|aQ r (fU r r)<|aF (fr':=[(2,.box 1 0),(3,.box 2 0),(63,aB)]) r r<|cC h68 r (fun hb69 h69=>?_) (fun hb69 h69=>?_)
    ·
     refine aJ<|aQ r (rS (c0:=aX) (cs:=aX) aML r rK)<|bO (v:=.agg aX) (us:=aX) (cs:=aX) (σ':=[bV,aX,[aS,aI,aI,aI,aI,aI,aI,aI,aI,aO]]) r xQ r r r r r r r r<|aF (fr':=[(2,.box 1 0)]) r r<|bE<|aK ?_
     obtain rfl:=sy h69
     exact bD (rs':=[.cell 2 28]) r<|dX (us:=aX) (cs:=aX) xQ r r r r<|bC<|aR [] r r r (bM r ⟨r,r,r,r,r,r,r,r,r,⟨_,r⟩,trivial⟩) (eM ⟨r,r,r,r,trivial⟩ aC)
    ·
     refine bA<|bT<|aJ<|aQ r (dF (us:=[aS,aI,aI,aI,aI,aI,aI,aI,aI,aO]) xQ r r r r)<|bO (v:=.agg [aS,aI,aI,aI,aI,aI,aI,aI,aI,aO]) (us:=[aS,aI,aI,aI,aI,aI,aI,aI,aI,aO]) (cs:=aX) (σ':=[bV,[aS,aI,aI,aI,aI,aI,aI,aI,aI,aO],[aS,aI,aI,aI,aI,aI,aI,aI,aI,aO]]) r xQ r r r r r r r r<|aF (fr':=[(2,.box 1 0)]) r r<|bE ?_
     obtain rfl:=sy h69
     exact bD (rs':=[.cell 2 28]) r<|dX (us:=[aS,aI,aI,aI,aI,aI,aI,aI,aI,aO]) (cs:=[aS,aI,aI,aI,aI,aI,aI,aI,aI,aO]) xQ r r r r<|bC<|aR [] r r r (bM r ⟨r,r,r,r,r,r,r,r,r,r,trivial⟩) (eM ⟨r,r,r,r,trivial⟩ aC)
end Go.Proofs.YtnigjppddilpcaaGreatDoor
