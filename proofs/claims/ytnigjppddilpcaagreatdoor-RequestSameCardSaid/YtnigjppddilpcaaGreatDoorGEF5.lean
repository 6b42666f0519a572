import Derived.Test.YtnigjppddilpcaaGreatDoorGETy
import Derived.Test.YtnigjppddilpcaaGreatDoorGEF0
import Derived.Test.YtnigjppddilpcaaGreatDoorGEF1
import Derived.Test.YtnigjppddilpcaaGreatDoorGEF4
namespace Go.Proofs.YtnigjppddilpcaaGreatDoor
open Go Abs
set_option maxRecDepth 100000
set_option linter.unusedVariables false
set_option linter.unusedSimpArgs false
noncomputable def gS (oM:Int→Int→aP→Option (aE × Int × aP)) (x1:(Int × aP)) (aAm:Int) (uC:Int) (s10:(Int × Int × aP × (List aE) × (List (List UInt8)))):Option (dG (Int × Int × aP × (List aE) × (List (List UInt8))) (Fl (aE × Int × aP) (Int × aP × (List aE) × (List (List UInt8))))) :=
 cond (decide (s10.1<x1.1)) (((cond (decide (aAm=5)) ((iU 9223372036854775807 s10.2.2.1).bind fun x16=>(gd (((decide (((x16.1).length:Int)≤4096))==true)&&((decide (s10.1=0))==false)) (nF s10.2.2.2.2 (IntKind.wrap .i64 (s10.1 - 1)))).bind fun x18=>(kH (cond (decide (((x16.1).length:Int)≤4096)) (cond (decide (s10.1=0)) true (!(Op.bytesLess x16.1 x18||decide (x16.1=x18)))) false) s10.2.1 x16.2).bind fun x20=>cond (!x20.1) (some (Fl.done (dG.out (Fl.done ((aE.mk 0 0 ([]:List UInt8) ([]:(List aE)) ([]:(List (List UInt8)))),s10.2.1,x20.2))))) ((app 16 s10.2.2.2.2 ([x16.1]:List (List UInt8))).bind fun x27=>some (Fl.go (x20.2,x27)))) (some (Fl.go (s10.2.2.1,s10.2.2.2.2)))):Option (Fl (dG (Int × Int × aP × (List aE) × (List (List UInt8))) (Fl (aE × Int × aP) (Int × aP × (List aE) × (List (List UInt8))))) (aP × (List (List UInt8))))).bind fun x12=>Fl.next x12 (fun j14=>((oM (IntKind.wrap .i64 (uC+1)) s10.2.1 j14.1).bind fun x30=>(gG x30.2.2).bind fun x32=>cond (!decide (x32=0)) (some (dG.out (Fl.done ((aE.mk 0 0 ([]:List UInt8) ([]:(List aE)) ([]:(List (List UInt8)))),x30.2.1,x30.2.2)))) ((app 80 s10.2.2.2.1 ([x30.1]:List aE)).bind fun x38=>some (dG.next ((IntKind.wrap .i64 (s10.1+1)),x30.2.1,x30.2.2,x38,j14.2)))))) (some (dG.out (Fl.go (s10.2.1,s10.2.2.1,s10.2.2.2.1,s10.2.2.2.2))))
mutual
noncomputable def iK:Nat→Int→Int→(List UInt8)→Int→Int→aP→Option (aE × Int × aP)
 | 0,_,_,_,_,_,_=>none
 | n+1,aAm,aEk,aEl,uC,gY,qK =>
  (gH (-9223372036854775808) 9223372036854775807 qK).bind fun x1=>(kH (cond (decide (0≤x1.1)) (decide (x1.1≤1000)) false) gY x1.2).bind fun x3=>cond (!x3.1) (some ((aE.mk 0 0 ([]:List UInt8) ([]:(List aE)) ([]:(List (List UInt8)))),gY,x3.2)) ((fX (gS (fO n) x1 aAm uC) ((0,gY,x3.2,([]:(List aE)),([]:(List (List UInt8)))))).bind fun x7=>Fl.next x7 (fun j9=>(some ((aE.mk aAm aEk aEl j9.2.2.1 j9.2.2.2),j9.1,j9.2.1))))
noncomputable def fO:Nat→Int→Int→aP→Option (aE × Int × aP)
 | 0,_,_,_=>none
 | n+1,qL,gY,qK =>
  (kH (cond (decide (gY<1000)) (decide (qL≤16)) false) gY qK).bind fun x1=>cond (!x1.1) (some ((aE.mk 0 0 ([]:List UInt8) ([]:(List aE)) ([]:(List (List UInt8)))),gY,x1.2)) ((gH (-9223372036854775808) 9223372036854775807 x1.2).bind fun x5=>(kH (cond (decide (0≤x5.1)) (decide (x5.1≤5)) false) (IntKind.wrap .i64 (gY+1)) x5.2).bind fun x7=>cond (!x7.1) (some ((aE.mk 0 0 ([]:List UInt8) ([]:(List aE)) ([]:(List (List UInt8)))),(IntKind.wrap .i64 (gY+1)),x7.2)) (((cond (decide (x5.1=1)) ((gH (-9223372036854775808) 9223372036854775807 x7.2).bind fun x15=>(kH (cond (decide (x15.1=0)) true (decide (x15.1=1))) (IntKind.wrap .i64 (gY+1)) x15.2).bind fun x17=>some (Fl.go (x17.2,x15.1,([]:List UInt8)))) (cond (decide (x5.1=2)) ((gH (-9223372036854775808) 9223372036854775807 x7.2).bind fun x20=>some (Fl.go (x20.2,x20.1,([]:List UInt8)))) (cond (decide (x5.1=3)) ((iU 9223372036854775807 x7.2).bind fun x23=>(kH (decide (((x23.1).length:Int)≤4096)) (IntKind.wrap .i64 (gY+1)) x23.2).bind fun x25=>some (Fl.go (x25.2,0,x23.1))) (((cond (decide (x5.1=4)) (some (decide (x5.1=4))) (some (decide (x5.1=5)))):Option Bool).bind fun x27=>(cond x27 (((iK n) x5.1 0 ([]:List UInt8) qL (IntKind.wrap .i64 (gY+1)) x7.2).bind fun x33=>some (Fl.done (x33.1,x33.2.1,x33.2.2))) (some (Fl.go (x7.2,0,([]:List UInt8))))))))):Option (Fl (aE × Int × aP) (aP × Int × (List UInt8)))).bind fun x11=>Fl.next x11 (fun j13=>(some ((aE.mk x5.1 j13.2.1 j13.2.2 ([]:(List aE)) ([]:(List (List UInt8)))),(IntKind.wrap .i64 (gY+1)),j13.1)))))
end
theorem aBV:∀ n:Nat,(∀ {aAm:Int}{aEk:Int}{aEl:(List UInt8)}{uC:Int}{gY:Int}{qK:aP}{z:(aE × Int × aP)},iK n aAm aEk aEl uC gY qK=some z→dE Tryz.prog 184 [.box 0 0,.agg [ci aAm,ci aEk,.c (.str aEl),AV.nil,AV.nil],ci uC] [[.box 1 0,ci gY],AV.cs (eG qK)] (.agg (AV.cs (fZ z.1))) [[.box 1 0,ci z.2.1],AV.cs (eG z.2.2)])∧(∀ {qL:Int}{gY:Int}{qK:aP}{z:(aE × Int × aP)},fO n qL gY qK=some z→dE Tryz.prog 145 [.box 0 0,ci qL] [[.box 1 0,ci gY],AV.cs (eG qK)] (.agg (AV.cs (fZ z.1))) [[.box 1 0,ci z.2.1],AV.cs (eG z.2.2)]):=by
 intro n
 induction n with
 | zero=>exact ⟨fun {aAm aEk aEl uC gY qK z} h=>absurd h (by simp [iK]),fun {qL gY qK z} h=>absurd h (by simp [fO])⟩
 | succ n ih =>
  obtain ⟨ih_value_decoder_items,ih_value_decoder_value⟩:=ih
  refine ⟨?_,?_⟩
  ·
   intro aAm aEk aEl uC gY qK z h
   rw [iK] at h
   refine eJ (fn:=Tryz.f184) [0,1,2,4,6,7,8,9,10,24,28,33,58,75] (by kernel_rfl) Tryz.func184 r (by kernel_rfl) (by kernel_rfl)<|aT<|jB (v:=.agg cJ) (n:=2) (cs:=cJ) (σ':=[[bK,aI],cZ,cJ]) r r r r r<|kT (n:=3) (cs:=cJ) (σ':=[[bK,aI],cZ,cJ,cJ]) aF3 r r r<|aR (fr':=[(0,aF),(2,aI),(4,eX),(6,nB)]) r r<|aT<|mV (v:=aF) r<|aW r (jL r)<|aW r (bH xZ r)<|aW r (aK (v:=bK) aH7 r r r)<|bx h fun x1 y1 h2=>fF (v:=aI) (σ':=[[bK,aI],cZ,cJ,cJ]) [1] r (mK y1) r r wE (hO oB aH) r r r<|sI r<|aR (fr':=[(0,aF),(2,aI),(4,eX),(6,nB),(7,aI)]) r r<|bC<|aT<|mV (v:=aF) r<|mI r<|aW r (xD r r)<|mB r<|og r r r (fun u=>(bP (v:=aI) r))<|og r r r (fun u=>(aAn (gx r u) r))<|aW r (cD r r r (fun e=>hD e))<|bx h2 fun x3 y3 h4=>fF (v:=aB) (σ':=[[bK,aI],cZ,cJ,cJ]) [0,1] r (nM y3) r r pV (aAx pV (hO oB aH)) (iN (by repeat (first | exact gK | refine bI r ?_ | refine bI (vT r) ?_ | refine bI vS ?_))) r r ?_
   refine aW r (hY r)<|aR (fr':=[(0,aF),(2,aI),(4,eX),(6,nB),(7,aI),(24,aB)]) r r<|eS h4 r (fun b5 h5=>?_) (fun b5 h5=>?_)
   ·
    refine aT<|aW r (mG (cs:=cJ) aH5 r)<|cY (v:=.agg cJ) (us:=cJ) (cs:=cJ) (σ':=[[bK,aI],cZ,cJ,cJ]) r jG r r r r r r r r<|aR (fr':=[(6,nB)]) r r<|cB<|aV ?_
    obtain rfl:=sy h5
    exact bZ (rs':=[.cell 6 26]) r<|hZ (us:=cJ) (cs:=cJ) jG r r r r<|bX<|aZ [] r r r (bV r ⟨r,r,r,⟨_,r⟩,⟨_,r⟩,trivial⟩) (aAx pV (hO oB aH))
   ·
    refine cE<|eA<|bC<|aT<|sI r<|aR (fr':=[(0,aF),(2,aI),(4,eX),(6,nB),(7,aI),(8,aI)]) r r<|bx h5 fun x7 y7 h8=>kC pL (fun j9=>x7=Fl.go j9) (fun (j9:(Int × aP × (List aE) × (List (List UInt8))))=>([(4,eX),(6,nB)]:Fr)) (fun (j9:(Int × aP × (List aE) × (List (List UInt8))))=>([[bK,ci j9.1],[.c (PV.ls 1 jK j9.2.1.b_),ci j9.2.1.at_,ci j9.2.1.err_,.c (.bool j9.2.1.made_)],[ci aAm,ci aEk,.c (.str aEl),AV.os 0 5 cH j9.2.2.1,AV.os 1 1 jE j9.2.2.2],[ci 0,ci 0,.c (.str ([]:List UInt8)),AV.nil,AV.nil]]:St)) ?_ ?_
    ·
     refine dA<|jS _ (fun (s10:(Int × Int × aP × (List aE) × (List (List UInt8))))=>([(0,aF),(2,ci uC),(4,eX),(6,nB),(7,ci x1.1),(8,ci s10.1)]:Fr)) (fun (s10:(Int × Int × aP × (List aE) × (List (List UInt8))))=>([[bK,ci s10.2.1],[.c (PV.ls 1 jK s10.2.2.1.b_),ci s10.2.2.1.at_,ci s10.2.2.1.err_,.c (.bool s10.2.2.1.made_)],[ci aAm,ci aEk,.c (.str aEl),AV.os 0 5 cH s10.2.2.2.1,AV.os 1 1 jE s10.2.2.2.2],[ci 0,ci 0,.c (.str ([]:List UInt8)),AV.nil,AV.nil]]:St)) y7 (cR [1000000,1000001] 4 r r r r kL6 (eU r (eU r (aAx ⟨lr,lr,lr,(aDH r),(aDH r),trivial⟩ (eU r aH))))) ?_
     intro s10 st10 hs10 ho10
     unfold gS at hs10
     refine bC<|aT<|mI r<|mI r<|aW r (iJ r r)<|aR (fr':=[(0,aF),(2,aI),(4,eX),(6,nB),(7,aI),(8,aI),(28,aB)]) r r<|eS hs10 r (fun b11 h11=>?_) (fun b11 h11=>?_)
     ·
      refine cE<|eA<|bC<|dA<|bx h11 fun x12 y12 h13=>rH (fun j14=>x12=Fl.go j14) (fun (j14:(aP × (List (List UInt8))))=>([(0,aF),(2,ci uC),(4,eX),(6,nB),(7,ci x1.1),(8,ci s10.1)]:Fr)) (fun (j14:(aP × (List (List UInt8))))=>([[bK,ci s10.2.1],[.c (PV.ls 1 jK j14.1.b_),ci j14.1.at_,ci j14.1.err_,.c (.bool j14.1.made_)],[ci aAm,ci aEk,.c (.str aEl),AV.os 0 5 cH s10.2.2.2.1,AV.os 1 1 jE j14.2],[ci 0,ci 0,.c (.str ([]:List UInt8)),AV.nil,AV.nil]]:St)) ?_ ?_
      ·
       refine aT<|aW r (bH sP r)<|aW r (aK (v:=aI) gZ r r r)<|aW r (dZ r r)<|aR (fr':=[(0,aF),(2,aI),(4,eX),(6,nB),(7,aI),(8,aI),(33,aB)]) r r<|eS y12 r (fun b15 h15=>?_) (fun b15 h15=>?_)
       ·
        refine aT<|mV (v:=aF) r<|aW r (jL r)<|aW r (bH xZ r)<|aW r (aK (v:=bK) aH7 r r r)<|bx h15 fun x16 y16 h17=>fF (v:=aS) (σ':=[[bK,aI],cZ,[aI,aI,aS,aO,aO],cJ]) [1] r (lU y16) r r pV (hO oB aH) r r r<|sS r<|aR (fr':=[(0,aF),(2,aI),(4,eX),(6,nB),(7,aI),(8,aI),(9,aS)]) r r<|bC<|aT<|mV (v:=aF) r<|mS r<|aW r (rN zG r)<|aW r (aAn r r)<|mB r<|og r r r (fun u=>(bP (v:=aI) r))<|og r r r (fun u=>(dZ (gx r u) r))<|og r r r (fun u=>(bP (v:=aB) (gx r u)))<|hS r r (fun u=>iG r (bP (v:=aS) r))<|hS r r (fun u=>iG r (bH vO r))<|hS r r (fun u=>iG r (aK (v:=aO) wD (gx r u) r r))<|hS r r (fun u=>iG r (bP (v:=aI) r))<|hS r r (fun u=>iG r (aPa (gx r u) r))<|bx h17 fun x18 y18 h19=>hS r r (fun u=>iG r (rD (cs:=[PV.str _]) aBQ (aAi (gx r u)) (gx r u) (eQ y18 u) r))<|hS r r (fun u=>iG r (nR (p:=PV.str _) oG (gx r u) r))<|hS r r (fun u=>iG r (aRu (gx r u) (gx r u)))<|og r r r (fun u=>(dD (gx r u) r r (fun e=>wC u (hD e))))<|aW r (cD r r r (fun e=>hD e))<|bx h19 fun x20 y20 h21=>fF (v:=aB) (σ':=[[bK,aI],cZ,[aI,aI,aS,aO,aO],cJ]) [0,1] r (nM y20) r r pV (aAx pV (hO oB aH)) (iN (by repeat (first | exact gK | refine bI r ?_ | refine bI (vT r) ?_ | refine bI vS ?_))) r r ?_
        refine aW r (hY r)<|aR (fr':=[(0,aF),(2,aI),(4,eX),(6,nB),(7,aI),(8,aI),(9,aS),(58,aB)]) r r<|eS h21 r (fun b22 h22=>?_) (fun b22 h22=>?_)
        ·
         refine aT<|aW r (mG (cs:=cJ) aH5 r)<|cY (v:=.agg cJ) (us:=cJ) (cs:=cJ) (σ':=[[bK,aI],cZ,[aI,aI,aS,aO,aO],cJ]) r jG r r r r r r r r<|aR (fr':=[(6,nB)]) r r<|cB<|aV<|aV<|cL<|aV<|aV<|cL<|aV<|aV ?_
         have h23:=hU h22 h13
         have h24:=gN h23 ho10
         have h25:=hU h24 h8
         obtain rfl:=sy h25
         exact bZ (rs':=[.cell 6 26]) r<|hZ (us:=cJ) (cs:=cJ) jG r r r r<|bX<|aZ [] r r r (bV r ⟨r,r,r,⟨_,r⟩,⟨_,r⟩,trivial⟩) (aAx pV (hO oB aH))
        ·
         exact cE<|eA<|bN<|aW r (bH vO r)<|aW r (aK (v:=aO) wD r r r)<|mS r<|aA4 (row:=jE) (xs:=([x16.1]:List (List UInt8))) (rows:=[[_]]) (σ':=[[bK,aI],cZ,[aI,aI,aS,aO,aO],cJ]) [0] aBQ r r r (kS r uT) r r<|bx h22 fun x27 y27 h28=>aG0 (row:=jE) aBQ r aBi r (aAi r) (fun _=>r) y27<|aW r (bH vO r)<|cY (v:=aO) (us:=[aO]) (cs:=[aI,aI,aS,aO,aL]) (σ':=[[bK,aI],cZ,[aI,aI,aS,aO,aO],cJ]) r wD r r r r r r r r<|fG (fr':=[(0,aF),(2,aI),(4,eX),(6,nB),(7,aI),(8,aI),(9,aS),(58,aB)]) r<|tB _ (sy h28) (cR [0,1024] 4 r r r r kL6 (eU r (eU r (eU r (eU r aH)))))
       ·
        exact cE<|tB _ (sy h15) (cR [0,1] 4 r r r r kL6 (eU r (eU r (eU r (eU r aH)))))
      ·
       intro j14 hj29
       have h29:=qP hj29 h13
       refine aT<|mV (v:=aF) r<|mI r<|aW r (iH r r)<|bx h29 fun x30 y30 h31=>fF (v:=.agg cK) (σ':=[[bK,aI],cZ,[aI,aI,aS,aO,aO],cJ]) [0,1] r (ih_value_decoder_value y30) r r pV (aAx pV (hO oB aH)) r r r<|kT (n:=4) (cs:=cJ) (σ':=[[bK,aI],cZ,[aI,aI,aS,aO,aO],cJ,cJ]) aF3 r r r<|cY (v:=.agg cK) (us:=cK) (cs:=cJ) (σ':=[[bK,aI],cZ,[aI,aI,aS,aO,aO],cJ,cK]) r jG r r r r r r r r<|aR (fr':=[(0,aF),(2,aI),(4,eX),(6,nB),(7,aI),(8,aI),(10,aMJ)]) r r<|bC<|aT<|mV (v:=aF) r<|aW r (jL r)<|aW r (bH xZ r)<|aW r (aK (v:=bK) aH7 r r r)<|bx h31 fun x32 y32 h33=>fF (v:=aI) (σ':=[[bK,aI],cZ,[aI,aI,aS,aO,aO],cJ,cK]) [1] r (hG y32) r r ⟨lr,trivial⟩ (hO oB aH) r r r<|aW r (kD r r)<|aR (fr':=[(0,aF),(2,aI),(4,eX),(6,nB),(7,aI),(8,aI),(10,aMJ),(75,aB)]) r r<|eS h33 r (fun b34 h34=>?_) (fun b34 h34=>?_)
       ·
        refine aT<|aW r (mG (cs:=cJ) aH5 r)<|cY (v:=.agg cJ) (us:=cJ) (cs:=cJ) (σ':=[[bK,aI],cZ,[aI,aI,aS,aO,aO],cJ,cK]) r jG r r r r r r r r<|aR (fr':=[(6,nB)]) r r<|cB<|aV<|cL<|aV<|aV<|cL<|aV<|aV ?_
        have h35:=gN h34 ho10
        have h36:=hU h35 h8
        obtain rfl:=sy h36
        exact bZ (rs':=[.cell 6 26]) r<|hZ (us:=cJ) (cs:=cJ) jG r r r r<|bX<|aZ [] r r r (bV r ⟨r,r,r,⟨_,r⟩,⟨_,r⟩,trivial⟩) (aAx pV (hO oB aH))
       ·
        exact cE<|eA<|bN<|aW r (bH pE r)<|aW r (aK (v:=aO) zT r r r)<|aW r (dN (us:=cK) jG r r r r)<|aA4 (row:=cH) (xs:=([x30.1]:List aE)) (rows:=[[_,_,_,_,_]]) (σ':=[[bK,aI],cZ,[aI,aI,aS,aO,aO],cJ,cK]) [0,0,0,5,1] aDc r r r (kS (hF _) uT) r r<|bx h34 fun x38 y38 h39=>aG0 (row:=cH) aDc r aCa r (aAi r) aFZ y38<|aW r (bH pE r)<|cY (v:=aO) (us:=[aO]) (cs:=[aI,aI,aS,aL,aO]) (σ':=[[bK,aI],cZ,[aI,aI,aS,aO,aO],cJ,cK]) r zT r r r r r r r r<|fG (fr':=[(0,aF),(2,aI),(4,eX),(6,nB),(7,aI),(8,aI),(10,aMJ),(75,aB)]) r<|eW<|eA<|bN<|mI r<|aW r (iH r r)<|sI r<|fG (fr':=[(0,aF),(2,aI),(4,eX),(6,nB),(7,aI),(8,aI),(10,aMJ),(75,aB)]) r<|e_l _ (sy h39) (cR [1296,1] 4 r r r r kL6 (eU r (eU r (eU r (eU r aH)))))
     ·
      refine kF<|eL<|eL<|iM ?_
      have h40:=gN h11 ho10
      exact tB _ (sy h40) (cR [0,1] 4 r r r r pV (eU r (eU r (eU r (eU r aH)))))
    ·
     intro j9 hj41
     have h41:=qP hj41 h8
     refine eA<|aT<|aW r (dN (us:=[aI,aI,aS,aO,aO]) jG r r r r)<|cY (v:=.agg [aI,aI,aS,aO,aO]) (us:=[aI,aI,aS,aO,aO]) (cs:=cJ) (σ':=[[bK,aI],cZ,[aI,aI,aS,aO,aO],[aI,aI,aS,aO,aO]]) r jG r r r r r r r r<|aR (fr':=[(6,nB)]) r r<|cB ?_
     obtain rfl:=sy h41
     exact bZ (rs':=[.cell 6 26]) r<|hZ (us:=[aI,aI,aS,aO,aO]) (cs:=[aI,aI,aS,aO,aO]) jG r r r r<|bX<|aZ [] r r r (bV r kR5) (aAx pV (hO oB aH))
  ·
   intro qL gY qK z h
   rw [fO] at h
   refine eJ (fn:=Tryz.f145) [0,1,4,5,17,42,45,46,64,72,86] (by kernel_rfl) Tryz.func145 r (by kernel_rfl) (by kernel_rfl)<|aT<|kT (n:=2) (cs:=cJ) (σ':=[[bK,aI],cZ,cJ]) aF3 r r r<|aR (fr':=[(0,aF),(1,aI),(4,eX)]) r r<|bC<|aT<|mV (v:=aF) r<|mV (v:=aF) r<|aW r (jL r)<|aW r (bH aJn r)<|aW r (aK (v:=aI) gZ r r r)<|aW r (iJ r r)<|mB r<|og r r r (fun u=>(bP (v:=aI) r))<|og r r r (fun u=>(aAn (gx r u) r))<|aW r (cD r r r (fun e=>hD e))<|bx h fun x1 y1 h2=>fF (v:=aB) (σ':=[[bK,aI],cZ,cJ]) [0,1] r (nM y1) r r pV (aAx pV (hO oB aH)) (iN (by repeat (first | exact gK | refine bI r ?_ | refine bI (vT r) ?_ | refine bI vS ?_))) r r ?_
   refine aW r (hY r)<|aR (fr':=[(0,aF),(1,aI),(4,eX),(17,aB)]) r r<|eS h2 r (fun b3 h3=>?_) (fun b3 h3=>?_)
   ·
    refine aT<|aW r (mG (cs:=cJ) aH5 r)<|cY (v:=.agg cJ) (us:=cJ) (cs:=cJ) (σ':=[[bK,aI],cZ,cJ]) r jG r r r r r r r r<|aR (fr':=[(4,eX)]) r r<|cB<|aV ?_
    obtain rfl:=sy h3
    exact bZ (rs':=[.cell 4 26]) r<|hZ (us:=cJ) (cs:=cJ) jG r r r r<|bX<|aZ [] r r r (bV r ⟨r,r,r,⟨_,r⟩,⟨_,r⟩,trivial⟩) (aAx pV (hO oB aH))
   ·
    refine cE<|eA<|aT<|mV (v:=aF) r<|aW r (jL r)<|aW r (bH aJn r)<|aW r (aK (v:=aI) gZ r r r)<|aW r (iH r r)<|aW r (jL r)<|aW r (bH aJn r)<|cY (v:=aI) (us:=[aI]) (cs:=[bK,aI]) (σ':=[[bK,aI],cZ,cJ]) r gZ r r r r r r r r<|aR (fr':=[(0,aF),(1,aI),(4,eX)]) r r<|aT<|mV (v:=aF) r<|aW r (jL r)<|aW r (bH xZ r)<|aW r (aK (v:=bK) aH7 r r r)<|bx h3 fun x5 y5 h6=>fF (v:=aI) (σ':=[[bK,aI],cZ,cJ]) [1] r (mK y5) r r wE (hO oB aH) r r r<|aW r (mG (cs:=cJ) aH5 r)<|kT (n:=3) (cs:=cJ) (σ':=[[bK,aI],cZ,cJ,cJ]) aF3 r r r<|cY (v:=.agg cJ) (us:=cJ) (cs:=cJ) (σ':=[[bK,aI],cZ,cJ,cJ]) r jG r r r r r r r r<|aR (fr':=[(0,aF),(1,aI),(4,eX),(5,nB)]) r r<|bC<|aT<|mV (v:=aF) r<|aW r (bH sP r)<|aW r (aK (v:=aI) gZ r r r)<|aW r (xD r r)<|mB r<|og r r r (fun u=>(bH sP r))<|og r r r (fun u=>(aK (v:=aI) gZ (gx r u) r r))<|og r r r (fun u=>(aAn (gx r u) r))<|aW r (cD r r r (fun e=>hD e))<|bx h6 fun x7 y7 h8=>fF (v:=aB) (σ':=[[bK,aI],cZ,cJ,cJ]) [0,1] r (nM y7) r r pV (aAx pV (hO oB aH)) (iN (by repeat (first | exact gK | refine bI r ?_ | refine bI (vT r) ?_ | refine bI vS ?_))) r r ?_
    refine aW r (hY r)<|aR (fr':=[(0,aF),(1,aI),(4,eX),(5,nB),(42,aB)]) r r<|eS h8 r (fun b9 h9=>?_) (fun b9 h9=>?_)
    ·
     refine aT<|aW r (mG (cs:=cJ) aH5 r)<|cY (v:=.agg cJ) (us:=cJ) (cs:=cJ) (σ':=[[bK,aI],cZ,cJ,cJ]) r jG r r r r r r r r<|aR (fr':=[(4,eX)]) r r<|cB<|aV ?_
     obtain rfl:=sy h9
     exact bZ (rs':=[.cell 4 26]) r<|hZ (us:=cJ) (cs:=cJ) jG r r r r<|bX<|aZ [] r r r (bV r ⟨r,r,r,⟨_,r⟩,⟨_,r⟩,trivial⟩) (aAx pV (hO oB aH))
    ·
     refine cE<|eA<|bx h9 fun x11 y11 h12=>rH (fun j13=>x11=Fl.go j13) (fun (j13:(aP × Int × (List UInt8)))=>([(4,eX),(5,nB)]:Fr)) (fun (j13:(aP × Int × (List UInt8)))=>([[bK,ci (IntKind.wrap .i64 (gY+(1:Int)))],[.c (PV.ls 1 jK j13.1.b_),ci j13.1.at_,ci j13.1.err_,.c (.bool j13.1.made_)],[ci 0,ci 0,.c (.str ([]:List UInt8)),AV.nil,AV.nil],[ci x5.1,ci j13.2.1,.c (.str j13.2.2),AV.nil,AV.nil]]:St)) ?_ ?_
     ·
      refine aT<|aW r (bH sP r)<|aW r (aK (v:=aI) gZ r r r)<|aR (fr':=[(0,aF),(1,aI),(4,eX),(5,nB),(45,aI)]) r r<|dA<|aT<|aW r (dZ r r)<|sB r<|aR (fr':=[(0,aF),(1,aI),(4,eX),(5,nB),(45,aI),(46,aB)]) r r<|eS y11 r (fun b14 h14=>?_) (fun b14 h14=>?_)
      ·
       refine aT<|mV (v:=aF) r<|aW r (jL r)<|aW r (bH xZ r)<|aW r (aK (v:=bK) aH7 r r r)<|bx h14 fun x15 y15 h16=>fF (v:=aI) (σ':=[[bK,aI],cZ,cJ,cJ]) [1] r (mK y15) r r wE (hO oB aH) r r r<|aW r (bH xR r)<|cY (v:=aI) (us:=[aI]) (cs:=cJ) (σ':=[[bK,aI],cZ,cJ,cJ]) r gZ r r r r r r r r<|aR (fr':=[(0,aF),(4,eX),(5,nB)]) r r<|bN<|mV (v:=aF) r<|aW r (bH xR r)<|aW r (aK (v:=aI) gZ r r r)<|aW r (dZ r r)<|mB r<|og r r r (fun u=>(bH xR r))<|og r r r (fun u=>(aK (v:=aI) gZ (gx r u) r r))<|og r r r (fun u=>(dZ (gx r u) r))<|aW r (dD r r r (fun e=>hD e))<|bx h16 fun x17 y17 h18=>fF (v:=aB) (σ':=[[bK,aI],cZ,cJ,cJ]) [0,1] r (nM y17) r r pV (aAx pV (hO oB aH)) (iN (by repeat (first | exact gK | refine bI r ?_ | refine bI (vT r) ?_ | refine bI vS ?_))) r r ?_
       exact fG (fr':=[(0,aF),(4,eX),(5,nB)]) r<|eW<|tB _ (sy h18) (cR [] 4 r r r r pV (eU r (eU r (eU r (eU r aH)))))
      ·
       refine aT<|aW r (dZ r r)<|sB r<|aR (fr':=[(0,aF),(1,aI),(4,eX),(5,nB),(45,aI),(64,aB)]) r r<|eS h14 r (fun b19 h19=>?_) (fun b19 h19=>?_)
       ·
        exact bN<|mV (v:=aF) r<|aW r (jL r)<|aW r (bH xZ r)<|aW r (aK (v:=bK) aH7 r r r)<|bx h19 fun x20 y20 h21=>fF (v:=aI) (σ':=[[bK,aI],cZ,cJ,cJ]) [1] r (mK y20) r r wE (hO oB aH) r r r<|aW r (bH xR r)<|cY (v:=aI) (us:=[aI]) (cs:=cJ) (σ':=[[bK,aI],cZ,cJ,cJ]) r gZ r r r r r r r r<|fG (fr':=[(0,aF),(1,aI),(4,eX),(5,nB),(45,aI),(64,aB)]) r<|eW<|tB _ (sy h21) (cR [] 4 r r r r pV (eU r (eU r (eU r (eU r aH)))))
       ·
        refine aT<|aW r (dZ r r)<|sB r<|aR (fr':=[(0,aF),(1,aI),(4,eX),(5,nB),(45,aI),(72,aB)]) r r<|eS h19 r (fun b22 h22=>?_) (fun b22 h22=>?_)
        ·
         exact aT<|mV (v:=aF) r<|aW r (jL r)<|aW r (bH xZ r)<|aW r (aK (v:=bK) aH7 r r r)<|bx h22 fun x23 y23 h24=>fF (v:=aS) (σ':=[[bK,aI],cZ,cJ,cJ]) [1] r (lU y23) r r pV (hO oB aH) r r r<|aW r (bH aA7 r)<|cY (v:=aS) (us:=[aS]) (cs:=cJ) (σ':=[[bK,aI],cZ,cJ,cJ]) r oG r r r r r r r r<|aR (fr':=[(0,aF),(4,eX),(5,nB)]) r r<|bN<|mV (v:=aF) r<|aW r (bH aA7 r)<|aW r (aK (v:=aS) oG r r r)<|aW r (rN zG r)<|aW r (aAn r r)<|bx h24 fun x25 y25 h26=>fF (v:=aB) (σ':=[[bK,aI],cZ,cJ,cJ]) [0,1] r (nM y25) r r pV (aAx pV (hO oB aH)) r r r<|fG (fr':=[(0,aF),(4,eX),(5,nB)]) r<|eW<|tB _ (sy h26) (cR [] 4 r r r r pV (eU r (eU r (eU r (eU r aH)))))
        ·
         obtain ⟨x27,y27,h28⟩:=rB h22
         refine rH (fun j29=>x27=j29) (fun (j29:Bool)=>([(0,aF),(1,ci qL),(4,eX),(5,nB),(86,.c (.bool j29))]:Fr)) (fun (j29:Bool)=>([[bK,ci (IntKind.wrap .i64 (gY+(1:Int)))],[.c (PV.ls 1 jK x7.2.b_),ci x7.2.at_,ci x7.2.err_,.c (.bool x7.2.made_)],[ci 0,ci 0,.c (.str ([]:List UInt8)),AV.nil,AV.nil],[ci x5.1,ci 0,.c (.str ([]:List UInt8)),AV.nil,AV.nil]]:St)) ?_ ?_
         ·
          refine aT<|aW r (dZ r r)<|sB r<|aR (fr':=[(0,aF),(1,aI),(4,eX),(5,nB),(45,aI),(86,aB)]) r r<|eS y27 r (fun b30 h30=>?_) (fun b30 h30=>?_)
          ·
           exact cE<|tB _ (sy h30) (cR [] 4 r r r r kL5 (eU r (eU r (eU r (eU r aH)))))
          ·
           exact bN<|aW r (dZ r r)<|sB r<|fG (fr':=[(0,aF),(1,aI),(4,eX),(5,nB),(45,aI),(86,aB)]) r<|tB _ (sy h30) (cR [] 4 r r r r kL5 (eU r (eU r (eU r (eU r aH)))))
         ·
          intro j29 hj31
          subst hj31
          refine eS h28 r (fun b32 h32=>?_) (fun b32 h32=>?_)
          ·
           refine aT<|mV (v:=aF) r<|aW r (dN (us:=cJ) jG r r r r)<|mI r<|bx h32 fun x33 y33 h34=>fF (v:=.agg cK) (σ':=[[bK,aI],cZ,cJ,cJ]) [0,1] r (ih_value_decoder_items y33) r r ⟨lr,(aP6 r kL5),lr,trivial⟩ (aAx pV (hO oB aH)) r r r<|cY (v:=.agg cK) (us:=cK) (cs:=cJ) (σ':=[[bK,aI],cZ,cK,cJ]) r jG r r r r r r r r<|aR (fr':=[(4,eX)]) r r<|cB<|cL<|aV ?_
           have h35:=hU h34 h12
           obtain rfl:=sy h35
           exact bZ (rs':=[.cell 4 26]) r<|hZ (us:=cK) (cs:=cK) jG r r r r<|bX<|aZ [] r r r (bV r kR5) (aAx pV (hO oB aH))
          ·
           exact cE<|eW<|tB _ (sy h32) (cR [] 4 r r r r pV (eU r (eU r (eU r (eU r aH)))))
     ·
      intro j13 hj37
      have h37:=qP hj37 h12
      refine aT<|aW r (dN (us:=cJ) jG r r r r)<|cY (v:=.agg cJ) (us:=cJ) (cs:=cJ) (σ':=[[bK,aI],cZ,cJ,cJ]) r jG r r r r r r r r<|aR (fr':=[(4,eX)]) r r<|cB ?_
      obtain rfl:=sy h37
      exact bZ (rs':=[.cell 4 26]) r<|hZ (us:=cJ) (cs:=cJ) jG r r r r<|bX<|aZ [] r r r (bV r ⟨r,r,r,⟨_,r⟩,⟨_,r⟩,trivial⟩) (aAx pV (hO oB aH))
noncomputable def qY (qL:Int) (gY:Int) (qK:aP):Option (aE × Int × aP):=lim fun n=>fO n qL gY qK
theorem aCb {qL:Int}{gY:Int}{qK:aP}{z:(aE × Int × aP)} (h:qY qL gY qK=some z):dE Tryz.prog 145 [.box 0 0,ci qL] [[.box 1 0,ci gY],AV.cs (eG qK)] (.agg (AV.cs (fZ z.1))) [[.box 1 0,ci z.2.1],AV.cs (eG z.2.2)]:=by
 obtain ⟨n,hn⟩:=wK h
 exact (aBV n).2 hn
noncomputable def uG (dT:aP):Option (aE × aP) :=
 (((gG dT).bind fun x4=>cond (decide (x4=1)) (some (Fl.done ((aE.mk 0 0 ([]:List UInt8) ([]:(List aE)) ([]:(List (List UInt8)))),dT))) (some (Fl.go ()))):Option (Fl (aE × aP) Unit)).bind fun x1=>Fl.next x1 (fun j3=>((qY 1 0 dT).bind fun x10=>(gG x10.2.2).bind fun x12=>cond (!decide (x12=0)) (some ((aE.mk 0 0 ([]:List UInt8) ([]:(List aE)) ([]:(List (List UInt8)))),x10.2.2)) (some (x10.1,x10.2.2))))
theorem aCT {dT:aP}{z:(aE × aP)} (h:uG dT=some z):dE Tryz.prog 72 [.box 0 0] [AV.cs (eG dT)] (.agg (AV.cs (fZ z.1))) [AV.cs (eG z.2)]:=by
 unfold uG at h
 refine eJ (fn:=Tryz.f72) [0,2,3,4,11,20] (by kernel_rfl) Tryz.func72 r (by kernel_rfl) (by kernel_rfl)<|aT<|kT (n:=1) (cs:=cJ) (σ':=[cZ,cJ]) aF3 r r r<|aR (fr':=[(0,aF),(2,bK)]) r r<|bx h fun x1 y1 h2=>rH (fun j3=>x1=Fl.go j3) (fun (j3:Unit)=>([(0,aF),(2,bK)]:Fr)) (fun (j3:Unit)=>([[.c (PV.ls 1 jK dT.b_),ci dT.at_,ci dT.err_,.c (.bool dT.made_)],[ci 0,ci 0,.c (.str ([]:List UInt8)),AV.nil,AV.nil]]:St)) ?_ ?_
 ·
  refine aT<|mV (v:=aF) r<|aW r (aMb aRJ r r)<|mB r<|wL r r r<|mV (v:=aF) r<|wL r r r<|bx y1 fun x4 y4 h5=>fF (v:=aI) (σ':=[cZ,cJ]) [0] r (hG y4) r r ⟨lr,trivial⟩ (hO oB aH) r r r<|wL r r r<|aW r (dZ r r)<|aW r (aCs r r r)<|aR (fr':=[(0,aF),(2,bK),(11,aB)]) r r<|eS h5 r (fun b6 h6=>?_) (fun b6 h6=>?_)
  ·
   refine aT<|aW r (mG (cs:=cJ) aH5 r)<|cY (v:=.agg cJ) (us:=cJ) (cs:=cJ) (σ':=[cZ,cJ]) r jG r r r r r r r r<|aR (fr':=[(2,bK)]) r r<|cB<|aV ?_
   have h7:=hU h6 h2
   obtain rfl:=sy h7
   exact bZ (rs':=[.cell 2 26]) r<|hZ (us:=cJ) (cs:=cJ) jG r r r r<|bX<|aZ [] r r r (bV r ⟨r,r,r,⟨_,r⟩,⟨_,r⟩,trivial⟩) (hO oB aH)
  ·
   exact cE<|tB _ (sy h6) (cR [] 2 r r r r pV (eU r (eU r aH)))
 ·
  intro j3 hj9
  have h9:=qP hj9 h2
  refine aT<|mV (v:=aF) r<|aW r (mG (cs:=[aF,aI]) aSp r)<|jB (v:=.agg [aF,aI]) (n:=2) (cs:=[aF,aI]) (σ':=[cZ,cJ,[aF,aI]]) r r r r r<|sV (v:=eX) r<|aR (fr':=[(0,aF),(2,bK),(3,eX)]) r r<|aT<|mV (v:=eX) r<|bx h9 fun x10 y10 h11=>fF (v:=.agg cK) (σ':=[cZ,cJ,[aF,aI]]) [2,0] r (aCb y10) r r pV (aAx pV (hO oB aH)) r r r<|kT (n:=3) (cs:=cJ) (σ':=[cZ,cJ,[aF,aI],cJ]) aF3 r r r<|cY (v:=.agg cK) (us:=cK) (cs:=cJ) (σ':=[cZ,cJ,[aF,aI],cK]) r jG r r r r r r r r<|aR (fr':=[(0,aF),(2,bK),(4,nB)]) r r<|bC<|aT<|mV (v:=aF) r<|bx h11 fun x12 y12 h13=>fF (v:=aI) (σ':=[cZ,cJ,[aF,aI],cK]) [0] r (hG y12) r r ⟨lr,trivial⟩ (hO oB aH) r r r<|aW r (kD r r)<|aR (fr':=[(2,bK),(4,nB),(20,aB)]) r r<|eS h13 r (fun b14 h14=>?_) (fun b14 h14=>?_)
  ·
   refine aT<|aW r (mG (cs:=cJ) aH5 r)<|cY (v:=.agg cJ) (us:=cJ) (cs:=cJ) (σ':=[cZ,cJ,[aF,aI],cK]) r jG r r r r r r r r<|aR (fr':=[(2,bK)]) r r<|cB<|aV ?_
   obtain rfl:=sy h14
   exact bZ (rs':=[.cell 2 26]) r<|hZ (us:=cJ) (cs:=cJ) jG r r r r<|bX<|aZ [] r r r (bV r ⟨r,r,r,⟨_,r⟩,⟨_,r⟩,trivial⟩) (hO oB aH)
  ·
   refine cE<|eA<|aT<|aW r (dN (us:=cK) jG r r r r)<|cY (v:=.agg cK) (us:=cK) (cs:=cJ) (σ':=[cZ,cK,[aF,aI],cK]) r jG r r r r r r r r<|aR (fr':=[(2,bK)]) r r<|cB ?_
   obtain rfl:=sy h14
   exact bZ (rs':=[.cell 2 26]) r<|hZ (us:=cK) (cs:=cK) jG r r r r<|bX<|aZ [] r r r (bV r kR5) (hO oB aH)
noncomputable def rM (jP:(List UInt8)) (gY:Int) (aGi:Int) (aGj:Int) (aGk:Int) (aGl:Int) (aGm:Int) (aGn:Int) (aGo:Int):Option Unit :=
 some ()
theorem aCQ {jP:(List UInt8)}{gY:Int}{aGi:Int}{aGj:Int}{aGk:Int}{aGl:Int}{aGm:Int}{aGn:Int}{aGo:Int}{z:Unit} (h:rM jP gY aGi aGj aGk aGl aGm aGn aGo=some z):dE Tryz.prog 146 [.box 0 0] [[.c (.str jP),ci gY,ci aGi,ci aGj,ci aGk,ci aGl,ci aGm,ci aGn,ci aGo,AV.nil]] (.ptrs [(0,1),(0,2),(0,3),(0,4),(0,5),(0,6),(0,7),(0,8)]) [[.c (.str jP),ci gY,ci aGi,ci aGj,ci aGk,ci aGl,ci aGm,ci aGn,ci aGo,AV.nil]]:=by
 unfold rM at h
 refine eJ (fn:=Tryz.f146) [0,2] (by kernel_rfl) Tryz.func146 r (by kernel_rfl) (by kernel_rfl)<|aT<|sV (v:=AV.nil) r<|aR (fr':=[(0,aF)]) r r<|bC<|lS [.q 0,.q 1,.q 2,.q 3,.q 4,.q 5,.q 6,.q 7,.q 8,.q 9,.q 10,.q 11,.q 12,.q 13,.q 14,.q 15,.q 16,.q 17,.q 18,.q 19,.q 20,.q 21,.q 22,.q 23,.n 24 [],.n 25 []] [(some 3,[0]),(some 4,[3]),(some 5,[4]),(some 6,[0]),(some 7,[6]),(some 8,[7]),(some 9,[0]),(some 10,[9]),(some 11,[10]),(some 12,[0]),(some 13,[12]),(some 14,[13]),(some 15,[0]),(some 16,[15]),(some 17,[16]),(some 18,[0]),(some 19,[18]),(some 20,[19]),(some 21,[0]),(some 22,[21]),(some 23,[22]),(some 24,[0]),(some 25,[24]),(some 26,[25]),(some 27,[5,8,11,14,17,20,23,26]),(some 2,[27])] [0,1,3,0,8,24,0,64,192,0,512,1536,0,4096,12288,0,32768,98304,0,262144,786432,0,2097152,6291456,16777215,33554431] (by kernel_rfl)<|dq r r (bP (v:=aF) r)<|dq r r (jL r)<|dq r r (bH aHq r)<|dq r r (bP (v:=aF) r)<|dq r r (jL r)<|dq r r (bH aHr r)<|dq r r (bP (v:=aF) r)<|dq r r (jL r)<|dq r r (bH aHs r)<|dq r r (bP (v:=aF) r)<|dq r r (jL r)<|dq r r (bH aHt r)<|dq r r (bP (v:=aF) r)<|dq r r (jL r)<|dq r r (bH aHu r)<|dq r r (bP (v:=aF) r)<|dq r r (jL r)<|dq r r (bH aHv r)<|dq r r (bP (v:=aF) r)<|dq r r (jL r)<|dq r r (bH aHw r)<|dq r r (bP (v:=aF) r)<|dq r r (jL r)<|dq r r (bH aHx r)<|d_n r ?_ r
 refine aO4 (l:=[(0,1),(0,2),(0,3),(0,4),(0,5),(0,6),(0,7),(0,8)]) uF r r r r<|aCp<|⟨tL,?_⟩
 refine d_n r ?_ r
 refine sV (v:=.ptrs [(0,1),(0,2),(0,3),(0,4),(0,5),(0,6),(0,7),(0,8)]) r<|aCp<|⟨tL,?_⟩
 refine zJ (fr':=[(2,.ptrs [(0,1),(0,2),(0,3),(0,4),(0,5),(0,6),(0,7),(0,8)])]) r r<|cB ?_
 obtain rfl:=sy h
 exact bZ (rs':=[.tmp 2]) r<|cM (v:=.ptrs [(0,1),(0,2),(0,3),(0,4),(0,5),(0,6),(0,7),(0,8)]) r<|bX<|aMM [] r r r lr (eU r aH)
noncomputable def gT (dT:aP):Option (Int × aP) :=
 (gH (-9223372036854775808) 9223372036854775807 dT).bind fun x1=>some (x1.1,x1.2)
theorem iE {dT:aP}{z:(Int × aP)} (h:gT dT=some z):dE Tryz.prog 147 [.box 0 0] [AV.cs (eG dT)] (ci z.1) [AV.cs (eG z.2)]:=by
 unfold gT at h
 refine eJ (fn:=Tryz.f147) [0,2] (by kernel_rfl) Tryz.func147 r (by kernel_rfl) (by kernel_rfl)<|aT<|sI r<|aR (fr':=[(0,aF)]) r r<|aT<|mV (v:=aF) r<|bx h fun x1 y1 h2=>fF (v:=aI) (σ':=[cZ]) [0] r (mK y1) r r wE (hO oB aH) r r r<|sI r<|aR (fr':=[(2,aI)]) r r<|cB ?_
 obtain rfl:=sy h2
 exact bZ (rs':=[.tmp 2]) r<|cM (v:=aI) r<|bX<|aZ [] r r r lr (hO oB aH)
noncomputable def oL (x22:(Int × aP)) (s38:(Int × aP × (List (List UInt8)))):Option (dG (Int × aP × (List (List UInt8))) (aP × (List (List UInt8)))) :=
 ((cond (decide (s38.1<x22.1)) ((gG s38.2.1).bind fun x43=>cond (decide (x43=0)) (some (Fl.go ())) (some (Fl.done (dG.out (s38.2.1,s38.2.2))))) (some (Fl.done (dG.out (s38.2.1,s38.2.2))))):Option (Fl (dG (Int × aP × (List (List UInt8))) (aP × (List (List UInt8)))) Unit)).bind fun x39=>Fl.next x39 (fun j41=>((iU 4096 s38.2.1).bind fun x51=>(app 16 s38.2.2 ([x51.1]:List (List UInt8))).bind fun x53=>some (dG.next ((IntKind.wrap .i64 (s38.1+1)),x51.2,x53))))
noncomputable def nZ (dT:aP):Option (dB × aP) :=
 (iU 4096 dT).bind fun x1=>(rM x1.1 0 0 0 0 0 0 0 0).bind fun x3=>(gT x1.2).bind fun x6=>(gT x6.2).bind fun x8=>(gT x8.2).bind fun x10=>(gT x10.2).bind fun x12=>(gT x12.2).bind fun x14=>(gT x14.2).bind fun x16=>(gT x16.2).bind fun x18=>(gT x18.2).bind fun x20=>(gT x20.2).bind fun x22=>(((gG x22.2).bind fun x27=>(gd ((decide (x27=0))==true) (lC x22.1 0 64)).bind fun x29=>cond (cond (decide (x27=0)) (!x29) false) ((lW 3 x22.2).bind fun x32=>some x32) (some x22.2)):Option aP).bind fun x24=>((fX (oL x22) ((0,x24,([]:(List (List UInt8)))))).bind fun x35=>((((gG x35.1).bind fun x59=>(gd ((decide (x59=0))==true) (mN (dB.mk x1.1 x6.1 x8.1 x10.1 x12.1 x14.1 x16.1 x18.1 x20.1 x35.2))).bind fun x61=>cond (cond (decide (x59=0)) (!x61) false) ((lW 3 x35.1).bind fun x64=>some x64) (some x35.1)):Option aP).bind fun x56=>((gG x56).bind fun x67=>cond (!decide (x67=0)) (some ((dB.mk ([]:List UInt8) 0 0 0 0 0 0 0 0 ([]:(List (List UInt8)))),x56)) (some ((dB.mk x1.1 x6.1 x8.1 x10.1 x12.1 x14.1 x16.1 x18.1 x20.1 x35.2),x56)))))
theorem aBW {dT:aP}{z:(dB × aP)} (h:nZ dT=some z):dE Tryz.prog 73 [.box 0 0] [AV.cs (eG dT)] (.agg (AV.cs (nS z.1))) [AV.cs (eG z.2)]:=by
 unfold nZ at h
 refine eJ (fn:=Tryz.f73) [0,2,3,5,6,7,11,12,13,14,31,41,58,63] (by kernel_rfl) Tryz.func73 r (by kernel_rfl) (by kernel_rfl)<|aT<|kT (n:=1) (cs:=bU) (σ':=[cZ,bU]) aRL r r r<|aR (fr':=[(0,aF),(2,bK)]) r r<|aT<|kT (n:=2) (cs:=bU) (σ':=[cZ,bU,bU]) aRL r r r<|aR (fr':=[(0,aF),(2,bK),(3,eX)]) r r<|aT<|mV (v:=aF) r<|bx h fun x1 y1 h2=>fF (v:=aS) (σ':=[cZ,bU,bU]) [0] r (lU y1) r r pV (hO oB aH) r r r<|aW r (bH aCF r)<|cY (v:=aS) (us:=[aS]) (cs:=bU) (σ':=[cZ,bU,bU]) r oG r r r r r r r r<|aR (fr':=[(0,aF),(2,bK),(3,eX)]) r r<|bC<|bC<|bN<|bx h2 fun x3 y3 h4=>aAJ (v:=.ptrs [(2,1),(2,2),(2,3),(2,4),(2,5),(2,6),(2,7),(2,8)]) (σ':=[cZ,bU,bU]) 11 [2] [] r (aCQ y3) r r r ⟨lr,trivial⟩ (aAx aSM aH) r r r<|aW r (aMa aRK r)<|mI r<|aR (fr':=[(0,aF),(2,bK),(3,eX),(11,.ptrs [(2,1),(2,2),(2,3),(2,4),(2,5),(2,6),(2,7),(2,8)]),(12,aI),(13,aI)]) r r<|dA<|aPD 64<|xK<|aT<|aW r (yO (iJ r r) (show _=.bool true from r))<|aR (fr':=[(0,aF),(2,bK),(3,eX),(11,.ptrs [(2,1),(2,2),(2,3),(2,4),(2,5),(2,6),(2,7),(2,8)]),(12,aI),(13,aI),(14,aB)]) r r<|bC<|kQ r<|cE<|eA<|bC<|dA<|aT<|aW r (pG (p:=(2,1)) uF r r r)<|aW r (jQ uZ r)<|sV (v:=aKj) r<|aR (fr':=[(0,aF),(2,bK),(3,eX),(5,aKj),(11,.ptrs [(2,1),(2,2),(2,3),(2,4),(2,5),(2,6),(2,7),(2,8)]),(12,aI),(13,aI)]) r r<|bN<|mV (v:=aKj) r<|mV (v:=aF) r<|bx h4 fun x6 y6 h7=>fF (v:=aI) (σ':=[cZ,bU,bU]) [0] r (iE y6) r r ⟨lr,trivial⟩ (hO oB aH) r r r<|aW r (jL r)<|cY (v:=aI) (us:=[aI]) (cs:=bU) (σ':=[cZ,bU,bU]) r gZ r r r r r r r r<|fG (fr':=[(0,aF),(2,bK),(3,eX),(5,aKj),(11,.ptrs [(2,1),(2,2),(2,3),(2,4),(2,5),(2,6),(2,7),(2,8)]),(12,aI),(13,aI)]) r<|eW<|eA<|bN<|aW r (yO (iH r r) (show _=.int .i64 (1:Int) from r))<|mI r<|fG (fr':=[(0,aF),(2,bK),(3,eX),(5,aKj),(11,.ptrs [(2,1),(2,2),(2,3),(2,4),(2,5),(2,6),(2,7),(2,8)]),(12,aI),(13,aI)]) r<|lX<|xK<|bC<|bN<|aW r (yO (iJ r r) (show _=.bool true from r))<|aR (fr':=[(0,aF),(2,bK),(3,eX),(11,.ptrs [(2,1),(2,2),(2,3),(2,4),(2,5),(2,6),(2,7),(2,8)]),(12,aI),(13,aI),(14,aB)]) r r<|bC<|kQ r<|cE<|eA<|bC<|dA<|aT<|aW r (pG (p:=(2,2)) uF r r r)<|aW r (jQ uZ r)<|sV (v:=aKk) r<|aR (fr':=[(0,aF),(2,bK),(3,eX),(5,aKk),(11,.ptrs [(2,1),(2,2),(2,3),(2,4),(2,5),(2,6),(2,7),(2,8)]),(12,aI),(13,aI)]) r r<|bN<|mV (v:=aKk) r<|mV (v:=aF) r<|bx h7 fun x8 y8 h9=>fF (v:=aI) (σ':=[cZ,bU,bU]) [0] r (iE y8) r r ⟨lr,trivial⟩ (hO oB aH) r r r<|aW r (jL r)<|cY (v:=aI) (us:=[aI]) (cs:=bU) (σ':=[cZ,bU,bU]) r gZ r r r r r r r r<|fG (fr':=[(0,aF),(2,bK),(3,eX),(5,aKk),(11,.ptrs [(2,1),(2,2),(2,3),(2,4),(2,5),(2,6),(2,7),(2,8)]),(12,aI),(13,aI)]) r<|eW<|eA<|bN<|aW r (yO (iH r r) (show _=.int .i64 (2:Int) from r))<|mI r<|fG (fr':=[(0,aF),(2,bK),(3,eX),(5,aKk),(11,.ptrs [(2,1),(2,2),(2,3),(2,4),(2,5),(2,6),(2,7),(2,8)]),(12,aI),(13,aI)]) r<|lX<|xK<|bC<|bN<|aW r (yO (iJ r r) (show _=.bool true from r))<|aR (fr':=[(0,aF),(2,bK),(3,eX),(11,.ptrs [(2,1),(2,2),(2,3),(2,4),(2,5),(2,6),(2,7),(2,8)]),(12,aI),(13,aI),(14,aB)]) r r<|bC<|kQ r<|cE<|eA<|bC<|dA<|aT<|aW r (pG (p:=(2,3)) uF r r r)<|aW r (jQ uZ r)<|sV (v:=aKl) r<|aR (fr':=[(0,aF),(2,bK),(3,eX),(5,aKl),(11,.ptrs [(2,1),(2,2),(2,3),(2,4),(2,5),(2,6),(2,7),(2,8)]),(12,aI),(13,aI)]) r r<|bN<|mV (v:=aKl) r<|mV (v:=aF) r<|bx h9 fun x10 y10 h11=>fF (v:=aI) (σ':=[cZ,bU,bU]) [0] r (iE y10) r r ⟨lr,trivial⟩ (hO oB aH) r r r<|aW r (jL r)<|cY (v:=aI) (us:=[aI]) (cs:=bU) (σ':=[cZ,bU,bU]) r gZ r r r r r r r r<|fG (fr':=[(0,aF),(2,bK),(3,eX),(5,aKl),(11,.ptrs [(2,1),(2,2),(2,3),(2,4),(2,5),(2,6),(2,7),(2,8)]),(12,aI),(13,aI)]) r<|eW<|eA<|bN<|aW r (yO (iH r r) (show _=.int .i64 (3:Int) from r))<|mI r<|fG (fr':=[(0,aF),(2,bK),(3,eX),(5,aKl),(11,.ptrs [(2,1),(2,2),(2,3),(2,4),(2,5),(2,6),(2,7),(2,8)]),(12,aI),(13,aI)]) r<|lX<|xK<|bC<|bN<|aW r (yO (iJ r r) (show _=.bool true from r))<|aR (fr':=[(0,aF),(2,bK),(3,eX),(11,.ptrs [(2,1),(2,2),(2,3),(2,4),(2,5),(2,6),(2,7),(2,8)]),(12,aI),(13,aI),(14,aB)]) r r<|bC<|kQ r<|cE<|eA<|bC<|dA<|aT<|aW r (pG (p:=(2,4)) uF r r r)<|aW r (jQ uZ r)<|sV (v:=aKm) r<|aR (fr':=[(0,aF),(2,bK),(3,eX),(5,aKm),(11,.ptrs [(2,1),(2,2),(2,3),(2,4),(2,5),(2,6),(2,7),(2,8)]),(12,aI),(13,aI)]) r r<|bN<|mV (v:=aKm) r<|mV (v:=aF) r<|bx h11 fun x12 y12 h13=>fF (v:=aI) (σ':=[cZ,bU,bU]) [0] r (iE y12) r r ⟨lr,trivial⟩ (hO oB aH) r r r<|aW r (jL r)<|cY (v:=aI) (us:=[aI]) (cs:=bU) (σ':=[cZ,bU,bU]) r gZ r r r r r r r r<|fG (fr':=[(0,aF),(2,bK),(3,eX),(5,aKm),(11,.ptrs [(2,1),(2,2),(2,3),(2,4),(2,5),(2,6),(2,7),(2,8)]),(12,aI),(13,aI)]) r<|eW<|eA<|bN<|aW r (yO (iH r r) (show _=.int .i64 (4:Int) from r))<|mI r<|fG (fr':=[(0,aF),(2,bK),(3,eX),(5,aKm),(11,.ptrs [(2,1),(2,2),(2,3),(2,4),(2,5),(2,6),(2,7),(2,8)]),(12,aI),(13,aI)]) r<|lX<|xK<|bC<|bN<|aW r (yO (iJ r r) (show _=.bool true from r))<|aR (fr':=[(0,aF),(2,bK),(3,eX),(11,.ptrs [(2,1),(2,2),(2,3),(2,4),(2,5),(2,6),(2,7),(2,8)]),(12,aI),(13,aI),(14,aB)]) r r<|bC<|kQ r<|cE<|eA<|bC<|dA<|aT<|aW r (pG (p:=(2,5)) uF r r r)<|aW r (jQ uZ r)<|sV (v:=aKn) r<|aR (fr':=[(0,aF),(2,bK),(3,eX),(5,aKn),(11,.ptrs [(2,1),(2,2),(2,3),(2,4),(2,5),(2,6),(2,7),(2,8)]),(12,aI),(13,aI)]) r r<|bN<|mV (v:=aKn) r<|mV (v:=aF) r<|bx h13 fun x14 y14 h15=>fF (v:=aI) (σ':=[cZ,bU,bU]) [0] r (iE y14) r r ⟨lr,trivial⟩ (hO oB aH) r r r<|aW r (jL r)<|cY (v:=aI) (us:=[aI]) (cs:=bU) (σ':=[cZ,bU,bU]) r gZ r r r r r r r r<|fG (fr':=[(0,aF),(2,bK),(3,eX),(5,aKn),(11,.ptrs [(2,1),(2,2),(2,3),(2,4),(2,5),(2,6),(2,7),(2,8)]),(12,aI),(13,aI)]) r<|eW<|eA<|bN<|aW r (yO (iH r r) (show _=.int .i64 (5:Int) from r))<|mI r<|fG (fr':=[(0,aF),(2,bK),(3,eX),(5,aKn),(11,.ptrs [(2,1),(2,2),(2,3),(2,4),(2,5),(2,6),(2,7),(2,8)]),(12,aI),(13,aI)]) r<|lX<|xK<|bC<|bN<|aW r (yO (iJ r r) (show _=.bool true from r))<|aR (fr':=[(0,aF),(2,bK),(3,eX),(11,.ptrs [(2,1),(2,2),(2,3),(2,4),(2,5),(2,6),(2,7),(2,8)]),(12,aI),(13,aI),(14,aB)]) r r<|bC<|kQ r<|cE<|eA<|bC<|dA<|aT<|aW r (pG (p:=(2,6)) uF r r r)<|aW r (jQ uZ r)<|sV (v:=aKo) r<|aR (fr':=[(0,aF),(2,bK),(3,eX),(5,aKo),(11,.ptrs [(2,1),(2,2),(2,3),(2,4),(2,5),(2,6),(2,7),(2,8)]),(12,aI),(13,aI)]) r r<|bN<|mV (v:=aKo) r<|mV (v:=aF) r<|bx h15 fun x16 y16 h17=>fF (v:=aI) (σ':=[cZ,bU,bU]) [0] r (iE y16) r r ⟨lr,trivial⟩ (hO oB aH) r r r<|aW r (jL r)<|cY (v:=aI) (us:=[aI]) (cs:=bU) (σ':=[cZ,bU,bU]) r gZ r r r r r r r r<|fG (fr':=[(0,aF),(2,bK),(3,eX),(5,aKo),(11,.ptrs [(2,1),(2,2),(2,3),(2,4),(2,5),(2,6),(2,7),(2,8)]),(12,aI),(13,aI)]) r<|eW<|eA<|bN<|aW r (yO (iH r r) (show _=.int .i64 (6:Int) from r))<|mI r<|fG (fr':=[(0,aF),(2,bK),(3,eX),(5,aKo),(11,.ptrs [(2,1),(2,2),(2,3),(2,4),(2,5),(2,6),(2,7),(2,8)]),(12,aI),(13,aI)]) r<|lX<|xK<|bC<|bN<|aW r (yO (iJ r r) (show _=.bool true from r))<|aR (fr':=[(0,aF),(2,bK),(3,eX),(11,.ptrs [(2,1),(2,2),(2,3),(2,4),(2,5),(2,6),(2,7),(2,8)]),(12,aI),(13,aI),(14,aB)]) r r<|bC<|kQ r<|cE<|eA<|bC<|dA<|aT<|aW r (pG (p:=(2,7)) uF r r r)<|aW r (jQ uZ r)<|sV (v:=aKp) r<|aR (fr':=[(0,aF),(2,bK),(3,eX),(5,aKp),(11,.ptrs [(2,1),(2,2),(2,3),(2,4),(2,5),(2,6),(2,7),(2,8)]),(12,aI),(13,aI)]) r r<|bN<|mV (v:=aKp) r<|mV (v:=aF) r<|bx h17 fun x18 y18 h19=>fF (v:=aI) (σ':=[cZ,bU,bU]) [0] r (iE y18) r r ⟨lr,trivial⟩ (hO oB aH) r r r<|aW r (jL r)<|cY (v:=aI) (us:=[aI]) (cs:=bU) (σ':=[cZ,bU,bU]) r gZ r r r r r r r r<|fG (fr':=[(0,aF),(2,bK),(3,eX),(5,aKp),(11,.ptrs [(2,1),(2,2),(2,3),(2,4),(2,5),(2,6),(2,7),(2,8)]),(12,aI),(13,aI)]) r<|eW<|eA<|bN<|aW r (yO (iH r r) (show _=.int .i64 (7:Int) from r))<|mI r<|fG (fr':=[(0,aF),(2,bK),(3,eX),(5,aKp),(11,.ptrs [(2,1),(2,2),(2,3),(2,4),(2,5),(2,6),(2,7),(2,8)]),(12,aI),(13,aI)]) r<|lX<|xK<|bC<|bN<|aW r (yO (iJ r r) (show _=.bool true from r))<|aR (fr':=[(0,aF),(2,bK),(3,eX),(11,.ptrs [(2,1),(2,2),(2,3),(2,4),(2,5),(2,6),(2,7),(2,8)]),(12,aI),(13,aI),(14,aB)]) r r<|bC<|kQ r<|cE<|eA<|bC<|dA<|aT<|aW r (pG (p:=(2,8)) uF r r r)<|aW r (jQ uZ r)<|sV (v:=aKq) r<|aR (fr':=[(0,aF),(2,bK),(3,eX),(5,aKq),(11,.ptrs [(2,1),(2,2),(2,3),(2,4),(2,5),(2,6),(2,7),(2,8)]),(12,aI),(13,aI)]) r r<|bN<|mV (v:=aKq) r<|mV (v:=aF) r ?_
 obtain ⟨x20,y20,h21⟩:=rB h19
 refine fF (v:=aI) (σ':=[cZ,bU,bU]) [0] r (iE y20) r r ⟨lr,trivial⟩ (hO oB aH) r r r<|aW r (jL r)<|cY (v:=aI) (us:=[aI]) (cs:=bU) (σ':=[cZ,bU,bU]) r gZ r r r r r r r r<|fG (fr':=[(0,aF),(2,bK),(3,eX),(5,aKq),(11,.ptrs [(2,1),(2,2),(2,3),(2,4),(2,5),(2,6),(2,7),(2,8)]),(12,aI),(13,aI)]) r<|eW<|eA<|bN<|aW r (yO (iH r r) (show _=.int .i64 (8:Int) from r))<|mI r<|fG (fr':=[(0,aF),(2,bK),(3,eX),(5,aKq),(11,.ptrs [(2,1),(2,2),(2,3),(2,4),(2,5),(2,6),(2,7),(2,8)]),(12,aI),(13,aI)]) r<|lX<|xK<|bC<|bN<|aW r (yO (iJ r r) (show _=.bool false from r))<|aR (fr':=[(0,aF),(2,bK),(3,eX),(11,.ptrs [(2,1),(2,2),(2,3),(2,4),(2,5),(2,6),(2,7),(2,8)]),(12,aI),(13,aI),(14,aB)]) r r<|bC<|aCR r<|kF<|eL<|eL<|iM<|eA<|aT<|mV (v:=aF) r<|bx h21 fun x22 y22 h23=>fF (v:=aI) (σ':=[cZ,bU,bU]) [0] r (iE y22) r r ⟨lr,trivial⟩ (hO oB aH) r r r<|sI r<|aR (fr':=[(0,aF),(2,bK),(3,eX),(6,aI)]) r r<|bx h23 fun x24 y24 h25=>rH (fun j26=>x24=j26) (fun (j26:aP)=>([(0,aF),(2,bK),(3,eX),(6,ci x22.1)]:Fr)) (fun (j26:aP)=>([[.c (PV.ls 1 jK j26.b_),ci j26.at_,ci j26.err_,.c (.bool j26.made_)],[.c (.str ([]:List UInt8)),ci 0,ci 0,ci 0,ci 0,ci 0,ci 0,ci 0,ci 0,AV.nil],[.c (.str x1.1),ci x6.1,ci x8.1,ci x10.1,ci x12.1,ci x14.1,ci x16.1,ci x18.1,ci x20.1,AV.nil]]:St)) ?_ ?_
 ·
  refine aT<|mV (v:=aF) r<|bx y24 fun x27 y27 h28=>fF (v:=aI) (σ':=[cZ,bU,bU]) [0] r (hG y27) r r ⟨lr,trivial⟩ (hO oB aH) r r r<|aW r (dZ r r)<|mB r<|og r r r (fun u=>(bP (v:=aI) r))<|bx h28 fun x29 y29 h30=>zB r r (fun u=>bR (v:=aB) r (mJ (eQ y29 u)) ⟨(fY (gx r u) lr),lr,lr,trivial⟩ (iN (by repeat (first | exact gK | refine bI r ?_ | refine bI (vT r) ?_ | refine bI vS ?_))) r r) ?_
  refine og r r r (fun u=>(hY (gx r u)))<|aW r (cD r r r (fun e=>hD e))<|aR (fr':=[(0,aF),(2,bK),(3,eX),(6,aI),(31,aB)]) r r<|eS h30 r (fun b31 h31=>?_) (fun b31 h31=>?_)
  ·
   exact bN<|mV (v:=aF) r<|bx h31 fun x32 y32 h33=>fF (v:=_) (σ':=[cZ,bU,bU]) [0] r (pQ y32) r r pV (hO oB aH) r r r<|fG (fr':=[(0,aF),(2,bK),(3,eX),(6,aI),(31,aB)]) r<|tB _ (sy h33) (cR [] 3 r r r r kL4 (eU r (eU r (eU r aH))))
  ·
   exact cE<|tB _ (sy h31) (cR [] 3 r r r r kL4 (eU r (eU r (eU r aH))))
 ·
  intro j26 hj34
  subst hj34
  refine bC<|aT<|sI r<|aR (fr':=[(0,aF),(2,bK),(3,eX),(6,aI),(7,aI)]) r r<|bx h25 fun x35 y35 h36=>kC pL (fun j37=>x35=j37) (fun (j37:(aP × (List (List UInt8))))=>([(0,aF),(2,bK),(3,eX)]:Fr)) (fun (j37:(aP × (List (List UInt8))))=>([[.c (PV.ls 1 jK j37.1.b_),ci j37.1.at_,ci j37.1.err_,.c (.bool j37.1.made_)],[.c (.str ([]:List UInt8)),ci 0,ci 0,ci 0,ci 0,ci 0,ci 0,ci 0,ci 0,AV.nil],[.c (.str x1.1),ci x6.1,ci x8.1,ci x10.1,ci x12.1,ci x14.1,ci x16.1,ci x18.1,ci x20.1,AV.os 0 1 jE j37.2]]:St)) ?_ ?_
  ·
   refine dA<|jS _ (fun (s38:(Int × aP × (List (List UInt8))))=>([(0,aF),(2,bK),(3,eX),(6,ci x22.1),(7,ci s38.1)]:Fr)) (fun (s38:(Int × aP × (List (List UInt8))))=>([[.c (PV.ls 1 jK s38.2.1.b_),ci s38.2.1.at_,ci s38.2.1.err_,.c (.bool s38.2.1.made_)],[.c (.str ([]:List UInt8)),ci 0,ci 0,ci 0,ci 0,ci 0,ci 0,ci 0,ci 0,AV.nil],[.c (.str x1.1),ci x6.1,ci x8.1,ci x10.1,ci x12.1,ci x14.1,ci x16.1,ci x18.1,ci x20.1,AV.os 0 1 jE s38.2.2]]:St)) y35 (cR [1000000] 3 r r r r kL5 (eU r (eU r (aAx ⟨lr,lr,lr,lr,lr,lr,lr,lr,lr,(aDH r),trivial⟩ aH)))) ?_
   intro s38 st38 hs38 ho38
   unfold oL at hs38
   obtain ⟨x39,y39,h40⟩:=rB hs38
   refine rH (fun j41=>x39=Fl.go j41) (fun (j41:Unit)=>([(0,aF),(2,bK),(3,eX),(6,ci x22.1),(7,ci s38.1)]:Fr)) (fun (j41:Unit)=>([[.c (PV.ls 1 jK s38.2.1.b_),ci s38.2.1.at_,ci s38.2.1.err_,.c (.bool s38.2.1.made_)],[.c (.str ([]:List UInt8)),ci 0,ci 0,ci 0,ci 0,ci 0,ci 0,ci 0,ci 0,AV.nil],[.c (.str x1.1),ci x6.1,ci x8.1,ci x10.1,ci x12.1,ci x14.1,ci x16.1,ci x18.1,ci x20.1,AV.os 0 1 jE s38.2.2]]:St)) ?_ ?_
   ·
    refine aT<|mI r<|mI r<|aW r (iJ r r)<|mB r<|aSf y39 (fun b42 h42=>?_) (fun b42 h42=>?_)
    ·
     refine wL r r b42<|mV (v:=aF) r<|wL r r b42<|bx h42 fun x43 y43 h44=>fF (v:=aI) (σ':=[cZ,bU,[aS,aI,aI,aI,aI,aI,aI,aI,aI,aO]]) [0] r (hG y43) r r ⟨lr,trivial⟩ (hO oB aH) r r r<|wL r r b42<|aW r (dZ r r)<|aW r (aKS r b42 r)<|aR (fr':=[(0,aF),(2,bK),(3,eX),(6,aI),(7,aI),(41,aB)]) r r<|eS h44 r (fun b45 h45=>?_) (fun b45 h45=>?_)
     ·
      exact cE<|tB _ (sy h45) (cR [0] 3 r r r r kL5 (eU r (eU r (eU r aH))))
     ·
      refine kF<|eL<|eL<|iM ?_
      have h46:=hU h45 h40
      have h47:=gN h46 ho38
      exact tB _ (sy h47) (cR [0] 3 r r r r wE (eU r (eU r (eU r aH))))
    ·
     refine aNJ r r b42<|aNJ r r b42<|aNJ r r b42<|aW r (aCs r b42 r)<|aR (fr':=[(0,aF),(2,bK),(3,eX),(6,aI),(7,aI),(41,aB)]) r r<|aCR r<|kF<|eL<|eL<|iM ?_
     have h48:=hU h42 h40
     have h49:=gN h48 ho38
     exact tB _ (sy h49) (cR [0] 3 r r r r wE (eU r (eU r (eU r aH))))
   ·
    intro j41 hj50
    have h50:=qP hj50 h40
    refine bC<|dA<|lS [.q 0,.q 1,.q 2,.n 3 [0,1],.n 4 [0,1],.n 5 [],.q 6,.n 7 []] [(some 44,[3]),(some 45,[44]),(some 46,[0]),(some 47,[46]),(some 48,[47]),(some 49,[45,48]),(some 50,[3]),(none,[50,49])] [0,1,0,4,12,31,63,127] (by kernel_rfl)<|dq r r (bH vP r)<|dq r r (aK (v:=aO) wD r r r)<|dq r r (bP (v:=aF) r)<|d_n r ?_ r
    obtain ⟨x51,y51,h52⟩:=rB h50
    refine fF (v:=aS) (σ':=[cZ,bU,[aS,aI,aI,aI,aI,aI,aI,aI,aI,aO]]) [0] r (lU y51) r r pV (hO oB aH) r r r<|aCp<|⟨(aFT (v:=aQL) r r (aAE r (bH vP r)) (aFT (v:=aO) r r (aAE r (aK (v:=aO) wD r r r)) tL)),?_⟩
    refine d_n r ?_ r
    refine aA4 (row:=jE) (xs:=([x51.1]:List (List UInt8))) (rows:=[[_]]) (σ':=[cZ,bU,[aS,aI,aI,aI,aI,aI,aI,aI,aI,aO]]) [0] aBQ r r r (kS r uT) r r<|aCp<|⟨(aFT (v:=aQL) r r (aAE r (bH vP r)) (aFT (v:=aO) r r (aAE r (aK (v:=aO) wD r r r)) tL)),?_⟩
    refine d_n r ?_ r
    obtain ⟨x53,y53,h54⟩:=rB h52
    refine aG0 (row:=jE) aBQ r aBi r (aAi r) (fun _=>r) y53<|aCp<|⟨tL,?_⟩
    refine dq r r (bH vP r)<|d_n r ?_ r
    refine cY (v:=aO) (us:=[aO]) (cs:=dK) (σ':=[cZ,bU,[aS,aI,aI,aI,aI,aI,aI,aI,aI,aO]]) r wD r r r r r r r r<|aCp<|⟨tL,?_⟩
    exact aRY (fr':=[(0,aF),(2,bK),(3,eX),(6,aI),(7,aI)]) r<|eW<|eA<|bN<|mI r<|aW r (iH r r)<|sI r<|fG (fr':=[(0,aF),(2,bK),(3,eX),(6,aI),(7,aI)]) r<|e_l _ (sy h54) (cR [784] 3 r r r r kL5 (eU r (eU r (eU r aH))))
  ·
   intro j37 hj55
   subst hj55
   refine eA<|bx h36 fun x56 y56 h57=>rH (fun j58=>x56=j58) (fun (j58:aP)=>([(0,aF),(2,bK),(3,eX)]:Fr)) (fun (j58:aP)=>([[.c (PV.ls 1 jK j58.b_),ci j58.at_,ci j58.err_,.c (.bool j58.made_)],[.c (.str ([]:List UInt8)),ci 0,ci 0,ci 0,ci 0,ci 0,ci 0,ci 0,ci 0,AV.nil],[.c (.str x1.1),ci x6.1,ci x8.1,ci x10.1,ci x12.1,ci x14.1,ci x16.1,ci x18.1,ci x20.1,AV.os 0 1 jE x35.2]]:St)) ?_ ?_
   ·
    refine aT<|mV (v:=aF) r<|bx y56 fun x59 y59 h60=>fF (v:=aI) (σ':=[cZ,bU,[aS,aI,aI,aI,aI,aI,aI,aI,aI,aO]]) [0] r (hG y59) r r ⟨lr,trivial⟩ (hO oB aH) r r r<|aW r (dZ r r)<|mB r<|og r r r (fun u=>(dN (us:=[aS,aI,aI,aI,aI,aI,aI,aI,aI,aO]) zU r r r r))<|bx h60 fun x61 y61 h62=>zB r r (fun u=>bR (v:=aB) r (xE (eQ y61 u)) ⟨(fY (gx r u) (bV r yM)),trivial⟩ (iN (by repeat (first | exact gK | refine bI r ?_ | refine bI (vT r) ?_ | refine bI vS ?_))) r r) ?_
    refine og r r r (fun u=>(hY (gx r u)))<|aW r (cD r r r (fun e=>hD e))<|aR (fr':=[(0,aF),(2,bK),(3,eX),(58,aB)]) r r<|eS h62 r (fun b63 h63=>?_) (fun b63 h63=>?_)
    ·
     exact bN<|mV (v:=aF) r<|bx h63 fun x64 y64 h65=>fF (v:=_) (σ':=[cZ,bU,[aS,aI,aI,aI,aI,aI,aI,aI,aI,aO]]) [0] r (pQ y64) r r pV (hO oB aH) r r r<|fG (fr':=[(0,aF),(2,bK),(3,eX),(58,aB)]) r<|tB _ (sy h65) (cR [0] 3 r r r r wE (eU r (eU r (eU r aH))))
    ·
     exact cE<|tB _ (sy h63) (cR [0] 3 r r r r wE (eU r (eU r (eU r aH))))
   ·
    intro j58 hj66
    subst hj66
    refine bC<|aT<|mV (v:=aF) r<|bx h57 fun x67 y67 h68=>fF (v:=aI) (σ':=[cZ,bU,[aS,aI,aI,aI,aI,aI,aI,aI,aI,aO]]) [0] r (hG y67) r r ⟨lr,trivial⟩ (hO oB aH) r r r<|aW r (kD r r)<|aR (fr':=[(2,bK),(3,eX),(63,aB)]) r r<|eS h68 r (fun b69 h69=>?_) (fun b69 h69=>?_)
    ·
     refine aT<|aW r (lA (c0:=bU) (cs:=bU) aRI r kY)<|cY (v:=.agg bU) (us:=bU) (cs:=bU) (σ':=[cZ,bU,[aS,aI,aI,aI,aI,aI,aI,aI,aI,aO]]) r zU r r r r r r r r<|aR (fr':=[(2,bK)]) r r<|cB<|aV ?_
     obtain rfl:=sy h69
     exact bZ (rs':=[.cell 2 28]) r<|hZ (us:=bU) (cs:=bU) zU r r r r<|bX<|aZ [] r r r (bV r ⟨r,r,r,r,r,r,r,r,r,⟨_,r⟩,trivial⟩) (hO oB aH)
    ·
     refine cE<|eA<|aT<|aW r (dN (us:=[aS,aI,aI,aI,aI,aI,aI,aI,aI,aO]) zU r r r r)<|cY (v:=.agg [aS,aI,aI,aI,aI,aI,aI,aI,aI,aO]) (us:=[aS,aI,aI,aI,aI,aI,aI,aI,aI,aO]) (cs:=bU) (σ':=[cZ,[aS,aI,aI,aI,aI,aI,aI,aI,aI,aO],[aS,aI,aI,aI,aI,aI,aI,aI,aI,aO]]) r zU r r r r r r r r<|aR (fr':=[(2,bK)]) r r<|cB ?_
     obtain rfl:=sy h69
     exact bZ (rs':=[.cell 2 28]) r<|hZ (us:=[aS,aI,aI,aI,aI,aI,aI,aI,aI,aO]) (cs:=[aS,aI,aI,aI,aI,aI,aI,aI,aI,aO]) zU r r r r<|bX<|aZ [] r r r (bV r yM) (hO oB aH)
