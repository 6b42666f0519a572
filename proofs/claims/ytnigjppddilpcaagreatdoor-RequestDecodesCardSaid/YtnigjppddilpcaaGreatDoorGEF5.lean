import Derived.Test.YtnigjppddilpcaaGreatDoorGETy
import Derived.Test.YtnigjppddilpcaaGreatDoorGEF0
import Derived.Test.YtnigjppddilpcaaGreatDoorGEF1
import Derived.Test.YtnigjppddilpcaaGreatDoorGEF4
namespace Go.Proofs.YtnigjppddilpcaaGreatDoor
open Go Abs
set_option maxRecDepth 100000
set_option linter.unusedVariables false
set_option linter.unusedSimpArgs false
noncomputable def jV (rL:Int→Int→aX→Option (aQ × Int × aX)) (x1:(Int × aX)) (sJ:Int) (mY:Int) (s10:(Int × Int × aX × (List aQ) × (List (List UInt8)))):Option (dU (Int × Int × aX × (List aQ) × (List (List UInt8))) (Fl (aQ × Int × aX) (Int × aX × (List aQ) × (List (List UInt8))))) :=
 cond (decide (s10.1<x1.1)) (((cond (decide (sJ=5)) ((iF 9223372036854775807 s10.2.2.1).bind fun x16=>(gd (((decide (((x16.1).length:Int)≤4096))==true)&&((decide (s10.1=0))==false)) (nG s10.2.2.2.2 (IntKind.wrap .i64 (s10.1 - 1)))).bind fun x18=>(kZ (cond (decide (((x16.1).length:Int)≤4096)) (cond (decide (s10.1=0)) true (!(Op.bytesLess x16.1 x18||decide (x16.1=x18)))) false) s10.2.1 x16.2).bind fun x20=>cond (!x20.1) (some (Fl.done (dU.out (Fl.done ((aQ.mk 0 0 ([]:List UInt8) ([]:(List aQ)) ([]:(List (List UInt8)))),s10.2.1,x20.2))))) ((app 16 s10.2.2.2.2 ([x16.1]:List (List UInt8))).bind fun x27=>some (Fl.go (x20.2,x27)))) (some (Fl.go (s10.2.2.1,s10.2.2.2.2)))):Option (Fl (dU (Int × Int × aX × (List aQ) × (List (List UInt8))) (Fl (aQ × Int × aX) (Int × aX × (List aQ) × (List (List UInt8))))) (aX × (List (List UInt8))))).bind fun x12=>Fl.next x12 (fun j14=>((rL (IntKind.wrap .i64 (mY+1)) s10.2.1 j14.1).bind fun x30=>(gH x30.2.2).bind fun x32=>cond (!decide (x32=0)) (some (dU.out (Fl.done ((aQ.mk 0 0 ([]:List UInt8) ([]:(List aQ)) ([]:(List (List UInt8)))),x30.2.1,x30.2.2)))) ((app 80 s10.2.2.2.1 ([x30.1]:List aQ)).bind fun x38=>some (dU.next ((IntKind.wrap .i64 (s10.1+1)),x30.2.1,x30.2.2,x38,j14.2)))))) (some (dU.out (Fl.go (s10.2.1,s10.2.2.1,s10.2.2.2.1,s10.2.2.2.2))))
mutual
noncomputable def jZ:Nat→Int→Int→(List UInt8)→Int→Int→aX→Option (aQ × Int × aX)
 | 0,_,_,_,_,_,_=>none
 | n+1,sJ,aAl,aAm,mY,eD,jQ =>
  (fF (-9223372036854775808) 9223372036854775807 jQ).bind fun x1=>(kZ (cond (decide (0≤x1.1)) (decide (x1.1≤1000)) false) eD x1.2).bind fun x3=>cond (!x3.1) (some ((aQ.mk 0 0 ([]:List UInt8) ([]:(List aQ)) ([]:(List (List UInt8)))),eD,x3.2)) ((fK (jV (gF n) x1 sJ mY) ((0,eD,x3.2,([]:(List aQ)),([]:(List (List UInt8)))))).bind fun x7=>Fl.next x7 (fun j9=>(some ((aQ.mk sJ aAl aAm j9.2.2.1 j9.2.2.2),j9.1,j9.2.1))))
noncomputable def gF:Nat→Int→Int→aX→Option (aQ × Int × aX)
 | 0,_,_,_=>none
 | n+1,lD,eD,jQ =>
  (kZ (cond (decide (eD<1000)) (decide (lD≤16)) false) eD jQ).bind fun x1=>cond (!x1.1) (some ((aQ.mk 0 0 ([]:List UInt8) ([]:(List aQ)) ([]:(List (List UInt8)))),eD,x1.2)) ((fF (-9223372036854775808) 9223372036854775807 x1.2).bind fun x5=>(kZ (cond (decide (0≤x5.1)) (decide (x5.1≤5)) false) (IntKind.wrap .i64 (eD+1)) x5.2).bind fun x7=>cond (!x7.1) (some ((aQ.mk 0 0 ([]:List UInt8) ([]:(List aQ)) ([]:(List (List UInt8)))),(IntKind.wrap .i64 (eD+1)),x7.2)) (((cond (decide (x5.1=1)) ((fF (-9223372036854775808) 9223372036854775807 x7.2).bind fun x15=>(kZ (cond (decide (x15.1=0)) true (decide (x15.1=1))) (IntKind.wrap .i64 (eD+1)) x15.2).bind fun x17=>some (Fl.go (x17.2,x15.1,([]:List UInt8)))) (cond (decide (x5.1=2)) ((fF (-9223372036854775808) 9223372036854775807 x7.2).bind fun x20=>some (Fl.go (x20.2,x20.1,([]:List UInt8)))) (cond (decide (x5.1=3)) ((iF 9223372036854775807 x7.2).bind fun x23=>(kZ (decide (((x23.1).length:Int)≤4096)) (IntKind.wrap .i64 (eD+1)) x23.2).bind fun x25=>some (Fl.go (x25.2,0,x23.1))) (((cond (decide (x5.1=4)) (some (decide (x5.1=4))) (some (decide (x5.1=5)))):Option Bool).bind fun x27=>(cond x27 (((jZ n) x5.1 0 ([]:List UInt8) lD (IntKind.wrap .i64 (eD+1)) x7.2).bind fun x33=>some (Fl.done (x33.1,x33.2.1,x33.2.2))) (some (Fl.go (x7.2,0,([]:List UInt8))))))))):Option (Fl (aQ × Int × aX) (aX × Int × (List UInt8)))).bind fun x11=>Fl.next x11 (fun j13=>(some ((aQ.mk x5.1 j13.2.1 j13.2.2 ([]:(List aQ)) ([]:(List (List UInt8)))),(IntKind.wrap .i64 (eD+1)),j13.1)))))
end
theorem aD5:∀ n:Nat,(∀ {sJ:Int}{aAl:Int}{aAm:(List UInt8)}{mY:Int}{eD:Int}{jQ:aX}{z:(aQ × Int × aX)},jZ n sJ aAl aAm mY eD jQ=some z→cQ Tryz.prog 184 [.box 0 0,.agg [ci sJ,ci aAl,.c (.str aAm),AV.nil,AV.nil],ci mY] [[.box 1 0,ci eD],AV.cs (eV jQ)] (.agg (AV.cs (fA z.1))) [[.box 1 0,ci z.2.1],AV.cs (eV z.2.2)])∧(∀ {lD:Int}{eD:Int}{jQ:aX}{z:(aQ × Int × aX)},gF n lD eD jQ=some z→cQ Tryz.prog 145 [.box 0 0,ci lD] [[.box 1 0,ci eD],AV.cs (eV jQ)] (.agg (AV.cs (fA z.1))) [[.box 1 0,ci z.2.1],AV.cs (eV z.2.2)]):=by
 intro n
 induction n with
 | zero=>exact ⟨fun {sJ aAl aAm mY eD jQ z} h=>absurd h (by simp [jZ]),fun {lD eD jQ z} h=>absurd h (by simp [gF])⟩
 | succ n ih =>
  obtain ⟨ih_value_decoder_items,ih_value_decoder_value⟩:=ih
  refine ⟨?_,?_⟩
  ·
   intro sJ aAl aAm mY eD jQ z h
   rw [jZ] at h
   refine dF (fn:=Tryz.f184) [0,1,2,4,6,7,8,9,10,24,28,33,58,75] (by kernel_rfl) Tryz.func184 r (by kernel_rfl) (by kernel_rfl)<|aH<|jK (v:=.agg cB) (n:=2) (cs:=cB) (σ':=[[aU,aI],dG,cB]) r r r r r<|hO (n:=3) (cs:=cB) (σ':=[[aU,aI],dG,cB,cB]) aD2 r r r<|aG (fr':=[(0,aE),(2,aI),(4,cK),(6,jO)]) r r<|aH<|mV (v:=aE) r<|aR r (jM r)<|aR r (bD aBq r)<|aR r (aK (v:=aU) aJ8 r r r)<|bx h fun x1 y1 h2=>cP (v:=aI) (σ':=[[aU,aI],dG,cB,cB]) [1] r (jR y1) r r kA (eG nO aD) r r r<|sI r<|aG (fr':=[(0,aE),(2,aI),(4,cK),(6,jO),(7,aI)]) r r<|aZ<|aH<|mV (v:=aE) r<|mI r<|aR r (oI r r)<|mB r<|og r r r (fun u=>(bN (v:=aI) r))<|og r r r (fun u=>(nM (gx r u) r))<|aR r (bV r r r (fun e=>fJ e))<|bx h2 fun x3 y3 h4=>cP (v:=aB) (σ':=[[aU,aI],dG,cB,cB]) [0,1] r (qK y3) r r jN (qI jN (eG nO aD)) (fT (by repeat (first | exact eN | refine aY r ?_ | refine aY (pP r) ?_ | refine aY pO ?_))) r r ?_
   refine aR r (fE r)<|aG (fr':=[(0,aE),(2,aI),(4,cK),(6,jO),(7,aI),(24,aB)]) r r<|cG h4 r (fun b5 h5=>?_) (fun b5 h5=>?_)
   ·
    refine aH<|aR r (fV (cs:=cB) aFl r)<|bM (v:=.agg cB) (us:=cB) (cs:=cB) (σ':=[[aU,aI],dG,cB,cB]) r iO r r r r r r r r<|aG (fr':=[(6,jO)]) r r<|bK<|aP ?_
    obtain rfl:=sy h5
    exact bJ (rs':=[.cell 6 26]) r<|dY (us:=cB) (cs:=cB) iO r r r r<|bI<|aN [] r r r (bQ r ⟨r,r,r,⟨_,r⟩,⟨_,r⟩,trivial⟩) (qI jN (eG nO aD))
   ·
    refine bF<|cZ<|aZ<|aH<|sI r<|aG (fr':=[(0,aE),(2,aI),(4,cK),(6,jO),(7,aI),(8,aI)]) r r<|bx h5 fun x7 y7 h8=>gZ lB (fun j9=>x7=Fl.go j9) (fun (j9:(Int × aX × (List aQ) × (List (List UInt8))))=>([(4,cK),(6,jO)]:Fr)) (fun (j9:(Int × aX × (List aQ) × (List (List UInt8))))=>([[aU,ci j9.1],[.c (PV.ls 1 iT j9.2.1.b_),ci j9.2.1.at_,ci j9.2.1.err_,.c (.bool j9.2.1.made_)],[ci sJ,ci aAl,.c (.str aAm),AV.os 0 5 bT j9.2.2.1,AV.os 1 1 fI j9.2.2.2],[ci 0,ci 0,.c (.str ([]:List UInt8)),AV.nil,AV.nil]]:St)) ?_ ?_
    ·
     refine cH<|gV _ (fun (s10:(Int × Int × aX × (List aQ) × (List (List UInt8))))=>([(0,aE),(2,ci mY),(4,cK),(6,jO),(7,ci x1.1),(8,ci s10.1)]:Fr)) (fun (s10:(Int × Int × aX × (List aQ) × (List (List UInt8))))=>([[aU,ci s10.2.1],[.c (PV.ls 1 iT s10.2.2.1.b_),ci s10.2.2.1.at_,ci s10.2.2.1.err_,.c (.bool s10.2.2.1.made_)],[ci sJ,ci aAl,.c (.str aAm),AV.os 0 5 bT s10.2.2.2.1,AV.os 1 1 fI s10.2.2.2.2],[ci 0,ci 0,.c (.str ([]:List UInt8)),AV.nil,AV.nil]]:St)) y7 (bC [1000000,1000001] 4 r r r r kL6 (bR r (bR r (qI ⟨lr,lr,lr,(aAt r),(aAt r),trivial⟩ (bR r aD))))) ?_
     intro s10 st10 hs10 ho10
     unfold jV at hs10
     refine aZ<|aH<|mI r<|mI r<|aR r (gI r r)<|aG (fr':=[(0,aE),(2,aI),(4,cK),(6,jO),(7,aI),(8,aI),(28,aB)]) r r<|cG hs10 r (fun b11 h11=>?_) (fun b11 h11=>?_)
     ·
      refine bF<|cZ<|aZ<|cH<|bx h11 fun x12 y12 h13=>hH (fun j14=>x12=Fl.go j14) (fun (j14:(aX × (List (List UInt8))))=>([(0,aE),(2,ci mY),(4,cK),(6,jO),(7,ci x1.1),(8,ci s10.1)]:Fr)) (fun (j14:(aX × (List (List UInt8))))=>([[aU,ci s10.2.1],[.c (PV.ls 1 iT j14.1.b_),ci j14.1.at_,ci j14.1.err_,.c (.bool j14.1.made_)],[ci sJ,ci aAl,.c (.str aAm),AV.os 0 5 bT s10.2.2.2.1,AV.os 1 1 fI j14.2],[ci 0,ci 0,.c (.str ([]:List UInt8)),AV.nil,AV.nil]]:St)) ?_ ?_
      ·
       refine aH<|aR r (bD mE r)<|aR r (aK (v:=aI) fM r r r)<|aR r (bU r r)<|aG (fr':=[(0,aE),(2,aI),(4,cK),(6,jO),(7,aI),(8,aI),(33,aB)]) r r<|cG y12 r (fun b15 h15=>?_) (fun b15 h15=>?_)
       ·
        refine aH<|mV (v:=aE) r<|aR r (jM r)<|aR r (bD aBq r)<|aR r (aK (v:=aU) aJ8 r r r)<|bx h15 fun x16 y16 h17=>cP (v:=aS) (σ':=[[aU,aI],dG,[aI,aI,aS,aO,aO],cB]) [1] r (mG y16) r r jN (eG nO aD) r r r<|sS r<|aG (fr':=[(0,aE),(2,aI),(4,cK),(6,jO),(7,aI),(8,aI),(9,aS)]) r r<|aZ<|aH<|mV (v:=aE) r<|mS r<|aR r (kT uU r)<|aR r (nM r r)<|mB r<|og r r r (fun u=>(bN (v:=aI) r))<|og r r r (fun u=>(bU (gx r u) r))<|og r r r (fun u=>(bN (v:=aB) (gx r u)))<|fD r r (fun u=>fS r (bN (v:=aS) r))<|fD r r (fun u=>fS r (bD oN r))<|fD r r (fun u=>fS r (aK (v:=aO) rC (gx r u) r r))<|fD r r (fun u=>fS r (bN (v:=aI) r))<|fD r r (fun u=>fS r (aFA (gx r u) r))<|bx h17 fun x18 y18 h19=>fD r r (fun u=>fS r (lF (cs:=[PV.str _]) aAR (oC (gx r u)) (gx r u) (cU y18 u) r))<|fD r r (fun u=>fS r (gP (p:=PV.str _) lP (gx r u) r))<|fD r r (fun u=>fS r (aTv (gx r u) (gx r u)))<|og r r r (fun u=>(cN (gx r u) r r (fun e=>pX u (fJ e))))<|aR r (bV r r r (fun e=>fJ e))<|bx h19 fun x20 y20 h21=>cP (v:=aB) (σ':=[[aU,aI],dG,[aI,aI,aS,aO,aO],cB]) [0,1] r (qK y20) r r jN (qI jN (eG nO aD)) (fT (by repeat (first | exact eN | refine aY r ?_ | refine aY (pP r) ?_ | refine aY pO ?_))) r r ?_
        refine aR r (fE r)<|aG (fr':=[(0,aE),(2,aI),(4,cK),(6,jO),(7,aI),(8,aI),(9,aS),(58,aB)]) r r<|cG h21 r (fun b22 h22=>?_) (fun b22 h22=>?_)
        ·
         refine aH<|aR r (fV (cs:=cB) aFl r)<|bM (v:=.agg cB) (us:=cB) (cs:=cB) (σ':=[[aU,aI],dG,[aI,aI,aS,aO,aO],cB]) r iO r r r r r r r r<|aG (fr':=[(6,jO)]) r r<|bK<|aP<|aP<|bO<|aP<|aP<|bO<|aP<|aP ?_
         have h23:=fL h22 h13
         have h24:=eR h23 ho10
         have h25:=fL h24 h8
         obtain rfl:=sy h25
         exact bJ (rs':=[.cell 6 26]) r<|dY (us:=cB) (cs:=cB) iO r r r r<|bI<|aN [] r r r (bQ r ⟨r,r,r,⟨_,r⟩,⟨_,r⟩,trivial⟩) (qI jN (eG nO aD))
        ·
         exact bF<|cZ<|bB<|aR r (bD oN r)<|aR r (aK (v:=aO) rC r r r)<|mS r<|uL (row:=fI) (xs:=([x16.1]:List (List UInt8))) (rows:=[[_]]) (σ':=[[aU,aI],dG,[aI,aI,aS,aO,aO],cB]) [0] aAR r r r (gB r oB) r r<|bx h22 fun x27 y27 h28=>aCt (row:=fI) aAR r zD r (oC r) (fun _=>r) y27<|aR r (bD oN r)<|bM (v:=aO) (us:=[aO]) (cs:=[aI,aI,aS,aO,aL]) (σ':=[[aU,aI],dG,[aI,aI,aS,aO,aO],cB]) r rC r r r r r r r r<|dM (fr':=[(0,aE),(2,aI),(4,cK),(6,jO),(7,aI),(8,aI),(9,aS),(58,aB)]) r<|iQ _ (sy h28) (bC [0,1024] 4 r r r r kL6 (bR r (bR r (bR r (bR r aD)))))
       ·
        exact bF<|iQ _ (sy h15) (bC [0,1] 4 r r r r kL6 (bR r (bR r (bR r (bR r aD)))))
      ·
       intro j14 hj29
       have h29:=lV hj29 h13
       refine aH<|mV (v:=aE) r<|mI r<|aR r (gC r r)<|bx h29 fun x30 y30 h31=>cP (v:=.agg cE) (σ':=[[aU,aI],dG,[aI,aI,aS,aO,aO],cB]) [0,1] r (ih_value_decoder_value y30) r r jN (qI jN (eG nO aD)) r r r<|hO (n:=4) (cs:=cB) (σ':=[[aU,aI],dG,[aI,aI,aS,aO,aO],cB,cB]) aD2 r r r<|bM (v:=.agg cE) (us:=cE) (cs:=cB) (σ':=[[aU,aI],dG,[aI,aI,aS,aO,aO],cB,cE]) r iO r r r r r r r r<|aG (fr':=[(0,aE),(2,aI),(4,cK),(6,jO),(7,aI),(8,aI),(10,aOC)]) r r<|aZ<|aH<|mV (v:=aE) r<|aR r (jM r)<|aR r (bD aBq r)<|aR r (aK (v:=aU) aJ8 r r r)<|bx h31 fun x32 y32 h33=>cP (v:=aI) (σ':=[[aU,aI],dG,[aI,aI,aS,aO,aO],cB,cE]) [1] r (iB y32) r r ⟨lr,trivial⟩ (eG nO aD) r r r<|aR r (iS r r)<|aG (fr':=[(0,aE),(2,aI),(4,cK),(6,jO),(7,aI),(8,aI),(10,aOC),(75,aB)]) r r<|cG h33 r (fun b34 h34=>?_) (fun b34 h34=>?_)
       ·
        refine aH<|aR r (fV (cs:=cB) aFl r)<|bM (v:=.agg cB) (us:=cB) (cs:=cB) (σ':=[[aU,aI],dG,[aI,aI,aS,aO,aO],cB,cE]) r iO r r r r r r r r<|aG (fr':=[(6,jO)]) r r<|bK<|aP<|bO<|aP<|aP<|bO<|aP<|aP ?_
        have h35:=eR h34 ho10
        have h36:=fL h35 h8
        obtain rfl:=sy h36
        exact bJ (rs':=[.cell 6 26]) r<|dY (us:=cB) (cs:=cB) iO r r r r<|bI<|aN [] r r r (bQ r ⟨r,r,r,⟨_,r⟩,⟨_,r⟩,trivial⟩) (qI jN (eG nO aD))
       ·
        exact bF<|cZ<|bB<|aR r (bD iJ r)<|aR r (aK (v:=aO) nS r r r)<|aR r (dL (us:=cE) iO r r r r)<|uL (row:=bT) (xs:=([x30.1]:List aQ)) (rows:=[[_,_,_,_,_]]) (σ':=[[aU,aI],dG,[aI,aI,aS,aO,aO],cB,cE]) [0,0,0,5,1] uV r r r (gB (eJ _) oB) r r<|bx h34 fun x38 y38 h39=>aCt (row:=bT) uV r vX r (oC r) aEg y38<|aR r (bD iJ r)<|bM (v:=aO) (us:=[aO]) (cs:=[aI,aI,aS,aL,aO]) (σ':=[[aU,aI],dG,[aI,aI,aS,aO,aO],cB,cE]) r nS r r r r r r r r<|dM (fr':=[(0,aE),(2,aI),(4,cK),(6,jO),(7,aI),(8,aI),(10,aOC),(75,aB)]) r<|cW<|cZ<|bB<|mI r<|aR r (gC r r)<|sI r<|dM (fr':=[(0,aE),(2,aI),(4,cK),(6,jO),(7,aI),(8,aI),(10,aOC),(75,aB)]) r<|zO _ (sy h39) (bC [1296,1] 4 r r r r kL6 (bR r (bR r (bR r (bR r aD)))))
     ·
      refine hG<|cY<|cY<|fP ?_
      have h40:=eR h11 ho10
      exact iQ _ (sy h40) (bC [0,1] 4 r r r r jN (bR r (bR r (bR r (bR r aD)))))
    ·
     intro j9 hj41
     have h41:=lV hj41 h8
     refine cZ<|aH<|aR r (dL (us:=[aI,aI,aS,aO,aO]) iO r r r r)<|bM (v:=.agg [aI,aI,aS,aO,aO]) (us:=[aI,aI,aS,aO,aO]) (cs:=cB) (σ':=[[aU,aI],dG,[aI,aI,aS,aO,aO],[aI,aI,aS,aO,aO]]) r iO r r r r r r r r<|aG (fr':=[(6,jO)]) r r<|bK ?_
     obtain rfl:=sy h41
     exact bJ (rs':=[.cell 6 26]) r<|dY (us:=[aI,aI,aS,aO,aO]) (cs:=[aI,aI,aS,aO,aO]) iO r r r r<|bI<|aN [] r r r (bQ r kR5) (qI jN (eG nO aD))
  ·
   intro lD eD jQ z h
   rw [gF] at h
   refine dF (fn:=Tryz.f145) [0,1,4,5,17,42,45,46,64,72,86] (by kernel_rfl) Tryz.func145 r (by kernel_rfl) (by kernel_rfl)<|aH<|hO (n:=2) (cs:=cB) (σ':=[[aU,aI],dG,cB]) aD2 r r r<|aG (fr':=[(0,aE),(1,aI),(4,cK)]) r r<|aZ<|aH<|mV (v:=aE) r<|mV (v:=aE) r<|aR r (jM r)<|aR r (bD aLy r)<|aR r (aK (v:=aI) fM r r r)<|aR r (gI r r)<|mB r<|og r r r (fun u=>(bN (v:=aI) r))<|og r r r (fun u=>(nM (gx r u) r))<|aR r (bV r r r (fun e=>fJ e))<|bx h fun x1 y1 h2=>cP (v:=aB) (σ':=[[aU,aI],dG,cB]) [0,1] r (qK y1) r r jN (qI jN (eG nO aD)) (fT (by repeat (first | exact eN | refine aY r ?_ | refine aY (pP r) ?_ | refine aY pO ?_))) r r ?_
   refine aR r (fE r)<|aG (fr':=[(0,aE),(1,aI),(4,cK),(17,aB)]) r r<|cG h2 r (fun b3 h3=>?_) (fun b3 h3=>?_)
   ·
    refine aH<|aR r (fV (cs:=cB) aFl r)<|bM (v:=.agg cB) (us:=cB) (cs:=cB) (σ':=[[aU,aI],dG,cB]) r iO r r r r r r r r<|aG (fr':=[(4,cK)]) r r<|bK<|aP ?_
    obtain rfl:=sy h3
    exact bJ (rs':=[.cell 4 26]) r<|dY (us:=cB) (cs:=cB) iO r r r r<|bI<|aN [] r r r (bQ r ⟨r,r,r,⟨_,r⟩,⟨_,r⟩,trivial⟩) (qI jN (eG nO aD))
   ·
    refine bF<|cZ<|aH<|mV (v:=aE) r<|aR r (jM r)<|aR r (bD aLy r)<|aR r (aK (v:=aI) fM r r r)<|aR r (gC r r)<|aR r (jM r)<|aR r (bD aLy r)<|bM (v:=aI) (us:=[aI]) (cs:=[aU,aI]) (σ':=[[aU,aI],dG,cB]) r fM r r r r r r r r<|aG (fr':=[(0,aE),(1,aI),(4,cK)]) r r<|aH<|mV (v:=aE) r<|aR r (jM r)<|aR r (bD aBq r)<|aR r (aK (v:=aU) aJ8 r r r)<|bx h3 fun x5 y5 h6=>cP (v:=aI) (σ':=[[aU,aI],dG,cB]) [1] r (jR y5) r r kA (eG nO aD) r r r<|aR r (fV (cs:=cB) aFl r)<|hO (n:=3) (cs:=cB) (σ':=[[aU,aI],dG,cB,cB]) aD2 r r r<|bM (v:=.agg cB) (us:=cB) (cs:=cB) (σ':=[[aU,aI],dG,cB,cB]) r iO r r r r r r r r<|aG (fr':=[(0,aE),(1,aI),(4,cK),(5,jO)]) r r<|aZ<|aH<|mV (v:=aE) r<|aR r (bD mE r)<|aR r (aK (v:=aI) fM r r r)<|aR r (oI r r)<|mB r<|og r r r (fun u=>(bD mE r))<|og r r r (fun u=>(aK (v:=aI) fM (gx r u) r r))<|og r r r (fun u=>(nM (gx r u) r))<|aR r (bV r r r (fun e=>fJ e))<|bx h6 fun x7 y7 h8=>cP (v:=aB) (σ':=[[aU,aI],dG,cB,cB]) [0,1] r (qK y7) r r jN (qI jN (eG nO aD)) (fT (by repeat (first | exact eN | refine aY r ?_ | refine aY (pP r) ?_ | refine aY pO ?_))) r r ?_
    refine aR r (fE r)<|aG (fr':=[(0,aE),(1,aI),(4,cK),(5,jO),(42,aB)]) r r<|cG h8 r (fun b9 h9=>?_) (fun b9 h9=>?_)
    ·
     refine aH<|aR r (fV (cs:=cB) aFl r)<|bM (v:=.agg cB) (us:=cB) (cs:=cB) (σ':=[[aU,aI],dG,cB,cB]) r iO r r r r r r r r<|aG (fr':=[(4,cK)]) r r<|bK<|aP ?_
     obtain rfl:=sy h9
     exact bJ (rs':=[.cell 4 26]) r<|dY (us:=cB) (cs:=cB) iO r r r r<|bI<|aN [] r r r (bQ r ⟨r,r,r,⟨_,r⟩,⟨_,r⟩,trivial⟩) (qI jN (eG nO aD))
    ·
     refine bF<|cZ<|bx h9 fun x11 y11 h12=>hH (fun j13=>x11=Fl.go j13) (fun (j13:(aX × Int × (List UInt8)))=>([(4,cK),(5,jO)]:Fr)) (fun (j13:(aX × Int × (List UInt8)))=>([[aU,ci (IntKind.wrap .i64 (eD+(1:Int)))],[.c (PV.ls 1 iT j13.1.b_),ci j13.1.at_,ci j13.1.err_,.c (.bool j13.1.made_)],[ci 0,ci 0,.c (.str ([]:List UInt8)),AV.nil,AV.nil],[ci x5.1,ci j13.2.1,.c (.str j13.2.2),AV.nil,AV.nil]]:St)) ?_ ?_
     ·
      refine aH<|aR r (bD mE r)<|aR r (aK (v:=aI) fM r r r)<|aG (fr':=[(0,aE),(1,aI),(4,cK),(5,jO),(45,aI)]) r r<|cH<|aH<|aR r (bU r r)<|sB r<|aG (fr':=[(0,aE),(1,aI),(4,cK),(5,jO),(45,aI),(46,aB)]) r r<|cG y11 r (fun b14 h14=>?_) (fun b14 h14=>?_)
      ·
       refine aH<|mV (v:=aE) r<|aR r (jM r)<|aR r (bD aBq r)<|aR r (aK (v:=aU) aJ8 r r r)<|bx h14 fun x15 y15 h16=>cP (v:=aI) (σ':=[[aU,aI],dG,cB,cB]) [1] r (jR y15) r r kA (eG nO aD) r r r<|aR r (bD sF r)<|bM (v:=aI) (us:=[aI]) (cs:=cB) (σ':=[[aU,aI],dG,cB,cB]) r fM r r r r r r r r<|aG (fr':=[(0,aE),(4,cK),(5,jO)]) r r<|bB<|mV (v:=aE) r<|aR r (bD sF r)<|aR r (aK (v:=aI) fM r r r)<|aR r (bU r r)<|mB r<|og r r r (fun u=>(bD sF r))<|og r r r (fun u=>(aK (v:=aI) fM (gx r u) r r))<|og r r r (fun u=>(bU (gx r u) r))<|aR r (cN r r r (fun e=>fJ e))<|bx h16 fun x17 y17 h18=>cP (v:=aB) (σ':=[[aU,aI],dG,cB,cB]) [0,1] r (qK y17) r r jN (qI jN (eG nO aD)) (fT (by repeat (first | exact eN | refine aY r ?_ | refine aY (pP r) ?_ | refine aY pO ?_))) r r ?_
       exact dM (fr':=[(0,aE),(4,cK),(5,jO)]) r<|cW<|iQ _ (sy h18) (bC [] 4 r r r r jN (bR r (bR r (bR r (bR r aD)))))
      ·
       refine aH<|aR r (bU r r)<|sB r<|aG (fr':=[(0,aE),(1,aI),(4,cK),(5,jO),(45,aI),(64,aB)]) r r<|cG h14 r (fun b19 h19=>?_) (fun b19 h19=>?_)
       ·
        exact bB<|mV (v:=aE) r<|aR r (jM r)<|aR r (bD aBq r)<|aR r (aK (v:=aU) aJ8 r r r)<|bx h19 fun x20 y20 h21=>cP (v:=aI) (σ':=[[aU,aI],dG,cB,cB]) [1] r (jR y20) r r kA (eG nO aD) r r r<|aR r (bD sF r)<|bM (v:=aI) (us:=[aI]) (cs:=cB) (σ':=[[aU,aI],dG,cB,cB]) r fM r r r r r r r r<|dM (fr':=[(0,aE),(1,aI),(4,cK),(5,jO),(45,aI),(64,aB)]) r<|cW<|iQ _ (sy h21) (bC [] 4 r r r r jN (bR r (bR r (bR r (bR r aD)))))
       ·
        refine aH<|aR r (bU r r)<|sB r<|aG (fr':=[(0,aE),(1,aI),(4,cK),(5,jO),(45,aI),(72,aB)]) r r<|cG h19 r (fun b22 h22=>?_) (fun b22 h22=>?_)
        ·
         exact aH<|mV (v:=aE) r<|aR r (jM r)<|aR r (bD aBq r)<|aR r (aK (v:=aU) aJ8 r r r)<|bx h22 fun x23 y23 h24=>cP (v:=aS) (σ':=[[aU,aI],dG,cB,cB]) [1] r (mG y23) r r jN (eG nO aD) r r r<|aR r (bD uP r)<|bM (v:=aS) (us:=[aS]) (cs:=cB) (σ':=[[aU,aI],dG,cB,cB]) r lP r r r r r r r r<|aG (fr':=[(0,aE),(4,cK),(5,jO)]) r r<|bB<|mV (v:=aE) r<|aR r (bD uP r)<|aR r (aK (v:=aS) lP r r r)<|aR r (kT uU r)<|aR r (nM r r)<|bx h24 fun x25 y25 h26=>cP (v:=aB) (σ':=[[aU,aI],dG,cB,cB]) [0,1] r (qK y25) r r jN (qI jN (eG nO aD)) r r r<|dM (fr':=[(0,aE),(4,cK),(5,jO)]) r<|cW<|iQ _ (sy h26) (bC [] 4 r r r r jN (bR r (bR r (bR r (bR r aD)))))
        ·
         obtain ⟨x27,y27,h28⟩:=iW h22
         refine hH (fun j29=>x27=j29) (fun (j29:Bool)=>([(0,aE),(1,ci lD),(4,cK),(5,jO),(86,.c (.bool j29))]:Fr)) (fun (j29:Bool)=>([[aU,ci (IntKind.wrap .i64 (eD+(1:Int)))],[.c (PV.ls 1 iT x7.2.b_),ci x7.2.at_,ci x7.2.err_,.c (.bool x7.2.made_)],[ci 0,ci 0,.c (.str ([]:List UInt8)),AV.nil,AV.nil],[ci x5.1,ci 0,.c (.str ([]:List UInt8)),AV.nil,AV.nil]]:St)) ?_ ?_
         ·
          refine aH<|aR r (bU r r)<|sB r<|aG (fr':=[(0,aE),(1,aI),(4,cK),(5,jO),(45,aI),(86,aB)]) r r<|cG y27 r (fun b30 h30=>?_) (fun b30 h30=>?_)
          ·
           exact bF<|iQ _ (sy h30) (bC [] 4 r r r r kL5 (bR r (bR r (bR r (bR r aD)))))
          ·
           exact bB<|aR r (bU r r)<|sB r<|dM (fr':=[(0,aE),(1,aI),(4,cK),(5,jO),(45,aI),(86,aB)]) r<|iQ _ (sy h30) (bC [] 4 r r r r kL5 (bR r (bR r (bR r (bR r aD)))))
         ·
          intro j29 hj31
          subst hj31
          refine cG h28 r (fun b32 h32=>?_) (fun b32 h32=>?_)
          ·
           refine aH<|mV (v:=aE) r<|aR r (dL (us:=cB) iO r r r r)<|mI r<|bx h32 fun x33 y33 h34=>cP (v:=.agg cE) (σ':=[[aU,aI],dG,cB,cB]) [0,1] r (ih_value_decoder_items y33) r r ⟨lr,(aOI r kL5),lr,trivial⟩ (qI jN (eG nO aD)) r r r<|bM (v:=.agg cE) (us:=cE) (cs:=cB) (σ':=[[aU,aI],dG,cE,cB]) r iO r r r r r r r r<|aG (fr':=[(4,cK)]) r r<|bK<|bO<|aP ?_
           have h35:=fL h34 h12
           obtain rfl:=sy h35
           exact bJ (rs':=[.cell 4 26]) r<|dY (us:=cE) (cs:=cE) iO r r r r<|bI<|aN [] r r r (bQ r kR5) (qI jN (eG nO aD))
          ·
           exact bF<|cW<|iQ _ (sy h32) (bC [] 4 r r r r jN (bR r (bR r (bR r (bR r aD)))))
     ·
      intro j13 hj37
      have h37:=lV hj37 h12
      refine aH<|aR r (dL (us:=cB) iO r r r r)<|bM (v:=.agg cB) (us:=cB) (cs:=cB) (σ':=[[aU,aI],dG,cB,cB]) r iO r r r r r r r r<|aG (fr':=[(4,cK)]) r r<|bK ?_
      obtain rfl:=sy h37
      exact bJ (rs':=[.cell 4 26]) r<|dY (us:=cB) (cs:=cB) iO r r r r<|bI<|aN [] r r r (bQ r ⟨r,r,r,⟨_,r⟩,⟨_,r⟩,trivial⟩) (qI jN (eG nO aD))
noncomputable def nT (lD:Int) (eD:Int) (jQ:aX):Option (aQ × Int × aX):=lim fun n=>gF n lD eD jQ
theorem aEv {lD:Int}{eD:Int}{jQ:aX}{z:(aQ × Int × aX)} (h:nT lD eD jQ=some z):cQ Tryz.prog 145 [.box 0 0,ci lD] [[.box 1 0,ci eD],AV.cs (eV jQ)] (.agg (AV.cs (fA z.1))) [[.box 1 0,ci z.2.1],AV.cs (eV z.2.2)]:=by
 obtain ⟨n,hn⟩:=rV h
 exact (aD5 n).2 hn
noncomputable def qO (cV:aX):Option (aQ × aX) :=
 (((gH cV).bind fun x4=>cond (decide (x4=1)) (some (Fl.done ((aQ.mk 0 0 ([]:List UInt8) ([]:(List aQ)) ([]:(List (List UInt8)))),cV))) (some (Fl.go ()))):Option (Fl (aQ × aX) Unit)).bind fun x1=>Fl.next x1 (fun j3=>((nT 1 0 cV).bind fun x10=>(gH x10.2.2).bind fun x12=>cond (!decide (x12=0)) (some ((aQ.mk 0 0 ([]:List UInt8) ([]:(List aQ)) ([]:(List (List UInt8)))),x10.2.2)) (some (x10.1,x10.2.2))))
theorem aA1 {cV:aX}{z:(aQ × aX)} (h:qO cV=some z):cQ Tryz.prog 72 [.box 0 0] [AV.cs (eV cV)] (.agg (AV.cs (fA z.1))) [AV.cs (eV z.2)]:=by
 unfold qO at h
 refine dF (fn:=Tryz.f72) [0,2,3,4,11,20] (by kernel_rfl) Tryz.func72 r (by kernel_rfl) (by kernel_rfl)<|aH<|hO (n:=1) (cs:=cB) (σ':=[dG,cB]) aD2 r r r<|aG (fr':=[(0,aE),(2,aU)]) r r<|bx h fun x1 y1 h2=>hH (fun j3=>x1=Fl.go j3) (fun (j3:Unit)=>([(0,aE),(2,aU)]:Fr)) (fun (j3:Unit)=>([[.c (PV.ls 1 iT cV.b_),ci cV.at_,ci cV.err_,.c (.bool cV.made_)],[ci 0,ci 0,.c (.str ([]:List UInt8)),AV.nil,AV.nil]]:St)) ?_ ?_
 ·
  refine aH<|mV (v:=aE) r<|aR r (aJb aTI r r)<|mB r<|oE r r r<|mV (v:=aE) r<|oE r r r<|bx y1 fun x4 y4 h5=>cP (v:=aI) (σ':=[dG,cB]) [0] r (iB y4) r r ⟨lr,trivial⟩ (eG nO aD) r r r<|oE r r r<|aR r (bU r r)<|aR r (wL r r r)<|aG (fr':=[(0,aE),(2,aU),(11,aB)]) r r<|cG h5 r (fun b6 h6=>?_) (fun b6 h6=>?_)
  ·
   refine aH<|aR r (fV (cs:=cB) aFl r)<|bM (v:=.agg cB) (us:=cB) (cs:=cB) (σ':=[dG,cB]) r iO r r r r r r r r<|aG (fr':=[(2,aU)]) r r<|bK<|aP ?_
   have h7:=fL h6 h2
   obtain rfl:=sy h7
   exact bJ (rs':=[.cell 2 26]) r<|dY (us:=cB) (cs:=cB) iO r r r r<|bI<|aN [] r r r (bQ r ⟨r,r,r,⟨_,r⟩,⟨_,r⟩,trivial⟩) (eG nO aD)
  ·
   exact bF<|iQ _ (sy h6) (bC [] 2 r r r r jN (bR r (bR r aD)))
 ·
  intro j3 hj9
  have h9:=lV hj9 h2
  refine aH<|mV (v:=aE) r<|aR r (fV (cs:=[aE,aI]) aUp r)<|jK (v:=.agg [aE,aI]) (n:=2) (cs:=[aE,aI]) (σ':=[dG,cB,[aE,aI]]) r r r r r<|sV (v:=cK) r<|aG (fr':=[(0,aE),(2,aU),(3,cK)]) r r<|aH<|mV (v:=cK) r<|bx h9 fun x10 y10 h11=>cP (v:=.agg cE) (σ':=[dG,cB,[aE,aI]]) [2,0] r (aEv y10) r r jN (qI jN (eG nO aD)) r r r<|hO (n:=3) (cs:=cB) (σ':=[dG,cB,[aE,aI],cB]) aD2 r r r<|bM (v:=.agg cE) (us:=cE) (cs:=cB) (σ':=[dG,cB,[aE,aI],cE]) r iO r r r r r r r r<|aG (fr':=[(0,aE),(2,aU),(4,jO)]) r r<|aZ<|aH<|mV (v:=aE) r<|bx h11 fun x12 y12 h13=>cP (v:=aI) (σ':=[dG,cB,[aE,aI],cE]) [0] r (iB y12) r r ⟨lr,trivial⟩ (eG nO aD) r r r<|aR r (iS r r)<|aG (fr':=[(2,aU),(4,jO),(20,aB)]) r r<|cG h13 r (fun b14 h14=>?_) (fun b14 h14=>?_)
  ·
   refine aH<|aR r (fV (cs:=cB) aFl r)<|bM (v:=.agg cB) (us:=cB) (cs:=cB) (σ':=[dG,cB,[aE,aI],cE]) r iO r r r r r r r r<|aG (fr':=[(2,aU)]) r r<|bK<|aP ?_
   obtain rfl:=sy h14
   exact bJ (rs':=[.cell 2 26]) r<|dY (us:=cB) (cs:=cB) iO r r r r<|bI<|aN [] r r r (bQ r ⟨r,r,r,⟨_,r⟩,⟨_,r⟩,trivial⟩) (eG nO aD)
  ·
   refine bF<|cZ<|aH<|aR r (dL (us:=cE) iO r r r r)<|bM (v:=.agg cE) (us:=cE) (cs:=cB) (σ':=[dG,cE,[aE,aI],cE]) r iO r r r r r r r r<|aG (fr':=[(2,aU)]) r r<|bK ?_
   obtain rfl:=sy h14
   exact bJ (rs':=[.cell 2 26]) r<|dY (us:=cE) (cs:=cE) iO r r r r<|bI<|aN [] r r r (bQ r kR5) (eG nO aD)
noncomputable def vR (lQ:(List UInt8)) (eD:Int) (aIw:Int) (aIx:Int) (aIy:Int) (aIz:Int) (aIA:Int) (aIB:Int) (aIC:Int):Option Unit :=
 some ()
theorem aEZ {lQ:(List UInt8)}{eD:Int}{aIw:Int}{aIx:Int}{aIy:Int}{aIz:Int}{aIA:Int}{aIB:Int}{aIC:Int}{z:Unit} (h:vR lQ eD aIw aIx aIy aIz aIA aIB aIC=some z):cQ Tryz.prog 146 [.box 0 0] [[.c (.str lQ),ci eD,ci aIw,ci aIx,ci aIy,ci aIz,ci aIA,ci aIB,ci aIC,AV.nil]] (.ptrs [(0,1),(0,2),(0,3),(0,4),(0,5),(0,6),(0,7),(0,8)]) [[.c (.str lQ),ci eD,ci aIw,ci aIx,ci aIy,ci aIz,ci aIA,ci aIB,ci aIC,AV.nil]]:=by
 unfold vR at h
 refine dF (fn:=Tryz.f146) [0,2] (by kernel_rfl) Tryz.func146 r (by kernel_rfl) (by kernel_rfl)<|aH<|sV (v:=AV.nil) r<|aG (fr':=[(0,aE)]) r r<|aZ<|kV [.q 0,.q 1,.q 2,.q 3,.q 4,.q 5,.q 6,.q 7,.q 8,.q 9,.q 10,.q 11,.q 12,.q 13,.q 14,.q 15,.q 16,.q 17,.q 18,.q 19,.q 20,.q 21,.q 22,.q 23,.n 24 [],.n 25 []] [(some 3,[0]),(some 4,[3]),(some 5,[4]),(some 6,[0]),(some 7,[6]),(some 8,[7]),(some 9,[0]),(some 10,[9]),(some 11,[10]),(some 12,[0]),(some 13,[12]),(some 14,[13]),(some 15,[0]),(some 16,[15]),(some 17,[16]),(some 18,[0]),(some 19,[18]),(some 20,[19]),(some 21,[0]),(some 22,[21]),(some 23,[22]),(some 24,[0]),(some 25,[24]),(some 26,[25]),(some 27,[5,8,11,14,17,20,23,26]),(some 2,[27])] [0,1,3,0,8,24,0,64,192,0,512,1536,0,4096,12288,0,32768,98304,0,262144,786432,0,2097152,6291456,16777215,33554431] (by kernel_rfl)<|dq r r (bN (v:=aE) r)<|dq r r (jM r)<|dq r r (bD aFR r)<|dq r r (bN (v:=aE) r)<|dq r r (jM r)<|dq r r (bD aFS r)<|dq r r (bN (v:=aE) r)<|dq r r (jM r)<|dq r r (bD aFT r)<|dq r r (bN (v:=aE) r)<|dq r r (jM r)<|dq r r (bD aFU r)<|dq r r (bN (v:=aE) r)<|dq r r (jM r)<|dq r r (bD aFV r)<|dq r r (bN (v:=aE) r)<|dq r r (jM r)<|dq r r (bD aFW r)<|dq r r (bN (v:=aE) r)<|dq r r (jM r)<|dq r r (bD aFX r)<|dq r r (bN (v:=aE) r)<|dq r r (jM r)<|dq r r (bD aFY r)<|d_n r ?_ r
 refine aN1 (l:=[(0,1),(0,2),(0,3),(0,4),(0,5),(0,6),(0,7),(0,8)]) uW r r r r<|uK<|⟨lJ,?_⟩
 refine d_n r ?_ r
 refine sV (v:=.ptrs [(0,1),(0,2),(0,3),(0,4),(0,5),(0,6),(0,7),(0,8)]) r<|uK<|⟨lJ,?_⟩
 refine aAq (fr':=[(2,.ptrs [(0,1),(0,2),(0,3),(0,4),(0,5),(0,6),(0,7),(0,8)])]) r r<|bK ?_
 obtain rfl:=sy h
 exact bJ (rs':=[.tmp 2]) r<|bS (v:=.ptrs [(0,1),(0,2),(0,3),(0,4),(0,5),(0,6),(0,7),(0,8)]) r<|bI<|aOH [] r r r lr (bR r aD)
noncomputable def jF (cV:aX):Option (Int × aX) :=
 (fF (-9223372036854775808) 9223372036854775807 cV).bind fun x1=>some (x1.1,x1.2)
theorem kG {cV:aX}{z:(Int × aX)} (h:jF cV=some z):cQ Tryz.prog 147 [.box 0 0] [AV.cs (eV cV)] (ci z.1) [AV.cs (eV z.2)]:=by
 unfold jF at h
 refine dF (fn:=Tryz.f147) [0,2] (by kernel_rfl) Tryz.func147 r (by kernel_rfl) (by kernel_rfl)<|aH<|sI r<|aG (fr':=[(0,aE)]) r r<|aH<|mV (v:=aE) r<|bx h fun x1 y1 h2=>cP (v:=aI) (σ':=[dG]) [0] r (jR y1) r r kA (eG nO aD) r r r<|sI r<|aG (fr':=[(2,aI)]) r r<|bK ?_
 obtain rfl:=sy h2
 exact bJ (rs':=[.tmp 2]) r<|bS (v:=aI) r<|bI<|aN [] r r r lr (eG nO aD)
noncomputable def rJ (x22:(Int × aX)) (s38:(Int × aX × (List (List UInt8)))):Option (dU (Int × aX × (List (List UInt8))) (aX × (List (List UInt8)))) :=
 ((cond (decide (s38.1<x22.1)) ((gH s38.2.1).bind fun x43=>cond (decide (x43=0)) (some (Fl.go ())) (some (Fl.done (dU.out (s38.2.1,s38.2.2))))) (some (Fl.done (dU.out (s38.2.1,s38.2.2))))):Option (Fl (dU (Int × aX × (List (List UInt8))) (aX × (List (List UInt8)))) Unit)).bind fun x39=>Fl.next x39 (fun j41=>((iF 4096 s38.2.1).bind fun x51=>(app 16 s38.2.2 ([x51.1]:List (List UInt8))).bind fun x53=>some (dU.next ((IntKind.wrap .i64 (s38.1+1)),x51.2,x53))))
noncomputable def oR (cV:aX):Option (dS × aX) :=
 (iF 4096 cV).bind fun x1=>(vR x1.1 0 0 0 0 0 0 0 0).bind fun x3=>(jF x1.2).bind fun x6=>(jF x6.2).bind fun x8=>(jF x8.2).bind fun x10=>(jF x10.2).bind fun x12=>(jF x12.2).bind fun x14=>(jF x14.2).bind fun x16=>(jF x16.2).bind fun x18=>(jF x18.2).bind fun x20=>(jF x20.2).bind fun x22=>(((gH x22.2).bind fun x27=>(gd ((decide (x27=0))==true) (nQ x22.1 0 64)).bind fun x29=>cond (cond (decide (x27=0)) (!x29) false) ((jS 3 x22.2).bind fun x32=>some x32) (some x22.2)):Option aX).bind fun x24=>((fK (rJ x22) ((0,x24,([]:(List (List UInt8)))))).bind fun x35=>((((gH x35.1).bind fun x59=>(gd ((decide (x59=0))==true) (pN (dS.mk x1.1 x6.1 x8.1 x10.1 x12.1 x14.1 x16.1 x18.1 x20.1 x35.2))).bind fun x61=>cond (cond (decide (x59=0)) (!x61) false) ((jS 3 x35.1).bind fun x64=>some x64) (some x35.1)):Option aX).bind fun x56=>((gH x56).bind fun x67=>cond (!decide (x67=0)) (some ((dS.mk ([]:List UInt8) 0 0 0 0 0 0 0 0 ([]:(List (List UInt8)))),x56)) (some ((dS.mk x1.1 x6.1 x8.1 x10.1 x12.1 x14.1 x16.1 x18.1 x20.1 x35.2),x56)))))
theorem aAY {cV:aX}{z:(dS × aX)} (h:oR cV=some z):cQ Tryz.prog 73 [.box 0 0] [AV.cs (eV cV)] (.agg (AV.cs (pH z.1))) [AV.cs (eV z.2)]:=by
 unfold oR at h
 refine dF (fn:=Tryz.f73) [0,2,3,5,6,7,11,12,13,14,31,41,58,63] (by kernel_rfl) Tryz.func73 r (by kernel_rfl) (by kernel_rfl)<|aH<|hO (n:=1) (cs:=bG) (σ':=[dG,bG]) aRC r r r<|aG (fr':=[(0,aE),(2,aU)]) r r<|aH<|hO (n:=2) (cs:=bG) (σ':=[dG,bG,bG]) aRC r r r<|aG (fr':=[(0,aE),(2,aU),(3,cK)]) r r<|aH<|mV (v:=aE) r<|bx h fun x1 y1 h2=>cP (v:=aS) (σ':=[dG,bG,bG]) [0] r (mG y1) r r jN (eG nO aD) r r r<|aR r (bD aDb r)<|bM (v:=aS) (us:=[aS]) (cs:=bG) (σ':=[dG,bG,bG]) r lP r r r r r r r r<|aG (fr':=[(0,aE),(2,aU),(3,cK)]) r r<|aZ<|aZ<|bB<|bx h2 fun x3 y3 h4=>aCX (v:=.ptrs [(2,1),(2,2),(2,3),(2,4),(2,5),(2,6),(2,7),(2,8)]) (σ':=[dG,bG,bG]) 11 [2] [] r (aEZ y3) r r r ⟨lr,trivial⟩ (qI aUR aD) r r r<|aR r (aLi aSF r)<|mI r<|aG (fr':=[(0,aE),(2,aU),(3,cK),(11,.ptrs [(2,1),(2,2),(2,3),(2,4),(2,5),(2,6),(2,7),(2,8)]),(12,aI),(13,aI)]) r r<|cH<|aO5 64<|xQ<|aH<|aR r (zF (gI r r) (show _=.bool true from r))<|aG (fr':=[(0,aE),(2,aU),(3,cK),(11,.ptrs [(2,1),(2,2),(2,3),(2,4),(2,5),(2,6),(2,7),(2,8)]),(12,aI),(13,aI),(14,aB)]) r r<|aZ<|kP r<|bF<|cZ<|aZ<|cH<|aH<|aR r (pE (p:=(2,1)) uW r r r)<|aR r (kI vY r)<|sV (v:=aFq) r<|aG (fr':=[(0,aE),(2,aU),(3,cK),(5,aFq),(11,.ptrs [(2,1),(2,2),(2,3),(2,4),(2,5),(2,6),(2,7),(2,8)]),(12,aI),(13,aI)]) r r<|bB<|mV (v:=aFq) r<|mV (v:=aE) r<|bx h4 fun x6 y6 h7=>cP (v:=aI) (σ':=[dG,bG,bG]) [0] r (kG y6) r r ⟨lr,trivial⟩ (eG nO aD) r r r<|aR r (jM r)<|bM (v:=aI) (us:=[aI]) (cs:=bG) (σ':=[dG,bG,bG]) r fM r r r r r r r r<|dM (fr':=[(0,aE),(2,aU),(3,cK),(5,aFq),(11,.ptrs [(2,1),(2,2),(2,3),(2,4),(2,5),(2,6),(2,7),(2,8)]),(12,aI),(13,aI)]) r<|cW<|cZ<|bB<|aR r (zF (gC r r) (show _=.int .i64 (1:Int) from r))<|mI r<|dM (fr':=[(0,aE),(2,aU),(3,cK),(5,aFq),(11,.ptrs [(2,1),(2,2),(2,3),(2,4),(2,5),(2,6),(2,7),(2,8)]),(12,aI),(13,aI)]) r<|mA<|xQ<|aZ<|bB<|aR r (zF (gI r r) (show _=.bool true from r))<|aG (fr':=[(0,aE),(2,aU),(3,cK),(11,.ptrs [(2,1),(2,2),(2,3),(2,4),(2,5),(2,6),(2,7),(2,8)]),(12,aI),(13,aI),(14,aB)]) r r<|aZ<|kP r<|bF<|cZ<|aZ<|cH<|aH<|aR r (pE (p:=(2,2)) uW r r r)<|aR r (kI vY r)<|sV (v:=aFr) r<|aG (fr':=[(0,aE),(2,aU),(3,cK),(5,aFr),(11,.ptrs [(2,1),(2,2),(2,3),(2,4),(2,5),(2,6),(2,7),(2,8)]),(12,aI),(13,aI)]) r r<|bB<|mV (v:=aFr) r<|mV (v:=aE) r<|bx h7 fun x8 y8 h9=>cP (v:=aI) (σ':=[dG,bG,bG]) [0] r (kG y8) r r ⟨lr,trivial⟩ (eG nO aD) r r r<|aR r (jM r)<|bM (v:=aI) (us:=[aI]) (cs:=bG) (σ':=[dG,bG,bG]) r fM r r r r r r r r<|dM (fr':=[(0,aE),(2,aU),(3,cK),(5,aFr),(11,.ptrs [(2,1),(2,2),(2,3),(2,4),(2,5),(2,6),(2,7),(2,8)]),(12,aI),(13,aI)]) r<|cW<|cZ<|bB<|aR r (zF (gC r r) (show _=.int .i64 (2:Int) from r))<|mI r<|dM (fr':=[(0,aE),(2,aU),(3,cK),(5,aFr),(11,.ptrs [(2,1),(2,2),(2,3),(2,4),(2,5),(2,6),(2,7),(2,8)]),(12,aI),(13,aI)]) r<|mA<|xQ<|aZ<|bB<|aR r (zF (gI r r) (show _=.bool true from r))<|aG (fr':=[(0,aE),(2,aU),(3,cK),(11,.ptrs [(2,1),(2,2),(2,3),(2,4),(2,5),(2,6),(2,7),(2,8)]),(12,aI),(13,aI),(14,aB)]) r r<|aZ<|kP r<|bF<|cZ<|aZ<|cH<|aH<|aR r (pE (p:=(2,3)) uW r r r)<|aR r (kI vY r)<|sV (v:=aEd) r<|aG (fr':=[(0,aE),(2,aU),(3,cK),(5,aEd),(11,.ptrs [(2,1),(2,2),(2,3),(2,4),(2,5),(2,6),(2,7),(2,8)]),(12,aI),(13,aI)]) r r<|bB<|mV (v:=aEd) r<|mV (v:=aE) r<|bx h9 fun x10 y10 h11=>cP (v:=aI) (σ':=[dG,bG,bG]) [0] r (kG y10) r r ⟨lr,trivial⟩ (eG nO aD) r r r<|aR r (jM r)<|bM (v:=aI) (us:=[aI]) (cs:=bG) (σ':=[dG,bG,bG]) r fM r r r r r r r r<|dM (fr':=[(0,aE),(2,aU),(3,cK),(5,aEd),(11,.ptrs [(2,1),(2,2),(2,3),(2,4),(2,5),(2,6),(2,7),(2,8)]),(12,aI),(13,aI)]) r<|cW<|cZ<|bB<|aR r (zF (gC r r) (show _=.int .i64 (3:Int) from r))<|mI r<|dM (fr':=[(0,aE),(2,aU),(3,cK),(5,aEd),(11,.ptrs [(2,1),(2,2),(2,3),(2,4),(2,5),(2,6),(2,7),(2,8)]),(12,aI),(13,aI)]) r<|mA<|xQ<|aZ<|bB<|aR r (zF (gI r r) (show _=.bool true from r))<|aG (fr':=[(0,aE),(2,aU),(3,cK),(11,.ptrs [(2,1),(2,2),(2,3),(2,4),(2,5),(2,6),(2,7),(2,8)]),(12,aI),(13,aI),(14,aB)]) r r<|aZ<|kP r<|bF<|cZ<|aZ<|cH<|aH<|aR r (pE (p:=(2,4)) uW r r r)<|aR r (kI vY r)<|sV (v:=aEe) r<|aG (fr':=[(0,aE),(2,aU),(3,cK),(5,aEe),(11,.ptrs [(2,1),(2,2),(2,3),(2,4),(2,5),(2,6),(2,7),(2,8)]),(12,aI),(13,aI)]) r r<|bB<|mV (v:=aEe) r<|mV (v:=aE) r<|bx h11 fun x12 y12 h13=>cP (v:=aI) (σ':=[dG,bG,bG]) [0] r (kG y12) r r ⟨lr,trivial⟩ (eG nO aD) r r r<|aR r (jM r)<|bM (v:=aI) (us:=[aI]) (cs:=bG) (σ':=[dG,bG,bG]) r fM r r r r r r r r<|dM (fr':=[(0,aE),(2,aU),(3,cK),(5,aEe),(11,.ptrs [(2,1),(2,2),(2,3),(2,4),(2,5),(2,6),(2,7),(2,8)]),(12,aI),(13,aI)]) r<|cW<|cZ<|bB<|aR r (zF (gC r r) (show _=.int .i64 (4:Int) from r))<|mI r<|dM (fr':=[(0,aE),(2,aU),(3,cK),(5,aEe),(11,.ptrs [(2,1),(2,2),(2,3),(2,4),(2,5),(2,6),(2,7),(2,8)]),(12,aI),(13,aI)]) r<|mA<|xQ<|aZ<|bB<|aR r (zF (gI r r) (show _=.bool true from r))<|aG (fr':=[(0,aE),(2,aU),(3,cK),(11,.ptrs [(2,1),(2,2),(2,3),(2,4),(2,5),(2,6),(2,7),(2,8)]),(12,aI),(13,aI),(14,aB)]) r r<|aZ<|kP r<|bF<|cZ<|aZ<|cH<|aH<|aR r (pE (p:=(2,5)) uW r r r)<|aR r (kI vY r)<|sV (v:=aFs) r<|aG (fr':=[(0,aE),(2,aU),(3,cK),(5,aFs),(11,.ptrs [(2,1),(2,2),(2,3),(2,4),(2,5),(2,6),(2,7),(2,8)]),(12,aI),(13,aI)]) r r<|bB<|mV (v:=aFs) r<|mV (v:=aE) r<|bx h13 fun x14 y14 h15=>cP (v:=aI) (σ':=[dG,bG,bG]) [0] r (kG y14) r r ⟨lr,trivial⟩ (eG nO aD) r r r<|aR r (jM r)<|bM (v:=aI) (us:=[aI]) (cs:=bG) (σ':=[dG,bG,bG]) r fM r r r r r r r r<|dM (fr':=[(0,aE),(2,aU),(3,cK),(5,aFs),(11,.ptrs [(2,1),(2,2),(2,3),(2,4),(2,5),(2,6),(2,7),(2,8)]),(12,aI),(13,aI)]) r<|cW<|cZ<|bB<|aR r (zF (gC r r) (show _=.int .i64 (5:Int) from r))<|mI r<|dM (fr':=[(0,aE),(2,aU),(3,cK),(5,aFs),(11,.ptrs [(2,1),(2,2),(2,3),(2,4),(2,5),(2,6),(2,7),(2,8)]),(12,aI),(13,aI)]) r<|mA<|xQ<|aZ<|bB<|aR r (zF (gI r r) (show _=.bool true from r))<|aG (fr':=[(0,aE),(2,aU),(3,cK),(11,.ptrs [(2,1),(2,2),(2,3),(2,4),(2,5),(2,6),(2,7),(2,8)]),(12,aI),(13,aI),(14,aB)]) r r<|aZ<|kP r<|bF<|cZ<|aZ<|cH<|aH<|aR r (pE (p:=(2,6)) uW r r r)<|aR r (kI vY r)<|sV (v:=aFt) r<|aG (fr':=[(0,aE),(2,aU),(3,cK),(5,aFt),(11,.ptrs [(2,1),(2,2),(2,3),(2,4),(2,5),(2,6),(2,7),(2,8)]),(12,aI),(13,aI)]) r r<|bB<|mV (v:=aFt) r<|mV (v:=aE) r<|bx h15 fun x16 y16 h17=>cP (v:=aI) (σ':=[dG,bG,bG]) [0] r (kG y16) r r ⟨lr,trivial⟩ (eG nO aD) r r r<|aR r (jM r)<|bM (v:=aI) (us:=[aI]) (cs:=bG) (σ':=[dG,bG,bG]) r fM r r r r r r r r<|dM (fr':=[(0,aE),(2,aU),(3,cK),(5,aFt),(11,.ptrs [(2,1),(2,2),(2,3),(2,4),(2,5),(2,6),(2,7),(2,8)]),(12,aI),(13,aI)]) r<|cW<|cZ<|bB<|aR r (zF (gC r r) (show _=.int .i64 (6:Int) from r))<|mI r<|dM (fr':=[(0,aE),(2,aU),(3,cK),(5,aFt),(11,.ptrs [(2,1),(2,2),(2,3),(2,4),(2,5),(2,6),(2,7),(2,8)]),(12,aI),(13,aI)]) r<|mA<|xQ<|aZ<|bB<|aR r (zF (gI r r) (show _=.bool true from r))<|aG (fr':=[(0,aE),(2,aU),(3,cK),(11,.ptrs [(2,1),(2,2),(2,3),(2,4),(2,5),(2,6),(2,7),(2,8)]),(12,aI),(13,aI),(14,aB)]) r r<|aZ<|kP r<|bF<|cZ<|aZ<|cH<|aH<|aR r (pE (p:=(2,7)) uW r r r)<|aR r (kI vY r)<|sV (v:=aMj) r<|aG (fr':=[(0,aE),(2,aU),(3,cK),(5,aMj),(11,.ptrs [(2,1),(2,2),(2,3),(2,4),(2,5),(2,6),(2,7),(2,8)]),(12,aI),(13,aI)]) r r<|bB<|mV (v:=aMj) r<|mV (v:=aE) r<|bx h17 fun x18 y18 h19=>cP (v:=aI) (σ':=[dG,bG,bG]) [0] r (kG y18) r r ⟨lr,trivial⟩ (eG nO aD) r r r<|aR r (jM r)<|bM (v:=aI) (us:=[aI]) (cs:=bG) (σ':=[dG,bG,bG]) r fM r r r r r r r r<|dM (fr':=[(0,aE),(2,aU),(3,cK),(5,aMj),(11,.ptrs [(2,1),(2,2),(2,3),(2,4),(2,5),(2,6),(2,7),(2,8)]),(12,aI),(13,aI)]) r<|cW<|cZ<|bB<|aR r (zF (gC r r) (show _=.int .i64 (7:Int) from r))<|mI r<|dM (fr':=[(0,aE),(2,aU),(3,cK),(5,aMj),(11,.ptrs [(2,1),(2,2),(2,3),(2,4),(2,5),(2,6),(2,7),(2,8)]),(12,aI),(13,aI)]) r<|mA<|xQ<|aZ<|bB<|aR r (zF (gI r r) (show _=.bool true from r))<|aG (fr':=[(0,aE),(2,aU),(3,cK),(11,.ptrs [(2,1),(2,2),(2,3),(2,4),(2,5),(2,6),(2,7),(2,8)]),(12,aI),(13,aI),(14,aB)]) r r<|aZ<|kP r<|bF<|cZ<|aZ<|cH<|aH<|aR r (pE (p:=(2,8)) uW r r r)<|aR r (kI vY r)<|sV (v:=aMk) r<|aG (fr':=[(0,aE),(2,aU),(3,cK),(5,aMk),(11,.ptrs [(2,1),(2,2),(2,3),(2,4),(2,5),(2,6),(2,7),(2,8)]),(12,aI),(13,aI)]) r r<|bB<|mV (v:=aMk) r<|mV (v:=aE) r ?_
 obtain ⟨x20,y20,h21⟩:=iW h19
 refine cP (v:=aI) (σ':=[dG,bG,bG]) [0] r (kG y20) r r ⟨lr,trivial⟩ (eG nO aD) r r r<|aR r (jM r)<|bM (v:=aI) (us:=[aI]) (cs:=bG) (σ':=[dG,bG,bG]) r fM r r r r r r r r<|dM (fr':=[(0,aE),(2,aU),(3,cK),(5,aMk),(11,.ptrs [(2,1),(2,2),(2,3),(2,4),(2,5),(2,6),(2,7),(2,8)]),(12,aI),(13,aI)]) r<|cW<|cZ<|bB<|aR r (zF (gC r r) (show _=.int .i64 (8:Int) from r))<|mI r<|dM (fr':=[(0,aE),(2,aU),(3,cK),(5,aMk),(11,.ptrs [(2,1),(2,2),(2,3),(2,4),(2,5),(2,6),(2,7),(2,8)]),(12,aI),(13,aI)]) r<|mA<|xQ<|aZ<|bB<|aR r (zF (gI r r) (show _=.bool false from r))<|aG (fr':=[(0,aE),(2,aU),(3,cK),(11,.ptrs [(2,1),(2,2),(2,3),(2,4),(2,5),(2,6),(2,7),(2,8)]),(12,aI),(13,aI),(14,aB)]) r r<|aZ<|yI r<|hG<|cY<|cY<|fP<|cZ<|aH<|mV (v:=aE) r<|bx h21 fun x22 y22 h23=>cP (v:=aI) (σ':=[dG,bG,bG]) [0] r (kG y22) r r ⟨lr,trivial⟩ (eG nO aD) r r r<|sI r<|aG (fr':=[(0,aE),(2,aU),(3,cK),(6,aI)]) r r<|bx h23 fun x24 y24 h25=>hH (fun j26=>x24=j26) (fun (j26:aX)=>([(0,aE),(2,aU),(3,cK),(6,ci x22.1)]:Fr)) (fun (j26:aX)=>([[.c (PV.ls 1 iT j26.b_),ci j26.at_,ci j26.err_,.c (.bool j26.made_)],[.c (.str ([]:List UInt8)),ci 0,ci 0,ci 0,ci 0,ci 0,ci 0,ci 0,ci 0,AV.nil],[.c (.str x1.1),ci x6.1,ci x8.1,ci x10.1,ci x12.1,ci x14.1,ci x16.1,ci x18.1,ci x20.1,AV.nil]]:St)) ?_ ?_
 ·
  refine aH<|mV (v:=aE) r<|bx y24 fun x27 y27 h28=>cP (v:=aI) (σ':=[dG,bG,bG]) [0] r (iB y27) r r ⟨lr,trivial⟩ (eG nO aD) r r r<|aR r (bU r r)<|mB r<|og r r r (fun u=>(bN (v:=aI) r))<|bx h28 fun x29 y29 h30=>sX r r (fun u=>bL (v:=aB) r (pJ (cU y29 u)) ⟨(eW (gx r u) lr),lr,lr,trivial⟩ (fT (by repeat (first | exact eN | refine aY r ?_ | refine aY (pP r) ?_ | refine aY pO ?_))) r r) ?_
  refine og r r r (fun u=>(fE (gx r u)))<|aR r (bV r r r (fun e=>fJ e))<|aG (fr':=[(0,aE),(2,aU),(3,cK),(6,aI),(31,aB)]) r r<|cG h30 r (fun b31 h31=>?_) (fun b31 h31=>?_)
  ·
   exact bB<|mV (v:=aE) r<|bx h31 fun x32 y32 h33=>cP (v:=_) (σ':=[dG,bG,bG]) [0] r (oO y32) r r jN (eG nO aD) r r r<|dM (fr':=[(0,aE),(2,aU),(3,cK),(6,aI),(31,aB)]) r<|iQ _ (sy h33) (bC [] 3 r r r r kL4 (bR r (bR r (bR r aD))))
  ·
   exact bF<|iQ _ (sy h31) (bC [] 3 r r r r kL4 (bR r (bR r (bR r aD))))
 ·
  intro j26 hj34
  subst hj34
  refine aZ<|aH<|sI r<|aG (fr':=[(0,aE),(2,aU),(3,cK),(6,aI),(7,aI)]) r r<|bx h25 fun x35 y35 h36=>gZ lB (fun j37=>x35=j37) (fun (j37:(aX × (List (List UInt8))))=>([(0,aE),(2,aU),(3,cK)]:Fr)) (fun (j37:(aX × (List (List UInt8))))=>([[.c (PV.ls 1 iT j37.1.b_),ci j37.1.at_,ci j37.1.err_,.c (.bool j37.1.made_)],[.c (.str ([]:List UInt8)),ci 0,ci 0,ci 0,ci 0,ci 0,ci 0,ci 0,ci 0,AV.nil],[.c (.str x1.1),ci x6.1,ci x8.1,ci x10.1,ci x12.1,ci x14.1,ci x16.1,ci x18.1,ci x20.1,AV.os 0 1 fI j37.2]]:St)) ?_ ?_
  ·
   refine cH<|gV _ (fun (s38:(Int × aX × (List (List UInt8))))=>([(0,aE),(2,aU),(3,cK),(6,ci x22.1),(7,ci s38.1)]:Fr)) (fun (s38:(Int × aX × (List (List UInt8))))=>([[.c (PV.ls 1 iT s38.2.1.b_),ci s38.2.1.at_,ci s38.2.1.err_,.c (.bool s38.2.1.made_)],[.c (.str ([]:List UInt8)),ci 0,ci 0,ci 0,ci 0,ci 0,ci 0,ci 0,ci 0,AV.nil],[.c (.str x1.1),ci x6.1,ci x8.1,ci x10.1,ci x12.1,ci x14.1,ci x16.1,ci x18.1,ci x20.1,AV.os 0 1 fI s38.2.2]]:St)) y35 (bC [1000000] 3 r r r r kL5 (bR r (bR r (qI ⟨lr,lr,lr,lr,lr,lr,lr,lr,lr,(aAt r),trivial⟩ aD)))) ?_
   intro s38 st38 hs38 ho38
   unfold rJ at hs38
   obtain ⟨x39,y39,h40⟩:=iW hs38
   refine hH (fun j41=>x39=Fl.go j41) (fun (j41:Unit)=>([(0,aE),(2,aU),(3,cK),(6,ci x22.1),(7,ci s38.1)]:Fr)) (fun (j41:Unit)=>([[.c (PV.ls 1 iT s38.2.1.b_),ci s38.2.1.at_,ci s38.2.1.err_,.c (.bool s38.2.1.made_)],[.c (.str ([]:List UInt8)),ci 0,ci 0,ci 0,ci 0,ci 0,ci 0,ci 0,ci 0,AV.nil],[.c (.str x1.1),ci x6.1,ci x8.1,ci x10.1,ci x12.1,ci x14.1,ci x16.1,ci x18.1,ci x20.1,AV.os 0 1 fI s38.2.2]]:St)) ?_ ?_
   ·
    refine aH<|mI r<|mI r<|aR r (gI r r)<|mB r<|aN7 y39 (fun b42 h42=>?_) (fun b42 h42=>?_)
    ·
     refine oE r r b42<|mV (v:=aE) r<|oE r r b42<|bx h42 fun x43 y43 h44=>cP (v:=aI) (σ':=[dG,bG,[aS,aI,aI,aI,aI,aI,aI,aI,aI,aO]]) [0] r (iB y43) r r ⟨lr,trivial⟩ (eG nO aD) r r r<|oE r r b42<|aR r (bU r r)<|aR r (aCw r b42 r)<|aG (fr':=[(0,aE),(2,aU),(3,cK),(6,aI),(7,aI),(41,aB)]) r r<|cG h44 r (fun b45 h45=>?_) (fun b45 h45=>?_)
     ·
      exact bF<|iQ _ (sy h45) (bC [0] 3 r r r r kL5 (bR r (bR r (bR r aD))))
     ·
      refine hG<|cY<|cY<|fP ?_
      have h46:=fL h45 h40
      have h47:=eR h46 ho38
      exact iQ _ (sy h47) (bC [0] 3 r r r r kA (bR r (bR r (bR r aD))))
    ·
     refine aDn r r b42<|aDn r r b42<|aDn r r b42<|aR r (wL r b42 r)<|aG (fr':=[(0,aE),(2,aU),(3,cK),(6,aI),(7,aI),(41,aB)]) r r<|yI r<|hG<|cY<|cY<|fP ?_
     have h48:=fL h42 h40
     have h49:=eR h48 ho38
     exact iQ _ (sy h49) (bC [0] 3 r r r r kA (bR r (bR r (bR r aD))))
   ·
    intro j41 hj50
    have h50:=lV hj50 h40
    refine aZ<|cH<|kV [.q 0,.q 1,.q 2,.n 3 [0,1],.n 4 [0,1],.n 5 [],.q 6,.n 7 []] [(some 44,[3]),(some 45,[44]),(some 46,[0]),(some 47,[46]),(some 48,[47]),(some 49,[45,48]),(some 50,[3]),(none,[50,49])] [0,1,0,4,12,31,63,127] (by kernel_rfl)<|dq r r (bD tN r)<|dq r r (aK (v:=aO) rC r r r)<|dq r r (bN (v:=aE) r)<|d_n r ?_ r
    obtain ⟨x51,y51,h52⟩:=iW h50
    refine cP (v:=aS) (σ':=[dG,bG,[aS,aI,aI,aI,aI,aI,aI,aI,aI,aO]]) [0] r (mG y51) r r jN (eG nO aD) r r r<|uK<|⟨(pR (v:=aKw) r r (kU r (bD tN r)) (pR (v:=aO) r r (kU r (aK (v:=aO) rC r r r)) lJ)),?_⟩
    refine d_n r ?_ r
    refine uL (row:=fI) (xs:=([x51.1]:List (List UInt8))) (rows:=[[_]]) (σ':=[dG,bG,[aS,aI,aI,aI,aI,aI,aI,aI,aI,aO]]) [0] aAR r r r (gB r oB) r r<|uK<|⟨(pR (v:=aKw) r r (kU r (bD tN r)) (pR (v:=aO) r r (kU r (aK (v:=aO) rC r r r)) lJ)),?_⟩
    refine d_n r ?_ r
    obtain ⟨x53,y53,h54⟩:=iW h52
    refine aCt (row:=fI) aAR r zD r (oC r) (fun _=>r) y53<|uK<|⟨lJ,?_⟩
    refine dq r r (bD tN r)<|d_n r ?_ r
    refine bM (v:=aO) (us:=[aO]) (cs:=dO) (σ':=[dG,bG,[aS,aI,aI,aI,aI,aI,aI,aI,aI,aO]]) r rC r r r r r r r r<|uK<|⟨lJ,?_⟩
    exact aKy (fr':=[(0,aE),(2,aU),(3,cK),(6,aI),(7,aI)]) r<|cW<|cZ<|bB<|mI r<|aR r (gC r r)<|sI r<|dM (fr':=[(0,aE),(2,aU),(3,cK),(6,aI),(7,aI)]) r<|zO _ (sy h54) (bC [784] 3 r r r r kL5 (bR r (bR r (bR r aD))))
  ·
   intro j37 hj55
   subst hj55
   refine cZ<|bx h36 fun x56 y56 h57=>hH (fun j58=>x56=j58) (fun (j58:aX)=>([(0,aE),(2,aU),(3,cK)]:Fr)) (fun (j58:aX)=>([[.c (PV.ls 1 iT j58.b_),ci j58.at_,ci j58.err_,.c (.bool j58.made_)],[.c (.str ([]:List UInt8)),ci 0,ci 0,ci 0,ci 0,ci 0,ci 0,ci 0,ci 0,AV.nil],[.c (.str x1.1),ci x6.1,ci x8.1,ci x10.1,ci x12.1,ci x14.1,ci x16.1,ci x18.1,ci x20.1,AV.os 0 1 fI x35.2]]:St)) ?_ ?_
   ·
    refine aH<|mV (v:=aE) r<|bx y56 fun x59 y59 h60=>cP (v:=aI) (σ':=[dG,bG,[aS,aI,aI,aI,aI,aI,aI,aI,aI,aO]]) [0] r (iB y59) r r ⟨lr,trivial⟩ (eG nO aD) r r r<|aR r (bU r r)<|mB r<|og r r r (fun u=>(dL (us:=[aS,aI,aI,aI,aI,aI,aI,aI,aI,aO]) yT r r r r))<|bx h60 fun x61 y61 h62=>sX r r (fun u=>bL (v:=aB) r (aA3 (cU y61 u)) ⟨(eW (gx r u) (bQ r aBA)),trivial⟩ (fT (by repeat (first | exact eN | refine aY r ?_ | refine aY (pP r) ?_ | refine aY pO ?_))) r r) ?_
    refine og r r r (fun u=>(fE (gx r u)))<|aR r (bV r r r (fun e=>fJ e))<|aG (fr':=[(0,aE),(2,aU),(3,cK),(58,aB)]) r r<|cG h62 r (fun b63 h63=>?_) (fun b63 h63=>?_)
    ·
     exact bB<|mV (v:=aE) r<|bx h63 fun x64 y64 h65=>cP (v:=_) (σ':=[dG,bG,[aS,aI,aI,aI,aI,aI,aI,aI,aI,aO]]) [0] r (oO y64) r r jN (eG nO aD) r r r<|dM (fr':=[(0,aE),(2,aU),(3,cK),(58,aB)]) r<|iQ _ (sy h65) (bC [0] 3 r r r r kA (bR r (bR r (bR r aD))))
    ·
     exact bF<|iQ _ (sy h63) (bC [0] 3 r r r r kA (bR r (bR r (bR r aD))))
   ·
    intro j58 hj66
    subst hj66
    refine aZ<|aH<|mV (v:=aE) r<|bx h57 fun x67 y67 h68=>cP (v:=aI) (σ':=[dG,bG,[aS,aI,aI,aI,aI,aI,aI,aI,aI,aO]]) [0] r (iB y67) r r ⟨lr,trivial⟩ (eG nO aD) r r r<|aR r (iS r r)<|aG (fr':=[(2,aU),(3,cK),(63,aB)]) r r<|cG h68 r (fun b69 h69=>?_) (fun b69 h69=>?_)
    ·
     refine aH<|aR r (iD (c0:=bG) (cs:=bG) aM6 r iC)<|bM (v:=.agg bG) (us:=bG) (cs:=bG) (σ':=[dG,bG,[aS,aI,aI,aI,aI,aI,aI,aI,aI,aO]]) r yT r r r r r r r r<|aG (fr':=[(2,aU)]) r r<|bK<|aP ?_
     obtain rfl:=sy h69
     exact bJ (rs':=[.cell 2 28]) r<|dY (us:=bG) (cs:=bG) yT r r r r<|bI<|aN [] r r r (bQ r ⟨r,r,r,r,r,r,r,r,r,⟨_,r⟩,trivial⟩) (eG nO aD)
    ·
     refine bF<|cZ<|aH<|aR r (dL (us:=[aS,aI,aI,aI,aI,aI,aI,aI,aI,aO]) yT r r r r)<|bM (v:=.agg [aS,aI,aI,aI,aI,aI,aI,aI,aI,aO]) (us:=[aS,aI,aI,aI,aI,aI,aI,aI,aI,aO]) (cs:=bG) (σ':=[dG,[aS,aI,aI,aI,aI,aI,aI,aI,aI,aO],[aS,aI,aI,aI,aI,aI,aI,aI,aI,aO]]) r yT r r r r r r r r<|aG (fr':=[(2,aU)]) r r<|bK ?_
     obtain rfl:=sy h69
     exact bJ (rs':=[.cell 2 28]) r<|dY (us:=[aS,aI,aI,aI,aI,aI,aI,aI,aI,aO]) (cs:=[aS,aI,aI,aI,aI,aI,aI,aI,aI,aO]) yT r r r r<|bI<|aN [] r r r (bQ r aBA) (eG nO aD)
