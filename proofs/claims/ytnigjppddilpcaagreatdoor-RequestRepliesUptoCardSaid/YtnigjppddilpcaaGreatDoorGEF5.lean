import Derived.Test.YtnigjppddilpcaaGreatDoorGETy
import Derived.Test.YtnigjppddilpcaaGreatDoorGEF0
import Derived.Test.YtnigjppddilpcaaGreatDoorGEF1
import Derived.Test.YtnigjppddilpcaaGreatDoorGEF4
namespace Go.Proofs.YtnigjppddilpcaaGreatDoor
open Go Abs
set_option maxRecDepth 100000
set_option linter.unusedVariables false
set_option linter.unusedSimpArgs false
noncomputable def iW (qS:Int→Int→aX→Option (aK × Int × aX)) (x1:(Int × aX)) (aCf:Int) (yK:Int) (s10:(Int × Int × aX × (List aK) × (List (List UInt8)))):Option (dU (Int × Int × aX × (List aK) × (List (List UInt8))) (Fl (aK × Int × aX) (Int × aX × (List aK) × (List (List UInt8))))) :=
 cond (decide (s10.1<x1.1)) (((cond (decide (aCf=5)) ((jM 9223372036854775807 s10.2.2.1).bind fun x16=>(gd (((decide (((x16.1).length:Int)≤4096))==true)&&((decide (s10.1=0))==false)) (mP s10.2.2.2.2 (IntKind.wrap .i64 (s10.1 - 1)))).bind fun x18=>(lW (cond (decide (((x16.1).length:Int)≤4096)) (cond (decide (s10.1=0)) true (!(Op.bytesLess x16.1 x18||decide (x16.1=x18)))) false) s10.2.1 x16.2).bind fun x20=>cond (!x20.1) (some (Fl.done (dU.out (Fl.done ((aK.mk 0 0 ([]:List UInt8) ([]:(List aK)) ([]:(List (List UInt8)))),s10.2.1,x20.2))))) ((app 16 s10.2.2.2.2 ([x16.1]:List (List UInt8))).bind fun x27=>some (Fl.go (x20.2,x27)))) (some (Fl.go (s10.2.2.1,s10.2.2.2.2)))):Option (Fl (dU (Int × Int × aX × (List aK) × (List (List UInt8))) (Fl (aK × Int × aX) (Int × aX × (List aK) × (List (List UInt8))))) (aX × (List (List UInt8))))).bind fun x12=>Fl.next x12 (fun j14=>((qS (IntKind.wrap .i64 (yK+1)) s10.2.1 j14.1).bind fun x30=>(gN x30.2.2).bind fun x32=>cond (!decide (x32=0)) (some (dU.out (Fl.done ((aK.mk 0 0 ([]:List UInt8) ([]:(List aK)) ([]:(List (List UInt8)))),x30.2.1,x30.2.2)))) ((app 80 s10.2.2.2.1 ([x30.1]:List aK)).bind fun x38=>some (dU.next ((IntKind.wrap .i64 (s10.1+1)),x30.2.1,x30.2.2,x38,j14.2)))))) (some (dU.out (Fl.go (s10.2.1,s10.2.2.1,s10.2.2.2.1,s10.2.2.2.2))))
mutual
noncomputable def kA:Nat→Int→Int→(List UInt8)→Int→Int→aX→Option (aK × Int × aX)
 | 0,_,_,_,_,_,_=>none
 | n+1,aCf,aGL,aGM,yK,jA,tI =>
  (fN (-9223372036854775808) 9223372036854775807 tI).bind fun x1=>(lW (cond (decide (0≤x1.1)) (decide (x1.1≤1000)) false) jA x1.2).bind fun x3=>cond (!x3.1) (some ((aK.mk 0 0 ([]:List UInt8) ([]:(List aK)) ([]:(List (List UInt8)))),jA,x3.2)) ((gL (iW (gS n) x1 aCf yK) ((0,jA,x3.2,([]:(List aK)),([]:(List (List UInt8)))))).bind fun x7=>Fl.next x7 (fun j9=>(some ((aK.mk aCf aGL aGM j9.2.2.1 j9.2.2.2),j9.1,j9.2.1))))
noncomputable def gS:Nat→Int→Int→aX→Option (aK × Int × aX)
 | 0,_,_,_=>none
 | n+1,tJ,jA,tI =>
  (lW (cond (decide (jA<1000)) (decide (tJ≤16)) false) jA tI).bind fun x1=>cond (!x1.1) (some ((aK.mk 0 0 ([]:List UInt8) ([]:(List aK)) ([]:(List (List UInt8)))),jA,x1.2)) ((fN (-9223372036854775808) 9223372036854775807 x1.2).bind fun x5=>(lW (cond (decide (0≤x5.1)) (decide (x5.1≤5)) false) (IntKind.wrap .i64 (jA+1)) x5.2).bind fun x7=>cond (!x7.1) (some ((aK.mk 0 0 ([]:List UInt8) ([]:(List aK)) ([]:(List (List UInt8)))),(IntKind.wrap .i64 (jA+1)),x7.2)) (((cond (decide (x5.1=1)) ((fN (-9223372036854775808) 9223372036854775807 x7.2).bind fun x15=>(lW (cond (decide (x15.1=0)) true (decide (x15.1=1))) (IntKind.wrap .i64 (jA+1)) x15.2).bind fun x17=>some (Fl.go (x17.2,x15.1,([]:List UInt8)))) (cond (decide (x5.1=2)) ((fN (-9223372036854775808) 9223372036854775807 x7.2).bind fun x20=>some (Fl.go (x20.2,x20.1,([]:List UInt8)))) (cond (decide (x5.1=3)) ((jM 9223372036854775807 x7.2).bind fun x23=>(lW (decide (((x23.1).length:Int)≤4096)) (IntKind.wrap .i64 (jA+1)) x23.2).bind fun x25=>some (Fl.go (x25.2,0,x23.1))) (((cond (decide (x5.1=4)) (some (decide (x5.1=4))) (some (decide (x5.1=5)))):Option Bool).bind fun x27=>(cond x27 (((kA n) x5.1 0 ([]:List UInt8) tJ (IntKind.wrap .i64 (jA+1)) x7.2).bind fun x33=>some (Fl.done (x33.1,x33.2.1,x33.2.2))) (some (Fl.go (x7.2,0,([]:List UInt8))))))))):Option (Fl (aK × Int × aX) (aX × Int × (List UInt8)))).bind fun x11=>Fl.next x11 (fun j13=>(some ((aK.mk x5.1 j13.2.1 j13.2.2 ([]:(List aK)) ([]:(List (List UInt8)))),(IntKind.wrap .i64 (jA+1)),j13.1)))))
end
theorem aDU:∀ n:Nat,(∀ {aCf:Int}{aGL:Int}{aGM:(List UInt8)}{yK:Int}{jA:Int}{tI:aX}{z:(aK × Int × aX)},kA n aCf aGL aGM yK jA tI=some z→cR Tryz.prog 184 [.box 0 0,.agg [ci aCf,ci aGL,.c (.str aGM),AV.nil,AV.nil],ci yK] [[.box 1 0,ci jA],AV.cs (eS tI)] (.agg (AV.cs (fA z.1))) [[.box 1 0,ci z.2.1],AV.cs (eS z.2.2)])∧(∀ {tJ:Int}{jA:Int}{tI:aX}{z:(aK × Int × aX)},gS n tJ jA tI=some z→cR Tryz.prog 145 [.box 0 0,ci tJ] [[.box 1 0,ci jA],AV.cs (eS tI)] (.agg (AV.cs (fA z.1))) [[.box 1 0,ci z.2.1],AV.cs (eS z.2.2)]):=by
 intro n
 induction n with
 | zero=>exact ⟨fun {aCf aGL aGM yK jA tI z} h=>absurd h (by simp [kA]),fun {tJ jA tI z} h=>absurd h (by simp [gS])⟩
 | succ n ih =>
  obtain ⟨ih_value_decoder_items,ih_value_decoder_value⟩:=ih
  refine ⟨?_,?_⟩
  ·
   intro aCf aGL aGM yK jA tI z h
   rw [kA] at h
   refine dQ (fn:=Tryz.f184) [0,1,2,4,6,7,8,9,10,24,28,33,58,75] (by kernel_rfl) Tryz.func184 r (by kernel_rfl) (by kernel_rfl)<|aH<|iR (v:=.agg dF) (n:=2) (cs:=dF) (σ':=[[bK,aI],dD,dF]) r r r r r<|jT (n:=3) (cs:=dF) (σ':=[[bK,aI],dD,dF,dF]) aG8 r r r<|aG (fr':=[(0,aD),(2,aI),(4,eE),(6,pD)]) r r<|aH<|mV (v:=aD) r<|aN r (kJ r)<|aN r (bE aBe r)<|aN r (aJ (v:=bK) aKU r r r)<|bx h fun x1 y1 h2=>eW (v:=aI) (σ':=[[bK,aI],dD,dF,dF]) [1] r (jE y1) r r lG (hU mZ aC) r r r<|sI r<|aG (fr':=[(0,aD),(2,aI),(4,eE),(6,pD),(7,aI)]) r r<|aU<|aH<|mV (v:=aD) r<|mI r<|aN r (qR r r)<|mB r<|og r r r (fun u=>(bS (v:=aI) r))<|og r r r (fun u=>(qH (gx r u) r))<|aN r (cB r r r (fun e=>fU e))<|bx h2 fun x3 y3 h4=>eW (v:=aB) (σ':=[[bK,aI],dD,dF,dF]) [0,1] r (pN y3) r r kU (aBU kU (hU mZ aC)) (gO (by repeat (first | exact fC | refine aZ r ?_ | refine aZ (rG r) ?_ | refine aZ rF ?_))) r r ?_
   refine aN r (fP r)<|aG (fr':=[(0,aD),(2,aI),(4,eE),(6,pD),(7,aI),(24,aB)]) r r<|cN h4 r (fun b5 h5=>?_) (fun b5 h5=>?_)
   ·
    refine aH<|aN r (gD (cs:=dF) aIK r)<|cD (v:=.agg dF) (us:=dF) (cs:=dF) (σ':=[[bK,aI],dD,dF,dF]) r jC r r r r r r r r<|aG (fr':=[(6,pD)]) r r<|bJ<|aQ ?_
    obtain rfl:=sy h5
    exact bI (rs':=[.cell 6 26]) r<|eN (us:=dF) (cs:=dF) jC r r r r<|bG<|aP [] r r r (bQ r ⟨r,r,r,⟨_,r⟩,⟨_,r⟩,trivial⟩) (aBU kU (hU mZ aC))
   ·
    refine bL<|cY<|aU<|aH<|sI r<|aG (fr':=[(0,aD),(2,aI),(4,eE),(6,pD),(7,aI),(8,aI)]) r r<|bx h5 fun x7 y7 h8=>gY kS (fun j9=>x7=Fl.go j9) (fun (j9:(Int × aX × (List aK) × (List (List UInt8))))=>([(4,eE),(6,pD)]:Fr)) (fun (j9:(Int × aX × (List aK) × (List (List UInt8))))=>([[bK,ci j9.1],[.c (PV.ls 1 hF j9.2.1.b_),ci j9.2.1.at_,ci j9.2.1.err_,.c (.bool j9.2.1.made_)],[ci aCf,ci aGL,.c (.str aGM),AV.os 0 5 bO j9.2.2.1,AV.os 1 1 fZ j9.2.2.2],[ci 0,ci 0,.c (.str ([]:List UInt8)),AV.nil,AV.nil]]:St)) ?_ ?_
    ·
     refine cE<|gU _ (fun (s10:(Int × Int × aX × (List aK) × (List (List UInt8))))=>([(0,aD),(2,ci yK),(4,eE),(6,pD),(7,ci x1.1),(8,ci s10.1)]:Fr)) (fun (s10:(Int × Int × aX × (List aK) × (List (List UInt8))))=>([[bK,ci s10.2.1],[.c (PV.ls 1 hF s10.2.2.1.b_),ci s10.2.2.1.at_,ci s10.2.2.1.err_,.c (.bool s10.2.2.1.made_)],[ci aCf,ci aGL,.c (.str aGM),AV.os 0 5 bO s10.2.2.2.1,AV.os 1 1 fZ s10.2.2.2.2],[ci 0,ci 0,.c (.str ([]:List UInt8)),AV.nil,AV.nil]]:St)) y7 (bH [1000000,1000001] 4 r r r r kL6 (cV r (cV r (aBU ⟨lr,lr,lr,(aC1 r),(aC1 r),trivial⟩ (cV r aC))))) ?_
     intro s10 st10 hs10 ho10
     unfold iW at hs10
     refine aU<|aH<|mI r<|mI r<|aN r (gC r r)<|aG (fr':=[(0,aD),(2,aI),(4,eE),(6,pD),(7,aI),(8,aI),(28,aB)]) r r<|cN hs10 r (fun b11 h11=>?_) (fun b11 h11=>?_)
     ·
      refine bL<|cY<|aU<|cE<|bx h11 fun x12 y12 h13=>jR (fun j14=>x12=Fl.go j14) (fun (j14:(aX × (List (List UInt8))))=>([(0,aD),(2,ci yK),(4,eE),(6,pD),(7,ci x1.1),(8,ci s10.1)]:Fr)) (fun (j14:(aX × (List (List UInt8))))=>([[bK,ci s10.2.1],[.c (PV.ls 1 hF j14.1.b_),ci j14.1.at_,ci j14.1.err_,.c (.bool j14.1.made_)],[ci aCf,ci aGL,.c (.str aGM),AV.os 0 5 bO s10.2.2.2.1,AV.os 1 1 fZ j14.2],[ci 0,ci 0,.c (.str ([]:List UInt8)),AV.nil,AV.nil]]:St)) ?_ ?_
      ·
       refine aH<|aN r (bE lU r)<|aN r (aJ (v:=aI) gA r r r)<|aN r (cC r r)<|aG (fr':=[(0,aD),(2,aI),(4,eE),(6,pD),(7,aI),(8,aI),(33,aB)]) r r<|cN y12 r (fun b15 h15=>?_) (fun b15 h15=>?_)
       ·
        refine aH<|mV (v:=aD) r<|aN r (kJ r)<|aN r (bE aBe r)<|aN r (aJ (v:=bK) aKU r r r)<|bx h15 fun x16 y16 h17=>eW (v:=aS) (σ':=[[bK,aI],dD,[aI,aI,aS,aO,aO],dF]) [1] r (lQ y16) r r kU (hU mZ aC) r r r<|sS r<|aG (fr':=[(0,aD),(2,aI),(4,eE),(6,pD),(7,aI),(8,aI),(9,aS)]) r r<|aU<|aH<|mV (v:=aD) r<|mS r<|aN r (kV uD r)<|aN r (qH r r)<|mB r<|og r r r (fun u=>(bS (v:=aI) r))<|og r r r (fun u=>(cC (gx r u) r))<|og r r r (fun u=>(bS (v:=aB) (gx r u)))<|fI r r (fun u=>fT r (bS (v:=aS) r))<|fI r r (fun u=>fT r (bE qJ r))<|fI r r (fun u=>fT r (aJ (v:=aO) sE (gx r u) r r))<|fI r r (fun u=>fT r (bS (v:=aI) r))<|fI r r (fun u=>fT r (aNA (gx r u) r))<|bx h17 fun x18 y18 h19=>fI r r (fun u=>fT r (lT (cs:=[PV.str _]) aBI (rQ (gx r u)) (gx r u) (cZ y18 u) r))<|fI r r (fun u=>fT r (iO (p:=PV.str _) mG (gx r u) r))<|fI r r (fun u=>fT r (aUS (gx r u) (gx r u)))<|og r r r (fun u=>(cM (gx r u) r r (fun e=>qC u (fU e))))<|aN r (cB r r r (fun e=>fU e))<|bx h19 fun x20 y20 h21=>eW (v:=aB) (σ':=[[bK,aI],dD,[aI,aI,aS,aO,aO],dF]) [0,1] r (pN y20) r r kU (aBU kU (hU mZ aC)) (gO (by repeat (first | exact fC | refine aZ r ?_ | refine aZ (rG r) ?_ | refine aZ rF ?_))) r r ?_
        refine aN r (fP r)<|aG (fr':=[(0,aD),(2,aI),(4,eE),(6,pD),(7,aI),(8,aI),(9,aS),(58,aB)]) r r<|cN h21 r (fun b22 h22=>?_) (fun b22 h22=>?_)
        ·
         refine aH<|aN r (gD (cs:=dF) aIK r)<|cD (v:=.agg dF) (us:=dF) (cs:=dF) (σ':=[[bK,aI],dD,[aI,aI,aS,aO,aO],dF]) r jC r r r r r r r r<|aG (fr':=[(6,pD)]) r r<|bJ<|aQ<|aQ<|bM<|aQ<|aQ<|bM<|aQ<|aQ ?_
         have h23:=gT h22 h13
         have h24:=eZ h23 ho10
         have h25:=gT h24 h8
         obtain rfl:=sy h25
         exact bI (rs':=[.cell 6 26]) r<|eN (us:=dF) (cs:=dF) jC r r r r<|bG<|aP [] r r r (bQ r ⟨r,r,r,⟨_,r⟩,⟨_,r⟩,trivial⟩) (aBU kU (hU mZ aC))
        ·
         exact bL<|cY<|bA<|aN r (bE qJ r)<|aN r (aJ (v:=aO) sE r r r)<|mS r<|sW (row:=fZ) (xs:=([x16.1]:List (List UInt8))) (rows:=[[_]]) (σ':=[[bK,aI],dD,[aI,aI,aS,aO,aO],dF]) [0] aBI r r r (eI r mX) r r<|bx h22 fun x27 y27 h28=>aDg (row:=fZ) aBI r yZ r (rQ r) (fun _=>r) y27<|aN r (bE qJ r)<|cD (v:=aO) (us:=[aO]) (cs:=[aI,aI,aS,aO,aL]) (σ':=[[bK,aI],dD,[aI,aI,aS,aO,aO],dF]) r sE r r r r r r r r<|dT (fr':=[(0,aD),(2,aI),(4,eE),(6,pD),(7,aI),(8,aI),(9,aS),(58,aB)]) r<|kI _ (sy h28) (bH [0,1024] 4 r r r r kL6 (cV r (cV r (cV r (cV r aC)))))
       ·
        exact bL<|kI _ (sy h15) (bH [0,1] 4 r r r r kL6 (cV r (cV r (cV r (cV r aC)))))
      ·
       intro j14 hj29
       have h29:=mY hj29 h13
       refine aH<|mV (v:=aD) r<|mI r<|aN r (fY r r)<|bx h29 fun x30 y30 h31=>eW (v:=.agg cH) (σ':=[[bK,aI],dD,[aI,aI,aS,aO,aO],dF]) [0,1] r (ih_value_decoder_value y30) r r kU (aBU kU (hU mZ aC)) r r r<|jT (n:=4) (cs:=dF) (σ':=[[bK,aI],dD,[aI,aI,aS,aO,aO],dF,dF]) aG8 r r r<|cD (v:=.agg cH) (us:=cH) (cs:=dF) (σ':=[[bK,aI],dD,[aI,aI,aS,aO,aO],dF,cH]) r jC r r r r r r r r<|aG (fr':=[(0,aD),(2,aI),(4,eE),(6,pD),(7,aI),(8,aI),(10,aPG)]) r r<|aU<|aH<|mV (v:=aD) r<|aN r (kJ r)<|aN r (bE aBe r)<|aN r (aJ (v:=bK) aKU r r r)<|bx h31 fun x32 y32 h33=>eW (v:=aI) (σ':=[[bK,aI],dD,[aI,aI,aS,aO,aO],dF,cH]) [1] r (hS y32) r r ⟨lr,trivial⟩ (hU mZ aC) r r r<|aN r (iY r r)<|aG (fr':=[(0,aD),(2,aI),(4,eE),(6,pD),(7,aI),(8,aI),(10,aPG),(75,aB)]) r r<|cN h33 r (fun b34 h34=>?_) (fun b34 h34=>?_)
       ·
        refine aH<|aN r (gD (cs:=dF) aIK r)<|cD (v:=.agg dF) (us:=dF) (cs:=dF) (σ':=[[bK,aI],dD,[aI,aI,aS,aO,aO],dF,cH]) r jC r r r r r r r r<|aG (fr':=[(6,pD)]) r r<|bJ<|aQ<|bM<|aQ<|aQ<|bM<|aQ<|aQ ?_
        have h35:=eZ h34 ho10
        have h36:=gT h35 h8
        obtain rfl:=sy h36
        exact bI (rs':=[.cell 6 26]) r<|eN (us:=dF) (cs:=dF) jC r r r r<|bG<|aP [] r r r (bQ r ⟨r,r,r,⟨_,r⟩,⟨_,r⟩,trivial⟩) (aBU kU (hU mZ aC))
       ·
        exact bL<|cY<|bA<|aN r (bE iH r)<|aN r (aJ (v:=aO) nJ r r r)<|aN r (dN (us:=cH) jC r r r r)<|sW (row:=bO) (xs:=([x30.1]:List aK)) (rows:=[[_,_,_,_,_]]) (σ':=[[bK,aI],dD,[aI,aI,aS,aO,aO],dF,cH]) [0,0,0,5,1] uW r r r (eI (eA _) mX) r r<|bx h34 fun x38 y38 h39=>aDg (row:=bO) uW r vC r (rQ r) aIJ y38<|aN r (bE iH r)<|cD (v:=aO) (us:=[aO]) (cs:=[aI,aI,aS,aL,aO]) (σ':=[[bK,aI],dD,[aI,aI,aS,aO,aO],dF,cH]) r nJ r r r r r r r r<|dT (fr':=[(0,aD),(2,aI),(4,eE),(6,pD),(7,aI),(8,aI),(10,aPG),(75,aB)]) r<|dH<|cY<|bA<|mI r<|aN r (fY r r)<|sI r<|dT (fr':=[(0,aD),(2,aI),(4,eE),(6,pD),(7,aI),(8,aI),(10,aPG),(75,aB)]) r<|e_l _ (sy h39) (bH [1296,1] 4 r r r r kL6 (cV r (cV r (cV r (cV r aC)))))
     ·
      refine iA<|cX<|cX<|fS ?_
      have h40:=eZ h11 ho10
      exact kI _ (sy h40) (bH [0,1] 4 r r r r kU (cV r (cV r (cV r (cV r aC)))))
    ·
     intro j9 hj41
     have h41:=mY hj41 h8
     refine cY<|aH<|aN r (dN (us:=[aI,aI,aS,aO,aO]) jC r r r r)<|cD (v:=.agg [aI,aI,aS,aO,aO]) (us:=[aI,aI,aS,aO,aO]) (cs:=dF) (σ':=[[bK,aI],dD,[aI,aI,aS,aO,aO],[aI,aI,aS,aO,aO]]) r jC r r r r r r r r<|aG (fr':=[(6,pD)]) r r<|bJ ?_
     obtain rfl:=sy h41
     exact bI (rs':=[.cell 6 26]) r<|eN (us:=[aI,aI,aS,aO,aO]) (cs:=[aI,aI,aS,aO,aO]) jC r r r r<|bG<|aP [] r r r (bQ r zA) (aBU kU (hU mZ aC))
  ·
   intro tJ jA tI z h
   rw [gS] at h
   refine dQ (fn:=Tryz.f145) [0,1,4,5,17,42,45,46,64,72,86] (by kernel_rfl) Tryz.func145 r (by kernel_rfl) (by kernel_rfl)<|aH<|jT (n:=2) (cs:=dF) (σ':=[[bK,aI],dD,dF]) aG8 r r r<|aG (fr':=[(0,aD),(1,aI),(4,eE)]) r r<|aU<|aH<|mV (v:=aD) r<|mV (v:=aD) r<|aN r (kJ r)<|aN r (bE aMo r)<|aN r (aJ (v:=aI) gA r r r)<|aN r (gC r r)<|mB r<|og r r r (fun u=>(bS (v:=aI) r))<|og r r r (fun u=>(qH (gx r u) r))<|aN r (cB r r r (fun e=>fU e))<|bx h fun x1 y1 h2=>eW (v:=aB) (σ':=[[bK,aI],dD,dF]) [0,1] r (pN y1) r r kU (aBU kU (hU mZ aC)) (gO (by repeat (first | exact fC | refine aZ r ?_ | refine aZ (rG r) ?_ | refine aZ rF ?_))) r r ?_
   refine aN r (fP r)<|aG (fr':=[(0,aD),(1,aI),(4,eE),(17,aB)]) r r<|cN h2 r (fun b3 h3=>?_) (fun b3 h3=>?_)
   ·
    refine aH<|aN r (gD (cs:=dF) aIK r)<|cD (v:=.agg dF) (us:=dF) (cs:=dF) (σ':=[[bK,aI],dD,dF]) r jC r r r r r r r r<|aG (fr':=[(4,eE)]) r r<|bJ<|aQ ?_
    obtain rfl:=sy h3
    exact bI (rs':=[.cell 4 26]) r<|eN (us:=dF) (cs:=dF) jC r r r r<|bG<|aP [] r r r (bQ r ⟨r,r,r,⟨_,r⟩,⟨_,r⟩,trivial⟩) (aBU kU (hU mZ aC))
   ·
    refine bL<|cY<|aH<|mV (v:=aD) r<|aN r (kJ r)<|aN r (bE aMo r)<|aN r (aJ (v:=aI) gA r r r)<|aN r (fY r r)<|aN r (kJ r)<|aN r (bE aMo r)<|cD (v:=aI) (us:=[aI]) (cs:=[bK,aI]) (σ':=[[bK,aI],dD,dF]) r gA r r r r r r r r<|aG (fr':=[(0,aD),(1,aI),(4,eE)]) r r<|aH<|mV (v:=aD) r<|aN r (kJ r)<|aN r (bE aBe r)<|aN r (aJ (v:=bK) aKU r r r)<|bx h3 fun x5 y5 h6=>eW (v:=aI) (σ':=[[bK,aI],dD,dF]) [1] r (jE y5) r r lG (hU mZ aC) r r r<|aN r (gD (cs:=dF) aIK r)<|jT (n:=3) (cs:=dF) (σ':=[[bK,aI],dD,dF,dF]) aG8 r r r<|cD (v:=.agg dF) (us:=dF) (cs:=dF) (σ':=[[bK,aI],dD,dF,dF]) r jC r r r r r r r r<|aG (fr':=[(0,aD),(1,aI),(4,eE),(5,pD)]) r r<|aU<|aH<|mV (v:=aD) r<|aN r (bE lU r)<|aN r (aJ (v:=aI) gA r r r)<|aN r (qR r r)<|mB r<|og r r r (fun u=>(bE lU r))<|og r r r (fun u=>(aJ (v:=aI) gA (gx r u) r r))<|og r r r (fun u=>(qH (gx r u) r))<|aN r (cB r r r (fun e=>fU e))<|bx h6 fun x7 y7 h8=>eW (v:=aB) (σ':=[[bK,aI],dD,dF,dF]) [0,1] r (pN y7) r r kU (aBU kU (hU mZ aC)) (gO (by repeat (first | exact fC | refine aZ r ?_ | refine aZ (rG r) ?_ | refine aZ rF ?_))) r r ?_
    refine aN r (fP r)<|aG (fr':=[(0,aD),(1,aI),(4,eE),(5,pD),(42,aB)]) r r<|cN h8 r (fun b9 h9=>?_) (fun b9 h9=>?_)
    ·
     refine aH<|aN r (gD (cs:=dF) aIK r)<|cD (v:=.agg dF) (us:=dF) (cs:=dF) (σ':=[[bK,aI],dD,dF,dF]) r jC r r r r r r r r<|aG (fr':=[(4,eE)]) r r<|bJ<|aQ ?_
     obtain rfl:=sy h9
     exact bI (rs':=[.cell 4 26]) r<|eN (us:=dF) (cs:=dF) jC r r r r<|bG<|aP [] r r r (bQ r ⟨r,r,r,⟨_,r⟩,⟨_,r⟩,trivial⟩) (aBU kU (hU mZ aC))
    ·
     refine bL<|cY<|bx h9 fun x11 y11 h12=>jR (fun j13=>x11=Fl.go j13) (fun (j13:(aX × Int × (List UInt8)))=>([(4,eE),(5,pD)]:Fr)) (fun (j13:(aX × Int × (List UInt8)))=>([[bK,ci (IntKind.wrap .i64 (jA+(1:Int)))],[.c (PV.ls 1 hF j13.1.b_),ci j13.1.at_,ci j13.1.err_,.c (.bool j13.1.made_)],[ci 0,ci 0,.c (.str ([]:List UInt8)),AV.nil,AV.nil],[ci x5.1,ci j13.2.1,.c (.str j13.2.2),AV.nil,AV.nil]]:St)) ?_ ?_
     ·
      refine aH<|aN r (bE lU r)<|aN r (aJ (v:=aI) gA r r r)<|aG (fr':=[(0,aD),(1,aI),(4,eE),(5,pD),(45,aI)]) r r<|cE<|aH<|aN r (cC r r)<|sB r<|aG (fr':=[(0,aD),(1,aI),(4,eE),(5,pD),(45,aI),(46,aB)]) r r<|cN y11 r (fun b14 h14=>?_) (fun b14 h14=>?_)
      ·
       refine aH<|mV (v:=aD) r<|aN r (kJ r)<|aN r (bE aBe r)<|aN r (aJ (v:=bK) aKU r r r)<|bx h14 fun x15 y15 h16=>eW (v:=aI) (σ':=[[bK,aI],dD,dF,dF]) [1] r (jE y15) r r lG (hU mZ aC) r r r<|aN r (bE tY r)<|cD (v:=aI) (us:=[aI]) (cs:=dF) (σ':=[[bK,aI],dD,dF,dF]) r gA r r r r r r r r<|aG (fr':=[(0,aD),(4,eE),(5,pD)]) r r<|bA<|mV (v:=aD) r<|aN r (bE tY r)<|aN r (aJ (v:=aI) gA r r r)<|aN r (cC r r)<|mB r<|og r r r (fun u=>(bE tY r))<|og r r r (fun u=>(aJ (v:=aI) gA (gx r u) r r))<|og r r r (fun u=>(cC (gx r u) r))<|aN r (cM r r r (fun e=>fU e))<|bx h16 fun x17 y17 h18=>eW (v:=aB) (σ':=[[bK,aI],dD,dF,dF]) [0,1] r (pN y17) r r kU (aBU kU (hU mZ aC)) (gO (by repeat (first | exact fC | refine aZ r ?_ | refine aZ (rG r) ?_ | refine aZ rF ?_))) r r ?_
       exact dT (fr':=[(0,aD),(4,eE),(5,pD)]) r<|dH<|kI _ (sy h18) (bH [] 4 r r r r kU (cV r (cV r (cV r (cV r aC)))))
      ·
       refine aH<|aN r (cC r r)<|sB r<|aG (fr':=[(0,aD),(1,aI),(4,eE),(5,pD),(45,aI),(64,aB)]) r r<|cN h14 r (fun b19 h19=>?_) (fun b19 h19=>?_)
       ·
        exact bA<|mV (v:=aD) r<|aN r (kJ r)<|aN r (bE aBe r)<|aN r (aJ (v:=bK) aKU r r r)<|bx h19 fun x20 y20 h21=>eW (v:=aI) (σ':=[[bK,aI],dD,dF,dF]) [1] r (jE y20) r r lG (hU mZ aC) r r r<|aN r (bE tY r)<|cD (v:=aI) (us:=[aI]) (cs:=dF) (σ':=[[bK,aI],dD,dF,dF]) r gA r r r r r r r r<|dT (fr':=[(0,aD),(1,aI),(4,eE),(5,pD),(45,aI),(64,aB)]) r<|dH<|kI _ (sy h21) (bH [] 4 r r r r kU (cV r (cV r (cV r (cV r aC)))))
       ·
        refine aH<|aN r (cC r r)<|sB r<|aG (fr':=[(0,aD),(1,aI),(4,eE),(5,pD),(45,aI),(72,aB)]) r r<|cN h19 r (fun b22 h22=>?_) (fun b22 h22=>?_)
        ·
         exact aH<|mV (v:=aD) r<|aN r (kJ r)<|aN r (bE aBe r)<|aN r (aJ (v:=bK) aKU r r r)<|bx h22 fun x23 y23 h24=>eW (v:=aS) (σ':=[[bK,aI],dD,dF,dF]) [1] r (lQ y23) r r kU (hU mZ aC) r r r<|aN r (bE tZ r)<|cD (v:=aS) (us:=[aS]) (cs:=dF) (σ':=[[bK,aI],dD,dF,dF]) r mG r r r r r r r r<|aG (fr':=[(0,aD),(4,eE),(5,pD)]) r r<|bA<|mV (v:=aD) r<|aN r (bE tZ r)<|aN r (aJ (v:=aS) mG r r r)<|aN r (kV uD r)<|aN r (qH r r)<|bx h24 fun x25 y25 h26=>eW (v:=aB) (σ':=[[bK,aI],dD,dF,dF]) [0,1] r (pN y25) r r kU (aBU kU (hU mZ aC)) r r r<|dT (fr':=[(0,aD),(4,eE),(5,pD)]) r<|dH<|kI _ (sy h26) (bH [] 4 r r r r kU (cV r (cV r (cV r (cV r aC)))))
        ·
         obtain ⟨x27,y27,h28⟩:=lB h22
         refine jR (fun j29=>x27=j29) (fun (j29:Bool)=>([(0,aD),(1,ci tJ),(4,eE),(5,pD),(86,.c (.bool j29))]:Fr)) (fun (j29:Bool)=>([[bK,ci (IntKind.wrap .i64 (jA+(1:Int)))],[.c (PV.ls 1 hF x7.2.b_),ci x7.2.at_,ci x7.2.err_,.c (.bool x7.2.made_)],[ci 0,ci 0,.c (.str ([]:List UInt8)),AV.nil,AV.nil],[ci x5.1,ci 0,.c (.str ([]:List UInt8)),AV.nil,AV.nil]]:St)) ?_ ?_
         ·
          refine aH<|aN r (cC r r)<|sB r<|aG (fr':=[(0,aD),(1,aI),(4,eE),(5,pD),(45,aI),(86,aB)]) r r<|cN y27 r (fun b30 h30=>?_) (fun b30 h30=>?_)
          ·
           exact bL<|kI _ (sy h30) (bH [] 4 r r r r kL5 (cV r (cV r (cV r (cV r aC)))))
          ·
           exact bA<|aN r (cC r r)<|sB r<|dT (fr':=[(0,aD),(1,aI),(4,eE),(5,pD),(45,aI),(86,aB)]) r<|kI _ (sy h30) (bH [] 4 r r r r kL5 (cV r (cV r (cV r (cV r aC)))))
         ·
          intro j29 hj31
          subst hj31
          refine cN h28 r (fun b32 h32=>?_) (fun b32 h32=>?_)
          ·
           refine aH<|mV (v:=aD) r<|aN r (dN (us:=dF) jC r r r r)<|mI r<|bx h32 fun x33 y33 h34=>eW (v:=.agg cH) (σ':=[[bK,aI],dD,dF,dF]) [0,1] r (ih_value_decoder_items y33) r r ⟨lr,(aTi r kL5),lr,trivial⟩ (aBU kU (hU mZ aC)) r r r<|cD (v:=.agg cH) (us:=cH) (cs:=dF) (σ':=[[bK,aI],dD,cH,dF]) r jC r r r r r r r r<|aG (fr':=[(4,eE)]) r r<|bJ<|bM<|aQ ?_
           have h35:=gT h34 h12
           obtain rfl:=sy h35
           exact bI (rs':=[.cell 4 26]) r<|eN (us:=cH) (cs:=cH) jC r r r r<|bG<|aP [] r r r (bQ r zA) (aBU kU (hU mZ aC))
          ·
           exact bL<|dH<|kI _ (sy h32) (bH [] 4 r r r r kU (cV r (cV r (cV r (cV r aC)))))
     ·
      intro j13 hj37
      have h37:=mY hj37 h12
      refine aH<|aN r (dN (us:=dF) jC r r r r)<|cD (v:=.agg dF) (us:=dF) (cs:=dF) (σ':=[[bK,aI],dD,dF,dF]) r jC r r r r r r r r<|aG (fr':=[(4,eE)]) r r<|bJ ?_
      obtain rfl:=sy h37
      exact bI (rs':=[.cell 4 26]) r<|eN (us:=dF) (cs:=dF) jC r r r r<|bG<|aP [] r r r (bQ r ⟨r,r,r,⟨_,r⟩,⟨_,r⟩,trivial⟩) (aBU kU (hU mZ aC))
noncomputable def uJ (tJ:Int) (jA:Int) (tI:aX):Option (aK × Int × aX):=lim fun n=>gS n tJ jA tI
theorem aEe {tJ:Int}{jA:Int}{tI:aX}{z:(aK × Int × aX)} (h:uJ tJ jA tI=some z):cR Tryz.prog 145 [.box 0 0,ci tJ] [[.box 1 0,ci jA],AV.cs (eS tI)] (.agg (AV.cs (fA z.1))) [[.box 1 0,ci z.2.1],AV.cs (eS z.2.2)]:=by
 obtain ⟨n,hn⟩:=rI h
 exact (aDU n).2 hn
noncomputable def tR (eK:aX):Option (aK × aX) :=
 (((gN eK).bind fun x4=>cond (decide (x4=1)) (some (Fl.done ((aK.mk 0 0 ([]:List UInt8) ([]:(List aK)) ([]:(List (List UInt8)))),eK))) (some (Fl.go ()))):Option (Fl (aK × aX) Unit)).bind fun x1=>Fl.next x1 (fun j3=>((uJ 1 0 eK).bind fun x10=>(gN x10.2.2).bind fun x12=>cond (!decide (x12=0)) (some ((aK.mk 0 0 ([]:List UInt8) ([]:(List aK)) ([]:(List (List UInt8)))),x10.2.2)) (some (x10.1,x10.2.2))))
theorem aAR {eK:aX}{z:(aK × aX)} (h:tR eK=some z):cR Tryz.prog 72 [.box 0 0] [AV.cs (eS eK)] (.agg (AV.cs (fA z.1))) [AV.cs (eS z.2)]:=by
 unfold tR at h
 refine dQ (fn:=Tryz.f72) [0,2,3,4,11,20] (by kernel_rfl) Tryz.func72 r (by kernel_rfl) (by kernel_rfl)<|aH<|jT (n:=1) (cs:=dF) (σ':=[dD,dF]) aG8 r r r<|aG (fr':=[(0,aD),(2,bK)]) r r<|bx h fun x1 y1 h2=>jR (fun j3=>x1=Fl.go j3) (fun (j3:Unit)=>([(0,aD),(2,bK)]:Fr)) (fun (j3:Unit)=>([[.c (PV.ls 1 hF eK.b_),ci eK.at_,ci eK.err_,.c (.bool eK.made_)],[ci 0,ci 0,.c (.str ([]:List UInt8)),AV.nil,AV.nil]]:St)) ?_ ?_
 ·
  refine aH<|mV (v:=aD) r<|aN r (aO5 aU8 r r)<|mB r<|yT r r r<|mV (v:=aD) r<|yT r r r<|bx y1 fun x4 y4 h5=>eW (v:=aI) (σ':=[dD,dF]) [0] r (hS y4) r r ⟨lr,trivial⟩ (hU mZ aC) r r r<|yT r r r<|aN r (cC r r)<|aN r (aDh r r r)<|aG (fr':=[(0,aD),(2,bK),(11,aB)]) r r<|cN h5 r (fun b6 h6=>?_) (fun b6 h6=>?_)
  ·
   refine aH<|aN r (gD (cs:=dF) aIK r)<|cD (v:=.agg dF) (us:=dF) (cs:=dF) (σ':=[dD,dF]) r jC r r r r r r r r<|aG (fr':=[(2,bK)]) r r<|bJ<|aQ ?_
   have h7:=gT h6 h2
   obtain rfl:=sy h7
   exact bI (rs':=[.cell 2 26]) r<|eN (us:=dF) (cs:=dF) jC r r r r<|bG<|aP [] r r r (bQ r ⟨r,r,r,⟨_,r⟩,⟨_,r⟩,trivial⟩) (hU mZ aC)
  ·
   exact bL<|kI _ (sy h6) (bH [] 2 r r r r kU (cV r (cV r aC)))
 ·
  intro j3 hj9
  have h9:=mY hj9 h2
  refine aH<|mV (v:=aD) r<|aN r (gD (cs:=[aD,aI]) aVK r)<|iR (v:=.agg [aD,aI]) (n:=2) (cs:=[aD,aI]) (σ':=[dD,dF,[aD,aI]]) r r r r r<|sV (v:=eE) r<|aG (fr':=[(0,aD),(2,bK),(3,eE)]) r r<|aH<|mV (v:=eE) r<|bx h9 fun x10 y10 h11=>eW (v:=.agg cH) (σ':=[dD,dF,[aD,aI]]) [2,0] r (aEe y10) r r kU (aBU kU (hU mZ aC)) r r r<|jT (n:=3) (cs:=dF) (σ':=[dD,dF,[aD,aI],dF]) aG8 r r r<|cD (v:=.agg cH) (us:=cH) (cs:=dF) (σ':=[dD,dF,[aD,aI],cH]) r jC r r r r r r r r<|aG (fr':=[(0,aD),(2,bK),(4,pD)]) r r<|aU<|aH<|mV (v:=aD) r<|bx h11 fun x12 y12 h13=>eW (v:=aI) (σ':=[dD,dF,[aD,aI],cH]) [0] r (hS y12) r r ⟨lr,trivial⟩ (hU mZ aC) r r r<|aN r (iY r r)<|aG (fr':=[(2,bK),(4,pD),(20,aB)]) r r<|cN h13 r (fun b14 h14=>?_) (fun b14 h14=>?_)
  ·
   refine aH<|aN r (gD (cs:=dF) aIK r)<|cD (v:=.agg dF) (us:=dF) (cs:=dF) (σ':=[dD,dF,[aD,aI],cH]) r jC r r r r r r r r<|aG (fr':=[(2,bK)]) r r<|bJ<|aQ ?_
   obtain rfl:=sy h14
   exact bI (rs':=[.cell 2 26]) r<|eN (us:=dF) (cs:=dF) jC r r r r<|bG<|aP [] r r r (bQ r ⟨r,r,r,⟨_,r⟩,⟨_,r⟩,trivial⟩) (hU mZ aC)
  ·
   refine bL<|cY<|aH<|aN r (dN (us:=cH) jC r r r r)<|cD (v:=.agg cH) (us:=cH) (cs:=dF) (σ':=[dD,cH,[aD,aI],cH]) r jC r r r r r r r r<|aG (fr':=[(2,bK)]) r r<|bJ ?_
   obtain rfl:=sy h14
   exact bI (rs':=[.cell 2 26]) r<|eN (us:=cH) (cs:=cH) jC r r r r<|bG<|aP [] r r r (bQ r zA) (hU mZ aC)
noncomputable def vG (lH:(List UInt8)) (jA:Int) (aI5:Int) (aI6:Int) (aI7:Int) (aI8:Int) (aI9:Int) (aJa:Int) (aJb:Int):Option Unit :=
 some ()
theorem aEV {lH:(List UInt8)}{jA:Int}{aI5:Int}{aI6:Int}{aI7:Int}{aI8:Int}{aI9:Int}{aJa:Int}{aJb:Int}{z:Unit} (h:vG lH jA aI5 aI6 aI7 aI8 aI9 aJa aJb=some z):cR Tryz.prog 146 [.box 0 0] [[.c (.str lH),ci jA,ci aI5,ci aI6,ci aI7,ci aI8,ci aI9,ci aJa,ci aJb,AV.nil]] (.ptrs [(0,1),(0,2),(0,3),(0,4),(0,5),(0,6),(0,7),(0,8)]) [[.c (.str lH),ci jA,ci aI5,ci aI6,ci aI7,ci aI8,ci aI9,ci aJa,ci aJb,AV.nil]]:=by
 unfold vG at h
 refine dQ (fn:=Tryz.f146) [0,2] (by kernel_rfl) Tryz.func146 r (by kernel_rfl) (by kernel_rfl)<|aH<|sV (v:=AV.nil) r<|aG (fr':=[(0,aD)]) r r<|aU<|mW [.q 0,.q 1,.q 2,.q 3,.q 4,.q 5,.q 6,.q 7,.q 8,.q 9,.q 10,.q 11,.q 12,.q 13,.q 14,.q 15,.q 16,.q 17,.q 18,.q 19,.q 20,.q 21,.q 22,.q 23,.n 24 [],.n 25 []] [(some 3,[0]),(some 4,[3]),(some 5,[4]),(some 6,[0]),(some 7,[6]),(some 8,[7]),(some 9,[0]),(some 10,[9]),(some 11,[10]),(some 12,[0]),(some 13,[12]),(some 14,[13]),(some 15,[0]),(some 16,[15]),(some 17,[16]),(some 18,[0]),(some 19,[18]),(some 20,[19]),(some 21,[0]),(some 22,[21]),(some 23,[22]),(some 24,[0]),(some 25,[24]),(some 26,[25]),(some 27,[5,8,11,14,17,20,23,26]),(some 2,[27])] [0,1,3,0,8,24,0,64,192,0,512,1536,0,4096,12288,0,32768,98304,0,262144,786432,0,2097152,6291456,16777215,33554431] (by kernel_rfl)<|dq r r (bS (v:=aD) r)<|dq r r (kJ r)<|dq r r (bE aFX r)<|dq r r (bS (v:=aD) r)<|dq r r (kJ r)<|dq r r (bE aFY r)<|dq r r (bS (v:=aD) r)<|dq r r (kJ r)<|dq r r (bE aFZ r)<|dq r r (bS (v:=aD) r)<|dq r r (kJ r)<|dq r r (bE aF0 r)<|dq r r (bS (v:=aD) r)<|dq r r (kJ r)<|dq r r (bE aF1 r)<|dq r r (bS (v:=aD) r)<|dq r r (kJ r)<|dq r r (bE aF2 r)<|dq r r (bS (v:=aD) r)<|dq r r (kJ r)<|dq r r (bE aF3 r)<|dq r r (bS (v:=aD) r)<|dq r r (kJ r)<|dq r r (bE aF4 r)<|d_n r ?_ r
 refine aO3 (l:=[(0,1),(0,2),(0,3),(0,4),(0,5),(0,6),(0,7),(0,8)]) uE r r r r<|aEx<|⟨xN,?_⟩
 refine d_n r ?_ r
 refine sV (v:=.ptrs [(0,1),(0,2),(0,3),(0,4),(0,5),(0,6),(0,7),(0,8)]) r<|aEx<|⟨xN,?_⟩
 refine aBl (fr':=[(2,.ptrs [(0,1),(0,2),(0,3),(0,4),(0,5),(0,6),(0,7),(0,8)])]) r r<|bJ ?_
 obtain rfl:=sy h
 exact bI (rs':=[.tmp 2]) r<|bX (v:=.ptrs [(0,1),(0,2),(0,3),(0,4),(0,5),(0,6),(0,7),(0,8)]) r<|bG<|aPK [] r r r lr (cV r aC)
noncomputable def iX (eK:aX):Option (Int × aX) :=
 (fN (-9223372036854775808) 9223372036854775807 eK).bind fun x1=>some (x1.1,x1.2)
theorem jP {eK:aX}{z:(Int × aX)} (h:iX eK=some z):cR Tryz.prog 147 [.box 0 0] [AV.cs (eS eK)] (ci z.1) [AV.cs (eS z.2)]:=by
 unfold iX at h
 refine dQ (fn:=Tryz.f147) [0,2] (by kernel_rfl) Tryz.func147 r (by kernel_rfl) (by kernel_rfl)<|aH<|sI r<|aG (fr':=[(0,aD)]) r r<|aH<|mV (v:=aD) r<|bx h fun x1 y1 h2=>eW (v:=aI) (σ':=[dD]) [0] r (jE y1) r r lG (hU mZ aC) r r r<|sI r<|aG (fr':=[(2,aI)]) r r<|bJ ?_
 obtain rfl:=sy h2
 exact bI (rs':=[.tmp 2]) r<|bX (v:=aI) r<|bG<|aP [] r r r lr (hU mZ aC)
noncomputable def qO (x22:(Int × aX)) (s38:(Int × aX × (List (List UInt8)))):Option (dU (Int × aX × (List (List UInt8))) (aX × (List (List UInt8)))) :=
 ((cond (decide (s38.1<x22.1)) ((gN s38.2.1).bind fun x43=>cond (decide (x43=0)) (some (Fl.go ())) (some (Fl.done (dU.out (s38.2.1,s38.2.2))))) (some (Fl.done (dU.out (s38.2.1,s38.2.2))))):Option (Fl (dU (Int × aX × (List (List UInt8))) (aX × (List (List UInt8)))) Unit)).bind fun x39=>Fl.next x39 (fun j41=>((jM 4096 s38.2.1).bind fun x51=>(app 16 s38.2.2 ([x51.1]:List (List UInt8))).bind fun x53=>some (dU.next ((IntKind.wrap .i64 (s38.1+1)),x51.2,x53))))
noncomputable def nX (eK:aX):Option (dR × aX) :=
 (jM 4096 eK).bind fun x1=>(vG x1.1 0 0 0 0 0 0 0 0).bind fun x3=>(iX x1.2).bind fun x6=>(iX x6.2).bind fun x8=>(iX x8.2).bind fun x10=>(iX x10.2).bind fun x12=>(iX x12.2).bind fun x14=>(iX x14.2).bind fun x16=>(iX x16.2).bind fun x18=>(iX x18.2).bind fun x20=>(iX x20.2).bind fun x22=>(((gN x22.2).bind fun x27=>(gd ((decide (x27=0))==true) (nE x22.1 0 64)).bind fun x29=>cond (cond (decide (x27=0)) (!x29) false) ((lF 3 x22.2).bind fun x32=>some x32) (some x22.2)):Option aX).bind fun x24=>((gL (qO x22) ((0,x24,([]:(List (List UInt8)))))).bind fun x35=>((((gN x35.1).bind fun x59=>(gd ((decide (x59=0))==true) (nD (dR.mk x1.1 x6.1 x8.1 x10.1 x12.1 x14.1 x16.1 x18.1 x20.1 x35.2))).bind fun x61=>cond (cond (decide (x59=0)) (!x61) false) ((lF 3 x35.1).bind fun x64=>some x64) (some x35.1)):Option aX).bind fun x56=>((gN x56).bind fun x67=>cond (!decide (x67=0)) (some ((dR.mk ([]:List UInt8) 0 0 0 0 0 0 0 0 ([]:(List (List UInt8)))),x56)) (some ((dR.mk x1.1 x6.1 x8.1 x10.1 x12.1 x14.1 x16.1 x18.1 x20.1 x35.2),x56)))))
theorem aAP {eK:aX}{z:(dR × aX)} (h:nX eK=some z):cR Tryz.prog 73 [.box 0 0] [AV.cs (eS eK)] (.agg (AV.cs (lP z.1))) [AV.cs (eS z.2)]:=by
 unfold nX at h
 refine dQ (fn:=Tryz.f73) [0,2,3,5,6,7,11,12,13,14,31,41,58,63] (by kernel_rfl) Tryz.func73 r (by kernel_rfl) (by kernel_rfl)<|aH<|jT (n:=1) (cs:=cP) (σ':=[dD,cP]) aVa r r r<|aG (fr':=[(0,aD),(2,bK)]) r r<|aH<|jT (n:=2) (cs:=cP) (σ':=[dD,cP,cP]) aVa r r r<|aG (fr':=[(0,aD),(2,bK),(3,eE)]) r r<|aH<|mV (v:=aD) r<|bx h fun x1 y1 h2=>eW (v:=aS) (σ':=[dD,cP,cP]) [0] r (lQ y1) r r kU (hU mZ aC) r r r<|aN r (bE aCq r)<|cD (v:=aS) (us:=[aS]) (cs:=cP) (σ':=[dD,cP,cP]) r mG r r r r r r r r<|aG (fr':=[(0,aD),(2,bK),(3,eE)]) r r<|aU<|aU<|bA<|bx h2 fun x3 y3 h4=>aCK (v:=.ptrs [(2,1),(2,2),(2,3),(2,4),(2,5),(2,6),(2,7),(2,8)]) (σ':=[dD,cP,cP]) 11 [2] [] r (aEV y3) r r r ⟨lr,trivial⟩ (aBU aWc aC) r r r<|aN r (aL6 aTU r)<|mI r<|aG (fr':=[(0,aD),(2,bK),(3,eE),(11,.ptrs [(2,1),(2,2),(2,3),(2,4),(2,5),(2,6),(2,7),(2,8)]),(12,aI),(13,aI)]) r r<|cE<|aQe 64<|xM<|aH<|aN r (zB (gC r r) (show _=.bool true from r))<|aG (fr':=[(0,aD),(2,bK),(3,eE),(11,.ptrs [(2,1),(2,2),(2,3),(2,4),(2,5),(2,6),(2,7),(2,8)]),(12,aI),(13,aI),(14,aB)]) r r<|aU<|kD r<|bL<|cY<|aU<|cE<|aH<|aN r (oL (p:=(2,1)) uE r r r)<|aN r (jV vQ r)<|sV (v:=aFp) r<|aG (fr':=[(0,aD),(2,bK),(3,eE),(5,aFp),(11,.ptrs [(2,1),(2,2),(2,3),(2,4),(2,5),(2,6),(2,7),(2,8)]),(12,aI),(13,aI)]) r r<|bA<|mV (v:=aFp) r<|mV (v:=aD) r<|bx h4 fun x6 y6 h7=>eW (v:=aI) (σ':=[dD,cP,cP]) [0] r (jP y6) r r ⟨lr,trivial⟩ (hU mZ aC) r r r<|aN r (kJ r)<|cD (v:=aI) (us:=[aI]) (cs:=cP) (σ':=[dD,cP,cP]) r gA r r r r r r r r<|dT (fr':=[(0,aD),(2,bK),(3,eE),(5,aFp),(11,.ptrs [(2,1),(2,2),(2,3),(2,4),(2,5),(2,6),(2,7),(2,8)]),(12,aI),(13,aI)]) r<|dH<|cY<|bA<|aN r (zB (fY r r) (show _=.int .i64 (1:Int) from r))<|mI r<|dT (fr':=[(0,aD),(2,bK),(3,eE),(5,aFp),(11,.ptrs [(2,1),(2,2),(2,3),(2,4),(2,5),(2,6),(2,7),(2,8)]),(12,aI),(13,aI)]) r<|lM<|xM<|aU<|bA<|aN r (zB (gC r r) (show _=.bool true from r))<|aG (fr':=[(0,aD),(2,bK),(3,eE),(11,.ptrs [(2,1),(2,2),(2,3),(2,4),(2,5),(2,6),(2,7),(2,8)]),(12,aI),(13,aI),(14,aB)]) r r<|aU<|kD r<|bL<|cY<|aU<|cE<|aH<|aN r (oL (p:=(2,2)) uE r r r)<|aN r (jV vQ r)<|sV (v:=aFq) r<|aG (fr':=[(0,aD),(2,bK),(3,eE),(5,aFq),(11,.ptrs [(2,1),(2,2),(2,3),(2,4),(2,5),(2,6),(2,7),(2,8)]),(12,aI),(13,aI)]) r r<|bA<|mV (v:=aFq) r<|mV (v:=aD) r<|bx h7 fun x8 y8 h9=>eW (v:=aI) (σ':=[dD,cP,cP]) [0] r (jP y8) r r ⟨lr,trivial⟩ (hU mZ aC) r r r<|aN r (kJ r)<|cD (v:=aI) (us:=[aI]) (cs:=cP) (σ':=[dD,cP,cP]) r gA r r r r r r r r<|dT (fr':=[(0,aD),(2,bK),(3,eE),(5,aFq),(11,.ptrs [(2,1),(2,2),(2,3),(2,4),(2,5),(2,6),(2,7),(2,8)]),(12,aI),(13,aI)]) r<|dH<|cY<|bA<|aN r (zB (fY r r) (show _=.int .i64 (2:Int) from r))<|mI r<|dT (fr':=[(0,aD),(2,bK),(3,eE),(5,aFq),(11,.ptrs [(2,1),(2,2),(2,3),(2,4),(2,5),(2,6),(2,7),(2,8)]),(12,aI),(13,aI)]) r<|lM<|xM<|aU<|bA<|aN r (zB (gC r r) (show _=.bool true from r))<|aG (fr':=[(0,aD),(2,bK),(3,eE),(11,.ptrs [(2,1),(2,2),(2,3),(2,4),(2,5),(2,6),(2,7),(2,8)]),(12,aI),(13,aI),(14,aB)]) r r<|aU<|kD r<|bL<|cY<|aU<|cE<|aH<|aN r (oL (p:=(2,3)) uE r r r)<|aN r (jV vQ r)<|sV (v:=aFr) r<|aG (fr':=[(0,aD),(2,bK),(3,eE),(5,aFr),(11,.ptrs [(2,1),(2,2),(2,3),(2,4),(2,5),(2,6),(2,7),(2,8)]),(12,aI),(13,aI)]) r r<|bA<|mV (v:=aFr) r<|mV (v:=aD) r<|bx h9 fun x10 y10 h11=>eW (v:=aI) (σ':=[dD,cP,cP]) [0] r (jP y10) r r ⟨lr,trivial⟩ (hU mZ aC) r r r<|aN r (kJ r)<|cD (v:=aI) (us:=[aI]) (cs:=cP) (σ':=[dD,cP,cP]) r gA r r r r r r r r<|dT (fr':=[(0,aD),(2,bK),(3,eE),(5,aFr),(11,.ptrs [(2,1),(2,2),(2,3),(2,4),(2,5),(2,6),(2,7),(2,8)]),(12,aI),(13,aI)]) r<|dH<|cY<|bA<|aN r (zB (fY r r) (show _=.int .i64 (3:Int) from r))<|mI r<|dT (fr':=[(0,aD),(2,bK),(3,eE),(5,aFr),(11,.ptrs [(2,1),(2,2),(2,3),(2,4),(2,5),(2,6),(2,7),(2,8)]),(12,aI),(13,aI)]) r<|lM<|xM<|aU<|bA<|aN r (zB (gC r r) (show _=.bool true from r))<|aG (fr':=[(0,aD),(2,bK),(3,eE),(11,.ptrs [(2,1),(2,2),(2,3),(2,4),(2,5),(2,6),(2,7),(2,8)]),(12,aI),(13,aI),(14,aB)]) r r<|aU<|kD r<|bL<|cY<|aU<|cE<|aH<|aN r (oL (p:=(2,4)) uE r r r)<|aN r (jV vQ r)<|sV (v:=aFs) r<|aG (fr':=[(0,aD),(2,bK),(3,eE),(5,aFs),(11,.ptrs [(2,1),(2,2),(2,3),(2,4),(2,5),(2,6),(2,7),(2,8)]),(12,aI),(13,aI)]) r r<|bA<|mV (v:=aFs) r<|mV (v:=aD) r<|bx h11 fun x12 y12 h13=>eW (v:=aI) (σ':=[dD,cP,cP]) [0] r (jP y12) r r ⟨lr,trivial⟩ (hU mZ aC) r r r<|aN r (kJ r)<|cD (v:=aI) (us:=[aI]) (cs:=cP) (σ':=[dD,cP,cP]) r gA r r r r r r r r<|dT (fr':=[(0,aD),(2,bK),(3,eE),(5,aFs),(11,.ptrs [(2,1),(2,2),(2,3),(2,4),(2,5),(2,6),(2,7),(2,8)]),(12,aI),(13,aI)]) r<|dH<|cY<|bA<|aN r (zB (fY r r) (show _=.int .i64 (4:Int) from r))<|mI r<|dT (fr':=[(0,aD),(2,bK),(3,eE),(5,aFs),(11,.ptrs [(2,1),(2,2),(2,3),(2,4),(2,5),(2,6),(2,7),(2,8)]),(12,aI),(13,aI)]) r<|lM<|xM<|aU<|bA<|aN r (zB (gC r r) (show _=.bool true from r))<|aG (fr':=[(0,aD),(2,bK),(3,eE),(11,.ptrs [(2,1),(2,2),(2,3),(2,4),(2,5),(2,6),(2,7),(2,8)]),(12,aI),(13,aI),(14,aB)]) r r<|aU<|kD r<|bL<|cY<|aU<|cE<|aH<|aN r (oL (p:=(2,5)) uE r r r)<|aN r (jV vQ r)<|sV (v:=aFt) r<|aG (fr':=[(0,aD),(2,bK),(3,eE),(5,aFt),(11,.ptrs [(2,1),(2,2),(2,3),(2,4),(2,5),(2,6),(2,7),(2,8)]),(12,aI),(13,aI)]) r r<|bA<|mV (v:=aFt) r<|mV (v:=aD) r<|bx h13 fun x14 y14 h15=>eW (v:=aI) (σ':=[dD,cP,cP]) [0] r (jP y14) r r ⟨lr,trivial⟩ (hU mZ aC) r r r<|aN r (kJ r)<|cD (v:=aI) (us:=[aI]) (cs:=cP) (σ':=[dD,cP,cP]) r gA r r r r r r r r<|dT (fr':=[(0,aD),(2,bK),(3,eE),(5,aFt),(11,.ptrs [(2,1),(2,2),(2,3),(2,4),(2,5),(2,6),(2,7),(2,8)]),(12,aI),(13,aI)]) r<|dH<|cY<|bA<|aN r (zB (fY r r) (show _=.int .i64 (5:Int) from r))<|mI r<|dT (fr':=[(0,aD),(2,bK),(3,eE),(5,aFt),(11,.ptrs [(2,1),(2,2),(2,3),(2,4),(2,5),(2,6),(2,7),(2,8)]),(12,aI),(13,aI)]) r<|lM<|xM<|aU<|bA<|aN r (zB (gC r r) (show _=.bool true from r))<|aG (fr':=[(0,aD),(2,bK),(3,eE),(11,.ptrs [(2,1),(2,2),(2,3),(2,4),(2,5),(2,6),(2,7),(2,8)]),(12,aI),(13,aI),(14,aB)]) r r<|aU<|kD r<|bL<|cY<|aU<|cE<|aH<|aN r (oL (p:=(2,6)) uE r r r)<|aN r (jV vQ r)<|sV (v:=aFu) r<|aG (fr':=[(0,aD),(2,bK),(3,eE),(5,aFu),(11,.ptrs [(2,1),(2,2),(2,3),(2,4),(2,5),(2,6),(2,7),(2,8)]),(12,aI),(13,aI)]) r r<|bA<|mV (v:=aFu) r<|mV (v:=aD) r<|bx h15 fun x16 y16 h17=>eW (v:=aI) (σ':=[dD,cP,cP]) [0] r (jP y16) r r ⟨lr,trivial⟩ (hU mZ aC) r r r<|aN r (kJ r)<|cD (v:=aI) (us:=[aI]) (cs:=cP) (σ':=[dD,cP,cP]) r gA r r r r r r r r<|dT (fr':=[(0,aD),(2,bK),(3,eE),(5,aFu),(11,.ptrs [(2,1),(2,2),(2,3),(2,4),(2,5),(2,6),(2,7),(2,8)]),(12,aI),(13,aI)]) r<|dH<|cY<|bA<|aN r (zB (fY r r) (show _=.int .i64 (6:Int) from r))<|mI r<|dT (fr':=[(0,aD),(2,bK),(3,eE),(5,aFu),(11,.ptrs [(2,1),(2,2),(2,3),(2,4),(2,5),(2,6),(2,7),(2,8)]),(12,aI),(13,aI)]) r<|lM<|xM<|aU<|bA<|aN r (zB (gC r r) (show _=.bool true from r))<|aG (fr':=[(0,aD),(2,bK),(3,eE),(11,.ptrs [(2,1),(2,2),(2,3),(2,4),(2,5),(2,6),(2,7),(2,8)]),(12,aI),(13,aI),(14,aB)]) r r<|aU<|kD r<|bL<|cY<|aU<|cE<|aH<|aN r (oL (p:=(2,7)) uE r r r)<|aN r (jV vQ r)<|sV (v:=aM9) r<|aG (fr':=[(0,aD),(2,bK),(3,eE),(5,aM9),(11,.ptrs [(2,1),(2,2),(2,3),(2,4),(2,5),(2,6),(2,7),(2,8)]),(12,aI),(13,aI)]) r r<|bA<|mV (v:=aM9) r<|mV (v:=aD) r<|bx h17 fun x18 y18 h19=>eW (v:=aI) (σ':=[dD,cP,cP]) [0] r (jP y18) r r ⟨lr,trivial⟩ (hU mZ aC) r r r<|aN r (kJ r)<|cD (v:=aI) (us:=[aI]) (cs:=cP) (σ':=[dD,cP,cP]) r gA r r r r r r r r<|dT (fr':=[(0,aD),(2,bK),(3,eE),(5,aM9),(11,.ptrs [(2,1),(2,2),(2,3),(2,4),(2,5),(2,6),(2,7),(2,8)]),(12,aI),(13,aI)]) r<|dH<|cY<|bA<|aN r (zB (fY r r) (show _=.int .i64 (7:Int) from r))<|mI r<|dT (fr':=[(0,aD),(2,bK),(3,eE),(5,aM9),(11,.ptrs [(2,1),(2,2),(2,3),(2,4),(2,5),(2,6),(2,7),(2,8)]),(12,aI),(13,aI)]) r<|lM<|xM<|aU<|bA<|aN r (zB (gC r r) (show _=.bool true from r))<|aG (fr':=[(0,aD),(2,bK),(3,eE),(11,.ptrs [(2,1),(2,2),(2,3),(2,4),(2,5),(2,6),(2,7),(2,8)]),(12,aI),(13,aI),(14,aB)]) r r<|aU<|kD r<|bL<|cY<|aU<|cE<|aH<|aN r (oL (p:=(2,8)) uE r r r)<|aN r (jV vQ r)<|sV (v:=aNa) r<|aG (fr':=[(0,aD),(2,bK),(3,eE),(5,aNa),(11,.ptrs [(2,1),(2,2),(2,3),(2,4),(2,5),(2,6),(2,7),(2,8)]),(12,aI),(13,aI)]) r r<|bA<|mV (v:=aNa) r<|mV (v:=aD) r ?_
 obtain ⟨x20,y20,h21⟩:=lB h19
 refine eW (v:=aI) (σ':=[dD,cP,cP]) [0] r (jP y20) r r ⟨lr,trivial⟩ (hU mZ aC) r r r<|aN r (kJ r)<|cD (v:=aI) (us:=[aI]) (cs:=cP) (σ':=[dD,cP,cP]) r gA r r r r r r r r<|dT (fr':=[(0,aD),(2,bK),(3,eE),(5,aNa),(11,.ptrs [(2,1),(2,2),(2,3),(2,4),(2,5),(2,6),(2,7),(2,8)]),(12,aI),(13,aI)]) r<|dH<|cY<|bA<|aN r (zB (fY r r) (show _=.int .i64 (8:Int) from r))<|mI r<|dT (fr':=[(0,aD),(2,bK),(3,eE),(5,aNa),(11,.ptrs [(2,1),(2,2),(2,3),(2,4),(2,5),(2,6),(2,7),(2,8)]),(12,aI),(13,aI)]) r<|lM<|xM<|aU<|bA<|aN r (zB (gC r r) (show _=.bool false from r))<|aG (fr':=[(0,aD),(2,bK),(3,eE),(11,.ptrs [(2,1),(2,2),(2,3),(2,4),(2,5),(2,6),(2,7),(2,8)]),(12,aI),(13,aI),(14,aB)]) r r<|aU<|aCD r<|iA<|cX<|cX<|fS<|cY<|aH<|mV (v:=aD) r<|bx h21 fun x22 y22 h23=>eW (v:=aI) (σ':=[dD,cP,cP]) [0] r (jP y22) r r ⟨lr,trivial⟩ (hU mZ aC) r r r<|sI r<|aG (fr':=[(0,aD),(2,bK),(3,eE),(6,aI)]) r r<|bx h23 fun x24 y24 h25=>jR (fun j26=>x24=j26) (fun (j26:aX)=>([(0,aD),(2,bK),(3,eE),(6,ci x22.1)]:Fr)) (fun (j26:aX)=>([[.c (PV.ls 1 hF j26.b_),ci j26.at_,ci j26.err_,.c (.bool j26.made_)],[.c (.str ([]:List UInt8)),ci 0,ci 0,ci 0,ci 0,ci 0,ci 0,ci 0,ci 0,AV.nil],[.c (.str x1.1),ci x6.1,ci x8.1,ci x10.1,ci x12.1,ci x14.1,ci x16.1,ci x18.1,ci x20.1,AV.nil]]:St)) ?_ ?_
 ·
  refine aH<|mV (v:=aD) r<|bx y24 fun x27 y27 h28=>eW (v:=aI) (σ':=[dD,cP,cP]) [0] r (hS y27) r r ⟨lr,trivial⟩ (hU mZ aC) r r r<|aN r (cC r r)<|mB r<|og r r r (fun u=>(bS (v:=aI) r))<|bx h28 fun x29 y29 h30=>uP r r (fun u=>bC (v:=aB) r (oP (cZ y29 u)) ⟨(fH (gx r u) lr),lr,lr,trivial⟩ (gO (by repeat (first | exact fC | refine aZ r ?_ | refine aZ (rG r) ?_ | refine aZ rF ?_))) r r) ?_
  refine og r r r (fun u=>(fP (gx r u)))<|aN r (cB r r r (fun e=>fU e))<|aG (fr':=[(0,aD),(2,bK),(3,eE),(6,aI),(31,aB)]) r r<|cN h30 r (fun b31 h31=>?_) (fun b31 h31=>?_)
  ·
   exact bA<|mV (v:=aD) r<|bx h31 fun x32 y32 h33=>eW (v:=_) (σ':=[dD,cP,cP]) [0] r (nW y32) r r kU (hU mZ aC) r r r<|dT (fr':=[(0,aD),(2,bK),(3,eE),(6,aI),(31,aB)]) r<|kI _ (sy h33) (bH [] 3 r r r r kL4 (cV r (cV r (cV r aC))))
  ·
   exact bL<|kI _ (sy h31) (bH [] 3 r r r r kL4 (cV r (cV r (cV r aC))))
 ·
  intro j26 hj34
  subst hj34
  refine aU<|aH<|sI r<|aG (fr':=[(0,aD),(2,bK),(3,eE),(6,aI),(7,aI)]) r r<|bx h25 fun x35 y35 h36=>gY kS (fun j37=>x35=j37) (fun (j37:(aX × (List (List UInt8))))=>([(0,aD),(2,bK),(3,eE)]:Fr)) (fun (j37:(aX × (List (List UInt8))))=>([[.c (PV.ls 1 hF j37.1.b_),ci j37.1.at_,ci j37.1.err_,.c (.bool j37.1.made_)],[.c (.str ([]:List UInt8)),ci 0,ci 0,ci 0,ci 0,ci 0,ci 0,ci 0,ci 0,AV.nil],[.c (.str x1.1),ci x6.1,ci x8.1,ci x10.1,ci x12.1,ci x14.1,ci x16.1,ci x18.1,ci x20.1,AV.os 0 1 fZ j37.2]]:St)) ?_ ?_
  ·
   refine cE<|gU _ (fun (s38:(Int × aX × (List (List UInt8))))=>([(0,aD),(2,bK),(3,eE),(6,ci x22.1),(7,ci s38.1)]:Fr)) (fun (s38:(Int × aX × (List (List UInt8))))=>([[.c (PV.ls 1 hF s38.2.1.b_),ci s38.2.1.at_,ci s38.2.1.err_,.c (.bool s38.2.1.made_)],[.c (.str ([]:List UInt8)),ci 0,ci 0,ci 0,ci 0,ci 0,ci 0,ci 0,ci 0,AV.nil],[.c (.str x1.1),ci x6.1,ci x8.1,ci x10.1,ci x12.1,ci x14.1,ci x16.1,ci x18.1,ci x20.1,AV.os 0 1 fZ s38.2.2]]:St)) y35 (bH [1000000] 3 r r r r kL5 (cV r (cV r (aBU ⟨lr,lr,lr,lr,lr,lr,lr,lr,lr,(aC1 r),trivial⟩ aC)))) ?_
   intro s38 st38 hs38 ho38
   unfold qO at hs38
   obtain ⟨x39,y39,h40⟩:=lB hs38
   refine jR (fun j41=>x39=Fl.go j41) (fun (j41:Unit)=>([(0,aD),(2,bK),(3,eE),(6,ci x22.1),(7,ci s38.1)]:Fr)) (fun (j41:Unit)=>([[.c (PV.ls 1 hF s38.2.1.b_),ci s38.2.1.at_,ci s38.2.1.err_,.c (.bool s38.2.1.made_)],[.c (.str ([]:List UInt8)),ci 0,ci 0,ci 0,ci 0,ci 0,ci 0,ci 0,ci 0,AV.nil],[.c (.str x1.1),ci x6.1,ci x8.1,ci x10.1,ci x12.1,ci x14.1,ci x16.1,ci x18.1,ci x20.1,AV.os 0 1 fZ s38.2.2]]:St)) ?_ ?_
   ·
    refine aH<|mI r<|mI r<|aN r (gC r r)<|mB r<|aUX y39 (fun b42 h42=>?_) (fun b42 h42=>?_)
    ·
     refine yT r r b42<|mV (v:=aD) r<|yT r r b42<|bx h42 fun x43 y43 h44=>eW (v:=aI) (σ':=[dD,cP,[aS,aI,aI,aI,aI,aI,aI,aI,aI,aO]]) [0] r (hS y43) r r ⟨lr,trivial⟩ (hU mZ aC) r r r<|yT r r b42<|aN r (cC r r)<|aN r (aJO r b42 r)<|aG (fr':=[(0,aD),(2,bK),(3,eE),(6,aI),(7,aI),(41,aB)]) r r<|cN h44 r (fun b45 h45=>?_) (fun b45 h45=>?_)
     ·
      exact bL<|kI _ (sy h45) (bH [0] 3 r r r r kL5 (cV r (cV r (cV r aC))))
     ·
      refine iA<|cX<|cX<|fS ?_
      have h46:=gT h45 h40
      have h47:=eZ h46 ho38
      exact kI _ (sy h47) (bH [0] 3 r r r r lG (cV r (cV r (cV r aC))))
    ·
     refine aL5 r r b42<|aL5 r r b42<|aL5 r r b42<|aN r (aDh r b42 r)<|aG (fr':=[(0,aD),(2,bK),(3,eE),(6,aI),(7,aI),(41,aB)]) r r<|aCD r<|iA<|cX<|cX<|fS ?_
     have h48:=gT h42 h40
     have h49:=eZ h48 ho38
     exact kI _ (sy h49) (bH [0] 3 r r r r lG (cV r (cV r (cV r aC))))
   ·
    intro j41 hj50
    have h50:=mY hj50 h40
    refine aU<|cE<|mW [.q 0,.q 1,.q 2,.n 3 [0,1],.n 4 [0,1],.n 5 [],.q 6,.n 7 []] [(some 44,[3]),(some 45,[44]),(some 46,[0]),(some 47,[46]),(some 48,[47]),(some 49,[45,48]),(some 50,[3]),(none,[50,49])] [0,1,0,4,12,31,63,127] (by kernel_rfl)<|dq r r (bE uA r)<|dq r r (aJ (v:=aO) sE r r r)<|dq r r (bS (v:=aD) r)<|d_n r ?_ r
    obtain ⟨x51,y51,h52⟩:=lB h50
    refine eW (v:=aS) (σ':=[dD,cP,[aS,aI,aI,aI,aI,aI,aI,aI,aI,aO]]) [0] r (lQ y51) r r kU (hU mZ aC) r r r<|aEx<|⟨(aIC (v:=aT7) r r (aC3 r (bE uA r)) (aIC (v:=aO) r r (aC3 r (aJ (v:=aO) sE r r r)) xN)),?_⟩
    refine d_n r ?_ r
    refine sW (row:=fZ) (xs:=([x51.1]:List (List UInt8))) (rows:=[[_]]) (σ':=[dD,cP,[aS,aI,aI,aI,aI,aI,aI,aI,aI,aO]]) [0] aBI r r r (eI r mX) r r<|aEx<|⟨(aIC (v:=aT7) r r (aC3 r (bE uA r)) (aIC (v:=aO) r r (aC3 r (aJ (v:=aO) sE r r r)) xN)),?_⟩
    refine d_n r ?_ r
    obtain ⟨x53,y53,h54⟩:=lB h52
    refine aDg (row:=fZ) aBI r yZ r (rQ r) (fun _=>r) y53<|aEx<|⟨xN,?_⟩
    refine dq r r (bE uA r)<|d_n r ?_ r
    refine cD (v:=aO) (us:=[aO]) (cs:=dE) (σ':=[dD,cP,[aS,aI,aI,aI,aI,aI,aI,aI,aI,aO]]) r sE r r r r r r r r<|aEx<|⟨xN,?_⟩
    exact aVk (fr':=[(0,aD),(2,bK),(3,eE),(6,aI),(7,aI)]) r<|dH<|cY<|bA<|mI r<|aN r (fY r r)<|sI r<|dT (fr':=[(0,aD),(2,bK),(3,eE),(6,aI),(7,aI)]) r<|e_l _ (sy h54) (bH [784] 3 r r r r kL5 (cV r (cV r (cV r aC))))
  ·
   intro j37 hj55
   subst hj55
   refine cY<|bx h36 fun x56 y56 h57=>jR (fun j58=>x56=j58) (fun (j58:aX)=>([(0,aD),(2,bK),(3,eE)]:Fr)) (fun (j58:aX)=>([[.c (PV.ls 1 hF j58.b_),ci j58.at_,ci j58.err_,.c (.bool j58.made_)],[.c (.str ([]:List UInt8)),ci 0,ci 0,ci 0,ci 0,ci 0,ci 0,ci 0,ci 0,AV.nil],[.c (.str x1.1),ci x6.1,ci x8.1,ci x10.1,ci x12.1,ci x14.1,ci x16.1,ci x18.1,ci x20.1,AV.os 0 1 fZ x35.2]]:St)) ?_ ?_
   ·
    refine aH<|mV (v:=aD) r<|bx y56 fun x59 y59 h60=>eW (v:=aI) (σ':=[dD,cP,[aS,aI,aI,aI,aI,aI,aI,aI,aI,aO]]) [0] r (hS y59) r r ⟨lr,trivial⟩ (hU mZ aC) r r r<|aN r (cC r r)<|mB r<|og r r r (fun u=>(dN (us:=[aS,aI,aI,aI,aI,aI,aI,aI,aI,aO]) aAm r r r r))<|bx h60 fun x61 y61 h62=>uP r r (fun u=>bC (v:=aB) r (wS (cZ y61 u)) ⟨(fH (gx r u) (bQ r zX)),trivial⟩ (gO (by repeat (first | exact fC | refine aZ r ?_ | refine aZ (rG r) ?_ | refine aZ rF ?_))) r r) ?_
    refine og r r r (fun u=>(fP (gx r u)))<|aN r (cB r r r (fun e=>fU e))<|aG (fr':=[(0,aD),(2,bK),(3,eE),(58,aB)]) r r<|cN h62 r (fun b63 h63=>?_) (fun b63 h63=>?_)
    ·
     exact bA<|mV (v:=aD) r<|bx h63 fun x64 y64 h65=>eW (v:=_) (σ':=[dD,cP,[aS,aI,aI,aI,aI,aI,aI,aI,aI,aO]]) [0] r (nW y64) r r kU (hU mZ aC) r r r<|dT (fr':=[(0,aD),(2,bK),(3,eE),(58,aB)]) r<|kI _ (sy h65) (bH [0] 3 r r r r lG (cV r (cV r (cV r aC))))
    ·
     exact bL<|kI _ (sy h63) (bH [0] 3 r r r r lG (cV r (cV r (cV r aC))))
   ·
    intro j58 hj66
    subst hj66
    refine aU<|aH<|mV (v:=aD) r<|bx h57 fun x67 y67 h68=>eW (v:=aI) (σ':=[dD,cP,[aS,aI,aI,aI,aI,aI,aI,aI,aI,aO]]) [0] r (hS y67) r r ⟨lr,trivial⟩ (hU mZ aC) r r r<|aN r (iY r r)<|aG (fr':=[(2,bK),(3,eE),(63,aB)]) r r<|cN h68 r (fun b69 h69=>?_) (fun b69 h69=>?_)
    ·
     refine aH<|aN r (jY (c0:=cP) (cs:=cP) aRa r jX)<|cD (v:=.agg cP) (us:=cP) (cs:=cP) (σ':=[dD,cP,[aS,aI,aI,aI,aI,aI,aI,aI,aI,aO]]) r aAm r r r r r r r r<|aG (fr':=[(2,bK)]) r r<|bJ<|aQ ?_
     obtain rfl:=sy h69
     exact bI (rs':=[.cell 2 28]) r<|eN (us:=cP) (cs:=cP) aAm r r r r<|bG<|aP [] r r r (bQ r ⟨r,r,r,r,r,r,r,r,r,⟨_,r⟩,trivial⟩) (hU mZ aC)
    ·
     refine bL<|cY<|aH<|aN r (dN (us:=[aS,aI,aI,aI,aI,aI,aI,aI,aI,aO]) aAm r r r r)<|cD (v:=.agg [aS,aI,aI,aI,aI,aI,aI,aI,aI,aO]) (us:=[aS,aI,aI,aI,aI,aI,aI,aI,aI,aO]) (cs:=cP) (σ':=[dD,[aS,aI,aI,aI,aI,aI,aI,aI,aI,aO],[aS,aI,aI,aI,aI,aI,aI,aI,aI,aO]]) r aAm r r r r r r r r<|aG (fr':=[(2,bK)]) r r<|bJ ?_
     obtain rfl:=sy h69
     exact bI (rs':=[.cell 2 28]) r<|eN (us:=[aS,aI,aI,aI,aI,aI,aI,aI,aI,aO]) (cs:=[aS,aI,aI,aI,aI,aI,aI,aI,aI,aO]) aAm r r r r<|bG<|aP [] r r r (bQ r zX) (hU mZ aC)
