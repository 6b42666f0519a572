import Derived.Test.YtnigjppddilpcaaGreatDoorGETy
import Derived.Test.YtnigjppddilpcaaGreatDoorGEF0
import Derived.Test.YtnigjppddilpcaaGreatDoorGEF1
namespace Go.Proofs.YtnigjppddilpcaaGreatDoor
open Go Abs
set_option maxRecDepth 100000
set_option linter.unusedVariables false
set_option linter.unusedSimpArgs false
noncomputable def tG (jT:Int):Option iP :=
 cond (decide (jT=1)) (some (iP.mk true true false false true true)) (((cond (decide (jT=2)) (some (decide (jT=2))) (some (decide (jT=4)))):Option Bool).bind fun x3=>(cond x3 (some (iP.mk true false false false false false)) (cond (decide (jT=3)) (some (iP.mk true false false true false false)) (cond (decide (jT=5)) (some (iP.mk true true true true true false)) (cond (decide (jT=6)) (some (iP.mk true true true false true false)) (cond (decide (jT=7)) (some (iP.mk false true false true true false)) (cond (decide (jT=8)) (some (iP.mk false true true false true false)) (cond (decide (jT=9)) (some (iP.mk false false true true true false)) (cond (decide (jT=12)) (some (iP.mk false true false false true false)) (some (iP.mk false false false false true false)))))))))))
theorem aFg {jT:Int}{z:iP} (h:tG jT=some z):dE Tryz.prog 164 [ci jT] [] (.agg (AV.cs (aCA z))) []:=by
 unfold tG at h
 refine eJ (fn:=Tryz.f164) [0,2,3,4,7,11,14,17,20,23,26,29] (by kernel_rfl) Tryz.func164 r (by kernel_rfl) (by kernel_rfl)<|aT<|kT (n:=0) (cs:=dX) (σ':=[dX]) aPz r r r<|aR (fr':=[(0,aI),(2,aF)]) r r<|bC<|aT<|mI r<|aR (fr':=[(2,aF),(3,aI)]) r r<|dA<|bC<|bN<|aW r (dZ r r)<|sB r<|aR (fr':=[(2,aF),(3,aI),(4,aB)]) r r<|eS h r (fun b1 h1=>?_) (fun b1 h1=>?_)
 ·
  refine aT<|aW r (mG (cs:=dX) aDu r)<|cY (v:=.agg dX) (us:=dX) (cs:=dX) (σ':=[dX]) r uK r r r r r r r r<|aR (fr':=[(2,aF)]) r r<|cB<|cL<|aV ?_
  obtain rfl:=sy h1
  exact bZ (rs':=[.cell 2 160]) r<|hZ (us:=dX) (cs:=dX) uK r r r r<|bX<|aZ [] r r r (bV r kR6) aH
 ·
  obtain ⟨x3,y3,h4⟩:=rB h1
  refine rH (fun j5=>x3=j5) (fun (j5:Bool)=>([(2,aF),(3,ci jT),(7,.c (.bool j5))]:Fr)) (fun (j5:Bool)=>([[.c (.bool false),.c (.bool false),.c (.bool false),.c (.bool false),.c (.bool false),.c (.bool false)]]:St)) ?_ ?_
  ·
   refine aT<|aW r (dZ r r)<|sB r<|aR (fr':=[(2,aF),(3,aI),(7,aB)]) r r<|eS y3 r (fun b6 h6=>?_) (fun b6 h6=>?_)
   ·
    exact cE<|tB _ (sy h6) (cR [] 1 r r r r wE (eU r aH))
   ·
    exact bN<|aW r (dZ r r)<|sB r<|fG (fr':=[(2,aF),(3,aI),(7,aB)]) r<|tB _ (sy h6) (cR [] 1 r r r r wE (eU r aH))
  ·
   intro j5 hj7
   subst hj7
   refine eS h4 r (fun b8 h8=>?_) (fun b8 h8=>?_)
   ·
    refine aT<|aW r (mG (cs:=dX) aDu r)<|cY (v:=.agg dX) (us:=dX) (cs:=dX) (σ':=[dX]) r uK r r r r r r r r<|aR (fr':=[(2,aF)]) r r<|cB<|cL<|aV ?_
    obtain rfl:=sy h8
    exact bZ (rs':=[.cell 2 160]) r<|hZ (us:=dX) (cs:=dX) uK r r r r<|bX<|aZ [] r r r (bV r kR6) aH
   ·
    refine aT<|aW r (dZ r r)<|sB r<|aR (fr':=[(2,aF),(3,aI),(11,aB)]) r r<|eS h8 r (fun b10 h10=>?_) (fun b10 h10=>?_)
    ·
     refine aT<|aW r (mG (cs:=dX) aDu r)<|cY (v:=.agg dX) (us:=dX) (cs:=dX) (σ':=[dX]) r uK r r r r r r r r<|aR (fr':=[(2,aF)]) r r<|cB<|cL<|aV ?_
     obtain rfl:=sy h10
     exact bZ (rs':=[.cell 2 160]) r<|hZ (us:=dX) (cs:=dX) uK r r r r<|bX<|aZ [] r r r (bV r kR6) aH
    ·
     refine aT<|aW r (dZ r r)<|sB r<|aR (fr':=[(2,aF),(3,aI),(14,aB)]) r r<|eS h10 r (fun b12 h12=>?_) (fun b12 h12=>?_)
     ·
      refine aT<|aW r (mG (cs:=dX) aDu r)<|cY (v:=.agg dX) (us:=dX) (cs:=dX) (σ':=[dX]) r uK r r r r r r r r<|aR (fr':=[(2,aF)]) r r<|cB<|cL<|aV ?_
      obtain rfl:=sy h12
      exact bZ (rs':=[.cell 2 160]) r<|hZ (us:=dX) (cs:=dX) uK r r r r<|bX<|aZ [] r r r (bV r kR6) aH
     ·
      refine aT<|aW r (dZ r r)<|sB r<|aR (fr':=[(2,aF),(3,aI),(17,aB)]) r r<|eS h12 r (fun b14 h14=>?_) (fun b14 h14=>?_)
      ·
       refine aT<|aW r (mG (cs:=dX) aDu r)<|cY (v:=.agg dX) (us:=dX) (cs:=dX) (σ':=[dX]) r uK r r r r r r r r<|aR (fr':=[(2,aF)]) r r<|cB<|cL<|aV ?_
       obtain rfl:=sy h14
       exact bZ (rs':=[.cell 2 160]) r<|hZ (us:=dX) (cs:=dX) uK r r r r<|bX<|aZ [] r r r (bV r kR6) aH
      ·
       refine aT<|aW r (dZ r r)<|sB r<|aR (fr':=[(2,aF),(3,aI),(20,aB)]) r r<|eS h14 r (fun b16 h16=>?_) (fun b16 h16=>?_)
       ·
        refine aT<|aW r (mG (cs:=dX) aDu r)<|cY (v:=.agg dX) (us:=dX) (cs:=dX) (σ':=[dX]) r uK r r r r r r r r<|aR (fr':=[(2,aF)]) r r<|cB<|cL<|aV ?_
        obtain rfl:=sy h16
        exact bZ (rs':=[.cell 2 160]) r<|hZ (us:=dX) (cs:=dX) uK r r r r<|bX<|aZ [] r r r (bV r kR6) aH
       ·
        refine aT<|aW r (dZ r r)<|sB r<|aR (fr':=[(2,aF),(3,aI),(23,aB)]) r r<|eS h16 r (fun b18 h18=>?_) (fun b18 h18=>?_)
        ·
         refine aT<|aW r (mG (cs:=dX) aDu r)<|cY (v:=.agg dX) (us:=dX) (cs:=dX) (σ':=[dX]) r uK r r r r r r r r<|aR (fr':=[(2,aF)]) r r<|cB<|cL<|aV ?_
         obtain rfl:=sy h18
         exact bZ (rs':=[.cell 2 160]) r<|hZ (us:=dX) (cs:=dX) uK r r r r<|bX<|aZ [] r r r (bV r kR6) aH
        ·
         refine aT<|aW r (dZ r r)<|sB r<|aR (fr':=[(2,aF),(3,aI),(26,aB)]) r r<|eS h18 r (fun b20 h20=>?_) (fun b20 h20=>?_)
         ·
          refine aT<|aW r (mG (cs:=dX) aDu r)<|cY (v:=.agg dX) (us:=dX) (cs:=dX) (σ':=[dX]) r uK r r r r r r r r<|aR (fr':=[(2,aF)]) r r<|cB<|cL<|aV ?_
          obtain rfl:=sy h20
          exact bZ (rs':=[.cell 2 160]) r<|hZ (us:=dX) (cs:=dX) uK r r r r<|bX<|aZ [] r r r (bV r kR6) aH
         ·
          refine aT<|aW r (dZ r r)<|sB r<|aR (fr':=[(2,aF),(29,aB)]) r r<|eS h20 r (fun b22 h22=>?_) (fun b22 h22=>?_)
          ·
           refine aT<|aW r (mG (cs:=dX) aDu r)<|cY (v:=.agg dX) (us:=dX) (cs:=dX) (σ':=[dX]) r uK r r r r r r r r<|aR (fr':=[(2,aF)]) r r<|cB<|cL<|aV ?_
           obtain rfl:=sy h22
           exact bZ (rs':=[.cell 2 160]) r<|hZ (us:=dX) (cs:=dX) uK r r r r<|bX<|aZ [] r r r (bV r kR6) aH
          ·
           refine cE<|eW<|eA<|aT<|aW r (mG (cs:=dX) aDu r)<|cY (v:=.agg dX) (us:=dX) (cs:=dX) (σ':=[dX]) r uK r r r r r r r r<|aR (fr':=[(2,aF)]) r r<|cB ?_
           obtain rfl:=sy h22
           exact bZ (rs':=[.cell 2 160]) r<|hZ (us:=dX) (cs:=dX) uK r r r r<|bX<|aZ [] r r r (bV r kR6) aH
noncomputable def lJ (qC:(List (List UInt8))) (sH:(List (List UInt8))) (s6:Int):Option (dG Int (Fl Bool Unit)) :=
 cond (decide (s6<((qC).length:Int))) ((nF qC s6).bind fun x8=>(nF sH s6).bind fun x10=>cond (!decide (x8=x10)) (some (dG.out (Fl.done false))) (some (dG.next (IntKind.wrap .i64 (s6+1))))) (some (dG.out (Fl.go ())))
noncomputable def jO (qC:(List (List UInt8))) (sH:(List (List UInt8))):Option Bool :=
 cond (!decide (((qC).length:Int)=((sH).length:Int))) (some false) ((fX (lJ qC sH) (0)).bind fun x3=>Fl.next x3 (fun j5=>(some true)))
theorem rZ {qC:(List (List UInt8))}{sH:(List (List UInt8))}{z:Bool} (h:jO qC sH=some z):dE Tryz.prog 171 [.c (PV.ls 1 jE qC),.c (PV.ls 1 jE sH)] [] (.c (.bool z)) []:=by
 unfold jO at h
 refine eJ (fn:=Tryz.f171) [0,1,4,5,10,12,13,14,24] (by kernel_rfl) Tryz.func171 r (by kernel_rfl) (by kernel_rfl)<|aT<|sB r<|aR (fr':=[(0,aL),(1,aL)]) r r<|bC<|aT<|mL r<|aW r (iR aBi (fQ r))<|mL r<|aW r (iR aBi (fQ r))<|aW r (kD r r)<|aR (fr':=[(0,aL),(1,aL),(10,aB)]) r r<|eS h r (fun b1 h1=>?_) (fun b1 h1=>?_)
 ·
  refine aT<|sB r<|aR (fr':=[(4,aB)]) r r<|cB<|aV ?_
  obtain rfl:=sy h1
  exact bZ (rs':=[.tmp 4]) r<|cM (v:=aB) r<|bX<|aZ [] r r r lr aH
 ·
  refine cE<|eA<|bC<|aT<|mL r<|aW r (iR aBi (fQ r))<|mI r<|aR (fr':=[(0,aL),(1,aL),(12,aI),(13,aI)]) r r<|bx h1 fun x3 y3 h4=>kC pL (fun j5=>x3=Fl.go j5) (fun (j5:Unit)=>([]:Fr)) (fun (j5:Unit)=>([]:St)) ?_ ?_
  ·
   refine dA<|jS _ (fun (s6:Int)=>([(0,.c (PV.ls 1 jE qC)),(1,.c (PV.ls 1 jE sH)),(12,ci ((qC).length:Int)),(13,ci s6)]:Fr)) (fun (s6:Int)=>([]:St)) y3 (cR [] 0 r r r r kL4 aH) ?_
   intro s6 st6 hs6 ho6
   unfold lJ at hs6
   refine aT<|aW r (iJ r r)<|aR (fr':=[(0,aL),(1,aL),(12,aI),(13,aI),(14,aB)]) r r<|bC<|eS hs6 r (fun b7 h7=>?_) (fun b7 h7=>?_)
   ·
    refine cE<|eA<|bC<|dA<|aT<|mI r<|sI r<|aR (fr':=[(0,aL),(1,aL),(5,aI),(12,aI),(13,aI)]) r r<|bC<|lS [.q 0,.q 1,.q 2,.q 3,.q 4,.q 5,.q 6,.q 7,.q 8] [(some 16,[0]),(some 17,[5]),(some 18,[16,17]),(some 19,[18]),(some 20,[1]),(some 21,[5]),(some 22,[20,21]),(some 23,[22]),(some 24,[19,23])] [0,0,3,7,0,0,48,112,255] (by kernel_rfl)<|dq r r (bP (v:=aL) r)<|dq r r (bP (v:=aI) r)<|bx h7 fun x8 y8 h9=>dq r r (rD (cs:=[PV.str _]) aBQ (fQ r) r y8 r)<|dq r r (nR (p:=PV.str _) oG r r)<|dq r r (bP (v:=aL) r)<|dq r r (bP (v:=aI) r)<|bx h9 fun x10 y10 h11=>dq r r (rD (cs:=[PV.str _]) aBQ (fQ r) r y10 r)<|dq r r (nR (p:=PV.str _) oG r r)<|dq r r (vJ r r)<|zJ (fr':=[(0,aL),(1,aL),(12,aI),(13,aI),(24,aB)]) r r<|eS h11 r (fun b12 h12=>?_) (fun b12 h12=>?_)
    ·
     refine aT<|sB r<|aR (fr':=[(4,aB)]) r r<|cB<|cL<|aV<|aV<|cL<|aV<|aV ?_
     have h13:=gN h12 ho6
     have h14:=hU h13 h4
     obtain rfl:=sy h14
     exact bZ (rs':=[.tmp 4]) r<|cM (v:=aB) r<|bX<|aZ [] r r r lr aH
    ·
     exact cE<|eW<|eA<|bN<|aW r (iH r r)<|mI r<|fG (fr':=[(0,aL),(1,aL),(12,aI),(13,aI),(24,aB)]) r<|e_l _ (sy h12) (cR [] 0 r r r r kL4 aH)
   ·
    refine kF<|eL<|eL<|iM ?_
    have h16:=gN h7 ho6
    exact tB _ (sy h16) (cR [] 0 r r r r trivial aH)
  ·
   intro j5 hj17
   have h17:=qP hj17 h4
   refine eA<|aT<|sB r<|aR (fr':=[(4,aB)]) r r<|cB ?_
   obtain rfl:=sy h17
   exact bZ (rs':=[.tmp 4]) r<|cM (v:=aB) r<|bX<|aZ [] r r r lr aH
noncomputable def fB (aHd:aE→aE→Option Bool) (qC:(List aE)) (sH:(List aE)) (s6:Int):Option (dG Int (Fl Bool Unit)) :=
 cond (decide (s6<((qC).length:Int))) ((nF qC s6).bind fun x8=>(nF sH s6).bind fun x10=>(aHd x8 x10).bind fun x12=>cond (!x12) (some (dG.out (Fl.done false))) (some (dG.next (IntKind.wrap .i64 (s6+1))))) (some (dG.out (Fl.go ())))
mutual
noncomputable def dP:Nat→(List aE)→(List aE)→Option Bool
 | 0,_,_=>none
 | n+1,qC,sH =>
  cond (!decide (((qC).length:Int)=((sH).length:Int))) (some false) ((fX (fB (tW n) qC sH) (0)).bind fun x3=>Fl.next x3 (fun j5=>(some true)))
noncomputable def tW:Nat→aE→aE→Option Bool
 | 0,_,_=>none
 | n+1,p0a,p1b =>
  (gd ((cond (cond (decide (p0a.Kind=p1b.Kind)) (decide (p0a.Int=p1b.Int)) false) (decide (p0a.Text=p1b.Text)) false)==true) (jO p0a.Keys p1b.Keys)).bind fun x1=>(gd ((cond (cond (cond (decide (p0a.Kind=p1b.Kind)) (decide (p0a.Int=p1b.Int)) false) (decide (p0a.Text=p1b.Text)) false) x1 false)==true) ((dP n) p0a.Items p1b.Items)).bind fun x3=>some (cond (cond (cond (cond (decide (p0a.Kind=p1b.Kind)) (decide (p0a.Int=p1b.Int)) false) (decide (p0a.Text=p1b.Text)) false) x1 false) x3 false)
end
theorem lF:∀ n:Nat,(∀ {qC:(List aE)}{sH:(List aE)}{z:Bool},dP n qC sH=some z→dE Tryz.prog 172 [.c (PV.ls 5 cH qC),.c (PV.ls 5 cH sH),.fn 116 []] [] (.c (.bool z)) [])∧(∀ {p0a:aE}{p1b:aE}{z:Bool},tW n p0a p1b=some z→dE Tryz.prog 116 [.agg (AV.cs (fZ p0a)),.agg (AV.cs (fZ p1b))] [] (.c (.bool z)) []):=by
 intro n
 induction n with
 | zero=>exact ⟨fun {qC sH z} h=>absurd h (by simp [dP]),fun {p0a p1b z} h=>absurd h (by simp [tW])⟩
 | succ n ih =>
  obtain ⟨ih_slices_EqualFunc_api_Value_api_Value_api_Value_api_Value_value_Same,ih_value_Same⟩:=ih
  refine ⟨?_,?_⟩
  ·
   intro qC sH z h
   rw [dP] at h
   refine eJ (fn:=Tryz.f172) [0,1,2,6,7,8,9,14,15,16,17,18,30] (by kernel_rfl) Tryz.func172 r (by kernel_rfl) (by kernel_rfl)<|aT<|sB r<|aR (fr':=[(0,aL),(1,aL),(2,.fn _ [])]) r r<|bC<|aT<|mL r<|aW r (iR aCa (fQ r))<|mL r<|aW r (iR aCa (fQ r))<|aW r (kD r r)<|aR (fr':=[(0,aL),(1,aL),(2,.fn _ []),(14,aB)]) r r<|eS h r (fun b1 h1=>?_) (fun b1 h1=>?_)
   ·
    refine aT<|sB r<|aR (fr':=[(6,aB)]) r r<|cB<|aV ?_
    obtain rfl:=sy h1
    exact bZ (rs':=[.tmp 6]) r<|cM (v:=aB) r<|bX<|aZ [] r r r lr aH
   ·
    refine cE<|eA<|bC<|aT<|mL r<|aW r (iR aCa (fQ r))<|mI r<|aR (fr':=[(1,aL),(2,.fn _ []),(15,aL),(16,aI),(17,aI)]) r r<|bx h1 fun x3 y3 h4=>kC pL (fun j5=>x3=Fl.go j5) (fun (j5:Unit)=>([]:Fr)) (fun (j5:Unit)=>([]:St)) ?_ ?_
    ·
     refine dA<|jS _ (fun (s6:Int)=>([(1,.c (PV.ls 5 cH sH)),(2,.fn 116 []),(15,.c (PV.ls 5 cH qC)),(16,ci ((qC).length:Int)),(17,ci s6)]:Fr)) (fun (s6:Int)=>([]:St)) y3 (cR [] 0 r r r r kL5 aH) ?_
     intro s6 st6 hs6 ho6
     unfold fB at hs6
     refine aT<|aW r (iJ r r)<|aR (fr':=[(1,aL),(2,.fn _ []),(15,aL),(16,aI),(17,aI),(18,aB)]) r r<|bC<|eS hs6 r (fun b7 h7=>?_) (fun b7 h7=>?_)
     ·
      refine cE<|eA<|bC<|dA<|aT<|mI r<|bx h7 fun x8 y8 h9=>aW r (rD (cs:=[PV.int _ _,PV.int _ _,PV.str _,PV.ls _ _ _,PV.ls _ _ _]) aDc (fQ r) r y8 (hF _))<|aW r (lV (us:=[PV.int _ _,PV.int _ _,PV.str _,PV.ls _ _ _,PV.ls _ _ _]) jG r r r)<|kT (n:=0) (cs:=cJ) (σ':=[cJ]) aF3 r r r<|sI r<|cY (v:=.agg cK) (us:=cK) (cs:=cJ) (σ':=[cK]) r jG r r r r r r r r<|aR (fr':=[(1,aL),(2,.fn _ []),(7,aI),(8,aF),(15,aL),(16,aI),(17,aI)]) r r<|aT<|mL r<|mI r<|bx h9 fun x10 y10 h11=>aW r (rD (cs:=[PV.int _ _,PV.int _ _,PV.str _,PV.ls _ _ _,PV.ls _ _ _]) aDc (fQ r) r y10 (hF _))<|aW r (lV (us:=[PV.int _ _,PV.int _ _,PV.str _,PV.ls _ _ _,PV.ls _ _ _]) jG r r r)<|kT (n:=1) (cs:=cJ) (σ':=[cK,cJ]) aF3 r r r<|cY (v:=.agg cK) (us:=cK) (cs:=cJ) (σ':=[cK,cK]) r jG r r r r r r r r<|aR (fr':=[(1,aL),(2,.fn _ []),(8,aF),(9,bK),(15,aL),(16,aI),(17,aI)]) r r<|aT<|mV (v:=.fn _ []) r<|aW r (dN (us:=cK) jG r r r r)<|aW r (dN (us:=cK) jG r r r r)<|bx h11 fun x12 y12 h13=>qB (bR (v:=aB) r (ih_value_Same y12) ⟨(bV r kR5),(bV r kR5),trivial⟩ r r r)<|aW r (hY r)<|aR (fr':=[(1,aL),(2,.fn _ []),(15,aL),(16,aI),(17,aI),(30,aB)]) r r<|eS h13 r (fun b14 h14=>?_) (fun b14 h14=>?_)
      ·
       refine aT<|sB r<|aR (fr':=[(6,aB)]) r r<|cB<|cL<|aV<|aV<|cL<|aV<|aV ?_
       have h15:=gN h14 ho6
       have h16:=hU h15 h4
       obtain rfl:=sy h16
       exact bZ (rs':=[.tmp 6]) r<|cM (v:=aB) r<|bX<|aZ [] r r r lr aH
      ·
       exact cE<|eW<|eA<|bN<|aW r (iH r r)<|mI r<|fG (fr':=[(1,aL),(2,.fn _ []),(15,aL),(16,aI),(17,aI),(30,aB)]) r<|e_l _ (sy h14) (cR [] 0 r r r r kL5 aH)
     ·
      refine kF<|eL<|eL<|iM ?_
      have h18:=gN h7 ho6
      exact tB _ (sy h18) (cR [] 0 r r r r trivial aH)
    ·
     intro j5 hj19
     have h19:=qP hj19 h4
     refine eA<|aT<|sB r<|aR (fr':=[(6,aB)]) r r<|cB ?_
     obtain rfl:=sy h19
     exact bZ (rs':=[.tmp 6]) r<|cM (v:=aB) r<|bX<|aZ [] r r r lr aH
  ·
   intro p0a p1b z h
   rw [tW] at h
   refine eJ (fn:=Tryz.f116) [0,1,2,3,4] (by kernel_rfl) Tryz.func116 r (by kernel_rfl) (by kernel_rfl)<|aT<|jB (v:=.agg cK) (n:=0) (cs:=cK) (σ':=[cK]) r r r r r<|jB (v:=.agg cK) (n:=1) (cs:=cK) (σ':=[cK,cK]) r r r r r<|sB r<|aR (fr':=[(2,aF),(3,bK)]) r r<|aT<|aW r (bH sP r)<|aW r (aK (v:=aI) gZ r r r)<|aW r (bH sP r)<|aW r (aK (v:=aI) gZ r r r)<|aW r (dZ r r)<|mB r<|og r r r (fun u=>(bH xR r))<|og r r r (fun u=>(aK (v:=aI) gZ (gx r u) r r))<|og r r r (fun u=>(bH xR r))<|og r r r (fun u=>(aK (v:=aI) gZ (gx r u) r r))<|og r r r (fun u=>(dZ (gx r u) (gx r u)))<|aW r (cD r r r (fun e=>hD e))<|mB r<|og r r r (fun u=>(bH aA7 r))<|og r r r (fun u=>(aK (v:=aS) oG (gx r u) r r))<|og r r r (fun u=>(bH aA7 r))<|og r r r (fun u=>(aK (v:=aS) oG (gx r u) r r))<|og r r r (fun u=>(oS (gx r u) (gx r u)))<|aW r (cD r r r (fun e=>hD e))<|mB r<|og r r r (fun u=>(bH vO r))<|og r r r (fun u=>(aK (v:=aL) wD (gx r u) r r))<|og r r r (fun u=>(bH vO r))<|og r r r (fun u=>(aK (v:=aL) wD (gx r u) r r))<|bx h fun x1 y1 h2=>zB r r (fun u=>bR (v:=aB) r (rZ (eQ y1 u)) ⟨(fY (gx r u) lr),(fY (gx r u) lr),trivial⟩ (iN (by repeat (first | exact gK | refine bI r ?_ | refine bI (vT r) ?_ | refine bI vS ?_))) r r) ?_
   refine aW r (cD r r r (fun e=>hD e))<|mB r<|og r r r (fun u=>(bH pE r))<|og r r r (fun u=>(aK (v:=aL) zT (gx r u) r r))<|og r r r (fun u=>(bH pE r))<|og r r r (fun u=>(aK (v:=aL) zT (gx r u) r r))<|bx h2 fun x3 y3 h4=>zB r r (fun u=>bR (v:=aB) r (ih_slices_EqualFunc_api_Value_api_Value_api_Value_api_Value_value_Same (eQ y3 u)) ⟨(fY (gx r u) lr),(fY (gx r u) lr),lr,trivial⟩ (iN (by repeat (first | exact gK | refine bI r ?_ | refine bI (vT r) ?_ | refine bI vS ?_))) r r) ?_
   refine aW r (cD r r r (fun e=>hD e))<|sB r<|aR (fr':=[(4,aB)]) r r<|cB ?_
   obtain rfl:=sy h4
   exact bZ (rs':=[.tmp 4]) r<|cM (v:=aB) r<|bX<|aZ [] r r r lr aH
noncomputable def tV (p0a:aE) (p1b:aE):Option Bool:=lim fun n=>tW n p0a p1b
theorem uI {p0a:aE}{p1b:aE}{z:Bool} (h:tV p0a p1b=some z):dE Tryz.prog 116 [.agg (AV.cs (fZ p0a)),.agg (AV.cs (fZ p1b))] [] (.c (.bool z)) []:=by
 obtain ⟨n,hn⟩:=wK h
 exact (lF n).2 hn
noncomputable def jZ (p0a:dB) (p1b:dB):Option Bool :=
 (oR p0a).bind fun x1=>(oR p1b).bind fun x4=>cond (!decide (p0a.ToStart=p1b.ToStart)) (some false) (cond (!decide (p0a.ToClose=p1b.ToClose)) (some false) (cond (!decide (p0a.Total=p1b.Total)) (some false) (cond (!decide (p0a.Beat=p1b.Beat)) (some false) (cond (!decide (p0a.First=p1b.First)) (some false) (cond (!decide (p0a.Coef=p1b.Coef)) (some false) (cond (!decide (p0a.Most=p1b.Most)) (some false) (cond (!decide (p0a.Attempts=p1b.Attempts)) (some false) ((gd ((decide (p0a.Queue=p1b.Queue))==true) (jO p0a.Fatal p1b.Fatal)).bind fun x23=>some (cond (decide (p0a.Queue=p1b.Queue)) x23 false)))))))))
theorem oD {p0a:dB}{p1b:dB}{z:Bool} (h:jZ p0a p1b=some z):dE Tryz.prog 117 [.agg (AV.cs (nS p0a)),.agg (AV.cs (nS p1b))] [] (.c (.bool z)) []:=by
 unfold jZ at h
 refine eJ (fn:=Tryz.f117) [0,1,2,3,4,5,6,7,11,12,13,27] (by kernel_rfl) Tryz.func117 r (by kernel_rfl) (by kernel_rfl)<|aT<|jB (v:=.agg dK) (n:=0) (cs:=dK) (σ':=[dK]) r r r r r<|jB (v:=.agg dK) (n:=1) (cs:=dK) (σ':=[dK,dK]) r r r r r<|sB r<|aR (fr':=[(2,aF),(3,bK)]) r r<|bC<|bN<|bx h fun x1 y1 h2=>aAJ (v:=.ptrs [(0,1),(0,2),(0,3),(0,4),(0,5),(0,6),(0,7),(0,8)]) (σ':=[dK,dK]) 8 [0] [] r (xA y1) r r r ⟨lr,trivial⟩ (hO yM aH) r r r<|bx h2 fun x4 y4 h5=>aAJ (v:=.ptrs [(1,1),(1,2),(1,3),(1,4),(1,5),(1,6),(1,7),(1,8)]) (σ':=[dK,dK]) 9 [1] [] r (xA y4) r r r ⟨lr,trivial⟩ (hO yM aH) r r r<|sV (v:=.ptrs [(0,1),(0,2),(0,3),(0,4),(0,5),(0,6),(0,7),(0,8)]) r<|sV (v:=.ptrs [(1,1),(1,2),(1,3),(1,4),(1,5),(1,6),(1,7),(1,8)]) r<|aR (fr':=[(2,aF),(3,bK),(5,.ptrs [(0,1),(0,2),(0,3),(0,4),(0,5),(0,6),(0,7),(0,8)]),(6,.ptrs [(1,1),(1,2),(1,3),(1,4),(1,5),(1,6),(1,7),(1,8)])]) r r<|bC<|aT<|mV (v:=.ptrs [(0,1),(0,2),(0,3),(0,4),(0,5),(0,6),(0,7),(0,8)]) r<|aW r (aMa aRK r)<|mI r<|aR (fr':=[(2,aF),(3,bK),(5,.ptrs [(0,1),(0,2),(0,3),(0,4),(0,5),(0,6),(0,7),(0,8)]),(6,.ptrs [(1,1),(1,2),(1,3),(1,4),(1,5),(1,6),(1,7),(1,8)]),(11,aI),(12,aI)]) r r<|dA<|aPD 64<|xK<|aT<|aW r (yO (iJ r r) (show _=.bool true from r))<|aR (fr':=[(2,aF),(3,bK),(5,.ptrs [(0,1),(0,2),(0,3),(0,4),(0,5),(0,6),(0,7),(0,8)]),(6,.ptrs [(1,1),(1,2),(1,3),(1,4),(1,5),(1,6),(1,7),(1,8)]),(11,aI),(12,aI),(13,aB)]) r r<|bC<|kQ r<|cE<|eA<|bC<|dA<|bC<|bN<|mI r<|sI r<|aR (fr':=[(2,aF),(3,bK),(5,.ptrs [(0,1),(0,2),(0,3),(0,4),(0,5),(0,6),(0,7),(0,8)]),(6,.ptrs [(1,1),(1,2),(1,3),(1,4),(1,5),(1,6),(1,7),(1,8)]),(7,aI),(11,aI),(12,aI)]) r r<|bC<|lS [.q 0,.q 1,.q 2,.q 3,.q 4,.q 5,.q 6,.q 7,.q 8,.q 9,.q 10,.q 11,.q 12] [(some 15,[5]),(some 16,[7]),(some 17,[15,16]),(some 18,[17]),(some 19,[18]),(some 20,[19]),(some 21,[6]),(some 22,[7]),(some 23,[21,22]),(some 24,[23]),(some 25,[24]),(some 26,[25]),(some 27,[20,26])] [0,0,3,7,15,31,0,0,192,448,960,1984,4095] (by kernel_rfl)<|dq r r (bP (v:=.ptrs [(0,1),(0,2),(0,3),(0,4),(0,5),(0,6),(0,7),(0,8)]) r)<|dq r r (bP (v:=aI) r)<|dq r r (pG (p:=(0,1)) uF r r r)<|dq r r (jQ uZ r)<|dq r r (jL r)<|dq r r (aK (v:=aI) gZ r r r)<|dq r r (bP (v:=.ptrs [(1,1),(1,2),(1,3),(1,4),(1,5),(1,6),(1,7),(1,8)]) r)<|dq r r (bP (v:=aI) r)<|dq r r (pG (p:=(1,1)) uF r r r)<|dq r r (jQ uZ r)<|dq r r (jL r)<|dq r r (aK (v:=aI) gZ r r r)<|dq r r (kD r r)<|zJ (fr':=[(2,aF),(3,bK),(5,.ptrs [(0,1),(0,2),(0,3),(0,4),(0,5),(0,6),(0,7),(0,8)]),(6,.ptrs [(1,1),(1,2),(1,3),(1,4),(1,5),(1,6),(1,7),(1,8)]),(11,aI),(12,aI),(27,aB)]) r r<|eS h5 r (fun b7 h7=>?_) (fun b7 h7=>?_)
 ·
  refine aT<|sB r<|aR (fr':=[(4,aB)]) r r<|cB<|cL<|aV<|aV<|cL<|aV ?_
  obtain rfl:=sy h7
  exact bZ (rs':=[.tmp 4]) r<|cM (v:=aB) r<|bX<|aZ [] r r r lr aH
 ·
  refine cE<|eW<|eA<|bN<|aW r (yO (iH r r) (show _=.int .i64 (1:Int) from r))<|mI r<|fG (fr':=[(2,aF),(3,bK),(5,.ptrs [(0,1),(0,2),(0,3),(0,4),(0,5),(0,6),(0,7),(0,8)]),(6,.ptrs [(1,1),(1,2),(1,3),(1,4),(1,5),(1,6),(1,7),(1,8)]),(11,aI),(12,aI),(27,aB)]) r<|lX<|xK<|aT<|aW r (yO (iJ r r) (show _=.bool true from r))<|aR (fr':=[(2,aF),(3,bK),(5,.ptrs [(0,1),(0,2),(0,3),(0,4),(0,5),(0,6),(0,7),(0,8)]),(6,.ptrs [(1,1),(1,2),(1,3),(1,4),(1,5),(1,6),(1,7),(1,8)]),(11,aI),(12,aI),(13,aB)]) r r<|bC<|kQ r<|cE<|eA<|bC<|dA<|aT<|mI r<|sI r<|aR (fr':=[(2,aF),(3,bK),(5,.ptrs [(0,1),(0,2),(0,3),(0,4),(0,5),(0,6),(0,7),(0,8)]),(6,.ptrs [(1,1),(1,2),(1,3),(1,4),(1,5),(1,6),(1,7),(1,8)]),(7,aI),(11,aI),(12,aI)]) r r<|bC<|lS [.q 0,.q 1,.q 2,.q 3,.q 4,.q 5,.q 6,.q 7,.q 8,.q 9,.q 10,.q 11,.q 12] [(some 15,[5]),(some 16,[7]),(some 17,[15,16]),(some 18,[17]),(some 19,[18]),(some 20,[19]),(some 21,[6]),(some 22,[7]),(some 23,[21,22]),(some 24,[23]),(some 25,[24]),(some 26,[25]),(some 27,[20,26])] [0,0,3,7,15,31,0,0,192,448,960,1984,4095] (by kernel_rfl)<|dq r r (bP (v:=.ptrs [(0,1),(0,2),(0,3),(0,4),(0,5),(0,6),(0,7),(0,8)]) r)<|dq r r (bP (v:=aI) r)<|dq r r (pG (p:=(0,2)) uF r r r)<|dq r r (jQ uZ r)<|dq r r (jL r)<|dq r r (aK (v:=aI) gZ r r r)<|dq r r (bP (v:=.ptrs [(1,1),(1,2),(1,3),(1,4),(1,5),(1,6),(1,7),(1,8)]) r)<|dq r r (bP (v:=aI) r)<|dq r r (pG (p:=(1,2)) uF r r r)<|dq r r (jQ uZ r)<|dq r r (jL r)<|dq r r (aK (v:=aI) gZ r r r)<|dq r r (kD r r)<|zJ (fr':=[(2,aF),(3,bK),(5,.ptrs [(0,1),(0,2),(0,3),(0,4),(0,5),(0,6),(0,7),(0,8)]),(6,.ptrs [(1,1),(1,2),(1,3),(1,4),(1,5),(1,6),(1,7),(1,8)]),(11,aI),(12,aI),(27,aB)]) r r<|eS h7 r (fun b9 h9=>?_) (fun b9 h9=>?_)
  ·
   refine aT<|sB r<|aR (fr':=[(4,aB)]) r r<|cB<|cL<|aV<|aV<|cL<|aV ?_
   obtain rfl:=sy h9
   exact bZ (rs':=[.tmp 4]) r<|cM (v:=aB) r<|bX<|aZ [] r r r lr aH
  ·
   refine cE<|eW<|eA<|bN<|aW r (yO (iH r r) (show _=.int .i64 (2:Int) from r))<|mI r<|fG (fr':=[(2,aF),(3,bK),(5,.ptrs [(0,1),(0,2),(0,3),(0,4),(0,5),(0,6),(0,7),(0,8)]),(6,.ptrs [(1,1),(1,2),(1,3),(1,4),(1,5),(1,6),(1,7),(1,8)]),(11,aI),(12,aI),(27,aB)]) r<|lX<|xK<|aT<|aW r (yO (iJ r r) (show _=.bool true from r))<|aR (fr':=[(2,aF),(3,bK),(5,.ptrs [(0,1),(0,2),(0,3),(0,4),(0,5),(0,6),(0,7),(0,8)]),(6,.ptrs [(1,1),(1,2),(1,3),(1,4),(1,5),(1,6),(1,7),(1,8)]),(11,aI),(12,aI),(13,aB)]) r r<|bC<|kQ r<|cE<|eA<|bC<|dA<|aT<|mI r<|sI r<|aR (fr':=[(2,aF),(3,bK),(5,.ptrs [(0,1),(0,2),(0,3),(0,4),(0,5),(0,6),(0,7),(0,8)]),(6,.ptrs [(1,1),(1,2),(1,3),(1,4),(1,5),(1,6),(1,7),(1,8)]),(7,aI),(11,aI),(12,aI)]) r r<|bC<|lS [.q 0,.q 1,.q 2,.q 3,.q 4,.q 5,.q 6,.q 7,.q 8,.q 9,.q 10,.q 11,.q 12] [(some 15,[5]),(some 16,[7]),(some 17,[15,16]),(some 18,[17]),(some 19,[18]),(some 20,[19]),(some 21,[6]),(some 22,[7]),(some 23,[21,22]),(some 24,[23]),(some 25,[24]),(some 26,[25]),(some 27,[20,26])] [0,0,3,7,15,31,0,0,192,448,960,1984,4095] (by kernel_rfl)<|dq r r (bP (v:=.ptrs [(0,1),(0,2),(0,3),(0,4),(0,5),(0,6),(0,7),(0,8)]) r)<|dq r r (bP (v:=aI) r)<|dq r r (pG (p:=(0,3)) uF r r r)<|dq r r (jQ uZ r)<|dq r r (jL r)<|dq r r (aK (v:=aI) gZ r r r)<|dq r r (bP (v:=.ptrs [(1,1),(1,2),(1,3),(1,4),(1,5),(1,6),(1,7),(1,8)]) r)<|dq r r (bP (v:=aI) r)<|dq r r (pG (p:=(1,3)) uF r r r)<|dq r r (jQ uZ r)<|dq r r (jL r)<|dq r r (aK (v:=aI) gZ r r r)<|dq r r (kD r r)<|zJ (fr':=[(2,aF),(3,bK),(5,.ptrs [(0,1),(0,2),(0,3),(0,4),(0,5),(0,6),(0,7),(0,8)]),(6,.ptrs [(1,1),(1,2),(1,3),(1,4),(1,5),(1,6),(1,7),(1,8)]),(11,aI),(12,aI),(27,aB)]) r r<|eS h9 r (fun b11 h11=>?_) (fun b11 h11=>?_)
   ·
    refine aT<|sB r<|aR (fr':=[(4,aB)]) r r<|cB<|cL<|aV<|aV<|cL<|aV ?_
    obtain rfl:=sy h11
    exact bZ (rs':=[.tmp 4]) r<|cM (v:=aB) r<|bX<|aZ [] r r r lr aH
   ·
    refine cE<|eW<|eA<|bN<|aW r (yO (iH r r) (show _=.int .i64 (3:Int) from r))<|mI r<|fG (fr':=[(2,aF),(3,bK),(5,.ptrs [(0,1),(0,2),(0,3),(0,4),(0,5),(0,6),(0,7),(0,8)]),(6,.ptrs [(1,1),(1,2),(1,3),(1,4),(1,5),(1,6),(1,7),(1,8)]),(11,aI),(12,aI),(27,aB)]) r<|lX<|xK<|aT<|aW r (yO (iJ r r) (show _=.bool true from r))<|aR (fr':=[(2,aF),(3,bK),(5,.ptrs [(0,1),(0,2),(0,3),(0,4),(0,5),(0,6),(0,7),(0,8)]),(6,.ptrs [(1,1),(1,2),(1,3),(1,4),(1,5),(1,6),(1,7),(1,8)]),(11,aI),(12,aI),(13,aB)]) r r<|bC<|kQ r<|cE<|eA<|bC<|dA<|aT<|mI r<|sI r<|aR (fr':=[(2,aF),(3,bK),(5,.ptrs [(0,1),(0,2),(0,3),(0,4),(0,5),(0,6),(0,7),(0,8)]),(6,.ptrs [(1,1),(1,2),(1,3),(1,4),(1,5),(1,6),(1,7),(1,8)]),(7,aI),(11,aI),(12,aI)]) r r<|bC<|lS [.q 0,.q 1,.q 2,.q 3,.q 4,.q 5,.q 6,.q 7,.q 8,.q 9,.q 10,.q 11,.q 12] [(some 15,[5]),(some 16,[7]),(some 17,[15,16]),(some 18,[17]),(some 19,[18]),(some 20,[19]),(some 21,[6]),(some 22,[7]),(some 23,[21,22]),(some 24,[23]),(some 25,[24]),(some 26,[25]),(some 27,[20,26])] [0,0,3,7,15,31,0,0,192,448,960,1984,4095] (by kernel_rfl)<|dq r r (bP (v:=.ptrs [(0,1),(0,2),(0,3),(0,4),(0,5),(0,6),(0,7),(0,8)]) r)<|dq r r (bP (v:=aI) r)<|dq r r (pG (p:=(0,4)) uF r r r)<|dq r r (jQ uZ r)<|dq r r (jL r)<|dq r r (aK (v:=aI) gZ r r r)<|dq r r (bP (v:=.ptrs [(1,1),(1,2),(1,3),(1,4),(1,5),(1,6),(1,7),(1,8)]) r)<|dq r r (bP (v:=aI) r)<|dq r r (pG (p:=(1,4)) uF r r r)<|dq r r (jQ uZ r)<|dq r r (jL r)<|dq r r (aK (v:=aI) gZ r r r)<|dq r r (kD r r)<|zJ (fr':=[(2,aF),(3,bK),(5,.ptrs [(0,1),(0,2),(0,3),(0,4),(0,5),(0,6),(0,7),(0,8)]),(6,.ptrs [(1,1),(1,2),(1,3),(1,4),(1,5),(1,6),(1,7),(1,8)]),(11,aI),(12,aI),(27,aB)]) r r<|eS h11 r (fun b13 h13=>?_) (fun b13 h13=>?_)
    ·
     refine aT<|sB r<|aR (fr':=[(4,aB)]) r r<|cB<|cL<|aV<|aV<|cL<|aV ?_
     obtain rfl:=sy h13
     exact bZ (rs':=[.tmp 4]) r<|cM (v:=aB) r<|bX<|aZ [] r r r lr aH
    ·
     refine cE<|eW<|eA<|bN<|aW r (yO (iH r r) (show _=.int .i64 (4:Int) from r))<|mI r<|fG (fr':=[(2,aF),(3,bK),(5,.ptrs [(0,1),(0,2),(0,3),(0,4),(0,5),(0,6),(0,7),(0,8)]),(6,.ptrs [(1,1),(1,2),(1,3),(1,4),(1,5),(1,6),(1,7),(1,8)]),(11,aI),(12,aI),(27,aB)]) r<|lX<|xK<|aT<|aW r (yO (iJ r r) (show _=.bool true from r))<|aR (fr':=[(2,aF),(3,bK),(5,.ptrs [(0,1),(0,2),(0,3),(0,4),(0,5),(0,6),(0,7),(0,8)]),(6,.ptrs [(1,1),(1,2),(1,3),(1,4),(1,5),(1,6),(1,7),(1,8)]),(11,aI),(12,aI),(13,aB)]) r r<|bC<|kQ r<|cE<|eA<|bC<|dA<|aT<|mI r<|sI r<|aR (fr':=[(2,aF),(3,bK),(5,.ptrs [(0,1),(0,2),(0,3),(0,4),(0,5),(0,6),(0,7),(0,8)]),(6,.ptrs [(1,1),(1,2),(1,3),(1,4),(1,5),(1,6),(1,7),(1,8)]),(7,aI),(11,aI),(12,aI)]) r r<|bC<|lS [.q 0,.q 1,.q 2,.q 3,.q 4,.q 5,.q 6,.q 7,.q 8,.q 9,.q 10,.q 11,.q 12] [(some 15,[5]),(some 16,[7]),(some 17,[15,16]),(some 18,[17]),(some 19,[18]),(some 20,[19]),(some 21,[6]),(some 22,[7]),(some 23,[21,22]),(some 24,[23]),(some 25,[24]),(some 26,[25]),(some 27,[20,26])] [0,0,3,7,15,31,0,0,192,448,960,1984,4095] (by kernel_rfl)<|dq r r (bP (v:=.ptrs [(0,1),(0,2),(0,3),(0,4),(0,5),(0,6),(0,7),(0,8)]) r)<|dq r r (bP (v:=aI) r)<|dq r r (pG (p:=(0,5)) uF r r r)<|dq r r (jQ uZ r)<|dq r r (jL r)<|dq r r (aK (v:=aI) gZ r r r)<|dq r r (bP (v:=.ptrs [(1,1),(1,2),(1,3),(1,4),(1,5),(1,6),(1,7),(1,8)]) r)<|dq r r (bP (v:=aI) r)<|dq r r (pG (p:=(1,5)) uF r r r)<|dq r r (jQ uZ r)<|dq r r (jL r)<|dq r r (aK (v:=aI) gZ r r r)<|dq r r (kD r r)<|zJ (fr':=[(2,aF),(3,bK),(5,.ptrs [(0,1),(0,2),(0,3),(0,4),(0,5),(0,6),(0,7),(0,8)]),(6,.ptrs [(1,1),(1,2),(1,3),(1,4),(1,5),(1,6),(1,7),(1,8)]),(11,aI),(12,aI),(27,aB)]) r r<|eS h13 r (fun b15 h15=>?_) (fun b15 h15=>?_)
     ·
      refine aT<|sB r<|aR (fr':=[(4,aB)]) r r<|cB<|cL<|aV<|aV<|cL<|aV ?_
      obtain rfl:=sy h15
      exact bZ (rs':=[.tmp 4]) r<|cM (v:=aB) r<|bX<|aZ [] r r r lr aH
     ·
      refine cE<|eW<|eA<|bN<|aW r (yO (iH r r) (show _=.int .i64 (5:Int) from r))<|mI r<|fG (fr':=[(2,aF),(3,bK),(5,.ptrs [(0,1),(0,2),(0,3),(0,4),(0,5),(0,6),(0,7),(0,8)]),(6,.ptrs [(1,1),(1,2),(1,3),(1,4),(1,5),(1,6),(1,7),(1,8)]),(11,aI),(12,aI),(27,aB)]) r<|lX<|xK<|aT<|aW r (yO (iJ r r) (show _=.bool true from r))<|aR (fr':=[(2,aF),(3,bK),(5,.ptrs [(0,1),(0,2),(0,3),(0,4),(0,5),(0,6),(0,7),(0,8)]),(6,.ptrs [(1,1),(1,2),(1,3),(1,4),(1,5),(1,6),(1,7),(1,8)]),(11,aI),(12,aI),(13,aB)]) r r<|bC<|kQ r<|cE<|eA<|bC<|dA<|aT<|mI r<|sI r<|aR (fr':=[(2,aF),(3,bK),(5,.ptrs [(0,1),(0,2),(0,3),(0,4),(0,5),(0,6),(0,7),(0,8)]),(6,.ptrs [(1,1),(1,2),(1,3),(1,4),(1,5),(1,6),(1,7),(1,8)]),(7,aI),(11,aI),(12,aI)]) r r<|bC<|lS [.q 0,.q 1,.q 2,.q 3,.q 4,.q 5,.q 6,.q 7,.q 8,.q 9,.q 10,.q 11,.q 12] [(some 15,[5]),(some 16,[7]),(some 17,[15,16]),(some 18,[17]),(some 19,[18]),(some 20,[19]),(some 21,[6]),(some 22,[7]),(some 23,[21,22]),(some 24,[23]),(some 25,[24]),(some 26,[25]),(some 27,[20,26])] [0,0,3,7,15,31,0,0,192,448,960,1984,4095] (by kernel_rfl)<|dq r r (bP (v:=.ptrs [(0,1),(0,2),(0,3),(0,4),(0,5),(0,6),(0,7),(0,8)]) r)<|dq r r (bP (v:=aI) r)<|dq r r (pG (p:=(0,6)) uF r r r)<|dq r r (jQ uZ r)<|dq r r (jL r)<|dq r r (aK (v:=aI) gZ r r r)<|dq r r (bP (v:=.ptrs [(1,1),(1,2),(1,3),(1,4),(1,5),(1,6),(1,7),(1,8)]) r)<|dq r r (bP (v:=aI) r)<|dq r r (pG (p:=(1,6)) uF r r r)<|dq r r (jQ uZ r)<|dq r r (jL r)<|dq r r (aK (v:=aI) gZ r r r)<|dq r r (kD r r)<|zJ (fr':=[(2,aF),(3,bK),(5,.ptrs [(0,1),(0,2),(0,3),(0,4),(0,5),(0,6),(0,7),(0,8)]),(6,.ptrs [(1,1),(1,2),(1,3),(1,4),(1,5),(1,6),(1,7),(1,8)]),(11,aI),(12,aI),(27,aB)]) r r<|eS h15 r (fun b17 h17=>?_) (fun b17 h17=>?_)
      ·
       refine aT<|sB r<|aR (fr':=[(4,aB)]) r r<|cB<|cL<|aV<|aV<|cL<|aV ?_
       obtain rfl:=sy h17
       exact bZ (rs':=[.tmp 4]) r<|cM (v:=aB) r<|bX<|aZ [] r r r lr aH
      ·
       refine cE<|eW<|eA<|bN<|aW r (yO (iH r r) (show _=.int .i64 (6:Int) from r))<|mI r<|fG (fr':=[(2,aF),(3,bK),(5,.ptrs [(0,1),(0,2),(0,3),(0,4),(0,5),(0,6),(0,7),(0,8)]),(6,.ptrs [(1,1),(1,2),(1,3),(1,4),(1,5),(1,6),(1,7),(1,8)]),(11,aI),(12,aI),(27,aB)]) r<|lX<|xK<|aT<|aW r (yO (iJ r r) (show _=.bool true from r))<|aR (fr':=[(2,aF),(3,bK),(5,.ptrs [(0,1),(0,2),(0,3),(0,4),(0,5),(0,6),(0,7),(0,8)]),(6,.ptrs [(1,1),(1,2),(1,3),(1,4),(1,5),(1,6),(1,7),(1,8)]),(11,aI),(12,aI),(13,aB)]) r r<|bC<|kQ r<|cE<|eA<|bC<|dA<|aT<|mI r<|sI r<|aR (fr':=[(2,aF),(3,bK),(5,.ptrs [(0,1),(0,2),(0,3),(0,4),(0,5),(0,6),(0,7),(0,8)]),(6,.ptrs [(1,1),(1,2),(1,3),(1,4),(1,5),(1,6),(1,7),(1,8)]),(7,aI),(11,aI),(12,aI)]) r r<|bC<|lS [.q 0,.q 1,.q 2,.q 3,.q 4,.q 5,.q 6,.q 7,.q 8,.q 9,.q 10,.q 11,.q 12] [(some 15,[5]),(some 16,[7]),(some 17,[15,16]),(some 18,[17]),(some 19,[18]),(some 20,[19]),(some 21,[6]),(some 22,[7]),(some 23,[21,22]),(some 24,[23]),(some 25,[24]),(some 26,[25]),(some 27,[20,26])] [0,0,3,7,15,31,0,0,192,448,960,1984,4095] (by kernel_rfl)<|dq r r (bP (v:=.ptrs [(0,1),(0,2),(0,3),(0,4),(0,5),(0,6),(0,7),(0,8)]) r)<|dq r r (bP (v:=aI) r)<|dq r r (pG (p:=(0,7)) uF r r r)<|dq r r (jQ uZ r)<|dq r r (jL r)<|dq r r (aK (v:=aI) gZ r r r)<|dq r r (bP (v:=.ptrs [(1,1),(1,2),(1,3),(1,4),(1,5),(1,6),(1,7),(1,8)]) r)<|dq r r (bP (v:=aI) r)<|dq r r (pG (p:=(1,7)) uF r r r)<|dq r r (jQ uZ r)<|dq r r (jL r)<|dq r r (aK (v:=aI) gZ r r r)<|dq r r (kD r r)<|zJ (fr':=[(2,aF),(3,bK),(5,.ptrs [(0,1),(0,2),(0,3),(0,4),(0,5),(0,6),(0,7),(0,8)]),(6,.ptrs [(1,1),(1,2),(1,3),(1,4),(1,5),(1,6),(1,7),(1,8)]),(11,aI),(12,aI),(27,aB)]) r r<|eS h17 r (fun b19 h19=>?_) (fun b19 h19=>?_)
       ·
        refine aT<|sB r<|aR (fr':=[(4,aB)]) r r<|cB<|cL<|aV<|aV<|cL<|aV ?_
        obtain rfl:=sy h19
        exact bZ (rs':=[.tmp 4]) r<|cM (v:=aB) r<|bX<|aZ [] r r r lr aH
       ·
        refine cE<|eW<|eA<|bN<|aW r (yO (iH r r) (show _=.int .i64 (7:Int) from r))<|mI r<|fG (fr':=[(2,aF),(3,bK),(5,.ptrs [(0,1),(0,2),(0,3),(0,4),(0,5),(0,6),(0,7),(0,8)]),(6,.ptrs [(1,1),(1,2),(1,3),(1,4),(1,5),(1,6),(1,7),(1,8)]),(11,aI),(12,aI),(27,aB)]) r<|lX<|xK<|aT<|aW r (yO (iJ r r) (show _=.bool true from r))<|aR (fr':=[(2,aF),(3,bK),(5,.ptrs [(0,1),(0,2),(0,3),(0,4),(0,5),(0,6),(0,7),(0,8)]),(6,.ptrs [(1,1),(1,2),(1,3),(1,4),(1,5),(1,6),(1,7),(1,8)]),(11,aI),(12,aI),(13,aB)]) r r<|bC<|kQ r<|cE<|eA<|bC<|dA<|aT<|mI r<|sI r<|aR (fr':=[(2,aF),(3,bK),(5,.ptrs [(0,1),(0,2),(0,3),(0,4),(0,5),(0,6),(0,7),(0,8)]),(6,.ptrs [(1,1),(1,2),(1,3),(1,4),(1,5),(1,6),(1,7),(1,8)]),(7,aI),(11,aI),(12,aI)]) r r<|bC<|lS [.q 0,.q 1,.q 2,.q 3,.q 4,.q 5,.q 6,.q 7,.q 8,.q 9,.q 10,.q 11,.q 12] [(some 15,[5]),(some 16,[7]),(some 17,[15,16]),(some 18,[17]),(some 19,[18]),(some 20,[19]),(some 21,[6]),(some 22,[7]),(some 23,[21,22]),(some 24,[23]),(some 25,[24]),(some 26,[25]),(some 27,[20,26])] [0,0,3,7,15,31,0,0,192,448,960,1984,4095] (by kernel_rfl)<|dq r r (bP (v:=.ptrs [(0,1),(0,2),(0,3),(0,4),(0,5),(0,6),(0,7),(0,8)]) r)<|dq r r (bP (v:=aI) r)<|dq r r (pG (p:=(0,8)) uF r r r)<|dq r r (jQ uZ r)<|dq r r (jL r)<|dq r r (aK (v:=aI) gZ r r r)<|dq r r (bP (v:=.ptrs [(1,1),(1,2),(1,3),(1,4),(1,5),(1,6),(1,7),(1,8)]) r)<|dq r r (bP (v:=aI) r)<|dq r r (pG (p:=(1,8)) uF r r r)<|dq r r (jQ uZ r)<|dq r r (jL r)<|dq r r (aK (v:=aI) gZ r r r)<|dq r r (kD r r)<|zJ (fr':=[(2,aF),(3,bK),(5,.ptrs [(0,1),(0,2),(0,3),(0,4),(0,5),(0,6),(0,7),(0,8)]),(6,.ptrs [(1,1),(1,2),(1,3),(1,4),(1,5),(1,6),(1,7),(1,8)]),(11,aI),(12,aI),(27,aB)]) r r<|eS h19 r (fun b21 h21=>?_) (fun b21 h21=>?_)
        ·
         refine aT<|sB r<|aR (fr':=[(4,aB)]) r r<|cB<|cL<|aV<|aV<|cL<|aV ?_
         obtain rfl:=sy h21
         exact bZ (rs':=[.tmp 4]) r<|cM (v:=aB) r<|bX<|aZ [] r r r lr aH
        ·
         refine cE<|eW<|eA<|bN<|aW r (yO (iH r r) (show _=.int .i64 (8:Int) from r))<|mI r<|fG (fr':=[(2,aF),(3,bK),(5,.ptrs [(0,1),(0,2),(0,3),(0,4),(0,5),(0,6),(0,7),(0,8)]),(6,.ptrs [(1,1),(1,2),(1,3),(1,4),(1,5),(1,6),(1,7),(1,8)]),(11,aI),(12,aI),(27,aB)]) r<|lX<|xK<|aT<|aW r (yO (iJ r r) (show _=.bool false from r))<|aR (fr':=[(2,aF),(3,bK),(5,.ptrs [(0,1),(0,2),(0,3),(0,4),(0,5),(0,6),(0,7),(0,8)]),(6,.ptrs [(1,1),(1,2),(1,3),(1,4),(1,5),(1,6),(1,7),(1,8)]),(11,aI),(12,aI),(13,aB)]) r r<|bC<|aCR r<|kF<|eL<|eL<|iM<|eA<|aT<|aW r (bH aCF r)<|aW r (aK (v:=aS) oG r r r)<|aW r (bH aCF r)<|aW r (aK (v:=aS) oG r r r)<|aW r (oS r r)<|mB r<|og r r r (fun u=>(bH vP r))<|og r r r (fun u=>(aK (v:=aL) wD (gx r u) r r))<|og r r r (fun u=>(bH vP r))<|og r r r (fun u=>(aK (v:=aL) wD (gx r u) r r))<|bx h21 fun x23 y23 h24=>zB r r (fun u=>bR (v:=aB) r (rZ (eQ y23 u)) ⟨(fY (gx r u) lr),(fY (gx r u) lr),trivial⟩ (iN (by repeat (first | exact gK | refine bI r ?_ | refine bI (vT r) ?_ | refine bI vS ?_))) r r) ?_
         refine aW r (cD r r r (fun e=>hD e))<|sB r<|aR (fr':=[(4,aB)]) r r<|cB ?_
         obtain rfl:=sy h24
         exact bZ (rs':=[.tmp 4]) r<|cM (v:=aB) r<|bX<|aZ [] r r r lr aH
noncomputable def wH (p0c:bL) (p1u:iP):Option Bool :=
 (gd (((cond (cond (cond (cond p1u.seq_ true (decide (p0c.Seq=0))) (cond p1u.name_ true (decide (p0c.Name=([]:List UInt8)))) false) (cond p1u.key_ true (decide (p0c.Key=([]:List UInt8)))) false) (cond p1u.n_ true (decide (p0c.N=0))) false)==true)&&(p1u.data_==false)) (tV p0c.Data (aE.mk 0 0 ([]:List UInt8) ([]:(List aE)) ([]:(List (List UInt8)))))).bind fun x1=>(gd (((cond (cond (cond (cond (cond p1u.seq_ true (decide (p0c.Seq=0))) (cond p1u.name_ true (decide (p0c.Name=([]:List UInt8)))) false) (cond p1u.key_ true (decide (p0c.Key=([]:List UInt8)))) false) (cond p1u.n_ true (decide (p0c.N=0))) false) (cond p1u.data_ true x1) false)==true)&&(p1u.opts_==false)) (jZ p0c.Opts (dB.mk ([]:List UInt8) 0 0 0 0 0 0 0 0 ([]:(List (List UInt8)))))).bind fun x3=>some (cond (cond (cond (cond (cond (cond p1u.seq_ true (decide (p0c.Seq=0))) (cond p1u.name_ true (decide (p0c.Name=([]:List UInt8)))) false) (cond p1u.key_ true (decide (p0c.Key=([]:List UInt8)))) false) (cond p1u.n_ true (decide (p0c.N=0))) false) (cond p1u.data_ true x1) false) (cond p1u.opts_ true x3) false)
theorem aHG {p0c:bL}{p1u:iP}{z:Bool} (h:wH p0c p1u=some z):dE Tryz.prog 165 [.agg (AV.cs (dM p0c)),.agg (AV.cs (aCA p1u))] [] (.c (.bool z)) []:=by
 unfold wH at h
 refine eJ (fn:=Tryz.f165) [0,1,2,3,4] (by kernel_rfl) Tryz.func165 r (by kernel_rfl) (by kernel_rfl)<|aT<|jB (v:=.agg aU) (n:=0) (cs:=aU) (σ':=[aU]) r r r r r<|jB (v:=.agg dX) (n:=1) (cs:=dX) (σ':=[aU,dX]) r r r r r<|sB r<|aR (fr':=[(2,aF),(3,bK)]) r r<|aT<|aW r (bH aM4 r)<|aW r (aK (v:=aB) tv4 r r r)<|mB r<|og r r r (fun u=>(bH aAU r))<|og r r r (fun u=>(aK (v:=aI) gZ (gx r u) r r))<|og r r r (fun u=>(dZ (gx r u) r))<|aW r (dD r r r (fun e=>hD e))<|mB r<|og r r r (fun u=>(bH aM5 r))<|og r r r (fun u=>(aK (v:=aB) tv4 (gx r u) r r))<|og r r r (fun u=>(bP (v:=aB) (gx r u)))<|hS r r (fun u=>iG r (bH zR r))<|hS r r (fun u=>iG r (aK (v:=aS) oG (gx r u) r r))<|hS r r (fun u=>iG r (oS (gx r u) r))<|og r r r (fun u=>(dD (gx r u) r r (fun e=>wC u (hD e))))<|aW r (cD r r r (fun e=>hD e))<|mB r<|og r r r (fun u=>(bH aM6 r))<|og r r r (fun u=>(aK (v:=aB) tv4 (gx r u) r r))<|og r r r (fun u=>(bP (v:=aB) (gx r u)))<|hS r r (fun u=>iG r (bH aAV r))<|hS r r (fun u=>iG r (aK (v:=aS) oG (gx r u) r r))<|hS r r (fun u=>iG r (oS (gx r u) r))<|og r r r (fun u=>(dD (gx r u) r r (fun e=>wC u (hD e))))<|aW r (cD r r r (fun e=>hD e))<|mB r<|og r r r (fun u=>(bH aQv r))<|og r r r (fun u=>(aK (v:=aB) tv4 (gx r u) r r))<|og r r r (fun u=>(bP (v:=aB) (gx r u)))<|hS r r (fun u=>iG r (bH vF r))<|hS r r (fun u=>iG r (aK (v:=aI) gZ (gx r u) r r))<|hS r r (fun u=>iG r (dZ (gx r u) r))<|og r r r (fun u=>(dD (gx r u) r r (fun e=>wC u (hD e))))<|aW r (cD r r r (fun e=>hD e))<|mB r<|og r r r (fun u=>(bH aQw r))<|og r r r (fun u=>(aK (v:=aB) tv4 (gx r u) r r))<|og r r r (fun u=>(bP (v:=aB) (gx r u)))<|hS r r (fun u=>iG r (bH wW r))<|hS r r (fun u=>iG r (dN (us:=cK) jG (gx r u) r r r))<|hS r r (fun u=>iG r (mG (cs:=cJ) aH5 r))<|bx h fun x1 y1 h2=>hS r r (fun u=>bR (v:=aB) r (uI (eQ y1 u)) ⟨(fY (gx r u) (bV r kR5)),(fY (gx r u) (bV r ⟨r,r,r,⟨_,r⟩,⟨_,r⟩,trivial⟩)),trivial⟩ (iN (by repeat (first | exact gK | refine bI r ?_ | refine bI (vT r) ?_ | refine bI vS ?_))) r r) ?_
 refine og r r r (fun u=>(dD (gx r u) r r (fun e=>wC u (hD e))))<|aW r (cD r r r (fun e=>hD e))<|mB r<|og r r r (fun u=>(bH aQx r))<|og r r r (fun u=>(aK (v:=aB) tv4 (gx r u) r r))<|og r r r (fun u=>(bP (v:=aB) (gx r u)))<|hS r r (fun u=>iG r (bH zS r))<|hS r r (fun u=>iG r (dN (us:=dK) zU (gx r u) r r r))<|hS r r (fun u=>iG r (lA (c0:=bU) (cs:=bU) aRI r kY))<|bx h2 fun x3 y3 h4=>hS r r (fun u=>bR (v:=aB) r (oD (eQ y3 u)) ⟨(fY (gx r u) (bV r yM)),(fY (gx r u) (bV r ⟨r,r,r,r,r,r,r,r,r,⟨_,r⟩,trivial⟩)),trivial⟩ (iN (by repeat (first | exact gK | refine bI r ?_ | refine bI (vT r) ?_ | refine bI vS ?_))) r r) ?_
 refine og r r r (fun u=>(dD (gx r u) r r (fun e=>wC u (hD e))))<|aW r (cD r r r (fun e=>hD e))<|sB r<|aR (fr':=[(4,aB)]) r r<|cB ?_
 obtain rfl:=sy h4
 exact bZ (rs':=[.tmp 4]) r<|cM (v:=aB) r<|bX<|aZ [] r r r lr aH
noncomputable def uA (p0s:(List UInt8)) (s4:Int):Option (dG Int (Fl Bool Unit)) :=
 cond (decide (s4<((p0s).length:Int))) ((nF p0s s4).bind fun x6=>(gd ((decide (((x6).toNat:Int)<33))==false) (nF p0s s4)).bind fun x8=>(gd ((cond (decide (((x6).toNat:Int)<33)) true (decide (126<((x8).toNat:Int))))==false) (nF p0s s4)).bind fun x10=>(gd ((cond (cond (decide (((x6).toNat:Int)<33)) true (decide (126<((x8).toNat:Int)))) true (decide (((x10).toNat:Int)=47)))==false) (nF p0s s4)).bind fun x12=>cond (cond (cond (cond (decide (((x6).toNat:Int)<33)) true (decide (126<((x8).toNat:Int)))) true (decide (((x10).toNat:Int)=47))) true (decide (((x12).toNat:Int)=34))) (some (dG.out (Fl.done false))) (some (dG.next (IntKind.wrap .i64 (s4+1))))) (some (dG.out (Fl.go ())))
noncomputable def sA (p0s:(List UInt8)):Option Bool :=
 (fX (uA p0s) (0)).bind fun x1=>Fl.next x1 (fun j3=>((lC ((p0s).length:Int) 1 64).bind fun x20=>some x20))
theorem aF6 {p0s:(List UInt8)}{z:Bool} (h:sA p0s=some z):dE Tryz.prog 166 [.c (.str p0s)] [] (.c (.bool z)) []:=by
 unfold sA at h
 refine eJ (fn:=Tryz.f166) [0,2,3,5,6,7,30] (by kernel_rfl) Tryz.func166 r (by kernel_rfl) (by kernel_rfl)<|aT<|sB r<|aR (fr':=[(0,aS)]) r r<|bC<|aT<|mS r<|aW r (rN zG r)<|mI r<|aR (fr':=[(0,aS),(5,aI),(6,aI)]) r r<|bx h fun x1 y1 h2=>kC pL (fun j3=>x1=Fl.go j3) (fun (j3:Unit)=>([(0,.c (.str p0s))]:Fr)) (fun (j3:Unit)=>([]:St)) ?_ ?_
 ·
  refine dA<|jS _ (fun (s4:Int)=>([(0,.c (.str p0s)),(5,ci ((p0s).length:Int)),(6,ci s4)]:Fr)) (fun (s4:Int)=>([]:St)) y1 (cR [] 0 r r r r wE aH) ?_
  intro s4 st4 hs4 ho4
  unfold uA at hs4
  refine aT<|aW r (iJ r r)<|aR (fr':=[(0,aS),(5,aI),(6,aI),(7,aB)]) r r<|bC<|eS hs4 r (fun b5 h5=>?_) (fun b5 h5=>?_)
  ·
   refine cE<|eA<|bC<|dA<|aT<|mI r<|sI r<|aR (fr':=[(0,aS),(3,aI),(5,aI),(6,aI)]) r r<|aT<|mS r<|mI r<|bx h5 fun x6 y6 h7=>aW r (aG4 zG r r y6)<|aW r (iJ r r)<|mB r<|og r r r (fun u=>(bP (v:=aS) r))<|og r r r (fun u=>(bP (v:=aI) r))<|bx h7 fun x8 y8 h9=>og r r r (fun u=>(aG4 zG (gx r u) (gx r u) (eQ y8 u)))<|og r r r (fun u=>(uW (gx r u) r))<|aW r (dD r r r (fun e=>hD e))<|mB r<|og r r r (fun u=>(bP (v:=aS) r))<|og r r r (fun u=>(bP (v:=aI) r))<|bx h9 fun x10 y10 h11=>og r r r (fun u=>(aG4 zG (gx r u) (gx r u) (eQ y10 u)))<|og r r r (fun u=>(dZ (gx r u) r))<|aW r (dD r r r (fun e=>hD e))<|mB r<|og r r r (fun u=>(bP (v:=aS) r))<|og r r r (fun u=>(bP (v:=aI) r))<|bx h11 fun x12 y12 h13=>og r r r (fun u=>(aG4 zG (gx r u) (gx r u) (eQ y12 u)))<|og r r r (fun u=>(dZ (gx r u) r))<|aW r (dD r r r (fun e=>hD e))<|aR (fr':=[(0,aS),(5,aI),(6,aI),(30,aB)]) r r<|eS h13 r (fun b14 h14=>?_) (fun b14 h14=>?_)
   ·
    refine aT<|sB r<|aR (fr':=[(2,aB)]) r r<|cB<|cL<|aV<|aV<|cL<|aV<|aV ?_
    have h15:=gN h14 ho4
    have h16:=hU h15 h2
    obtain rfl:=sy h16
    exact bZ (rs':=[.tmp 2]) r<|cM (v:=aB) r<|bX<|aZ [] r r r lr aH
   ·
    exact cE<|eW<|eA<|bN<|aW r (iH r r)<|mI r<|fG (fr':=[(0,aS),(5,aI),(6,aI),(30,aB)]) r<|e_l _ (sy h14) (cR [] 0 r r r r wE aH)
  ·
   refine kF<|eL<|eL<|iM ?_
   have h18:=gN h5 ho4
   exact tB _ (sy h18) (cR [] 0 r r r r ⟨lr,trivial⟩ aH)
 ·
  intro j3 hj19
  have h19:=qP hj19 h2
  refine eA<|aT<|mS r<|aW r (rN zG r)<|bx h19 fun x20 y20 h21=>qB (bR (v:=aB) r (mJ y20) wE r r r)<|sB r<|aR (fr':=[(2,aB)]) r r<|cB ?_
  obtain rfl:=sy h21
  exact bZ (rs':=[.tmp 2]) r<|cM (v:=aB) r<|bX<|aZ [] r r r lr aH
noncomputable def rV (p0x:aE):Option Bool :=
 (gd ((cond (!decide (p0x.Kind=4)) true (!decide (((p0x.Items).length:Int)=2)))==false) (nF p0x.Items 0)).bind fun x1=>(gd ((cond (cond (!decide (p0x.Kind=4)) true (!decide (((p0x.Items).length:Int)=2))) true (!decide (x1.Kind=3)))==false) (nF p0x.Items 0)).bind fun x3=>(gd ((cond (cond (!decide (p0x.Kind=4)) true (!decide (((p0x.Items).length:Int)=2))) true (!decide (x1.Kind=3)))==false) (tJ x3.Text)).bind fun x5=>some (cond (cond (cond (!decide (p0x.Kind=4)) true (!decide (((p0x.Items).length:Int)=2))) true (!decide (x1.Kind=3))) true (!x5))
theorem aED {p0x:aE}{z:Bool} (h:rV p0x=some z):dE Tryz.prog 216 [.agg (AV.cs (fZ p0x))] [] (.c (.bool z)) []:=by
 unfold rV at h
 refine eJ (fn:=Tryz.f216) [0,1,2] (by kernel_rfl) Tryz.func216 r (by kernel_rfl) (by kernel_rfl)<|aT<|jB (v:=.agg cK) (n:=0) (cs:=cK) (σ':=[cK]) r r r r r<|sB r<|aR (fr':=[(1,aF)]) r r<|aT<|aW r (bH sP r)<|aW r (aK (v:=aI) gZ r r r)<|aW r (kD r r)<|mB r<|og r r r (fun u=>(bH pE r))<|og r r r (fun u=>(aK (v:=aL) zT (gx r u) r r))<|og r r r (fun u=>(iR aCa (fQ (gx r u))))<|og r r r (fun u=>(kD (gx r u) r))<|aW r (dD r r r (fun e=>hD e))<|mB r<|og r r r (fun u=>(bH pE r))<|og r r r (fun u=>(aK (v:=aL) zT (gx r u) r r))<|bx h fun x1 y1 h2=>og r r r (fun u=>(rD (cs:=[PV.int _ _,PV.int _ _,PV.str _,PV.ls _ _ _,PV.ls _ _ _]) aDc (fQ (gx r u)) r (eQ y1 u) (hF _)))<|og r r r (fun u=>(aMS sP (gx r u)))<|og r r r (fun u=>(nR (p:=PV.int _ _) gZ (gx r u) r))<|og r r r (fun u=>(kD (gx r u) r))<|aW r (dD r r r (fun e=>hD e))<|mB r<|og r r r (fun u=>(bH pE r))<|og r r r (fun u=>(aK (v:=aL) zT (gx r u) r r))<|bx h2 fun x3 y3 h4=>og r r r (fun u=>(rD (cs:=[PV.int _ _,PV.int _ _,PV.str _,PV.ls _ _ _,PV.ls _ _ _]) aDc (fQ (gx r u)) r (eQ y3 u) (hF _)))<|og r r r (fun u=>(aMS aA7 (gx r u)))<|og r r r (fun u=>(nR (p:=PV.str _) oG (gx r u) r))<|bx h4 fun x5 y5 h6=>zB r r (fun u=>bR (v:=aB) r (zY (eQ y5 u)) ⟨(fY (gx r u) lr),trivial⟩ (iN (by repeat (first | exact gK | refine bI r ?_ | refine bI (vT r) ?_ | refine bI vS ?_))) r r) ?_
 refine og r r r (fun u=>(hY (gx r u)))<|aW r (dD r r r (fun e=>hD e))<|sB r<|aR (fr':=[(2,aB)]) r r<|cB ?_
 obtain rfl:=sy h6
 exact bZ (rs':=[.tmp 2]) r<|cM (v:=aB) r<|bX<|aZ [] r r r lr aH
