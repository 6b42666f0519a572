import Derived.Test.YtnigjppddilpcaaGreatDoorGETy
import Derived.Test.YtnigjppddilpcaaGreatDoorGEF0
import Derived.Test.YtnigjppddilpcaaGreatDoorGEF1
namespace Go.Proofs.YtnigjppddilpcaaGreatDoor
open Go Abs
set_option maxRecDepth 100000
set_option linter.unusedVariables false
set_option linter.unusedSimpArgs false
noncomputable def vX (dT:Int):Option Int :=
 cond (decide (dT=7)) (some 1) (cond (decide (dT=12)) (some 2) (cond (decide (dT=14)) (some 3) (cond (decide (dT=16)) (some 4) (cond (decide (dT=19)) (some 5) (cond (decide (dT=23)) (some 6) (cond (decide (dT=18)) (some 7) (cond (decide (dT=27)) (some 8) (cond (decide (dT=28)) (some 9) (cond (decide (dT=29)) (some 10) (cond (decide (dT=30)) (some 11) (cond (decide (dT=31)) (some 12) (cond (decide (dT=32)) (some 13) (cond (decide (dT=35)) (some 14) (some 0))))))))))))))
theorem aGv {dT:Int}{res:Int} (h:vX dT=some res):cX Tryz.prog 137 [ci dT] [] (ci res) []:=by
 unfold vX at h
 refine dR (fn:=Tryz.f137) [0,2,3,4,6,8,10,12,14,16,18,20,22,24,26,28,30] (by kernel_rfl) Tryz.func137 r (by kernel_rfl) (by kernel_rfl)<|aJ<|sI r<|aH (fr':=[(0,aI)]) r r<|aX<|aJ<|mI r<|aH (fr':=[(3,aI)]) r r<|cP<|aX<|bA<|aU r (cQ r r)<|sB r<|aH (fr':=[(3,aI),(4,aB)]) r r<|cU h r (fun hb1 h1=>?_) (fun hb1 h1=>?_)
 ·
  refine aJ<|sI r<|aH (fr':=[(2,aI)]) r r<|bO<|bT<|aN ?_
  obtain rfl:=sy h1
  exact bN (rs':=[.tmp 2]) r<|cE (v:=aI) r<|bM<|aP [] r r r lr aC
 ·
  refine aJ<|aU r (cQ r r)<|sB r<|aH (fr':=[(3,aI),(6,aB)]) r r<|cU h1 r (fun hb3 h3=>?_) (fun hb3 h3=>?_)
  ·
   refine aJ<|sI r<|aH (fr':=[(2,aI)]) r r<|bO<|bT<|aN ?_
   obtain rfl:=sy h3
   exact bN (rs':=[.tmp 2]) r<|cE (v:=aI) r<|bM<|aP [] r r r lr aC
  ·
   refine aJ<|aU r (cQ r r)<|sB r<|aH (fr':=[(3,aI),(8,aB)]) r r<|cU h3 r (fun hb5 h5=>?_) (fun hb5 h5=>?_)
   ·
    refine aJ<|sI r<|aH (fr':=[(2,aI)]) r r<|bO<|bT<|aN ?_
    obtain rfl:=sy h5
    exact bN (rs':=[.tmp 2]) r<|cE (v:=aI) r<|bM<|aP [] r r r lr aC
   ·
    refine aJ<|aU r (cQ r r)<|sB r<|aH (fr':=[(3,aI),(10,aB)]) r r<|cU h5 r (fun hb7 h7=>?_) (fun hb7 h7=>?_)
    ·
     refine aJ<|sI r<|aH (fr':=[(2,aI)]) r r<|bO<|bT<|aN ?_
     obtain rfl:=sy h7
     exact bN (rs':=[.tmp 2]) r<|cE (v:=aI) r<|bM<|aP [] r r r lr aC
    ·
     refine aJ<|aU r (cQ r r)<|sB r<|aH (fr':=[(3,aI),(12,aB)]) r r<|cU h7 r (fun hb9 h9=>?_) (fun hb9 h9=>?_)
     ·
      refine aJ<|sI r<|aH (fr':=[(2,aI)]) r r<|bO<|bT<|aN ?_
      obtain rfl:=sy h9
      exact bN (rs':=[.tmp 2]) r<|cE (v:=aI) r<|bM<|aP [] r r r lr aC
     ·
      refine aJ<|aU r (cQ r r)<|sB r<|aH (fr':=[(3,aI),(14,aB)]) r r<|cU h9 r (fun hb11 h11=>?_) (fun hb11 h11=>?_)
      ·
       refine aJ<|sI r<|aH (fr':=[(2,aI)]) r r<|bO<|bT<|aN ?_
       obtain rfl:=sy h11
       exact bN (rs':=[.tmp 2]) r<|cE (v:=aI) r<|bM<|aP [] r r r lr aC
      ·
       refine aJ<|aU r (cQ r r)<|sB r<|aH (fr':=[(3,aI),(16,aB)]) r r<|cU h11 r (fun hb13 h13=>?_) (fun hb13 h13=>?_)
       ·
        refine aJ<|sI r<|aH (fr':=[(2,aI)]) r r<|bO<|bT<|aN ?_
        obtain rfl:=sy h13
        exact bN (rs':=[.tmp 2]) r<|cE (v:=aI) r<|bM<|aP [] r r r lr aC
       ·
        refine aJ<|aU r (cQ r r)<|sB r<|aH (fr':=[(3,aI),(18,aB)]) r r<|cU h13 r (fun hb15 h15=>?_) (fun hb15 h15=>?_)
        ·
         refine aJ<|sI r<|aH (fr':=[(2,aI)]) r r<|bO<|bT<|aN ?_
         obtain rfl:=sy h15
         exact bN (rs':=[.tmp 2]) r<|cE (v:=aI) r<|bM<|aP [] r r r lr aC
        ·
         refine aJ<|aU r (cQ r r)<|sB r<|aH (fr':=[(3,aI),(20,aB)]) r r<|cU h15 r (fun hb17 h17=>?_) (fun hb17 h17=>?_)
         ·
          refine aJ<|sI r<|aH (fr':=[(2,aI)]) r r<|bO<|bT<|aN ?_
          obtain rfl:=sy h17
          exact bN (rs':=[.tmp 2]) r<|cE (v:=aI) r<|bM<|aP [] r r r lr aC
         ·
          refine aJ<|aU r (cQ r r)<|sB r<|aH (fr':=[(3,aI),(22,aB)]) r r<|cU h17 r (fun hb19 h19=>?_) (fun hb19 h19=>?_)
          ·
           refine aJ<|sI r<|aH (fr':=[(2,aI)]) r r<|bO<|bT<|aN ?_
           obtain rfl:=sy h19
           exact bN (rs':=[.tmp 2]) r<|cE (v:=aI) r<|bM<|aP [] r r r lr aC
          ·
           refine aJ<|aU r (cQ r r)<|sB r<|aH (fr':=[(3,aI),(24,aB)]) r r<|cU h19 r (fun hb21 h21=>?_) (fun hb21 h21=>?_)
           ·
            refine aJ<|sI r<|aH (fr':=[(2,aI)]) r r<|bO<|bT<|aN ?_
            obtain rfl:=sy h21
            exact bN (rs':=[.tmp 2]) r<|cE (v:=aI) r<|bM<|aP [] r r r lr aC
           ·
            refine aJ<|aU r (cQ r r)<|sB r<|aH (fr':=[(3,aI),(26,aB)]) r r<|cU h21 r (fun hb23 h23=>?_) (fun hb23 h23=>?_)
            ·
             refine aJ<|sI r<|aH (fr':=[(2,aI)]) r r<|bO<|bT<|aN ?_
             obtain rfl:=sy h23
             exact bN (rs':=[.tmp 2]) r<|cE (v:=aI) r<|bM<|aP [] r r r lr aC
            ·
             refine aJ<|aU r (cQ r r)<|sB r<|aH (fr':=[(3,aI),(28,aB)]) r r<|cU h23 r (fun hb25 h25=>?_) (fun hb25 h25=>?_)
             ·
              refine aJ<|sI r<|aH (fr':=[(2,aI)]) r r<|bO<|bT<|aN ?_
              obtain rfl:=sy h25
              exact bN (rs':=[.tmp 2]) r<|cE (v:=aI) r<|bM<|aP [] r r r lr aC
             ·
              refine aJ<|aU r (cQ r r)<|sB r<|aH (fr':=[(30,aB)]) r r<|cU h25 r (fun hb27 h27=>?_) (fun hb27 h27=>?_)
              ·
               refine aJ<|sI r<|aH (fr':=[(2,aI)]) r r<|bO<|bT<|aN ?_
               obtain rfl:=sy h27
               exact bN (rs':=[.tmp 2]) r<|cE (v:=aI) r<|bM<|aP [] r r r lr aC
              ·
               refine bI<|dI<|dB<|aJ<|sI r<|aH (fr':=[(2,aI)]) r r<|bO ?_
               obtain rfl:=sy h27
               exact bN (rs':=[.tmp 2]) r<|cE (v:=aI) r<|bM<|aP [] r r r lr aC
noncomputable def xA (dT:Int):Option kK :=
 cond (decide (dT=1)) (some (kK.mk true true false false true true)) (((cond (decide (dT=2)) (some (decide (dT=2))) (some (decide (dT=4)))):Option Bool).bind fun x3=>(cond x3 (some (kK.mk true false false false false false)) (cond (decide (dT=3)) (some (kK.mk true false false true false false)) (cond (decide (dT=5)) (some (kK.mk true true true true true false)) (cond (decide (dT=6)) (some (kK.mk true true true false true false)) (cond (decide (dT=7)) (some (kK.mk false true false true true false)) (cond (decide (dT=8)) (some (kK.mk false true true false true false)) (cond (decide (dT=9)) (some (kK.mk false false true true true false)) (cond (decide (dT=12)) (some (kK.mk false true false false true false)) (some (kK.mk false false false false true false)))))))))))
theorem aG7 {dT:Int}{res:kK} (h:xA dT=some res):cX Tryz.prog 164 [ci dT] [] (.agg (AV.cs (aEo res))) []:=by
 unfold xA at h
 refine dR (fn:=Tryz.f164) [0,2,3,4,7,11,14,17,20,23,26,29] (by kernel_rfl) Tryz.func164 r (by kernel_rfl) (by kernel_rfl)<|aJ<|jV (n:=0) (cs:=eP) (σ':=[eP]) aRZ r r r<|aH (fr':=[(0,aI),(2,aD)]) r r<|aX<|aJ<|mI r<|aH (fr':=[(2,aD),(3,aI)]) r r<|cP<|aX<|bA<|aU r (cQ r r)<|sB r<|aH (fr':=[(2,aD),(3,aI),(4,aB)]) r r<|cU h r (fun hb1 h1=>?_) (fun hb1 h1=>?_)
 ·
  refine aJ<|aU r (fM (cs:=eP) aFe r)<|cN (v:=.agg eP) (us:=eP) (cs:=eP) (σ':=[eP]) r yE r r r r r r r r<|aH (fr':=[(2,aD)]) r r<|bO<|bT<|aN ?_
  obtain rfl:=sy h1
  exact bN (rs':=[.cell 2 160]) r<|eX (us:=eP) (cs:=eP) yE r r r r<|bM<|aP [] r r r (cM r kR6) aC
 ·
  obtain ⟨x3,hx3,h4⟩:=eF h1
  refine kF (fun j5=>x3=j5) (fun (j5:Bool)=>([(2,aD),(3,ci dT),(7,.c (.bool j5))]:Fr)) (fun (j5:Bool)=>([[.c (.bool false),.c (.bool false),.c (.bool false),.c (.bool false),.c (.bool false),.c (.bool false)]]:St)) ?_ ?_
  ·
   refine aJ<|aU r (cQ r r)<|sB r<|aH (fr':=[(2,aD),(3,aI),(7,aB)]) r r<|cU hx3 r (fun hb6 h6=>?_) (fun hb6 h6=>?_)
   ·
    exact bI<|lB _ (sy h6) (bJ [] 1 r r r r nW (cO r aC))
   ·
    exact bA<|aU r (cQ r r)<|sB r<|dQ (fr':=[(2,aD),(3,aI),(7,aB)]) r<|lB _ (sy h6) (bJ [] 1 r r r r nW (cO r aC))
  ·
   intro j5 hj7
   subst hj7
   refine cU h4 r (fun hb8 h8=>?_) (fun hb8 h8=>?_)
   ·
    refine aJ<|aU r (fM (cs:=eP) aFe r)<|cN (v:=.agg eP) (us:=eP) (cs:=eP) (σ':=[eP]) r yE r r r r r r r r<|aH (fr':=[(2,aD)]) r r<|bO<|bT<|aN ?_
    obtain rfl:=sy h8
    exact bN (rs':=[.cell 2 160]) r<|eX (us:=eP) (cs:=eP) yE r r r r<|bM<|aP [] r r r (cM r kR6) aC
   ·
    refine aJ<|aU r (cQ r r)<|sB r<|aH (fr':=[(2,aD),(3,aI),(11,aB)]) r r<|cU h8 r (fun hb10 h10=>?_) (fun hb10 h10=>?_)
    ·
     refine aJ<|aU r (fM (cs:=eP) aFe r)<|cN (v:=.agg eP) (us:=eP) (cs:=eP) (σ':=[eP]) r yE r r r r r r r r<|aH (fr':=[(2,aD)]) r r<|bO<|bT<|aN ?_
     obtain rfl:=sy h10
     exact bN (rs':=[.cell 2 160]) r<|eX (us:=eP) (cs:=eP) yE r r r r<|bM<|aP [] r r r (cM r kR6) aC
    ·
     refine aJ<|aU r (cQ r r)<|sB r<|aH (fr':=[(2,aD),(3,aI),(14,aB)]) r r<|cU h10 r (fun hb12 h12=>?_) (fun hb12 h12=>?_)
     ·
      refine aJ<|aU r (fM (cs:=eP) aFe r)<|cN (v:=.agg eP) (us:=eP) (cs:=eP) (σ':=[eP]) r yE r r r r r r r r<|aH (fr':=[(2,aD)]) r r<|bO<|bT<|aN ?_
      obtain rfl:=sy h12
      exact bN (rs':=[.cell 2 160]) r<|eX (us:=eP) (cs:=eP) yE r r r r<|bM<|aP [] r r r (cM r kR6) aC
     ·
      refine aJ<|aU r (cQ r r)<|sB r<|aH (fr':=[(2,aD),(3,aI),(17,aB)]) r r<|cU h12 r (fun hb14 h14=>?_) (fun hb14 h14=>?_)
      ·
       refine aJ<|aU r (fM (cs:=eP) aFe r)<|cN (v:=.agg eP) (us:=eP) (cs:=eP) (σ':=[eP]) r yE r r r r r r r r<|aH (fr':=[(2,aD)]) r r<|bO<|bT<|aN ?_
       obtain rfl:=sy h14
       exact bN (rs':=[.cell 2 160]) r<|eX (us:=eP) (cs:=eP) yE r r r r<|bM<|aP [] r r r (cM r kR6) aC
      ·
       refine aJ<|aU r (cQ r r)<|sB r<|aH (fr':=[(2,aD),(3,aI),(20,aB)]) r r<|cU h14 r (fun hb16 h16=>?_) (fun hb16 h16=>?_)
       ·
        refine aJ<|aU r (fM (cs:=eP) aFe r)<|cN (v:=.agg eP) (us:=eP) (cs:=eP) (σ':=[eP]) r yE r r r r r r r r<|aH (fr':=[(2,aD)]) r r<|bO<|bT<|aN ?_
        obtain rfl:=sy h16
        exact bN (rs':=[.cell 2 160]) r<|eX (us:=eP) (cs:=eP) yE r r r r<|bM<|aP [] r r r (cM r kR6) aC
       ·
        refine aJ<|aU r (cQ r r)<|sB r<|aH (fr':=[(2,aD),(3,aI),(23,aB)]) r r<|cU h16 r (fun hb18 h18=>?_) (fun hb18 h18=>?_)
        ·
         refine aJ<|aU r (fM (cs:=eP) aFe r)<|cN (v:=.agg eP) (us:=eP) (cs:=eP) (σ':=[eP]) r yE r r r r r r r r<|aH (fr':=[(2,aD)]) r r<|bO<|bT<|aN ?_
         obtain rfl:=sy h18
         exact bN (rs':=[.cell 2 160]) r<|eX (us:=eP) (cs:=eP) yE r r r r<|bM<|aP [] r r r (cM r kR6) aC
        ·
         refine aJ<|aU r (cQ r r)<|sB r<|aH (fr':=[(2,aD),(3,aI),(26,aB)]) r r<|cU h18 r (fun hb20 h20=>?_) (fun hb20 h20=>?_)
         ·
          refine aJ<|aU r (fM (cs:=eP) aFe r)<|cN (v:=.agg eP) (us:=eP) (cs:=eP) (σ':=[eP]) r yE r r r r r r r r<|aH (fr':=[(2,aD)]) r r<|bO<|bT<|aN ?_
          obtain rfl:=sy h20
          exact bN (rs':=[.cell 2 160]) r<|eX (us:=eP) (cs:=eP) yE r r r r<|bM<|aP [] r r r (cM r kR6) aC
         ·
          refine aJ<|aU r (cQ r r)<|sB r<|aH (fr':=[(2,aD),(29,aB)]) r r<|cU h20 r (fun hb22 h22=>?_) (fun hb22 h22=>?_)
          ·
           refine aJ<|aU r (fM (cs:=eP) aFe r)<|cN (v:=.agg eP) (us:=eP) (cs:=eP) (σ':=[eP]) r yE r r r r r r r r<|aH (fr':=[(2,aD)]) r r<|bO<|bT<|aN ?_
           obtain rfl:=sy h22
           exact bN (rs':=[.cell 2 160]) r<|eX (us:=eP) (cs:=eP) yE r r r r<|bM<|aP [] r r r (cM r kR6) aC
          ·
           refine bI<|dI<|dB<|aJ<|aU r (fM (cs:=eP) aFe r)<|cN (v:=.agg eP) (us:=eP) (cs:=eP) (σ':=[eP]) r yE r r r r r r r r<|aH (fr':=[(2,aD)]) r r<|bO ?_
           obtain rfl:=sy h22
           exact bN (rs':=[.cell 2 160]) r<|eX (us:=eP) (cs:=eP) yE r r r r<|bM<|aP [] r r r (cM r kR6) aC
noncomputable def nX (aBZ:(List (List UInt8))) (aDr:(List (List UInt8))) (s6:Int):Option (dN Int (Fl Bool Unit)) :=
 cond (decide (s6<((aBZ).length:Int))) ((lO aBZ s6).bind fun x8=>(lO aDr s6).bind fun x10=>cond (!decide (x8=x10)) (some (dN.out (Fl.done false))) (some (dN.next (IntKind.wrap .i64 (s6+1))))) (some (dN.out (Fl.go ())))
noncomputable def lL (aBZ:(List (List UInt8))) (aDr:(List (List UInt8))):Option Bool :=
 cond (!decide (((aBZ).length:Int)=((aDr).length:Int))) (some false) ((fI (nX aBZ aDr) (0)).bind fun x3=>Fl.next x3 (fun j5=>(some true)))
theorem wE {aBZ:(List (List UInt8))}{aDr:(List (List UInt8))}{res:Bool} (h:lL aBZ aDr=some res):cX Tryz.prog 171 [.c (PV.ls 1 iF aBZ),.c (PV.ls 1 iF aDr)] [] (.c (.bool res)) []:=by
 unfold lL at h
 refine dR (fn:=Tryz.f171) [0,1,4,5,10,12,13,14,24] (by kernel_rfl) Tryz.func171 r (by kernel_rfl) (by kernel_rfl)<|aJ<|sB r<|aH (fr':=[(0,aL),(1,aL)]) r r<|aX<|aJ<|mL r<|aU r (gT yV (eA r))<|mL r<|aU r (gT yV (eA r))<|aU r (iZ r r)<|aH (fr':=[(0,aL),(1,aL),(10,aB)]) r r<|cU h r (fun hb1 h1=>?_) (fun hb1 h1=>?_)
 ·
  refine aJ<|sB r<|aH (fr':=[(4,aB)]) r r<|bO<|aN ?_
  obtain rfl:=sy h1
  exact bN (rs':=[.tmp 4]) r<|cE (v:=aB) r<|bM<|aP [] r r r lr aC
 ·
  refine bI<|dB<|aX<|aJ<|mL r<|aU r (gT yV (eA r))<|mI r<|aH (fr':=[(0,aL),(1,aL),(12,aI),(13,aI)]) r r<|bx h1 fun x3 hx3 h4=>hF lP (fun j5=>x3=Fl.go j5) (fun (j5:Unit)=>([]:Fr)) (fun (j5:Unit)=>([]:St)) ?_ ?_
  ·
   refine cP<|gY _ (fun (s6:Int)=>([(0,.c (PV.ls 1 iF aBZ)),(1,.c (PV.ls 1 iF aDr)),(12,ci ((aBZ).length:Int)),(13,ci s6)]:Fr)) (fun (s6:Int)=>([]:St)) hx3 (bJ [] 0 r r r r kL4 aC) ?_
   intro s6 st6 hs6 ho6
   unfold nX at hs6
   refine aJ<|aU r (fY r r)<|aH (fr':=[(0,aL),(1,aL),(12,aI),(13,aI),(14,aB)]) r r<|aX<|cU hs6 r (fun hb7 h7=>?_) (fun hb7 h7=>?_)
   ·
    refine bI<|dB<|aX<|cP<|aJ<|mI r<|sI r<|aH (fr':=[(0,aL),(1,aL),(5,aI),(12,aI),(13,aI)]) r r<|aX<|lJ [.q 0,.q 1,.q 2,.q 3,.q 4,.q 5,.q 6,.q 7,.q 8] [(some 16,[0]),(some 17,[5]),(some 18,[16,17]),(some 19,[18]),(some 20,[1]),(some 21,[5]),(some 22,[20,21]),(some 23,[22]),(some 24,[19,23])] [0,0,3,7,0,0,48,112,255] (by kernel_rfl)<|dq r r (bK (v:=aL) r)<|dq r r (bK (v:=aI) r)<|bx h7 fun x8 hx8 h9=>dq r r (lC (cs:=[PV.str _]) aAW (eA r) r hx8 r)<|dq r r (fO (p:=PV.str _) rZ r r)<|dq r r (bK (v:=aL) r)<|dq r r (bK (v:=aI) r)<|bx h9 fun x10 hx10 h11=>dq r r (lC (cs:=[PV.str _]) aAW (eA r) r hx10 r)<|dq r r (fO (p:=PV.str _) rZ r r)<|dq r r (aCx r r)<|aAe (fr':=[(0,aL),(1,aL),(12,aI),(13,aI),(24,aB)]) r r<|cU h11 r (fun hb12 h12=>?_) (fun hb12 h12=>?_)
    ·
     refine aJ<|sB r<|aH (fr':=[(4,aB)]) r r<|bO<|bT<|aN<|aN<|bT<|aN<|aN ?_
     have h13:=eS h12 ho6
     have h14:=gI h13 h4
     obtain rfl:=sy h14
     exact bN (rs':=[.tmp 4]) r<|cE (v:=aB) r<|bM<|aP [] r r r lr aC
    ·
     exact bI<|dI<|dB<|bA<|aU r (fX r r)<|mI r<|dQ (fr':=[(0,aL),(1,aL),(12,aI),(13,aI),(24,aB)]) r<|zY _ (sy h12) (bJ [] 0 r r r r kL4 aC)
   ·
    refine iE<|cZ<|cZ<|fT ?_
    have h16:=eS h7 ho6
    exact lB _ (sy h16) (bJ [] 0 r r r r trivial aC)
  ·
   intro j5 hj17
   have h17:=nY hj17 h4
   refine dB<|aJ<|sB r<|aH (fr':=[(4,aB)]) r r<|bO ?_
   obtain rfl:=sy h17
   exact bN (rs':=[.tmp 4]) r<|cE (v:=aB) r<|bM<|aP [] r r r lr aC
noncomputable def fP (aI7:aF→aF→Option Bool) (aBZ:(List aF)) (aDr:(List aF)) (s6:Int):Option (dN Int (Fl Bool Unit)) :=
 cond (decide (s6<((aBZ).length:Int))) ((lO aBZ s6).bind fun x8=>(lO aDr s6).bind fun x10=>(aI7 x8 x10).bind fun x12=>cond (!x12) (some (dN.out (Fl.done false))) (some (dN.next (IntKind.wrap .i64 (s6+1))))) (some (dN.out (Fl.go ())))
mutual
noncomputable def eH:Nat→(List aF)→(List aF)→Option Bool
 | 0,_,_=>none
 | n+1,aBZ,aDr =>
  cond (!decide (((aBZ).length:Int)=((aDr).length:Int))) (some false) ((fI (fP (xR n) aBZ aDr) (0)).bind fun x3=>Fl.next x3 (fun j5=>(some true)))
noncomputable def xR:Nat→aF→aF→Option Bool
 | 0,_,_=>none
 | n+1,p0a,p1b =>
  (gd ((cond (cond (decide (p0a.Kind=p1b.Kind)) (decide (p0a.Int=p1b.Int)) false) (decide (p0a.Text=p1b.Text)) false)==true) (lL p0a.Keys p1b.Keys)).bind fun x1=>(gd ((cond (cond (cond (decide (p0a.Kind=p1b.Kind)) (decide (p0a.Int=p1b.Int)) false) (decide (p0a.Text=p1b.Text)) false) x1 false)==true) ((eH n) p0a.Items p1b.Items)).bind fun x3=>some (cond (cond (cond (cond (decide (p0a.Kind=p1b.Kind)) (decide (p0a.Int=p1b.Int)) false) (decide (p0a.Text=p1b.Text)) false) x1 false) x3 false)
end
theorem nV:∀ n:Nat,(∀ {aBZ:(List aF)}{aDr:(List aF)}{res:Bool},eH n aBZ aDr=some res→cX Tryz.prog 172 [.c (PV.ls 5 cF aBZ),.c (PV.ls 5 cF aDr),.fn 116 []] [] (.c (.bool res)) [])∧(∀ {p0a:aF}{p1b:aF}{res:Bool},xR n p0a p1b=some res→cX Tryz.prog 116 [.agg (AV.cs (eR p0a)),.agg (AV.cs (eR p1b))] [] (.c (.bool res)) []):=by
 intro n
 induction n with
 | zero=>exact ⟨fun {aBZ aDr res} h=>absurd h (by simp [eH]),fun {p0a p1b res} h=>absurd h (by simp [xR])⟩
 | succ n ih =>
  obtain ⟨ih_slices_EqualFunc_api_Value_api_Value_api_Value_api_Value_value_Same,ih_value_Same⟩:=ih
  refine ⟨?_,?_⟩
  ·
   intro aBZ aDr res h
   rw [eH] at h
   refine dR (fn:=Tryz.f172) [0,1,2,6,7,8,9,14,15,16,17,18,30] (by kernel_rfl) Tryz.func172 r (by kernel_rfl) (by kernel_rfl)<|aJ<|sB r<|aH (fr':=[(0,aL),(1,aL),(2,.fn _ [])]) r r<|aX<|aJ<|mL r<|aU r (gT vL (eA r))<|mL r<|aU r (gT vL (eA r))<|aU r (iZ r r)<|aH (fr':=[(0,aL),(1,aL),(2,.fn _ []),(14,aB)]) r r<|cU h r (fun hb1 h1=>?_) (fun hb1 h1=>?_)
   ·
    refine aJ<|sB r<|aH (fr':=[(6,aB)]) r r<|bO<|aN ?_
    obtain rfl:=sy h1
    exact bN (rs':=[.tmp 6]) r<|cE (v:=aB) r<|bM<|aP [] r r r lr aC
   ·
    refine bI<|dB<|aX<|aJ<|mL r<|aU r (gT vL (eA r))<|mI r<|aH (fr':=[(1,aL),(2,.fn _ []),(15,aL),(16,aI),(17,aI)]) r r<|bx h1 fun x3 hx3 h4=>hF lP (fun j5=>x3=Fl.go j5) (fun (j5:Unit)=>([]:Fr)) (fun (j5:Unit)=>([]:St)) ?_ ?_
    ·
     refine cP<|gY _ (fun (s6:Int)=>([(1,.c (PV.ls 5 cF aDr)),(2,.fn 116 []),(15,.c (PV.ls 5 cF aBZ)),(16,ci ((aBZ).length:Int)),(17,ci s6)]:Fr)) (fun (s6:Int)=>([]:St)) hx3 (bJ [] 0 r r r r kL5 aC) ?_
     intro s6 st6 hs6 ho6
     unfold fP at hs6
     refine aJ<|aU r (fY r r)<|aH (fr':=[(1,aL),(2,.fn _ []),(15,aL),(16,aI),(17,aI),(18,aB)]) r r<|aX<|cU hs6 r (fun hb7 h7=>?_) (fun hb7 h7=>?_)
     ·
      refine bI<|dB<|aX<|cP<|aJ<|mI r<|bx h7 fun x8 hx8 h9=>aU r (lC (cs:=[PV.int _ _,PV.int _ _,PV.str _,PV.ls _ _ _,PV.ls _ _ _]) uF (eA r) r hx8 (dZ _))<|aU r (nL (us:=[PV.int _ _,PV.int _ _,PV.str _,PV.ls _ _ _,PV.ls _ _ _]) jC r r r)<|jV (n:=0) (cs:=bY) (σ':=[bY]) aDE r r r<|sI r<|cN (v:=.agg cJ) (us:=cJ) (cs:=bY) (σ':=[cJ]) r jC r r r r r r r r<|aH (fr':=[(1,aL),(2,.fn _ []),(7,aI),(8,aD),(15,aL),(16,aI),(17,aI)]) r r<|aJ<|mL r<|mI r<|bx h9 fun x10 hx10 h11=>aU r (lC (cs:=[PV.int _ _,PV.int _ _,PV.str _,PV.ls _ _ _,PV.ls _ _ _]) uF (eA r) r hx10 (dZ _))<|aU r (nL (us:=[PV.int _ _,PV.int _ _,PV.str _,PV.ls _ _ _,PV.ls _ _ _]) jC r r r)<|jV (n:=1) (cs:=bY) (σ':=[cJ,bY]) aDE r r r<|cN (v:=.agg cJ) (us:=cJ) (cs:=bY) (σ':=[cJ,cJ]) r jC r r r r r r r r<|aH (fr':=[(1,aL),(2,.fn _ []),(8,aD),(9,bD),(15,aL),(16,aI),(17,aI)]) r r<|aJ<|mV (v:=.fn _ []) r<|aU r (eL (us:=cJ) jC r r r r)<|aU r (eL (us:=cJ) jC r r r r)<|bx h11 fun x12 hx12 h13=>oN (cA (v:=aB) r (ih_value_Same hx12) ⟨(cM r kR5),(cM r kR5),trivial⟩ r r r)<|aU r (gX r)<|aH (fr':=[(1,aL),(2,.fn _ []),(15,aL),(16,aI),(17,aI),(30,aB)]) r r<|cU h13 r (fun hb14 h14=>?_) (fun hb14 h14=>?_)
      ·
       refine aJ<|sB r<|aH (fr':=[(6,aB)]) r r<|bO<|bT<|aN<|aN<|bT<|aN<|aN ?_
       have h15:=eS h14 ho6
       have h16:=gI h15 h4
       obtain rfl:=sy h16
       exact bN (rs':=[.tmp 6]) r<|cE (v:=aB) r<|bM<|aP [] r r r lr aC
      ·
       exact bI<|dI<|dB<|bA<|aU r (fX r r)<|mI r<|dQ (fr':=[(1,aL),(2,.fn _ []),(15,aL),(16,aI),(17,aI),(30,aB)]) r<|zY _ (sy h14) (bJ [] 0 r r r r kL5 aC)
     ·
      refine iE<|cZ<|cZ<|fT ?_
      have h18:=eS h7 ho6
      exact lB _ (sy h18) (bJ [] 0 r r r r trivial aC)
    ·
     intro j5 hj19
     have h19:=nY hj19 h4
     refine dB<|aJ<|sB r<|aH (fr':=[(6,aB)]) r r<|bO ?_
     obtain rfl:=sy h19
     exact bN (rs':=[.tmp 6]) r<|cE (v:=aB) r<|bM<|aP [] r r r lr aC
  ·
   intro p0a p1b res h
   rw [xR] at h
   refine dR (fn:=Tryz.f116) [0,1,2,3,4] (by kernel_rfl) Tryz.func116 r (by kernel_rfl) (by kernel_rfl)<|aJ<|kP (v:=.agg cJ) (n:=0) (cs:=cJ) (σ':=[cJ]) r r r r r<|kP (v:=.agg cJ) (n:=1) (cs:=cJ) (σ':=[cJ,cJ]) r r r r r<|sB r<|aH (fr':=[(2,aD),(3,bD)]) r r<|aJ<|aU r (bU mE r)<|aU r (aR (v:=aI) hU r r r)<|aU r (bU mE r)<|aU r (aR (v:=aI) hU r r r)<|aU r (cQ r r)<|mB r<|og r r r (fun hc=>(bU rO r))<|og r r r (fun hc=>(aR (v:=aI) hU (gx r hc) r r))<|og r r r (fun hc=>(bU rO r))<|og r r r (fun hc=>(aR (v:=aI) hU (gx r hc) r r))<|og r r r (fun hc=>(cQ (gx r hc) (gx r hc)))<|aU r (cS r r r (fun e=>hH e))<|mB r<|og r r r (fun hc=>(bU uA r))<|og r r r (fun hc=>(aR (v:=aS) rZ (gx r hc) r r))<|og r r r (fun hc=>(bU uA r))<|og r r r (fun hc=>(aR (v:=aS) rZ (gx r hc) r r))<|og r r r (fun hc=>(wL (gx r hc) (gx r hc)))<|aU r (cS r r r (fun e=>hH e))<|mB r<|og r r r (fun hc=>(bU oI r))<|og r r r (fun hc=>(aR (v:=aL) qP (gx r hc) r r))<|og r r r (fun hc=>(bU oI r))<|og r r r (fun hc=>(aR (v:=aL) qP (gx r hc) r r))<|bx h fun x1 hx1 h2=>zG r r (fun hc=>cA (v:=aB) r (wE (dM hx1 hc)) ⟨(iA (gx r hc) lr),(iA (gx r hc) lr),trivial⟩ (iO (by repeat (first | exact fU | refine bG r ?_ | refine bG (vD r) ?_ | refine bG vC ?_))) r r) ?_
   refine aU r (cS r r r (fun e=>hH e))<|mB r<|og r r r (fun hc=>(bU iB r))<|og r r r (fun hc=>(aR (v:=aL) nS (gx r hc) r r))<|og r r r (fun hc=>(bU iB r))<|og r r r (fun hc=>(aR (v:=aL) nS (gx r hc) r r))<|bx h2 fun x3 hx3 h4=>zG r r (fun hc=>cA (v:=aB) r (ih_slices_EqualFunc_api_Value_api_Value_api_Value_api_Value_value_Same (dM hx3 hc)) ⟨(iA (gx r hc) lr),(iA (gx r hc) lr),lr,trivial⟩ (iO (by repeat (first | exact fU | refine bG r ?_ | refine bG (vD r) ?_ | refine bG vC ?_))) r r) ?_
   refine aU r (cS r r r (fun e=>hH e))<|sB r<|aH (fr':=[(4,aB)]) r r<|bO ?_
   obtain rfl:=sy h4
   exact bN (rs':=[.tmp 4]) r<|cE (v:=aB) r<|bM<|aP [] r r r lr aC
noncomputable def aDF (p0a:aF) (p1b:aF):Option Bool:=lim fun n=>xR n p0a p1b
theorem aGB {p0a:aF}{p1b:aF}{res:Bool} (h:aDF p0a p1b=some res):cX Tryz.prog 116 [.agg (AV.cs (eR p0a)),.agg (AV.cs (eR p1b))] [] (.c (.bool res)) []:=by
 obtain ⟨n,hn⟩:=qN h
 exact (nV n).2 hn
noncomputable def pP (p0a:bV) (p1b:bV):Option Bool :=
 (rB p0a).bind fun x1=>(rB p1b).bind fun x4=>cond (!decide (p0a.ToStart=p1b.ToStart)) (some false) (cond (!decide (p0a.ToClose=p1b.ToClose)) (some false) (cond (!decide (p0a.Total=p1b.Total)) (some false) (cond (!decide (p0a.Beat=p1b.Beat)) (some false) (cond (!decide (p0a.First=p1b.First)) (some false) (cond (!decide (p0a.Coef=p1b.Coef)) (some false) (cond (!decide (p0a.Most=p1b.Most)) (some false) (cond (!decide (p0a.Attempts=p1b.Attempts)) (some false) ((gd ((decide (p0a.Queue=p1b.Queue))==true) (lL p0a.Fatal p1b.Fatal)).bind fun x23=>some (cond (decide (p0a.Queue=p1b.Queue)) x23 false)))))))))
theorem aBm {p0a:bV}{p1b:bV}{res:Bool} (h:pP p0a p1b=some res):cX Tryz.prog 117 [.agg (AV.cs (mU p0a)),.agg (AV.cs (mU p1b))] [] (.c (.bool res)) []:=by
 unfold pP at h
 refine dR (fn:=Tryz.f117) [0,1,2,3,4,5,6,7,11,12,13,27] (by kernel_rfl) Tryz.func117 r (by kernel_rfl) (by kernel_rfl)<|aJ<|kP (v:=.agg dO) (n:=0) (cs:=dO) (σ':=[dO]) r r r r r<|kP (v:=.agg dO) (n:=1) (cs:=dO) (σ':=[dO,dO]) r r r r r<|sB r<|aH (fr':=[(2,aD),(3,bD)]) r r<|aX<|bA<|bx h fun x1 hx1 h2=>aCo (v:=.ptrs [(0,1),(0,2),(0,3),(0,4),(0,5),(0,6),(0,7),(0,8)]) (σ':=[dO,dO]) 8 [0] [] r (aAH hx1) r r r ⟨lr,trivial⟩ (fE aDf aC) r r r<|bx h2 fun x4 hx4 h5=>aCo (v:=.ptrs [(1,1),(1,2),(1,3),(1,4),(1,5),(1,6),(1,7),(1,8)]) (σ':=[dO,dO]) 9 [1] [] r (aAH hx4) r r r ⟨lr,trivial⟩ (fE aDf aC) r r r<|sV (v:=.ptrs [(0,1),(0,2),(0,3),(0,4),(0,5),(0,6),(0,7),(0,8)]) r<|sV (v:=.ptrs [(1,1),(1,2),(1,3),(1,4),(1,5),(1,6),(1,7),(1,8)]) r<|aH (fr':=[(2,aD),(3,bD),(5,.ptrs [(0,1),(0,2),(0,3),(0,4),(0,5),(0,6),(0,7),(0,8)]),(6,.ptrs [(1,1),(1,2),(1,3),(1,4),(1,5),(1,6),(1,7),(1,8)])]) r r<|aX<|aJ<|mV (v:=.ptrs [(0,1),(0,2),(0,3),(0,4),(0,5),(0,6),(0,7),(0,8)]) r<|aU r (aLo aTu r)<|mI r<|aH (fr':=[(2,aD),(3,bD),(5,.ptrs [(0,1),(0,2),(0,3),(0,4),(0,5),(0,6),(0,7),(0,8)]),(6,.ptrs [(1,1),(1,2),(1,3),(1,4),(1,5),(1,6),(1,7),(1,8)]),(11,aI),(12,aI)]) r r<|cP<|aPy 64<|xH<|aJ<|aU r (yK (fY r r) (show _=.bool true from r))<|aH (fr':=[(2,aD),(3,bD),(5,.ptrs [(0,1),(0,2),(0,3),(0,4),(0,5),(0,6),(0,7),(0,8)]),(6,.ptrs [(1,1),(1,2),(1,3),(1,4),(1,5),(1,6),(1,7),(1,8)]),(11,aI),(12,aI),(13,aB)]) r r<|aX<|kI r<|bI<|dB<|aX<|cP<|aX<|bA<|mI r<|sI r<|aH (fr':=[(2,aD),(3,bD),(5,.ptrs [(0,1),(0,2),(0,3),(0,4),(0,5),(0,6),(0,7),(0,8)]),(6,.ptrs [(1,1),(1,2),(1,3),(1,4),(1,5),(1,6),(1,7),(1,8)]),(7,aI),(11,aI),(12,aI)]) r r<|aX<|lJ [.q 0,.q 1,.q 2,.q 3,.q 4,.q 5,.q 6,.q 7,.q 8,.q 9,.q 10,.q 11,.q 12] [(some 15,[5]),(some 16,[7]),(some 17,[15,16]),(some 18,[17]),(some 19,[18]),(some 20,[19]),(some 21,[6]),(some 22,[7]),(some 23,[21,22]),(some 24,[23]),(some 25,[24]),(some 26,[25]),(some 27,[20,26])] [0,0,3,7,15,31,0,0,192,448,960,1984,4095] (by kernel_rfl)<|dq r r (bK (v:=.ptrs [(0,1),(0,2),(0,3),(0,4),(0,5),(0,6),(0,7),(0,8)]) r)<|dq r r (bK (v:=aI) r)<|dq r r (oX (p:=(0,1)) uG r r r)<|dq r r (kC vM r)<|dq r r (iV r)<|dq r r (aR (v:=aI) hU r r r)<|dq r r (bK (v:=.ptrs [(1,1),(1,2),(1,3),(1,4),(1,5),(1,6),(1,7),(1,8)]) r)<|dq r r (bK (v:=aI) r)<|dq r r (oX (p:=(1,1)) uG r r r)<|dq r r (kC vM r)<|dq r r (iV r)<|dq r r (aR (v:=aI) hU r r r)<|dq r r (iZ r r)<|aAe (fr':=[(2,aD),(3,bD),(5,.ptrs [(0,1),(0,2),(0,3),(0,4),(0,5),(0,6),(0,7),(0,8)]),(6,.ptrs [(1,1),(1,2),(1,3),(1,4),(1,5),(1,6),(1,7),(1,8)]),(11,aI),(12,aI),(27,aB)]) r r<|cU h5 r (fun hb7 h7=>?_) (fun hb7 h7=>?_)
 ·
  refine aJ<|sB r<|aH (fr':=[(4,aB)]) r r<|bO<|bT<|aN<|aN<|bT<|aN ?_
  obtain rfl:=sy h7
  exact bN (rs':=[.tmp 4]) r<|cE (v:=aB) r<|bM<|aP [] r r r lr aC
 ·
  refine bI<|dI<|dB<|bA<|aU r (yK (fX r r) (show _=.int .i64 (1:Int) from r))<|mI r<|dQ (fr':=[(2,aD),(3,bD),(5,.ptrs [(0,1),(0,2),(0,3),(0,4),(0,5),(0,6),(0,7),(0,8)]),(6,.ptrs [(1,1),(1,2),(1,3),(1,4),(1,5),(1,6),(1,7),(1,8)]),(11,aI),(12,aI),(27,aB)]) r<|mC<|xH<|aJ<|aU r (yK (fY r r) (show _=.bool true from r))<|aH (fr':=[(2,aD),(3,bD),(5,.ptrs [(0,1),(0,2),(0,3),(0,4),(0,5),(0,6),(0,7),(0,8)]),(6,.ptrs [(1,1),(1,2),(1,3),(1,4),(1,5),(1,6),(1,7),(1,8)]),(11,aI),(12,aI),(13,aB)]) r r<|aX<|kI r<|bI<|dB<|aX<|cP<|aJ<|mI r<|sI r<|aH (fr':=[(2,aD),(3,bD),(5,.ptrs [(0,1),(0,2),(0,3),(0,4),(0,5),(0,6),(0,7),(0,8)]),(6,.ptrs [(1,1),(1,2),(1,3),(1,4),(1,5),(1,6),(1,7),(1,8)]),(7,aI),(11,aI),(12,aI)]) r r<|aX<|lJ [.q 0,.q 1,.q 2,.q 3,.q 4,.q 5,.q 6,.q 7,.q 8,.q 9,.q 10,.q 11,.q 12] [(some 15,[5]),(some 16,[7]),(some 17,[15,16]),(some 18,[17]),(some 19,[18]),(some 20,[19]),(some 21,[6]),(some 22,[7]),(some 23,[21,22]),(some 24,[23]),(some 25,[24]),(some 26,[25]),(some 27,[20,26])] [0,0,3,7,15,31,0,0,192,448,960,1984,4095] (by kernel_rfl)<|dq r r (bK (v:=.ptrs [(0,1),(0,2),(0,3),(0,4),(0,5),(0,6),(0,7),(0,8)]) r)<|dq r r (bK (v:=aI) r)<|dq r r (oX (p:=(0,2)) uG r r r)<|dq r r (kC vM r)<|dq r r (iV r)<|dq r r (aR (v:=aI) hU r r r)<|dq r r (bK (v:=.ptrs [(1,1),(1,2),(1,3),(1,4),(1,5),(1,6),(1,7),(1,8)]) r)<|dq r r (bK (v:=aI) r)<|dq r r (oX (p:=(1,2)) uG r r r)<|dq r r (kC vM r)<|dq r r (iV r)<|dq r r (aR (v:=aI) hU r r r)<|dq r r (iZ r r)<|aAe (fr':=[(2,aD),(3,bD),(5,.ptrs [(0,1),(0,2),(0,3),(0,4),(0,5),(0,6),(0,7),(0,8)]),(6,.ptrs [(1,1),(1,2),(1,3),(1,4),(1,5),(1,6),(1,7),(1,8)]),(11,aI),(12,aI),(27,aB)]) r r<|cU h7 r (fun hb9 h9=>?_) (fun hb9 h9=>?_)
  ·
   refine aJ<|sB r<|aH (fr':=[(4,aB)]) r r<|bO<|bT<|aN<|aN<|bT<|aN ?_
   obtain rfl:=sy h9
   exact bN (rs':=[.tmp 4]) r<|cE (v:=aB) r<|bM<|aP [] r r r lr aC
  ·
   refine bI<|dI<|dB<|bA<|aU r (yK (fX r r) (show _=.int .i64 (2:Int) from r))<|mI r<|dQ (fr':=[(2,aD),(3,bD),(5,.ptrs [(0,1),(0,2),(0,3),(0,4),(0,5),(0,6),(0,7),(0,8)]),(6,.ptrs [(1,1),(1,2),(1,3),(1,4),(1,5),(1,6),(1,7),(1,8)]),(11,aI),(12,aI),(27,aB)]) r<|mC<|xH<|aJ<|aU r (yK (fY r r) (show _=.bool true from r))<|aH (fr':=[(2,aD),(3,bD),(5,.ptrs [(0,1),(0,2),(0,3),(0,4),(0,5),(0,6),(0,7),(0,8)]),(6,.ptrs [(1,1),(1,2),(1,3),(1,4),(1,5),(1,6),(1,7),(1,8)]),(11,aI),(12,aI),(13,aB)]) r r<|aX<|kI r<|bI<|dB<|aX<|cP<|aJ<|mI r<|sI r<|aH (fr':=[(2,aD),(3,bD),(5,.ptrs [(0,1),(0,2),(0,3),(0,4),(0,5),(0,6),(0,7),(0,8)]),(6,.ptrs [(1,1),(1,2),(1,3),(1,4),(1,5),(1,6),(1,7),(1,8)]),(7,aI),(11,aI),(12,aI)]) r r<|aX<|lJ [.q 0,.q 1,.q 2,.q 3,.q 4,.q 5,.q 6,.q 7,.q 8,.q 9,.q 10,.q 11,.q 12] [(some 15,[5]),(some 16,[7]),(some 17,[15,16]),(some 18,[17]),(some 19,[18]),(some 20,[19]),(some 21,[6]),(some 22,[7]),(some 23,[21,22]),(some 24,[23]),(some 25,[24]),(some 26,[25]),(some 27,[20,26])] [0,0,3,7,15,31,0,0,192,448,960,1984,4095] (by kernel_rfl)<|dq r r (bK (v:=.ptrs [(0,1),(0,2),(0,3),(0,4),(0,5),(0,6),(0,7),(0,8)]) r)<|dq r r (bK (v:=aI) r)<|dq r r (oX (p:=(0,3)) uG r r r)<|dq r r (kC vM r)<|dq r r (iV r)<|dq r r (aR (v:=aI) hU r r r)<|dq r r (bK (v:=.ptrs [(1,1),(1,2),(1,3),(1,4),(1,5),(1,6),(1,7),(1,8)]) r)<|dq r r (bK (v:=aI) r)<|dq r r (oX (p:=(1,3)) uG r r r)<|dq r r (kC vM r)<|dq r r (iV r)<|dq r r (aR (v:=aI) hU r r r)<|dq r r (iZ r r)<|aAe (fr':=[(2,aD),(3,bD),(5,.ptrs [(0,1),(0,2),(0,3),(0,4),(0,5),(0,6),(0,7),(0,8)]),(6,.ptrs [(1,1),(1,2),(1,3),(1,4),(1,5),(1,6),(1,7),(1,8)]),(11,aI),(12,aI),(27,aB)]) r r<|cU h9 r (fun hb11 h11=>?_) (fun hb11 h11=>?_)
   ·
    refine aJ<|sB r<|aH (fr':=[(4,aB)]) r r<|bO<|bT<|aN<|aN<|bT<|aN ?_
    obtain rfl:=sy h11
    exact bN (rs':=[.tmp 4]) r<|cE (v:=aB) r<|bM<|aP [] r r r lr aC
   ·
    refine bI<|dI<|dB<|bA<|aU r (yK (fX r r) (show _=.int .i64 (3:Int) from r))<|mI r<|dQ (fr':=[(2,aD),(3,bD),(5,.ptrs [(0,1),(0,2),(0,3),(0,4),(0,5),(0,6),(0,7),(0,8)]),(6,.ptrs [(1,1),(1,2),(1,3),(1,4),(1,5),(1,6),(1,7),(1,8)]),(11,aI),(12,aI),(27,aB)]) r<|mC<|xH<|aJ<|aU r (yK (fY r r) (show _=.bool true from r))<|aH (fr':=[(2,aD),(3,bD),(5,.ptrs [(0,1),(0,2),(0,3),(0,4),(0,5),(0,6),(0,7),(0,8)]),(6,.ptrs [(1,1),(1,2),(1,3),(1,4),(1,5),(1,6),(1,7),(1,8)]),(11,aI),(12,aI),(13,aB)]) r r<|aX<|kI r<|bI<|dB<|aX<|cP<|aJ<|mI r<|sI r<|aH (fr':=[(2,aD),(3,bD),(5,.ptrs [(0,1),(0,2),(0,3),(0,4),(0,5),(0,6),(0,7),(0,8)]),(6,.ptrs [(1,1),(1,2),(1,3),(1,4),(1,5),(1,6),(1,7),(1,8)]),(7,aI),(11,aI),(12,aI)]) r r<|aX<|lJ [.q 0,.q 1,.q 2,.q 3,.q 4,.q 5,.q 6,.q 7,.q 8,.q 9,.q 10,.q 11,.q 12] [(some 15,[5]),(some 16,[7]),(some 17,[15,16]),(some 18,[17]),(some 19,[18]),(some 20,[19]),(some 21,[6]),(some 22,[7]),(some 23,[21,22]),(some 24,[23]),(some 25,[24]),(some 26,[25]),(some 27,[20,26])] [0,0,3,7,15,31,0,0,192,448,960,1984,4095] (by kernel_rfl)<|dq r r (bK (v:=.ptrs [(0,1),(0,2),(0,3),(0,4),(0,5),(0,6),(0,7),(0,8)]) r)<|dq r r (bK (v:=aI) r)<|dq r r (oX (p:=(0,4)) uG r r r)<|dq r r (kC vM r)<|dq r r (iV r)<|dq r r (aR (v:=aI) hU r r r)<|dq r r (bK (v:=.ptrs [(1,1),(1,2),(1,3),(1,4),(1,5),(1,6),(1,7),(1,8)]) r)<|dq r r (bK (v:=aI) r)<|dq r r (oX (p:=(1,4)) uG r r r)<|dq r r (kC vM r)<|dq r r (iV r)<|dq r r (aR (v:=aI) hU r r r)<|dq r r (iZ r r)<|aAe (fr':=[(2,aD),(3,bD),(5,.ptrs [(0,1),(0,2),(0,3),(0,4),(0,5),(0,6),(0,7),(0,8)]),(6,.ptrs [(1,1),(1,2),(1,3),(1,4),(1,5),(1,6),(1,7),(1,8)]),(11,aI),(12,aI),(27,aB)]) r r<|cU h11 r (fun hb13 h13=>?_) (fun hb13 h13=>?_)
    ·
     refine aJ<|sB r<|aH (fr':=[(4,aB)]) r r<|bO<|bT<|aN<|aN<|bT<|aN ?_
     obtain rfl:=sy h13
     exact bN (rs':=[.tmp 4]) r<|cE (v:=aB) r<|bM<|aP [] r r r lr aC
    ·
     refine bI<|dI<|dB<|bA<|aU r (yK (fX r r) (show _=.int .i64 (4:Int) from r))<|mI r<|dQ (fr':=[(2,aD),(3,bD),(5,.ptrs [(0,1),(0,2),(0,3),(0,4),(0,5),(0,6),(0,7),(0,8)]),(6,.ptrs [(1,1),(1,2),(1,3),(1,4),(1,5),(1,6),(1,7),(1,8)]),(11,aI),(12,aI),(27,aB)]) r<|mC<|xH<|aJ<|aU r (yK (fY r r) (show _=.bool true from r))<|aH (fr':=[(2,aD),(3,bD),(5,.ptrs [(0,1),(0,2),(0,3),(0,4),(0,5),(0,6),(0,7),(0,8)]),(6,.ptrs [(1,1),(1,2),(1,3),(1,4),(1,5),(1,6),(1,7),(1,8)]),(11,aI),(12,aI),(13,aB)]) r r<|aX<|kI r<|bI<|dB<|aX<|cP<|aJ<|mI r<|sI r<|aH (fr':=[(2,aD),(3,bD),(5,.ptrs [(0,1),(0,2),(0,3),(0,4),(0,5),(0,6),(0,7),(0,8)]),(6,.ptrs [(1,1),(1,2),(1,3),(1,4),(1,5),(1,6),(1,7),(1,8)]),(7,aI),(11,aI),(12,aI)]) r r<|aX<|lJ [.q 0,.q 1,.q 2,.q 3,.q 4,.q 5,.q 6,.q 7,.q 8,.q 9,.q 10,.q 11,.q 12] [(some 15,[5]),(some 16,[7]),(some 17,[15,16]),(some 18,[17]),(some 19,[18]),(some 20,[19]),(some 21,[6]),(some 22,[7]),(some 23,[21,22]),(some 24,[23]),(some 25,[24]),(some 26,[25]),(some 27,[20,26])] [0,0,3,7,15,31,0,0,192,448,960,1984,4095] (by kernel_rfl)<|dq r r (bK (v:=.ptrs [(0,1),(0,2),(0,3),(0,4),(0,5),(0,6),(0,7),(0,8)]) r)<|dq r r (bK (v:=aI) r)<|dq r r (oX (p:=(0,5)) uG r r r)<|dq r r (kC vM r)<|dq r r (iV r)<|dq r r (aR (v:=aI) hU r r r)<|dq r r (bK (v:=.ptrs [(1,1),(1,2),(1,3),(1,4),(1,5),(1,6),(1,7),(1,8)]) r)<|dq r r (bK (v:=aI) r)<|dq r r (oX (p:=(1,5)) uG r r r)<|dq r r (kC vM r)<|dq r r (iV r)<|dq r r (aR (v:=aI) hU r r r)<|dq r r (iZ r r)<|aAe (fr':=[(2,aD),(3,bD),(5,.ptrs [(0,1),(0,2),(0,3),(0,4),(0,5),(0,6),(0,7),(0,8)]),(6,.ptrs [(1,1),(1,2),(1,3),(1,4),(1,5),(1,6),(1,7),(1,8)]),(11,aI),(12,aI),(27,aB)]) r r<|cU h13 r (fun hb15 h15=>?_) (fun hb15 h15=>?_)
     ·
      refine aJ<|sB r<|aH (fr':=[(4,aB)]) r r<|bO<|bT<|aN<|aN<|bT<|aN ?_
      obtain rfl:=sy h15
      exact bN (rs':=[.tmp 4]) r<|cE (v:=aB) r<|bM<|aP [] r r r lr aC
     ·
      refine bI<|dI<|dB<|bA<|aU r (yK (fX r r) (show _=.int .i64 (5:Int) from r))<|mI r<|dQ (fr':=[(2,aD),(3,bD),(5,.ptrs [(0,1),(0,2),(0,3),(0,4),(0,5),(0,6),(0,7),(0,8)]),(6,.ptrs [(1,1),(1,2),(1,3),(1,4),(1,5),(1,6),(1,7),(1,8)]),(11,aI),(12,aI),(27,aB)]) r<|mC<|xH<|aJ<|aU r (yK (fY r r) (show _=.bool true from r))<|aH (fr':=[(2,aD),(3,bD),(5,.ptrs [(0,1),(0,2),(0,3),(0,4),(0,5),(0,6),(0,7),(0,8)]),(6,.ptrs [(1,1),(1,2),(1,3),(1,4),(1,5),(1,6),(1,7),(1,8)]),(11,aI),(12,aI),(13,aB)]) r r<|aX<|kI r<|bI<|dB<|aX<|cP<|aJ<|mI r<|sI r<|aH (fr':=[(2,aD),(3,bD),(5,.ptrs [(0,1),(0,2),(0,3),(0,4),(0,5),(0,6),(0,7),(0,8)]),(6,.ptrs [(1,1),(1,2),(1,3),(1,4),(1,5),(1,6),(1,7),(1,8)]),(7,aI),(11,aI),(12,aI)]) r r<|aX<|lJ [.q 0,.q 1,.q 2,.q 3,.q 4,.q 5,.q 6,.q 7,.q 8,.q 9,.q 10,.q 11,.q 12] [(some 15,[5]),(some 16,[7]),(some 17,[15,16]),(some 18,[17]),(some 19,[18]),(some 20,[19]),(some 21,[6]),(some 22,[7]),(some 23,[21,22]),(some 24,[23]),(some 25,[24]),(some 26,[25]),(some 27,[20,26])] [0,0,3,7,15,31,0,0,192,448,960,1984,4095] (by kernel_rfl)<|dq r r (bK (v:=.ptrs [(0,1),(0,2),(0,3),(0,4),(0,5),(0,6),(0,7),(0,8)]) r)<|dq r r (bK (v:=aI) r)<|dq r r (oX (p:=(0,6)) uG r r r)<|dq r r (kC vM r)<|dq r r (iV r)<|dq r r (aR (v:=aI) hU r r r)<|dq r r (bK (v:=.ptrs [(1,1),(1,2),(1,3),(1,4),(1,5),(1,6),(1,7),(1,8)]) r)<|dq r r (bK (v:=aI) r)<|dq r r (oX (p:=(1,6)) uG r r r)<|dq r r (kC vM r)<|dq r r (iV r)<|dq r r (aR (v:=aI) hU r r r)<|dq r r (iZ r r)<|aAe (fr':=[(2,aD),(3,bD),(5,.ptrs [(0,1),(0,2),(0,3),(0,4),(0,5),(0,6),(0,7),(0,8)]),(6,.ptrs [(1,1),(1,2),(1,3),(1,4),(1,5),(1,6),(1,7),(1,8)]),(11,aI),(12,aI),(27,aB)]) r r<|cU h15 r (fun hb17 h17=>?_) (fun hb17 h17=>?_)
      ·
       refine aJ<|sB r<|aH (fr':=[(4,aB)]) r r<|bO<|bT<|aN<|aN<|bT<|aN ?_
       obtain rfl:=sy h17
       exact bN (rs':=[.tmp 4]) r<|cE (v:=aB) r<|bM<|aP [] r r r lr aC
      ·
       refine bI<|dI<|dB<|bA<|aU r (yK (fX r r) (show _=.int .i64 (6:Int) from r))<|mI r<|dQ (fr':=[(2,aD),(3,bD),(5,.ptrs [(0,1),(0,2),(0,3),(0,4),(0,5),(0,6),(0,7),(0,8)]),(6,.ptrs [(1,1),(1,2),(1,3),(1,4),(1,5),(1,6),(1,7),(1,8)]),(11,aI),(12,aI),(27,aB)]) r<|mC<|xH<|aJ<|aU r (yK (fY r r) (show _=.bool true from r))<|aH (fr':=[(2,aD),(3,bD),(5,.ptrs [(0,1),(0,2),(0,3),(0,4),(0,5),(0,6),(0,7),(0,8)]),(6,.ptrs [(1,1),(1,2),(1,3),(1,4),(1,5),(1,6),(1,7),(1,8)]),(11,aI),(12,aI),(13,aB)]) r r<|aX<|kI r<|bI<|dB<|aX<|cP<|aJ<|mI r<|sI r<|aH (fr':=[(2,aD),(3,bD),(5,.ptrs [(0,1),(0,2),(0,3),(0,4),(0,5),(0,6),(0,7),(0,8)]),(6,.ptrs [(1,1),(1,2),(1,3),(1,4),(1,5),(1,6),(1,7),(1,8)]),(7,aI),(11,aI),(12,aI)]) r r<|aX<|lJ [.q 0,.q 1,.q 2,.q 3,.q 4,.q 5,.q 6,.q 7,.q 8,.q 9,.q 10,.q 11,.q 12] [(some 15,[5]),(some 16,[7]),(some 17,[15,16]),(some 18,[17]),(some 19,[18]),(some 20,[19]),(some 21,[6]),(some 22,[7]),(some 23,[21,22]),(some 24,[23]),(some 25,[24]),(some 26,[25]),(some 27,[20,26])] [0,0,3,7,15,31,0,0,192,448,960,1984,4095] (by kernel_rfl)<|dq r r (bK (v:=.ptrs [(0,1),(0,2),(0,3),(0,4),(0,5),(0,6),(0,7),(0,8)]) r)<|dq r r (bK (v:=aI) r)<|dq r r (oX (p:=(0,7)) uG r r r)<|dq r r (kC vM r)<|dq r r (iV r)<|dq r r (aR (v:=aI) hU r r r)<|dq r r (bK (v:=.ptrs [(1,1),(1,2),(1,3),(1,4),(1,5),(1,6),(1,7),(1,8)]) r)<|dq r r (bK (v:=aI) r)<|dq r r (oX (p:=(1,7)) uG r r r)<|dq r r (kC vM r)<|dq r r (iV r)<|dq r r (aR (v:=aI) hU r r r)<|dq r r (iZ r r)<|aAe (fr':=[(2,aD),(3,bD),(5,.ptrs [(0,1),(0,2),(0,3),(0,4),(0,5),(0,6),(0,7),(0,8)]),(6,.ptrs [(1,1),(1,2),(1,3),(1,4),(1,5),(1,6),(1,7),(1,8)]),(11,aI),(12,aI),(27,aB)]) r r<|cU h17 r (fun hb19 h19=>?_) (fun hb19 h19=>?_)
       ·
        refine aJ<|sB r<|aH (fr':=[(4,aB)]) r r<|bO<|bT<|aN<|aN<|bT<|aN ?_
        obtain rfl:=sy h19
        exact bN (rs':=[.tmp 4]) r<|cE (v:=aB) r<|bM<|aP [] r r r lr aC
       ·
        refine bI<|dI<|dB<|bA<|aU r (yK (fX r r) (show _=.int .i64 (7:Int) from r))<|mI r<|dQ (fr':=[(2,aD),(3,bD),(5,.ptrs [(0,1),(0,2),(0,3),(0,4),(0,5),(0,6),(0,7),(0,8)]),(6,.ptrs [(1,1),(1,2),(1,3),(1,4),(1,5),(1,6),(1,7),(1,8)]),(11,aI),(12,aI),(27,aB)]) r<|mC<|xH<|aJ<|aU r (yK (fY r r) (show _=.bool true from r))<|aH (fr':=[(2,aD),(3,bD),(5,.ptrs [(0,1),(0,2),(0,3),(0,4),(0,5),(0,6),(0,7),(0,8)]),(6,.ptrs [(1,1),(1,2),(1,3),(1,4),(1,5),(1,6),(1,7),(1,8)]),(11,aI),(12,aI),(13,aB)]) r r<|aX<|kI r<|bI<|dB<|aX<|cP<|aJ<|mI r<|sI r<|aH (fr':=[(2,aD),(3,bD),(5,.ptrs [(0,1),(0,2),(0,3),(0,4),(0,5),(0,6),(0,7),(0,8)]),(6,.ptrs [(1,1),(1,2),(1,3),(1,4),(1,5),(1,6),(1,7),(1,8)]),(7,aI),(11,aI),(12,aI)]) r r<|aX<|lJ [.q 0,.q 1,.q 2,.q 3,.q 4,.q 5,.q 6,.q 7,.q 8,.q 9,.q 10,.q 11,.q 12] [(some 15,[5]),(some 16,[7]),(some 17,[15,16]),(some 18,[17]),(some 19,[18]),(some 20,[19]),(some 21,[6]),(some 22,[7]),(some 23,[21,22]),(some 24,[23]),(some 25,[24]),(some 26,[25]),(some 27,[20,26])] [0,0,3,7,15,31,0,0,192,448,960,1984,4095] (by kernel_rfl)<|dq r r (bK (v:=.ptrs [(0,1),(0,2),(0,3),(0,4),(0,5),(0,6),(0,7),(0,8)]) r)<|dq r r (bK (v:=aI) r)<|dq r r (oX (p:=(0,8)) uG r r r)<|dq r r (kC vM r)<|dq r r (iV r)<|dq r r (aR (v:=aI) hU r r r)<|dq r r (bK (v:=.ptrs [(1,1),(1,2),(1,3),(1,4),(1,5),(1,6),(1,7),(1,8)]) r)<|dq r r (bK (v:=aI) r)<|dq r r (oX (p:=(1,8)) uG r r r)<|dq r r (kC vM r)<|dq r r (iV r)<|dq r r (aR (v:=aI) hU r r r)<|dq r r (iZ r r)<|aAe (fr':=[(2,aD),(3,bD),(5,.ptrs [(0,1),(0,2),(0,3),(0,4),(0,5),(0,6),(0,7),(0,8)]),(6,.ptrs [(1,1),(1,2),(1,3),(1,4),(1,5),(1,6),(1,7),(1,8)]),(11,aI),(12,aI),(27,aB)]) r r<|cU h19 r (fun hb21 h21=>?_) (fun hb21 h21=>?_)
        ·
         refine aJ<|sB r<|aH (fr':=[(4,aB)]) r r<|bO<|bT<|aN<|aN<|bT<|aN ?_
         obtain rfl:=sy h21
         exact bN (rs':=[.tmp 4]) r<|cE (v:=aB) r<|bM<|aP [] r r r lr aC
        ·
         refine bI<|dI<|dB<|bA<|aU r (yK (fX r r) (show _=.int .i64 (8:Int) from r))<|mI r<|dQ (fr':=[(2,aD),(3,bD),(5,.ptrs [(0,1),(0,2),(0,3),(0,4),(0,5),(0,6),(0,7),(0,8)]),(6,.ptrs [(1,1),(1,2),(1,3),(1,4),(1,5),(1,6),(1,7),(1,8)]),(11,aI),(12,aI),(27,aB)]) r<|mC<|xH<|aJ<|aU r (yK (fY r r) (show _=.bool false from r))<|aH (fr':=[(2,aD),(3,bD),(5,.ptrs [(0,1),(0,2),(0,3),(0,4),(0,5),(0,6),(0,7),(0,8)]),(6,.ptrs [(1,1),(1,2),(1,3),(1,4),(1,5),(1,6),(1,7),(1,8)]),(11,aI),(12,aI),(13,aB)]) r r<|aX<|aAI r<|iE<|cZ<|cZ<|fT<|dB<|aJ<|aU r (bU aCz r)<|aU r (aR (v:=aS) rZ r r r)<|aU r (bU aCz r)<|aU r (aR (v:=aS) rZ r r r)<|aU r (wL r r)<|mB r<|og r r r (fun hc=>(bU tC r))<|og r r r (fun hc=>(aR (v:=aL) qP (gx r hc) r r))<|og r r r (fun hc=>(bU tC r))<|og r r r (fun hc=>(aR (v:=aL) qP (gx r hc) r r))<|bx h21 fun x23 hx23 h24=>zG r r (fun hc=>cA (v:=aB) r (wE (dM hx23 hc)) ⟨(iA (gx r hc) lr),(iA (gx r hc) lr),trivial⟩ (iO (by repeat (first | exact fU | refine bG r ?_ | refine bG (vD r) ?_ | refine bG vC ?_))) r r) ?_
         refine aU r (cS r r r (fun e=>hH e))<|sB r<|aH (fr':=[(4,aB)]) r r<|bO ?_
         obtain rfl:=sy h24
         exact bN (rs':=[.tmp 4]) r<|cE (v:=aB) r<|bM<|aP [] r r r lr aC
noncomputable def aAd (p0c:fG) (p1u:kK):Option Bool :=
 (gd (((cond (cond (cond (cond p1u.seq_ true (decide (p0c.Seq=0))) (cond p1u.name_ true (decide (p0c.Name=([]:List UInt8)))) false) (cond p1u.key_ true (decide (p0c.Key=([]:List UInt8)))) false) (cond p1u.n_ true (decide (p0c.N=0))) false)==true)&&(p1u.data_==false)) (aDF p0c.Data (aF.mk 0 0 ([]:List UInt8) ([]:(List aF)) ([]:(List (List UInt8)))))).bind fun x1=>(gd (((cond (cond (cond (cond (cond p1u.seq_ true (decide (p0c.Seq=0))) (cond p1u.name_ true (decide (p0c.Name=([]:List UInt8)))) false) (cond p1u.key_ true (decide (p0c.Key=([]:List UInt8)))) false) (cond p1u.n_ true (decide (p0c.N=0))) false) (cond p1u.data_ true x1) false)==true)&&(p1u.opts_==false)) (pP p0c.Opts (bV.mk ([]:List UInt8) 0 0 0 0 0 0 0 0 ([]:(List (List UInt8)))))).bind fun x3=>some (cond (cond (cond (cond (cond (cond p1u.seq_ true (decide (p0c.Seq=0))) (cond p1u.name_ true (decide (p0c.Name=([]:List UInt8)))) false) (cond p1u.key_ true (decide (p0c.Key=([]:List UInt8)))) false) (cond p1u.n_ true (decide (p0c.N=0))) false) (cond p1u.data_ true x1) false) (cond p1u.opts_ true x3) false)
theorem aJv {p0c:fG}{p1u:kK}{res:Bool} (h:aAd p0c p1u=some res):cX Tryz.prog 165 [.agg (AV.cs (qE p0c)),.agg (AV.cs (aEo p1u))] [] (.c (.bool res)) []:=by
 unfold aAd at h
 refine dR (fn:=Tryz.f165) [0,1,2,3,4] (by kernel_rfl) Tryz.func165 r (by kernel_rfl) (by kernel_rfl)<|aJ<|kP (v:=.agg bL) (n:=0) (cs:=bL) (σ':=[bL]) r r r r r<|kP (v:=.agg eP) (n:=1) (cs:=eP) (σ':=[bL,eP]) r r r r r<|sB r<|aH (fr':=[(2,aD),(3,bD)]) r r<|aJ<|aU r (bU aPp r)<|aU r (aR (v:=aB) tv4 r r r)<|mB r<|og r r r (fun hc=>(bU aER r))<|og r r r (fun hc=>(aR (v:=aI) hU (gx r hc) r r))<|og r r r (fun hc=>(cQ (gx r hc) r))<|aU r (dK r r r (fun e=>hH e))<|mB r<|og r r r (fun hc=>(bU aPq r))<|og r r r (fun hc=>(aR (v:=aB) tv4 (gx r hc) r r))<|og r r r (fun hc=>(bK (v:=aB) (gx r hc)))<|hZ r r (fun hc=>iI r (bU aCs r))<|hZ r r (fun hc=>iI r (aR (v:=aS) rZ (gx r hc) r r))<|hZ r r (fun hc=>iI r (wL (gx r hc) r))<|og r r r (fun hc=>(dK (gx r hc) r r (fun e=>vF hc (hH e))))<|aU r (cS r r r (fun e=>hH e))<|mB r<|og r r r (fun hc=>(bU aPr r))<|og r r r (fun hc=>(aR (v:=aB) tv4 (gx r hc) r r))<|og r r r (fun hc=>(bK (v:=aB) (gx r hc)))<|hZ r r (fun hc=>iI r (bU aES r))<|hZ r r (fun hc=>iI r (aR (v:=aS) rZ (gx r hc) r r))<|hZ r r (fun hc=>iI r (wL (gx r hc) r))<|og r r r (fun hc=>(dK (gx r hc) r r (fun e=>vF hc (hH e))))<|aU r (cS r r r (fun e=>hH e))<|mB r<|og r r r (fun hc=>(bU aTq r))<|og r r r (fun hc=>(aR (v:=aB) tv4 (gx r hc) r r))<|og r r r (fun hc=>(bK (v:=aB) (gx r hc)))<|hZ r r (fun hc=>iI r (bU wW r))<|hZ r r (fun hc=>iI r (aR (v:=aI) hU (gx r hc) r r))<|hZ r r (fun hc=>iI r (cQ (gx r hc) r))<|og r r r (fun hc=>(dK (gx r hc) r r (fun e=>vF hc (hH e))))<|aU r (cS r r r (fun e=>hH e))<|mB r<|og r r r (fun hc=>(bU aTr r))<|og r r r (fun hc=>(aR (v:=aB) tv4 (gx r hc) r r))<|og r r r (fun hc=>(bK (v:=aB) (gx r hc)))<|hZ r r (fun hc=>iI r (bU zD r))<|hZ r r (fun hc=>iI r (eL (us:=cJ) jC (gx r hc) r r r))<|hZ r r (fun hc=>iI r (fM (cs:=bY) aGq r))<|bx h fun x1 hx1 h2=>hZ r r (fun hc=>cA (v:=aB) r (aGB (dM hx1 hc)) ⟨(iA (gx r hc) (cM r kR5)),(iA (gx r hc) (cM r ⟨r,r,r,⟨_,r⟩,⟨_,r⟩,trivial⟩)),trivial⟩ (iO (by repeat (first | exact fU | refine bG r ?_ | refine bG (vD r) ?_ | refine bG vC ?_))) r r) ?_
 refine og r r r (fun hc=>(dK (gx r hc) r r (fun e=>vF hc (hH e))))<|aU r (cS r r r (fun e=>hH e))<|mB r<|og r r r (fun hc=>(bU aTs r))<|og r r r (fun hc=>(aR (v:=aB) tv4 (gx r hc) r r))<|og r r r (fun hc=>(bK (v:=aB) (gx r hc)))<|hZ r r (fun hc=>iI r (bU aET r))<|hZ r r (fun hc=>iI r (eL (us:=dO) zW (gx r hc) r r r))<|hZ r r (fun hc=>iI r (rI (c0:=bB) (cs:=bB) aOC r rH))<|bx h2 fun x3 hx3 h4=>hZ r r (fun hc=>cA (v:=aB) r (aBm (dM hx3 hc)) ⟨(iA (gx r hc) (cM r aDf)),(iA (gx r hc) (cM r ⟨r,r,r,r,r,r,r,r,r,⟨_,r⟩,trivial⟩)),trivial⟩ (iO (by repeat (first | exact fU | refine bG r ?_ | refine bG (vD r) ?_ | refine bG vC ?_))) r r) ?_
 refine og r r r (fun hc=>(dK (gx r hc) r r (fun e=>vF hc (hH e))))<|aU r (cS r r r (fun e=>hH e))<|sB r<|aH (fr':=[(4,aB)]) r r<|bO ?_
 obtain rfl:=sy h4
 exact bN (rs':=[.tmp 4]) r<|cE (v:=aB) r<|bM<|aP [] r r r lr aC
noncomputable def xU (p0s:(List UInt8)) (s4:Int):Option (dN Int (Fl Bool Unit)) :=
 cond (decide (s4<((p0s).length:Int))) ((lO p0s s4).bind fun x6=>(gd ((decide (((x6).toNat:Int)<33))==false) (lO p0s s4)).bind fun x8=>(gd ((cond (decide (((x6).toNat:Int)<33)) true (decide (126<((x8).toNat:Int))))==false) (lO p0s s4)).bind fun x10=>(gd ((cond (cond (decide (((x6).toNat:Int)<33)) true (decide (126<((x8).toNat:Int)))) true (decide (((x10).toNat:Int)=47)))==false) (lO p0s s4)).bind fun x12=>cond (cond (cond (cond (decide (((x6).toNat:Int)<33)) true (decide (126<((x8).toNat:Int)))) true (decide (((x10).toNat:Int)=47))) true (decide (((x12).toNat:Int)=34))) (some (dN.out (Fl.done false))) (some (dN.next (IntKind.wrap .i64 (s4+1))))) (some (dN.out (Fl.go ())))
noncomputable def wG (p0s:(List UInt8)):Option Bool :=
 (fI (xU p0s) (0)).bind fun x1=>Fl.next x1 (fun j3=>((nP ((p0s).length:Int) 1 64).bind fun x20=>some x20))
theorem aHO {p0s:(List UInt8)}{res:Bool} (h:wG p0s=some res):cX Tryz.prog 166 [.c (.str p0s)] [] (.c (.bool res)) []:=by
 unfold wG at h
 refine dR (fn:=Tryz.f166) [0,2,3,5,6,7,30] (by kernel_rfl) Tryz.func166 r (by kernel_rfl) (by kernel_rfl)<|aJ<|sB r<|aH (fr':=[(0,aS)]) r r<|aX<|aJ<|mS r<|aU r (nR zZ r)<|mI r<|aH (fr':=[(0,aS),(5,aI),(6,aI)]) r r<|bx h fun x1 hx1 h2=>hF lP (fun j3=>x1=Fl.go j3) (fun (j3:Unit)=>([(0,.c (.str p0s))]:Fr)) (fun (j3:Unit)=>([]:St)) ?_ ?_
 ·
  refine cP<|gY _ (fun (s4:Int)=>([(0,.c (.str p0s)),(5,ci ((p0s).length:Int)),(6,ci s4)]:Fr)) (fun (s4:Int)=>([]:St)) hx1 (bJ [] 0 r r r r nW aC) ?_
  intro s4 st4 hs4 ho4
  unfold xU at hs4
  refine aJ<|aU r (fY r r)<|aH (fr':=[(0,aS),(5,aI),(6,aI),(7,aB)]) r r<|aX<|cU hs4 r (fun hb5 h5=>?_) (fun hb5 h5=>?_)
  ·
   refine bI<|dB<|aX<|cP<|aJ<|mI r<|sI r<|aH (fr':=[(0,aS),(3,aI),(5,aI),(6,aI)]) r r<|aJ<|mS r<|mI r<|bx h5 fun x6 hx6 h7=>aU r (aB0 zZ r r hx6)<|aU r (fY r r)<|mB r<|og r r r (fun hc=>(bK (v:=aS) r))<|og r r r (fun hc=>(bK (v:=aI) r))<|bx h7 fun x8 hx8 h9=>og r r r (fun hc=>(aB0 zZ (gx r hc) (gx r hc) (dM hx8 hc)))<|og r r r (fun hc=>(qW (gx r hc) r))<|aU r (dK r r r (fun e=>hH e))<|mB r<|og r r r (fun hc=>(bK (v:=aS) r))<|og r r r (fun hc=>(bK (v:=aI) r))<|bx h9 fun x10 hx10 h11=>og r r r (fun hc=>(aB0 zZ (gx r hc) (gx r hc) (dM hx10 hc)))<|og r r r (fun hc=>(cQ (gx r hc) r))<|aU r (dK r r r (fun e=>hH e))<|mB r<|og r r r (fun hc=>(bK (v:=aS) r))<|og r r r (fun hc=>(bK (v:=aI) r))<|bx h11 fun x12 hx12 h13=>og r r r (fun hc=>(aB0 zZ (gx r hc) (gx r hc) (dM hx12 hc)))<|og r r r (fun hc=>(cQ (gx r hc) r))<|aU r (dK r r r (fun e=>hH e))<|aH (fr':=[(0,aS),(5,aI),(6,aI),(30,aB)]) r r<|cU h13 r (fun hb14 h14=>?_) (fun hb14 h14=>?_)
   ·
    refine aJ<|sB r<|aH (fr':=[(2,aB)]) r r<|bO<|bT<|aN<|aN<|bT<|aN<|aN ?_
    have h15:=eS h14 ho4
    have h16:=gI h15 h2
    obtain rfl:=sy h16
    exact bN (rs':=[.tmp 2]) r<|cE (v:=aB) r<|bM<|aP [] r r r lr aC
   ·
    exact bI<|dI<|dB<|bA<|aU r (fX r r)<|mI r<|dQ (fr':=[(0,aS),(5,aI),(6,aI),(30,aB)]) r<|zY _ (sy h14) (bJ [] 0 r r r r nW aC)
  ·
   refine iE<|cZ<|cZ<|fT ?_
   have h18:=eS h5 ho4
   exact lB _ (sy h18) (bJ [] 0 r r r r ⟨lr,trivial⟩ aC)
 ·
  intro j3 hj19
  have h19:=nY hj19 h2
  refine dB<|aJ<|mS r<|aU r (nR zZ r)<|bx h19 fun x20 hx20 h21=>oN (cA (v:=aB) r (pA hx20) nW r r r)<|sB r<|aH (fr':=[(2,aB)]) r r<|bO ?_
  obtain rfl:=sy h21
  exact bN (rs':=[.tmp 2]) r<|cE (v:=aB) r<|bM<|aP [] r r r lr aC
noncomputable def vW (p0x:aF):Option Bool :=
 (gd ((cond (!decide (p0x.Kind=4)) true (!decide (((p0x.Items).length:Int)=2)))==false) (lO p0x.Items 0)).bind fun x1=>(gd ((cond (cond (!decide (p0x.Kind=4)) true (!decide (((p0x.Items).length:Int)=2))) true (!decide (x1.Kind=3)))==false) (lO p0x.Items 0)).bind fun x3=>(gd ((cond (cond (!decide (p0x.Kind=4)) true (!decide (((p0x.Items).length:Int)=2))) true (!decide (x1.Kind=3)))==false) (tX x3.Text)).bind fun x5=>some (cond (cond (cond (!decide (p0x.Kind=4)) true (!decide (((p0x.Items).length:Int)=2))) true (!decide (x1.Kind=3))) true (!x5))
theorem aGu {p0x:aF}{res:Bool} (h:vW p0x=some res):cX Tryz.prog 216 [.agg (AV.cs (eR p0x))] [] (.c (.bool res)) []:=by
 unfold vW at h
 refine dR (fn:=Tryz.f216) [0,1,2] (by kernel_rfl) Tryz.func216 r (by kernel_rfl) (by kernel_rfl)<|aJ<|kP (v:=.agg cJ) (n:=0) (cs:=cJ) (σ':=[cJ]) r r r r r<|sB r<|aH (fr':=[(1,aD)]) r r<|aJ<|aU r (bU mE r)<|aU r (aR (v:=aI) hU r r r)<|aU r (iZ r r)<|mB r<|og r r r (fun hc=>(bU iB r))<|og r r r (fun hc=>(aR (v:=aL) nS (gx r hc) r r))<|og r r r (fun hc=>(gT vL (eA (gx r hc))))<|og r r r (fun hc=>(iZ (gx r hc) r))<|aU r (dK r r r (fun e=>hH e))<|mB r<|og r r r (fun hc=>(bU iB r))<|og r r r (fun hc=>(aR (v:=aL) nS (gx r hc) r r))<|bx h fun x1 hx1 h2=>og r r r (fun hc=>(lC (cs:=[PV.int _ _,PV.int _ _,PV.str _,PV.ls _ _ _,PV.ls _ _ _]) uF (eA (gx r hc)) r (dM hx1 hc) (dZ _)))<|og r r r (fun hc=>(yP mE (gx r hc)))<|og r r r (fun hc=>(fO (p:=PV.int _ _) hU (gx r hc) r))<|og r r r (fun hc=>(iZ (gx r hc) r))<|aU r (dK r r r (fun e=>hH e))<|mB r<|og r r r (fun hc=>(bU iB r))<|og r r r (fun hc=>(aR (v:=aL) nS (gx r hc) r r))<|bx h2 fun x3 hx3 h4=>og r r r (fun hc=>(lC (cs:=[PV.int _ _,PV.int _ _,PV.str _,PV.ls _ _ _,PV.ls _ _ _]) uF (eA (gx r hc)) r (dM hx3 hc) (dZ _)))<|og r r r (fun hc=>(yP uA (gx r hc)))<|og r r r (fun hc=>(fO (p:=PV.str _) rZ (gx r hc) r))<|bx h4 fun x5 hx5 h6=>zG r r (fun hc=>cA (v:=aB) r (yB (dM hx5 hc)) ⟨(iA (gx r hc) lr),trivial⟩ (iO (by repeat (first | exact fU | refine bG r ?_ | refine bG (vD r) ?_ | refine bG vC ?_))) r r) ?_
 refine og r r r (fun hc=>(gX (gx r hc)))<|aU r (dK r r r (fun e=>hH e))<|sB r<|aH (fr':=[(2,aB)]) r r<|bO ?_
 obtain rfl:=sy h6
 exact bN (rs':=[.tmp 2]) r<|cE (v:=aB) r<|bM<|aP [] r r r lr aC
