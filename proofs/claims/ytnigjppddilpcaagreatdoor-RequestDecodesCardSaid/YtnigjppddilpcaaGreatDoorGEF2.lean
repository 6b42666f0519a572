import Derived.Test.YtnigjppddilpcaaGreatDoorGETy
import Derived.Test.YtnigjppddilpcaaGreatDoorGEF0
import Derived.Test.YtnigjppddilpcaaGreatDoorGEF1
namespace Go.Proofs.YtnigjppddilpcaaGreatDoor
open Go Abs
set_option maxRecDepth 100000
set_option linter.unusedVariables false
set_option linter.unusedSimpArgs false
noncomputable def wJ (dN:Int):Option Int :=
 cond (decide (dN=7)) (some 1) (cond (decide (dN=12)) (some 2) (cond (decide (dN=14)) (some 3) (cond (decide (dN=16)) (some 4) (cond (decide (dN=19)) (some 5) (cond (decide (dN=23)) (some 6) (cond (decide (dN=18)) (some 7) (cond (decide (dN=27)) (some 8) (cond (decide (dN=28)) (some 9) (cond (decide (dN=29)) (some 10) (cond (decide (dN=30)) (some 11) (cond (decide (dN=31)) (some 12) (cond (decide (dN=32)) (some 13) (cond (decide (dN=35)) (some 14) (some 0))))))))))))))
theorem aGS {dN:Int}{z:Int} (h:wJ dN=some z):cQ Tryz.prog 137 [ci dN] [] (ci z) []:=by
 unfold wJ at h
 refine dF (fn:=Tryz.f137) [0,2,3,4,6,8,10,12,14,16,18,20,22,24,26,28,30] (by kernel_rfl) Tryz.func137 r (by kernel_rfl) (by kernel_rfl)<|aH<|sI r<|aG (fr':=[(0,aI)]) r r<|aZ<|aH<|mI r<|aG (fr':=[(3,aI)]) r r<|cH<|aZ<|bB<|aR r (bU r r)<|sB r<|aG (fr':=[(3,aI),(4,aB)]) r r<|cG h r (fun b1 h1=>?_) (fun b1 h1=>?_)
 ·
  refine aH<|sI r<|aG (fr':=[(2,aI)]) r r<|bK<|bO<|aP ?_
  obtain rfl:=sy h1
  exact bJ (rs':=[.tmp 2]) r<|bS (v:=aI) r<|bI<|aN [] r r r lr aD
 ·
  refine aH<|aR r (bU r r)<|sB r<|aG (fr':=[(3,aI),(6,aB)]) r r<|cG h1 r (fun b3 h3=>?_) (fun b3 h3=>?_)
  ·
   refine aH<|sI r<|aG (fr':=[(2,aI)]) r r<|bK<|bO<|aP ?_
   obtain rfl:=sy h3
   exact bJ (rs':=[.tmp 2]) r<|bS (v:=aI) r<|bI<|aN [] r r r lr aD
  ·
   refine aH<|aR r (bU r r)<|sB r<|aG (fr':=[(3,aI),(8,aB)]) r r<|cG h3 r (fun b5 h5=>?_) (fun b5 h5=>?_)
   ·
    refine aH<|sI r<|aG (fr':=[(2,aI)]) r r<|bK<|bO<|aP ?_
    obtain rfl:=sy h5
    exact bJ (rs':=[.tmp 2]) r<|bS (v:=aI) r<|bI<|aN [] r r r lr aD
   ·
    refine aH<|aR r (bU r r)<|sB r<|aG (fr':=[(3,aI),(10,aB)]) r r<|cG h5 r (fun b7 h7=>?_) (fun b7 h7=>?_)
    ·
     refine aH<|sI r<|aG (fr':=[(2,aI)]) r r<|bK<|bO<|aP ?_
     obtain rfl:=sy h7
     exact bJ (rs':=[.tmp 2]) r<|bS (v:=aI) r<|bI<|aN [] r r r lr aD
    ·
     refine aH<|aR r (bU r r)<|sB r<|aG (fr':=[(3,aI),(12,aB)]) r r<|cG h7 r (fun b9 h9=>?_) (fun b9 h9=>?_)
     ·
      refine aH<|sI r<|aG (fr':=[(2,aI)]) r r<|bK<|bO<|aP ?_
      obtain rfl:=sy h9
      exact bJ (rs':=[.tmp 2]) r<|bS (v:=aI) r<|bI<|aN [] r r r lr aD
     ·
      refine aH<|aR r (bU r r)<|sB r<|aG (fr':=[(3,aI),(14,aB)]) r r<|cG h9 r (fun b11 h11=>?_) (fun b11 h11=>?_)
      ·
       refine aH<|sI r<|aG (fr':=[(2,aI)]) r r<|bK<|bO<|aP ?_
       obtain rfl:=sy h11
       exact bJ (rs':=[.tmp 2]) r<|bS (v:=aI) r<|bI<|aN [] r r r lr aD
      ·
       refine aH<|aR r (bU r r)<|sB r<|aG (fr':=[(3,aI),(16,aB)]) r r<|cG h11 r (fun b13 h13=>?_) (fun b13 h13=>?_)
       ·
        refine aH<|sI r<|aG (fr':=[(2,aI)]) r r<|bK<|bO<|aP ?_
        obtain rfl:=sy h13
        exact bJ (rs':=[.tmp 2]) r<|bS (v:=aI) r<|bI<|aN [] r r r lr aD
       ·
        refine aH<|aR r (bU r r)<|sB r<|aG (fr':=[(3,aI),(18,aB)]) r r<|cG h13 r (fun b15 h15=>?_) (fun b15 h15=>?_)
        ·
         refine aH<|sI r<|aG (fr':=[(2,aI)]) r r<|bK<|bO<|aP ?_
         obtain rfl:=sy h15
         exact bJ (rs':=[.tmp 2]) r<|bS (v:=aI) r<|bI<|aN [] r r r lr aD
        ·
         refine aH<|aR r (bU r r)<|sB r<|aG (fr':=[(3,aI),(20,aB)]) r r<|cG h15 r (fun b17 h17=>?_) (fun b17 h17=>?_)
         ·
          refine aH<|sI r<|aG (fr':=[(2,aI)]) r r<|bK<|bO<|aP ?_
          obtain rfl:=sy h17
          exact bJ (rs':=[.tmp 2]) r<|bS (v:=aI) r<|bI<|aN [] r r r lr aD
         ·
          refine aH<|aR r (bU r r)<|sB r<|aG (fr':=[(3,aI),(22,aB)]) r r<|cG h17 r (fun b19 h19=>?_) (fun b19 h19=>?_)
          ·
           refine aH<|sI r<|aG (fr':=[(2,aI)]) r r<|bK<|bO<|aP ?_
           obtain rfl:=sy h19
           exact bJ (rs':=[.tmp 2]) r<|bS (v:=aI) r<|bI<|aN [] r r r lr aD
          ·
           refine aH<|aR r (bU r r)<|sB r<|aG (fr':=[(3,aI),(24,aB)]) r r<|cG h19 r (fun b21 h21=>?_) (fun b21 h21=>?_)
           ·
            refine aH<|sI r<|aG (fr':=[(2,aI)]) r r<|bK<|bO<|aP ?_
            obtain rfl:=sy h21
            exact bJ (rs':=[.tmp 2]) r<|bS (v:=aI) r<|bI<|aN [] r r r lr aD
           ·
            refine aH<|aR r (bU r r)<|sB r<|aG (fr':=[(3,aI),(26,aB)]) r r<|cG h21 r (fun b23 h23=>?_) (fun b23 h23=>?_)
            ·
             refine aH<|sI r<|aG (fr':=[(2,aI)]) r r<|bK<|bO<|aP ?_
             obtain rfl:=sy h23
             exact bJ (rs':=[.tmp 2]) r<|bS (v:=aI) r<|bI<|aN [] r r r lr aD
            ·
             refine aH<|aR r (bU r r)<|sB r<|aG (fr':=[(3,aI),(28,aB)]) r r<|cG h23 r (fun b25 h25=>?_) (fun b25 h25=>?_)
             ·
              refine aH<|sI r<|aG (fr':=[(2,aI)]) r r<|bK<|bO<|aP ?_
              obtain rfl:=sy h25
              exact bJ (rs':=[.tmp 2]) r<|bS (v:=aI) r<|bI<|aN [] r r r lr aD
             ·
              refine aH<|aR r (bU r r)<|sB r<|aG (fr':=[(30,aB)]) r r<|cG h25 r (fun b27 h27=>?_) (fun b27 h27=>?_)
              ·
               refine aH<|sI r<|aG (fr':=[(2,aI)]) r r<|bK<|bO<|aP ?_
               obtain rfl:=sy h27
               exact bJ (rs':=[.tmp 2]) r<|bS (v:=aI) r<|bI<|aN [] r r r lr aD
              ·
               refine bF<|cW<|cZ<|aH<|sI r<|aG (fr':=[(2,aI)]) r r<|bK ?_
               obtain rfl:=sy h27
               exact bJ (rs':=[.tmp 2]) r<|bS (v:=aI) r<|bI<|aN [] r r r lr aD
noncomputable def xN (dN:Int):Option kR :=
 cond (decide (dN=1)) (some (kR.mk true true false false true true)) (((cond (decide (dN=2)) (some (decide (dN=2))) (some (decide (dN=4)))):Option Bool).bind fun x3=>(cond x3 (some (kR.mk true false false false false false)) (cond (decide (dN=3)) (some (kR.mk true false false true false false)) (cond (decide (dN=5)) (some (kR.mk true true true true true false)) (cond (decide (dN=6)) (some (kR.mk true true true false true false)) (cond (decide (dN=7)) (some (kR.mk false true false true true false)) (cond (decide (dN=8)) (some (kR.mk false true true false true false)) (cond (decide (dN=9)) (some (kR.mk false false true true true false)) (cond (decide (dN=12)) (some (kR.mk false true false false true false)) (some (kR.mk false false false false true false)))))))))))
theorem aHB {dN:Int}{z:kR} (h:xN dN=some z):cQ Tryz.prog 164 [ci dN] [] (.agg (AV.cs (aER z))) []:=by
 unfold xN at h
 refine dF (fn:=Tryz.f164) [0,2,3,4,7,11,14,17,20,23,26,29] (by kernel_rfl) Tryz.func164 r (by kernel_rfl) (by kernel_rfl)<|aH<|hO (n:=0) (cs:=eZ) (σ':=[eZ]) aRB r r r<|aG (fr':=[(0,aI),(2,aE)]) r r<|aZ<|aH<|mI r<|aG (fr':=[(2,aE),(3,aI)]) r r<|cH<|aZ<|bB<|aR r (bU r r)<|sB r<|aG (fr':=[(2,aE),(3,aI),(4,aB)]) r r<|cG h r (fun b1 h1=>?_) (fun b1 h1=>?_)
 ·
  refine aH<|aR r (fV (cs:=eZ) aFD r)<|bM (v:=.agg eZ) (us:=eZ) (cs:=eZ) (σ':=[eZ]) r yW r r r r r r r r<|aG (fr':=[(2,aE)]) r r<|bK<|bO<|aP ?_
  obtain rfl:=sy h1
  exact bJ (rs':=[.cell 2 160]) r<|dY (us:=eZ) (cs:=eZ) yW r r r r<|bI<|aN [] r r r (bQ r kR6) aD
 ·
  obtain ⟨x3,y3,h4⟩:=iW h1
  refine hH (fun j5=>x3=j5) (fun (j5:Bool)=>([(2,aE),(3,ci dN),(7,.c (.bool j5))]:Fr)) (fun (j5:Bool)=>([[.c (.bool false),.c (.bool false),.c (.bool false),.c (.bool false),.c (.bool false),.c (.bool false)]]:St)) ?_ ?_
  ·
   refine aH<|aR r (bU r r)<|sB r<|aG (fr':=[(2,aE),(3,aI),(7,aB)]) r r<|cG y3 r (fun b6 h6=>?_) (fun b6 h6=>?_)
   ·
    exact bF<|iQ _ (sy h6) (bC [] 1 r r r r kA (bR r aD))
   ·
    exact bB<|aR r (bU r r)<|sB r<|dM (fr':=[(2,aE),(3,aI),(7,aB)]) r<|iQ _ (sy h6) (bC [] 1 r r r r kA (bR r aD))
  ·
   intro j5 hj7
   subst hj7
   refine cG h4 r (fun b8 h8=>?_) (fun b8 h8=>?_)
   ·
    refine aH<|aR r (fV (cs:=eZ) aFD r)<|bM (v:=.agg eZ) (us:=eZ) (cs:=eZ) (σ':=[eZ]) r yW r r r r r r r r<|aG (fr':=[(2,aE)]) r r<|bK<|bO<|aP ?_
    obtain rfl:=sy h8
    exact bJ (rs':=[.cell 2 160]) r<|dY (us:=eZ) (cs:=eZ) yW r r r r<|bI<|aN [] r r r (bQ r kR6) aD
   ·
    refine aH<|aR r (bU r r)<|sB r<|aG (fr':=[(2,aE),(3,aI),(11,aB)]) r r<|cG h8 r (fun b10 h10=>?_) (fun b10 h10=>?_)
    ·
     refine aH<|aR r (fV (cs:=eZ) aFD r)<|bM (v:=.agg eZ) (us:=eZ) (cs:=eZ) (σ':=[eZ]) r yW r r r r r r r r<|aG (fr':=[(2,aE)]) r r<|bK<|bO<|aP ?_
     obtain rfl:=sy h10
     exact bJ (rs':=[.cell 2 160]) r<|dY (us:=eZ) (cs:=eZ) yW r r r r<|bI<|aN [] r r r (bQ r kR6) aD
    ·
     refine aH<|aR r (bU r r)<|sB r<|aG (fr':=[(2,aE),(3,aI),(14,aB)]) r r<|cG h10 r (fun b12 h12=>?_) (fun b12 h12=>?_)
     ·
      refine aH<|aR r (fV (cs:=eZ) aFD r)<|bM (v:=.agg eZ) (us:=eZ) (cs:=eZ) (σ':=[eZ]) r yW r r r r r r r r<|aG (fr':=[(2,aE)]) r r<|bK<|bO<|aP ?_
      obtain rfl:=sy h12
      exact bJ (rs':=[.cell 2 160]) r<|dY (us:=eZ) (cs:=eZ) yW r r r r<|bI<|aN [] r r r (bQ r kR6) aD
     ·
      refine aH<|aR r (bU r r)<|sB r<|aG (fr':=[(2,aE),(3,aI),(17,aB)]) r r<|cG h12 r (fun b14 h14=>?_) (fun b14 h14=>?_)
      ·
       refine aH<|aR r (fV (cs:=eZ) aFD r)<|bM (v:=.agg eZ) (us:=eZ) (cs:=eZ) (σ':=[eZ]) r yW r r r r r r r r<|aG (fr':=[(2,aE)]) r r<|bK<|bO<|aP ?_
       obtain rfl:=sy h14
       exact bJ (rs':=[.cell 2 160]) r<|dY (us:=eZ) (cs:=eZ) yW r r r r<|bI<|aN [] r r r (bQ r kR6) aD
      ·
       refine aH<|aR r (bU r r)<|sB r<|aG (fr':=[(2,aE),(3,aI),(20,aB)]) r r<|cG h14 r (fun b16 h16=>?_) (fun b16 h16=>?_)
       ·
        refine aH<|aR r (fV (cs:=eZ) aFD r)<|bM (v:=.agg eZ) (us:=eZ) (cs:=eZ) (σ':=[eZ]) r yW r r r r r r r r<|aG (fr':=[(2,aE)]) r r<|bK<|bO<|aP ?_
        obtain rfl:=sy h16
        exact bJ (rs':=[.cell 2 160]) r<|dY (us:=eZ) (cs:=eZ) yW r r r r<|bI<|aN [] r r r (bQ r kR6) aD
       ·
        refine aH<|aR r (bU r r)<|sB r<|aG (fr':=[(2,aE),(3,aI),(23,aB)]) r r<|cG h16 r (fun b18 h18=>?_) (fun b18 h18=>?_)
        ·
         refine aH<|aR r (fV (cs:=eZ) aFD r)<|bM (v:=.agg eZ) (us:=eZ) (cs:=eZ) (σ':=[eZ]) r yW r r r r r r r r<|aG (fr':=[(2,aE)]) r r<|bK<|bO<|aP ?_
         obtain rfl:=sy h18
         exact bJ (rs':=[.cell 2 160]) r<|dY (us:=eZ) (cs:=eZ) yW r r r r<|bI<|aN [] r r r (bQ r kR6) aD
        ·
         refine aH<|aR r (bU r r)<|sB r<|aG (fr':=[(2,aE),(3,aI),(26,aB)]) r r<|cG h18 r (fun b20 h20=>?_) (fun b20 h20=>?_)
         ·
          refine aH<|aR r (fV (cs:=eZ) aFD r)<|bM (v:=.agg eZ) (us:=eZ) (cs:=eZ) (σ':=[eZ]) r yW r r r r r r r r<|aG (fr':=[(2,aE)]) r r<|bK<|bO<|aP ?_
          obtain rfl:=sy h20
          exact bJ (rs':=[.cell 2 160]) r<|dY (us:=eZ) (cs:=eZ) yW r r r r<|bI<|aN [] r r r (bQ r kR6) aD
         ·
          refine aH<|aR r (bU r r)<|sB r<|aG (fr':=[(2,aE),(29,aB)]) r r<|cG h20 r (fun b22 h22=>?_) (fun b22 h22=>?_)
          ·
           refine aH<|aR r (fV (cs:=eZ) aFD r)<|bM (v:=.agg eZ) (us:=eZ) (cs:=eZ) (σ':=[eZ]) r yW r r r r r r r r<|aG (fr':=[(2,aE)]) r r<|bK<|bO<|aP ?_
           obtain rfl:=sy h22
           exact bJ (rs':=[.cell 2 160]) r<|dY (us:=eZ) (cs:=eZ) yW r r r r<|bI<|aN [] r r r (bQ r kR6) aD
          ·
           refine bF<|cW<|cZ<|aH<|aR r (fV (cs:=eZ) aFD r)<|bM (v:=.agg eZ) (us:=eZ) (cs:=eZ) (σ':=[eZ]) r yW r r r r r r r r<|aG (fr':=[(2,aE)]) r r<|bK ?_
           obtain rfl:=sy h22
           exact bJ (rs':=[.cell 2 160]) r<|dY (us:=eZ) (cs:=eZ) yW r r r r<|bI<|aN [] r r r (bQ r kR6) aD
noncomputable def nY (aCu:(List (List UInt8))) (aDO:(List (List UInt8))) (s6:Int):Option (dU Int (Fl Bool Unit)) :=
 cond (decide (s6<((aCu).length:Int))) ((nG aCu s6).bind fun x8=>(nG aDO s6).bind fun x10=>cond (!decide (x8=x10)) (some (dU.out (Fl.done false))) (some (dU.next (IntKind.wrap .i64 (s6+1))))) (some (dU.out (Fl.go ())))
noncomputable def lM (aCu:(List (List UInt8))) (aDO:(List (List UInt8))):Option Bool :=
 cond (!decide (((aCu).length:Int)=((aDO).length:Int))) (some false) ((fK (nY aCu aDO) (0)).bind fun x3=>Fl.next x3 (fun j5=>(some true)))
theorem wQ {aCu:(List (List UInt8))}{aDO:(List (List UInt8))}{z:Bool} (h:lM aCu aDO=some z):cQ Tryz.prog 171 [.c (PV.ls 1 fI aCu),.c (PV.ls 1 fI aDO)] [] (.c (.bool z)) []:=by
 unfold lM at h
 refine dF (fn:=Tryz.f171) [0,1,4,5,10,12,13,14,24] (by kernel_rfl) Tryz.func171 r (by kernel_rfl) (by kernel_rfl)<|aH<|sB r<|aG (fr':=[(0,aL),(1,aL)]) r r<|aZ<|aH<|mL r<|aR r (hZ zD (eK r))<|mL r<|aR r (hZ zD (eK r))<|aR r (iS r r)<|aG (fr':=[(0,aL),(1,aL),(10,aB)]) r r<|cG h r (fun b1 h1=>?_) (fun b1 h1=>?_)
 ·
  refine aH<|sB r<|aG (fr':=[(4,aB)]) r r<|bK<|aP ?_
  obtain rfl:=sy h1
  exact bJ (rs':=[.tmp 4]) r<|bS (v:=aB) r<|bI<|aN [] r r r lr aD
 ·
  refine bF<|cZ<|aZ<|aH<|mL r<|aR r (hZ zD (eK r))<|mI r<|aG (fr':=[(0,aL),(1,aL),(12,aI),(13,aI)]) r r<|bx h1 fun x3 y3 h4=>gZ lB (fun j5=>x3=Fl.go j5) (fun (j5:Unit)=>([]:Fr)) (fun (j5:Unit)=>([]:St)) ?_ ?_
  ·
   refine cH<|gV _ (fun (s6:Int)=>([(0,.c (PV.ls 1 fI aCu)),(1,.c (PV.ls 1 fI aDO)),(12,ci ((aCu).length:Int)),(13,ci s6)]:Fr)) (fun (s6:Int)=>([]:St)) y3 (bC [] 0 r r r r kL4 aD) ?_
   intro s6 st6 hs6 ho6
   unfold nY at hs6
   refine aH<|aR r (gI r r)<|aG (fr':=[(0,aL),(1,aL),(12,aI),(13,aI),(14,aB)]) r r<|aZ<|cG hs6 r (fun b7 h7=>?_) (fun b7 h7=>?_)
   ·
    refine bF<|cZ<|aZ<|cH<|aH<|mI r<|sI r<|aG (fr':=[(0,aL),(1,aL),(5,aI),(12,aI),(13,aI)]) r r<|aZ<|kV [.q 0,.q 1,.q 2,.q 3,.q 4,.q 5,.q 6,.q 7,.q 8] [(some 16,[0]),(some 17,[5]),(some 18,[16,17]),(some 19,[18]),(some 20,[1]),(some 21,[5]),(some 22,[20,21]),(some 23,[22]),(some 24,[19,23])] [0,0,3,7,0,0,48,112,255] (by kernel_rfl)<|dq r r (bN (v:=aL) r)<|dq r r (bN (v:=aI) r)<|bx h7 fun x8 y8 h9=>dq r r (lF (cs:=[PV.str _]) aAR (eK r) r y8 r)<|dq r r (gP (p:=PV.str _) lP r r)<|dq r r (bN (v:=aL) r)<|dq r r (bN (v:=aI) r)<|bx h9 fun x10 y10 h11=>dq r r (lF (cs:=[PV.str _]) aAR (eK r) r y10 r)<|dq r r (gP (p:=PV.str _) lP r r)<|dq r r (wZ r r)<|aAq (fr':=[(0,aL),(1,aL),(12,aI),(13,aI),(24,aB)]) r r<|cG h11 r (fun b12 h12=>?_) (fun b12 h12=>?_)
    ·
     refine aH<|sB r<|aG (fr':=[(4,aB)]) r r<|bK<|bO<|aP<|aP<|bO<|aP<|aP ?_
     have h13:=eR h12 ho6
     have h14:=fL h13 h4
     obtain rfl:=sy h14
     exact bJ (rs':=[.tmp 4]) r<|bS (v:=aB) r<|bI<|aN [] r r r lr aD
    ·
     exact bF<|cW<|cZ<|bB<|aR r (gC r r)<|mI r<|dM (fr':=[(0,aL),(1,aL),(12,aI),(13,aI),(24,aB)]) r<|zO _ (sy h12) (bC [] 0 r r r r kL4 aD)
   ·
    refine hG<|cY<|cY<|fP ?_
    have h16:=eR h7 ho6
    exact iQ _ (sy h16) (bC [] 0 r r r r trivial aD)
  ·
   intro j5 hj17
   have h17:=lV hj17 h4
   refine cZ<|aH<|sB r<|aG (fr':=[(4,aB)]) r r<|bK ?_
   obtain rfl:=sy h17
   exact bJ (rs':=[.tmp 4]) r<|bS (v:=aB) r<|bI<|aN [] r r r lr aD
noncomputable def gG (aJh:aQ→aQ→Option Bool) (aCu:(List aQ)) (aDO:(List aQ)) (s6:Int):Option (dU Int (Fl Bool Unit)) :=
 cond (decide (s6<((aCu).length:Int))) ((nG aCu s6).bind fun x8=>(nG aDO s6).bind fun x10=>(aJh x8 x10).bind fun x12=>cond (!x12) (some (dU.out (Fl.done false))) (some (dU.next (IntKind.wrap .i64 (s6+1))))) (some (dU.out (Fl.go ())))
mutual
noncomputable def eP:Nat→(List aQ)→(List aQ)→Option Bool
 | 0,_,_=>none
 | n+1,aCu,aDO =>
  cond (!decide (((aCu).length:Int)=((aDO).length:Int))) (some false) ((fK (gG (yF n) aCu aDO) (0)).bind fun x3=>Fl.next x3 (fun j5=>(some true)))
noncomputable def yF:Nat→aQ→aQ→Option Bool
 | 0,_,_=>none
 | n+1,p0a,p1b =>
  (gd ((cond (cond (decide (p0a.Kind=p1b.Kind)) (decide (p0a.Int=p1b.Int)) false) (decide (p0a.Text=p1b.Text)) false)==true) (lM p0a.Keys p1b.Keys)).bind fun x1=>(gd ((cond (cond (cond (decide (p0a.Kind=p1b.Kind)) (decide (p0a.Int=p1b.Int)) false) (decide (p0a.Text=p1b.Text)) false) x1 false)==true) ((eP n) p0a.Items p1b.Items)).bind fun x3=>some (cond (cond (cond (cond (decide (p0a.Kind=p1b.Kind)) (decide (p0a.Int=p1b.Int)) false) (decide (p0a.Text=p1b.Text)) false) x1 false) x3 false)
end
theorem nV:∀ n:Nat,(∀ {aCu:(List aQ)}{aDO:(List aQ)}{z:Bool},eP n aCu aDO=some z→cQ Tryz.prog 172 [.c (PV.ls 5 bT aCu),.c (PV.ls 5 bT aDO),.fn 116 []] [] (.c (.bool z)) [])∧(∀ {p0a:aQ}{p1b:aQ}{z:Bool},yF n p0a p1b=some z→cQ Tryz.prog 116 [.agg (AV.cs (fA p0a)),.agg (AV.cs (fA p1b))] [] (.c (.bool z)) []):=by
 intro n
 induction n with
 | zero=>exact ⟨fun {aCu aDO z} h=>absurd h (by simp [eP]),fun {p0a p1b z} h=>absurd h (by simp [yF])⟩
 | succ n ih =>
  obtain ⟨ih_slices_EqualFunc_api_Value_api_Value_api_Value_api_Value_value_Same,ih_value_Same⟩:=ih
  refine ⟨?_,?_⟩
  ·
   intro aCu aDO z h
   rw [eP] at h
   refine dF (fn:=Tryz.f172) [0,1,2,6,7,8,9,14,15,16,17,18,30] (by kernel_rfl) Tryz.func172 r (by kernel_rfl) (by kernel_rfl)<|aH<|sB r<|aG (fr':=[(0,aL),(1,aL),(2,.fn _ [])]) r r<|aZ<|aH<|mL r<|aR r (hZ vX (eK r))<|mL r<|aR r (hZ vX (eK r))<|aR r (iS r r)<|aG (fr':=[(0,aL),(1,aL),(2,.fn _ []),(14,aB)]) r r<|cG h r (fun b1 h1=>?_) (fun b1 h1=>?_)
   ·
    refine aH<|sB r<|aG (fr':=[(6,aB)]) r r<|bK<|aP ?_
    obtain rfl:=sy h1
    exact bJ (rs':=[.tmp 6]) r<|bS (v:=aB) r<|bI<|aN [] r r r lr aD
   ·
    refine bF<|cZ<|aZ<|aH<|mL r<|aR r (hZ vX (eK r))<|mI r<|aG (fr':=[(1,aL),(2,.fn _ []),(15,aL),(16,aI),(17,aI)]) r r<|bx h1 fun x3 y3 h4=>gZ lB (fun j5=>x3=Fl.go j5) (fun (j5:Unit)=>([]:Fr)) (fun (j5:Unit)=>([]:St)) ?_ ?_
    ·
     refine cH<|gV _ (fun (s6:Int)=>([(1,.c (PV.ls 5 bT aDO)),(2,.fn 116 []),(15,.c (PV.ls 5 bT aCu)),(16,ci ((aCu).length:Int)),(17,ci s6)]:Fr)) (fun (s6:Int)=>([]:St)) y3 (bC [] 0 r r r r kL5 aD) ?_
     intro s6 st6 hs6 ho6
     unfold gG at hs6
     refine aH<|aR r (gI r r)<|aG (fr':=[(1,aL),(2,.fn _ []),(15,aL),(16,aI),(17,aI),(18,aB)]) r r<|aZ<|cG hs6 r (fun b7 h7=>?_) (fun b7 h7=>?_)
     ·
      refine bF<|cZ<|aZ<|cH<|aH<|mI r<|bx h7 fun x8 y8 h9=>aR r (lF (cs:=[PV.int _ _,PV.int _ _,PV.str _,PV.ls _ _ _,PV.ls _ _ _]) uV (eK r) r y8 (eJ _))<|aR r (lT (us:=[PV.int _ _,PV.int _ _,PV.str _,PV.ls _ _ _,PV.ls _ _ _]) iO r r r)<|hO (n:=0) (cs:=cB) (σ':=[cB]) aD2 r r r<|sI r<|bM (v:=.agg cE) (us:=cE) (cs:=cB) (σ':=[cE]) r iO r r r r r r r r<|aG (fr':=[(1,aL),(2,.fn _ []),(7,aI),(8,aE),(15,aL),(16,aI),(17,aI)]) r r<|aH<|mL r<|mI r<|bx h9 fun x10 y10 h11=>aR r (lF (cs:=[PV.int _ _,PV.int _ _,PV.str _,PV.ls _ _ _,PV.ls _ _ _]) uV (eK r) r y10 (eJ _))<|aR r (lT (us:=[PV.int _ _,PV.int _ _,PV.str _,PV.ls _ _ _,PV.ls _ _ _]) iO r r r)<|hO (n:=1) (cs:=cB) (σ':=[cE,cB]) aD2 r r r<|bM (v:=.agg cE) (us:=cE) (cs:=cB) (σ':=[cE,cE]) r iO r r r r r r r r<|aG (fr':=[(1,aL),(2,.fn _ []),(8,aE),(9,aU),(15,aL),(16,aI),(17,aI)]) r r<|aH<|mV (v:=.fn _ []) r<|aR r (dL (us:=cE) iO r r r r)<|aR r (dL (us:=cE) iO r r r r)<|bx h11 fun x12 y12 h13=>lS (bL (v:=aB) r (ih_value_Same y12) ⟨(bQ r kR5),(bQ r kR5),trivial⟩ r r r)<|aR r (fE r)<|aG (fr':=[(1,aL),(2,.fn _ []),(15,aL),(16,aI),(17,aI),(30,aB)]) r r<|cG h13 r (fun b14 h14=>?_) (fun b14 h14=>?_)
      ·
       refine aH<|sB r<|aG (fr':=[(6,aB)]) r r<|bK<|bO<|aP<|aP<|bO<|aP<|aP ?_
       have h15:=eR h14 ho6
       have h16:=fL h15 h4
       obtain rfl:=sy h16
       exact bJ (rs':=[.tmp 6]) r<|bS (v:=aB) r<|bI<|aN [] r r r lr aD
      ·
       exact bF<|cW<|cZ<|bB<|aR r (gC r r)<|mI r<|dM (fr':=[(1,aL),(2,.fn _ []),(15,aL),(16,aI),(17,aI),(30,aB)]) r<|zO _ (sy h14) (bC [] 0 r r r r kL5 aD)
     ·
      refine hG<|cY<|cY<|fP ?_
      have h18:=eR h7 ho6
      exact iQ _ (sy h18) (bC [] 0 r r r r trivial aD)
    ·
     intro j5 hj19
     have h19:=lV hj19 h4
     refine cZ<|aH<|sB r<|aG (fr':=[(6,aB)]) r r<|bK ?_
     obtain rfl:=sy h19
     exact bJ (rs':=[.tmp 6]) r<|bS (v:=aB) r<|bI<|aN [] r r r lr aD
  ·
   intro p0a p1b z h
   rw [yF] at h
   refine dF (fn:=Tryz.f116) [0,1,2,3,4] (by kernel_rfl) Tryz.func116 r (by kernel_rfl) (by kernel_rfl)<|aH<|jK (v:=.agg cE) (n:=0) (cs:=cE) (σ':=[cE]) r r r r r<|jK (v:=.agg cE) (n:=1) (cs:=cE) (σ':=[cE,cE]) r r r r r<|sB r<|aG (fr':=[(2,aE),(3,aU)]) r r<|aH<|aR r (bD mE r)<|aR r (aK (v:=aI) fM r r r)<|aR r (bD mE r)<|aR r (aK (v:=aI) fM r r r)<|aR r (bU r r)<|mB r<|og r r r (fun u=>(bD sF r))<|og r r r (fun u=>(aK (v:=aI) fM (gx r u) r r))<|og r r r (fun u=>(bD sF r))<|og r r r (fun u=>(aK (v:=aI) fM (gx r u) r r))<|og r r r (fun u=>(bU (gx r u) (gx r u)))<|aR r (bV r r r (fun e=>fJ e))<|mB r<|og r r r (fun u=>(bD uP r))<|og r r r (fun u=>(aK (v:=aS) lP (gx r u) r r))<|og r r r (fun u=>(bD uP r))<|og r r r (fun u=>(aK (v:=aS) lP (gx r u) r r))<|og r r r (fun u=>(qX (gx r u) (gx r u)))<|aR r (bV r r r (fun e=>fJ e))<|mB r<|og r r r (fun u=>(bD oN r))<|og r r r (fun u=>(aK (v:=aL) rC (gx r u) r r))<|og r r r (fun u=>(bD oN r))<|og r r r (fun u=>(aK (v:=aL) rC (gx r u) r r))<|bx h fun x1 y1 h2=>sX r r (fun u=>bL (v:=aB) r (wQ (cU y1 u)) ⟨(eW (gx r u) lr),(eW (gx r u) lr),trivial⟩ (fT (by repeat (first | exact eN | refine aY r ?_ | refine aY (pP r) ?_ | refine aY pO ?_))) r r) ?_
   refine aR r (bV r r r (fun e=>fJ e))<|mB r<|og r r r (fun u=>(bD iJ r))<|og r r r (fun u=>(aK (v:=aL) nS (gx r u) r r))<|og r r r (fun u=>(bD iJ r))<|og r r r (fun u=>(aK (v:=aL) nS (gx r u) r r))<|bx h2 fun x3 y3 h4=>sX r r (fun u=>bL (v:=aB) r (ih_slices_EqualFunc_api_Value_api_Value_api_Value_api_Value_value_Same (cU y3 u)) ⟨(eW (gx r u) lr),(eW (gx r u) lr),lr,trivial⟩ (fT (by repeat (first | exact eN | refine aY r ?_ | refine aY (pP r) ?_ | refine aY pO ?_))) r r) ?_
   refine aR r (bV r r r (fun e=>fJ e))<|sB r<|aG (fr':=[(4,aB)]) r r<|bK ?_
   obtain rfl:=sy h4
   exact bJ (rs':=[.tmp 4]) r<|bS (v:=aB) r<|bI<|aN [] r r r lr aD
noncomputable def aCN (p0a:aQ) (p1b:aQ):Option Bool:=lim fun n=>yF n p0a p1b
theorem aD9 {p0a:aQ}{p1b:aQ}{z:Bool} (h:aCN p0a p1b=some z):cQ Tryz.prog 116 [.agg (AV.cs (fA p0a)),.agg (AV.cs (fA p1b))] [] (.c (.bool z)) []:=by
 obtain ⟨n,hn⟩:=rV h
 exact (nV n).2 hn
noncomputable def oK (p0a:dS) (p1b:dS):Option Bool :=
 (tQ p0a).bind fun x1=>(tQ p1b).bind fun x4=>cond (!decide (p0a.ToStart=p1b.ToStart)) (some false) (cond (!decide (p0a.ToClose=p1b.ToClose)) (some false) (cond (!decide (p0a.Total=p1b.Total)) (some false) (cond (!decide (p0a.Beat=p1b.Beat)) (some false) (cond (!decide (p0a.First=p1b.First)) (some false) (cond (!decide (p0a.Coef=p1b.Coef)) (some false) (cond (!decide (p0a.Most=p1b.Most)) (some false) (cond (!decide (p0a.Attempts=p1b.Attempts)) (some false) ((gd ((decide (p0a.Queue=p1b.Queue))==true) (lM p0a.Fatal p1b.Fatal)).bind fun x23=>some (cond (decide (p0a.Queue=p1b.Queue)) x23 false)))))))))
theorem yH {p0a:dS}{p1b:dS}{z:Bool} (h:oK p0a p1b=some z):cQ Tryz.prog 117 [.agg (AV.cs (pH p0a)),.agg (AV.cs (pH p1b))] [] (.c (.bool z)) []:=by
 unfold oK at h
 refine dF (fn:=Tryz.f117) [0,1,2,3,4,5,6,7,11,12,13,27] (by kernel_rfl) Tryz.func117 r (by kernel_rfl) (by kernel_rfl)<|aH<|jK (v:=.agg dO) (n:=0) (cs:=dO) (σ':=[dO]) r r r r r<|jK (v:=.agg dO) (n:=1) (cs:=dO) (σ':=[dO,dO]) r r r r r<|sB r<|aG (fr':=[(2,aE),(3,aU)]) r r<|aZ<|bB<|bx h fun x1 y1 h2=>aCX (v:=.ptrs [(0,1),(0,2),(0,3),(0,4),(0,5),(0,6),(0,7),(0,8)]) (σ':=[dO,dO]) 8 [0] [] r (aAZ y1) r r r ⟨lr,trivial⟩ (eG aBA aD) r r r<|bx h2 fun x4 y4 h5=>aCX (v:=.ptrs [(1,1),(1,2),(1,3),(1,4),(1,5),(1,6),(1,7),(1,8)]) (σ':=[dO,dO]) 9 [1] [] r (aAZ y4) r r r ⟨lr,trivial⟩ (eG aBA aD) r r r<|sV (v:=.ptrs [(0,1),(0,2),(0,3),(0,4),(0,5),(0,6),(0,7),(0,8)]) r<|sV (v:=.ptrs [(1,1),(1,2),(1,3),(1,4),(1,5),(1,6),(1,7),(1,8)]) r<|aG (fr':=[(2,aE),(3,aU),(5,.ptrs [(0,1),(0,2),(0,3),(0,4),(0,5),(0,6),(0,7),(0,8)]),(6,.ptrs [(1,1),(1,2),(1,3),(1,4),(1,5),(1,6),(1,7),(1,8)])]) r r<|aZ<|aH<|mV (v:=.ptrs [(0,1),(0,2),(0,3),(0,4),(0,5),(0,6),(0,7),(0,8)]) r<|aR r (aLi aSF r)<|mI r<|aG (fr':=[(2,aE),(3,aU),(5,.ptrs [(0,1),(0,2),(0,3),(0,4),(0,5),(0,6),(0,7),(0,8)]),(6,.ptrs [(1,1),(1,2),(1,3),(1,4),(1,5),(1,6),(1,7),(1,8)]),(11,aI),(12,aI)]) r r<|cH<|aO5 64<|xQ<|aH<|aR r (zF (gI r r) (show _=.bool true from r))<|aG (fr':=[(2,aE),(3,aU),(5,.ptrs [(0,1),(0,2),(0,3),(0,4),(0,5),(0,6),(0,7),(0,8)]),(6,.ptrs [(1,1),(1,2),(1,3),(1,4),(1,5),(1,6),(1,7),(1,8)]),(11,aI),(12,aI),(13,aB)]) r r<|aZ<|kP r<|bF<|cZ<|aZ<|cH<|aZ<|bB<|mI r<|sI r<|aG (fr':=[(2,aE),(3,aU),(5,.ptrs [(0,1),(0,2),(0,3),(0,4),(0,5),(0,6),(0,7),(0,8)]),(6,.ptrs [(1,1),(1,2),(1,3),(1,4),(1,5),(1,6),(1,7),(1,8)]),(7,aI),(11,aI),(12,aI)]) r r<|aZ<|kV [.q 0,.q 1,.q 2,.q 3,.q 4,.q 5,.q 6,.q 7,.q 8,.q 9,.q 10,.q 11,.q 12] [(some 15,[5]),(some 16,[7]),(some 17,[15,16]),(some 18,[17]),(some 19,[18]),(some 20,[19]),(some 21,[6]),(some 22,[7]),(some 23,[21,22]),(some 24,[23]),(some 25,[24]),(some 26,[25]),(some 27,[20,26])] [0,0,3,7,15,31,0,0,192,448,960,1984,4095] (by kernel_rfl)<|dq r r (bN (v:=.ptrs [(0,1),(0,2),(0,3),(0,4),(0,5),(0,6),(0,7),(0,8)]) r)<|dq r r (bN (v:=aI) r)<|dq r r (pE (p:=(0,1)) uW r r r)<|dq r r (kI vY r)<|dq r r (jM r)<|dq r r (aK (v:=aI) fM r r r)<|dq r r (bN (v:=.ptrs [(1,1),(1,2),(1,3),(1,4),(1,5),(1,6),(1,7),(1,8)]) r)<|dq r r (bN (v:=aI) r)<|dq r r (pE (p:=(1,1)) uW r r r)<|dq r r (kI vY r)<|dq r r (jM r)<|dq r r (aK (v:=aI) fM r r r)<|dq r r (iS r r)<|aAq (fr':=[(2,aE),(3,aU),(5,.ptrs [(0,1),(0,2),(0,3),(0,4),(0,5),(0,6),(0,7),(0,8)]),(6,.ptrs [(1,1),(1,2),(1,3),(1,4),(1,5),(1,6),(1,7),(1,8)]),(11,aI),(12,aI),(27,aB)]) r r<|cG h5 r (fun b7 h7=>?_) (fun b7 h7=>?_)
 ·
  refine aH<|sB r<|aG (fr':=[(4,aB)]) r r<|bK<|bO<|aP<|aP<|bO<|aP ?_
  obtain rfl:=sy h7
  exact bJ (rs':=[.tmp 4]) r<|bS (v:=aB) r<|bI<|aN [] r r r lr aD
 ·
  refine bF<|cW<|cZ<|bB<|aR r (zF (gC r r) (show _=.int .i64 (1:Int) from r))<|mI r<|dM (fr':=[(2,aE),(3,aU),(5,.ptrs [(0,1),(0,2),(0,3),(0,4),(0,5),(0,6),(0,7),(0,8)]),(6,.ptrs [(1,1),(1,2),(1,3),(1,4),(1,5),(1,6),(1,7),(1,8)]),(11,aI),(12,aI),(27,aB)]) r<|mA<|xQ<|aH<|aR r (zF (gI r r) (show _=.bool true from r))<|aG (fr':=[(2,aE),(3,aU),(5,.ptrs [(0,1),(0,2),(0,3),(0,4),(0,5),(0,6),(0,7),(0,8)]),(6,.ptrs [(1,1),(1,2),(1,3),(1,4),(1,5),(1,6),(1,7),(1,8)]),(11,aI),(12,aI),(13,aB)]) r r<|aZ<|kP r<|bF<|cZ<|aZ<|cH<|aH<|mI r<|sI r<|aG (fr':=[(2,aE),(3,aU),(5,.ptrs [(0,1),(0,2),(0,3),(0,4),(0,5),(0,6),(0,7),(0,8)]),(6,.ptrs [(1,1),(1,2),(1,3),(1,4),(1,5),(1,6),(1,7),(1,8)]),(7,aI),(11,aI),(12,aI)]) r r<|aZ<|kV [.q 0,.q 1,.q 2,.q 3,.q 4,.q 5,.q 6,.q 7,.q 8,.q 9,.q 10,.q 11,.q 12] [(some 15,[5]),(some 16,[7]),(some 17,[15,16]),(some 18,[17]),(some 19,[18]),(some 20,[19]),(some 21,[6]),(some 22,[7]),(some 23,[21,22]),(some 24,[23]),(some 25,[24]),(some 26,[25]),(some 27,[20,26])] [0,0,3,7,15,31,0,0,192,448,960,1984,4095] (by kernel_rfl)<|dq r r (bN (v:=.ptrs [(0,1),(0,2),(0,3),(0,4),(0,5),(0,6),(0,7),(0,8)]) r)<|dq r r (bN (v:=aI) r)<|dq r r (pE (p:=(0,2)) uW r r r)<|dq r r (kI vY r)<|dq r r (jM r)<|dq r r (aK (v:=aI) fM r r r)<|dq r r (bN (v:=.ptrs [(1,1),(1,2),(1,3),(1,4),(1,5),(1,6),(1,7),(1,8)]) r)<|dq r r (bN (v:=aI) r)<|dq r r (pE (p:=(1,2)) uW r r r)<|dq r r (kI vY r)<|dq r r (jM r)<|dq r r (aK (v:=aI) fM r r r)<|dq r r (iS r r)<|aAq (fr':=[(2,aE),(3,aU),(5,.ptrs [(0,1),(0,2),(0,3),(0,4),(0,5),(0,6),(0,7),(0,8)]),(6,.ptrs [(1,1),(1,2),(1,3),(1,4),(1,5),(1,6),(1,7),(1,8)]),(11,aI),(12,aI),(27,aB)]) r r<|cG h7 r (fun b9 h9=>?_) (fun b9 h9=>?_)
  ·
   refine aH<|sB r<|aG (fr':=[(4,aB)]) r r<|bK<|bO<|aP<|aP<|bO<|aP ?_
   obtain rfl:=sy h9
   exact bJ (rs':=[.tmp 4]) r<|bS (v:=aB) r<|bI<|aN [] r r r lr aD
  ·
   refine bF<|cW<|cZ<|bB<|aR r (zF (gC r r) (show _=.int .i64 (2:Int) from r))<|mI r<|dM (fr':=[(2,aE),(3,aU),(5,.ptrs [(0,1),(0,2),(0,3),(0,4),(0,5),(0,6),(0,7),(0,8)]),(6,.ptrs [(1,1),(1,2),(1,3),(1,4),(1,5),(1,6),(1,7),(1,8)]),(11,aI),(12,aI),(27,aB)]) r<|mA<|xQ<|aH<|aR r (zF (gI r r) (show _=.bool true from r))<|aG (fr':=[(2,aE),(3,aU),(5,.ptrs [(0,1),(0,2),(0,3),(0,4),(0,5),(0,6),(0,7),(0,8)]),(6,.ptrs [(1,1),(1,2),(1,3),(1,4),(1,5),(1,6),(1,7),(1,8)]),(11,aI),(12,aI),(13,aB)]) r r<|aZ<|kP r<|bF<|cZ<|aZ<|cH<|aH<|mI r<|sI r<|aG (fr':=[(2,aE),(3,aU),(5,.ptrs [(0,1),(0,2),(0,3),(0,4),(0,5),(0,6),(0,7),(0,8)]),(6,.ptrs [(1,1),(1,2),(1,3),(1,4),(1,5),(1,6),(1,7),(1,8)]),(7,aI),(11,aI),(12,aI)]) r r<|aZ<|kV [.q 0,.q 1,.q 2,.q 3,.q 4,.q 5,.q 6,.q 7,.q 8,.q 9,.q 10,.q 11,.q 12] [(some 15,[5]),(some 16,[7]),(some 17,[15,16]),(some 18,[17]),(some 19,[18]),(some 20,[19]),(some 21,[6]),(some 22,[7]),(some 23,[21,22]),(some 24,[23]),(some 25,[24]),(some 26,[25]),(some 27,[20,26])] [0,0,3,7,15,31,0,0,192,448,960,1984,4095] (by kernel_rfl)<|dq r r (bN (v:=.ptrs [(0,1),(0,2),(0,3),(0,4),(0,5),(0,6),(0,7),(0,8)]) r)<|dq r r (bN (v:=aI) r)<|dq r r (pE (p:=(0,3)) uW r r r)<|dq r r (kI vY r)<|dq r r (jM r)<|dq r r (aK (v:=aI) fM r r r)<|dq r r (bN (v:=.ptrs [(1,1),(1,2),(1,3),(1,4),(1,5),(1,6),(1,7),(1,8)]) r)<|dq r r (bN (v:=aI) r)<|dq r r (pE (p:=(1,3)) uW r r r)<|dq r r (kI vY r)<|dq r r (jM r)<|dq r r (aK (v:=aI) fM r r r)<|dq r r (iS r r)<|aAq (fr':=[(2,aE),(3,aU),(5,.ptrs [(0,1),(0,2),(0,3),(0,4),(0,5),(0,6),(0,7),(0,8)]),(6,.ptrs [(1,1),(1,2),(1,3),(1,4),(1,5),(1,6),(1,7),(1,8)]),(11,aI),(12,aI),(27,aB)]) r r<|cG h9 r (fun b11 h11=>?_) (fun b11 h11=>?_)
   ·
    refine aH<|sB r<|aG (fr':=[(4,aB)]) r r<|bK<|bO<|aP<|aP<|bO<|aP ?_
    obtain rfl:=sy h11
    exact bJ (rs':=[.tmp 4]) r<|bS (v:=aB) r<|bI<|aN [] r r r lr aD
   ·
    refine bF<|cW<|cZ<|bB<|aR r (zF (gC r r) (show _=.int .i64 (3:Int) from r))<|mI r<|dM (fr':=[(2,aE),(3,aU),(5,.ptrs [(0,1),(0,2),(0,3),(0,4),(0,5),(0,6),(0,7),(0,8)]),(6,.ptrs [(1,1),(1,2),(1,3),(1,4),(1,5),(1,6),(1,7),(1,8)]),(11,aI),(12,aI),(27,aB)]) r<|mA<|xQ<|aH<|aR r (zF (gI r r) (show _=.bool true from r))<|aG (fr':=[(2,aE),(3,aU),(5,.ptrs [(0,1),(0,2),(0,3),(0,4),(0,5),(0,6),(0,7),(0,8)]),(6,.ptrs [(1,1),(1,2),(1,3),(1,4),(1,5),(1,6),(1,7),(1,8)]),(11,aI),(12,aI),(13,aB)]) r r<|aZ<|kP r<|bF<|cZ<|aZ<|cH<|aH<|mI r<|sI r<|aG (fr':=[(2,aE),(3,aU),(5,.ptrs [(0,1),(0,2),(0,3),(0,4),(0,5),(0,6),(0,7),(0,8)]),(6,.ptrs [(1,1),(1,2),(1,3),(1,4),(1,5),(1,6),(1,7),(1,8)]),(7,aI),(11,aI),(12,aI)]) r r<|aZ<|kV [.q 0,.q 1,.q 2,.q 3,.q 4,.q 5,.q 6,.q 7,.q 8,.q 9,.q 10,.q 11,.q 12] [(some 15,[5]),(some 16,[7]),(some 17,[15,16]),(some 18,[17]),(some 19,[18]),(some 20,[19]),(some 21,[6]),(some 22,[7]),(some 23,[21,22]),(some 24,[23]),(some 25,[24]),(some 26,[25]),(some 27,[20,26])] [0,0,3,7,15,31,0,0,192,448,960,1984,4095] (by kernel_rfl)<|dq r r (bN (v:=.ptrs [(0,1),(0,2),(0,3),(0,4),(0,5),(0,6),(0,7),(0,8)]) r)<|dq r r (bN (v:=aI) r)<|dq r r (pE (p:=(0,4)) uW r r r)<|dq r r (kI vY r)<|dq r r (jM r)<|dq r r (aK (v:=aI) fM r r r)<|dq r r (bN (v:=.ptrs [(1,1),(1,2),(1,3),(1,4),(1,5),(1,6),(1,7),(1,8)]) r)<|dq r r (bN (v:=aI) r)<|dq r r (pE (p:=(1,4)) uW r r r)<|dq r r (kI vY r)<|dq r r (jM r)<|dq r r (aK (v:=aI) fM r r r)<|dq r r (iS r r)<|aAq (fr':=[(2,aE),(3,aU),(5,.ptrs [(0,1),(0,2),(0,3),(0,4),(0,5),(0,6),(0,7),(0,8)]),(6,.ptrs [(1,1),(1,2),(1,3),(1,4),(1,5),(1,6),(1,7),(1,8)]),(11,aI),(12,aI),(27,aB)]) r r<|cG h11 r (fun b13 h13=>?_) (fun b13 h13=>?_)
    ·
     refine aH<|sB r<|aG (fr':=[(4,aB)]) r r<|bK<|bO<|aP<|aP<|bO<|aP ?_
     obtain rfl:=sy h13
     exact bJ (rs':=[.tmp 4]) r<|bS (v:=aB) r<|bI<|aN [] r r r lr aD
    ·
     refine bF<|cW<|cZ<|bB<|aR r (zF (gC r r) (show _=.int .i64 (4:Int) from r))<|mI r<|dM (fr':=[(2,aE),(3,aU),(5,.ptrs [(0,1),(0,2),(0,3),(0,4),(0,5),(0,6),(0,7),(0,8)]),(6,.ptrs [(1,1),(1,2),(1,3),(1,4),(1,5),(1,6),(1,7),(1,8)]),(11,aI),(12,aI),(27,aB)]) r<|mA<|xQ<|aH<|aR r (zF (gI r r) (show _=.bool true from r))<|aG (fr':=[(2,aE),(3,aU),(5,.ptrs [(0,1),(0,2),(0,3),(0,4),(0,5),(0,6),(0,7),(0,8)]),(6,.ptrs [(1,1),(1,2),(1,3),(1,4),(1,5),(1,6),(1,7),(1,8)]),(11,aI),(12,aI),(13,aB)]) r r<|aZ<|kP r<|bF<|cZ<|aZ<|cH<|aH<|mI r<|sI r<|aG (fr':=[(2,aE),(3,aU),(5,.ptrs [(0,1),(0,2),(0,3),(0,4),(0,5),(0,6),(0,7),(0,8)]),(6,.ptrs [(1,1),(1,2),(1,3),(1,4),(1,5),(1,6),(1,7),(1,8)]),(7,aI),(11,aI),(12,aI)]) r r<|aZ<|kV [.q 0,.q 1,.q 2,.q 3,.q 4,.q 5,.q 6,.q 7,.q 8,.q 9,.q 10,.q 11,.q 12] [(some 15,[5]),(some 16,[7]),(some 17,[15,16]),(some 18,[17]),(some 19,[18]),(some 20,[19]),(some 21,[6]),(some 22,[7]),(some 23,[21,22]),(some 24,[23]),(some 25,[24]),(some 26,[25]),(some 27,[20,26])] [0,0,3,7,15,31,0,0,192,448,960,1984,4095] (by kernel_rfl)<|dq r r (bN (v:=.ptrs [(0,1),(0,2),(0,3),(0,4),(0,5),(0,6),(0,7),(0,8)]) r)<|dq r r (bN (v:=aI) r)<|dq r r (pE (p:=(0,5)) uW r r r)<|dq r r (kI vY r)<|dq r r (jM r)<|dq r r (aK (v:=aI) fM r r r)<|dq r r (bN (v:=.ptrs [(1,1),(1,2),(1,3),(1,4),(1,5),(1,6),(1,7),(1,8)]) r)<|dq r r (bN (v:=aI) r)<|dq r r (pE (p:=(1,5)) uW r r r)<|dq r r (kI vY r)<|dq r r (jM r)<|dq r r (aK (v:=aI) fM r r r)<|dq r r (iS r r)<|aAq (fr':=[(2,aE),(3,aU),(5,.ptrs [(0,1),(0,2),(0,3),(0,4),(0,5),(0,6),(0,7),(0,8)]),(6,.ptrs [(1,1),(1,2),(1,3),(1,4),(1,5),(1,6),(1,7),(1,8)]),(11,aI),(12,aI),(27,aB)]) r r<|cG h13 r (fun b15 h15=>?_) (fun b15 h15=>?_)
     ·
      refine aH<|sB r<|aG (fr':=[(4,aB)]) r r<|bK<|bO<|aP<|aP<|bO<|aP ?_
      obtain rfl:=sy h15
      exact bJ (rs':=[.tmp 4]) r<|bS (v:=aB) r<|bI<|aN [] r r r lr aD
     ·
      refine bF<|cW<|cZ<|bB<|aR r (zF (gC r r) (show _=.int .i64 (5:Int) from r))<|mI r<|dM (fr':=[(2,aE),(3,aU),(5,.ptrs [(0,1),(0,2),(0,3),(0,4),(0,5),(0,6),(0,7),(0,8)]),(6,.ptrs [(1,1),(1,2),(1,3),(1,4),(1,5),(1,6),(1,7),(1,8)]),(11,aI),(12,aI),(27,aB)]) r<|mA<|xQ<|aH<|aR r (zF (gI r r) (show _=.bool true from r))<|aG (fr':=[(2,aE),(3,aU),(5,.ptrs [(0,1),(0,2),(0,3),(0,4),(0,5),(0,6),(0,7),(0,8)]),(6,.ptrs [(1,1),(1,2),(1,3),(1,4),(1,5),(1,6),(1,7),(1,8)]),(11,aI),(12,aI),(13,aB)]) r r<|aZ<|kP r<|bF<|cZ<|aZ<|cH<|aH<|mI r<|sI r<|aG (fr':=[(2,aE),(3,aU),(5,.ptrs [(0,1),(0,2),(0,3),(0,4),(0,5),(0,6),(0,7),(0,8)]),(6,.ptrs [(1,1),(1,2),(1,3),(1,4),(1,5),(1,6),(1,7),(1,8)]),(7,aI),(11,aI),(12,aI)]) r r<|aZ<|kV [.q 0,.q 1,.q 2,.q 3,.q 4,.q 5,.q 6,.q 7,.q 8,.q 9,.q 10,.q 11,.q 12] [(some 15,[5]),(some 16,[7]),(some 17,[15,16]),(some 18,[17]),(some 19,[18]),(some 20,[19]),(some 21,[6]),(some 22,[7]),(some 23,[21,22]),(some 24,[23]),(some 25,[24]),(some 26,[25]),(some 27,[20,26])] [0,0,3,7,15,31,0,0,192,448,960,1984,4095] (by kernel_rfl)<|dq r r (bN (v:=.ptrs [(0,1),(0,2),(0,3),(0,4),(0,5),(0,6),(0,7),(0,8)]) r)<|dq r r (bN (v:=aI) r)<|dq r r (pE (p:=(0,6)) uW r r r)<|dq r r (kI vY r)<|dq r r (jM r)<|dq r r (aK (v:=aI) fM r r r)<|dq r r (bN (v:=.ptrs [(1,1),(1,2),(1,3),(1,4),(1,5),(1,6),(1,7),(1,8)]) r)<|dq r r (bN (v:=aI) r)<|dq r r (pE (p:=(1,6)) uW r r r)<|dq r r (kI vY r)<|dq r r (jM r)<|dq r r (aK (v:=aI) fM r r r)<|dq r r (iS r r)<|aAq (fr':=[(2,aE),(3,aU),(5,.ptrs [(0,1),(0,2),(0,3),(0,4),(0,5),(0,6),(0,7),(0,8)]),(6,.ptrs [(1,1),(1,2),(1,3),(1,4),(1,5),(1,6),(1,7),(1,8)]),(11,aI),(12,aI),(27,aB)]) r r<|cG h15 r (fun b17 h17=>?_) (fun b17 h17=>?_)
      ·
       refine aH<|sB r<|aG (fr':=[(4,aB)]) r r<|bK<|bO<|aP<|aP<|bO<|aP ?_
       obtain rfl:=sy h17
       exact bJ (rs':=[.tmp 4]) r<|bS (v:=aB) r<|bI<|aN [] r r r lr aD
      ·
       refine bF<|cW<|cZ<|bB<|aR r (zF (gC r r) (show _=.int .i64 (6:Int) from r))<|mI r<|dM (fr':=[(2,aE),(3,aU),(5,.ptrs [(0,1),(0,2),(0,3),(0,4),(0,5),(0,6),(0,7),(0,8)]),(6,.ptrs [(1,1),(1,2),(1,3),(1,4),(1,5),(1,6),(1,7),(1,8)]),(11,aI),(12,aI),(27,aB)]) r<|mA<|xQ<|aH<|aR r (zF (gI r r) (show _=.bool true from r))<|aG (fr':=[(2,aE),(3,aU),(5,.ptrs [(0,1),(0,2),(0,3),(0,4),(0,5),(0,6),(0,7),(0,8)]),(6,.ptrs [(1,1),(1,2),(1,3),(1,4),(1,5),(1,6),(1,7),(1,8)]),(11,aI),(12,aI),(13,aB)]) r r<|aZ<|kP r<|bF<|cZ<|aZ<|cH<|aH<|mI r<|sI r<|aG (fr':=[(2,aE),(3,aU),(5,.ptrs [(0,1),(0,2),(0,3),(0,4),(0,5),(0,6),(0,7),(0,8)]),(6,.ptrs [(1,1),(1,2),(1,3),(1,4),(1,5),(1,6),(1,7),(1,8)]),(7,aI),(11,aI),(12,aI)]) r r<|aZ<|kV [.q 0,.q 1,.q 2,.q 3,.q 4,.q 5,.q 6,.q 7,.q 8,.q 9,.q 10,.q 11,.q 12] [(some 15,[5]),(some 16,[7]),(some 17,[15,16]),(some 18,[17]),(some 19,[18]),(some 20,[19]),(some 21,[6]),(some 22,[7]),(some 23,[21,22]),(some 24,[23]),(some 25,[24]),(some 26,[25]),(some 27,[20,26])] [0,0,3,7,15,31,0,0,192,448,960,1984,4095] (by kernel_rfl)<|dq r r (bN (v:=.ptrs [(0,1),(0,2),(0,3),(0,4),(0,5),(0,6),(0,7),(0,8)]) r)<|dq r r (bN (v:=aI) r)<|dq r r (pE (p:=(0,7)) uW r r r)<|dq r r (kI vY r)<|dq r r (jM r)<|dq r r (aK (v:=aI) fM r r r)<|dq r r (bN (v:=.ptrs [(1,1),(1,2),(1,3),(1,4),(1,5),(1,6),(1,7),(1,8)]) r)<|dq r r (bN (v:=aI) r)<|dq r r (pE (p:=(1,7)) uW r r r)<|dq r r (kI vY r)<|dq r r (jM r)<|dq r r (aK (v:=aI) fM r r r)<|dq r r (iS r r)<|aAq (fr':=[(2,aE),(3,aU),(5,.ptrs [(0,1),(0,2),(0,3),(0,4),(0,5),(0,6),(0,7),(0,8)]),(6,.ptrs [(1,1),(1,2),(1,3),(1,4),(1,5),(1,6),(1,7),(1,8)]),(11,aI),(12,aI),(27,aB)]) r r<|cG h17 r (fun b19 h19=>?_) (fun b19 h19=>?_)
       ·
        refine aH<|sB r<|aG (fr':=[(4,aB)]) r r<|bK<|bO<|aP<|aP<|bO<|aP ?_
        obtain rfl:=sy h19
        exact bJ (rs':=[.tmp 4]) r<|bS (v:=aB) r<|bI<|aN [] r r r lr aD
       ·
        refine bF<|cW<|cZ<|bB<|aR r (zF (gC r r) (show _=.int .i64 (7:Int) from r))<|mI r<|dM (fr':=[(2,aE),(3,aU),(5,.ptrs [(0,1),(0,2),(0,3),(0,4),(0,5),(0,6),(0,7),(0,8)]),(6,.ptrs [(1,1),(1,2),(1,3),(1,4),(1,5),(1,6),(1,7),(1,8)]),(11,aI),(12,aI),(27,aB)]) r<|mA<|xQ<|aH<|aR r (zF (gI r r) (show _=.bool true from r))<|aG (fr':=[(2,aE),(3,aU),(5,.ptrs [(0,1),(0,2),(0,3),(0,4),(0,5),(0,6),(0,7),(0,8)]),(6,.ptrs [(1,1),(1,2),(1,3),(1,4),(1,5),(1,6),(1,7),(1,8)]),(11,aI),(12,aI),(13,aB)]) r r<|aZ<|kP r<|bF<|cZ<|aZ<|cH<|aH<|mI r<|sI r<|aG (fr':=[(2,aE),(3,aU),(5,.ptrs [(0,1),(0,2),(0,3),(0,4),(0,5),(0,6),(0,7),(0,8)]),(6,.ptrs [(1,1),(1,2),(1,3),(1,4),(1,5),(1,6),(1,7),(1,8)]),(7,aI),(11,aI),(12,aI)]) r r<|aZ<|kV [.q 0,.q 1,.q 2,.q 3,.q 4,.q 5,.q 6,.q 7,.q 8,.q 9,.q 10,.q 11,.q 12] [(some 15,[5]),(some 16,[7]),(some 17,[15,16]),(some 18,[17]),(some 19,[18]),(some 20,[19]),(some 21,[6]),(some 22,[7]),(some 23,[21,22]),(some 24,[23]),(some 25,[24]),(some 26,[25]),(some 27,[20,26])] [0,0,3,7,15,31,0,0,192,448,960,1984,4095] (by kernel_rfl)<|dq r r (bN (v:=.ptrs [(0,1),(0,2),(0,3),(0,4),(0,5),(0,6),(0,7),(0,8)]) r)<|dq r r (bN (v:=aI) r)<|dq r r (pE (p:=(0,8)) uW r r r)<|dq r r (kI vY r)<|dq r r (jM r)<|dq r r (aK (v:=aI) fM r r r)<|dq r r (bN (v:=.ptrs [(1,1),(1,2),(1,3),(1,4),(1,5),(1,6),(1,7),(1,8)]) r)<|dq r r (bN (v:=aI) r)<|dq r r (pE (p:=(1,8)) uW r r r)<|dq r r (kI vY r)<|dq r r (jM r)<|dq r r (aK (v:=aI) fM r r r)<|dq r r (iS r r)<|aAq (fr':=[(2,aE),(3,aU),(5,.ptrs [(0,1),(0,2),(0,3),(0,4),(0,5),(0,6),(0,7),(0,8)]),(6,.ptrs [(1,1),(1,2),(1,3),(1,4),(1,5),(1,6),(1,7),(1,8)]),(11,aI),(12,aI),(27,aB)]) r r<|cG h19 r (fun b21 h21=>?_) (fun b21 h21=>?_)
        ·
         refine aH<|sB r<|aG (fr':=[(4,aB)]) r r<|bK<|bO<|aP<|aP<|bO<|aP ?_
         obtain rfl:=sy h21
         exact bJ (rs':=[.tmp 4]) r<|bS (v:=aB) r<|bI<|aN [] r r r lr aD
        ·
         refine bF<|cW<|cZ<|bB<|aR r (zF (gC r r) (show _=.int .i64 (8:Int) from r))<|mI r<|dM (fr':=[(2,aE),(3,aU),(5,.ptrs [(0,1),(0,2),(0,3),(0,4),(0,5),(0,6),(0,7),(0,8)]),(6,.ptrs [(1,1),(1,2),(1,3),(1,4),(1,5),(1,6),(1,7),(1,8)]),(11,aI),(12,aI),(27,aB)]) r<|mA<|xQ<|aH<|aR r (zF (gI r r) (show _=.bool false from r))<|aG (fr':=[(2,aE),(3,aU),(5,.ptrs [(0,1),(0,2),(0,3),(0,4),(0,5),(0,6),(0,7),(0,8)]),(6,.ptrs [(1,1),(1,2),(1,3),(1,4),(1,5),(1,6),(1,7),(1,8)]),(11,aI),(12,aI),(13,aB)]) r r<|aZ<|yI r<|hG<|cY<|cY<|fP<|cZ<|aH<|aR r (bD aDb r)<|aR r (aK (v:=aS) lP r r r)<|aR r (bD aDb r)<|aR r (aK (v:=aS) lP r r r)<|aR r (qX r r)<|mB r<|og r r r (fun u=>(bD tN r))<|og r r r (fun u=>(aK (v:=aL) rC (gx r u) r r))<|og r r r (fun u=>(bD tN r))<|og r r r (fun u=>(aK (v:=aL) rC (gx r u) r r))<|bx h21 fun x23 y23 h24=>sX r r (fun u=>bL (v:=aB) r (wQ (cU y23 u)) ⟨(eW (gx r u) lr),(eW (gx r u) lr),trivial⟩ (fT (by repeat (first | exact eN | refine aY r ?_ | refine aY (pP r) ?_ | refine aY pO ?_))) r r) ?_
         refine aR r (bV r r r (fun e=>fJ e))<|sB r<|aG (fr':=[(4,aB)]) r r<|bK ?_
         obtain rfl:=sy h24
         exact bJ (rs':=[.tmp 4]) r<|bS (v:=aB) r<|bI<|aN [] r r r lr aD
noncomputable def aAr (p0c:bY) (p1u:kR):Option Bool :=
 (gd (((cond (cond (cond (cond p1u.seq_ true (decide (p0c.Seq=0))) (cond p1u.name_ true (decide (p0c.Name=([]:List UInt8)))) false) (cond p1u.key_ true (decide (p0c.Key=([]:List UInt8)))) false) (cond p1u.n_ true (decide (p0c.N=0))) false)==true)&&(p1u.data_==false)) (aCN p0c.Data (aQ.mk 0 0 ([]:List UInt8) ([]:(List aQ)) ([]:(List (List UInt8)))))).bind fun x1=>(gd (((cond (cond (cond (cond (cond p1u.seq_ true (decide (p0c.Seq=0))) (cond p1u.name_ true (decide (p0c.Name=([]:List UInt8)))) false) (cond p1u.key_ true (decide (p0c.Key=([]:List UInt8)))) false) (cond p1u.n_ true (decide (p0c.N=0))) false) (cond p1u.data_ true x1) false)==true)&&(p1u.opts_==false)) (oK p0c.Opts (dS.mk ([]:List UInt8) 0 0 0 0 0 0 0 0 ([]:(List (List UInt8)))))).bind fun x3=>some (cond (cond (cond (cond (cond (cond p1u.seq_ true (decide (p0c.Seq=0))) (cond p1u.name_ true (decide (p0c.Name=([]:List UInt8)))) false) (cond p1u.key_ true (decide (p0c.Key=([]:List UInt8)))) false) (cond p1u.n_ true (decide (p0c.N=0))) false) (cond p1u.data_ true x1) false) (cond p1u.opts_ true x3) false)
theorem aJG {p0c:bY}{p1u:kR}{z:Bool} (h:aAr p0c p1u=some z):cQ Tryz.prog 165 [.agg (AV.cs (dK p0c)),.agg (AV.cs (aER p1u))] [] (.c (.bool z)) []:=by
 unfold aAr at h
 refine dF (fn:=Tryz.f165) [0,1,2,3,4] (by kernel_rfl) Tryz.func165 r (by kernel_rfl) (by kernel_rfl)<|aH<|jK (v:=.agg aW) (n:=0) (cs:=aW) (σ':=[aW]) r r r r r<|jK (v:=.agg eZ) (n:=1) (cs:=eZ) (σ':=[aW,eZ]) r r r r r<|sB r<|aG (fr':=[(2,aE),(3,aU)]) r r<|aH<|aR r (bD aO0 r)<|aR r (aK (v:=aB) tv4 r r r)<|mB r<|og r r r (fun u=>(bD aB5 r))<|og r r r (fun u=>(aK (v:=aI) fM (gx r u) r r))<|og r r r (fun u=>(bU (gx r u) r))<|aR r (cN r r r (fun e=>fJ e))<|mB r<|og r r r (fun u=>(bD aO1 r))<|og r r r (fun u=>(aK (v:=aB) tv4 (gx r u) r r))<|og r r r (fun u=>(bN (v:=aB) (gx r u)))<|fD r r (fun u=>fS r (bD aAP r))<|fD r r (fun u=>fS r (aK (v:=aS) lP (gx r u) r r))<|fD r r (fun u=>fS r (qX (gx r u) r))<|og r r r (fun u=>(cN (gx r u) r r (fun e=>pX u (fJ e))))<|aR r (bV r r r (fun e=>fJ e))<|mB r<|og r r r (fun u=>(bD aO2 r))<|og r r r (fun u=>(aK (v:=aB) tv4 (gx r u) r r))<|og r r r (fun u=>(bN (v:=aB) (gx r u)))<|fD r r (fun u=>fS r (bD aB6 r))<|fD r r (fun u=>fS r (aK (v:=aS) lP (gx r u) r r))<|fD r r (fun u=>fS r (qX (gx r u) r))<|og r r r (fun u=>(cN (gx r u) r r (fun e=>pX u (fJ e))))<|aR r (bV r r r (fun e=>fJ e))<|mB r<|og r r r (fun u=>(bD aSC r))<|og r r r (fun u=>(aK (v:=aB) tv4 (gx r u) r r))<|og r r r (fun u=>(bN (v:=aB) (gx r u)))<|fD r r (fun u=>fS r (bD uF r))<|fD r r (fun u=>fS r (aK (v:=aI) fM (gx r u) r r))<|fD r r (fun u=>fS r (bU (gx r u) r))<|og r r r (fun u=>(cN (gx r u) r r (fun e=>pX u (fJ e))))<|aR r (bV r r r (fun e=>fJ e))<|mB r<|og r r r (fun u=>(bD aSD r))<|og r r r (fun u=>(aK (v:=aB) tv4 (gx r u) r r))<|og r r r (fun u=>(bN (v:=aB) (gx r u)))<|fD r r (fun u=>fS r (bD vW r))<|fD r r (fun u=>fS r (dL (us:=cE) iO (gx r u) r r r))<|fD r r (fun u=>fS r (fV (cs:=cB) aFl r))<|bx h fun x1 y1 h2=>fD r r (fun u=>bL (v:=aB) r (aD9 (cU y1 u)) ⟨(eW (gx r u) (bQ r kR5)),(eW (gx r u) (bQ r ⟨r,r,r,⟨_,r⟩,⟨_,r⟩,trivial⟩)),trivial⟩ (fT (by repeat (first | exact eN | refine aY r ?_ | refine aY (pP r) ?_ | refine aY pO ?_))) r r) ?_
 refine og r r r (fun u=>(cN (gx r u) r r (fun e=>pX u (fJ e))))<|aR r (bV r r r (fun e=>fJ e))<|mB r<|og r r r (fun u=>(bD aSE r))<|og r r r (fun u=>(aK (v:=aB) tv4 (gx r u) r r))<|og r r r (fun u=>(bN (v:=aB) (gx r u)))<|fD r r (fun u=>fS r (bD aBp r))<|fD r r (fun u=>fS r (dL (us:=dO) yT (gx r u) r r r))<|fD r r (fun u=>fS r (iD (c0:=bG) (cs:=bG) aM6 r iC))<|bx h2 fun x3 y3 h4=>fD r r (fun u=>bL (v:=aB) r (yH (cU y3 u)) ⟨(eW (gx r u) (bQ r aBA)),(eW (gx r u) (bQ r ⟨r,r,r,r,r,r,r,r,r,⟨_,r⟩,trivial⟩)),trivial⟩ (fT (by repeat (first | exact eN | refine aY r ?_ | refine aY (pP r) ?_ | refine aY pO ?_))) r r) ?_
 refine og r r r (fun u=>(cN (gx r u) r r (fun e=>pX u (fJ e))))<|aR r (bV r r r (fun e=>fJ e))<|sB r<|aG (fr':=[(4,aB)]) r r<|bK ?_
 obtain rfl:=sy h4
 exact bJ (rs':=[.tmp 4]) r<|bS (v:=aB) r<|bI<|aN [] r r r lr aD
noncomputable def yM (p0s:(List UInt8)) (s4:Int):Option (dU Int (Fl Bool Unit)) :=
 cond (decide (s4<((p0s).length:Int))) ((nG p0s s4).bind fun x6=>(gd ((decide (((x6).toNat:Int)<33))==false) (nG p0s s4)).bind fun x8=>(gd ((cond (decide (((x6).toNat:Int)<33)) true (decide (126<((x8).toNat:Int))))==false) (nG p0s s4)).bind fun x10=>(gd ((cond (cond (decide (((x6).toNat:Int)<33)) true (decide (126<((x8).toNat:Int)))) true (decide (((x10).toNat:Int)=47)))==false) (nG p0s s4)).bind fun x12=>cond (cond (cond (cond (decide (((x6).toNat:Int)<33)) true (decide (126<((x8).toNat:Int)))) true (decide (((x10).toNat:Int)=47))) true (decide (((x12).toNat:Int)=34))) (some (dU.out (Fl.done false))) (some (dU.next (IntKind.wrap .i64 (s4+1))))) (some (dU.out (Fl.go ())))
noncomputable def uI (p0s:(List UInt8)):Option Bool :=
 (fK (yM p0s) (0)).bind fun x1=>Fl.next x1 (fun j3=>((nQ ((p0s).length:Int) 1 64).bind fun x20=>some x20))
theorem aIi {p0s:(List UInt8)}{z:Bool} (h:uI p0s=some z):cQ Tryz.prog 166 [.c (.str p0s)] [] (.c (.bool z)) []:=by
 unfold uI at h
 refine dF (fn:=Tryz.f166) [0,2,3,5,6,7,30] (by kernel_rfl) Tryz.func166 r (by kernel_rfl) (by kernel_rfl)<|aH<|sB r<|aG (fr':=[(0,aS)]) r r<|aZ<|aH<|mS r<|aR r (kT uU r)<|mI r<|aG (fr':=[(0,aS),(5,aI),(6,aI)]) r r<|bx h fun x1 y1 h2=>gZ lB (fun j3=>x1=Fl.go j3) (fun (j3:Unit)=>([(0,.c (.str p0s))]:Fr)) (fun (j3:Unit)=>([]:St)) ?_ ?_
 ·
  refine cH<|gV _ (fun (s4:Int)=>([(0,.c (.str p0s)),(5,ci ((p0s).length:Int)),(6,ci s4)]:Fr)) (fun (s4:Int)=>([]:St)) y1 (bC [] 0 r r r r kA aD) ?_
  intro s4 st4 hs4 ho4
  unfold yM at hs4
  refine aH<|aR r (gI r r)<|aG (fr':=[(0,aS),(5,aI),(6,aI),(7,aB)]) r r<|aZ<|cG hs4 r (fun b5 h5=>?_) (fun b5 h5=>?_)
  ·
   refine bF<|cZ<|aZ<|cH<|aH<|mI r<|sI r<|aG (fr':=[(0,aS),(3,aI),(5,aI),(6,aI)]) r r<|aH<|mS r<|mI r<|bx h5 fun x6 y6 h7=>aR r (aAx uU r r y6)<|aR r (gI r r)<|mB r<|og r r r (fun u=>(bN (v:=aS) r))<|og r r r (fun u=>(bN (v:=aI) r))<|bx h7 fun x8 y8 h9=>og r r r (fun u=>(aAx uU (gx r u) (gx r u) (cU y8 u)))<|og r r r (fun u=>(qW (gx r u) r))<|aR r (cN r r r (fun e=>fJ e))<|mB r<|og r r r (fun u=>(bN (v:=aS) r))<|og r r r (fun u=>(bN (v:=aI) r))<|bx h9 fun x10 y10 h11=>og r r r (fun u=>(aAx uU (gx r u) (gx r u) (cU y10 u)))<|og r r r (fun u=>(bU (gx r u) r))<|aR r (cN r r r (fun e=>fJ e))<|mB r<|og r r r (fun u=>(bN (v:=aS) r))<|og r r r (fun u=>(bN (v:=aI) r))<|bx h11 fun x12 y12 h13=>og r r r (fun u=>(aAx uU (gx r u) (gx r u) (cU y12 u)))<|og r r r (fun u=>(bU (gx r u) r))<|aR r (cN r r r (fun e=>fJ e))<|aG (fr':=[(0,aS),(5,aI),(6,aI),(30,aB)]) r r<|cG h13 r (fun b14 h14=>?_) (fun b14 h14=>?_)
   ·
    refine aH<|sB r<|aG (fr':=[(2,aB)]) r r<|bK<|bO<|aP<|aP<|bO<|aP<|aP ?_
    have h15:=eR h14 ho4
    have h16:=fL h15 h2
    obtain rfl:=sy h16
    exact bJ (rs':=[.tmp 2]) r<|bS (v:=aB) r<|bI<|aN [] r r r lr aD
   ·
    exact bF<|cW<|cZ<|bB<|aR r (gC r r)<|mI r<|dM (fr':=[(0,aS),(5,aI),(6,aI),(30,aB)]) r<|zO _ (sy h14) (bC [] 0 r r r r kA aD)
  ·
   refine hG<|cY<|cY<|fP ?_
   have h18:=eR h5 ho4
   exact iQ _ (sy h18) (bC [] 0 r r r r ⟨lr,trivial⟩ aD)
 ·
  intro j3 hj19
  have h19:=lV hj19 h2
  refine cZ<|aH<|mS r<|aR r (kT uU r)<|bx h19 fun x20 y20 h21=>lS (bL (v:=aB) r (pJ y20) kA r r r)<|sB r<|aG (fr':=[(2,aB)]) r r<|bK ?_
  obtain rfl:=sy h21
  exact bJ (rs':=[.tmp 2]) r<|bS (v:=aB) r<|bI<|aN [] r r r lr aD
noncomputable def wI (p0x:aQ):Option Bool :=
 (gd ((cond (!decide (p0x.Kind=4)) true (!decide (((p0x.Items).length:Int)=2)))==false) (nG p0x.Items 0)).bind fun x1=>(gd ((cond (cond (!decide (p0x.Kind=4)) true (!decide (((p0x.Items).length:Int)=2))) true (!decide (x1.Kind=3)))==false) (nG p0x.Items 0)).bind fun x3=>(gd ((cond (cond (!decide (p0x.Kind=4)) true (!decide (((p0x.Items).length:Int)=2))) true (!decide (x1.Kind=3)))==false) (sW x3.Text)).bind fun x5=>some (cond (cond (cond (!decide (p0x.Kind=4)) true (!decide (((p0x.Items).length:Int)=2))) true (!decide (x1.Kind=3))) true (!x5))
theorem aGR {p0x:aQ}{z:Bool} (h:wI p0x=some z):cQ Tryz.prog 216 [.agg (AV.cs (fA p0x))] [] (.c (.bool z)) []:=by
 unfold wI at h
 refine dF (fn:=Tryz.f216) [0,1,2] (by kernel_rfl) Tryz.func216 r (by kernel_rfl) (by kernel_rfl)<|aH<|jK (v:=.agg cE) (n:=0) (cs:=cE) (σ':=[cE]) r r r r r<|sB r<|aG (fr':=[(1,aE)]) r r<|aH<|aR r (bD mE r)<|aR r (aK (v:=aI) fM r r r)<|aR r (iS r r)<|mB r<|og r r r (fun u=>(bD iJ r))<|og r r r (fun u=>(aK (v:=aL) nS (gx r u) r r))<|og r r r (fun u=>(hZ vX (eK (gx r u))))<|og r r r (fun u=>(iS (gx r u) r))<|aR r (cN r r r (fun e=>fJ e))<|mB r<|og r r r (fun u=>(bD iJ r))<|og r r r (fun u=>(aK (v:=aL) nS (gx r u) r r))<|bx h fun x1 y1 h2=>og r r r (fun u=>(lF (cs:=[PV.int _ _,PV.int _ _,PV.str _,PV.ls _ _ _,PV.ls _ _ _]) uV (eK (gx r u)) r (cU y1 u) (eJ _)))<|og r r r (fun u=>(zI mE (gx r u)))<|og r r r (fun u=>(gP (p:=PV.int _ _) fM (gx r u) r))<|og r r r (fun u=>(iS (gx r u) r))<|aR r (cN r r r (fun e=>fJ e))<|mB r<|og r r r (fun u=>(bD iJ r))<|og r r r (fun u=>(aK (v:=aL) nS (gx r u) r r))<|bx h2 fun x3 y3 h4=>og r r r (fun u=>(lF (cs:=[PV.int _ _,PV.int _ _,PV.str _,PV.ls _ _ _,PV.ls _ _ _]) uV (eK (gx r u)) r (cU y3 u) (eJ _)))<|og r r r (fun u=>(zI uP (gx r u)))<|og r r r (fun u=>(gP (p:=PV.str _) lP (gx r u) r))<|bx h4 fun x5 y5 h6=>sX r r (fun u=>bL (v:=aB) r (wC (cU y5 u)) ⟨(eW (gx r u) lr),trivial⟩ (fT (by repeat (first | exact eN | refine aY r ?_ | refine aY (pP r) ?_ | refine aY pO ?_))) r r) ?_
 refine og r r r (fun u=>(fE (gx r u)))<|aR r (cN r r r (fun e=>fJ e))<|sB r<|aG (fr':=[(2,aB)]) r r<|bK ?_
 obtain rfl:=sy h6
 exact bJ (rs':=[.tmp 2]) r<|bS (v:=aB) r<|bI<|aN [] r r r lr aD
