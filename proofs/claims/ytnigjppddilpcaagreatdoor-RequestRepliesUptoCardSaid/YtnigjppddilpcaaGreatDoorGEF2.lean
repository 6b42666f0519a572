import Derived.Test.YtnigjppddilpcaaGreatDoorGETy
import Derived.Test.YtnigjppddilpcaaGreatDoorGEF0
import Derived.Test.YtnigjppddilpcaaGreatDoorGEF1
namespace Go.Proofs.YtnigjppddilpcaaGreatDoor
open Go Abs
set_option maxRecDepth 100000
set_option linter.unusedVariables false
set_option linter.unusedSimpArgs false
noncomputable def wB (dG:Int):Option Int :=
 cond (decide (dG=7)) (some 1) (cond (decide (dG=12)) (some 2) (cond (decide (dG=14)) (some 3) (cond (decide (dG=16)) (some 4) (cond (decide (dG=19)) (some 5) (cond (decide (dG=23)) (some 6) (cond (decide (dG=18)) (some 7) (cond (decide (dG=27)) (some 8) (cond (decide (dG=28)) (some 9) (cond (decide (dG=29)) (some 10) (cond (decide (dG=30)) (some 11) (cond (decide (dG=31)) (some 12) (cond (decide (dG=32)) (some 13) (cond (decide (dG=35)) (some 14) (some 0))))))))))))))
theorem aHb {dG:Int}{z:Int} (h:wB dG=some z):cR Tryz.prog 137 [ci dG] [] (ci z) []:=by
 unfold wB at h
 refine dQ (fn:=Tryz.f137) [0,2,3,4,6,8,10,12,14,16,18,20,22,24,26,28,30] (by kernel_rfl) Tryz.func137 r (by kernel_rfl) (by kernel_rfl)<|aH<|sI r<|aG (fr':=[(0,aI)]) r r<|aU<|aH<|mI r<|aG (fr':=[(3,aI)]) r r<|cE<|aU<|bA<|aN r (cC r r)<|sB r<|aG (fr':=[(3,aI),(4,aB)]) r r<|cN h r (fun b1 h1=>?_) (fun b1 h1=>?_)
 ·
  refine aH<|sI r<|aG (fr':=[(2,aI)]) r r<|bJ<|bM<|aQ ?_
  obtain rfl:=sy h1
  exact bI (rs':=[.tmp 2]) r<|bX (v:=aI) r<|bG<|aP [] r r r lr aC
 ·
  refine aH<|aN r (cC r r)<|sB r<|aG (fr':=[(3,aI),(6,aB)]) r r<|cN h1 r (fun b3 h3=>?_) (fun b3 h3=>?_)
  ·
   refine aH<|sI r<|aG (fr':=[(2,aI)]) r r<|bJ<|bM<|aQ ?_
   obtain rfl:=sy h3
   exact bI (rs':=[.tmp 2]) r<|bX (v:=aI) r<|bG<|aP [] r r r lr aC
  ·
   refine aH<|aN r (cC r r)<|sB r<|aG (fr':=[(3,aI),(8,aB)]) r r<|cN h3 r (fun b5 h5=>?_) (fun b5 h5=>?_)
   ·
    refine aH<|sI r<|aG (fr':=[(2,aI)]) r r<|bJ<|bM<|aQ ?_
    obtain rfl:=sy h5
    exact bI (rs':=[.tmp 2]) r<|bX (v:=aI) r<|bG<|aP [] r r r lr aC
   ·
    refine aH<|aN r (cC r r)<|sB r<|aG (fr':=[(3,aI),(10,aB)]) r r<|cN h5 r (fun b7 h7=>?_) (fun b7 h7=>?_)
    ·
     refine aH<|sI r<|aG (fr':=[(2,aI)]) r r<|bJ<|bM<|aQ ?_
     obtain rfl:=sy h7
     exact bI (rs':=[.tmp 2]) r<|bX (v:=aI) r<|bG<|aP [] r r r lr aC
    ·
     refine aH<|aN r (cC r r)<|sB r<|aG (fr':=[(3,aI),(12,aB)]) r r<|cN h7 r (fun b9 h9=>?_) (fun b9 h9=>?_)
     ·
      refine aH<|sI r<|aG (fr':=[(2,aI)]) r r<|bJ<|bM<|aQ ?_
      obtain rfl:=sy h9
      exact bI (rs':=[.tmp 2]) r<|bX (v:=aI) r<|bG<|aP [] r r r lr aC
     ·
      refine aH<|aN r (cC r r)<|sB r<|aG (fr':=[(3,aI),(14,aB)]) r r<|cN h9 r (fun b11 h11=>?_) (fun b11 h11=>?_)
      ·
       refine aH<|sI r<|aG (fr':=[(2,aI)]) r r<|bJ<|bM<|aQ ?_
       obtain rfl:=sy h11
       exact bI (rs':=[.tmp 2]) r<|bX (v:=aI) r<|bG<|aP [] r r r lr aC
      ·
       refine aH<|aN r (cC r r)<|sB r<|aG (fr':=[(3,aI),(16,aB)]) r r<|cN h11 r (fun b13 h13=>?_) (fun b13 h13=>?_)
       ·
        refine aH<|sI r<|aG (fr':=[(2,aI)]) r r<|bJ<|bM<|aQ ?_
        obtain rfl:=sy h13
        exact bI (rs':=[.tmp 2]) r<|bX (v:=aI) r<|bG<|aP [] r r r lr aC
       ·
        refine aH<|aN r (cC r r)<|sB r<|aG (fr':=[(3,aI),(18,aB)]) r r<|cN h13 r (fun b15 h15=>?_) (fun b15 h15=>?_)
        ·
         refine aH<|sI r<|aG (fr':=[(2,aI)]) r r<|bJ<|bM<|aQ ?_
         obtain rfl:=sy h15
         exact bI (rs':=[.tmp 2]) r<|bX (v:=aI) r<|bG<|aP [] r r r lr aC
        ·
         refine aH<|aN r (cC r r)<|sB r<|aG (fr':=[(3,aI),(20,aB)]) r r<|cN h15 r (fun b17 h17=>?_) (fun b17 h17=>?_)
         ·
          refine aH<|sI r<|aG (fr':=[(2,aI)]) r r<|bJ<|bM<|aQ ?_
          obtain rfl:=sy h17
          exact bI (rs':=[.tmp 2]) r<|bX (v:=aI) r<|bG<|aP [] r r r lr aC
         ·
          refine aH<|aN r (cC r r)<|sB r<|aG (fr':=[(3,aI),(22,aB)]) r r<|cN h17 r (fun b19 h19=>?_) (fun b19 h19=>?_)
          ·
           refine aH<|sI r<|aG (fr':=[(2,aI)]) r r<|bJ<|bM<|aQ ?_
           obtain rfl:=sy h19
           exact bI (rs':=[.tmp 2]) r<|bX (v:=aI) r<|bG<|aP [] r r r lr aC
          ·
           refine aH<|aN r (cC r r)<|sB r<|aG (fr':=[(3,aI),(24,aB)]) r r<|cN h19 r (fun b21 h21=>?_) (fun b21 h21=>?_)
           ·
            refine aH<|sI r<|aG (fr':=[(2,aI)]) r r<|bJ<|bM<|aQ ?_
            obtain rfl:=sy h21
            exact bI (rs':=[.tmp 2]) r<|bX (v:=aI) r<|bG<|aP [] r r r lr aC
           ·
            refine aH<|aN r (cC r r)<|sB r<|aG (fr':=[(3,aI),(26,aB)]) r r<|cN h21 r (fun b23 h23=>?_) (fun b23 h23=>?_)
            ·
             refine aH<|sI r<|aG (fr':=[(2,aI)]) r r<|bJ<|bM<|aQ ?_
             obtain rfl:=sy h23
             exact bI (rs':=[.tmp 2]) r<|bX (v:=aI) r<|bG<|aP [] r r r lr aC
            ·
             refine aH<|aN r (cC r r)<|sB r<|aG (fr':=[(3,aI),(28,aB)]) r r<|cN h23 r (fun b25 h25=>?_) (fun b25 h25=>?_)
             ·
              refine aH<|sI r<|aG (fr':=[(2,aI)]) r r<|bJ<|bM<|aQ ?_
              obtain rfl:=sy h25
              exact bI (rs':=[.tmp 2]) r<|bX (v:=aI) r<|bG<|aP [] r r r lr aC
             ·
              refine aH<|aN r (cC r r)<|sB r<|aG (fr':=[(30,aB)]) r r<|cN h25 r (fun b27 h27=>?_) (fun b27 h27=>?_)
              ·
               refine aH<|sI r<|aG (fr':=[(2,aI)]) r r<|bJ<|bM<|aQ ?_
               obtain rfl:=sy h27
               exact bI (rs':=[.tmp 2]) r<|bX (v:=aI) r<|bG<|aP [] r r r lr aC
              ·
               refine bL<|dH<|cY<|aH<|sI r<|aG (fr':=[(2,aI)]) r r<|bJ ?_
               obtain rfl:=sy h27
               exact bI (rs':=[.tmp 2]) r<|bX (v:=aI) r<|bG<|aP [] r r r lr aC
noncomputable def xH (dG:Int):Option kE :=
 cond (decide (dG=1)) (some (kE.mk true true false false true true)) (((cond (decide (dG=2)) (some (decide (dG=2))) (some (decide (dG=4)))):Option Bool).bind fun x3=>(cond x3 (some (kE.mk true false false false false false)) (cond (decide (dG=3)) (some (kE.mk true false false true false false)) (cond (decide (dG=5)) (some (kE.mk true true true true true false)) (cond (decide (dG=6)) (some (kE.mk true true true false true false)) (cond (decide (dG=7)) (some (kE.mk false true false true true false)) (cond (decide (dG=8)) (some (kE.mk false true true false true false)) (cond (decide (dG=9)) (some (kE.mk false false true true true false)) (cond (decide (dG=12)) (some (kE.mk false true false false true false)) (some (kE.mk false false false false true false)))))))))))
theorem aHX {dG:Int}{z:kE} (h:xH dG=some z):cR Tryz.prog 164 [ci dG] [] (.agg (AV.cs (aEJ z))) []:=by
 unfold xH at h
 refine dQ (fn:=Tryz.f164) [0,2,3,4,7,11,14,17,20,23,26,29] (by kernel_rfl) Tryz.func164 r (by kernel_rfl) (by kernel_rfl)<|aH<|jT (n:=0) (cs:=eY) (σ':=[eY]) aSN r r r<|aG (fr':=[(0,aI),(2,aD)]) r r<|aU<|aH<|mI r<|aG (fr':=[(2,aD),(3,aI)]) r r<|cE<|aU<|bA<|aN r (cC r r)<|sB r<|aG (fr':=[(2,aD),(3,aI),(4,aB)]) r r<|cN h r (fun b1 h1=>?_) (fun b1 h1=>?_)
 ·
  refine aH<|aN r (gD (cs:=eY) aFE r)<|cD (v:=.agg eY) (us:=eY) (cs:=eY) (σ':=[eY]) r yU r r r r r r r r<|aG (fr':=[(2,aD)]) r r<|bJ<|bM<|aQ ?_
  obtain rfl:=sy h1
  exact bI (rs':=[.cell 2 160]) r<|eN (us:=eY) (cs:=eY) yU r r r r<|bG<|aP [] r r r (bQ r kR6) aC
 ·
  obtain ⟨x3,y3,h4⟩:=lB h1
  refine jR (fun j5=>x3=j5) (fun (j5:Bool)=>([(2,aD),(3,ci dG),(7,.c (.bool j5))]:Fr)) (fun (j5:Bool)=>([[.c (.bool false),.c (.bool false),.c (.bool false),.c (.bool false),.c (.bool false),.c (.bool false)]]:St)) ?_ ?_
  ·
   refine aH<|aN r (cC r r)<|sB r<|aG (fr':=[(2,aD),(3,aI),(7,aB)]) r r<|cN y3 r (fun b6 h6=>?_) (fun b6 h6=>?_)
   ·
    exact bL<|kI _ (sy h6) (bH [] 1 r r r r lG (cV r aC))
   ·
    exact bA<|aN r (cC r r)<|sB r<|dT (fr':=[(2,aD),(3,aI),(7,aB)]) r<|kI _ (sy h6) (bH [] 1 r r r r lG (cV r aC))
  ·
   intro j5 hj7
   subst hj7
   refine cN h4 r (fun b8 h8=>?_) (fun b8 h8=>?_)
   ·
    refine aH<|aN r (gD (cs:=eY) aFE r)<|cD (v:=.agg eY) (us:=eY) (cs:=eY) (σ':=[eY]) r yU r r r r r r r r<|aG (fr':=[(2,aD)]) r r<|bJ<|bM<|aQ ?_
    obtain rfl:=sy h8
    exact bI (rs':=[.cell 2 160]) r<|eN (us:=eY) (cs:=eY) yU r r r r<|bG<|aP [] r r r (bQ r kR6) aC
   ·
    refine aH<|aN r (cC r r)<|sB r<|aG (fr':=[(2,aD),(3,aI),(11,aB)]) r r<|cN h8 r (fun b10 h10=>?_) (fun b10 h10=>?_)
    ·
     refine aH<|aN r (gD (cs:=eY) aFE r)<|cD (v:=.agg eY) (us:=eY) (cs:=eY) (σ':=[eY]) r yU r r r r r r r r<|aG (fr':=[(2,aD)]) r r<|bJ<|bM<|aQ ?_
     obtain rfl:=sy h10
     exact bI (rs':=[.cell 2 160]) r<|eN (us:=eY) (cs:=eY) yU r r r r<|bG<|aP [] r r r (bQ r kR6) aC
    ·
     refine aH<|aN r (cC r r)<|sB r<|aG (fr':=[(2,aD),(3,aI),(14,aB)]) r r<|cN h10 r (fun b12 h12=>?_) (fun b12 h12=>?_)
     ·
      refine aH<|aN r (gD (cs:=eY) aFE r)<|cD (v:=.agg eY) (us:=eY) (cs:=eY) (σ':=[eY]) r yU r r r r r r r r<|aG (fr':=[(2,aD)]) r r<|bJ<|bM<|aQ ?_
      obtain rfl:=sy h12
      exact bI (rs':=[.cell 2 160]) r<|eN (us:=eY) (cs:=eY) yU r r r r<|bG<|aP [] r r r (bQ r kR6) aC
     ·
      refine aH<|aN r (cC r r)<|sB r<|aG (fr':=[(2,aD),(3,aI),(17,aB)]) r r<|cN h12 r (fun b14 h14=>?_) (fun b14 h14=>?_)
      ·
       refine aH<|aN r (gD (cs:=eY) aFE r)<|cD (v:=.agg eY) (us:=eY) (cs:=eY) (σ':=[eY]) r yU r r r r r r r r<|aG (fr':=[(2,aD)]) r r<|bJ<|bM<|aQ ?_
       obtain rfl:=sy h14
       exact bI (rs':=[.cell 2 160]) r<|eN (us:=eY) (cs:=eY) yU r r r r<|bG<|aP [] r r r (bQ r kR6) aC
      ·
       refine aH<|aN r (cC r r)<|sB r<|aG (fr':=[(2,aD),(3,aI),(20,aB)]) r r<|cN h14 r (fun b16 h16=>?_) (fun b16 h16=>?_)
       ·
        refine aH<|aN r (gD (cs:=eY) aFE r)<|cD (v:=.agg eY) (us:=eY) (cs:=eY) (σ':=[eY]) r yU r r r r r r r r<|aG (fr':=[(2,aD)]) r r<|bJ<|bM<|aQ ?_
        obtain rfl:=sy h16
        exact bI (rs':=[.cell 2 160]) r<|eN (us:=eY) (cs:=eY) yU r r r r<|bG<|aP [] r r r (bQ r kR6) aC
       ·
        refine aH<|aN r (cC r r)<|sB r<|aG (fr':=[(2,aD),(3,aI),(23,aB)]) r r<|cN h16 r (fun b18 h18=>?_) (fun b18 h18=>?_)
        ·
         refine aH<|aN r (gD (cs:=eY) aFE r)<|cD (v:=.agg eY) (us:=eY) (cs:=eY) (σ':=[eY]) r yU r r r r r r r r<|aG (fr':=[(2,aD)]) r r<|bJ<|bM<|aQ ?_
         obtain rfl:=sy h18
         exact bI (rs':=[.cell 2 160]) r<|eN (us:=eY) (cs:=eY) yU r r r r<|bG<|aP [] r r r (bQ r kR6) aC
        ·
         refine aH<|aN r (cC r r)<|sB r<|aG (fr':=[(2,aD),(3,aI),(26,aB)]) r r<|cN h18 r (fun b20 h20=>?_) (fun b20 h20=>?_)
         ·
          refine aH<|aN r (gD (cs:=eY) aFE r)<|cD (v:=.agg eY) (us:=eY) (cs:=eY) (σ':=[eY]) r yU r r r r r r r r<|aG (fr':=[(2,aD)]) r r<|bJ<|bM<|aQ ?_
          obtain rfl:=sy h20
          exact bI (rs':=[.cell 2 160]) r<|eN (us:=eY) (cs:=eY) yU r r r r<|bG<|aP [] r r r (bQ r kR6) aC
         ·
          refine aH<|aN r (cC r r)<|sB r<|aG (fr':=[(2,aD),(29,aB)]) r r<|cN h20 r (fun b22 h22=>?_) (fun b22 h22=>?_)
          ·
           refine aH<|aN r (gD (cs:=eY) aFE r)<|cD (v:=.agg eY) (us:=eY) (cs:=eY) (σ':=[eY]) r yU r r r r r r r r<|aG (fr':=[(2,aD)]) r r<|bJ<|bM<|aQ ?_
           obtain rfl:=sy h22
           exact bI (rs':=[.cell 2 160]) r<|eN (us:=eY) (cs:=eY) yU r r r r<|bG<|aP [] r r r (bQ r kR6) aC
          ·
           refine bL<|dH<|cY<|aH<|aN r (gD (cs:=eY) aFE r)<|cD (v:=.agg eY) (us:=eY) (cs:=eY) (σ':=[eY]) r yU r r r r r r r r<|aG (fr':=[(2,aD)]) r r<|bJ ?_
           obtain rfl:=sy h22
           exact bI (rs':=[.cell 2 160]) r<|eN (us:=eY) (cs:=eY) yU r r r r<|bG<|aP [] r r r (bQ r kR6) aC
noncomputable def nI (aCe:(List (List UInt8))) (aDH:(List (List UInt8))) (s6:Int):Option (dU Int (Fl Bool Unit)) :=
 cond (decide (s6<((aCe).length:Int))) ((mP aCe s6).bind fun x8=>(mP aDH s6).bind fun x10=>cond (!decide (x8=x10)) (some (dU.out (Fl.done false))) (some (dU.next (IntKind.wrap .i64 (s6+1))))) (some (dU.out (Fl.go ())))
noncomputable def lC (aCe:(List (List UInt8))) (aDH:(List (List UInt8))):Option Bool :=
 cond (!decide (((aCe).length:Int)=((aDH).length:Int))) (some false) ((gL (nI aCe aDH) (0)).bind fun x3=>Fl.next x3 (fun j5=>(some true)))
theorem wH {aCe:(List (List UInt8))}{aDH:(List (List UInt8))}{z:Bool} (h:lC aCe aDH=some z):cR Tryz.prog 171 [.c (PV.ls 1 fZ aCe),.c (PV.ls 1 fZ aDH)] [] (.c (.bool z)) []:=by
 unfold lC at h
 refine dQ (fn:=Tryz.f171) [0,1,4,5,10,12,13,14,24] (by kernel_rfl) Tryz.func171 r (by kernel_rfl) (by kernel_rfl)<|aH<|sB r<|aG (fr':=[(0,aL),(1,aL)]) r r<|aU<|aH<|mL r<|aN r (gQ yZ (eD r))<|mL r<|aN r (gQ yZ (eD r))<|aN r (iY r r)<|aG (fr':=[(0,aL),(1,aL),(10,aB)]) r r<|cN h r (fun b1 h1=>?_) (fun b1 h1=>?_)
 ·
  refine aH<|sB r<|aG (fr':=[(4,aB)]) r r<|bJ<|aQ ?_
  obtain rfl:=sy h1
  exact bI (rs':=[.tmp 4]) r<|bX (v:=aB) r<|bG<|aP [] r r r lr aC
 ·
  refine bL<|cY<|aU<|aH<|mL r<|aN r (gQ yZ (eD r))<|mI r<|aG (fr':=[(0,aL),(1,aL),(12,aI),(13,aI)]) r r<|bx h1 fun x3 y3 h4=>gY kS (fun j5=>x3=Fl.go j5) (fun (j5:Unit)=>([]:Fr)) (fun (j5:Unit)=>([]:St)) ?_ ?_
  ·
   refine cE<|gU _ (fun (s6:Int)=>([(0,.c (PV.ls 1 fZ aCe)),(1,.c (PV.ls 1 fZ aDH)),(12,ci ((aCe).length:Int)),(13,ci s6)]:Fr)) (fun (s6:Int)=>([]:St)) y3 (bH [] 0 r r r r kL4 aC) ?_
   intro s6 st6 hs6 ho6
   unfold nI at hs6
   refine aH<|aN r (gC r r)<|aG (fr':=[(0,aL),(1,aL),(12,aI),(13,aI),(14,aB)]) r r<|aU<|cN hs6 r (fun b7 h7=>?_) (fun b7 h7=>?_)
   ·
    refine bL<|cY<|aU<|cE<|aH<|mI r<|sI r<|aG (fr':=[(0,aL),(1,aL),(5,aI),(12,aI),(13,aI)]) r r<|aU<|mW [.q 0,.q 1,.q 2,.q 3,.q 4,.q 5,.q 6,.q 7,.q 8] [(some 16,[0]),(some 17,[5]),(some 18,[16,17]),(some 19,[18]),(some 20,[1]),(some 21,[5]),(some 22,[20,21]),(some 23,[22]),(some 24,[19,23])] [0,0,3,7,0,0,48,112,255] (by kernel_rfl)<|dq r r (bS (v:=aL) r)<|dq r r (bS (v:=aI) r)<|bx h7 fun x8 y8 h9=>dq r r (lT (cs:=[PV.str _]) aBI (eD r) r y8 r)<|dq r r (iO (p:=PV.str _) mG r r)<|dq r r (bS (v:=aL) r)<|dq r r (bS (v:=aI) r)<|bx h9 fun x10 y10 h11=>dq r r (lT (cs:=[PV.str _]) aBI (eD r) r y10 r)<|dq r r (iO (p:=PV.str _) mG r r)<|dq r r (vK r r)<|aBl (fr':=[(0,aL),(1,aL),(12,aI),(13,aI),(24,aB)]) r r<|cN h11 r (fun b12 h12=>?_) (fun b12 h12=>?_)
    ·
     refine aH<|sB r<|aG (fr':=[(4,aB)]) r r<|bJ<|bM<|aQ<|aQ<|bM<|aQ<|aQ ?_
     have h13:=eZ h12 ho6
     have h14:=gT h13 h4
     obtain rfl:=sy h14
     exact bI (rs':=[.tmp 4]) r<|bX (v:=aB) r<|bG<|aP [] r r r lr aC
    ·
     exact bL<|dH<|cY<|bA<|aN r (fY r r)<|mI r<|dT (fr':=[(0,aL),(1,aL),(12,aI),(13,aI),(24,aB)]) r<|e_l _ (sy h12) (bH [] 0 r r r r kL4 aC)
   ·
    refine iA<|cX<|cX<|fS ?_
    have h16:=eZ h7 ho6
    exact kI _ (sy h16) (bH [] 0 r r r r trivial aC)
  ·
   intro j5 hj17
   have h17:=mY hj17 h4
   refine cY<|aH<|sB r<|aG (fr':=[(4,aB)]) r r<|bJ ?_
   obtain rfl:=sy h17
   exact bI (rs':=[.tmp 4]) r<|bX (v:=aB) r<|bG<|aP [] r r r lr aC
noncomputable def fX (aJX:aK→aK→Option Bool) (aCe:(List aK)) (aDH:(List aK)) (s6:Int):Option (dU Int (Fl Bool Unit)) :=
 cond (decide (s6<((aCe).length:Int))) ((mP aCe s6).bind fun x8=>(mP aDH s6).bind fun x10=>(aJX x8 x10).bind fun x12=>cond (!x12) (some (dU.out (Fl.done false))) (some (dU.next (IntKind.wrap .i64 (s6+1))))) (some (dU.out (Fl.go ())))
mutual
noncomputable def eL:Nat→(List aK)→(List aK)→Option Bool
 | 0,_,_=>none
 | n+1,aCe,aDH =>
  cond (!decide (((aCe).length:Int)=((aDH).length:Int))) (some false) ((gL (fX (yC n) aCe aDH) (0)).bind fun x3=>Fl.next x3 (fun j5=>(some true)))
noncomputable def yC:Nat→aK→aK→Option Bool
 | 0,_,_=>none
 | n+1,p0a,p1b =>
  (gd ((cond (cond (decide (p0a.Kind=p1b.Kind)) (decide (p0a.Int=p1b.Int)) false) (decide (p0a.Text=p1b.Text)) false)==true) (lC p0a.Keys p1b.Keys)).bind fun x1=>(gd ((cond (cond (cond (decide (p0a.Kind=p1b.Kind)) (decide (p0a.Int=p1b.Int)) false) (decide (p0a.Text=p1b.Text)) false) x1 false)==true) ((eL n) p0a.Items p1b.Items)).bind fun x3=>some (cond (cond (cond (cond (decide (p0a.Kind=p1b.Kind)) (decide (p0a.Int=p1b.Int)) false) (decide (p0a.Text=p1b.Text)) false) x1 false) x3 false)
end
theorem nG:∀ n:Nat,(∀ {aCe:(List aK)}{aDH:(List aK)}{z:Bool},eL n aCe aDH=some z→cR Tryz.prog 172 [.c (PV.ls 5 bO aCe),.c (PV.ls 5 bO aDH),.fn 116 []] [] (.c (.bool z)) [])∧(∀ {p0a:aK}{p1b:aK}{z:Bool},yC n p0a p1b=some z→cR Tryz.prog 116 [.agg (AV.cs (fA p0a)),.agg (AV.cs (fA p1b))] [] (.c (.bool z)) []):=by
 intro n
 induction n with
 | zero=>exact ⟨fun {aCe aDH z} h=>absurd h (by simp [eL]),fun {p0a p1b z} h=>absurd h (by simp [yC])⟩
 | succ n ih =>
  obtain ⟨ih_slices_EqualFunc_api_Value_api_Value_api_Value_api_Value_value_Same,ih_value_Same⟩:=ih
  refine ⟨?_,?_⟩
  ·
   intro aCe aDH z h
   rw [eL] at h
   refine dQ (fn:=Tryz.f172) [0,1,2,6,7,8,9,14,15,16,17,18,30] (by kernel_rfl) Tryz.func172 r (by kernel_rfl) (by kernel_rfl)<|aH<|sB r<|aG (fr':=[(0,aL),(1,aL),(2,.fn _ [])]) r r<|aU<|aH<|mL r<|aN r (gQ vC (eD r))<|mL r<|aN r (gQ vC (eD r))<|aN r (iY r r)<|aG (fr':=[(0,aL),(1,aL),(2,.fn _ []),(14,aB)]) r r<|cN h r (fun b1 h1=>?_) (fun b1 h1=>?_)
   ·
    refine aH<|sB r<|aG (fr':=[(6,aB)]) r r<|bJ<|aQ ?_
    obtain rfl:=sy h1
    exact bI (rs':=[.tmp 6]) r<|bX (v:=aB) r<|bG<|aP [] r r r lr aC
   ·
    refine bL<|cY<|aU<|aH<|mL r<|aN r (gQ vC (eD r))<|mI r<|aG (fr':=[(1,aL),(2,.fn _ []),(15,aL),(16,aI),(17,aI)]) r r<|bx h1 fun x3 y3 h4=>gY kS (fun j5=>x3=Fl.go j5) (fun (j5:Unit)=>([]:Fr)) (fun (j5:Unit)=>([]:St)) ?_ ?_
    ·
     refine cE<|gU _ (fun (s6:Int)=>([(1,.c (PV.ls 5 bO aDH)),(2,.fn 116 []),(15,.c (PV.ls 5 bO aCe)),(16,ci ((aCe).length:Int)),(17,ci s6)]:Fr)) (fun (s6:Int)=>([]:St)) y3 (bH [] 0 r r r r kL5 aC) ?_
     intro s6 st6 hs6 ho6
     unfold fX at hs6
     refine aH<|aN r (gC r r)<|aG (fr':=[(1,aL),(2,.fn _ []),(15,aL),(16,aI),(17,aI),(18,aB)]) r r<|aU<|cN hs6 r (fun b7 h7=>?_) (fun b7 h7=>?_)
     ·
      refine bL<|cY<|aU<|cE<|aH<|mI r<|bx h7 fun x8 y8 h9=>aN r (lT (cs:=[PV.int _ _,PV.int _ _,PV.str _,PV.ls _ _ _,PV.ls _ _ _]) uW (eD r) r y8 (eA _))<|aN r (kT (us:=[PV.int _ _,PV.int _ _,PV.str _,PV.ls _ _ _,PV.ls _ _ _]) jC r r r)<|jT (n:=0) (cs:=dF) (σ':=[dF]) aG8 r r r<|sI r<|cD (v:=.agg cH) (us:=cH) (cs:=dF) (σ':=[cH]) r jC r r r r r r r r<|aG (fr':=[(1,aL),(2,.fn _ []),(7,aI),(8,aD),(15,aL),(16,aI),(17,aI)]) r r<|aH<|mL r<|mI r<|bx h9 fun x10 y10 h11=>aN r (lT (cs:=[PV.int _ _,PV.int _ _,PV.str _,PV.ls _ _ _,PV.ls _ _ _]) uW (eD r) r y10 (eA _))<|aN r (kT (us:=[PV.int _ _,PV.int _ _,PV.str _,PV.ls _ _ _,PV.ls _ _ _]) jC r r r)<|jT (n:=1) (cs:=dF) (σ':=[cH,dF]) aG8 r r r<|cD (v:=.agg cH) (us:=cH) (cs:=dF) (σ':=[cH,cH]) r jC r r r r r r r r<|aG (fr':=[(1,aL),(2,.fn _ []),(8,aD),(9,bK),(15,aL),(16,aI),(17,aI)]) r r<|aH<|mV (v:=.fn _ []) r<|aN r (dN (us:=cH) jC r r r r)<|aN r (dN (us:=cH) jC r r r r)<|bx h11 fun x12 y12 h13=>kB (bC (v:=aB) r (ih_value_Same y12) ⟨(bQ r zA),(bQ r zA),trivial⟩ r r r)<|aN r (fP r)<|aG (fr':=[(1,aL),(2,.fn _ []),(15,aL),(16,aI),(17,aI),(30,aB)]) r r<|cN h13 r (fun b14 h14=>?_) (fun b14 h14=>?_)
      ·
       refine aH<|sB r<|aG (fr':=[(6,aB)]) r r<|bJ<|bM<|aQ<|aQ<|bM<|aQ<|aQ ?_
       have h15:=eZ h14 ho6
       have h16:=gT h15 h4
       obtain rfl:=sy h16
       exact bI (rs':=[.tmp 6]) r<|bX (v:=aB) r<|bG<|aP [] r r r lr aC
      ·
       exact bL<|dH<|cY<|bA<|aN r (fY r r)<|mI r<|dT (fr':=[(1,aL),(2,.fn _ []),(15,aL),(16,aI),(17,aI),(30,aB)]) r<|e_l _ (sy h14) (bH [] 0 r r r r kL5 aC)
     ·
      refine iA<|cX<|cX<|fS ?_
      have h18:=eZ h7 ho6
      exact kI _ (sy h18) (bH [] 0 r r r r trivial aC)
    ·
     intro j5 hj19
     have h19:=mY hj19 h4
     refine cY<|aH<|sB r<|aG (fr':=[(6,aB)]) r r<|bJ ?_
     obtain rfl:=sy h19
     exact bI (rs':=[.tmp 6]) r<|bX (v:=aB) r<|bG<|aP [] r r r lr aC
  ·
   intro p0a p1b z h
   rw [yC] at h
   refine dQ (fn:=Tryz.f116) [0,1,2,3,4] (by kernel_rfl) Tryz.func116 r (by kernel_rfl) (by kernel_rfl)<|aH<|iR (v:=.agg cH) (n:=0) (cs:=cH) (σ':=[cH]) r r r r r<|iR (v:=.agg cH) (n:=1) (cs:=cH) (σ':=[cH,cH]) r r r r r<|sB r<|aG (fr':=[(2,aD),(3,bK)]) r r<|aH<|aN r (bE lU r)<|aN r (aJ (v:=aI) gA r r r)<|aN r (bE lU r)<|aN r (aJ (v:=aI) gA r r r)<|aN r (cC r r)<|mB r<|og r r r (fun u=>(bE tY r))<|og r r r (fun u=>(aJ (v:=aI) gA (gx r u) r r))<|og r r r (fun u=>(bE tY r))<|og r r r (fun u=>(aJ (v:=aI) gA (gx r u) r r))<|og r r r (fun u=>(cC (gx r u) (gx r u)))<|aN r (cB r r r (fun e=>fU e))<|mB r<|og r r r (fun u=>(bE tZ r))<|og r r r (fun u=>(aJ (v:=aS) mG (gx r u) r r))<|og r r r (fun u=>(bE tZ r))<|og r r r (fun u=>(aJ (v:=aS) mG (gx r u) r r))<|og r r r (fun u=>(qZ (gx r u) (gx r u)))<|aN r (cB r r r (fun e=>fU e))<|mB r<|og r r r (fun u=>(bE qJ r))<|og r r r (fun u=>(aJ (v:=aL) sE (gx r u) r r))<|og r r r (fun u=>(bE qJ r))<|og r r r (fun u=>(aJ (v:=aL) sE (gx r u) r r))<|bx h fun x1 y1 h2=>uP r r (fun u=>bC (v:=aB) r (wH (cZ y1 u)) ⟨(fH (gx r u) lr),(fH (gx r u) lr),trivial⟩ (gO (by repeat (first | exact fC | refine aZ r ?_ | refine aZ (rG r) ?_ | refine aZ rF ?_))) r r) ?_
   refine aN r (cB r r r (fun e=>fU e))<|mB r<|og r r r (fun u=>(bE iH r))<|og r r r (fun u=>(aJ (v:=aL) nJ (gx r u) r r))<|og r r r (fun u=>(bE iH r))<|og r r r (fun u=>(aJ (v:=aL) nJ (gx r u) r r))<|bx h2 fun x3 y3 h4=>uP r r (fun u=>bC (v:=aB) r (ih_slices_EqualFunc_api_Value_api_Value_api_Value_api_Value_value_Same (cZ y3 u)) ⟨(fH (gx r u) lr),(fH (gx r u) lr),lr,trivial⟩ (gO (by repeat (first | exact fC | refine aZ r ?_ | refine aZ (rG r) ?_ | refine aZ rF ?_))) r r) ?_
   refine aN r (cB r r r (fun e=>fU e))<|sB r<|aG (fr':=[(4,aB)]) r r<|bJ ?_
   obtain rfl:=sy h4
   exact bI (rs':=[.tmp 4]) r<|bX (v:=aB) r<|bG<|aP [] r r r lr aC
noncomputable def aCA (p0a:aK) (p1b:aK):Option Bool:=lim fun n=>yC n p0a p1b
theorem aDY {p0a:aK}{p1b:aK}{z:Bool} (h:aCA p0a p1b=some z):cR Tryz.prog 116 [.agg (AV.cs (fA p0a)),.agg (AV.cs (fA p1b))] [] (.c (.bool z)) []:=by
 obtain ⟨n,hn⟩:=rI h
 exact (nG n).2 hn
noncomputable def nS (p0a:dR) (p1b:dR):Option Bool :=
 (qY p0a).bind fun x1=>(qY p1b).bind fun x4=>cond (!decide (p0a.ToStart=p1b.ToStart)) (some false) (cond (!decide (p0a.ToClose=p1b.ToClose)) (some false) (cond (!decide (p0a.Total=p1b.Total)) (some false) (cond (!decide (p0a.Beat=p1b.Beat)) (some false) (cond (!decide (p0a.First=p1b.First)) (some false) (cond (!decide (p0a.Coef=p1b.Coef)) (some false) (cond (!decide (p0a.Most=p1b.Most)) (some false) (cond (!decide (p0a.Attempts=p1b.Attempts)) (some false) ((gd ((decide (p0a.Queue=p1b.Queue))==true) (lC p0a.Fatal p1b.Fatal)).bind fun x23=>some (cond (decide (p0a.Queue=p1b.Queue)) x23 false)))))))))
theorem yE {p0a:dR}{p1b:dR}{z:Bool} (h:nS p0a p1b=some z):cR Tryz.prog 117 [.agg (AV.cs (lP p0a)),.agg (AV.cs (lP p1b))] [] (.c (.bool z)) []:=by
 unfold nS at h
 refine dQ (fn:=Tryz.f117) [0,1,2,3,4,5,6,7,11,12,13,27] (by kernel_rfl) Tryz.func117 r (by kernel_rfl) (by kernel_rfl)<|aH<|iR (v:=.agg dE) (n:=0) (cs:=dE) (σ':=[dE]) r r r r r<|iR (v:=.agg dE) (n:=1) (cs:=dE) (σ':=[dE,dE]) r r r r r<|sB r<|aG (fr':=[(2,aD),(3,bK)]) r r<|aU<|bA<|bx h fun x1 y1 h2=>aCK (v:=.ptrs [(0,1),(0,2),(0,3),(0,4),(0,5),(0,6),(0,7),(0,8)]) (σ':=[dE,dE]) 8 [0] [] r (aAQ y1) r r r ⟨lr,trivial⟩ (hU zX aC) r r r<|bx h2 fun x4 y4 h5=>aCK (v:=.ptrs [(1,1),(1,2),(1,3),(1,4),(1,5),(1,6),(1,7),(1,8)]) (σ':=[dE,dE]) 9 [1] [] r (aAQ y4) r r r ⟨lr,trivial⟩ (hU zX aC) r r r<|sV (v:=.ptrs [(0,1),(0,2),(0,3),(0,4),(0,5),(0,6),(0,7),(0,8)]) r<|sV (v:=.ptrs [(1,1),(1,2),(1,3),(1,4),(1,5),(1,6),(1,7),(1,8)]) r<|aG (fr':=[(2,aD),(3,bK),(5,.ptrs [(0,1),(0,2),(0,3),(0,4),(0,5),(0,6),(0,7),(0,8)]),(6,.ptrs [(1,1),(1,2),(1,3),(1,4),(1,5),(1,6),(1,7),(1,8)])]) r r<|aU<|aH<|mV (v:=.ptrs [(0,1),(0,2),(0,3),(0,4),(0,5),(0,6),(0,7),(0,8)]) r<|aN r (aL6 aTU r)<|mI r<|aG (fr':=[(2,aD),(3,bK),(5,.ptrs [(0,1),(0,2),(0,3),(0,4),(0,5),(0,6),(0,7),(0,8)]),(6,.ptrs [(1,1),(1,2),(1,3),(1,4),(1,5),(1,6),(1,7),(1,8)]),(11,aI),(12,aI)]) r r<|cE<|aQe 64<|xM<|aH<|aN r (zB (gC r r) (show _=.bool true from r))<|aG (fr':=[(2,aD),(3,bK),(5,.ptrs [(0,1),(0,2),(0,3),(0,4),(0,5),(0,6),(0,7),(0,8)]),(6,.ptrs [(1,1),(1,2),(1,3),(1,4),(1,5),(1,6),(1,7),(1,8)]),(11,aI),(12,aI),(13,aB)]) r r<|aU<|kD r<|bL<|cY<|aU<|cE<|aU<|bA<|mI r<|sI r<|aG (fr':=[(2,aD),(3,bK),(5,.ptrs [(0,1),(0,2),(0,3),(0,4),(0,5),(0,6),(0,7),(0,8)]),(6,.ptrs [(1,1),(1,2),(1,3),(1,4),(1,5),(1,6),(1,7),(1,8)]),(7,aI),(11,aI),(12,aI)]) r r<|aU<|mW [.q 0,.q 1,.q 2,.q 3,.q 4,.q 5,.q 6,.q 7,.q 8,.q 9,.q 10,.q 11,.q 12] [(some 15,[5]),(some 16,[7]),(some 17,[15,16]),(some 18,[17]),(some 19,[18]),(some 20,[19]),(some 21,[6]),(some 22,[7]),(some 23,[21,22]),(some 24,[23]),(some 25,[24]),(some 26,[25]),(some 27,[20,26])] [0,0,3,7,15,31,0,0,192,448,960,1984,4095] (by kernel_rfl)<|dq r r (bS (v:=.ptrs [(0,1),(0,2),(0,3),(0,4),(0,5),(0,6),(0,7),(0,8)]) r)<|dq r r (bS (v:=aI) r)<|dq r r (oL (p:=(0,1)) uE r r r)<|dq r r (jV vQ r)<|dq r r (kJ r)<|dq r r (aJ (v:=aI) gA r r r)<|dq r r (bS (v:=.ptrs [(1,1),(1,2),(1,3),(1,4),(1,5),(1,6),(1,7),(1,8)]) r)<|dq r r (bS (v:=aI) r)<|dq r r (oL (p:=(1,1)) uE r r r)<|dq r r (jV vQ r)<|dq r r (kJ r)<|dq r r (aJ (v:=aI) gA r r r)<|dq r r (iY r r)<|aBl (fr':=[(2,aD),(3,bK),(5,.ptrs [(0,1),(0,2),(0,3),(0,4),(0,5),(0,6),(0,7),(0,8)]),(6,.ptrs [(1,1),(1,2),(1,3),(1,4),(1,5),(1,6),(1,7),(1,8)]),(11,aI),(12,aI),(27,aB)]) r r<|cN h5 r (fun b7 h7=>?_) (fun b7 h7=>?_)
 ·
  refine aH<|sB r<|aG (fr':=[(4,aB)]) r r<|bJ<|bM<|aQ<|aQ<|bM<|aQ ?_
  obtain rfl:=sy h7
  exact bI (rs':=[.tmp 4]) r<|bX (v:=aB) r<|bG<|aP [] r r r lr aC
 ·
  refine bL<|dH<|cY<|bA<|aN r (zB (fY r r) (show _=.int .i64 (1:Int) from r))<|mI r<|dT (fr':=[(2,aD),(3,bK),(5,.ptrs [(0,1),(0,2),(0,3),(0,4),(0,5),(0,6),(0,7),(0,8)]),(6,.ptrs [(1,1),(1,2),(1,3),(1,4),(1,5),(1,6),(1,7),(1,8)]),(11,aI),(12,aI),(27,aB)]) r<|lM<|xM<|aH<|aN r (zB (gC r r) (show _=.bool true from r))<|aG (fr':=[(2,aD),(3,bK),(5,.ptrs [(0,1),(0,2),(0,3),(0,4),(0,5),(0,6),(0,7),(0,8)]),(6,.ptrs [(1,1),(1,2),(1,3),(1,4),(1,5),(1,6),(1,7),(1,8)]),(11,aI),(12,aI),(13,aB)]) r r<|aU<|kD r<|bL<|cY<|aU<|cE<|aH<|mI r<|sI r<|aG (fr':=[(2,aD),(3,bK),(5,.ptrs [(0,1),(0,2),(0,3),(0,4),(0,5),(0,6),(0,7),(0,8)]),(6,.ptrs [(1,1),(1,2),(1,3),(1,4),(1,5),(1,6),(1,7),(1,8)]),(7,aI),(11,aI),(12,aI)]) r r<|aU<|mW [.q 0,.q 1,.q 2,.q 3,.q 4,.q 5,.q 6,.q 7,.q 8,.q 9,.q 10,.q 11,.q 12] [(some 15,[5]),(some 16,[7]),(some 17,[15,16]),(some 18,[17]),(some 19,[18]),(some 20,[19]),(some 21,[6]),(some 22,[7]),(some 23,[21,22]),(some 24,[23]),(some 25,[24]),(some 26,[25]),(some 27,[20,26])] [0,0,3,7,15,31,0,0,192,448,960,1984,4095] (by kernel_rfl)<|dq r r (bS (v:=.ptrs [(0,1),(0,2),(0,3),(0,4),(0,5),(0,6),(0,7),(0,8)]) r)<|dq r r (bS (v:=aI) r)<|dq r r (oL (p:=(0,2)) uE r r r)<|dq r r (jV vQ r)<|dq r r (kJ r)<|dq r r (aJ (v:=aI) gA r r r)<|dq r r (bS (v:=.ptrs [(1,1),(1,2),(1,3),(1,4),(1,5),(1,6),(1,7),(1,8)]) r)<|dq r r (bS (v:=aI) r)<|dq r r (oL (p:=(1,2)) uE r r r)<|dq r r (jV vQ r)<|dq r r (kJ r)<|dq r r (aJ (v:=aI) gA r r r)<|dq r r (iY r r)<|aBl (fr':=[(2,aD),(3,bK),(5,.ptrs [(0,1),(0,2),(0,3),(0,4),(0,5),(0,6),(0,7),(0,8)]),(6,.ptrs [(1,1),(1,2),(1,3),(1,4),(1,5),(1,6),(1,7),(1,8)]),(11,aI),(12,aI),(27,aB)]) r r<|cN h7 r (fun b9 h9=>?_) (fun b9 h9=>?_)
  ·
   refine aH<|sB r<|aG (fr':=[(4,aB)]) r r<|bJ<|bM<|aQ<|aQ<|bM<|aQ ?_
   obtain rfl:=sy h9
   exact bI (rs':=[.tmp 4]) r<|bX (v:=aB) r<|bG<|aP [] r r r lr aC
  ·
   refine bL<|dH<|cY<|bA<|aN r (zB (fY r r) (show _=.int .i64 (2:Int) from r))<|mI r<|dT (fr':=[(2,aD),(3,bK),(5,.ptrs [(0,1),(0,2),(0,3),(0,4),(0,5),(0,6),(0,7),(0,8)]),(6,.ptrs [(1,1),(1,2),(1,3),(1,4),(1,5),(1,6),(1,7),(1,8)]),(11,aI),(12,aI),(27,aB)]) r<|lM<|xM<|aH<|aN r (zB (gC r r) (show _=.bool true from r))<|aG (fr':=[(2,aD),(3,bK),(5,.ptrs [(0,1),(0,2),(0,3),(0,4),(0,5),(0,6),(0,7),(0,8)]),(6,.ptrs [(1,1),(1,2),(1,3),(1,4),(1,5),(1,6),(1,7),(1,8)]),(11,aI),(12,aI),(13,aB)]) r r<|aU<|kD r<|bL<|cY<|aU<|cE<|aH<|mI r<|sI r<|aG (fr':=[(2,aD),(3,bK),(5,.ptrs [(0,1),(0,2),(0,3),(0,4),(0,5),(0,6),(0,7),(0,8)]),(6,.ptrs [(1,1),(1,2),(1,3),(1,4),(1,5),(1,6),(1,7),(1,8)]),(7,aI),(11,aI),(12,aI)]) r r<|aU<|mW [.q 0,.q 1,.q 2,.q 3,.q 4,.q 5,.q 6,.q 7,.q 8,.q 9,.q 10,.q 11,.q 12] [(some 15,[5]),(some 16,[7]),(some 17,[15,16]),(some 18,[17]),(some 19,[18]),(some 20,[19]),(some 21,[6]),(some 22,[7]),(some 23,[21,22]),(some 24,[23]),(some 25,[24]),(some 26,[25]),(some 27,[20,26])] [0,0,3,7,15,31,0,0,192,448,960,1984,4095] (by kernel_rfl)<|dq r r (bS (v:=.ptrs [(0,1),(0,2),(0,3),(0,4),(0,5),(0,6),(0,7),(0,8)]) r)<|dq r r (bS (v:=aI) r)<|dq r r (oL (p:=(0,3)) uE r r r)<|dq r r (jV vQ r)<|dq r r (kJ r)<|dq r r (aJ (v:=aI) gA r r r)<|dq r r (bS (v:=.ptrs [(1,1),(1,2),(1,3),(1,4),(1,5),(1,6),(1,7),(1,8)]) r)<|dq r r (bS (v:=aI) r)<|dq r r (oL (p:=(1,3)) uE r r r)<|dq r r (jV vQ r)<|dq r r (kJ r)<|dq r r (aJ (v:=aI) gA r r r)<|dq r r (iY r r)<|aBl (fr':=[(2,aD),(3,bK),(5,.ptrs [(0,1),(0,2),(0,3),(0,4),(0,5),(0,6),(0,7),(0,8)]),(6,.ptrs [(1,1),(1,2),(1,3),(1,4),(1,5),(1,6),(1,7),(1,8)]),(11,aI),(12,aI),(27,aB)]) r r<|cN h9 r (fun b11 h11=>?_) (fun b11 h11=>?_)
   ·
    refine aH<|sB r<|aG (fr':=[(4,aB)]) r r<|bJ<|bM<|aQ<|aQ<|bM<|aQ ?_
    obtain rfl:=sy h11
    exact bI (rs':=[.tmp 4]) r<|bX (v:=aB) r<|bG<|aP [] r r r lr aC
   ·
    refine bL<|dH<|cY<|bA<|aN r (zB (fY r r) (show _=.int .i64 (3:Int) from r))<|mI r<|dT (fr':=[(2,aD),(3,bK),(5,.ptrs [(0,1),(0,2),(0,3),(0,4),(0,5),(0,6),(0,7),(0,8)]),(6,.ptrs [(1,1),(1,2),(1,3),(1,4),(1,5),(1,6),(1,7),(1,8)]),(11,aI),(12,aI),(27,aB)]) r<|lM<|xM<|aH<|aN r (zB (gC r r) (show _=.bool true from r))<|aG (fr':=[(2,aD),(3,bK),(5,.ptrs [(0,1),(0,2),(0,3),(0,4),(0,5),(0,6),(0,7),(0,8)]),(6,.ptrs [(1,1),(1,2),(1,3),(1,4),(1,5),(1,6),(1,7),(1,8)]),(11,aI),(12,aI),(13,aB)]) r r<|aU<|kD r<|bL<|cY<|aU<|cE<|aH<|mI r<|sI r<|aG (fr':=[(2,aD),(3,bK),(5,.ptrs [(0,1),(0,2),(0,3),(0,4),(0,5),(0,6),(0,7),(0,8)]),(6,.ptrs [(1,1),(1,2),(1,3),(1,4),(1,5),(1,6),(1,7),(1,8)]),(7,aI),(11,aI),(12,aI)]) r r<|aU<|mW [.q 0,.q 1,.q 2,.q 3,.q 4,.q 5,.q 6,.q 7,.q 8,.q 9,.q 10,.q 11,.q 12] [(some 15,[5]),(some 16,[7]),(some 17,[15,16]),(some 18,[17]),(some 19,[18]),(some 20,[19]),(some 21,[6]),(some 22,[7]),(some 23,[21,22]),(some 24,[23]),(some 25,[24]),(some 26,[25]),(some 27,[20,26])] [0,0,3,7,15,31,0,0,192,448,960,1984,4095] (by kernel_rfl)<|dq r r (bS (v:=.ptrs [(0,1),(0,2),(0,3),(0,4),(0,5),(0,6),(0,7),(0,8)]) r)<|dq r r (bS (v:=aI) r)<|dq r r (oL (p:=(0,4)) uE r r r)<|dq r r (jV vQ r)<|dq r r (kJ r)<|dq r r (aJ (v:=aI) gA r r r)<|dq r r (bS (v:=.ptrs [(1,1),(1,2),(1,3),(1,4),(1,5),(1,6),(1,7),(1,8)]) r)<|dq r r (bS (v:=aI) r)<|dq r r (oL (p:=(1,4)) uE r r r)<|dq r r (jV vQ r)<|dq r r (kJ r)<|dq r r (aJ (v:=aI) gA r r r)<|dq r r (iY r r)<|aBl (fr':=[(2,aD),(3,bK),(5,.ptrs [(0,1),(0,2),(0,3),(0,4),(0,5),(0,6),(0,7),(0,8)]),(6,.ptrs [(1,1),(1,2),(1,3),(1,4),(1,5),(1,6),(1,7),(1,8)]),(11,aI),(12,aI),(27,aB)]) r r<|cN h11 r (fun b13 h13=>?_) (fun b13 h13=>?_)
    ·
     refine aH<|sB r<|aG (fr':=[(4,aB)]) r r<|bJ<|bM<|aQ<|aQ<|bM<|aQ ?_
     obtain rfl:=sy h13
     exact bI (rs':=[.tmp 4]) r<|bX (v:=aB) r<|bG<|aP [] r r r lr aC
    ·
     refine bL<|dH<|cY<|bA<|aN r (zB (fY r r) (show _=.int .i64 (4:Int) from r))<|mI r<|dT (fr':=[(2,aD),(3,bK),(5,.ptrs [(0,1),(0,2),(0,3),(0,4),(0,5),(0,6),(0,7),(0,8)]),(6,.ptrs [(1,1),(1,2),(1,3),(1,4),(1,5),(1,6),(1,7),(1,8)]),(11,aI),(12,aI),(27,aB)]) r<|lM<|xM<|aH<|aN r (zB (gC r r) (show _=.bool true from r))<|aG (fr':=[(2,aD),(3,bK),(5,.ptrs [(0,1),(0,2),(0,3),(0,4),(0,5),(0,6),(0,7),(0,8)]),(6,.ptrs [(1,1),(1,2),(1,3),(1,4),(1,5),(1,6),(1,7),(1,8)]),(11,aI),(12,aI),(13,aB)]) r r<|aU<|kD r<|bL<|cY<|aU<|cE<|aH<|mI r<|sI r<|aG (fr':=[(2,aD),(3,bK),(5,.ptrs [(0,1),(0,2),(0,3),(0,4),(0,5),(0,6),(0,7),(0,8)]),(6,.ptrs [(1,1),(1,2),(1,3),(1,4),(1,5),(1,6),(1,7),(1,8)]),(7,aI),(11,aI),(12,aI)]) r r<|aU<|mW [.q 0,.q 1,.q 2,.q 3,.q 4,.q 5,.q 6,.q 7,.q 8,.q 9,.q 10,.q 11,.q 12] [(some 15,[5]),(some 16,[7]),(some 17,[15,16]),(some 18,[17]),(some 19,[18]),(some 20,[19]),(some 21,[6]),(some 22,[7]),(some 23,[21,22]),(some 24,[23]),(some 25,[24]),(some 26,[25]),(some 27,[20,26])] [0,0,3,7,15,31,0,0,192,448,960,1984,4095] (by kernel_rfl)<|dq r r (bS (v:=.ptrs [(0,1),(0,2),(0,3),(0,4),(0,5),(0,6),(0,7),(0,8)]) r)<|dq r r (bS (v:=aI) r)<|dq r r (oL (p:=(0,5)) uE r r r)<|dq r r (jV vQ r)<|dq r r (kJ r)<|dq r r (aJ (v:=aI) gA r r r)<|dq r r (bS (v:=.ptrs [(1,1),(1,2),(1,3),(1,4),(1,5),(1,6),(1,7),(1,8)]) r)<|dq r r (bS (v:=aI) r)<|dq r r (oL (p:=(1,5)) uE r r r)<|dq r r (jV vQ r)<|dq r r (kJ r)<|dq r r (aJ (v:=aI) gA r r r)<|dq r r (iY r r)<|aBl (fr':=[(2,aD),(3,bK),(5,.ptrs [(0,1),(0,2),(0,3),(0,4),(0,5),(0,6),(0,7),(0,8)]),(6,.ptrs [(1,1),(1,2),(1,3),(1,4),(1,5),(1,6),(1,7),(1,8)]),(11,aI),(12,aI),(27,aB)]) r r<|cN h13 r (fun b15 h15=>?_) (fun b15 h15=>?_)
     ·
      refine aH<|sB r<|aG (fr':=[(4,aB)]) r r<|bJ<|bM<|aQ<|aQ<|bM<|aQ ?_
      obtain rfl:=sy h15
      exact bI (rs':=[.tmp 4]) r<|bX (v:=aB) r<|bG<|aP [] r r r lr aC
     ·
      refine bL<|dH<|cY<|bA<|aN r (zB (fY r r) (show _=.int .i64 (5:Int) from r))<|mI r<|dT (fr':=[(2,aD),(3,bK),(5,.ptrs [(0,1),(0,2),(0,3),(0,4),(0,5),(0,6),(0,7),(0,8)]),(6,.ptrs [(1,1),(1,2),(1,3),(1,4),(1,5),(1,6),(1,7),(1,8)]),(11,aI),(12,aI),(27,aB)]) r<|lM<|xM<|aH<|aN r (zB (gC r r) (show _=.bool true from r))<|aG (fr':=[(2,aD),(3,bK),(5,.ptrs [(0,1),(0,2),(0,3),(0,4),(0,5),(0,6),(0,7),(0,8)]),(6,.ptrs [(1,1),(1,2),(1,3),(1,4),(1,5),(1,6),(1,7),(1,8)]),(11,aI),(12,aI),(13,aB)]) r r<|aU<|kD r<|bL<|cY<|aU<|cE<|aH<|mI r<|sI r<|aG (fr':=[(2,aD),(3,bK),(5,.ptrs [(0,1),(0,2),(0,3),(0,4),(0,5),(0,6),(0,7),(0,8)]),(6,.ptrs [(1,1),(1,2),(1,3),(1,4),(1,5),(1,6),(1,7),(1,8)]),(7,aI),(11,aI),(12,aI)]) r r<|aU<|mW [.q 0,.q 1,.q 2,.q 3,.q 4,.q 5,.q 6,.q 7,.q 8,.q 9,.q 10,.q 11,.q 12] [(some 15,[5]),(some 16,[7]),(some 17,[15,16]),(some 18,[17]),(some 19,[18]),(some 20,[19]),(some 21,[6]),(some 22,[7]),(some 23,[21,22]),(some 24,[23]),(some 25,[24]),(some 26,[25]),(some 27,[20,26])] [0,0,3,7,15,31,0,0,192,448,960,1984,4095] (by kernel_rfl)<|dq r r (bS (v:=.ptrs [(0,1),(0,2),(0,3),(0,4),(0,5),(0,6),(0,7),(0,8)]) r)<|dq r r (bS (v:=aI) r)<|dq r r (oL (p:=(0,6)) uE r r r)<|dq r r (jV vQ r)<|dq r r (kJ r)<|dq r r (aJ (v:=aI) gA r r r)<|dq r r (bS (v:=.ptrs [(1,1),(1,2),(1,3),(1,4),(1,5),(1,6),(1,7),(1,8)]) r)<|dq r r (bS (v:=aI) r)<|dq r r (oL (p:=(1,6)) uE r r r)<|dq r r (jV vQ r)<|dq r r (kJ r)<|dq r r (aJ (v:=aI) gA r r r)<|dq r r (iY r r)<|aBl (fr':=[(2,aD),(3,bK),(5,.ptrs [(0,1),(0,2),(0,3),(0,4),(0,5),(0,6),(0,7),(0,8)]),(6,.ptrs [(1,1),(1,2),(1,3),(1,4),(1,5),(1,6),(1,7),(1,8)]),(11,aI),(12,aI),(27,aB)]) r r<|cN h15 r (fun b17 h17=>?_) (fun b17 h17=>?_)
      ·
       refine aH<|sB r<|aG (fr':=[(4,aB)]) r r<|bJ<|bM<|aQ<|aQ<|bM<|aQ ?_
       obtain rfl:=sy h17
       exact bI (rs':=[.tmp 4]) r<|bX (v:=aB) r<|bG<|aP [] r r r lr aC
      ·
       refine bL<|dH<|cY<|bA<|aN r (zB (fY r r) (show _=.int .i64 (6:Int) from r))<|mI r<|dT (fr':=[(2,aD),(3,bK),(5,.ptrs [(0,1),(0,2),(0,3),(0,4),(0,5),(0,6),(0,7),(0,8)]),(6,.ptrs [(1,1),(1,2),(1,3),(1,4),(1,5),(1,6),(1,7),(1,8)]),(11,aI),(12,aI),(27,aB)]) r<|lM<|xM<|aH<|aN r (zB (gC r r) (show _=.bool true from r))<|aG (fr':=[(2,aD),(3,bK),(5,.ptrs [(0,1),(0,2),(0,3),(0,4),(0,5),(0,6),(0,7),(0,8)]),(6,.ptrs [(1,1),(1,2),(1,3),(1,4),(1,5),(1,6),(1,7),(1,8)]),(11,aI),(12,aI),(13,aB)]) r r<|aU<|kD r<|bL<|cY<|aU<|cE<|aH<|mI r<|sI r<|aG (fr':=[(2,aD),(3,bK),(5,.ptrs [(0,1),(0,2),(0,3),(0,4),(0,5),(0,6),(0,7),(0,8)]),(6,.ptrs [(1,1),(1,2),(1,3),(1,4),(1,5),(1,6),(1,7),(1,8)]),(7,aI),(11,aI),(12,aI)]) r r<|aU<|mW [.q 0,.q 1,.q 2,.q 3,.q 4,.q 5,.q 6,.q 7,.q 8,.q 9,.q 10,.q 11,.q 12] [(some 15,[5]),(some 16,[7]),(some 17,[15,16]),(some 18,[17]),(some 19,[18]),(some 20,[19]),(some 21,[6]),(some 22,[7]),(some 23,[21,22]),(some 24,[23]),(some 25,[24]),(some 26,[25]),(some 27,[20,26])] [0,0,3,7,15,31,0,0,192,448,960,1984,4095] (by kernel_rfl)<|dq r r (bS (v:=.ptrs [(0,1),(0,2),(0,3),(0,4),(0,5),(0,6),(0,7),(0,8)]) r)<|dq r r (bS (v:=aI) r)<|dq r r (oL (p:=(0,7)) uE r r r)<|dq r r (jV vQ r)<|dq r r (kJ r)<|dq r r (aJ (v:=aI) gA r r r)<|dq r r (bS (v:=.ptrs [(1,1),(1,2),(1,3),(1,4),(1,5),(1,6),(1,7),(1,8)]) r)<|dq r r (bS (v:=aI) r)<|dq r r (oL (p:=(1,7)) uE r r r)<|dq r r (jV vQ r)<|dq r r (kJ r)<|dq r r (aJ (v:=aI) gA r r r)<|dq r r (iY r r)<|aBl (fr':=[(2,aD),(3,bK),(5,.ptrs [(0,1),(0,2),(0,3),(0,4),(0,5),(0,6),(0,7),(0,8)]),(6,.ptrs [(1,1),(1,2),(1,3),(1,4),(1,5),(1,6),(1,7),(1,8)]),(11,aI),(12,aI),(27,aB)]) r r<|cN h17 r (fun b19 h19=>?_) (fun b19 h19=>?_)
       ·
        refine aH<|sB r<|aG (fr':=[(4,aB)]) r r<|bJ<|bM<|aQ<|aQ<|bM<|aQ ?_
        obtain rfl:=sy h19
        exact bI (rs':=[.tmp 4]) r<|bX (v:=aB) r<|bG<|aP [] r r r lr aC
       ·
        refine bL<|dH<|cY<|bA<|aN r (zB (fY r r) (show _=.int .i64 (7:Int) from r))<|mI r<|dT (fr':=[(2,aD),(3,bK),(5,.ptrs [(0,1),(0,2),(0,3),(0,4),(0,5),(0,6),(0,7),(0,8)]),(6,.ptrs [(1,1),(1,2),(1,3),(1,4),(1,5),(1,6),(1,7),(1,8)]),(11,aI),(12,aI),(27,aB)]) r<|lM<|xM<|aH<|aN r (zB (gC r r) (show _=.bool true from r))<|aG (fr':=[(2,aD),(3,bK),(5,.ptrs [(0,1),(0,2),(0,3),(0,4),(0,5),(0,6),(0,7),(0,8)]),(6,.ptrs [(1,1),(1,2),(1,3),(1,4),(1,5),(1,6),(1,7),(1,8)]),(11,aI),(12,aI),(13,aB)]) r r<|aU<|kD r<|bL<|cY<|aU<|cE<|aH<|mI r<|sI r<|aG (fr':=[(2,aD),(3,bK),(5,.ptrs [(0,1),(0,2),(0,3),(0,4),(0,5),(0,6),(0,7),(0,8)]),(6,.ptrs [(1,1),(1,2),(1,3),(1,4),(1,5),(1,6),(1,7),(1,8)]),(7,aI),(11,aI),(12,aI)]) r r<|aU<|mW [.q 0,.q 1,.q 2,.q 3,.q 4,.q 5,.q 6,.q 7,.q 8,.q 9,.q 10,.q 11,.q 12] [(some 15,[5]),(some 16,[7]),(some 17,[15,16]),(some 18,[17]),(some 19,[18]),(some 20,[19]),(some 21,[6]),(some 22,[7]),(some 23,[21,22]),(some 24,[23]),(some 25,[24]),(some 26,[25]),(some 27,[20,26])] [0,0,3,7,15,31,0,0,192,448,960,1984,4095] (by kernel_rfl)<|dq r r (bS (v:=.ptrs [(0,1),(0,2),(0,3),(0,4),(0,5),(0,6),(0,7),(0,8)]) r)<|dq r r (bS (v:=aI) r)<|dq r r (oL (p:=(0,8)) uE r r r)<|dq r r (jV vQ r)<|dq r r (kJ r)<|dq r r (aJ (v:=aI) gA r r r)<|dq r r (bS (v:=.ptrs [(1,1),(1,2),(1,3),(1,4),(1,5),(1,6),(1,7),(1,8)]) r)<|dq r r (bS (v:=aI) r)<|dq r r (oL (p:=(1,8)) uE r r r)<|dq r r (jV vQ r)<|dq r r (kJ r)<|dq r r (aJ (v:=aI) gA r r r)<|dq r r (iY r r)<|aBl (fr':=[(2,aD),(3,bK),(5,.ptrs [(0,1),(0,2),(0,3),(0,4),(0,5),(0,6),(0,7),(0,8)]),(6,.ptrs [(1,1),(1,2),(1,3),(1,4),(1,5),(1,6),(1,7),(1,8)]),(11,aI),(12,aI),(27,aB)]) r r<|cN h19 r (fun b21 h21=>?_) (fun b21 h21=>?_)
        ·
         refine aH<|sB r<|aG (fr':=[(4,aB)]) r r<|bJ<|bM<|aQ<|aQ<|bM<|aQ ?_
         obtain rfl:=sy h21
         exact bI (rs':=[.tmp 4]) r<|bX (v:=aB) r<|bG<|aP [] r r r lr aC
        ·
         refine bL<|dH<|cY<|bA<|aN r (zB (fY r r) (show _=.int .i64 (8:Int) from r))<|mI r<|dT (fr':=[(2,aD),(3,bK),(5,.ptrs [(0,1),(0,2),(0,3),(0,4),(0,5),(0,6),(0,7),(0,8)]),(6,.ptrs [(1,1),(1,2),(1,3),(1,4),(1,5),(1,6),(1,7),(1,8)]),(11,aI),(12,aI),(27,aB)]) r<|lM<|xM<|aH<|aN r (zB (gC r r) (show _=.bool false from r))<|aG (fr':=[(2,aD),(3,bK),(5,.ptrs [(0,1),(0,2),(0,3),(0,4),(0,5),(0,6),(0,7),(0,8)]),(6,.ptrs [(1,1),(1,2),(1,3),(1,4),(1,5),(1,6),(1,7),(1,8)]),(11,aI),(12,aI),(13,aB)]) r r<|aU<|aCD r<|iA<|cX<|cX<|fS<|cY<|aH<|aN r (bE aCq r)<|aN r (aJ (v:=aS) mG r r r)<|aN r (bE aCq r)<|aN r (aJ (v:=aS) mG r r r)<|aN r (qZ r r)<|mB r<|og r r r (fun u=>(bE uA r))<|og r r r (fun u=>(aJ (v:=aL) sE (gx r u) r r))<|og r r r (fun u=>(bE uA r))<|og r r r (fun u=>(aJ (v:=aL) sE (gx r u) r r))<|bx h21 fun x23 y23 h24=>uP r r (fun u=>bC (v:=aB) r (wH (cZ y23 u)) ⟨(fH (gx r u) lr),(fH (gx r u) lr),trivial⟩ (gO (by repeat (first | exact fC | refine aZ r ?_ | refine aZ (rG r) ?_ | refine aZ rF ?_))) r r) ?_
         refine aN r (cB r r r (fun e=>fU e))<|sB r<|aG (fr':=[(4,aB)]) r r<|bJ ?_
         obtain rfl:=sy h24
         exact bI (rs':=[.tmp 4]) r<|bX (v:=aB) r<|bG<|aP [] r r r lr aC
noncomputable def aAo (p0c:cK) (p1u:kE):Option Bool :=
 (gd (((cond (cond (cond (cond p1u.seq_ true (decide (p0c.Seq=0))) (cond p1u.name_ true (decide (p0c.Name=([]:List UInt8)))) false) (cond p1u.key_ true (decide (p0c.Key=([]:List UInt8)))) false) (cond p1u.n_ true (decide (p0c.N=0))) false)==true)&&(p1u.data_==false)) (aCA p0c.Data (aK.mk 0 0 ([]:List UInt8) ([]:(List aK)) ([]:(List (List UInt8)))))).bind fun x1=>(gd (((cond (cond (cond (cond (cond p1u.seq_ true (decide (p0c.Seq=0))) (cond p1u.name_ true (decide (p0c.Name=([]:List UInt8)))) false) (cond p1u.key_ true (decide (p0c.Key=([]:List UInt8)))) false) (cond p1u.n_ true (decide (p0c.N=0))) false) (cond p1u.data_ true x1) false)==true)&&(p1u.opts_==false)) (nS p0c.Opts (dR.mk ([]:List UInt8) 0 0 0 0 0 0 0 0 ([]:(List (List UInt8)))))).bind fun x3=>some (cond (cond (cond (cond (cond (cond p1u.seq_ true (decide (p0c.Seq=0))) (cond p1u.name_ true (decide (p0c.Name=([]:List UInt8)))) false) (cond p1u.key_ true (decide (p0c.Key=([]:List UInt8)))) false) (cond p1u.n_ true (decide (p0c.N=0))) false) (cond p1u.data_ true x1) false) (cond p1u.opts_ true x3) false)
theorem aKp {p0c:cK}{p1u:kE}{z:Bool} (h:aAo p0c p1u=some z):cR Tryz.prog 165 [.agg (AV.cs (eV p0c)),.agg (AV.cs (aEJ p1u))] [] (.c (.bool z)) []:=by
 unfold aAo at h
 refine dQ (fn:=Tryz.f165) [0,1,2,3,4] (by kernel_rfl) Tryz.func165 r (by kernel_rfl) (by kernel_rfl)<|aH<|iR (v:=.agg aW) (n:=0) (cs:=aW) (σ':=[aW]) r r r r r<|iR (v:=.agg eY) (n:=1) (cs:=eY) (σ':=[aW,eY]) r r r r r<|sB r<|aG (fr':=[(2,aD),(3,bK)]) r r<|aH<|aN r (bE aP9 r)<|aN r (aJ (v:=aB) tv4 r r r)<|mB r<|og r r r (fun u=>(bE aCS r))<|og r r r (fun u=>(aJ (v:=aI) gA (gx r u) r r))<|og r r r (fun u=>(cC (gx r u) r))<|aN r (cM r r r (fun e=>fU e))<|mB r<|og r r r (fun u=>(bE aQa r))<|og r r r (fun u=>(aJ (v:=aB) tv4 (gx r u) r r))<|og r r r (fun u=>(bS (v:=aB) (gx r u)))<|fI r r (fun u=>fT r (bE aBd r))<|fI r r (fun u=>fT r (aJ (v:=aS) mG (gx r u) r r))<|fI r r (fun u=>fT r (qZ (gx r u) r))<|og r r r (fun u=>(cM (gx r u) r r (fun e=>qC u (fU e))))<|aN r (cB r r r (fun e=>fU e))<|mB r<|og r r r (fun u=>(bE aQb r))<|og r r r (fun u=>(aJ (v:=aB) tv4 (gx r u) r r))<|og r r r (fun u=>(bS (v:=aB) (gx r u)))<|fI r r (fun u=>fT r (bE aCT r))<|fI r r (fun u=>fT r (aJ (v:=aS) mG (gx r u) r r))<|fI r r (fun u=>fT r (qZ (gx r u) r))<|og r r r (fun u=>(cM (gx r u) r r (fun e=>qC u (fU e))))<|aN r (cB r r r (fun e=>fU e))<|mB r<|og r r r (fun u=>(bE aTR r))<|og r r r (fun u=>(aJ (v:=aB) tv4 (gx r u) r r))<|og r r r (fun u=>(bS (v:=aB) (gx r u)))<|fI r r (fun u=>fT r (bE uI r))<|fI r r (fun u=>fT r (aJ (v:=aI) gA (gx r u) r r))<|fI r r (fun u=>fT r (cC (gx r u) r))<|og r r r (fun u=>(cM (gx r u) r r (fun e=>qC u (fU e))))<|aN r (cB r r r (fun e=>fU e))<|mB r<|og r r r (fun u=>(bE aTS r))<|og r r r (fun u=>(aJ (v:=aB) tv4 (gx r u) r r))<|og r r r (fun u=>(bS (v:=aB) (gx r u)))<|fI r r (fun u=>fT r (bE xC r))<|fI r r (fun u=>fT r (dN (us:=cH) jC (gx r u) r r r))<|fI r r (fun u=>fT r (gD (cs:=dF) aIK r))<|bx h fun x1 y1 h2=>fI r r (fun u=>bC (v:=aB) r (aDY (cZ y1 u)) ⟨(fH (gx r u) (bQ r zA)),(fH (gx r u) (bQ r ⟨r,r,r,⟨_,r⟩,⟨_,r⟩,trivial⟩)),trivial⟩ (gO (by repeat (first | exact fC | refine aZ r ?_ | refine aZ (rG r) ?_ | refine aZ rF ?_))) r r) ?_
 refine og r r r (fun u=>(cM (gx r u) r r (fun e=>qC u (fU e))))<|aN r (cB r r r (fun e=>fU e))<|mB r<|og r r r (fun u=>(bE aTT r))<|og r r r (fun u=>(aJ (v:=aB) tv4 (gx r u) r r))<|og r r r (fun u=>(bS (v:=aB) (gx r u)))<|fI r r (fun u=>fT r (bE aBV r))<|fI r r (fun u=>fT r (dN (us:=dE) aAm (gx r u) r r r))<|fI r r (fun u=>fT r (jY (c0:=cP) (cs:=cP) aRa r jX))<|bx h2 fun x3 y3 h4=>fI r r (fun u=>bC (v:=aB) r (yE (cZ y3 u)) ⟨(fH (gx r u) (bQ r zX)),(fH (gx r u) (bQ r ⟨r,r,r,r,r,r,r,r,r,⟨_,r⟩,trivial⟩)),trivial⟩ (gO (by repeat (first | exact fC | refine aZ r ?_ | refine aZ (rG r) ?_ | refine aZ rF ?_))) r r) ?_
 refine og r r r (fun u=>(cM (gx r u) r r (fun e=>qC u (fU e))))<|aN r (cB r r r (fun e=>fU e))<|sB r<|aG (fr':=[(4,aB)]) r r<|bJ ?_
 obtain rfl:=sy h4
 exact bI (rs':=[.tmp 4]) r<|bX (v:=aB) r<|bG<|aP [] r r r lr aC
noncomputable def yH (p0s:(List UInt8)) (s4:Int):Option (dU Int (Fl Bool Unit)) :=
 cond (decide (s4<((p0s).length:Int))) ((mP p0s s4).bind fun x6=>(gd ((decide (((x6).toNat:Int)<33))==false) (mP p0s s4)).bind fun x8=>(gd ((cond (decide (((x6).toNat:Int)<33)) true (decide (126<((x8).toNat:Int))))==false) (mP p0s s4)).bind fun x10=>(gd ((cond (cond (decide (((x6).toNat:Int)<33)) true (decide (126<((x8).toNat:Int)))) true (decide (((x10).toNat:Int)=47)))==false) (mP p0s s4)).bind fun x12=>cond (cond (cond (cond (decide (((x6).toNat:Int)<33)) true (decide (126<((x8).toNat:Int)))) true (decide (((x10).toNat:Int)=47))) true (decide (((x12).toNat:Int)=34))) (some (dU.out (Fl.done false))) (some (dU.next (IntKind.wrap .i64 (s4+1))))) (some (dU.out (Fl.go ())))
noncomputable def tU (p0s:(List UInt8)):Option Bool :=
 (gL (yH p0s) (0)).bind fun x1=>Fl.next x1 (fun j3=>((nE ((p0s).length:Int) 1 64).bind fun x20=>some x20))
theorem aIP {p0s:(List UInt8)}{z:Bool} (h:tU p0s=some z):cR Tryz.prog 166 [.c (.str p0s)] [] (.c (.bool z)) []:=by
 unfold tU at h
 refine dQ (fn:=Tryz.f166) [0,2,3,5,6,7,30] (by kernel_rfl) Tryz.func166 r (by kernel_rfl) (by kernel_rfl)<|aH<|sB r<|aG (fr':=[(0,aS)]) r r<|aU<|aH<|mS r<|aN r (kV uD r)<|mI r<|aG (fr':=[(0,aS),(5,aI),(6,aI)]) r r<|bx h fun x1 y1 h2=>gY kS (fun j3=>x1=Fl.go j3) (fun (j3:Unit)=>([(0,.c (.str p0s))]:Fr)) (fun (j3:Unit)=>([]:St)) ?_ ?_
 ·
  refine cE<|gU _ (fun (s4:Int)=>([(0,.c (.str p0s)),(5,ci ((p0s).length:Int)),(6,ci s4)]:Fr)) (fun (s4:Int)=>([]:St)) y1 (bH [] 0 r r r r lG aC) ?_
  intro s4 st4 hs4 ho4
  unfold yH at hs4
  refine aH<|aN r (gC r r)<|aG (fr':=[(0,aS),(5,aI),(6,aI),(7,aB)]) r r<|aU<|cN hs4 r (fun b5 h5=>?_) (fun b5 h5=>?_)
  ·
   refine bL<|cY<|aU<|cE<|aH<|mI r<|sI r<|aG (fr':=[(0,aS),(3,aI),(5,aI),(6,aI)]) r r<|aH<|mS r<|mI r<|bx h5 fun x6 y6 h7=>aN r (aAU uD r r y6)<|aN r (gC r r)<|mB r<|og r r r (fun u=>(bS (v:=aS) r))<|og r r r (fun u=>(bS (v:=aI) r))<|bx h7 fun x8 y8 h9=>og r r r (fun u=>(aAU uD (gx r u) (gx r u) (cZ y8 u)))<|og r r r (fun u=>(sP (gx r u) r))<|aN r (cM r r r (fun e=>fU e))<|mB r<|og r r r (fun u=>(bS (v:=aS) r))<|og r r r (fun u=>(bS (v:=aI) r))<|bx h9 fun x10 y10 h11=>og r r r (fun u=>(aAU uD (gx r u) (gx r u) (cZ y10 u)))<|og r r r (fun u=>(cC (gx r u) r))<|aN r (cM r r r (fun e=>fU e))<|mB r<|og r r r (fun u=>(bS (v:=aS) r))<|og r r r (fun u=>(bS (v:=aI) r))<|bx h11 fun x12 y12 h13=>og r r r (fun u=>(aAU uD (gx r u) (gx r u) (cZ y12 u)))<|og r r r (fun u=>(cC (gx r u) r))<|aN r (cM r r r (fun e=>fU e))<|aG (fr':=[(0,aS),(5,aI),(6,aI),(30,aB)]) r r<|cN h13 r (fun b14 h14=>?_) (fun b14 h14=>?_)
   ·
    refine aH<|sB r<|aG (fr':=[(2,aB)]) r r<|bJ<|bM<|aQ<|aQ<|bM<|aQ<|aQ ?_
    have h15:=eZ h14 ho4
    have h16:=gT h15 h2
    obtain rfl:=sy h16
    exact bI (rs':=[.tmp 2]) r<|bX (v:=aB) r<|bG<|aP [] r r r lr aC
   ·
    exact bL<|dH<|cY<|bA<|aN r (fY r r)<|mI r<|dT (fr':=[(0,aS),(5,aI),(6,aI),(30,aB)]) r<|e_l _ (sy h14) (bH [] 0 r r r r lG aC)
  ·
   refine iA<|cX<|cX<|fS ?_
   have h18:=eZ h5 ho4
   exact kI _ (sy h18) (bH [] 0 r r r r ⟨lr,trivial⟩ aC)
 ·
  intro j3 hj19
  have h19:=mY hj19 h2
  refine cY<|aH<|mS r<|aN r (kV uD r)<|bx h19 fun x20 y20 h21=>kB (bC (v:=aB) r (oP y20) lG r r r)<|sB r<|aG (fr':=[(2,aB)]) r r<|bJ ?_
  obtain rfl:=sy h21
  exact bI (rs':=[.tmp 2]) r<|bX (v:=aB) r<|bG<|aP [] r r r lr aC
noncomputable def wA (p0x:aK):Option Bool :=
 (gd ((cond (!decide (p0x.Kind=4)) true (!decide (((p0x.Items).length:Int)=2)))==false) (mP p0x.Items 0)).bind fun x1=>(gd ((cond (cond (!decide (p0x.Kind=4)) true (!decide (((p0x.Items).length:Int)=2))) true (!decide (x1.Kind=3)))==false) (mP p0x.Items 0)).bind fun x3=>(gd ((cond (cond (!decide (p0x.Kind=4)) true (!decide (((p0x.Items).length:Int)=2))) true (!decide (x1.Kind=3)))==false) (rY x3.Text)).bind fun x5=>some (cond (cond (cond (!decide (p0x.Kind=4)) true (!decide (((p0x.Items).length:Int)=2))) true (!decide (x1.Kind=3))) true (!x5))
theorem aHa {p0x:aK}{z:Bool} (h:wA p0x=some z):cR Tryz.prog 216 [.agg (AV.cs (fA p0x))] [] (.c (.bool z)) []:=by
 unfold wA at h
 refine dQ (fn:=Tryz.f216) [0,1,2] (by kernel_rfl) Tryz.func216 r (by kernel_rfl) (by kernel_rfl)<|aH<|iR (v:=.agg cH) (n:=0) (cs:=cH) (σ':=[cH]) r r r r r<|sB r<|aG (fr':=[(1,aD)]) r r<|aH<|aN r (bE lU r)<|aN r (aJ (v:=aI) gA r r r)<|aN r (iY r r)<|mB r<|og r r r (fun u=>(bE iH r))<|og r r r (fun u=>(aJ (v:=aL) nJ (gx r u) r r))<|og r r r (fun u=>(gQ vC (eD (gx r u))))<|og r r r (fun u=>(iY (gx r u) r))<|aN r (cM r r r (fun e=>fU e))<|mB r<|og r r r (fun u=>(bE iH r))<|og r r r (fun u=>(aJ (v:=aL) nJ (gx r u) r r))<|bx h fun x1 y1 h2=>og r r r (fun u=>(lT (cs:=[PV.int _ _,PV.int _ _,PV.str _,PV.ls _ _ _,PV.ls _ _ _]) uW (eD (gx r u)) r (cZ y1 u) (eA _)))<|og r r r (fun u=>(zF lU (gx r u)))<|og r r r (fun u=>(iO (p:=PV.int _ _) gA (gx r u) r))<|og r r r (fun u=>(iY (gx r u) r))<|aN r (cM r r r (fun e=>fU e))<|mB r<|og r r r (fun u=>(bE iH r))<|og r r r (fun u=>(aJ (v:=aL) nJ (gx r u) r r))<|bx h2 fun x3 y3 h4=>og r r r (fun u=>(lT (cs:=[PV.int _ _,PV.int _ _,PV.str _,PV.ls _ _ _,PV.ls _ _ _]) uW (eD (gx r u)) r (cZ y3 u) (eA _)))<|og r r r (fun u=>(zF tZ (gx r u)))<|og r r r (fun u=>(iO (p:=PV.str _) mG (gx r u) r))<|bx h4 fun x5 y5 h6=>uP r r (fun u=>bC (v:=aB) r (vV (cZ y5 u)) ⟨(fH (gx r u) lr),trivial⟩ (gO (by repeat (first | exact fC | refine aZ r ?_ | refine aZ (rG r) ?_ | refine aZ rF ?_))) r r) ?_
 refine og r r r (fun u=>(fP (gx r u)))<|aN r (cM r r r (fun e=>fU e))<|sB r<|aG (fr':=[(2,aB)]) r r<|bJ ?_
 obtain rfl:=sy h6
 exact bI (rs':=[.tmp 2]) r<|bX (v:=aB) r<|bG<|aP [] r r r lr aC
