import Derived.Test.YtnigjppddilpcaaGreatDoorGETy
import Derived.Test.YtnigjppddilpcaaGreatDoorGEF0
import Derived.Test.YtnigjppddilpcaaGreatDoorGEF1
namespace Go.Proofs.YtnigjppddilpcaaGreatDoor
open Go Abs
set_option maxRecDepth 100000
set_option linter.unusedVariables false
set_option linter.unusedSimpArgs false
noncomputable def oE (cF:Int):Option Int :=
 cond (decide (cF=(7:Int))) (some (1:Int)) (cond (decide (cF=(12:Int))) (some (2:Int)) (cond (decide (cF=(14:Int))) (some (3:Int)) (cond (decide (cF=(16:Int))) (some (4:Int)) (cond (decide (cF=(19:Int))) (some (5:Int)) (cond (decide (cF=(23:Int))) (some (6:Int)) (cond (decide (cF=(18:Int))) (some (7:Int)) (cond (decide (cF=(27:Int))) (some (8:Int)) (cond (decide (cF=(28:Int))) (some (9:Int)) (cond (decide (cF=(29:Int))) (some (10:Int)) (cond (decide (cF=(30:Int))) (some (11:Int)) (cond (decide (cF=(31:Int))) (some (12:Int)) (cond (decide (cF=(32:Int))) (some (13:Int)) (cond (decide (cF=(35:Int))) (some (14:Int)) (some (0:Int)))))))))))))))
theorem aCZ {cF:Int}{res:Int} (h:oE cF=some res):bS Tryz.prog 137 [ci cF] [] (ci res) []:=by
 unfold oE at h
 refine cJ (fn:=Tryz.f137) [0,2,3,4,6,8,10,12,14,16,18,20,22,24,26,28,30] (by kernel_rfl) Tryz.func137 r (by kernel_rfl) (by kernel_rfl)<|aH<|sI r<|aF (fr':=[(0,aI)]) r r<|aP<|aH<|mI r<|aF (fr':=[(3,aI)]) r r<|bJ<|aP<|aQ ?_
 refine aM r (bM r r)<|sB r<|aF (fr':=[(3,aI),(4,aB)]) r r<|bP h r (fun hb1 h1=>?_) (fun hb1 h1=>?_)
 ·
  refine aH<|sI r<|aF (fr':=[(2,aI)]) r r<|bC<|bA<|aJ ?_
  obtain rfl:=sy h1
  exact bB (rs':=[.tmp 2]) r<|bH (v:=aI) r<|aZ<|aN [] r r r lr aA
 ·
  refine aH<|aM r (bM r r)<|sB r<|aF (fr':=[(3,aI),(6,aB)]) r r<|bP h1 r (fun hb3 h3=>?_) (fun hb3 h3=>?_)
  ·
   refine aH<|sI r<|aF (fr':=[(2,aI)]) r r<|bC<|bA<|aJ ?_
   obtain rfl:=sy h3
   exact bB (rs':=[.tmp 2]) r<|bH (v:=aI) r<|aZ<|aN [] r r r lr aA
  ·
   refine aH<|aM r (bM r r)<|sB r<|aF (fr':=[(3,aI),(8,aB)]) r r<|bP h3 r (fun hb5 h5=>?_) (fun hb5 h5=>?_)
   ·
    refine aH<|sI r<|aF (fr':=[(2,aI)]) r r<|bC<|bA<|aJ ?_
    obtain rfl:=sy h5
    exact bB (rs':=[.tmp 2]) r<|bH (v:=aI) r<|aZ<|aN [] r r r lr aA
   ·
    refine aH<|aM r (bM r r)<|sB r<|aF (fr':=[(3,aI),(10,aB)]) r r<|bP h5 r (fun hb7 h7=>?_) (fun hb7 h7=>?_)
    ·
     refine aH<|sI r<|aF (fr':=[(2,aI)]) r r<|bC<|bA<|aJ ?_
     obtain rfl:=sy h7
     exact bB (rs':=[.tmp 2]) r<|bH (v:=aI) r<|aZ<|aN [] r r r lr aA
    ·
     refine aH<|aM r (bM r r)<|sB r<|aF (fr':=[(3,aI),(12,aB)]) r r<|bP h7 r (fun hb9 h9=>?_) (fun hb9 h9=>?_)
     ·
      refine aH<|sI r<|aF (fr':=[(2,aI)]) r r<|bC<|bA<|aJ ?_
      obtain rfl:=sy h9
      exact bB (rs':=[.tmp 2]) r<|bH (v:=aI) r<|aZ<|aN [] r r r lr aA
     ·
      refine aH<|aM r (bM r r)<|sB r<|aF (fr':=[(3,aI),(14,aB)]) r r<|bP h9 r (fun hb11 h11=>?_) (fun hb11 h11=>?_)
      ·
       refine aH<|sI r<|aF (fr':=[(2,aI)]) r r<|bC<|bA<|aJ ?_
       obtain rfl:=sy h11
       exact bB (rs':=[.tmp 2]) r<|bH (v:=aI) r<|aZ<|aN [] r r r lr aA
      ·
       refine aH<|aM r (bM r r)<|sB r<|aF (fr':=[(3,aI),(16,aB)]) r r<|bP h11 r (fun hb13 h13=>?_) (fun hb13 h13=>?_)
       ·
        refine aH<|sI r<|aF (fr':=[(2,aI)]) r r<|bC<|bA<|aJ ?_
        obtain rfl:=sy h13
        exact bB (rs':=[.tmp 2]) r<|bH (v:=aI) r<|aZ<|aN [] r r r lr aA
       ·
        refine aH<|aM r (bM r r)<|sB r<|aF (fr':=[(3,aI),(18,aB)]) r r<|bP h13 r (fun hb15 h15=>?_) (fun hb15 h15=>?_)
        ·
         refine aH<|sI r<|aF (fr':=[(2,aI)]) r r<|bC<|bA<|aJ ?_
         obtain rfl:=sy h15
         exact bB (rs':=[.tmp 2]) r<|bH (v:=aI) r<|aZ<|aN [] r r r lr aA
        ·
         refine aH<|aM r (bM r r)<|sB r<|aF (fr':=[(3,aI),(20,aB)]) r r<|bP h15 r (fun hb17 h17=>?_) (fun hb17 h17=>?_)
         ·
          refine aH<|sI r<|aF (fr':=[(2,aI)]) r r<|bC<|bA<|aJ ?_
          obtain rfl:=sy h17
          exact bB (rs':=[.tmp 2]) r<|bH (v:=aI) r<|aZ<|aN [] r r r lr aA
         ·
          refine aH<|aM r (bM r r)<|sB r<|aF (fr':=[(3,aI),(22,aB)]) r r<|bP h17 r (fun hb19 h19=>?_) (fun hb19 h19=>?_)
          ·
           refine aH<|sI r<|aF (fr':=[(2,aI)]) r r<|bC<|bA<|aJ ?_
           obtain rfl:=sy h19
           exact bB (rs':=[.tmp 2]) r<|bH (v:=aI) r<|aZ<|aN [] r r r lr aA
          ·
           refine aH<|aM r (bM r r)<|sB r<|aF (fr':=[(3,aI),(24,aB)]) r r<|bP h19 r (fun hb21 h21=>?_) (fun hb21 h21=>?_)
           ·
            refine aH<|sI r<|aF (fr':=[(2,aI)]) r r<|bC<|bA<|aJ ?_
            obtain rfl:=sy h21
            exact bB (rs':=[.tmp 2]) r<|bH (v:=aI) r<|aZ<|aN [] r r r lr aA
           ·
            refine aH<|aM r (bM r r)<|sB r<|aF (fr':=[(3,aI),(26,aB)]) r r<|bP h21 r (fun hb23 h23=>?_) (fun hb23 h23=>?_)
            ·
             refine aH<|sI r<|aF (fr':=[(2,aI)]) r r<|bC<|bA<|aJ ?_
             obtain rfl:=sy h23
             exact bB (rs':=[.tmp 2]) r<|bH (v:=aI) r<|aZ<|aN [] r r r lr aA
            ·
             refine aH<|aM r (bM r r)<|sB r<|aF (fr':=[(3,aI),(28,aB)]) r r<|bP h23 r (fun hb25 h25=>?_) (fun hb25 h25=>?_)
             ·
              refine aH<|sI r<|aF (fr':=[(2,aI)]) r r<|bC<|bA<|aJ ?_
              obtain rfl:=sy h25
              exact bB (rs':=[.tmp 2]) r<|bH (v:=aI) r<|aZ<|aN [] r r r lr aA
             ·
              refine aH<|aM r (bM r r)<|sB r<|aF (fr':=[(30,aB)]) r r<|bP h25 r (fun hb27 h27=>?_) (fun hb27 h27=>?_)
              ·
               refine aH<|sI r<|aF (fr':=[(2,aI)]) r r<|bC<|bA<|aJ ?_
               obtain rfl:=sy h27
               exact bB (rs':=[.tmp 2]) r<|bH (v:=aI) r<|aZ<|aN [] r r r lr aA
              ·
               refine aW<|bX<|bV<|aH<|sI r<|aF (fr':=[(2,aI)]) r r<|bC ?_
               obtain rfl:=sy h27
               exact bB (rs':=[.tmp 2]) r<|bH (v:=aI) r<|aZ<|aN [] r r r lr aA
noncomputable def pM (cF:Int):Option fU :=
 cond (decide (cF=(1:Int))) (some (fU.mk true true false false true true)) (((cond (decide (cF=(2:Int))) (some (decide (cF=(2:Int)))) (some (decide (cF=(4:Int))))):Option Bool).bind fun x3=>(cond x3 (some (fU.mk true false false false false false)) (cond (decide (cF=(3:Int))) (some (fU.mk true false false true false false)) (cond (decide (cF=(5:Int))) (some (fU.mk true true true true true false)) (cond (decide (cF=(6:Int))) (some (fU.mk true true true false true false)) (cond (decide (cF=(7:Int))) (some (fU.mk false true false true true false)) (cond (decide (cF=(8:Int))) (some (fU.mk false true true false true false)) (cond (decide (cF=(9:Int))) (some (fU.mk false false true true true false)) (cond (decide (cF=(12:Int))) (some (fU.mk false true false false true false)) (some (fU.mk false false false false true false)))))))))))
theorem aDB {cF:Int}{res:fU} (h:pM cF=some res):bS Tryz.prog 164 [ci cF] [] (.agg (AV.cs (aAQ res))) []:=by
 unfold pM at h
 refine cJ (fn:=Tryz.f164) [0,2,3,4,7,11,14,17,20,23,26,29] (by kernel_rfl) Tryz.func164 r (by kernel_rfl) (by kernel_rfl)<|aH<|gC (n:=0) (cs:=cR) (σ':=[cR]) aNO r r r<|aF (fr':=[(0,aI),(2,.box 0 0)]) r r<|aP<|aH<|mI r<|aF (fr':=[(2,.box 0 0),(3,aI)]) r r<|bJ<|aP<|aQ ?_
 refine aM r (bM r r)<|sB r<|aF (fr':=[(2,.box 0 0),(3,aI),(4,aB)]) r r<|bP h r (fun hb1 h1=>?_) (fun hb1 h1=>?_)
 ·
  refine aH<|aM r (dK (cs:=cR) aBH r)<|bU (v:=.agg cR) (us:=cR) (cs:=cR) (σ':=[cR]) r qV r r r r r r r r<|aF (fr':=[(2,.box 0 0)]) r r<|bC<|bA<|aJ ?_
  obtain rfl:=sy h1
  exact bB (rs':=[.cell 2 160]) r<|cZ (us:=cR) (cs:=cR) qV r r r r<|aZ<|aN [] r r r (bK r ⟨r,r,r,r,r,r,trivial⟩) aA
 ·
  obtain ⟨x3,hx3,h4⟩:=aE h1
  refine fY (fun j5=>x3=j5) (fun (j5:Bool)=>([(2,.box 0 0),(3,ci cF),(7,.c (.bool j5))]:Fr)) (fun (j5:Bool)=>([[.c (.bool false),.c (.bool false),.c (.bool false),.c (.bool false),.c (.bool false),.c (.bool false)]]:St)) ?_ ?_
  ·
   refine aH<|aM r (bM r r)<|sB r<|aF (fr':=[(2,.box 0 0),(3,aI),(7,aB)]) r r<|bP hx3 r (fun hb6 h6=>?_) (fun hb6 h6=>?_)
   ·
    exact aW<|gD _ (sy h6) (aU [] 1 r r r r ⟨lr,lr,lr,trivial⟩ (bW r aA))
   ·
    exact aQ<|aM r (bM r r)<|sB r<|cB (fr':=[(2,.box 0 0),(3,aI),(7,aB)]) r<|gD _ (sy h6) (aU [] 1 r r r r ⟨lr,lr,lr,trivial⟩ (bW r aA))
  ·
   intro j5 hj7
   subst hj7
   refine bP h4 r (fun hb8 h8=>?_) (fun hb8 h8=>?_)
   ·
    refine aH<|aM r (dK (cs:=cR) aBH r)<|bU (v:=.agg cR) (us:=cR) (cs:=cR) (σ':=[cR]) r qV r r r r r r r r<|aF (fr':=[(2,.box 0 0)]) r r<|bC<|bA<|aJ ?_
    obtain rfl:=sy h8
    exact bB (rs':=[.cell 2 160]) r<|cZ (us:=cR) (cs:=cR) qV r r r r<|aZ<|aN [] r r r (bK r ⟨r,r,r,r,r,r,trivial⟩) aA
   ·
    refine aH<|aM r (bM r r)<|sB r<|aF (fr':=[(2,.box 0 0),(3,aI),(11,aB)]) r r<|bP h8 r (fun hb10 h10=>?_) (fun hb10 h10=>?_)
    ·
     refine aH<|aM r (dK (cs:=cR) aBH r)<|bU (v:=.agg cR) (us:=cR) (cs:=cR) (σ':=[cR]) r qV r r r r r r r r<|aF (fr':=[(2,.box 0 0)]) r r<|bC<|bA<|aJ ?_
     obtain rfl:=sy h10
     exact bB (rs':=[.cell 2 160]) r<|cZ (us:=cR) (cs:=cR) qV r r r r<|aZ<|aN [] r r r (bK r ⟨r,r,r,r,r,r,trivial⟩) aA
    ·
     refine aH<|aM r (bM r r)<|sB r<|aF (fr':=[(2,.box 0 0),(3,aI),(14,aB)]) r r<|bP h10 r (fun hb12 h12=>?_) (fun hb12 h12=>?_)
     ·
      refine aH<|aM r (dK (cs:=cR) aBH r)<|bU (v:=.agg cR) (us:=cR) (cs:=cR) (σ':=[cR]) r qV r r r r r r r r<|aF (fr':=[(2,.box 0 0)]) r r<|bC<|bA<|aJ ?_
      obtain rfl:=sy h12
      exact bB (rs':=[.cell 2 160]) r<|cZ (us:=cR) (cs:=cR) qV r r r r<|aZ<|aN [] r r r (bK r ⟨r,r,r,r,r,r,trivial⟩) aA
     ·
      refine aH<|aM r (bM r r)<|sB r<|aF (fr':=[(2,.box 0 0),(3,aI),(17,aB)]) r r<|bP h12 r (fun hb14 h14=>?_) (fun hb14 h14=>?_)
      ·
       refine aH<|aM r (dK (cs:=cR) aBH r)<|bU (v:=.agg cR) (us:=cR) (cs:=cR) (σ':=[cR]) r qV r r r r r r r r<|aF (fr':=[(2,.box 0 0)]) r r<|bC<|bA<|aJ ?_
       obtain rfl:=sy h14
       exact bB (rs':=[.cell 2 160]) r<|cZ (us:=cR) (cs:=cR) qV r r r r<|aZ<|aN [] r r r (bK r ⟨r,r,r,r,r,r,trivial⟩) aA
      ·
       refine aH<|aM r (bM r r)<|sB r<|aF (fr':=[(2,.box 0 0),(3,aI),(20,aB)]) r r<|bP h14 r (fun hb16 h16=>?_) (fun hb16 h16=>?_)
       ·
        refine aH<|aM r (dK (cs:=cR) aBH r)<|bU (v:=.agg cR) (us:=cR) (cs:=cR) (σ':=[cR]) r qV r r r r r r r r<|aF (fr':=[(2,.box 0 0)]) r r<|bC<|bA<|aJ ?_
        obtain rfl:=sy h16
        exact bB (rs':=[.cell 2 160]) r<|cZ (us:=cR) (cs:=cR) qV r r r r<|aZ<|aN [] r r r (bK r ⟨r,r,r,r,r,r,trivial⟩) aA
       ·
        refine aH<|aM r (bM r r)<|sB r<|aF (fr':=[(2,.box 0 0),(3,aI),(23,aB)]) r r<|bP h16 r (fun hb18 h18=>?_) (fun hb18 h18=>?_)
        ·
         refine aH<|aM r (dK (cs:=cR) aBH r)<|bU (v:=.agg cR) (us:=cR) (cs:=cR) (σ':=[cR]) r qV r r r r r r r r<|aF (fr':=[(2,.box 0 0)]) r r<|bC<|bA<|aJ ?_
         obtain rfl:=sy h18
         exact bB (rs':=[.cell 2 160]) r<|cZ (us:=cR) (cs:=cR) qV r r r r<|aZ<|aN [] r r r (bK r ⟨r,r,r,r,r,r,trivial⟩) aA
        ·
         refine aH<|aM r (bM r r)<|sB r<|aF (fr':=[(2,.box 0 0),(3,aI),(26,aB)]) r r<|bP h18 r (fun hb20 h20=>?_) (fun hb20 h20=>?_)
         ·
          refine aH<|aM r (dK (cs:=cR) aBH r)<|bU (v:=.agg cR) (us:=cR) (cs:=cR) (σ':=[cR]) r qV r r r r r r r r<|aF (fr':=[(2,.box 0 0)]) r r<|bC<|bA<|aJ ?_
          obtain rfl:=sy h20
          exact bB (rs':=[.cell 2 160]) r<|cZ (us:=cR) (cs:=cR) qV r r r r<|aZ<|aN [] r r r (bK r ⟨r,r,r,r,r,r,trivial⟩) aA
         ·
          refine aH<|aM r (bM r r)<|sB r<|aF (fr':=[(2,.box 0 0),(29,aB)]) r r<|bP h20 r (fun hb22 h22=>?_) (fun hb22 h22=>?_)
          ·
           refine aH<|aM r (dK (cs:=cR) aBH r)<|bU (v:=.agg cR) (us:=cR) (cs:=cR) (σ':=[cR]) r qV r r r r r r r r<|aF (fr':=[(2,.box 0 0)]) r r<|bC<|bA<|aJ ?_
           obtain rfl:=sy h22
           exact bB (rs':=[.cell 2 160]) r<|cZ (us:=cR) (cs:=cR) qV r r r r<|aZ<|aN [] r r r (bK r ⟨r,r,r,r,r,r,trivial⟩) aA
          ·
           refine aW<|bX<|bV<|aH<|aM r (dK (cs:=cR) aBH r)<|bU (v:=.agg cR) (us:=cR) (cs:=cR) (σ':=[cR]) r qV r r r r r r r r<|aF (fr':=[(2,.box 0 0)]) r r<|bC ?_
           obtain rfl:=sy h22
           exact bB (rs':=[.cell 2 160]) r<|cZ (us:=cR) (cs:=cR) qV r r r r<|aZ<|aN [] r r r (bK r ⟨r,r,r,r,r,r,trivial⟩) aA
noncomputable def iI (wY:(List (List UInt8))) (zQ:(List (List UInt8))) (s6:Int):Option (cI Int (Fl Bool Unit)) :=
 cond (decide (s6<((wY).length:Int))) ((hG wY s6).bind fun x8=>(hG zQ s6).bind fun x10=>cond (!decide (x8=x10)) (some (cI.out (Fl.done false))) (some (cI.next (IntKind.wrap .i64 (s6+(1:Int)))))) (some (cI.out (Fl.go ())))
noncomputable def gG (wY:(List (List UInt8))) (zQ:(List (List UInt8))):Option Bool :=
 cond (!decide (((wY).length:Int)=((zQ).length:Int))) (some false) (((dR (iI wY zQ) ((0:Int))):Option (Fl Bool Unit)).bind fun x3=>Fl.next x3 (fun j5=>(some true)))
theorem oL {wY:(List (List UInt8))}{zQ:(List (List UInt8))}{res:Bool} (h:gG wY zQ=some res):bS Tryz.prog 171 [.c (PV.ls 1 eA wY),.c (PV.ls 1 eA zQ)] [] (.c (.bool res)) []:=by
 unfold gG at h
 refine cJ (fn:=Tryz.f171) [0,1,4,5,10,12,13,14,24] (by kernel_rfl) Tryz.func171 r (by kernel_rfl) (by kernel_rfl)<|aH<|sB r<|aF (fr':=[(0,aL),(1,aL)]) r r<|aP<|aH<|mL r<|aM r (dI pI (cC r))<|mL r<|aM r (dI pI (cC r))<|aM r (fI r r) ?_
 refine aF (fr':=[(0,aL),(1,aL),(10,aB)]) r r<|bP h r (fun hb1 h1=>?_) (fun hb1 h1=>?_)
 ·
  refine aH<|sB r<|aF (fr':=[(4,aB)]) r r<|bC<|aJ ?_
  obtain rfl:=sy h1
  exact bB (rs':=[.tmp 4]) r<|bH (v:=aB) r<|aZ<|aN [] r r r lr aA
 ·
  refine aW<|bV<|aP<|aH<|mL r<|aM r (dI pI (cC r))<|mI r<|aF (fr':=[(0,aL),(1,aL),(12,aI),(13,aI)]) r r ?_
  obtain ⟨x3,hx3,h4⟩:=aE h1
  refine eB gF (fun j5=>x3=Fl.go j5) (fun (j5:Unit)=>([]:Fr)) (fun (j5:Unit)=>([]:St)) ?_ ?_
  ·
   refine bJ<|dV _ (fun (s6:Int)=>([(0,.c (PV.ls 1 eA wY)),(1,.c (PV.ls 1 eA zQ)),(12,ci ((wY).length:Int)),(13,ci s6)]:Fr)) (fun (s6:Int)=>([]:St)) hx3 (aU [] 0 r r r r ⟨lr,lr,lr,lr,trivial⟩ aA) ?_
   intro s6 st6 hs6 ho6
   unfold iI at hs6
   refine aH<|aM r (dJ r r)<|aF (fr':=[(0,aL),(1,aL),(12,aI),(13,aI),(14,aB)]) r r<|aP<|bP hs6 r (fun hb7 h7=>?_) (fun hb7 h7=>?_)
   ·
    refine aW<|bV<|aP<|bJ<|aH<|mI r<|sI r<|aF (fr':=[(0,aL),(1,aL),(5,aI),(12,aI),(13,aI)]) r r<|aP<|hF [.q 0,.q 1,.q 2,.q 3,.q 4,.q 5,.q 6,.q 7,.q 8] [(some 16,[0]),(some 17,[5]),(some 18,[16,17]),(some 19,[18]),(some 20,[1]),(some 21,[5]),(some 22,[20,21]),(some 23,[22]),(some 24,[19,23])] [0,0,3,7,0,0,48,112,255] (by kernel_rfl)<|dq r r (bE (v:=aL) r)<|dq r r (bE (v:=aI) r) ?_
    obtain ⟨x8,hx8,h9⟩:=aE h7
    refine dq r r (gR (cs:=[PV.str _]) vV (cC r) r hx8 r)<|dq r r (eG (p:=PV.str _) kD r r)<|dq r r (bE (v:=aL) r)<|dq r r (bE (v:=aI) r) ?_
    obtain ⟨x10,hx10,h11⟩:=aE h9
    refine dq r r (gR (cs:=[PV.str _]) vV (cC r) r hx10 r)<|dq r r (eG (p:=PV.str _) kD r r)<|dq r r (yC r r)<|uE (fr':=[(0,aL),(1,aL),(12,aI),(13,aI),(24,aB)]) r r<|bP h11 r (fun hb12 h12=>?_) (fun hb12 h12=>?_)
    ·
     refine aH<|sB r<|aF (fr':=[(4,aB)]) r r<|bC<|bA<|aJ<|aJ<|bA<|aJ<|aJ ?_
     have h13:=cS h12 ho6
     have h14:=dQ h13 h4
     obtain rfl:=sy h14
     exact bB (rs':=[.tmp 4]) r<|bH (v:=aB) r<|aZ<|aN [] r r r lr aA
    ·
     exact aW<|bX<|bV<|aQ<|aM r (dB r r)<|mI r<|cB (fr':=[(0,aL),(1,aL),(12,aI),(13,aI),(24,aB)]) r<|rX _ (sy h12) (aU [] 0 r r r r ⟨lr,lr,lr,lr,trivial⟩ aA)
   ·
    refine eK<|bR<|bR<|dC ?_
    have h16:=cS h7 ho6
    exact gD _ (sy h16) (aU [] 0 r r r r trivial aA)
  ·
   intro j5 hj17
   have h17:=iC hj17 h4
   refine bV<|aH<|sB r<|aF (fr':=[(4,aB)]) r r<|bC ?_
   obtain rfl:=sy h17
   exact bB (rs':=[.tmp 4]) r<|bH (v:=aB) r<|aZ<|aN [] r r r lr aA
noncomputable def dD (aFB:aC→aC→Option Bool) (wY:(List aC)) (zQ:(List aC)) (s6:Int):Option (cI Int (Fl Bool Unit)) :=
 cond (decide (s6<((wY).length:Int))) ((hG wY s6).bind fun x8=>(hG zQ s6).bind fun x10=>(aFB x8 x10).bind fun x12=>cond (!x12) (some (cI.out (Fl.done false))) (some (cI.next (IntKind.wrap .i64 (s6+(1:Int)))))) (some (cI.out (Fl.go ())))
mutual
noncomputable def cO:Nat→(List aC)→(List aC)→Option Bool
 | 0,_,_=>none
 | n+1,wY,zQ =>
  cond (!decide (((wY).length:Int)=((zQ).length:Int))) (some false) (((dR (dD (qG n) wY zQ) ((0:Int))):Option (Fl Bool Unit)).bind fun x3=>Fl.next x3 (fun j5=>(some true)))
noncomputable def qG:Nat→aC→aC→Option Bool
 | 0,_,_=>none
 | n+1,p0a,p1b =>
  (gd ((cond (cond (decide (p0a.Kind=p1b.Kind)) (decide (p0a.Int=p1b.Int)) false) (decide (p0a.Text=p1b.Text)) false)==true) (gG p0a.Keys p1b.Keys)).bind fun x1=>(gd ((cond (cond (cond (decide (p0a.Kind=p1b.Kind)) (decide (p0a.Int=p1b.Int)) false) (decide (p0a.Text=p1b.Text)) false) x1 false)==true) ((cO n) p0a.Items p1b.Items)).bind fun x3=>some (cond (cond (cond (cond (decide (p0a.Kind=p1b.Kind)) (decide (p0a.Int=p1b.Int)) false) (decide (p0a.Text=p1b.Text)) false) x1 false) x3 false)
end
theorem iG:∀ n:Nat,(∀ {wY:(List aC)}{zQ:(List aC)}{res:Bool},cO n wY zQ=some res→bS Tryz.prog 172 [.c (PV.ls 5 bF wY),.c (PV.ls 5 bF zQ),.fn 116 []] [] (.c (.bool res)) [])∧(∀ {p0a:aC}{p1b:aC}{res:Bool},qG n p0a p1b=some res→bS Tryz.prog 116 [.agg (AV.cs (cQ p0a)),.agg (AV.cs (cQ p1b))] [] (.c (.bool res)) []):=by
 intro n
 induction n with
 | zero=>exact ⟨fun {wY zQ res} h=>absurd h (by simp [cO]),fun {p0a p1b res} h=>absurd h (by simp [qG])⟩
 | succ n ih =>
  obtain ⟨ih_slices_EqualFunc_api_Value_api_Value_api_Value_api_Value_value_Same,ih_value_Same⟩:=ih
  refine ⟨?_,?_⟩
  ·
   intro wY zQ res h
   rw [cO] at h
   refine cJ (fn:=Tryz.f172) [0,1,2,6,7,8,9,14,15,16,17,18,30] (by kernel_rfl) Tryz.func172 r (by kernel_rfl) (by kernel_rfl)<|aH<|sB r<|aF (fr':=[(0,aL),(1,aL),(2,.fn _ [])]) r r<|aP<|aH<|mL r<|aM r (dI nH (cC r))<|mL r<|aM r (dI nH (cC r))<|aM r (fI r r) ?_
   refine aF (fr':=[(0,aL),(1,aL),(2,.fn _ []),(14,aB)]) r r<|bP h r (fun hb1 h1=>?_) (fun hb1 h1=>?_)
   ·
    refine aH<|sB r<|aF (fr':=[(6,aB)]) r r<|bC<|aJ ?_
    obtain rfl:=sy h1
    exact bB (rs':=[.tmp 6]) r<|bH (v:=aB) r<|aZ<|aN [] r r r lr aA
   ·
    refine aW<|bV<|aP<|aH<|mL r<|aM r (dI nH (cC r))<|mI r<|aF (fr':=[(1,aL),(2,.fn _ []),(15,aL),(16,aI),(17,aI)]) r r ?_
    obtain ⟨x3,hx3,h4⟩:=aE h1
    refine eB gF (fun j5=>x3=Fl.go j5) (fun (j5:Unit)=>([]:Fr)) (fun (j5:Unit)=>([]:St)) ?_ ?_
    ·
     refine bJ<|dV _ (fun (s6:Int)=>([(1,.c (PV.ls 5 bF zQ)),(2,.fn 116 []),(15,.c (PV.ls 5 bF wY)),(16,ci ((wY).length:Int)),(17,ci s6)]:Fr)) (fun (s6:Int)=>([]:St)) hx3 (aU [] 0 r r r r ⟨lr,lr,lr,lr,lr,trivial⟩ aA) ?_
     intro s6 st6 hs6 ho6
     unfold dD at hs6
     refine aH<|aM r (dJ r r)<|aF (fr':=[(1,aL),(2,.fn _ []),(15,aL),(16,aI),(17,aI),(18,aB)]) r r<|aP<|bP hs6 r (fun hb7 h7=>?_) (fun hb7 h7=>?_)
     ·
      refine aW<|bV<|aP<|bJ<|aH<|mI r ?_
      obtain ⟨x8,hx8,h9⟩:=aE h7
      refine aM r (gR (cs:=[PV.int _ _,PV.int _ _,PV.str _,PV.ls _ _ _,PV.ls _ _ _]) mP (cC r) r hx8 (cE _))<|aM r (gM (us:=[PV.int _ _,PV.int _ _,PV.str _,PV.ls _ _ _,PV.ls _ _ _]) fM r r r)<|gC (n:=0) (cs:=bT) (σ':=[bT]) aCi r r r<|sI r<|bU (v:=.agg bL) (us:=bL) (cs:=bT) (σ':=[bL]) r fM r r r r r r r r<|aF (fr':=[(1,aL),(2,.fn _ []),(7,aI),(8,.box 0 0),(15,aL),(16,aI),(17,aI)]) r r<|aH<|mL r<|mI r ?_
      obtain ⟨x10,hx10,h11⟩:=aE h9
      refine aM r (gR (cs:=[PV.int _ _,PV.int _ _,PV.str _,PV.ls _ _ _,PV.ls _ _ _]) mP (cC r) r hx10 (cE _))<|aM r (gM (us:=[PV.int _ _,PV.int _ _,PV.str _,PV.ls _ _ _,PV.ls _ _ _]) fM r r r)<|gC (n:=1) (cs:=bT) (σ':=[bL,bT]) aCi r r r<|bU (v:=.agg bL) (us:=bL) (cs:=bT) (σ':=[bL,bL]) r fM r r r r r r r r<|aF (fr':=[(1,aL),(2,.fn _ []),(8,.box 0 0),(9,.box 1 0),(15,aL),(16,aI),(17,aI)]) r r<|aH<|mV (v:=.fn _ []) r<|aM r (cN (us:=bL) fM r r r r)<|aM r (cN (us:=bL) fM r r r r) ?_
      obtain ⟨x12,hx12,h13⟩:=aE h11
      refine gV (aX (v:=aB) r (ih_value_Same hx12) ⟨(bK r ⟨r,r,r,r,r,trivial⟩),(bK r ⟨r,r,r,r,r,trivial⟩),trivial⟩ r r r)<|aM r (eI r)<|aF (fr':=[(1,aL),(2,.fn _ []),(15,aL),(16,aI),(17,aI),(30,aB)]) r r<|bP h13 r (fun hb14 h14=>?_) (fun hb14 h14=>?_)
      ·
       refine aH<|sB r<|aF (fr':=[(6,aB)]) r r<|bC<|bA<|aJ<|aJ<|bA<|aJ<|aJ ?_
       have h15:=cS h14 ho6
       have h16:=dQ h15 h4
       obtain rfl:=sy h16
       exact bB (rs':=[.tmp 6]) r<|bH (v:=aB) r<|aZ<|aN [] r r r lr aA
      ·
       exact aW<|bX<|bV<|aQ<|aM r (dB r r)<|mI r<|cB (fr':=[(1,aL),(2,.fn _ []),(15,aL),(16,aI),(17,aI),(30,aB)]) r<|rX _ (sy h14) (aU [] 0 r r r r ⟨lr,lr,lr,lr,lr,trivial⟩ aA)
     ·
      refine eK<|bR<|bR<|dC ?_
      have h18:=cS h7 ho6
      exact gD _ (sy h18) (aU [] 0 r r r r trivial aA)
    ·
     intro j5 hj19
     have h19:=iC hj19 h4
     refine bV<|aH<|sB r<|aF (fr':=[(6,aB)]) r r<|bC ?_
     obtain rfl:=sy h19
     exact bB (rs':=[.tmp 6]) r<|bH (v:=aB) r<|aZ<|aN [] r r r lr aA
  ·
   intro p0a p1b res h
   rw [qG] at h
   refine cJ (fn:=Tryz.f116) [0,1,2,3,4] (by kernel_rfl) Tryz.func116 r (by kernel_rfl) (by kernel_rfl)<|aH<|fS (v:=.agg bL) (n:=0) (cs:=bL) (σ':=[bL]) r r r r r<|fS (v:=.agg bL) (n:=1) (cs:=bL) (σ':=[bL,bL]) r r r r r<|sB r<|aF (fr':=[(2,.box 0 0),(3,.box 1 0)]) r r<|aH<|aM r (bD gW r)<|aM r (aK (v:=aI) eP r r r)<|aM r (bD gW r)<|aM r (aK (v:=aI) eP r r r) ?_
   refine aM r (bM r r)<|mB r<|og r r r (fun hc=>(bD mM r))<|og r r r (fun hc=>(aK (v:=aI) eP (gx r hc) r r))<|og r r r (fun hc=>(bD mM r))<|og r r r (fun hc=>(aK (v:=aI) eP (gx r hc) r r))<|og r r r (fun hc=>(bM (gx r hc) (gx r hc)))<|aM r (bO r r r (fun e=>eO e))<|mB r<|og r r r (fun hc=>(bD lT r))<|og r r r (fun hc=>(aK (v:=aS) kD (gx r hc) r r))<|og r r r (fun hc=>(bD lT r))<|og r r r (fun hc=>(aK (v:=aS) kD (gx r hc) r r)) ?_
   refine og r r r (fun hc=>(oU (gx r hc) (gx r hc)))<|aM r (bO r r r (fun e=>eO e))<|mB r<|og r r r (fun hc=>(bD jA r))<|og r r r (fun hc=>(aK (v:=aL) kM (gx r hc) r r))<|og r r r (fun hc=>(bD jA r))<|og r r r (fun hc=>(aK (v:=aL) kM (gx r hc) r r)) ?_
   obtain ⟨x1,hx1,h2⟩:=aE h
   refine sM r r (fun hc=>aX (v:=aB) r (oL (cA hx1 hc)) ⟨(eH (gx r hc) lr),(eH (gx r hc) lr),trivial⟩ (fA (by repeat (first | exact dX | refine aY r ?_ | refine aY (oS r) ?_ | refine aY oR ?_))) r r) ?_
   refine aM r (bO r r r (fun e=>eO e))<|mB r<|og r r r (fun hc=>(bD eJ r))<|og r r r (fun hc=>(aK (v:=aL) iF (gx r hc) r r))<|og r r r (fun hc=>(bD eJ r))<|og r r r (fun hc=>(aK (v:=aL) iF (gx r hc) r r)) ?_
   obtain ⟨x3,hx3,h4⟩:=aE h2
   refine sM r r (fun hc=>aX (v:=aB) r (ih_slices_EqualFunc_api_Value_api_Value_api_Value_api_Value_value_Same (cA hx3 hc)) ⟨(eH (gx r hc) lr),(eH (gx r hc) lr),lr,trivial⟩ (fA (by repeat (first | exact dX | refine aY r ?_ | refine aY (oS r) ?_ | refine aY oR ?_))) r r) ?_
   refine aM r (bO r r r (fun e=>eO e))<|sB r<|aF (fr':=[(4,aB)]) r r<|bC ?_
   obtain rfl:=sy h4
   exact bB (rs':=[.tmp 4]) r<|bH (v:=aB) r<|aZ<|aN [] r r r lr aA
noncomputable def zY (p0a:aC) (p1b:aC):Option Bool:=lim fun n=>qG n p0a p1b
theorem aC4 {p0a:aC}{p1b:aC}{res:Bool} (h:zY p0a p1b=some res):bS Tryz.prog 116 [.agg (AV.cs (cQ p0a)),.agg (AV.cs (cQ p1b))] [] (.c (.bool res)) []:=by
 obtain ⟨n,hn⟩:=jZ h
 exact (iG n).2 hn
noncomputable def jF (p0a:bG) (p1b:bG):Option Bool :=
 (kK p0a).bind fun x1=>(kK p1b).bind fun x4=>cond (!decide (p0a.ToStart=p1b.ToStart)) (some false) (cond (!decide (p0a.ToClose=p1b.ToClose)) (some false) (cond (!decide (p0a.Total=p1b.Total)) (some false) (cond (!decide (p0a.Beat=p1b.Beat)) (some false) (cond (!decide (p0a.First=p1b.First)) (some false) (cond (!decide (p0a.Coef=p1b.Coef)) (some false) (cond (!decide (p0a.Most=p1b.Most)) (some false) (cond (!decide (p0a.Attempts=p1b.Attempts)) (some false) ((gd ((decide (p0a.Queue=p1b.Queue))==true) (gG p0a.Fatal p1b.Fatal)).bind fun x23=>some (cond (decide (p0a.Queue=p1b.Queue)) x23 false)))))))))
theorem vP {p0a:bG}{p1b:bG}{res:Bool} (h:jF p0a p1b=some res):bS Tryz.prog 117 [.agg (AV.cs (gS p0a)),.agg (AV.cs (gS p1b))] [] (.c (.bool res)) []:=by
 unfold jF at h
 refine cJ (fn:=Tryz.f117) [0,1,2,3,4,5,6,7,11,12,13,27] (by kernel_rfl) Tryz.func117 r (by kernel_rfl) (by kernel_rfl)<|aH<|fS (v:=.agg bZ) (n:=0) (cs:=bZ) (σ':=[bZ]) r r r r r<|fS (v:=.agg bZ) (n:=1) (cs:=bZ) (σ':=[bZ,bZ]) r r r r r<|sB r<|aF (fr':=[(2,.box 0 0),(3,.box 1 0)]) r r<|aP<|aQ ?_
 obtain ⟨x1,hx1,h2⟩:=aE h
 refine xT (v:=.ptrs [(0,1),(0,2),(0,3),(0,4),(0,5),(0,6),(0,7),(0,8)]) (σ':=[bZ,bZ]) 8 [0] [] r (uB hx1) r r r ⟨lr,trivial⟩ (fO ⟨r,r,r,r,r,r,r,r,r,r,trivial⟩ aA) r r r ?_
 obtain ⟨x4,hx4,h5⟩:=aE h2
 refine xT (v:=.ptrs [(1,1),(1,2),(1,3),(1,4),(1,5),(1,6),(1,7),(1,8)]) (σ':=[bZ,bZ]) 9 [1] [] r (uB hx4) r r r ⟨lr,trivial⟩ (fO ⟨r,r,r,r,r,r,r,r,r,r,trivial⟩ aA) r r r<|sV (v:=.ptrs [(0,1),(0,2),(0,3),(0,4),(0,5),(0,6),(0,7),(0,8)]) r<|sV (v:=.ptrs [(1,1),(1,2),(1,3),(1,4),(1,5),(1,6),(1,7),(1,8)]) r<|aF (fr':=[(2,.box 0 0),(3,.box 1 0),(5,.ptrs [(0,1),(0,2),(0,3),(0,4),(0,5),(0,6),(0,7),(0,8)]),(6,.ptrs [(1,1),(1,2),(1,3),(1,4),(1,5),(1,6),(1,7),(1,8)])]) r r<|aP<|aH<|mV (v:=.ptrs [(0,1),(0,2),(0,3),(0,4),(0,5),(0,6),(0,7),(0,8)]) r<|aM r (aHS aPn r)<|mI r<|aF (fr':=[(2,.box 0 0),(3,.box 1 0),(5,.ptrs [(0,1),(0,2),(0,3),(0,4),(0,5),(0,6),(0,7),(0,8)]),(6,.ptrs [(1,1),(1,2),(1,3),(1,4),(1,5),(1,6),(1,7),(1,8)]),(11,aI),(12,aI)]) r r<|bJ<|aLu 64 ?_
 refine pT<|aH<|aM r (rC (dJ r r) (show _=.bool true from r))<|aF (fr':=[(2,.box 0 0),(3,.box 1 0),(5,.ptrs [(0,1),(0,2),(0,3),(0,4),(0,5),(0,6),(0,7),(0,8)]),(6,.ptrs [(1,1),(1,2),(1,3),(1,4),(1,5),(1,6),(1,7),(1,8)]),(11,aI),(12,aI),(13,aB)]) r r<|aP<|fL r<|aW<|bV<|aP<|bJ<|aP<|aQ ?_
 refine mI r<|sI r<|aF (fr':=[(2,.box 0 0),(3,.box 1 0),(5,.ptrs [(0,1),(0,2),(0,3),(0,4),(0,5),(0,6),(0,7),(0,8)]),(6,.ptrs [(1,1),(1,2),(1,3),(1,4),(1,5),(1,6),(1,7),(1,8)]),(7,aI),(11,aI),(12,aI)]) r r<|aP<|hF [.q 0,.q 1,.q 2,.q 3,.q 4,.q 5,.q 6,.q 7,.q 8,.q 9,.q 10,.q 11,.q 12] [(some 15,[5]),(some 16,[7]),(some 17,[15,16]),(some 18,[17]),(some 19,[18]),(some 20,[19]),(some 21,[6]),(some 22,[7]),(some 23,[21,22]),(some 24,[23]),(some 25,[24]),(some 26,[25]),(some 27,[20,26])] [0,0,3,7,15,31,0,0,192,448,960,1984,4095] (by kernel_rfl)<|dq r r (bE (v:=.ptrs [(0,1),(0,2),(0,3),(0,4),(0,5),(0,6),(0,7),(0,8)]) r)<|dq r r (bE (v:=aI) r)<|dq r r (iR (p:=(0,1)) mQ r r r)<|dq r r (fN nS r)<|dq r r (fX r)<|dq r r (aK (v:=aI) eP r r r)<|dq r r (bE (v:=.ptrs [(1,1),(1,2),(1,3),(1,4),(1,5),(1,6),(1,7),(1,8)]) r)<|dq r r (bE (v:=aI) r) ?_
 refine dq r r (iR (p:=(1,1)) mQ r r r)<|dq r r (fN nS r)<|dq r r (fX r)<|dq r r (aK (v:=aI) eP r r r)<|dq r r (fI r r)<|uE (fr':=[(2,.box 0 0),(3,.box 1 0),(5,.ptrs [(0,1),(0,2),(0,3),(0,4),(0,5),(0,6),(0,7),(0,8)]),(6,.ptrs [(1,1),(1,2),(1,3),(1,4),(1,5),(1,6),(1,7),(1,8)]),(11,aI),(12,aI),(27,aB)]) r r<|bP h5 r (fun hb7 h7=>?_) (fun hb7 h7=>?_)
 ·
  refine aH<|sB r<|aF (fr':=[(4,aB)]) r r<|bC<|bA<|aJ<|aJ<|bA<|aJ ?_
  obtain rfl:=sy h7
  exact bB (rs':=[.tmp 4]) r<|bH (v:=aB) r<|aZ<|aN [] r r r lr aA
 ·
  refine aW<|bX<|bV<|aQ<|aM r (rC (dB r r) (show _=.int .i64 (1:Int) from r))<|mI r<|cB (fr':=[(2,.box 0 0),(3,.box 1 0),(5,.ptrs [(0,1),(0,2),(0,3),(0,4),(0,5),(0,6),(0,7),(0,8)]),(6,.ptrs [(1,1),(1,2),(1,3),(1,4),(1,5),(1,6),(1,7),(1,8)]),(11,aI),(12,aI),(27,aB)]) r<|gP<|pT<|aH<|aM r (rC (dJ r r) (show _=.bool true from r))<|aF (fr':=[(2,.box 0 0),(3,.box 1 0),(5,.ptrs [(0,1),(0,2),(0,3),(0,4),(0,5),(0,6),(0,7),(0,8)]),(6,.ptrs [(1,1),(1,2),(1,3),(1,4),(1,5),(1,6),(1,7),(1,8)]),(11,aI),(12,aI),(13,aB)]) r r ?_
  refine aP<|fL r<|aW<|bV<|aP<|bJ<|aH<|mI r<|sI r<|aF (fr':=[(2,.box 0 0),(3,.box 1 0),(5,.ptrs [(0,1),(0,2),(0,3),(0,4),(0,5),(0,6),(0,7),(0,8)]),(6,.ptrs [(1,1),(1,2),(1,3),(1,4),(1,5),(1,6),(1,7),(1,8)]),(7,aI),(11,aI),(12,aI)]) r r<|aP<|hF [.q 0,.q 1,.q 2,.q 3,.q 4,.q 5,.q 6,.q 7,.q 8,.q 9,.q 10,.q 11,.q 12] [(some 15,[5]),(some 16,[7]),(some 17,[15,16]),(some 18,[17]),(some 19,[18]),(some 20,[19]),(some 21,[6]),(some 22,[7]),(some 23,[21,22]),(some 24,[23]),(some 25,[24]),(some 26,[25]),(some 27,[20,26])] [0,0,3,7,15,31,0,0,192,448,960,1984,4095] (by kernel_rfl) ?_
  refine dq r r (bE (v:=.ptrs [(0,1),(0,2),(0,3),(0,4),(0,5),(0,6),(0,7),(0,8)]) r)<|dq r r (bE (v:=aI) r)<|dq r r (iR (p:=(0,2)) mQ r r r)<|dq r r (fN nS r)<|dq r r (fX r)<|dq r r (aK (v:=aI) eP r r r)<|dq r r (bE (v:=.ptrs [(1,1),(1,2),(1,3),(1,4),(1,5),(1,6),(1,7),(1,8)]) r)<|dq r r (bE (v:=aI) r)<|dq r r (iR (p:=(1,2)) mQ r r r)<|dq r r (fN nS r)<|dq r r (fX r)<|dq r r (aK (v:=aI) eP r r r)<|dq r r (fI r r) ?_
  refine uE (fr':=[(2,.box 0 0),(3,.box 1 0),(5,.ptrs [(0,1),(0,2),(0,3),(0,4),(0,5),(0,6),(0,7),(0,8)]),(6,.ptrs [(1,1),(1,2),(1,3),(1,4),(1,5),(1,6),(1,7),(1,8)]),(11,aI),(12,aI),(27,aB)]) r r<|bP h7 r (fun hb9 h9=>?_) (fun hb9 h9=>?_)
  ·
   refine aH<|sB r<|aF (fr':=[(4,aB)]) r r<|bC<|bA<|aJ<|aJ<|bA<|aJ ?_
   obtain rfl:=sy h9
   exact bB (rs':=[.tmp 4]) r<|bH (v:=aB) r<|aZ<|aN [] r r r lr aA
  ·
   refine aW<|bX<|bV<|aQ<|aM r (rC (dB r r) (show _=.int .i64 (2:Int) from r))<|mI r<|cB (fr':=[(2,.box 0 0),(3,.box 1 0),(5,.ptrs [(0,1),(0,2),(0,3),(0,4),(0,5),(0,6),(0,7),(0,8)]),(6,.ptrs [(1,1),(1,2),(1,3),(1,4),(1,5),(1,6),(1,7),(1,8)]),(11,aI),(12,aI),(27,aB)]) r<|gP<|pT<|aH<|aM r (rC (dJ r r) (show _=.bool true from r))<|aF (fr':=[(2,.box 0 0),(3,.box 1 0),(5,.ptrs [(0,1),(0,2),(0,3),(0,4),(0,5),(0,6),(0,7),(0,8)]),(6,.ptrs [(1,1),(1,2),(1,3),(1,4),(1,5),(1,6),(1,7),(1,8)]),(11,aI),(12,aI),(13,aB)]) r r ?_
   refine aP<|fL r<|aW<|bV<|aP<|bJ<|aH<|mI r<|sI r<|aF (fr':=[(2,.box 0 0),(3,.box 1 0),(5,.ptrs [(0,1),(0,2),(0,3),(0,4),(0,5),(0,6),(0,7),(0,8)]),(6,.ptrs [(1,1),(1,2),(1,3),(1,4),(1,5),(1,6),(1,7),(1,8)]),(7,aI),(11,aI),(12,aI)]) r r<|aP<|hF [.q 0,.q 1,.q 2,.q 3,.q 4,.q 5,.q 6,.q 7,.q 8,.q 9,.q 10,.q 11,.q 12] [(some 15,[5]),(some 16,[7]),(some 17,[15,16]),(some 18,[17]),(some 19,[18]),(some 20,[19]),(some 21,[6]),(some 22,[7]),(some 23,[21,22]),(some 24,[23]),(some 25,[24]),(some 26,[25]),(some 27,[20,26])] [0,0,3,7,15,31,0,0,192,448,960,1984,4095] (by kernel_rfl) ?_
   refine dq r r (bE (v:=.ptrs [(0,1),(0,2),(0,3),(0,4),(0,5),(0,6),(0,7),(0,8)]) r)<|dq r r (bE (v:=aI) r)<|dq r r (iR (p:=(0,3)) mQ r r r)<|dq r r (fN nS r)<|dq r r (fX r)<|dq r r (aK (v:=aI) eP r r r)<|dq r r (bE (v:=.ptrs [(1,1),(1,2),(1,3),(1,4),(1,5),(1,6),(1,7),(1,8)]) r)<|dq r r (bE (v:=aI) r)<|dq r r (iR (p:=(1,3)) mQ r r r)<|dq r r (fN nS r)<|dq r r (fX r)<|dq r r (aK (v:=aI) eP r r r)<|dq r r (fI r r) ?_
   refine uE (fr':=[(2,.box 0 0),(3,.box 1 0),(5,.ptrs [(0,1),(0,2),(0,3),(0,4),(0,5),(0,6),(0,7),(0,8)]),(6,.ptrs [(1,1),(1,2),(1,3),(1,4),(1,5),(1,6),(1,7),(1,8)]),(11,aI),(12,aI),(27,aB)]) r r<|bP h9 r (fun hb11 h11=>?_) (fun hb11 h11=>?_)
   ·
    refine aH<|sB r<|aF (fr':=[(4,aB)]) r r<|bC<|bA<|aJ<|aJ<|bA<|aJ ?_
    obtain rfl:=sy h11
    exact bB (rs':=[.tmp 4]) r<|bH (v:=aB) r<|aZ<|aN [] r r r lr aA
   ·
    refine aW<|bX<|bV<|aQ<|aM r (rC (dB r r) (show _=.int .i64 (3:Int) from r))<|mI r<|cB (fr':=[(2,.box 0 0),(3,.box 1 0),(5,.ptrs [(0,1),(0,2),(0,3),(0,4),(0,5),(0,6),(0,7),(0,8)]),(6,.ptrs [(1,1),(1,2),(1,3),(1,4),(1,5),(1,6),(1,7),(1,8)]),(11,aI),(12,aI),(27,aB)]) r<|gP<|pT<|aH<|aM r (rC (dJ r r) (show _=.bool true from r))<|aF (fr':=[(2,.box 0 0),(3,.box 1 0),(5,.ptrs [(0,1),(0,2),(0,3),(0,4),(0,5),(0,6),(0,7),(0,8)]),(6,.ptrs [(1,1),(1,2),(1,3),(1,4),(1,5),(1,6),(1,7),(1,8)]),(11,aI),(12,aI),(13,aB)]) r r ?_
    refine aP<|fL r<|aW<|bV<|aP<|bJ<|aH<|mI r<|sI r<|aF (fr':=[(2,.box 0 0),(3,.box 1 0),(5,.ptrs [(0,1),(0,2),(0,3),(0,4),(0,5),(0,6),(0,7),(0,8)]),(6,.ptrs [(1,1),(1,2),(1,3),(1,4),(1,5),(1,6),(1,7),(1,8)]),(7,aI),(11,aI),(12,aI)]) r r<|aP<|hF [.q 0,.q 1,.q 2,.q 3,.q 4,.q 5,.q 6,.q 7,.q 8,.q 9,.q 10,.q 11,.q 12] [(some 15,[5]),(some 16,[7]),(some 17,[15,16]),(some 18,[17]),(some 19,[18]),(some 20,[19]),(some 21,[6]),(some 22,[7]),(some 23,[21,22]),(some 24,[23]),(some 25,[24]),(some 26,[25]),(some 27,[20,26])] [0,0,3,7,15,31,0,0,192,448,960,1984,4095] (by kernel_rfl) ?_
    refine dq r r (bE (v:=.ptrs [(0,1),(0,2),(0,3),(0,4),(0,5),(0,6),(0,7),(0,8)]) r)<|dq r r (bE (v:=aI) r)<|dq r r (iR (p:=(0,4)) mQ r r r)<|dq r r (fN nS r)<|dq r r (fX r)<|dq r r (aK (v:=aI) eP r r r)<|dq r r (bE (v:=.ptrs [(1,1),(1,2),(1,3),(1,4),(1,5),(1,6),(1,7),(1,8)]) r)<|dq r r (bE (v:=aI) r)<|dq r r (iR (p:=(1,4)) mQ r r r)<|dq r r (fN nS r)<|dq r r (fX r)<|dq r r (aK (v:=aI) eP r r r)<|dq r r (fI r r) ?_
    refine uE (fr':=[(2,.box 0 0),(3,.box 1 0),(5,.ptrs [(0,1),(0,2),(0,3),(0,4),(0,5),(0,6),(0,7),(0,8)]),(6,.ptrs [(1,1),(1,2),(1,3),(1,4),(1,5),(1,6),(1,7),(1,8)]),(11,aI),(12,aI),(27,aB)]) r r<|bP h11 r (fun hb13 h13=>?_) (fun hb13 h13=>?_)
    ·
     refine aH<|sB r<|aF (fr':=[(4,aB)]) r r<|bC<|bA<|aJ<|aJ<|bA<|aJ ?_
     obtain rfl:=sy h13
     exact bB (rs':=[.tmp 4]) r<|bH (v:=aB) r<|aZ<|aN [] r r r lr aA
    ·
     refine aW<|bX<|bV<|aQ<|aM r (rC (dB r r) (show _=.int .i64 (4:Int) from r))<|mI r<|cB (fr':=[(2,.box 0 0),(3,.box 1 0),(5,.ptrs [(0,1),(0,2),(0,3),(0,4),(0,5),(0,6),(0,7),(0,8)]),(6,.ptrs [(1,1),(1,2),(1,3),(1,4),(1,5),(1,6),(1,7),(1,8)]),(11,aI),(12,aI),(27,aB)]) r<|gP<|pT<|aH<|aM r (rC (dJ r r) (show _=.bool true from r))<|aF (fr':=[(2,.box 0 0),(3,.box 1 0),(5,.ptrs [(0,1),(0,2),(0,3),(0,4),(0,5),(0,6),(0,7),(0,8)]),(6,.ptrs [(1,1),(1,2),(1,3),(1,4),(1,5),(1,6),(1,7),(1,8)]),(11,aI),(12,aI),(13,aB)]) r r ?_
     refine aP<|fL r<|aW<|bV<|aP<|bJ<|aH<|mI r<|sI r<|aF (fr':=[(2,.box 0 0),(3,.box 1 0),(5,.ptrs [(0,1),(0,2),(0,3),(0,4),(0,5),(0,6),(0,7),(0,8)]),(6,.ptrs [(1,1),(1,2),(1,3),(1,4),(1,5),(1,6),(1,7),(1,8)]),(7,aI),(11,aI),(12,aI)]) r r<|aP<|hF [.q 0,.q 1,.q 2,.q 3,.q 4,.q 5,.q 6,.q 7,.q 8,.q 9,.q 10,.q 11,.q 12] [(some 15,[5]),(some 16,[7]),(some 17,[15,16]),(some 18,[17]),(some 19,[18]),(some 20,[19]),(some 21,[6]),(some 22,[7]),(some 23,[21,22]),(some 24,[23]),(some 25,[24]),(some 26,[25]),(some 27,[20,26])] [0,0,3,7,15,31,0,0,192,448,960,1984,4095] (by kernel_rfl) ?_
     refine dq r r (bE (v:=.ptrs [(0,1),(0,2),(0,3),(0,4),(0,5),(0,6),(0,7),(0,8)]) r)<|dq r r (bE (v:=aI) r)<|dq r r (iR (p:=(0,5)) mQ r r r)<|dq r r (fN nS r)<|dq r r (fX r)<|dq r r (aK (v:=aI) eP r r r)<|dq r r (bE (v:=.ptrs [(1,1),(1,2),(1,3),(1,4),(1,5),(1,6),(1,7),(1,8)]) r)<|dq r r (bE (v:=aI) r)<|dq r r (iR (p:=(1,5)) mQ r r r)<|dq r r (fN nS r)<|dq r r (fX r)<|dq r r (aK (v:=aI) eP r r r)<|dq r r (fI r r) ?_
     refine uE (fr':=[(2,.box 0 0),(3,.box 1 0),(5,.ptrs [(0,1),(0,2),(0,3),(0,4),(0,5),(0,6),(0,7),(0,8)]),(6,.ptrs [(1,1),(1,2),(1,3),(1,4),(1,5),(1,6),(1,7),(1,8)]),(11,aI),(12,aI),(27,aB)]) r r<|bP h13 r (fun hb15 h15=>?_) (fun hb15 h15=>?_)
     ·
      refine aH<|sB r<|aF (fr':=[(4,aB)]) r r<|bC<|bA<|aJ<|aJ<|bA<|aJ ?_
      obtain rfl:=sy h15
      exact bB (rs':=[.tmp 4]) r<|bH (v:=aB) r<|aZ<|aN [] r r r lr aA
     ·
      refine aW<|bX<|bV<|aQ<|aM r (rC (dB r r) (show _=.int .i64 (5:Int) from r))<|mI r<|cB (fr':=[(2,.box 0 0),(3,.box 1 0),(5,.ptrs [(0,1),(0,2),(0,3),(0,4),(0,5),(0,6),(0,7),(0,8)]),(6,.ptrs [(1,1),(1,2),(1,3),(1,4),(1,5),(1,6),(1,7),(1,8)]),(11,aI),(12,aI),(27,aB)]) r<|gP<|pT<|aH<|aM r (rC (dJ r r) (show _=.bool true from r))<|aF (fr':=[(2,.box 0 0),(3,.box 1 0),(5,.ptrs [(0,1),(0,2),(0,3),(0,4),(0,5),(0,6),(0,7),(0,8)]),(6,.ptrs [(1,1),(1,2),(1,3),(1,4),(1,5),(1,6),(1,7),(1,8)]),(11,aI),(12,aI),(13,aB)]) r r ?_
      refine aP<|fL r<|aW<|bV<|aP<|bJ<|aH<|mI r<|sI r<|aF (fr':=[(2,.box 0 0),(3,.box 1 0),(5,.ptrs [(0,1),(0,2),(0,3),(0,4),(0,5),(0,6),(0,7),(0,8)]),(6,.ptrs [(1,1),(1,2),(1,3),(1,4),(1,5),(1,6),(1,7),(1,8)]),(7,aI),(11,aI),(12,aI)]) r r<|aP<|hF [.q 0,.q 1,.q 2,.q 3,.q 4,.q 5,.q 6,.q 7,.q 8,.q 9,.q 10,.q 11,.q 12] [(some 15,[5]),(some 16,[7]),(some 17,[15,16]),(some 18,[17]),(some 19,[18]),(some 20,[19]),(some 21,[6]),(some 22,[7]),(some 23,[21,22]),(some 24,[23]),(some 25,[24]),(some 26,[25]),(some 27,[20,26])] [0,0,3,7,15,31,0,0,192,448,960,1984,4095] (by kernel_rfl) ?_
      refine dq r r (bE (v:=.ptrs [(0,1),(0,2),(0,3),(0,4),(0,5),(0,6),(0,7),(0,8)]) r)<|dq r r (bE (v:=aI) r)<|dq r r (iR (p:=(0,6)) mQ r r r)<|dq r r (fN nS r)<|dq r r (fX r)<|dq r r (aK (v:=aI) eP r r r)<|dq r r (bE (v:=.ptrs [(1,1),(1,2),(1,3),(1,4),(1,5),(1,6),(1,7),(1,8)]) r)<|dq r r (bE (v:=aI) r)<|dq r r (iR (p:=(1,6)) mQ r r r)<|dq r r (fN nS r)<|dq r r (fX r)<|dq r r (aK (v:=aI) eP r r r)<|dq r r (fI r r) ?_
      refine uE (fr':=[(2,.box 0 0),(3,.box 1 0),(5,.ptrs [(0,1),(0,2),(0,3),(0,4),(0,5),(0,6),(0,7),(0,8)]),(6,.ptrs [(1,1),(1,2),(1,3),(1,4),(1,5),(1,6),(1,7),(1,8)]),(11,aI),(12,aI),(27,aB)]) r r<|bP h15 r (fun hb17 h17=>?_) (fun hb17 h17=>?_)
      ·
       refine aH<|sB r<|aF (fr':=[(4,aB)]) r r<|bC<|bA<|aJ<|aJ<|bA<|aJ ?_
       obtain rfl:=sy h17
       exact bB (rs':=[.tmp 4]) r<|bH (v:=aB) r<|aZ<|aN [] r r r lr aA
      ·
       refine aW<|bX<|bV<|aQ<|aM r (rC (dB r r) (show _=.int .i64 (6:Int) from r))<|mI r<|cB (fr':=[(2,.box 0 0),(3,.box 1 0),(5,.ptrs [(0,1),(0,2),(0,3),(0,4),(0,5),(0,6),(0,7),(0,8)]),(6,.ptrs [(1,1),(1,2),(1,3),(1,4),(1,5),(1,6),(1,7),(1,8)]),(11,aI),(12,aI),(27,aB)]) r<|gP<|pT<|aH<|aM r (rC (dJ r r) (show _=.bool true from r))<|aF (fr':=[(2,.box 0 0),(3,.box 1 0),(5,.ptrs [(0,1),(0,2),(0,3),(0,4),(0,5),(0,6),(0,7),(0,8)]),(6,.ptrs [(1,1),(1,2),(1,3),(1,4),(1,5),(1,6),(1,7),(1,8)]),(11,aI),(12,aI),(13,aB)]) r r ?_
       refine aP<|fL r<|aW<|bV<|aP<|bJ<|aH<|mI r<|sI r<|aF (fr':=[(2,.box 0 0),(3,.box 1 0),(5,.ptrs [(0,1),(0,2),(0,3),(0,4),(0,5),(0,6),(0,7),(0,8)]),(6,.ptrs [(1,1),(1,2),(1,3),(1,4),(1,5),(1,6),(1,7),(1,8)]),(7,aI),(11,aI),(12,aI)]) r r<|aP<|hF [.q 0,.q 1,.q 2,.q 3,.q 4,.q 5,.q 6,.q 7,.q 8,.q 9,.q 10,.q 11,.q 12] [(some 15,[5]),(some 16,[7]),(some 17,[15,16]),(some 18,[17]),(some 19,[18]),(some 20,[19]),(some 21,[6]),(some 22,[7]),(some 23,[21,22]),(some 24,[23]),(some 25,[24]),(some 26,[25]),(some 27,[20,26])] [0,0,3,7,15,31,0,0,192,448,960,1984,4095] (by kernel_rfl) ?_
       refine dq r r (bE (v:=.ptrs [(0,1),(0,2),(0,3),(0,4),(0,5),(0,6),(0,7),(0,8)]) r)<|dq r r (bE (v:=aI) r)<|dq r r (iR (p:=(0,7)) mQ r r r)<|dq r r (fN nS r)<|dq r r (fX r)<|dq r r (aK (v:=aI) eP r r r)<|dq r r (bE (v:=.ptrs [(1,1),(1,2),(1,3),(1,4),(1,5),(1,6),(1,7),(1,8)]) r)<|dq r r (bE (v:=aI) r)<|dq r r (iR (p:=(1,7)) mQ r r r)<|dq r r (fN nS r)<|dq r r (fX r)<|dq r r (aK (v:=aI) eP r r r)<|dq r r (fI r r) ?_
       refine uE (fr':=[(2,.box 0 0),(3,.box 1 0),(5,.ptrs [(0,1),(0,2),(0,3),(0,4),(0,5),(0,6),(0,7),(0,8)]),(6,.ptrs [(1,1),(1,2),(1,3),(1,4),(1,5),(1,6),(1,7),(1,8)]),(11,aI),(12,aI),(27,aB)]) r r<|bP h17 r (fun hb19 h19=>?_) (fun hb19 h19=>?_)
       ·
        refine aH<|sB r<|aF (fr':=[(4,aB)]) r r<|bC<|bA<|aJ<|aJ<|bA<|aJ ?_
        obtain rfl:=sy h19
        exact bB (rs':=[.tmp 4]) r<|bH (v:=aB) r<|aZ<|aN [] r r r lr aA
       ·
        refine aW<|bX<|bV<|aQ<|aM r (rC (dB r r) (show _=.int .i64 (7:Int) from r))<|mI r<|cB (fr':=[(2,.box 0 0),(3,.box 1 0),(5,.ptrs [(0,1),(0,2),(0,3),(0,4),(0,5),(0,6),(0,7),(0,8)]),(6,.ptrs [(1,1),(1,2),(1,3),(1,4),(1,5),(1,6),(1,7),(1,8)]),(11,aI),(12,aI),(27,aB)]) r<|gP<|pT<|aH<|aM r (rC (dJ r r) (show _=.bool true from r))<|aF (fr':=[(2,.box 0 0),(3,.box 1 0),(5,.ptrs [(0,1),(0,2),(0,3),(0,4),(0,5),(0,6),(0,7),(0,8)]),(6,.ptrs [(1,1),(1,2),(1,3),(1,4),(1,5),(1,6),(1,7),(1,8)]),(11,aI),(12,aI),(13,aB)]) r r ?_
        refine aP<|fL r<|aW<|bV<|aP<|bJ<|aH<|mI r<|sI r<|aF (fr':=[(2,.box 0 0),(3,.box 1 0),(5,.ptrs [(0,1),(0,2),(0,3),(0,4),(0,5),(0,6),(0,7),(0,8)]),(6,.ptrs [(1,1),(1,2),(1,3),(1,4),(1,5),(1,6),(1,7),(1,8)]),(7,aI),(11,aI),(12,aI)]) r r<|aP<|hF [.q 0,.q 1,.q 2,.q 3,.q 4,.q 5,.q 6,.q 7,.q 8,.q 9,.q 10,.q 11,.q 12] [(some 15,[5]),(some 16,[7]),(some 17,[15,16]),(some 18,[17]),(some 19,[18]),(some 20,[19]),(some 21,[6]),(some 22,[7]),(some 23,[21,22]),(some 24,[23]),(some 25,[24]),(some 26,[25]),(some 27,[20,26])] [0,0,3,7,15,31,0,0,192,448,960,1984,4095] (by kernel_rfl) ?_
        refine dq r r (bE (v:=.ptrs [(0,1),(0,2),(0,3),(0,4),(0,5),(0,6),(0,7),(0,8)]) r)<|dq r r (bE (v:=aI) r)<|dq r r (iR (p:=(0,8)) mQ r r r)<|dq r r (fN nS r)<|dq r r (fX r)<|dq r r (aK (v:=aI) eP r r r)<|dq r r (bE (v:=.ptrs [(1,1),(1,2),(1,3),(1,4),(1,5),(1,6),(1,7),(1,8)]) r)<|dq r r (bE (v:=aI) r)<|dq r r (iR (p:=(1,8)) mQ r r r)<|dq r r (fN nS r)<|dq r r (fX r)<|dq r r (aK (v:=aI) eP r r r)<|dq r r (fI r r) ?_
        refine uE (fr':=[(2,.box 0 0),(3,.box 1 0),(5,.ptrs [(0,1),(0,2),(0,3),(0,4),(0,5),(0,6),(0,7),(0,8)]),(6,.ptrs [(1,1),(1,2),(1,3),(1,4),(1,5),(1,6),(1,7),(1,8)]),(11,aI),(12,aI),(27,aB)]) r r<|bP h19 r (fun hb21 h21=>?_) (fun hb21 h21=>?_)
        ·
         refine aH<|sB r<|aF (fr':=[(4,aB)]) r r<|bC<|bA<|aJ<|aJ<|bA<|aJ ?_
         obtain rfl:=sy h21
         exact bB (rs':=[.tmp 4]) r<|bH (v:=aB) r<|aZ<|aN [] r r r lr aA
        ·
         refine aW<|bX<|bV<|aQ<|aM r (rC (dB r r) (show _=.int .i64 (8:Int) from r))<|mI r<|cB (fr':=[(2,.box 0 0),(3,.box 1 0),(5,.ptrs [(0,1),(0,2),(0,3),(0,4),(0,5),(0,6),(0,7),(0,8)]),(6,.ptrs [(1,1),(1,2),(1,3),(1,4),(1,5),(1,6),(1,7),(1,8)]),(11,aI),(12,aI),(27,aB)]) r<|gP<|pT<|aH<|aM r (rC (dJ r r) (show _=.bool false from r))<|aF (fr':=[(2,.box 0 0),(3,.box 1 0),(5,.ptrs [(0,1),(0,2),(0,3),(0,4),(0,5),(0,6),(0,7),(0,8)]),(6,.ptrs [(1,1),(1,2),(1,3),(1,4),(1,5),(1,6),(1,7),(1,8)]),(11,aI),(12,aI),(13,aB)]) r r ?_
         refine aP<|yX r<|eK<|bR<|bR<|dC<|bV<|aH<|aM r (bD vT r)<|aM r (aK (v:=aS) kD r r r)<|aM r (bD vT r)<|aM r (aK (v:=aS) kD r r r) ?_
         refine aM r (oU r r)<|mB r<|og r r r (fun hc=>(bD lI r))<|og r r r (fun hc=>(aK (v:=aL) kM (gx r hc) r r))<|og r r r (fun hc=>(bD lI r))<|og r r r (fun hc=>(aK (v:=aL) kM (gx r hc) r r)) ?_
         obtain ⟨x23,hx23,h24⟩:=aE h21
         refine sM r r (fun hc=>aX (v:=aB) r (oL (cA hx23 hc)) ⟨(eH (gx r hc) lr),(eH (gx r hc) lr),trivial⟩ (fA (by repeat (first | exact dX | refine aY r ?_ | refine aY (oS r) ?_ | refine aY oR ?_))) r r) ?_
         refine aM r (bO r r r (fun e=>eO e))<|sB r<|aF (fr':=[(4,aB)]) r r<|bC ?_
         obtain rfl:=sy h24
         exact bB (rs':=[.tmp 4]) r<|bH (v:=aB) r<|aZ<|aN [] r r r lr aA
noncomputable def sT (p0c:cW) (p1u:fU):Option Bool :=
 (gd (((cond (cond (cond (cond p1u.seq_ true (decide (p0c.Seq=(0:Int)))) (cond p1u.name_ true (decide (p0c.Name=([]:List UInt8)))) false) (cond p1u.key_ true (decide (p0c.Key=([]:List UInt8)))) false) (cond p1u.n_ true (decide (p0c.N=(0:Int)))) false)==true)&&(p1u.data_==false)) (zY p0c.Data (aC.mk (0:Int) (0:Int) ([]:List UInt8) ([]:(List aC)) ([]:(List (List UInt8)))))).bind fun x1=>(gd (((cond (cond (cond (cond (cond p1u.seq_ true (decide (p0c.Seq=(0:Int)))) (cond p1u.name_ true (decide (p0c.Name=([]:List UInt8)))) false) (cond p1u.key_ true (decide (p0c.Key=([]:List UInt8)))) false) (cond p1u.n_ true (decide (p0c.N=(0:Int)))) false) (cond p1u.data_ true x1) false)==true)&&(p1u.opts_==false)) (jF p0c.Opts (bG.mk ([]:List UInt8) (0:Int) (0:Int) (0:Int) (0:Int) (0:Int) (0:Int) (0:Int) (0:Int) ([]:(List (List UInt8)))))).bind fun x3=>some (cond (cond (cond (cond (cond (cond p1u.seq_ true (decide (p0c.Seq=(0:Int)))) (cond p1u.name_ true (decide (p0c.Name=([]:List UInt8)))) false) (cond p1u.key_ true (decide (p0c.Key=([]:List UInt8)))) false) (cond p1u.n_ true (decide (p0c.N=(0:Int)))) false) (cond p1u.data_ true x1) false) (cond p1u.opts_ true x3) false)
theorem aF0 {p0c:cW}{p1u:fU}{res:Bool} (h:sT p0c p1u=some res):bS Tryz.prog 165 [.agg (AV.cs (jO p0c)),.agg (AV.cs (aAQ p1u))] [] (.c (.bool res)) []:=by
 unfold sT at h
 refine cJ (fn:=Tryz.f165) [0,1,2,3,4] (by kernel_rfl) Tryz.func165 r (by kernel_rfl) (by kernel_rfl)<|aH<|fS (v:=.agg aV) (n:=0) (cs:=aV) (σ':=[aV]) r r r r r<|fS (v:=.agg cR) (n:=1) (cs:=cR) (σ':=[aV,cR]) r r r r r<|sB r<|aF (fr':=[(2,.box 0 0),(3,.box 1 0)]) r r<|aH<|aM r (bD aLm r)<|aM r (aK (v:=aB) tv4 r r r)<|mB r<|og r r r (fun hc=>(bD aBl r)) ?_
 refine og r r r (fun hc=>(aK (v:=aI) eP (gx r hc) r r))<|og r r r (fun hc=>(bM (gx r hc) r))<|aM r (bY r r r (fun e=>eO e))<|mB r<|og r r r (fun hc=>(bD aLn r))<|og r r r (fun hc=>(aK (v:=aB) tv4 (gx r hc) r r))<|og r r r (fun hc=>(bE (v:=aB) (gx r hc)))<|eL r r (fun hc=>eS r (bD xY r))<|eL r r (fun hc=>eS r (aK (v:=aS) kD (gx r hc) r r))<|eL r r (fun hc=>eS r (oU (gx r hc) r))<|og r r r (fun hc=>(bY (gx r hc) r r (fun e=>oC hc (eO e))))<|aM r (bO r r r (fun e=>eO e))<|mB r ?_
 refine og r r r (fun hc=>(bD aLo r))<|og r r r (fun hc=>(aK (v:=aB) tv4 (gx r hc) r r))<|og r r r (fun hc=>(bE (v:=aB) (gx r hc)))<|eL r r (fun hc=>eS r (bD aBm r))<|eL r r (fun hc=>eS r (aK (v:=aS) kD (gx r hc) r r))<|eL r r (fun hc=>eS r (oU (gx r hc) r))<|og r r r (fun hc=>(bY (gx r hc) r r (fun e=>oC hc (eO e))))<|aM r (bO r r r (fun e=>eO e))<|mB r<|og r r r (fun hc=>(bD aPj r))<|og r r r (fun hc=>(aK (v:=aB) tv4 (gx r hc) r r))<|og r r r (fun hc=>(bE (v:=aB) (gx r hc)))<|eL r r (fun hc=>eS r (bD pF r)) ?_
 refine eL r r (fun hc=>eS r (aK (v:=aI) eP (gx r hc) r r))<|eL r r (fun hc=>eS r (bM (gx r hc) r))<|og r r r (fun hc=>(bY (gx r hc) r r (fun e=>oC hc (eO e))))<|aM r (bO r r r (fun e=>eO e))<|mB r<|og r r r (fun hc=>(bD aPk r))<|og r r r (fun hc=>(aK (v:=aB) tv4 (gx r hc) r r))<|og r r r (fun hc=>(bE (v:=aB) (gx r hc)))<|eL r r (fun hc=>eS r (bD rV r))<|eL r r (fun hc=>eS r (cN (us:=bL) fM (gx r hc) r r r))<|eL r r (fun hc=>eS r (dK (cs:=bT) aFP r)) ?_
 obtain ⟨x1,hx1,h2⟩:=aE h
 refine eL r r (fun hc=>aX (v:=aB) r (aC4 (cA hx1 hc)) ⟨(eH (gx r hc) (bK r ⟨r,r,r,r,r,trivial⟩)),(eH (gx r hc) (bK r ⟨r,r,r,⟨_,r⟩,⟨_,r⟩,trivial⟩)),trivial⟩ (fA (by repeat (first | exact dX | refine aY r ?_ | refine aY (oS r) ?_ | refine aY oR ?_))) r r) ?_
 refine og r r r (fun hc=>(bY (gx r hc) r r (fun e=>oC hc (eO e))))<|aM r (bO r r r (fun e=>eO e))<|mB r<|og r r r (fun hc=>(bD aPl r))<|og r r r (fun hc=>(aK (v:=aB) tv4 (gx r hc) r r))<|og r r r (fun hc=>(bE (v:=aB) (gx r hc)))<|eL r r (fun hc=>eS r (bD aBn r))<|eL r r (fun hc=>eS r (cN (us:=bZ) wH (gx r hc) r r r))<|eL r r (fun hc=>eS r (pU (c0:=bN) (cs:=bN) aNG r pR)) ?_
 obtain ⟨x3,hx3,h4⟩:=aE h2
 refine eL r r (fun hc=>aX (v:=aB) r (vP (cA hx3 hc)) ⟨(eH (gx r hc) (bK r ⟨r,r,r,r,r,r,r,r,r,r,trivial⟩)),(eH (gx r hc) (bK r ⟨r,r,r,r,r,r,r,r,r,⟨_,r⟩,trivial⟩)),trivial⟩ (fA (by repeat (first | exact dX | refine aY r ?_ | refine aY (oS r) ?_ | refine aY oR ?_))) r r) ?_
 refine og r r r (fun hc=>(bY (gx r hc) r r (fun e=>oC hc (eO e))))<|aM r (bO r r r (fun e=>eO e))<|sB r<|aF (fr':=[(4,aB)]) r r<|bC ?_
 obtain rfl:=sy h4
 exact bB (rs':=[.tmp 4]) r<|bH (v:=aB) r<|aZ<|aN [] r r r lr aA
noncomputable def qJ (p0s:(List UInt8)) (s4:Int):Option (cI Int (Fl Bool Unit)) :=
 cond (decide (s4<((p0s).length:Int))) ((hG p0s s4).bind fun x6=>(gd ((decide (((x6).toNat:Int)<(33:Int)))==false) (hG p0s s4)).bind fun x8=>(gd ((cond (decide (((x6).toNat:Int)<(33:Int))) true (decide ((126:Int)<((x8).toNat:Int))))==false) (hG p0s s4)).bind fun x10=>(gd ((cond (cond (decide (((x6).toNat:Int)<(33:Int))) true (decide ((126:Int)<((x8).toNat:Int)))) true (decide (((x10).toNat:Int)=(47:Int))))==false) (hG p0s s4)).bind fun x12=>cond (cond (cond (cond (decide (((x6).toNat:Int)<(33:Int))) true (decide ((126:Int)<((x8).toNat:Int)))) true (decide (((x10).toNat:Int)=(47:Int)))) true (decide (((x12).toNat:Int)=(34:Int)))) (some (cI.out (Fl.done false))) (some (cI.next (IntKind.wrap .i64 (s4+(1:Int)))))) (some (cI.out (Fl.go ())))
noncomputable def oN (p0s:(List UInt8)):Option Bool :=
 ((dR (qJ p0s) ((0:Int))):Option (Fl Bool Unit)).bind fun x1=>Fl.next x1 (fun j3=>((iE ((p0s).length:Int) (1:Int) (64:Int)).bind fun x20=>some x20))
theorem aEm {p0s:(List UInt8)}{res:Bool} (h:oN p0s=some res):bS Tryz.prog 166 [.c (.str p0s)] [] (.c (.bool res)) []:=by
 unfold oN at h
 refine cJ (fn:=Tryz.f166) [0,2,3,5,6,7,30] (by kernel_rfl) Tryz.func166 r (by kernel_rfl) (by kernel_rfl)<|aH<|sB r<|aF (fr':=[(0,aS)]) r r<|aP<|aH<|mS r<|aM r (gL pJ r)<|mI r<|aF (fr':=[(0,aS),(5,aI),(6,aI)]) r r ?_
 obtain ⟨x1,hx1,h2⟩:=aE h
 refine eB gF (fun j3=>x1=Fl.go j3) (fun (j3:Unit)=>([(0,.c (.str p0s))]:Fr)) (fun (j3:Unit)=>([]:St)) ?_ ?_
 ·
  refine bJ<|dV _ (fun (s4:Int)=>([(0,.c (.str p0s)),(5,ci ((p0s).length:Int)),(6,ci s4)]:Fr)) (fun (s4:Int)=>([]:St)) hx1 (aU [] 0 r r r r ⟨lr,lr,lr,trivial⟩ aA) ?_
  intro s4 st4 hs4 ho4
  unfold qJ at hs4
  refine aH<|aM r (dJ r r)<|aF (fr':=[(0,aS),(5,aI),(6,aI),(7,aB)]) r r<|aP<|bP hs4 r (fun hb5 h5=>?_) (fun hb5 h5=>?_)
  ·
   refine aW<|bV<|aP<|bJ<|aH<|mI r<|sI r<|aF (fr':=[(0,aS),(3,aI),(5,aI),(6,aI)]) r r<|aH<|mS r<|mI r ?_
   obtain ⟨x6,hx6,h7⟩:=aE h5
   refine aM r (wE pJ r r hx6)<|aM r (dJ r r)<|mB r<|og r r r (fun hc=>(bE (v:=aS) r))<|og r r r (fun hc=>(bE (v:=aI) r)) ?_
   obtain ⟨x8,hx8,h9⟩:=aE h7
   refine og r r r (fun hc=>(wE pJ (gx r hc) (gx r hc) (cA hx8 hc)))<|og r r r (fun hc=>(kA (gx r hc) r))<|aM r (bY r r r (fun e=>eO e))<|mB r<|og r r r (fun hc=>(bE (v:=aS) r))<|og r r r (fun hc=>(bE (v:=aI) r)) ?_
   obtain ⟨x10,hx10,h11⟩:=aE h9
   refine og r r r (fun hc=>(wE pJ (gx r hc) (gx r hc) (cA hx10 hc)))<|og r r r (fun hc=>(bM (gx r hc) r))<|aM r (bY r r r (fun e=>eO e))<|mB r<|og r r r (fun hc=>(bE (v:=aS) r))<|og r r r (fun hc=>(bE (v:=aI) r)) ?_
   obtain ⟨x12,hx12,h13⟩:=aE h11
   refine og r r r (fun hc=>(wE pJ (gx r hc) (gx r hc) (cA hx12 hc)))<|og r r r (fun hc=>(bM (gx r hc) r))<|aM r (bY r r r (fun e=>eO e))<|aF (fr':=[(0,aS),(5,aI),(6,aI),(30,aB)]) r r<|bP h13 r (fun hb14 h14=>?_) (fun hb14 h14=>?_)
   ·
    refine aH<|sB r<|aF (fr':=[(2,aB)]) r r<|bC<|bA<|aJ<|aJ<|bA<|aJ<|aJ ?_
    have h15:=cS h14 ho4
    have h16:=dQ h15 h2
    obtain rfl:=sy h16
    exact bB (rs':=[.tmp 2]) r<|bH (v:=aB) r<|aZ<|aN [] r r r lr aA
   ·
    exact aW<|bX<|bV<|aQ<|aM r (dB r r)<|mI r<|cB (fr':=[(0,aS),(5,aI),(6,aI),(30,aB)]) r<|rX _ (sy h14) (aU [] 0 r r r r ⟨lr,lr,lr,trivial⟩ aA)
  ·
   refine eK<|bR<|bR<|dC ?_
   have h18:=cS h5 ho4
   exact gD _ (sy h18) (aU [] 0 r r r r ⟨lr,trivial⟩ aA)
 ·
  intro j3 hj19
  have h19:=iC hj19 h2
  refine bV<|aH<|mS r<|aM r (gL pJ r) ?_
  obtain ⟨x20,hx20,h21⟩:=aE h19
  refine gV (aX (v:=aB) r (iT hx20) ⟨lr,lr,lr,trivial⟩ r r r)<|sB r<|aF (fr':=[(2,aB)]) r r<|bC ?_
  obtain rfl:=sy h21
  exact bB (rs':=[.tmp 2]) r<|bH (v:=aB) r<|aZ<|aN [] r r r lr aA
noncomputable def oD (p0x:aC):Option Bool :=
 (gd ((cond (!decide (p0x.Kind=(4:Int))) true (!decide (((p0x.Items).length:Int)=(2:Int))))==false) (hG p0x.Items (0:Int))).bind fun x1=>(gd ((cond (cond (!decide (p0x.Kind=(4:Int))) true (!decide (((p0x.Items).length:Int)=(2:Int)))) true (!decide (x1.Kind=(3:Int))))==false) (hG p0x.Items (0:Int))).bind fun x3=>(gd ((cond (cond (!decide (p0x.Kind=(4:Int))) true (!decide (((p0x.Items).length:Int)=(2:Int)))) true (!decide (x1.Kind=(3:Int))))==false) (mG x3.Text)).bind fun x5=>some (cond (cond (cond (!decide (p0x.Kind=(4:Int))) true (!decide (((p0x.Items).length:Int)=(2:Int)))) true (!decide (x1.Kind=(3:Int)))) true (!x5))
theorem aCY {p0x:aC}{res:Bool} (h:oD p0x=some res):bS Tryz.prog 216 [.agg (AV.cs (cQ p0x))] [] (.c (.bool res)) []:=by
 unfold oD at h
 refine cJ (fn:=Tryz.f216) [0,1,2] (by kernel_rfl) Tryz.func216 r (by kernel_rfl) (by kernel_rfl)<|aH<|fS (v:=.agg bL) (n:=0) (cs:=bL) (σ':=[bL]) r r r r r<|sB r<|aF (fr':=[(1,.box 0 0)]) r r<|aH<|aM r (bD gW r)<|aM r (aK (v:=aI) eP r r r)<|aM r (fI r r)<|mB r<|og r r r (fun hc=>(bD eJ r)) ?_
 refine og r r r (fun hc=>(aK (v:=aL) iF (gx r hc) r r))<|og r r r (fun hc=>(dI nH (cC (gx r hc))))<|og r r r (fun hc=>(fI (gx r hc) r))<|aM r (bY r r r (fun e=>eO e))<|mB r<|og r r r (fun hc=>(bD eJ r))<|og r r r (fun hc=>(aK (v:=aL) iF (gx r hc) r r)) ?_
 obtain ⟨x1,hx1,h2⟩:=aE h
 refine og r r r (fun hc=>(gR (cs:=[PV.int _ _,PV.int _ _,PV.str _,PV.ls _ _ _,PV.ls _ _ _]) mP (cC (gx r hc)) r (cA hx1 hc) (cE _)))<|og r r r (fun hc=>(rJ gW (gx r hc)))<|og r r r (fun hc=>(eG (p:=PV.int _ _) eP (gx r hc) r))<|og r r r (fun hc=>(fI (gx r hc) r))<|aM r (bY r r r (fun e=>eO e))<|mB r<|og r r r (fun hc=>(bD eJ r))<|og r r r (fun hc=>(aK (v:=aL) iF (gx r hc) r r)) ?_
 obtain ⟨x3,hx3,h4⟩:=aE h2
 refine og r r r (fun hc=>(gR (cs:=[PV.int _ _,PV.int _ _,PV.str _,PV.ls _ _ _,PV.ls _ _ _]) mP (cC (gx r hc)) r (cA hx3 hc) (cE _)))<|og r r r (fun hc=>(rJ lT (gx r hc)))<|og r r r (fun hc=>(eG (p:=PV.str _) kD (gx r hc) r)) ?_
 obtain ⟨x5,hx5,h6⟩:=aE h4
 refine sM r r (fun hc=>aX (v:=aB) r (qT (cA hx5 hc)) ⟨(eH (gx r hc) lr),trivial⟩ (fA (by repeat (first | exact dX | refine aY r ?_ | refine aY (oS r) ?_ | refine aY oR ?_))) r r) ?_
 refine og r r r (fun hc=>(eI (gx r hc)))<|aM r (bY r r r (fun e=>eO e))<|sB r<|aF (fr':=[(2,aB)]) r r<|bC ?_
 obtain rfl:=sy h6
 exact bB (rs':=[.tmp 2]) r<|bH (v:=aB) r<|aZ<|aN [] r r r lr aA
end Go.Proofs.YtnigjppddilpcaaGreatDoor
