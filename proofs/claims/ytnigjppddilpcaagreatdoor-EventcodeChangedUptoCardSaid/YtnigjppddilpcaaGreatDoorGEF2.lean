import Derived.Test.YtnigjppddilpcaaGreatDoorGETy
import Derived.Test.YtnigjppddilpcaaGreatDoorGEF0
import Derived.Test.YtnigjppddilpcaaGreatDoorGEF1
namespace Go.Proofs.YtnigjppddilpcaaGreatDoor
open Go Abs
set_option maxRecDepth 100000
set_option linter.unusedVariables false
set_option linter.unusedSimpArgs false
noncomputable def lH (dH:Int):Option Int :=
 cond (decide (dH=(7:Int))) (some (1:Int)) (cond (decide (dH=(12:Int))) (some (2:Int)) (cond (decide (dH=(14:Int))) (some (3:Int)) (cond (decide (dH=(16:Int))) (some (4:Int)) (cond (decide (dH=(19:Int))) (some (5:Int)) (cond (decide (dH=(23:Int))) (some (6:Int)) (cond (decide (dH=(18:Int))) (some (7:Int)) (cond (decide (dH=(27:Int))) (some (8:Int)) (cond (decide (dH=(28:Int))) (some (9:Int)) (cond (decide (dH=(29:Int))) (some (10:Int)) (cond (decide (dH=(30:Int))) (some (11:Int)) (cond (decide (dH=(31:Int))) (some (12:Int)) (cond (decide (dH=(32:Int))) (some (13:Int)) (cond (decide (dH=(35:Int))) (some (14:Int)) (some (0:Int)))))))))))))))
theorem aAs {dH:Int}{res:Int} (h:lH dH=some res):bR Tryz.prog 137 [ci dH] [] (ci res) []:=by
 unfold lH at h
 refine cP (fn:=Tryz.f137) [0,2,3,4,6,8,10,12,14,16,18,20,22,24,26,28,30] (by kernel_rfl) Tryz.func137 r (by kernel_rfl) (by kernel_rfl)<|aJ<|sI r<|aF (fr':=[(0,aI)]) r r<|aN<|aJ<|mI r<|aF (fr':=[(3,aI)]) r r<|bK<|aN<|aT ?_
 refine aQ r (bX r r)<|sB r<|aF (fr':=[(3,aI),(4,aB)]) r r<|cC h r (fun hb1 h1=>?_) (fun hb1 h1=>?_)
 ·
  refine aJ<|sI r<|aF (fr':=[(2,aI)]) r r<|bE<|bB<|aK ?_
  obtain rfl:=sy h1
  exact bD (rs':=[.tmp 2]) r<|bL (v:=aI) r<|bC<|aR [] r r r lr aC
 ·
  refine aJ<|aQ r (bX r r)<|sB r<|aF (fr':=[(3,aI),(6,aB)]) r r<|cC h1 r (fun hb3 h3=>?_) (fun hb3 h3=>?_)
  ·
   refine aJ<|sI r<|aF (fr':=[(2,aI)]) r r<|bE<|bB<|aK ?_
   obtain rfl:=sy h3
   exact bD (rs':=[.tmp 2]) r<|bL (v:=aI) r<|bC<|aR [] r r r lr aC
  ·
   refine aJ<|aQ r (bX r r)<|sB r<|aF (fr':=[(3,aI),(8,aB)]) r r<|cC h3 r (fun hb5 h5=>?_) (fun hb5 h5=>?_)
   ·
    refine aJ<|sI r<|aF (fr':=[(2,aI)]) r r<|bE<|bB<|aK ?_
    obtain rfl:=sy h5
    exact bD (rs':=[.tmp 2]) r<|bL (v:=aI) r<|bC<|aR [] r r r lr aC
   ·
    refine aJ<|aQ r (bX r r)<|sB r<|aF (fr':=[(3,aI),(10,aB)]) r r<|cC h5 r (fun hb7 h7=>?_) (fun hb7 h7=>?_)
    ·
     refine aJ<|sI r<|aF (fr':=[(2,aI)]) r r<|bE<|bB<|aK ?_
     obtain rfl:=sy h7
     exact bD (rs':=[.tmp 2]) r<|bL (v:=aI) r<|bC<|aR [] r r r lr aC
    ·
     refine aJ<|aQ r (bX r r)<|sB r<|aF (fr':=[(3,aI),(12,aB)]) r r<|cC h7 r (fun hb9 h9=>?_) (fun hb9 h9=>?_)
     ·
      refine aJ<|sI r<|aF (fr':=[(2,aI)]) r r<|bE<|bB<|aK ?_
      obtain rfl:=sy h9
      exact bD (rs':=[.tmp 2]) r<|bL (v:=aI) r<|bC<|aR [] r r r lr aC
     ·
      refine aJ<|aQ r (bX r r)<|sB r<|aF (fr':=[(3,aI),(14,aB)]) r r<|cC h9 r (fun hb11 h11=>?_) (fun hb11 h11=>?_)
      ·
       refine aJ<|sI r<|aF (fr':=[(2,aI)]) r r<|bE<|bB<|aK ?_
       obtain rfl:=sy h11
       exact bD (rs':=[.tmp 2]) r<|bL (v:=aI) r<|bC<|aR [] r r r lr aC
      ·
       refine aJ<|aQ r (bX r r)<|sB r<|aF (fr':=[(3,aI),(16,aB)]) r r<|cC h11 r (fun hb13 h13=>?_) (fun hb13 h13=>?_)
       ·
        refine aJ<|sI r<|aF (fr':=[(2,aI)]) r r<|bE<|bB<|aK ?_
        obtain rfl:=sy h13
        exact bD (rs':=[.tmp 2]) r<|bL (v:=aI) r<|bC<|aR [] r r r lr aC
       ·
        refine aJ<|aQ r (bX r r)<|sB r<|aF (fr':=[(3,aI),(18,aB)]) r r<|cC h13 r (fun hb15 h15=>?_) (fun hb15 h15=>?_)
        ·
         refine aJ<|sI r<|aF (fr':=[(2,aI)]) r r<|bE<|bB<|aK ?_
         obtain rfl:=sy h15
         exact bD (rs':=[.tmp 2]) r<|bL (v:=aI) r<|bC<|aR [] r r r lr aC
        ·
         refine aJ<|aQ r (bX r r)<|sB r<|aF (fr':=[(3,aI),(20,aB)]) r r<|cC h15 r (fun hb17 h17=>?_) (fun hb17 h17=>?_)
         ·
          refine aJ<|sI r<|aF (fr':=[(2,aI)]) r r<|bE<|bB<|aK ?_
          obtain rfl:=sy h17
          exact bD (rs':=[.tmp 2]) r<|bL (v:=aI) r<|bC<|aR [] r r r lr aC
         ·
          refine aJ<|aQ r (bX r r)<|sB r<|aF (fr':=[(3,aI),(22,aB)]) r r<|cC h17 r (fun hb19 h19=>?_) (fun hb19 h19=>?_)
          ·
           refine aJ<|sI r<|aF (fr':=[(2,aI)]) r r<|bE<|bB<|aK ?_
           obtain rfl:=sy h19
           exact bD (rs':=[.tmp 2]) r<|bL (v:=aI) r<|bC<|aR [] r r r lr aC
          ·
           refine aJ<|aQ r (bX r r)<|sB r<|aF (fr':=[(3,aI),(24,aB)]) r r<|cC h19 r (fun hb21 h21=>?_) (fun hb21 h21=>?_)
           ·
            refine aJ<|sI r<|aF (fr':=[(2,aI)]) r r<|bE<|bB<|aK ?_
            obtain rfl:=sy h21
            exact bD (rs':=[.tmp 2]) r<|bL (v:=aI) r<|bC<|aR [] r r r lr aC
           ·
            refine aJ<|aQ r (bX r r)<|sB r<|aF (fr':=[(3,aI),(26,aB)]) r r<|cC h21 r (fun hb23 h23=>?_) (fun hb23 h23=>?_)
            ·
             refine aJ<|sI r<|aF (fr':=[(2,aI)]) r r<|bE<|bB<|aK ?_
             obtain rfl:=sy h23
             exact bD (rs':=[.tmp 2]) r<|bL (v:=aI) r<|bC<|aR [] r r r lr aC
            ·
             refine aJ<|aQ r (bX r r)<|sB r<|aF (fr':=[(3,aI),(28,aB)]) r r<|cC h23 r (fun hb25 h25=>?_) (fun hb25 h25=>?_)
             ·
              refine aJ<|sI r<|aF (fr':=[(2,aI)]) r r<|bE<|bB<|aK ?_
              obtain rfl:=sy h25
              exact bD (rs':=[.tmp 2]) r<|bL (v:=aI) r<|bC<|aR [] r r r lr aC
             ·
              refine aJ<|aQ r (bX r r)<|sB r<|aF (fr':=[(30,aB)]) r r<|cC h25 r (fun hb27 h27=>?_) (fun hb27 h27=>?_)
              ·
               refine aJ<|sI r<|aF (fr':=[(2,aI)]) r r<|bE<|bB<|aK ?_
               obtain rfl:=sy h27
               exact bD (rs':=[.tmp 2]) r<|bL (v:=aI) r<|bC<|aR [] r r r lr aC
              ·
               refine bA<|cA<|bT<|aJ<|sI r<|aF (fr':=[(2,aI)]) r r<|bE ?_
               obtain rfl:=sy h27
               exact bD (rs':=[.tmp 2]) r<|bL (v:=aI) r<|bC<|aR [] r r r lr aC
noncomputable def mE (dH:Int):Option eN :=
 cond (decide (dH=(1:Int))) (some (eN.mk true true false false true true)) (((cond (decide (dH=(2:Int))) (some (decide (dH=(2:Int)))) (some (decide (dH=(4:Int))))):Option Bool).bind fun x3=>(cond x3 (some (eN.mk true false false false false false)) (cond (decide (dH=(3:Int))) (some (eN.mk true false false true false false)) (cond (decide (dH=(5:Int))) (some (eN.mk true true true true true false)) (cond (decide (dH=(6:Int))) (some (eN.mk true true true false true false)) (cond (decide (dH=(7:Int))) (some (eN.mk false true false true true false)) (cond (decide (dH=(8:Int))) (some (eN.mk false true true false true false)) (cond (decide (dH=(9:Int))) (some (eN.mk false false true true true false)) (cond (decide (dH=(12:Int))) (some (eN.mk false true false false true false)) (some (eN.mk false false false false true false)))))))))))
theorem aAV {dH:Int}{res:eN} (h:mE dH=some res):bR Tryz.prog 164 [ci dH] [] (.agg (AV.cs (wK res))) []:=by
 unfold mE at h
 refine cP (fn:=Tryz.f164) [0,2,3,4,7,11,14,17,20,23,26,29] (by kernel_rfl) Tryz.func164 r (by kernel_rfl) (by kernel_rfl)<|aJ<|fZ (n:=0) (cs:=bW) (σ':=[bW]) aKp r r r<|aF (fr':=[(0,aI),(2,.box 0 0)]) r r<|aN<|aJ<|mI r<|aF (fr':=[(2,.box 0 0),(3,aI)]) r r<|bK<|aN<|aT ?_
 refine aQ r (bX r r)<|sB r<|aF (fr':=[(2,.box 0 0),(3,aI),(4,aB)]) r r<|cC h r (fun hb1 h1=>?_) (fun hb1 h1=>?_)
 ·
  refine aJ<|aQ r (eI (cs:=bW) yC r)<|bO (v:=.agg bW) (us:=bW) (cs:=bW) (σ':=[bW]) r nC r r r r r r r r<|aF (fr':=[(2,.box 0 0)]) r r<|bE<|bB<|aK ?_
  obtain rfl:=sy h1
  exact bD (rs':=[.cell 2 160]) r<|dX (us:=bW) (cs:=bW) nC r r r r<|bC<|aR [] r r r (bM r ⟨r,r,r,r,r,r,trivial⟩) aC
 ·
  obtain ⟨x3,hx3,h4⟩:=aE h1
  refine jX (fun j5=>x3=j5) (fun (j5:Bool)=>([(2,.box 0 0),(3,ci dH),(7,.c (.bool j5))]:Fr)) (fun (j5:Bool)=>([[.c (.bool false),.c (.bool false),.c (.bool false),.c (.bool false),.c (.bool false),.c (.bool false)]]:St)) ?_ ?_
  ·
   refine aJ<|aQ r (bX r r)<|sB r<|aF (fr':=[(2,.box 0 0),(3,aI),(7,aB)]) r r<|cC hx3 r (fun hb6 h6=>?_) (fun hb6 h6=>?_)
   ·
    exact bA<|lF _ (sy h6) (bJ [] 1 r r r r ⟨lr,lr,lr,trivial⟩ (cK r aC))
   ·
    exact aT<|aQ r (bX r r)<|sB r<|cI (fr':=[(2,.box 0 0),(3,aI),(7,aB)]) r<|lF _ (sy h6) (bJ [] 1 r r r r ⟨lr,lr,lr,trivial⟩ (cK r aC))
  ·
   intro j5 hj7
   subst hj7
   refine cC h4 r (fun hb8 h8=>?_) (fun hb8 h8=>?_)
   ·
    refine aJ<|aQ r (eI (cs:=bW) yC r)<|bO (v:=.agg bW) (us:=bW) (cs:=bW) (σ':=[bW]) r nC r r r r r r r r<|aF (fr':=[(2,.box 0 0)]) r r<|bE<|bB<|aK ?_
    obtain rfl:=sy h8
    exact bD (rs':=[.cell 2 160]) r<|dX (us:=bW) (cs:=bW) nC r r r r<|bC<|aR [] r r r (bM r ⟨r,r,r,r,r,r,trivial⟩) aC
   ·
    refine aJ<|aQ r (bX r r)<|sB r<|aF (fr':=[(2,.box 0 0),(3,aI),(11,aB)]) r r<|cC h8 r (fun hb10 h10=>?_) (fun hb10 h10=>?_)
    ·
     refine aJ<|aQ r (eI (cs:=bW) yC r)<|bO (v:=.agg bW) (us:=bW) (cs:=bW) (σ':=[bW]) r nC r r r r r r r r<|aF (fr':=[(2,.box 0 0)]) r r<|bE<|bB<|aK ?_
     obtain rfl:=sy h10
     exact bD (rs':=[.cell 2 160]) r<|dX (us:=bW) (cs:=bW) nC r r r r<|bC<|aR [] r r r (bM r ⟨r,r,r,r,r,r,trivial⟩) aC
    ·
     refine aJ<|aQ r (bX r r)<|sB r<|aF (fr':=[(2,.box 0 0),(3,aI),(14,aB)]) r r<|cC h10 r (fun hb12 h12=>?_) (fun hb12 h12=>?_)
     ·
      refine aJ<|aQ r (eI (cs:=bW) yC r)<|bO (v:=.agg bW) (us:=bW) (cs:=bW) (σ':=[bW]) r nC r r r r r r r r<|aF (fr':=[(2,.box 0 0)]) r r<|bE<|bB<|aK ?_
      obtain rfl:=sy h12
      exact bD (rs':=[.cell 2 160]) r<|dX (us:=bW) (cs:=bW) nC r r r r<|bC<|aR [] r r r (bM r ⟨r,r,r,r,r,r,trivial⟩) aC
     ·
      refine aJ<|aQ r (bX r r)<|sB r<|aF (fr':=[(2,.box 0 0),(3,aI),(17,aB)]) r r<|cC h12 r (fun hb14 h14=>?_) (fun hb14 h14=>?_)
      ·
       refine aJ<|aQ r (eI (cs:=bW) yC r)<|bO (v:=.agg bW) (us:=bW) (cs:=bW) (σ':=[bW]) r nC r r r r r r r r<|aF (fr':=[(2,.box 0 0)]) r r<|bE<|bB<|aK ?_
       obtain rfl:=sy h14
       exact bD (rs':=[.cell 2 160]) r<|dX (us:=bW) (cs:=bW) nC r r r r<|bC<|aR [] r r r (bM r ⟨r,r,r,r,r,r,trivial⟩) aC
      ·
       refine aJ<|aQ r (bX r r)<|sB r<|aF (fr':=[(2,.box 0 0),(3,aI),(20,aB)]) r r<|cC h14 r (fun hb16 h16=>?_) (fun hb16 h16=>?_)
       ·
        refine aJ<|aQ r (eI (cs:=bW) yC r)<|bO (v:=.agg bW) (us:=bW) (cs:=bW) (σ':=[bW]) r nC r r r r r r r r<|aF (fr':=[(2,.box 0 0)]) r r<|bE<|bB<|aK ?_
        obtain rfl:=sy h16
        exact bD (rs':=[.cell 2 160]) r<|dX (us:=bW) (cs:=bW) nC r r r r<|bC<|aR [] r r r (bM r ⟨r,r,r,r,r,r,trivial⟩) aC
       ·
        refine aJ<|aQ r (bX r r)<|sB r<|aF (fr':=[(2,.box 0 0),(3,aI),(23,aB)]) r r<|cC h16 r (fun hb18 h18=>?_) (fun hb18 h18=>?_)
        ·
         refine aJ<|aQ r (eI (cs:=bW) yC r)<|bO (v:=.agg bW) (us:=bW) (cs:=bW) (σ':=[bW]) r nC r r r r r r r r<|aF (fr':=[(2,.box 0 0)]) r r<|bE<|bB<|aK ?_
         obtain rfl:=sy h18
         exact bD (rs':=[.cell 2 160]) r<|dX (us:=bW) (cs:=bW) nC r r r r<|bC<|aR [] r r r (bM r ⟨r,r,r,r,r,r,trivial⟩) aC
        ·
         refine aJ<|aQ r (bX r r)<|sB r<|aF (fr':=[(2,.box 0 0),(3,aI),(26,aB)]) r r<|cC h18 r (fun hb20 h20=>?_) (fun hb20 h20=>?_)
         ·
          refine aJ<|aQ r (eI (cs:=bW) yC r)<|bO (v:=.agg bW) (us:=bW) (cs:=bW) (σ':=[bW]) r nC r r r r r r r r<|aF (fr':=[(2,.box 0 0)]) r r<|bE<|bB<|aK ?_
          obtain rfl:=sy h20
          exact bD (rs':=[.cell 2 160]) r<|dX (us:=bW) (cs:=bW) nC r r r r<|bC<|aR [] r r r (bM r ⟨r,r,r,r,r,r,trivial⟩) aC
         ·
          refine aJ<|aQ r (bX r r)<|sB r<|aF (fr':=[(2,.box 0 0),(29,aB)]) r r<|cC h20 r (fun hb22 h22=>?_) (fun hb22 h22=>?_)
          ·
           refine aJ<|aQ r (eI (cs:=bW) yC r)<|bO (v:=.agg bW) (us:=bW) (cs:=bW) (σ':=[bW]) r nC r r r r r r r r<|aF (fr':=[(2,.box 0 0)]) r r<|bE<|bB<|aK ?_
           obtain rfl:=sy h22
           exact bD (rs':=[.cell 2 160]) r<|dX (us:=bW) (cs:=bW) nC r r r r<|bC<|aR [] r r r (bM r ⟨r,r,r,r,r,r,trivial⟩) aC
          ·
           refine bA<|cA<|bT<|aJ<|aQ r (eI (cs:=bW) yC r)<|bO (v:=.agg bW) (us:=bW) (cs:=bW) (σ':=[bW]) r nC r r r r r r r r<|aF (fr':=[(2,.box 0 0)]) r r<|bE ?_
           obtain rfl:=sy h22
           exact bD (rs':=[.cell 2 160]) r<|dX (us:=bW) (cs:=bW) nC r r r r<|bC<|aR [] r r r (bM r ⟨r,r,r,r,r,r,trivial⟩) aC
noncomputable def gF (rQ:(List (List UInt8))) (uI:(List (List UInt8))) (s6:Int):Option (cD Int (Fl Bool Unit)) :=
 cond (decide (s6<((rQ).length:Int))) ((gR rQ s6).bind fun x8=>(gR uI s6).bind fun x10=>cond (!decide (x8=x10)) (some (cD.out (Fl.done false))) (some (cD.next (IntKind.wrap .i64 (s6+(1:Int)))))) (some (cD.out (Fl.go ())))
noncomputable def fE (rQ:(List (List UInt8))) (uI:(List (List UInt8))):Option Bool :=
 cond (!decide (((rQ).length:Int)=((uI).length:Int))) (some false) (((dO (gF rQ uI) ((0:Int))):Option (Fl Bool Unit)).bind fun x3=>Fl.next x3 (fun j5=>(some true)))
theorem lN {rQ:(List (List UInt8))}{uI:(List (List UInt8))}{res:Bool} (h:fE rQ uI=some res):bR Tryz.prog 171 [.c (PV.ls 1 fD rQ),.c (PV.ls 1 fD uI)] [] (.c (.bool res)) []:=by
 unfold fE at h
 refine cP (fn:=Tryz.f171) [0,1,4,5,10,12,13,14,24] (by kernel_rfl) Tryz.func171 r (by kernel_rfl) (by kernel_rfl)<|aJ<|sB r<|aF (fr':=[(0,aL),(1,aL)]) r r<|aN<|aJ<|mL r<|aQ r (eX rZ (cZ r))<|mL r<|aQ r (eX rZ (cZ r))<|aQ r (fU r r) ?_
 refine aF (fr':=[(0,aL),(1,aL),(10,aB)]) r r<|cC h r (fun hb1 h1=>?_) (fun hb1 h1=>?_)
 ·
  refine aJ<|sB r<|aF (fr':=[(4,aB)]) r r<|bE<|aK ?_
  obtain rfl:=sy h1
  exact bD (rs':=[.tmp 4]) r<|bL (v:=aB) r<|bC<|aR [] r r r lr aC
 ·
  refine bA<|bT<|aN<|aJ<|mL r<|aQ r (eX rZ (cZ r))<|mI r<|aF (fr':=[(0,aL),(1,aL),(12,aI),(13,aI)]) r r ?_
  obtain ⟨x3,hx3,h4⟩:=aE h1
  refine fI iV (fun j5=>x3=Fl.go j5) (fun (j5:Unit)=>([]:Fr)) (fun (j5:Unit)=>([]:St)) ?_ ?_
  ·
   refine bK<|fB _ (fun (s6:Int)=>([(0,.c (PV.ls 1 fD rQ)),(1,.c (PV.ls 1 fD uI)),(12,ci ((rQ).length:Int)),(13,ci s6)]:Fr)) (fun (s6:Int)=>([]:St)) hx3 (bJ [] 0 r r r r ⟨lr,lr,lr,lr,trivial⟩ aC) ?_
   intro s6 st6 hs6 ho6
   unfold gF at hs6
   refine aJ<|aQ r (dU r r)<|aF (fr':=[(0,aL),(1,aL),(12,aI),(13,aI),(14,aB)]) r r<|aN<|cC hs6 r (fun hb7 h7=>?_) (fun hb7 h7=>?_)
   ·
    refine bA<|bT<|aN<|bK<|aJ<|mI r<|sI r<|aF (fr':=[(0,aL),(1,aL),(5,aI),(12,aI),(13,aI)]) r r<|aN<|gP [.q 0,.q 1,.q 2,.q 3,.q 4,.q 5,.q 6,.q 7,.q 8] [(some 16,[0]),(some 17,[5]),(some 18,[16,17]),(some 19,[18]),(some 20,[1]),(some 21,[5]),(some 22,[20,21]),(some 23,[22]),(some 24,[19,23])] [0,0,3,7,0,0,48,112,255] (by kernel_rfl)<|dq r r (aU (v:=aL) r)<|dq r r (aU (v:=aI) r) ?_
    obtain ⟨x8,hx8,h9⟩:=aE h7
    refine dq r r (jS (cs:=[PV.str _]) uW (cZ r) r hx8 r)<|dq r r (fV (p:=PV.str _) nV r r)<|dq r r (aU (v:=aL) r)<|dq r r (aU (v:=aI) r) ?_
    obtain ⟨x10,hx10,h11⟩:=aE h9
    refine dq r r (jS (cs:=[PV.str _]) uW (cZ r) r hx10 r)<|dq r r (fV (p:=PV.str _) nV r r)<|dq r r (yP r r)<|tB (fr':=[(0,aL),(1,aL),(12,aI),(13,aI),(24,aB)]) r r<|cC h11 r (fun hb12 h12=>?_) (fun hb12 h12=>?_)
    ·
     refine aJ<|sB r<|aF (fr':=[(4,aB)]) r r<|bE<|bB<|aK<|aK<|bB<|aK<|aK ?_
     have h13:=dN h12 ho6
     have h14:=eA h13 h4
     obtain rfl:=sy h14
     exact bD (rs':=[.tmp 4]) r<|bL (v:=aB) r<|bC<|aR [] r r r lr aC
    ·
     exact bA<|cA<|bT<|aT<|aQ r (dR r r)<|mI r<|cI (fr':=[(0,aL),(1,aL),(12,aI),(13,aI),(24,aB)]) r<|xG _ (sy h12) (bJ [] 0 r r r r ⟨lr,lr,lr,lr,trivial⟩ aC)
   ·
    refine fJ<|bY<|bY<|eC ?_
    have h16:=dN h7 ho6
    exact lF _ (sy h16) (bJ [] 0 r r r r trivial aC)
  ·
   intro j5 hj17
   have h17:=kN hj17 h4
   refine bT<|aJ<|sB r<|aF (fr':=[(4,aB)]) r r<|bE ?_
   obtain rfl:=sy h17
   exact bD (rs':=[.tmp 4]) r<|bL (v:=aB) r<|bC<|aR [] r r r lr aC
noncomputable def cM (aCy:aD→aD→Option Bool) (rQ:(List aD)) (uI:(List aD)) (s6:Int):Option (cD Int (Fl Bool Unit)) :=
 cond (decide (s6<((rQ).length:Int))) ((gR rQ s6).bind fun x8=>(gR uI s6).bind fun x10=>(aCy x8 x10).bind fun x12=>cond (!x12) (some (cD.out (Fl.done false))) (some (cD.next (IntKind.wrap .i64 (s6+(1:Int)))))) (some (cD.out (Fl.go ())))
mutual
noncomputable def bQ:Nat→(List aD)→(List aD)→Option Bool
 | 0,_,_=>none
 | n+1,rQ,uI =>
  cond (!decide (((rQ).length:Int)=((uI).length:Int))) (some false) (((dO (cM (mU n) rQ uI) ((0:Int))):Option (Fl Bool Unit)).bind fun x3=>Fl.next x3 (fun j5=>(some true)))
noncomputable def mU:Nat→aD→aD→Option Bool
 | 0,_,_=>none
 | n+1,p0a,p1b =>
  (gd ((cond (cond (decide (p0a.Kind=p1b.Kind)) (decide (p0a.Int=p1b.Int)) false) (decide (p0a.Text=p1b.Text)) false)==true) (fE p0a.Keys p1b.Keys)).bind fun x1=>(gd ((cond (cond (cond (decide (p0a.Kind=p1b.Kind)) (decide (p0a.Int=p1b.Int)) false) (decide (p0a.Text=p1b.Text)) false) x1 false)==true) ((bQ n) p0a.Items p1b.Items)).bind fun x3=>some (cond (cond (cond (cond (decide (p0a.Kind=p1b.Kind)) (decide (p0a.Int=p1b.Int)) false) (decide (p0a.Text=p1b.Text)) false) x1 false) x3 false)
end
theorem gE:∀ n:Nat,(∀ {rQ:(List aD)}{uI:(List aD)}{res:Bool},bQ n rQ uI=some res→bR Tryz.prog 172 [.c (PV.ls 5 aZ rQ),.c (PV.ls 5 aZ uI),.fn 116 []] [] (.c (.bool res)) [])∧(∀ {p0a:aD}{p1b:aD}{res:Bool},mU n p0a p1b=some res→bR Tryz.prog 116 [.agg (AV.cs (dD p0a)),.agg (AV.cs (dD p1b))] [] (.c (.bool res)) []):=by
 intro n
 induction n with
 | zero=>exact ⟨fun {rQ uI res} h=>absurd h (by simp [bQ]),fun {p0a p1b res} h=>absurd h (by simp [mU])⟩
 | succ n ih =>
  obtain ⟨ih_slices_EqualFunc_api_Value_api_Value_api_Value_api_Value_value_Same,ih_value_Same⟩:=ih
  refine ⟨?_,?_⟩
  ·
   intro rQ uI res h
   rw [bQ] at h
   refine cP (fn:=Tryz.f172) [0,1,2,6,7,8,9,14,15,16,17,18,30] (by kernel_rfl) Tryz.func172 r (by kernel_rfl) (by kernel_rfl)<|aJ<|sB r<|aF (fr':=[(0,aL),(1,aL),(2,.fn _ [])]) r r<|aN<|aJ<|mL r<|aQ r (eX sJ (cZ r))<|mL r<|aQ r (eX sJ (cZ r))<|aQ r (fU r r) ?_
   refine aF (fr':=[(0,aL),(1,aL),(2,.fn _ []),(14,aB)]) r r<|cC h r (fun hb1 h1=>?_) (fun hb1 h1=>?_)
   ·
    refine aJ<|sB r<|aF (fr':=[(6,aB)]) r r<|bE<|aK ?_
    obtain rfl:=sy h1
    exact bD (rs':=[.tmp 6]) r<|bL (v:=aB) r<|bC<|aR [] r r r lr aC
   ·
    refine bA<|bT<|aN<|aJ<|mL r<|aQ r (eX sJ (cZ r))<|mI r<|aF (fr':=[(1,aL),(2,.fn _ []),(15,aL),(16,aI),(17,aI)]) r r ?_
    obtain ⟨x3,hx3,h4⟩:=aE h1
    refine fI iV (fun j5=>x3=Fl.go j5) (fun (j5:Unit)=>([]:Fr)) (fun (j5:Unit)=>([]:St)) ?_ ?_
    ·
     refine bK<|fB _ (fun (s6:Int)=>([(1,.c (PV.ls 5 aZ uI)),(2,.fn 116 []),(15,.c (PV.ls 5 aZ rQ)),(16,ci ((rQ).length:Int)),(17,ci s6)]:Fr)) (fun (s6:Int)=>([]:St)) hx3 (bJ [] 0 r r r r ⟨lr,lr,lr,lr,lr,trivial⟩ aC) ?_
     intro s6 st6 hs6 ho6
     unfold cM at hs6
     refine aJ<|aQ r (dU r r)<|aF (fr':=[(1,aL),(2,.fn _ []),(15,aL),(16,aI),(17,aI),(18,aB)]) r r<|aN<|cC hs6 r (fun hb7 h7=>?_) (fun hb7 h7=>?_)
     ·
      refine bA<|bT<|aN<|bK<|aJ<|mI r ?_
      obtain ⟨x8,hx8,h9⟩:=aE h7
      refine aQ r (jS (cs:=[PV.int _ _,PV.int _ _,PV.str _,PV.ls _ _ _,PV.ls _ _ _]) sK (cZ r) r hx8 (dA _))<|aQ r (iL (us:=[PV.int _ _,PV.int _ _,PV.str _,PV.ls _ _ _,PV.ls _ _ _]) fQ r r r)<|fZ (n:=0) (cs:=bH) (σ':=[bH]) aAm r r r<|sI r<|bO (v:=.agg bI) (us:=bI) (cs:=bH) (σ':=[bI]) r fQ r r r r r r r r<|aF (fr':=[(1,aL),(2,.fn _ []),(7,aI),(8,.box 0 0),(15,aL),(16,aI),(17,aI)]) r r<|aJ<|mL r<|mI r ?_
      obtain ⟨x10,hx10,h11⟩:=aE h9
      refine aQ r (jS (cs:=[PV.int _ _,PV.int _ _,PV.str _,PV.ls _ _ _,PV.ls _ _ _]) sK (cZ r) r hx10 (dA _))<|aQ r (iL (us:=[PV.int _ _,PV.int _ _,PV.str _,PV.ls _ _ _,PV.ls _ _ _]) fQ r r r)<|fZ (n:=1) (cs:=bH) (σ':=[bI,bH]) aAm r r r<|bO (v:=.agg bI) (us:=bI) (cs:=bH) (σ':=[bI,bI]) r fQ r r r r r r r r<|aF (fr':=[(1,aL),(2,.fn _ []),(8,.box 0 0),(9,.box 1 0),(15,aL),(16,aI),(17,aI)]) r r<|aJ<|mV (v:=.fn _ []) r<|aQ r (dF (us:=bI) fQ r r r r)<|aQ r (dF (us:=bI) fQ r r r r) ?_
      obtain ⟨x12,hx12,h13⟩:=aE h11
      refine jZ (bG (v:=aB) r (ih_value_Same hx12) ⟨(bM r ⟨r,r,r,r,r,trivial⟩),(bM r ⟨r,r,r,r,r,trivial⟩),trivial⟩ r r r)<|aQ r (eU r)<|aF (fr':=[(1,aL),(2,.fn _ []),(15,aL),(16,aI),(17,aI),(30,aB)]) r r<|cC h13 r (fun hb14 h14=>?_) (fun hb14 h14=>?_)
      ·
       refine aJ<|sB r<|aF (fr':=[(6,aB)]) r r<|bE<|bB<|aK<|aK<|bB<|aK<|aK ?_
       have h15:=dN h14 ho6
       have h16:=eA h15 h4
       obtain rfl:=sy h16
       exact bD (rs':=[.tmp 6]) r<|bL (v:=aB) r<|bC<|aR [] r r r lr aC
      ·
       exact bA<|cA<|bT<|aT<|aQ r (dR r r)<|mI r<|cI (fr':=[(1,aL),(2,.fn _ []),(15,aL),(16,aI),(17,aI),(30,aB)]) r<|xG _ (sy h14) (bJ [] 0 r r r r ⟨lr,lr,lr,lr,lr,trivial⟩ aC)
     ·
      refine fJ<|bY<|bY<|eC ?_
      have h18:=dN h7 ho6
      exact lF _ (sy h18) (bJ [] 0 r r r r trivial aC)
    ·
     intro j5 hj19
     have h19:=kN hj19 h4
     refine bT<|aJ<|sB r<|aF (fr':=[(6,aB)]) r r<|bE ?_
     obtain rfl:=sy h19
     exact bD (rs':=[.tmp 6]) r<|bL (v:=aB) r<|bC<|aR [] r r r lr aC
  ·
   intro p0a p1b res h
   rw [mU] at h
   refine cP (fn:=Tryz.f116) [0,1,2,3,4] (by kernel_rfl) Tryz.func116 r (by kernel_rfl) (by kernel_rfl)<|aJ<|gH (v:=.agg bI) (n:=0) (cs:=bI) (σ':=[bI]) r r r r r<|gH (v:=.agg bI) (n:=1) (cs:=bI) (σ':=[bI,bI]) r r r r r<|sB r<|aF (fr':=[(2,.box 0 0),(3,.box 1 0)]) r r<|aJ<|aQ r (bF jE r)<|aQ r (aP (v:=aI) fC r r r)<|aQ r (bF jE r)<|aQ r (aP (v:=aI) fC r r r) ?_
   refine aQ r (bX r r)<|mB r<|og r r r (fun hc=>(bF pO r))<|og r r r (fun hc=>(aP (v:=aI) fC (gx r hc) r r))<|og r r r (fun hc=>(bF pO r))<|og r r r (fun hc=>(aP (v:=aI) fC (gx r hc) r r))<|og r r r (fun hc=>(bX (gx r hc) (gx r hc)))<|aQ r (bS r r r (fun e=>fG e))<|mB r<|og r r r (fun hc=>(bF qR r))<|og r r r (fun hc=>(aP (v:=aS) nV (gx r hc) r r))<|og r r r (fun hc=>(bF qR r))<|og r r r (fun hc=>(aP (v:=aS) nV (gx r hc) r r)) ?_
   refine og r r r (fun hc=>(uJ (gx r hc) (gx r hc)))<|aQ r (bS r r r (fun e=>fG e))<|mB r<|og r r r (fun hc=>(bF mR r))<|og r r r (fun hc=>(aP (v:=aL) nA (gx r hc) r r))<|og r r r (fun hc=>(bF mR r))<|og r r r (fun hc=>(aP (v:=aL) nA (gx r hc) r r)) ?_
   obtain ⟨x1,hx1,h2⟩:=aE h
   refine vQ r r (fun hc=>bG (v:=aB) r (lN (cV hx1 hc)) ⟨(fK (gx r hc) lr),(fK (gx r hc) lr),trivial⟩ (fT (by repeat (first | exact eK | refine aY r ?_ | refine aY (rI r) ?_ | refine aY rH ?_))) r r) ?_
   refine aQ r (bS r r r (fun e=>fG e))<|mB r<|og r r r (fun hc=>(bF gG r))<|og r r r (fun hc=>(aP (v:=aL) nR (gx r hc) r r))<|og r r r (fun hc=>(bF gG r))<|og r r r (fun hc=>(aP (v:=aL) nR (gx r hc) r r)) ?_
   obtain ⟨x3,hx3,h4⟩:=aE h2
   refine vQ r r (fun hc=>bG (v:=aB) r (ih_slices_EqualFunc_api_Value_api_Value_api_Value_api_Value_value_Same (cV hx3 hc)) ⟨(fK (gx r hc) lr),(fK (gx r hc) lr),lr,trivial⟩ (fT (by repeat (first | exact eK | refine aY r ?_ | refine aY (rI r) ?_ | refine aY rH ?_))) r r) ?_
   refine aQ r (bS r r r (fun e=>fG e))<|sB r<|aF (fr':=[(4,aB)]) r r<|bE ?_
   obtain rfl:=sy h4
   exact bD (rs':=[.tmp 4]) r<|bL (v:=aB) r<|bC<|aR [] r r r lr aC
noncomputable def uZ (p0a:aD) (p1b:aD):Option Bool:=lim fun n=>mU n p0a p1b
theorem aAu {p0a:aD}{p1b:aD}{res:Bool} (h:uZ p0a p1b=some res):bR Tryz.prog 116 [.agg (AV.cs (dD p0a)),.agg (AV.cs (dD p1b))] [] (.c (.bool res)) []:=by
 obtain ⟨n,hn⟩:=nM h
 exact (gE n).2 hn
noncomputable def gS (p0a:bP) (p1b:bP):Option Bool :=
 (iH p0a).bind fun x1=>(iH p1b).bind fun x4=>cond (!decide (p0a.ToStart=p1b.ToStart)) (some false) (cond (!decide (p0a.ToClose=p1b.ToClose)) (some false) (cond (!decide (p0a.Total=p1b.Total)) (some false) (cond (!decide (p0a.Beat=p1b.Beat)) (some false) (cond (!decide (p0a.First=p1b.First)) (some false) (cond (!decide (p0a.Coef=p1b.Coef)) (some false) (cond (!decide (p0a.Most=p1b.Most)) (some false) (cond (!decide (p0a.Attempts=p1b.Attempts)) (some false) ((gd ((decide (p0a.Queue=p1b.Queue))==true) (fE p0a.Fatal p1b.Fatal)).bind fun x23=>some (cond (decide (p0a.Queue=p1b.Queue)) x23 false)))))))))
theorem qK {p0a:bP}{p1b:bP}{res:Bool} (h:gS p0a p1b=some res):bR Tryz.prog 117 [.agg (AV.cs (gA p0a)),.agg (AV.cs (gA p1b))] [] (.c (.bool res)) []:=by
 unfold gS at h
 refine cP (fn:=Tryz.f117) [0,1,2,3,4,5,6,7,11,12,13,27] (by kernel_rfl) Tryz.func117 r (by kernel_rfl) (by kernel_rfl)<|aJ<|gH (v:=.agg bU) (n:=0) (cs:=bU) (σ':=[bU]) r r r r r<|gH (v:=.agg bU) (n:=1) (cs:=bU) (σ':=[bU,bU]) r r r r r<|sB r<|aF (fr':=[(2,.box 0 0),(3,.box 1 0)]) r r<|aN<|aT ?_
 obtain ⟨x1,hx1,h2⟩:=aE h
 refine sU (v:=.ptrs [(0,1),(0,2),(0,3),(0,4),(0,5),(0,6),(0,7),(0,8)]) (σ':=[bU,bU]) 8 [0] [] r (pD hx1) r r r ⟨lr,trivial⟩ (eM ⟨r,r,r,r,r,r,r,r,r,r,trivial⟩ aC) r r r ?_
 obtain ⟨x4,hx4,h5⟩:=aE h2
 refine sU (v:=.ptrs [(1,1),(1,2),(1,3),(1,4),(1,5),(1,6),(1,7),(1,8)]) (σ':=[bU,bU]) 9 [1] [] r (pD hx4) r r r ⟨lr,trivial⟩ (eM ⟨r,r,r,r,r,r,r,r,r,r,trivial⟩ aC) r r r<|sV (v:=.ptrs [(0,1),(0,2),(0,3),(0,4),(0,5),(0,6),(0,7),(0,8)]) r<|sV (v:=.ptrs [(1,1),(1,2),(1,3),(1,4),(1,5),(1,6),(1,7),(1,8)]) r<|aF (fr':=[(2,.box 0 0),(3,.box 1 0),(5,.ptrs [(0,1),(0,2),(0,3),(0,4),(0,5),(0,6),(0,7),(0,8)]),(6,.ptrs [(1,1),(1,2),(1,3),(1,4),(1,5),(1,6),(1,7),(1,8)])]) r r<|aN<|aJ<|mV (v:=.ptrs [(0,1),(0,2),(0,3),(0,4),(0,5),(0,6),(0,7),(0,8)]) r<|aQ r (aED aLx r)<|mI r<|aF (fr':=[(2,.box 0 0),(3,.box 1 0),(5,.ptrs [(0,1),(0,2),(0,3),(0,4),(0,5),(0,6),(0,7),(0,8)]),(6,.ptrs [(1,1),(1,2),(1,3),(1,4),(1,5),(1,6),(1,7),(1,8)]),(11,aI),(12,aI)]) r r<|bK<|aHX 64 ?_
 refine mN<|aJ<|aQ r (nH (dU r r) (show _=.bool true from r))<|aF (fr':=[(2,.box 0 0),(3,.box 1 0),(5,.ptrs [(0,1),(0,2),(0,3),(0,4),(0,5),(0,6),(0,7),(0,8)]),(6,.ptrs [(1,1),(1,2),(1,3),(1,4),(1,5),(1,6),(1,7),(1,8)]),(11,aI),(12,aI),(13,aB)]) r r<|aN<|eL r<|bA<|bT<|aN<|bK<|aN<|aT ?_
 refine mI r<|sI r<|aF (fr':=[(2,.box 0 0),(3,.box 1 0),(5,.ptrs [(0,1),(0,2),(0,3),(0,4),(0,5),(0,6),(0,7),(0,8)]),(6,.ptrs [(1,1),(1,2),(1,3),(1,4),(1,5),(1,6),(1,7),(1,8)]),(7,aI),(11,aI),(12,aI)]) r r<|aN<|gP [.q 0,.q 1,.q 2,.q 3,.q 4,.q 5,.q 6,.q 7,.q 8,.q 9,.q 10,.q 11,.q 12] [(some 15,[5]),(some 16,[7]),(some 17,[15,16]),(some 18,[17]),(some 19,[18]),(some 20,[19]),(some 21,[6]),(some 22,[7]),(some 23,[21,22]),(some 24,[23]),(some 25,[24]),(some 26,[25]),(some 27,[20,26])] [0,0,3,7,15,31,0,0,192,448,960,1984,4095] (by kernel_rfl)<|dq r r (aU (v:=.ptrs [(0,1),(0,2),(0,3),(0,4),(0,5),(0,6),(0,7),(0,8)]) r)<|dq r r (aU (v:=aI) r)<|dq r r (gJ (p:=(0,1)) kA r r r)<|dq r r (eE kY r)<|dq r r (eQ r)<|dq r r (aP (v:=aI) fC r r r)<|dq r r (aU (v:=.ptrs [(1,1),(1,2),(1,3),(1,4),(1,5),(1,6),(1,7),(1,8)]) r)<|dq r r (aU (v:=aI) r) ?_
 refine dq r r (gJ (p:=(1,1)) kA r r r)<|dq r r (eE kY r)<|dq r r (eQ r)<|dq r r (aP (v:=aI) fC r r r)<|dq r r (fU r r)<|tB (fr':=[(2,.box 0 0),(3,.box 1 0),(5,.ptrs [(0,1),(0,2),(0,3),(0,4),(0,5),(0,6),(0,7),(0,8)]),(6,.ptrs [(1,1),(1,2),(1,3),(1,4),(1,5),(1,6),(1,7),(1,8)]),(11,aI),(12,aI),(27,aB)]) r r<|cC h5 r (fun hb7 h7=>?_) (fun hb7 h7=>?_)
 ·
  refine aJ<|sB r<|aF (fr':=[(4,aB)]) r r<|bE<|bB<|aK<|aK<|bB<|aK ?_
  obtain rfl:=sy h7
  exact bD (rs':=[.tmp 4]) r<|bL (v:=aB) r<|bC<|aR [] r r r lr aC
 ·
  refine bA<|cA<|bT<|aT<|aQ r (nH (dR r r) (show _=.int .i64 (1:Int) from r))<|mI r<|cI (fr':=[(2,.box 0 0),(3,.box 1 0),(5,.ptrs [(0,1),(0,2),(0,3),(0,4),(0,5),(0,6),(0,7),(0,8)]),(6,.ptrs [(1,1),(1,2),(1,3),(1,4),(1,5),(1,6),(1,7),(1,8)]),(11,aI),(12,aI),(27,aB)]) r<|fM<|mN<|aJ<|aQ r (nH (dU r r) (show _=.bool true from r))<|aF (fr':=[(2,.box 0 0),(3,.box 1 0),(5,.ptrs [(0,1),(0,2),(0,3),(0,4),(0,5),(0,6),(0,7),(0,8)]),(6,.ptrs [(1,1),(1,2),(1,3),(1,4),(1,5),(1,6),(1,7),(1,8)]),(11,aI),(12,aI),(13,aB)]) r r ?_
  refine aN<|eL r<|bA<|bT<|aN<|bK<|aJ<|mI r<|sI r<|aF (fr':=[(2,.box 0 0),(3,.box 1 0),(5,.ptrs [(0,1),(0,2),(0,3),(0,4),(0,5),(0,6),(0,7),(0,8)]),(6,.ptrs [(1,1),(1,2),(1,3),(1,4),(1,5),(1,6),(1,7),(1,8)]),(7,aI),(11,aI),(12,aI)]) r r<|aN<|gP [.q 0,.q 1,.q 2,.q 3,.q 4,.q 5,.q 6,.q 7,.q 8,.q 9,.q 10,.q 11,.q 12] [(some 15,[5]),(some 16,[7]),(some 17,[15,16]),(some 18,[17]),(some 19,[18]),(some 20,[19]),(some 21,[6]),(some 22,[7]),(some 23,[21,22]),(some 24,[23]),(some 25,[24]),(some 26,[25]),(some 27,[20,26])] [0,0,3,7,15,31,0,0,192,448,960,1984,4095] (by kernel_rfl) ?_
  refine dq r r (aU (v:=.ptrs [(0,1),(0,2),(0,3),(0,4),(0,5),(0,6),(0,7),(0,8)]) r)<|dq r r (aU (v:=aI) r)<|dq r r (gJ (p:=(0,2)) kA r r r)<|dq r r (eE kY r)<|dq r r (eQ r)<|dq r r (aP (v:=aI) fC r r r)<|dq r r (aU (v:=.ptrs [(1,1),(1,2),(1,3),(1,4),(1,5),(1,6),(1,7),(1,8)]) r)<|dq r r (aU (v:=aI) r)<|dq r r (gJ (p:=(1,2)) kA r r r)<|dq r r (eE kY r)<|dq r r (eQ r)<|dq r r (aP (v:=aI) fC r r r)<|dq r r (fU r r) ?_
  refine tB (fr':=[(2,.box 0 0),(3,.box 1 0),(5,.ptrs [(0,1),(0,2),(0,3),(0,4),(0,5),(0,6),(0,7),(0,8)]),(6,.ptrs [(1,1),(1,2),(1,3),(1,4),(1,5),(1,6),(1,7),(1,8)]),(11,aI),(12,aI),(27,aB)]) r r<|cC h7 r (fun hb9 h9=>?_) (fun hb9 h9=>?_)
  ·
   refine aJ<|sB r<|aF (fr':=[(4,aB)]) r r<|bE<|bB<|aK<|aK<|bB<|aK ?_
   obtain rfl:=sy h9
   exact bD (rs':=[.tmp 4]) r<|bL (v:=aB) r<|bC<|aR [] r r r lr aC
  ·
   refine bA<|cA<|bT<|aT<|aQ r (nH (dR r r) (show _=.int .i64 (2:Int) from r))<|mI r<|cI (fr':=[(2,.box 0 0),(3,.box 1 0),(5,.ptrs [(0,1),(0,2),(0,3),(0,4),(0,5),(0,6),(0,7),(0,8)]),(6,.ptrs [(1,1),(1,2),(1,3),(1,4),(1,5),(1,6),(1,7),(1,8)]),(11,aI),(12,aI),(27,aB)]) r<|fM<|mN<|aJ<|aQ r (nH (dU r r) (show _=.bool true from r))<|aF (fr':=[(2,.box 0 0),(3,.box 1 0),(5,.ptrs [(0,1),(0,2),(0,3),(0,4),(0,5),(0,6),(0,7),(0,8)]),(6,.ptrs [(1,1),(1,2),(1,3),(1,4),(1,5),(1,6),(1,7),(1,8)]),(11,aI),(12,aI),(13,aB)]) r r ?_
   refine aN<|eL r<|bA<|bT<|aN<|bK<|aJ<|mI r<|sI r<|aF (fr':=[(2,.box 0 0),(3,.box 1 0),(5,.ptrs [(0,1),(0,2),(0,3),(0,4),(0,5),(0,6),(0,7),(0,8)]),(6,.ptrs [(1,1),(1,2),(1,3),(1,4),(1,5),(1,6),(1,7),(1,8)]),(7,aI),(11,aI),(12,aI)]) r r<|aN<|gP [.q 0,.q 1,.q 2,.q 3,.q 4,.q 5,.q 6,.q 7,.q 8,.q 9,.q 10,.q 11,.q 12] [(some 15,[5]),(some 16,[7]),(some 17,[15,16]),(some 18,[17]),(some 19,[18]),(some 20,[19]),(some 21,[6]),(some 22,[7]),(some 23,[21,22]),(some 24,[23]),(some 25,[24]),(some 26,[25]),(some 27,[20,26])] [0,0,3,7,15,31,0,0,192,448,960,1984,4095] (by kernel_rfl) ?_
   refine dq r r (aU (v:=.ptrs [(0,1),(0,2),(0,3),(0,4),(0,5),(0,6),(0,7),(0,8)]) r)<|dq r r (aU (v:=aI) r)<|dq r r (gJ (p:=(0,3)) kA r r r)<|dq r r (eE kY r)<|dq r r (eQ r)<|dq r r (aP (v:=aI) fC r r r)<|dq r r (aU (v:=.ptrs [(1,1),(1,2),(1,3),(1,4),(1,5),(1,6),(1,7),(1,8)]) r)<|dq r r (aU (v:=aI) r)<|dq r r (gJ (p:=(1,3)) kA r r r)<|dq r r (eE kY r)<|dq r r (eQ r)<|dq r r (aP (v:=aI) fC r r r)<|dq r r (fU r r) ?_
   refine tB (fr':=[(2,.box 0 0),(3,.box 1 0),(5,.ptrs [(0,1),(0,2),(0,3),(0,4),(0,5),(0,6),(0,7),(0,8)]),(6,.ptrs [(1,1),(1,2),(1,3),(1,4),(1,5),(1,6),(1,7),(1,8)]),(11,aI),(12,aI),(27,aB)]) r r<|cC h9 r (fun hb11 h11=>?_) (fun hb11 h11=>?_)
   ·
    refine aJ<|sB r<|aF (fr':=[(4,aB)]) r r<|bE<|bB<|aK<|aK<|bB<|aK ?_
    obtain rfl:=sy h11
    exact bD (rs':=[.tmp 4]) r<|bL (v:=aB) r<|bC<|aR [] r r r lr aC
   ·
    refine bA<|cA<|bT<|aT<|aQ r (nH (dR r r) (show _=.int .i64 (3:Int) from r))<|mI r<|cI (fr':=[(2,.box 0 0),(3,.box 1 0),(5,.ptrs [(0,1),(0,2),(0,3),(0,4),(0,5),(0,6),(0,7),(0,8)]),(6,.ptrs [(1,1),(1,2),(1,3),(1,4),(1,5),(1,6),(1,7),(1,8)]),(11,aI),(12,aI),(27,aB)]) r<|fM<|mN<|aJ<|aQ r (nH (dU r r) (show _=.bool true from r))<|aF (fr':=[(2,.box 0 0),(3,.box 1 0),(5,.ptrs [(0,1),(0,2),(0,3),(0,4),(0,5),(0,6),(0,7),(0,8)]),(6,.ptrs [(1,1),(1,2),(1,3),(1,4),(1,5),(1,6),(1,7),(1,8)]),(11,aI),(12,aI),(13,aB)]) r r ?_
    refine aN<|eL r<|bA<|bT<|aN<|bK<|aJ<|mI r<|sI r<|aF (fr':=[(2,.box 0 0),(3,.box 1 0),(5,.ptrs [(0,1),(0,2),(0,3),(0,4),(0,5),(0,6),(0,7),(0,8)]),(6,.ptrs [(1,1),(1,2),(1,3),(1,4),(1,5),(1,6),(1,7),(1,8)]),(7,aI),(11,aI),(12,aI)]) r r<|aN<|gP [.q 0,.q 1,.q 2,.q 3,.q 4,.q 5,.q 6,.q 7,.q 8,.q 9,.q 10,.q 11,.q 12] [(some 15,[5]),(some 16,[7]),(some 17,[15,16]),(some 18,[17]),(some 19,[18]),(some 20,[19]),(some 21,[6]),(some 22,[7]),(some 23,[21,22]),(some 24,[23]),(some 25,[24]),(some 26,[25]),(some 27,[20,26])] [0,0,3,7,15,31,0,0,192,448,960,1984,4095] (by kernel_rfl) ?_
    refine dq r r (aU (v:=.ptrs [(0,1),(0,2),(0,3),(0,4),(0,5),(0,6),(0,7),(0,8)]) r)<|dq r r (aU (v:=aI) r)<|dq r r (gJ (p:=(0,4)) kA r r r)<|dq r r (eE kY r)<|dq r r (eQ r)<|dq r r (aP (v:=aI) fC r r r)<|dq r r (aU (v:=.ptrs [(1,1),(1,2),(1,3),(1,4),(1,5),(1,6),(1,7),(1,8)]) r)<|dq r r (aU (v:=aI) r)<|dq r r (gJ (p:=(1,4)) kA r r r)<|dq r r (eE kY r)<|dq r r (eQ r)<|dq r r (aP (v:=aI) fC r r r)<|dq r r (fU r r) ?_
    refine tB (fr':=[(2,.box 0 0),(3,.box 1 0),(5,.ptrs [(0,1),(0,2),(0,3),(0,4),(0,5),(0,6),(0,7),(0,8)]),(6,.ptrs [(1,1),(1,2),(1,3),(1,4),(1,5),(1,6),(1,7),(1,8)]),(11,aI),(12,aI),(27,aB)]) r r<|cC h11 r (fun hb13 h13=>?_) (fun hb13 h13=>?_)
    ·
     refine aJ<|sB r<|aF (fr':=[(4,aB)]) r r<|bE<|bB<|aK<|aK<|bB<|aK ?_
     obtain rfl:=sy h13
     exact bD (rs':=[.tmp 4]) r<|bL (v:=aB) r<|bC<|aR [] r r r lr aC
    ·
     refine bA<|cA<|bT<|aT<|aQ r (nH (dR r r) (show _=.int .i64 (4:Int) from r))<|mI r<|cI (fr':=[(2,.box 0 0),(3,.box 1 0),(5,.ptrs [(0,1),(0,2),(0,3),(0,4),(0,5),(0,6),(0,7),(0,8)]),(6,.ptrs [(1,1),(1,2),(1,3),(1,4),(1,5),(1,6),(1,7),(1,8)]),(11,aI),(12,aI),(27,aB)]) r<|fM<|mN<|aJ<|aQ r (nH (dU r r) (show _=.bool true from r))<|aF (fr':=[(2,.box 0 0),(3,.box 1 0),(5,.ptrs [(0,1),(0,2),(0,3),(0,4),(0,5),(0,6),(0,7),(0,8)]),(6,.ptrs [(1,1),(1,2),(1,3),(1,4),(1,5),(1,6),(1,7),(1,8)]),(11,aI),(12,aI),(13,aB)]) r r ?_
     refine aN<|eL r<|bA<|bT<|aN<|bK<|aJ<|mI r<|sI r<|aF (fr':=[(2,.box 0 0),(3,.box 1 0),(5,.ptrs [(0,1),(0,2),(0,3),(0,4),(0,5),(0,6),(0,7),(0,8)]),(6,.ptrs [(1,1),(1,2),(1,3),(1,4),(1,5),(1,6),(1,7),(1,8)]),(7,aI),(11,aI),(12,aI)]) r r<|aN<|gP [.q 0,.q 1,.q 2,.q 3,.q 4,.q 5,.q 6,.q 7,.q 8,.q 9,.q 10,.q 11,.q 12] [(some 15,[5]),(some 16,[7]),(some 17,[15,16]),(some 18,[17]),(some 19,[18]),(some 20,[19]),(some 21,[6]),(some 22,[7]),(some 23,[21,22]),(some 24,[23]),(some 25,[24]),(some 26,[25]),(some 27,[20,26])] [0,0,3,7,15,31,0,0,192,448,960,1984,4095] (by kernel_rfl) ?_
     refine dq r r (aU (v:=.ptrs [(0,1),(0,2),(0,3),(0,4),(0,5),(0,6),(0,7),(0,8)]) r)<|dq r r (aU (v:=aI) r)<|dq r r (gJ (p:=(0,5)) kA r r r)<|dq r r (eE kY r)<|dq r r (eQ r)<|dq r r (aP (v:=aI) fC r r r)<|dq r r (aU (v:=.ptrs [(1,1),(1,2),(1,3),(1,4),(1,5),(1,6),(1,7),(1,8)]) r)<|dq r r (aU (v:=aI) r)<|dq r r (gJ (p:=(1,5)) kA r r r)<|dq r r (eE kY r)<|dq r r (eQ r)<|dq r r (aP (v:=aI) fC r r r)<|dq r r (fU r r) ?_
     refine tB (fr':=[(2,.box 0 0),(3,.box 1 0),(5,.ptrs [(0,1),(0,2),(0,3),(0,4),(0,5),(0,6),(0,7),(0,8)]),(6,.ptrs [(1,1),(1,2),(1,3),(1,4),(1,5),(1,6),(1,7),(1,8)]),(11,aI),(12,aI),(27,aB)]) r r<|cC h13 r (fun hb15 h15=>?_) (fun hb15 h15=>?_)
     ·
      refine aJ<|sB r<|aF (fr':=[(4,aB)]) r r<|bE<|bB<|aK<|aK<|bB<|aK ?_
      obtain rfl:=sy h15
      exact bD (rs':=[.tmp 4]) r<|bL (v:=aB) r<|bC<|aR [] r r r lr aC
     ·
      refine bA<|cA<|bT<|aT<|aQ r (nH (dR r r) (show _=.int .i64 (5:Int) from r))<|mI r<|cI (fr':=[(2,.box 0 0),(3,.box 1 0),(5,.ptrs [(0,1),(0,2),(0,3),(0,4),(0,5),(0,6),(0,7),(0,8)]),(6,.ptrs [(1,1),(1,2),(1,3),(1,4),(1,5),(1,6),(1,7),(1,8)]),(11,aI),(12,aI),(27,aB)]) r<|fM<|mN<|aJ<|aQ r (nH (dU r r) (show _=.bool true from r))<|aF (fr':=[(2,.box 0 0),(3,.box 1 0),(5,.ptrs [(0,1),(0,2),(0,3),(0,4),(0,5),(0,6),(0,7),(0,8)]),(6,.ptrs [(1,1),(1,2),(1,3),(1,4),(1,5),(1,6),(1,7),(1,8)]),(11,aI),(12,aI),(13,aB)]) r r ?_
      refine aN<|eL r<|bA<|bT<|aN<|bK<|aJ<|mI r<|sI r<|aF (fr':=[(2,.box 0 0),(3,.box 1 0),(5,.ptrs [(0,1),(0,2),(0,3),(0,4),(0,5),(0,6),(0,7),(0,8)]),(6,.ptrs [(1,1),(1,2),(1,3),(1,4),(1,5),(1,6),(1,7),(1,8)]),(7,aI),(11,aI),(12,aI)]) r r<|aN<|gP [.q 0,.q 1,.q 2,.q 3,.q 4,.q 5,.q 6,.q 7,.q 8,.q 9,.q 10,.q 11,.q 12] [(some 15,[5]),(some 16,[7]),(some 17,[15,16]),(some 18,[17]),(some 19,[18]),(some 20,[19]),(some 21,[6]),(some 22,[7]),(some 23,[21,22]),(some 24,[23]),(some 25,[24]),(some 26,[25]),(some 27,[20,26])] [0,0,3,7,15,31,0,0,192,448,960,1984,4095] (by kernel_rfl) ?_
      refine dq r r (aU (v:=.ptrs [(0,1),(0,2),(0,3),(0,4),(0,5),(0,6),(0,7),(0,8)]) r)<|dq r r (aU (v:=aI) r)<|dq r r (gJ (p:=(0,6)) kA r r r)<|dq r r (eE kY r)<|dq r r (eQ r)<|dq r r (aP (v:=aI) fC r r r)<|dq r r (aU (v:=.ptrs [(1,1),(1,2),(1,3),(1,4),(1,5),(1,6),(1,7),(1,8)]) r)<|dq r r (aU (v:=aI) r)<|dq r r (gJ (p:=(1,6)) kA r r r)<|dq r r (eE kY r)<|dq r r (eQ r)<|dq r r (aP (v:=aI) fC r r r)<|dq r r (fU r r) ?_
      refine tB (fr':=[(2,.box 0 0),(3,.box 1 0),(5,.ptrs [(0,1),(0,2),(0,3),(0,4),(0,5),(0,6),(0,7),(0,8)]),(6,.ptrs [(1,1),(1,2),(1,3),(1,4),(1,5),(1,6),(1,7),(1,8)]),(11,aI),(12,aI),(27,aB)]) r r<|cC h15 r (fun hb17 h17=>?_) (fun hb17 h17=>?_)
      ·
       refine aJ<|sB r<|aF (fr':=[(4,aB)]) r r<|bE<|bB<|aK<|aK<|bB<|aK ?_
       obtain rfl:=sy h17
       exact bD (rs':=[.tmp 4]) r<|bL (v:=aB) r<|bC<|aR [] r r r lr aC
      ·
       refine bA<|cA<|bT<|aT<|aQ r (nH (dR r r) (show _=.int .i64 (6:Int) from r))<|mI r<|cI (fr':=[(2,.box 0 0),(3,.box 1 0),(5,.ptrs [(0,1),(0,2),(0,3),(0,4),(0,5),(0,6),(0,7),(0,8)]),(6,.ptrs [(1,1),(1,2),(1,3),(1,4),(1,5),(1,6),(1,7),(1,8)]),(11,aI),(12,aI),(27,aB)]) r<|fM<|mN<|aJ<|aQ r (nH (dU r r) (show _=.bool true from r))<|aF (fr':=[(2,.box 0 0),(3,.box 1 0),(5,.ptrs [(0,1),(0,2),(0,3),(0,4),(0,5),(0,6),(0,7),(0,8)]),(6,.ptrs [(1,1),(1,2),(1,3),(1,4),(1,5),(1,6),(1,7),(1,8)]),(11,aI),(12,aI),(13,aB)]) r r ?_
       refine aN<|eL r<|bA<|bT<|aN<|bK<|aJ<|mI r<|sI r<|aF (fr':=[(2,.box 0 0),(3,.box 1 0),(5,.ptrs [(0,1),(0,2),(0,3),(0,4),(0,5),(0,6),(0,7),(0,8)]),(6,.ptrs [(1,1),(1,2),(1,3),(1,4),(1,5),(1,6),(1,7),(1,8)]),(7,aI),(11,aI),(12,aI)]) r r<|aN<|gP [.q 0,.q 1,.q 2,.q 3,.q 4,.q 5,.q 6,.q 7,.q 8,.q 9,.q 10,.q 11,.q 12] [(some 15,[5]),(some 16,[7]),(some 17,[15,16]),(some 18,[17]),(some 19,[18]),(some 20,[19]),(some 21,[6]),(some 22,[7]),(some 23,[21,22]),(some 24,[23]),(some 25,[24]),(some 26,[25]),(some 27,[20,26])] [0,0,3,7,15,31,0,0,192,448,960,1984,4095] (by kernel_rfl) ?_
       refine dq r r (aU (v:=.ptrs [(0,1),(0,2),(0,3),(0,4),(0,5),(0,6),(0,7),(0,8)]) r)<|dq r r (aU (v:=aI) r)<|dq r r (gJ (p:=(0,7)) kA r r r)<|dq r r (eE kY r)<|dq r r (eQ r)<|dq r r (aP (v:=aI) fC r r r)<|dq r r (aU (v:=.ptrs [(1,1),(1,2),(1,3),(1,4),(1,5),(1,6),(1,7),(1,8)]) r)<|dq r r (aU (v:=aI) r)<|dq r r (gJ (p:=(1,7)) kA r r r)<|dq r r (eE kY r)<|dq r r (eQ r)<|dq r r (aP (v:=aI) fC r r r)<|dq r r (fU r r) ?_
       refine tB (fr':=[(2,.box 0 0),(3,.box 1 0),(5,.ptrs [(0,1),(0,2),(0,3),(0,4),(0,5),(0,6),(0,7),(0,8)]),(6,.ptrs [(1,1),(1,2),(1,3),(1,4),(1,5),(1,6),(1,7),(1,8)]),(11,aI),(12,aI),(27,aB)]) r r<|cC h17 r (fun hb19 h19=>?_) (fun hb19 h19=>?_)
       ·
        refine aJ<|sB r<|aF (fr':=[(4,aB)]) r r<|bE<|bB<|aK<|aK<|bB<|aK ?_
        obtain rfl:=sy h19
        exact bD (rs':=[.tmp 4]) r<|bL (v:=aB) r<|bC<|aR [] r r r lr aC
       ·
        refine bA<|cA<|bT<|aT<|aQ r (nH (dR r r) (show _=.int .i64 (7:Int) from r))<|mI r<|cI (fr':=[(2,.box 0 0),(3,.box 1 0),(5,.ptrs [(0,1),(0,2),(0,3),(0,4),(0,5),(0,6),(0,7),(0,8)]),(6,.ptrs [(1,1),(1,2),(1,3),(1,4),(1,5),(1,6),(1,7),(1,8)]),(11,aI),(12,aI),(27,aB)]) r<|fM<|mN<|aJ<|aQ r (nH (dU r r) (show _=.bool true from r))<|aF (fr':=[(2,.box 0 0),(3,.box 1 0),(5,.ptrs [(0,1),(0,2),(0,3),(0,4),(0,5),(0,6),(0,7),(0,8)]),(6,.ptrs [(1,1),(1,2),(1,3),(1,4),(1,5),(1,6),(1,7),(1,8)]),(11,aI),(12,aI),(13,aB)]) r r ?_
        refine aN<|eL r<|bA<|bT<|aN<|bK<|aJ<|mI r<|sI r<|aF (fr':=[(2,.box 0 0),(3,.box 1 0),(5,.ptrs [(0,1),(0,2),(0,3),(0,4),(0,5),(0,6),(0,7),(0,8)]),(6,.ptrs [(1,1),(1,2),(1,3),(1,4),(1,5),(1,6),(1,7),(1,8)]),(7,aI),(11,aI),(12,aI)]) r r<|aN<|gP [.q 0,.q 1,.q 2,.q 3,.q 4,.q 5,.q 6,.q 7,.q 8,.q 9,.q 10,.q 11,.q 12] [(some 15,[5]),(some 16,[7]),(some 17,[15,16]),(some 18,[17]),(some 19,[18]),(some 20,[19]),(some 21,[6]),(some 22,[7]),(some 23,[21,22]),(some 24,[23]),(some 25,[24]),(some 26,[25]),(some 27,[20,26])] [0,0,3,7,15,31,0,0,192,448,960,1984,4095] (by kernel_rfl) ?_
        refine dq r r (aU (v:=.ptrs [(0,1),(0,2),(0,3),(0,4),(0,5),(0,6),(0,7),(0,8)]) r)<|dq r r (aU (v:=aI) r)<|dq r r (gJ (p:=(0,8)) kA r r r)<|dq r r (eE kY r)<|dq r r (eQ r)<|dq r r (aP (v:=aI) fC r r r)<|dq r r (aU (v:=.ptrs [(1,1),(1,2),(1,3),(1,4),(1,5),(1,6),(1,7),(1,8)]) r)<|dq r r (aU (v:=aI) r)<|dq r r (gJ (p:=(1,8)) kA r r r)<|dq r r (eE kY r)<|dq r r (eQ r)<|dq r r (aP (v:=aI) fC r r r)<|dq r r (fU r r) ?_
        refine tB (fr':=[(2,.box 0 0),(3,.box 1 0),(5,.ptrs [(0,1),(0,2),(0,3),(0,4),(0,5),(0,6),(0,7),(0,8)]),(6,.ptrs [(1,1),(1,2),(1,3),(1,4),(1,5),(1,6),(1,7),(1,8)]),(11,aI),(12,aI),(27,aB)]) r r<|cC h19 r (fun hb21 h21=>?_) (fun hb21 h21=>?_)
        ·
         refine aJ<|sB r<|aF (fr':=[(4,aB)]) r r<|bE<|bB<|aK<|aK<|bB<|aK ?_
         obtain rfl:=sy h21
         exact bD (rs':=[.tmp 4]) r<|bL (v:=aB) r<|bC<|aR [] r r r lr aC
        ·
         refine bA<|cA<|bT<|aT<|aQ r (nH (dR r r) (show _=.int .i64 (8:Int) from r))<|mI r<|cI (fr':=[(2,.box 0 0),(3,.box 1 0),(5,.ptrs [(0,1),(0,2),(0,3),(0,4),(0,5),(0,6),(0,7),(0,8)]),(6,.ptrs [(1,1),(1,2),(1,3),(1,4),(1,5),(1,6),(1,7),(1,8)]),(11,aI),(12,aI),(27,aB)]) r<|fM<|mN<|aJ<|aQ r (nH (dU r r) (show _=.bool false from r))<|aF (fr':=[(2,.box 0 0),(3,.box 1 0),(5,.ptrs [(0,1),(0,2),(0,3),(0,4),(0,5),(0,6),(0,7),(0,8)]),(6,.ptrs [(1,1),(1,2),(1,3),(1,4),(1,5),(1,6),(1,7),(1,8)]),(11,aI),(12,aI),(13,aB)]) r r ?_
         refine aN<|wZ r<|fJ<|bY<|bY<|eC<|bT<|aJ<|aQ r (bF uR r)<|aQ r (aP (v:=aS) nV r r r)<|aQ r (bF uR r)<|aQ r (aP (v:=aS) nV r r r) ?_
         refine aQ r (uJ r r)<|mB r<|og r r r (fun hc=>(bF mT r))<|og r r r (fun hc=>(aP (v:=aL) nA (gx r hc) r r))<|og r r r (fun hc=>(bF mT r))<|og r r r (fun hc=>(aP (v:=aL) nA (gx r hc) r r)) ?_
         obtain ⟨x23,hx23,h24⟩:=aE h21
         refine vQ r r (fun hc=>bG (v:=aB) r (lN (cV hx23 hc)) ⟨(fK (gx r hc) lr),(fK (gx r hc) lr),trivial⟩ (fT (by repeat (first | exact eK | refine aY r ?_ | refine aY (rI r) ?_ | refine aY rH ?_))) r r) ?_
         refine aQ r (bS r r r (fun e=>fG e))<|sB r<|aF (fr':=[(4,aB)]) r r<|bE ?_
         obtain rfl:=sy h24
         exact bD (rs':=[.tmp 4]) r<|bL (v:=aB) r<|bC<|aR [] r r r lr aC
noncomputable def oK (p0c:fL) (p1u:eN):Option Bool :=
 (gd (((cond (cond (cond (cond p1u.seq_ true (decide (p0c.Seq=(0:Int)))) (cond p1u.name_ true (decide (p0c.Name=([]:List UInt8)))) false) (cond p1u.key_ true (decide (p0c.Key=([]:List UInt8)))) false) (cond p1u.n_ true (decide (p0c.N=(0:Int)))) false)==true)&&(p1u.data_==false)) (uZ p0c.Data (aD.mk (0:Int) (0:Int) ([]:List UInt8) ([]:(List aD)) ([]:(List (List UInt8)))))).bind fun x1=>(gd (((cond (cond (cond (cond (cond p1u.seq_ true (decide (p0c.Seq=(0:Int)))) (cond p1u.name_ true (decide (p0c.Name=([]:List UInt8)))) false) (cond p1u.key_ true (decide (p0c.Key=([]:List UInt8)))) false) (cond p1u.n_ true (decide (p0c.N=(0:Int)))) false) (cond p1u.data_ true x1) false)==true)&&(p1u.opts_==false)) (gS p0c.Opts (bP.mk ([]:List UInt8) (0:Int) (0:Int) (0:Int) (0:Int) (0:Int) (0:Int) (0:Int) (0:Int) ([]:(List (List UInt8)))))).bind fun x3=>some (cond (cond (cond (cond (cond (cond p1u.seq_ true (decide (p0c.Seq=(0:Int)))) (cond p1u.name_ true (decide (p0c.Name=([]:List UInt8)))) false) (cond p1u.key_ true (decide (p0c.Key=([]:List UInt8)))) false) (cond p1u.n_ true (decide (p0c.N=(0:Int)))) false) (cond p1u.data_ true x1) false) (cond p1u.opts_ true x3) false)
theorem aCX {p0c:fL}{p1u:eN}{res:Bool} (h:oK p0c p1u=some res):bR Tryz.prog 165 [.agg (AV.cs (tG p0c)),.agg (AV.cs (wK p1u))] [] (.c (.bool res)) []:=by
 unfold oK at h
 refine cP (fn:=Tryz.f165) [0,1,2,3,4] (by kernel_rfl) Tryz.func165 r (by kernel_rfl) (by kernel_rfl)<|aJ<|gH (v:=.agg cG) (n:=0) (cs:=cG) (σ':=[cG]) r r r r r<|gH (v:=.agg bW) (n:=1) (cs:=bW) (σ':=[cG,bW]) r r r r r<|sB r<|aF (fr':=[(2,.box 0 0),(3,.box 1 0)]) r r<|aJ<|aQ r (bF aHQ r)<|aQ r (aP (v:=aB) tv4 r r r)<|mB r<|og r r r (fun hc=>(bF aHL r)) ?_
 refine og r r r (fun hc=>(aP (v:=aI) fC (gx r hc) r r))<|og r r r (fun hc=>(bX (gx r hc) r))<|aQ r (cB r r r (fun e=>fG e))<|mB r<|og r r r (fun hc=>(bF aHR r))<|og r r r (fun hc=>(aP (v:=aB) tv4 (gx r hc) r r))<|og r r r (fun hc=>(aU (v:=aB) (gx r hc)))<|eJ r r (fun hc=>eW r (bF aEL r))<|eJ r r (fun hc=>eW r (aP (v:=aS) nV (gx r hc) r r))<|eJ r r (fun hc=>eW r (uJ (gx r hc) r))<|og r r r (fun hc=>(cB (gx r hc) r r (fun e=>qB hc (fG e))))<|aQ r (bS r r r (fun e=>fG e))<|mB r ?_
 refine og r r r (fun hc=>(bF aHS r))<|og r r r (fun hc=>(aP (v:=aB) tv4 (gx r hc) r r))<|og r r r (fun hc=>(aU (v:=aB) (gx r hc)))<|eJ r r (fun hc=>eW r (bF aHM r))<|eJ r r (fun hc=>eW r (aP (v:=aS) nV (gx r hc) r r))<|eJ r r (fun hc=>eW r (uJ (gx r hc) r))<|og r r r (fun hc=>(cB (gx r hc) r r (fun e=>qB hc (fG e))))<|aQ r (bS r r r (fun e=>fG e))<|mB r<|og r r r (fun hc=>(bF aLu r))<|og r r r (fun hc=>(aP (v:=aB) tv4 (gx r hc) r r))<|og r r r (fun hc=>(aU (v:=aB) (gx r hc)))<|eJ r r (fun hc=>eW r (bF xO r)) ?_
 refine eJ r r (fun hc=>eW r (aP (v:=aI) fC (gx r hc) r r))<|eJ r r (fun hc=>eW r (bX (gx r hc) r))<|og r r r (fun hc=>(cB (gx r hc) r r (fun e=>qB hc (fG e))))<|aQ r (bS r r r (fun e=>fG e))<|mB r<|og r r r (fun hc=>(bF aLv r))<|og r r r (fun hc=>(aP (v:=aB) tv4 (gx r hc) r r))<|og r r r (fun hc=>(aU (v:=aB) (gx r hc)))<|eJ r r (fun hc=>eW r (bF aAl r))<|eJ r r (fun hc=>eW r (dF (us:=bI) fQ (gx r hc) r r r))<|eJ r r (fun hc=>eW r (eI (cs:=bH) aDl r)) ?_
 obtain ⟨x1,hx1,h2⟩:=aE h
 refine eJ r r (fun hc=>bG (v:=aB) r (aAu (cV hx1 hc)) ⟨(fK (gx r hc) (bM r ⟨r,r,r,r,r,trivial⟩)),(fK (gx r hc) (bM r ⟨r,r,r,⟨_,r⟩,⟨_,r⟩,trivial⟩)),trivial⟩ (fT (by repeat (first | exact eK | refine aY r ?_ | refine aY (rI r) ?_ | refine aY rH ?_))) r r) ?_
 refine og r r r (fun hc=>(cB (gx r hc) r r (fun e=>qB hc (fG e))))<|aQ r (bS r r r (fun e=>fG e))<|mB r<|og r r r (fun hc=>(bF aLw r))<|og r r r (fun hc=>(aP (v:=aB) tv4 (gx r hc) r r))<|og r r r (fun hc=>(aU (v:=aB) (gx r hc)))<|eJ r r (fun hc=>eW r (bF aHN r))<|eJ r r (fun hc=>eW r (dF (us:=bU) xQ (gx r hc) r r r))<|eJ r r (fun hc=>eW r (rS (c0:=aX) (cs:=aX) aML r rK)) ?_
 obtain ⟨x3,hx3,h4⟩:=aE h2
 refine eJ r r (fun hc=>bG (v:=aB) r (qK (cV hx3 hc)) ⟨(fK (gx r hc) (bM r ⟨r,r,r,r,r,r,r,r,r,r,trivial⟩)),(fK (gx r hc) (bM r ⟨r,r,r,r,r,r,r,r,r,⟨_,r⟩,trivial⟩)),trivial⟩ (fT (by repeat (first | exact eK | refine aY r ?_ | refine aY (rI r) ?_ | refine aY rH ?_))) r r) ?_
 refine og r r r (fun hc=>(cB (gx r hc) r r (fun e=>qB hc (fG e))))<|aQ r (bS r r r (fun e=>fG e))<|sB r<|aF (fr':=[(4,aB)]) r r<|bE ?_
 obtain rfl:=sy h4
 exact bD (rs':=[.tmp 4]) r<|bL (v:=aB) r<|bC<|aR [] r r r lr aC
noncomputable def mX (p0s:(List UInt8)) (s4:Int):Option (cD Int (Fl Bool Unit)) :=
 cond (decide (s4<((p0s).length:Int))) ((gR p0s s4).bind fun x6=>(gd ((decide (((x6).toNat:Int)<(33:Int)))==false) (gR p0s s4)).bind fun x8=>(gd ((cond (decide (((x6).toNat:Int)<(33:Int))) true (decide ((126:Int)<((x8).toNat:Int))))==false) (gR p0s s4)).bind fun x10=>(gd ((cond (cond (decide (((x6).toNat:Int)<(33:Int))) true (decide ((126:Int)<((x8).toNat:Int)))) true (decide (((x10).toNat:Int)=(47:Int))))==false) (gR p0s s4)).bind fun x12=>cond (cond (cond (cond (decide (((x6).toNat:Int)<(33:Int))) true (decide ((126:Int)<((x8).toNat:Int)))) true (decide (((x10).toNat:Int)=(47:Int)))) true (decide (((x12).toNat:Int)=(34:Int)))) (some (cD.out (Fl.done false))) (some (cD.next (IntKind.wrap .i64 (s4+(1:Int)))))) (some (cD.out (Fl.go ())))
noncomputable def lP (p0s:(List UInt8)):Option Bool :=
 ((dO (mX p0s) ((0:Int))):Option (Fl Bool Unit)).bind fun x1=>Fl.next x1 (fun j3=>((gD ((p0s).length:Int) (1:Int) (64:Int)).bind fun x20=>some x20))
theorem aBw {p0s:(List UInt8)}{res:Bool} (h:lP p0s=some res):bR Tryz.prog 166 [.c (.str p0s)] [] (.c (.bool res)) []:=by
 unfold lP at h
 refine cP (fn:=Tryz.f166) [0,2,3,5,6,7,30] (by kernel_rfl) Tryz.func166 r (by kernel_rfl) (by kernel_rfl)<|aJ<|sB r<|aF (fr':=[(0,aS)]) r r<|aN<|aJ<|mS r<|aQ r (jT tT r)<|mI r<|aF (fr':=[(0,aS),(5,aI),(6,aI)]) r r ?_
 obtain ⟨x1,hx1,h2⟩:=aE h
 refine fI iV (fun j3=>x1=Fl.go j3) (fun (j3:Unit)=>([(0,.c (.str p0s))]:Fr)) (fun (j3:Unit)=>([]:St)) ?_ ?_
 ·
  refine bK<|fB _ (fun (s4:Int)=>([(0,.c (.str p0s)),(5,ci ((p0s).length:Int)),(6,ci s4)]:Fr)) (fun (s4:Int)=>([]:St)) hx1 (bJ [] 0 r r r r ⟨lr,lr,lr,trivial⟩ aC) ?_
  intro s4 st4 hs4 ho4
  unfold mX at hs4
  refine aJ<|aQ r (dU r r)<|aF (fr':=[(0,aS),(5,aI),(6,aI),(7,aB)]) r r<|aN<|cC hs4 r (fun hb5 h5=>?_) (fun hb5 h5=>?_)
  ·
   refine bA<|bT<|aN<|bK<|aJ<|mI r<|sI r<|aF (fr':=[(0,aS),(3,aI),(5,aI),(6,aI)]) r r<|aJ<|mS r<|mI r ?_
   obtain ⟨x6,hx6,h7⟩:=aE h5
   refine aQ r (aCr tT r r hx6)<|aQ r (dU r r)<|mB r<|og r r r (fun hc=>(aU (v:=aS) r))<|og r r r (fun hc=>(aU (v:=aI) r)) ?_
   obtain ⟨x8,hx8,h9⟩:=aE h7
   refine og r r r (fun hc=>(aCr tT (gx r hc) (gx r hc) (cV hx8 hc)))<|og r r r (fun hc=>(nO (gx r hc) r))<|aQ r (cB r r r (fun e=>fG e))<|mB r<|og r r r (fun hc=>(aU (v:=aS) r))<|og r r r (fun hc=>(aU (v:=aI) r)) ?_
   obtain ⟨x10,hx10,h11⟩:=aE h9
   refine og r r r (fun hc=>(aCr tT (gx r hc) (gx r hc) (cV hx10 hc)))<|og r r r (fun hc=>(bX (gx r hc) r))<|aQ r (cB r r r (fun e=>fG e))<|mB r<|og r r r (fun hc=>(aU (v:=aS) r))<|og r r r (fun hc=>(aU (v:=aI) r)) ?_
   obtain ⟨x12,hx12,h13⟩:=aE h11
   refine og r r r (fun hc=>(aCr tT (gx r hc) (gx r hc) (cV hx12 hc)))<|og r r r (fun hc=>(bX (gx r hc) r))<|aQ r (cB r r r (fun e=>fG e))<|aF (fr':=[(0,aS),(5,aI),(6,aI),(30,aB)]) r r<|cC h13 r (fun hb14 h14=>?_) (fun hb14 h14=>?_)
   ·
    refine aJ<|sB r<|aF (fr':=[(2,aB)]) r r<|bE<|bB<|aK<|aK<|bB<|aK<|aK ?_
    have h15:=dN h14 ho4
    have h16:=eA h15 h2
    obtain rfl:=sy h16
    exact bD (rs':=[.tmp 2]) r<|bL (v:=aB) r<|bC<|aR [] r r r lr aC
   ·
    exact bA<|cA<|bT<|aT<|aQ r (dR r r)<|mI r<|cI (fr':=[(0,aS),(5,aI),(6,aI),(30,aB)]) r<|xG _ (sy h14) (bJ [] 0 r r r r ⟨lr,lr,lr,trivial⟩ aC)
  ·
   refine fJ<|bY<|bY<|eC ?_
   have h18:=dN h5 ho4
   exact lF _ (sy h18) (bJ [] 0 r r r r ⟨lr,trivial⟩ aC)
 ·
  intro j3 hj19
  have h19:=kN hj19 h2
  refine bT<|aJ<|mS r<|aQ r (jT tT r) ?_
  obtain ⟨x20,hx20,h21⟩:=aE h19
  refine jZ (bG (v:=aB) r (gL hx20) ⟨lr,lr,lr,trivial⟩ r r r)<|sB r<|aF (fr':=[(2,aB)]) r r<|bE ?_
  obtain rfl:=sy h21
  exact bD (rs':=[.tmp 2]) r<|bL (v:=aB) r<|bC<|aR [] r r r lr aC
noncomputable def lG (p0x:aD):Option Bool :=
 (gd ((cond (!decide (p0x.Kind=(4:Int))) true (!decide (((p0x.Items).length:Int)=(2:Int))))==false) (gR p0x.Items (0:Int))).bind fun x1=>(gd ((cond (cond (!decide (p0x.Kind=(4:Int))) true (!decide (((p0x.Items).length:Int)=(2:Int)))) true (!decide (x1.Kind=(3:Int))))==false) (gR p0x.Items (0:Int))).bind fun x3=>(gd ((cond (cond (!decide (p0x.Kind=(4:Int))) true (!decide (((p0x.Items).length:Int)=(2:Int)))) true (!decide (x1.Kind=(3:Int))))==false) (jQ x3.Text)).bind fun x5=>some (cond (cond (cond (!decide (p0x.Kind=(4:Int))) true (!decide (((p0x.Items).length:Int)=(2:Int)))) true (!decide (x1.Kind=(3:Int)))) true (!x5))
theorem aAr {p0x:aD}{res:Bool} (h:lG p0x=some res):bR Tryz.prog 216 [.agg (AV.cs (dD p0x))] [] (.c (.bool res)) []:=by
 unfold lG at h
 refine cP (fn:=Tryz.f216) [0,1,2] (by kernel_rfl) Tryz.func216 r (by kernel_rfl) (by kernel_rfl)<|aJ<|gH (v:=.agg bI) (n:=0) (cs:=bI) (σ':=[bI]) r r r r r<|sB r<|aF (fr':=[(1,.box 0 0)]) r r<|aJ<|aQ r (bF jE r)<|aQ r (aP (v:=aI) fC r r r)<|aQ r (fU r r)<|mB r<|og r r r (fun hc=>(bF gG r)) ?_
 refine og r r r (fun hc=>(aP (v:=aL) nR (gx r hc) r r))<|og r r r (fun hc=>(eX sJ (cZ (gx r hc))))<|og r r r (fun hc=>(fU (gx r hc) r))<|aQ r (cB r r r (fun e=>fG e))<|mB r<|og r r r (fun hc=>(bF gG r))<|og r r r (fun hc=>(aP (v:=aL) nR (gx r hc) r r)) ?_
 obtain ⟨x1,hx1,h2⟩:=aE h
 refine og r r r (fun hc=>(jS (cs:=[PV.int _ _,PV.int _ _,PV.str _,PV.ls _ _ _,PV.ls _ _ _]) sK (cZ (gx r hc)) r (cV hx1 hc) (dA _)))<|og r r r (fun hc=>(aBe jE (gx r hc)))<|og r r r (fun hc=>(fV (p:=PV.int _ _) fC (gx r hc) r))<|og r r r (fun hc=>(fU (gx r hc) r))<|aQ r (cB r r r (fun e=>fG e))<|mB r<|og r r r (fun hc=>(bF gG r))<|og r r r (fun hc=>(aP (v:=aL) nR (gx r hc) r r)) ?_
 obtain ⟨x3,hx3,h4⟩:=aE h2
 refine og r r r (fun hc=>(jS (cs:=[PV.int _ _,PV.int _ _,PV.str _,PV.ls _ _ _,PV.ls _ _ _]) sK (cZ (gx r hc)) r (cV hx3 hc) (dA _)))<|og r r r (fun hc=>(aBe qR (gx r hc)))<|og r r r (fun hc=>(fV (p:=PV.str _) nV (gx r hc) r)) ?_
 obtain ⟨x5,hx5,h6⟩:=aE h4
 refine vQ r r (fun hc=>bG (v:=aB) r (nB (cV hx5 hc)) ⟨(fK (gx r hc) lr),trivial⟩ (fT (by repeat (first | exact eK | refine aY r ?_ | refine aY (rI r) ?_ | refine aY rH ?_))) r r) ?_
 refine og r r r (fun hc=>(eU (gx r hc)))<|aQ r (cB r r r (fun e=>fG e))<|sB r<|aF (fr':=[(2,aB)]) r r<|bE ?_
 obtain rfl:=sy h6
 exact bD (rs':=[.tmp 2]) r<|bL (v:=aB) r<|bC<|aR [] r r r lr aC
end Go.Proofs.YtnigjppddilpcaaGreatDoor
