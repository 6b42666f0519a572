import Derived.Test.YtnigjppddilpcaaGreatDoorGETy
import Derived.Test.YtnigjppddilpcaaGreatDoorGEF0
import Derived.Test.YtnigjppddilpcaaGreatDoorGEF1
import Derived.Test.YtnigjppddilpcaaGreatDoorGEF2
import Derived.Test.YtnigjppddilpcaaGreatDoorGEF3
namespace Go.Proofs.YtnigjppddilpcaaGreatDoor
open Go Abs
set_option maxRecDepth 100000
set_option linter.unusedVariables false
set_option linter.unusedSimpArgs false
noncomputable def aAb (p0b:(List UInt8)):Option aP :=
 (jA p0b).bind fun x1=>some (aP.mk x1 0 0 true)
theorem aLv {p0b:(List UInt8)}{z:aP} (h:aAb p0b=some z):dE Tryz.prog 25 [.c (PV.ls 1 jK p0b)] [] (.box 0 0) [AV.cs (eG z)]:=by
 unfold aAb at h
 refine eJ (fn:=Tryz.f25) [0,2] (by kernel_rfl) Tryz.func25 r (by kernel_rfl) (by kernel_rfl)<|aT<|sV (v:=.nilptr) r<|aR (fr':=[(0,aL)]) r r<|aT<|mL r<|bx h fun x1 y1 h2=>qB (bR (v:=aO) r (nU y1) ⟨lr,trivial⟩ r r r)<|aW r (mG (cs:=[aO,aI,aI,aB]) aSZ r)<|jB (v:=.agg [aO,aI,aI,aB]) (n:=0) (cs:=[aO,aI,aI,aB]) (σ':=[[aO,aI,aI,aB]]) r r r r r<|sV (v:=aF) r<|aR (fr':=[(2,aF)]) r r<|cB ?_
 obtain rfl:=sy h2
 exact bZ (rs':=[.tmp 2]) r<|cM (v:=aF) r<|bX<|aPY (off:=0) (j:=0) r r r r r (hO oB aH)
noncomputable def gG (dT:aP):Option Int :=
 cond (!dT.made_) (some 1) (some dT.err_)
theorem hG {dT:aP}{z:Int} (h:gG dT=some z):dE Tryz.prog 29 [.box 0 0] [AV.cs (eG dT)] (ci z) [AV.cs (eG dT)]:=by
 unfold gG at h
 refine eJ (fn:=Tryz.f29) [0,2,11] (by kernel_rfl) Tryz.func29 r (by kernel_rfl) (by kernel_rfl)<|aT<|sI r<|aR (fr':=[(0,aF)]) r r<|bC<|aT<|mV (v:=aF) r<|aW r (aMb aRJ r r)<|mB r<|wL r r r<|mV (v:=aF) r<|wL r r r<|aW r (jL r)<|wL r r r<|aW r (bH aPx r)<|wL r r r<|aW r (aK (v:=aB) tv4 r r r)<|wL r r r<|aW r (hY r)<|aW r (aCs r r r)<|aR (fr':=[(0,aF),(11,aB)]) r r<|eS h r (fun b1 h1=>?_) (fun b1 h1=>?_)
 ·
  refine aT<|sI r<|aR (fr':=[(2,aI)]) r r<|cB<|aV ?_
  obtain rfl:=sy h1
  exact bZ (rs':=[.tmp 2]) r<|cM (v:=aI) r<|bX<|aZ [] r r r lr (eU r aH)
 ·
  refine cE<|eA<|aT<|mV (v:=aF) r<|aW r (jL r)<|aW r (bH aCL r)<|aW r (aK (v:=aI) aF0 r r r)<|sI r<|aR (fr':=[(2,aI)]) r r<|cB ?_
  obtain rfl:=sy h1
  exact bZ (rs':=[.tmp 2]) r<|cM (v:=aI) r<|bX<|aZ [] r r r lr (eU r aH)
noncomputable def nN (dT:aP):Option Bool :=
 some (cond (!dT.made_) true (!decide (dT.err_=0)))
theorem vR {dT:aP}{z:Bool} (h:nN dT=some z):dE Tryz.prog 79 [.box 0 0] [AV.cs (eG dT)] (.c (.bool z)) [AV.cs (eG dT)]:=by
 unfold nN at h
 refine eJ (fn:=Tryz.f79) [0,2] (by kernel_rfl) Tryz.func79 r (by kernel_rfl) (by kernel_rfl)<|aT<|sB r<|aR (fr':=[(0,aF)]) r r<|aT<|mV (v:=aF) r<|aW r (aMb aRJ r r)<|mB r<|wL r r r<|mV (v:=aF) r<|wL r r r<|aW r (jL r)<|wL r r r<|aW r (bH aPx r)<|wL r r r<|aW r (aK (v:=aB) tv4 r r r)<|wL r r r<|aW r (hY r)<|aW r (aCs r r r)<|mB r<|og r r r (fun u=>(bP (v:=aF) r))<|og r r r (fun u=>(jL (gx r u)))<|og r r r (fun u=>(bH aCL (gx r u)))<|og r r r (fun u=>(aK (v:=aI) aF0 (gx r u) r r))<|og r r r (fun u=>(kD (gx r u) r))<|aW r (dD r r r (fun e=>hD e))<|sB r<|aR (fr':=[(2,aB)]) r r<|cB ?_
 obtain rfl:=sy h
 exact bZ (rs':=[.tmp 2]) r<|cM (v:=aB) r<|bX<|aZ [] r r r lr (eU r aH)
noncomputable def rU (dT:aP) (tK:Int) (pM:Int) (s10:(Int × Int)):Option (dG (Int × Int) (Fl (Int × aP) Unit)) :=
 cond (decide (s10.2<10)) (cond (decide ((((List.drop (Int.toNat dT.at_) dT.b_)).length:Int)≤s10.2)) (some (dG.out (Fl.done (0,(aP.mk dT.b_ dT.at_ 4 dT.made_))))) ((nF (List.drop (Int.toNat dT.at_) dT.b_) s10.2).bind fun x16=>(nn (IntKind.wrap .i64 (7*s10.2))).bind fun x18=>cond (decide (128≤((x16).toNat:Int))) (some (dG.next ((kE .or .u64 s10.1 (IntKind.wrap .u64 ((IntKind.wrap .u64 (kE .and .u8 ((x16).toNat:Int) 127))*2 ^ (min (Int.toNat (IntKind.wrap .i64 (7*s10.2))) (IntKind.bits .u64))))),(IntKind.wrap .i64 (s10.2+1))))) (cond (cond (cond (decide (0<s10.2)) (decide (((x16).toNat:Int)=0)) false) true (cond (decide (s10.2=9)) (decide (1<((x16).toNat:Int))) false)) (some (dG.out (Fl.done (0,(aP.mk dT.b_ dT.at_ 3 dT.made_))))) (cond (cond (decide ((kE .xor .i64 (IntKind.wrap .i64 (Int.fdiv (kE .or .u64 s10.1 (IntKind.wrap .u64 ((IntKind.wrap .u64 (kE .and .u8 ((x16).toNat:Int) 127))*2 ^ (min (Int.toNat (IntKind.wrap .i64 (7*s10.2))) (IntKind.bits .u64))))) (2 ^ (min (Int.toNat 1) (IntKind.bits .u64))))) (IntKind.wrap .i64 (0 - (IntKind.wrap .i64 (kE .and .u64 (kE .or .u64 s10.1 (IntKind.wrap .u64 ((IntKind.wrap .u64 (kE .and .u8 ((x16).toNat:Int) 127))*2 ^ (min (Int.toNat (IntKind.wrap .i64 (7*s10.2))) (IntKind.bits .u64))))) 1)))))<tK)) true (decide (pM<(kE .xor .i64 (IntKind.wrap .i64 (Int.fdiv (kE .or .u64 s10.1 (IntKind.wrap .u64 ((IntKind.wrap .u64 (kE .and .u8 ((x16).toNat:Int) 127))*2 ^ (min (Int.toNat (IntKind.wrap .i64 (7*s10.2))) (IntKind.bits .u64))))) (2 ^ (min (Int.toNat 1) (IntKind.bits .u64))))) (IntKind.wrap .i64 (0 - (IntKind.wrap .i64 (kE .and .u64 (kE .or .u64 s10.1 (IntKind.wrap .u64 ((IntKind.wrap .u64 (kE .and .u8 ((x16).toNat:Int) 127))*2 ^ (min (Int.toNat (IntKind.wrap .i64 (7*s10.2))) (IntKind.bits .u64))))) 1)))))))) (some (dG.out (Fl.done (0,(aP.mk dT.b_ (IntKind.wrap .i64 (dT.at_+(IntKind.wrap .i64 (s10.2+1)))) 14 dT.made_))))) (some (dG.out (Fl.done ((kE .xor .i64 (IntKind.wrap .i64 (Int.fdiv (kE .or .u64 s10.1 (IntKind.wrap .u64 ((IntKind.wrap .u64 (kE .and .u8 ((x16).toNat:Int) 127))*2 ^ (min (Int.toNat (IntKind.wrap .i64 (7*s10.2))) (IntKind.bits .u64))))) (2 ^ (min (Int.toNat 1) (IntKind.bits .u64))))) (IntKind.wrap .i64 (0 - (IntKind.wrap .i64 (kE .and .u64 (kE .or .u64 s10.1 (IntKind.wrap .u64 ((IntKind.wrap .u64 (kE .and .u8 ((x16).toNat:Int) 127))*2 ^ (min (Int.toNat (IntKind.wrap .i64 (7*s10.2))) (IntKind.bits .u64))))) 1))))),(aP.mk dT.b_ (IntKind.wrap .i64 (dT.at_+(IntKind.wrap .i64 (s10.2+1)))) dT.err_ dT.made_))))))))) (some (dG.out (Fl.go ())))
noncomputable def gH (tK:Int) (pM:Int) (dT:aP):Option (Int × aP) :=
 (nN dT).bind fun x1=>cond x1 (some (0,dT)) ((aMs dT.b_ dT.at_).bind fun x5=>(fX (rU dT tK pM) ((0,0))).bind fun x7=>Fl.next x7 (fun j9=>(some (0,(aP.mk dT.b_ dT.at_ 3 dT.made_)))))
theorem mK {tK:Int}{pM:Int}{dT:aP}{z:(Int × aP)} (h:gH tK pM dT=some z):dE Tryz.prog 64 [.box 0 0,ci tK,ci pM] [AV.cs (eG dT)] (ci z.1) [AV.cs (eG z.2)]:=by
 unfold gH at h
 refine eJ (fn:=Tryz.f64) [0,1,2,6,7,8,9,10,11,13,23,24,29,46,60,88] (by kernel_rfl) Tryz.func64 r (by kernel_rfl) (by kernel_rfl)<|aT<|sI r<|aR (fr':=[(0,aF),(1,aI),(2,aI)]) r r<|bC<|aT<|mV (v:=aF) r<|bx h fun x1 y1 h2=>fF (v:=aB) (σ':=[cZ]) [0] r (vR y1) r r ⟨lr,trivial⟩ (hO oB aH) r r r<|aR (fr':=[(0,aF),(1,aI),(2,aI),(13,aB)]) r r<|eS h2 r (fun b3 h3=>?_) (fun b3 h3=>?_)
 ·
  refine aT<|sI r<|aR (fr':=[(6,aI)]) r r<|cB<|aV ?_
  obtain rfl:=sy h3
  exact bZ (rs':=[.tmp 6]) r<|cM (v:=aI) r<|bX<|aZ [] r r r lr (hO oB aH)
 ·
  refine cE<|eA<|bC<|lS [.q 0,.q 1,.q 2,.q 3,.q 4,.q 5,.q 6,.q 7,.q 8,.n 9 []] [(some 14,[0]),(some 15,[14]),(some 16,[15]),(some 17,[16]),(some 18,[0]),(some 19,[18]),(some 20,[19]),(some 21,[20]),(some 22,[17,21]),(some 7,[22])] [0,1,3,7,0,16,48,112,255,511] (by kernel_rfl)<|dq r r (bP (v:=aF) r)<|dq r r (jL r)<|dq r r (bH aJD r)<|dq r r (aK (v:=aL) aQA r r r)<|dq r r (bP (v:=aF) r)<|dq r r (jL r)<|dq r r (bH aBP r)<|dq r r (aK (v:=aI) gZ r r r)<|bx h3 fun x5 y5 h6=>dq r r (aRw aSv aH6 (fQ r) r (aFc y5).1)<|d_n r ?_ r
  refine sL r<|aCp<|⟨tL,?_⟩
  refine zJ (fr':=[(0,aF),(1,aI),(2,aI),(7,aL)]) r r<|aT<|sI r<|aR (fr':=[(0,aF),(1,aI),(2,aI),(7,aL),(8,aI)]) r r<|bC<|aT<|mI r<|aR (fr':=[(0,aF),(1,aI),(2,aI),(7,aL),(8,aI),(23,aI)]) r r<|bx h6 fun x7 y7 h8=>kC pL (fun j9=>x7=Fl.go j9) (fun (j9:Unit)=>([(0,aF)]:Fr)) (fun (j9:Unit)=>([[.c (PV.ls 1 jK dT.b_),ci dT.at_,ci dT.err_,.c (.bool dT.made_)]]:St)) ?_ ?_
  ·
   refine dA<|jS _ (fun (s10:(Int × Int))=>([(0,aF),(1,ci tK),(2,ci pM),(7,.c (PV.ls 1 jK (List.drop (Int.toNat dT.at_) dT.b_))),(8,.c (.int .u64 s10.1)),(23,ci s10.2)]:Fr)) (fun (s10:(Int × Int))=>([[.c (PV.ls 1 jK dT.b_),ci dT.at_,ci dT.err_,.c (.bool dT.made_)]]:St)) y7 (cR [] 1 r r r r kL6 (eU r aH)) ?_
   intro s10 st10 hs10 ho10
   unfold rU at hs10
   refine aT<|aW r (iJ r r)<|aR (fr':=[(0,aF),(1,aI),(2,aI),(7,aL),(8,aI),(23,aI),(24,aB)]) r r<|bC<|eS hs10 r (fun b11 h11=>?_) (fun b11 h11=>?_)
   ·
    refine cE<|eA<|bC<|dA<|aT<|mI r<|sI r<|aR (fr':=[(0,aF),(1,aI),(2,aI),(7,aL),(8,aI),(9,aI),(23,aI)]) r r<|bC<|aT<|mI r<|mL r<|aW r (iR aJE (fQ r))<|aW r (xD r r)<|aR (fr':=[(0,aF),(1,aI),(2,aI),(7,aL),(8,aI),(9,aI),(23,aI),(29,aB)]) r r<|eS h11 r (fun b12 h12=>?_) (fun b12 h12=>?_)
    ·
     refine aT<|mV (v:=aF) r<|aW r (jL r)<|aW r (bH aCL r)<|cY (v:=aI) (us:=[aI]) (cs:=cZ) (σ':=[cZ]) r aF0 r r r r r r r r<|aR (fr':=[]) r r<|aT<|sI r<|aR (fr':=[(6,aI)]) r r<|cB<|aV<|cL<|aV<|aV<|cL<|aV<|aV ?_
     have h13:=gN h12 ho10
     have h14:=hU h13 h8
     obtain rfl:=sy h14
     exact bZ (rs':=[.tmp 6]) r<|cM (v:=aI) r<|bX<|aZ [] r r r lr (hO oB aH)
    ·
     refine cE<|eA<|aT<|mL r<|mI r<|bx h12 fun x16 y16 h17=>aW r (rD (cs:=[PV.int _ _]) aH6 (fQ r) r y16 r)<|aW r (nR (p:=PV.int _ _) tv5 r r)<|sI r<|aR (fr':=[(0,aF),(1,aI),(2,aI),(7,aL),(8,aI),(9,aI),(10,aI),(23,aI)]) r r<|aT<|mI r<|mI r<|aW r (aQU r r)<|aW r (aDK tk5 aHz r)<|mI r<|aW r (aR6 r r)<|bx h17 fun x18 y18 h19=>aW r (aQV r r (aQa y18).1)<|aW r (aR8 r r)<|sI r<|aR (fr':=[(0,aF),(1,aI),(2,aI),(7,aL),(8,aI),(9,aI),(10,aI),(23,aI)]) r r<|bC<|aT<|mI r<|aW r (xD r r)<|aR (fr':=[(0,aF),(1,aI),(2,aI),(7,aL),(8,aI),(9,aI),(10,aI),(23,aI),(46,aB)]) r r<|eS h19 r (fun b20 h20=>?_) (fun b20 h20=>?_)
     ·
      exact kF<|eL<|iM<|eA<|bN<|aW r (iH r r)<|mI r<|fG (fr':=[(0,aF),(1,aI),(2,aI),(7,aL),(8,aI),(9,aI),(10,aI),(23,aI),(46,aB)]) r<|e_l _ (sy h20) (cR [] 1 r r r r kL6 (eU r aH))
     ·
      refine cE<|eA<|bC<|aT<|mI r<|aW r (uW r r)<|mB r<|og r r r (fun u=>(bP (v:=aI) r))<|og r r r (fun u=>(dZ (gx r u) r))<|aW r (cD r r r (fun e=>hD e))<|mB r<|og r r r (fun u=>(bP (v:=aI) r))<|og r r r (fun u=>(dZ (gx r u) r))<|og r r r (fun u=>(bP (v:=aB) (gx r u)))<|hS r r (fun u=>iG r (bP (v:=aI) r))<|hS r r (fun u=>iG r (uW (gx r u) r))<|og r r r (fun u=>(cD (gx r u) r r (fun e=>wC u (hD e))))<|aW r (dD r r r (fun e=>hD e))<|aR (fr':=[(0,aF),(1,aI),(2,aI),(8,aI),(9,aI),(60,aB)]) r r<|eS h20 r (fun b21 h21=>?_) (fun b21 h21=>?_)
      ·
       refine aT<|mV (v:=aF) r<|aW r (jL r)<|aW r (bH aCL r)<|cY (v:=aI) (us:=[aI]) (cs:=cZ) (σ':=[cZ]) r aF0 r r r r r r r r<|aR (fr':=[]) r r<|aT<|sI r<|aR (fr':=[(6,aI)]) r r<|cB<|aV<|cL<|aV<|aV<|cL<|aV<|aV ?_
       have h22:=gN h21 ho10
       have h23:=hU h22 h8
       obtain rfl:=sy h23
       exact bZ (rs':=[.tmp 6]) r<|cM (v:=aI) r<|bX<|aZ [] r r r lr (hO oB aH)
      ·
       refine cE<|eA<|aT<|mV (v:=aF) r<|aW r (jL r)<|aW r (bH aBP r)<|aW r (aK (v:=aI) gZ r r r)<|mI r<|aW r (iH r r)<|aW r (iH r r)<|aW r (jL r)<|aW r (bH aBP r)<|cY (v:=aI) (us:=[aI]) (cs:=cZ) (σ':=[cZ]) r gZ r r r r r r r r<|aR (fr':=[(0,aF),(1,aI),(2,aI),(8,aI)]) r r<|aT<|mI r<|aW r (aO9 r r (by decide))<|aW r (aDK aHz tk3 r)<|mI r<|aW r (aQU r r)<|aW r (aDK aHz tk3 r)<|aW r (aR7 r)<|aW r (aQX r r)<|sI r<|aR (fr':=[(0,aF),(1,aI),(2,aI),(11,aI)]) r r<|bC<|aT<|mI r<|mI r<|aW r (iJ r r)<|mB r<|og r r r (fun u=>(bP (v:=aI) r))<|og r r r (fun u=>(bP (v:=aI) r))<|og r r r (fun u=>(uW (gx r u) (gx r u)))<|aW r (dD r r r (fun e=>hD e))<|aR (fr':=[(0,aF),(11,aI),(88,aB)]) r r<|eS h21 r (fun b25 h25=>?_) (fun b25 h25=>?_)
       ·
        refine aT<|mV (v:=aF) r<|aW r (jL r)<|aW r (bH aCL r)<|cY (v:=aI) (us:=[aI]) (cs:=cZ) (σ':=[cZ]) r aF0 r r r r r r r r<|aR (fr':=[]) r r<|aT<|sI r<|aR (fr':=[(6,aI)]) r r<|cB<|aV<|cL<|aV<|aV<|cL<|aV<|aV ?_
        have h26:=gN h25 ho10
        have h27:=hU h26 h8
        obtain rfl:=sy h27
        exact bZ (rs':=[.tmp 6]) r<|cM (v:=aI) r<|bX<|aZ [] r r r lr (hO oB aH)
       ·
        refine cE<|eA<|aT<|mI r<|sI r<|aR (fr':=[(6,aI)]) r r<|cB<|cL<|aV<|aV<|cL<|aV<|aV ?_
        have h29:=gN h25 ho10
        have h30:=hU h29 h8
        obtain rfl:=sy h30
        exact bZ (rs':=[.tmp 6]) r<|cM (v:=aI) r<|bX<|aZ [] r r r lr (hO oB aH)
   ·
    refine kF<|eL<|eL<|iM ?_
    have h32:=gN h11 ho10
    exact tB _ (sy h32) (cR [] 1 r r r r ⟨lr,trivial⟩ (eU r aH))
  ·
   intro j9 hj33
   have h33:=qP hj33 h8
   refine eA<|aT<|mV (v:=aF) r<|aW r (jL r)<|aW r (bH aCL r)<|cY (v:=aI) (us:=[aI]) (cs:=cZ) (σ':=[cZ]) r aF0 r r r r r r r r<|aR (fr':=[]) r r<|aT<|sI r<|aR (fr':=[(6,aI)]) r r<|cB ?_
   obtain rfl:=sy h33
   exact bZ (rs':=[.tmp 6]) r<|cM (v:=aI) r<|bX<|aZ [] r r r lr (hO oB aH)
noncomputable def iU (aBy:Int) (dT:aP):Option ((List UInt8) × aP) :=
 (gH 0 aBy dT).bind fun x1=>(nN x1.2).bind fun x3=>cond x3 (some (([]:List UInt8),x1.2)) (cond (decide ((IntKind.wrap .i64 (((x1.2.b_).length:Int) - x1.2.at_))<x1.1)) (some (([]:List UInt8),(aP.mk x1.2.b_ x1.2.at_ 4 x1.2.made_))) ((aQn x1.2.b_ x1.2.at_ (IntKind.wrap .i64 (x1.2.at_+x1.1))).bind fun x9=>some ((List.drop (Int.toNat x1.2.at_) (List.take (Int.toNat (IntKind.wrap .i64 (x1.2.at_+x1.1))) x1.2.b_)),(aP.mk x1.2.b_ (IntKind.wrap .i64 (x1.2.at_+x1.1)) x1.2.err_ x1.2.made_))))
theorem lU {aBy:Int}{dT:aP}{z:((List UInt8) × aP)} (h:iU aBy dT=some z):dE Tryz.prog 71 [.box 0 0,ci aBy] [AV.cs (eG dT)] (.c (.str z.1)) [AV.cs (eG z.2)]:=by
 unfold iU at h
 refine eJ (fn:=Tryz.f71) [0,1,4,5,6,11,23] (by kernel_rfl) Tryz.func71 r (by kernel_rfl) (by kernel_rfl)<|aT<|sS r<|aR (fr':=[(0,aF),(1,aI)]) r r<|aT<|mV (v:=aF) r<|mI r<|bx h fun x1 y1 h2=>fF (v:=aI) (σ':=[cZ]) [0] r (mK y1) r r wE (hO oB aH) r r r<|sI r<|aR (fr':=[(0,aF),(5,aI)]) r r<|bC<|aT<|mV (v:=aF) r<|bx h2 fun x3 y3 h4=>fF (v:=aB) (σ':=[cZ]) [0] r (vR y3) r r ⟨lr,trivial⟩ (hO oB aH) r r r<|aR (fr':=[(0,aF),(5,aI),(11,aB)]) r r<|eS h4 r (fun b5 h5=>?_) (fun b5 h5=>?_)
 ·
  refine aT<|sS r<|aR (fr':=[(4,aS)]) r r<|cB<|aV ?_
  obtain rfl:=sy h5
  exact bZ (rs':=[.tmp 4]) r<|cM (v:=aS) r<|bX<|aZ [] r r r lr (hO oB aH)
 ·
  refine cE<|eA<|bC<|bC<|lS [.q 0,.q 1,.q 2,.q 3,.q 4,.q 5,.q 6,.q 7,.q 8,.q 9,.q 10,.q 11] [(some 12,[5]),(some 13,[0]),(some 14,[13]),(some 15,[14]),(some 16,[15]),(some 17,[16]),(some 18,[0]),(some 19,[18]),(some 20,[19]),(some 21,[20]),(some 22,[17,21]),(some 23,[12,22])] [0,0,2,6,14,30,0,64,192,448,1022,2047] (by kernel_rfl)<|dq r r (bP (v:=aI) r)<|dq r r (bP (v:=aF) r)<|dq r r (jL r)<|dq r r (bH aJD r)<|dq r r (aK (v:=aL) aQA r r r)<|dq r r (iR aJE (fQ r))<|dq r r (bP (v:=aF) r)<|dq r r (jL r)<|dq r r (bH aBP r)<|dq r r (aK (v:=aI) gZ r r r)<|dq r r (aPa r r)<|dq r r (uW r r)<|zJ (fr':=[(0,aF),(5,aI),(23,aB)]) r r<|eS h5 r (fun b7 h7=>?_) (fun b7 h7=>?_)
  ·
   refine aT<|mV (v:=aF) r<|aW r (jL r)<|aW r (bH aCL r)<|cY (v:=aI) (us:=[aI]) (cs:=cZ) (σ':=[cZ]) r aF0 r r r r r r r r<|aR (fr':=[]) r r<|aT<|sS r<|aR (fr':=[(4,aS)]) r r<|cB<|aV ?_
   obtain rfl:=sy h7
   exact bZ (rs':=[.tmp 4]) r<|cM (v:=aS) r<|bX<|aZ [] r r r lr (hO oB aH)
  ·
   refine cE<|eA<|bC<|lS [.q 0,.q 1,.q 2,.q 3,.q 4,.q 5,.q 6,.q 7,.q 8,.q 9,.q 10,.q 11,.q 12,.q 13,.q 14,.q 15,.n 16 []] [(some 27,[0]),(some 28,[27]),(some 29,[28]),(some 30,[29]),(some 31,[0]),(some 32,[31]),(some 33,[32]),(some 34,[33]),(some 35,[0]),(some 36,[35]),(some 37,[36]),(some 38,[37]),(some 39,[5]),(some 40,[38,39]),(some 41,[30,34,40]),(some 42,[41]),(some 6,[42])] [0,1,3,7,0,16,48,112,0,256,768,1792,0,7936,16383,32767,65535] (by kernel_rfl)<|dq r r (bP (v:=aF) r)<|dq r r (jL r)<|dq r r (bH aJD r)<|dq r r (aK (v:=aL) aQA r r r)<|dq r r (bP (v:=aF) r)<|dq r r (jL r)<|dq r r (bH aBP r)<|dq r r (aK (v:=aI) gZ r r r)<|dq r r (bP (v:=aF) r)<|dq r r (jL r)<|dq r r (bH aBP r)<|dq r r (aK (v:=aI) gZ r r r)<|dq r r (bP (v:=aI) r)<|dq r r (iH r r)<|bx h7 fun x9 y9 h10=>dq r r (aRv aSv aH6 (fQ r) r r (aNX y9).1)<|dq r r (aKR aQZ zG (fQ r))<|d_n r ?_ r
   refine sS r<|aCp<|⟨tL,?_⟩
   refine zJ (fr':=[(0,aF),(5,aI),(6,aS)]) r r<|aT<|mV (v:=aF) r<|aW r (jL r)<|aW r (bH aBP r)<|aW r (aK (v:=aI) gZ r r r)<|mI r<|aW r (iH r r)<|aW r (jL r)<|aW r (bH aBP r)<|cY (v:=aI) (us:=[aI]) (cs:=cZ) (σ':=[cZ]) r gZ r r r r r r r r<|aR (fr':=[(6,aS)]) r r<|aT<|mS r<|sS r<|aR (fr':=[(4,aS)]) r r<|cB ?_
   obtain rfl:=sy h10
   exact bZ (rs':=[.tmp 4]) r<|cM (v:=aS) r<|bX<|aZ [] r r r lr (hO oB aH)
noncomputable def lW (p1e:Int) (dT:aP):Option aP :=
 (nN dT).bind fun x1=>cond (!x1) (some (aP.mk dT.b_ dT.at_ p1e dT.made_)) (some dT)
theorem pQ {p1e:Int}{dT:aP}{z:aP} (h:lW p1e dT=some z):dE Tryz.prog 74 [.box 0 0,ci p1e] [AV.cs (eG dT)] (.any) [AV.cs (eG z)]:=by
 unfold lW at h
 refine eJ (fn:=Tryz.f74) [0,1,6] (by kernel_rfl) Tryz.func74 r (by kernel_rfl) (by kernel_rfl)<|aT<|mV (v:=aF) r<|bx h fun x1 y1 h2=>fF (v:=aB) (σ':=[cZ]) [0] r (vR y1) r r ⟨lr,trivial⟩ (hO oB aH) r r r<|aW r (hY r)<|aR (fr':=[(0,aF),(1,aI),(6,aB)]) r r<|eS h2 r (fun b3 h3=>?_) (fun b3 h3=>?_)
 ·
  refine bN<|mV (v:=aF) r<|mI r<|aW r (jL r)<|aW r (bH aCL r)<|cY (v:=aI) (us:=[aI]) (cs:=cZ) (σ':=[cZ]) r aF0 r r r r r r r r<|fG (fr':=[(0,aF),(1,aI),(6,aB)]) r ?_
  obtain rfl:=sy h3
  exact aQN (rs':=[]) r<|bX<|aZ [] r r r (AV.le_any _) (hO oB aH)
 ·
  refine cE ?_
  obtain rfl:=sy h3
  exact aQN (rs':=[]) r<|bX<|aZ [] r r r (AV.le_any _) (hO oB aH)
noncomputable def kH (aAL:Bool) (gY:Int) (qK:aP):Option (Bool × aP) :=
 (((gG qK).bind fun x4=>cond (cond (decide (x4=0)) (!aAL) false) ((lW 3 qK).bind fun x7=>some x7) (some qK)):Option aP).bind fun x1=>((gG x1).bind fun x10=>some ((decide (x10=0)),x1))
theorem nM {aAL:Bool}{gY:Int}{qK:aP}{z:(Bool × aP)} (h:kH aAL gY qK=some z):dE Tryz.prog 183 [.box 0 0,.c (.bool aAL)] [[.box 1 0,ci gY],AV.cs (eG qK)] (.c (.bool z.1)) [[.box 1 0,ci gY],AV.cs (eG z.2)]:=by
 unfold kH at h
 refine eJ (fn:=Tryz.f183) [0,1,4,14] (by kernel_rfl) Tryz.func183 r (by kernel_rfl) (by kernel_rfl)<|aT<|sB r<|aR (fr':=[(0,aF),(1,aB)]) r r<|bx h fun x1 y1 h2=>rH (fun j3=>x1=j3) (fun (j3:aP)=>([(0,aF)]:Fr)) (fun (j3:aP)=>([[bK,ci gY],[.c (PV.ls 1 jK j3.b_),ci j3.at_,ci j3.err_,.c (.bool j3.made_)]]:St)) ?_ ?_
 ·
  refine aT<|mV (v:=aF) r<|aW r (jL r)<|aW r (bH xZ r)<|aW r (aK (v:=bK) aH7 r r r)<|bx y1 fun x4 y4 h5=>fF (v:=aI) (σ':=[[bK,aI],cZ]) [1] r (hG y4) r r ⟨lr,trivial⟩ (hO oB aH) r r r<|aW r (dZ r r)<|mB r<|og r r r (fun u=>(bP (v:=aB) r))<|og r r r (fun u=>(hY (gx r u)))<|aW r (cD r r r (fun e=>hD e))<|aR (fr':=[(0,aF),(14,aB)]) r r<|eS h5 r (fun b6 h6=>?_) (fun b6 h6=>?_)
  ·
   exact bN<|mV (v:=aF) r<|aW r (jL r)<|aW r (bH xZ r)<|aW r (aK (v:=bK) aH7 r r r)<|bx h6 fun x7 y7 h8=>fF (v:=_) (σ':=[[bK,aI],cZ]) [1] r (pQ y7) r r pV (hO oB aH) r r r<|fG (fr':=[(0,aF),(14,aB)]) r<|tB _ (sy h8) (cR [] 2 r r r r ⟨lr,trivial⟩ (eU r (eU r aH)))
  ·
   exact cE<|tB _ (sy h6) (cR [] 2 r r r r ⟨lr,trivial⟩ (eU r (eU r aH)))
 ·
  intro j3 hj9
  subst hj9
  refine aT<|mV (v:=aF) r<|aW r (jL r)<|aW r (bH xZ r)<|aW r (aK (v:=bK) aH7 r r r)<|bx h2 fun x10 y10 h11=>fF (v:=aI) (σ':=[[bK,aI],cZ]) [1] r (hG y10) r r ⟨lr,trivial⟩ (hO oB aH) r r r<|aW r (dZ r r)<|sB r<|aR (fr':=[(4,aB)]) r r<|cB ?_
  obtain rfl:=sy h11
  exact bZ (rs':=[.tmp 4]) r<|cM (v:=aB) r<|bX<|aZ [] r r r lr (eU r (hO oB aH))
