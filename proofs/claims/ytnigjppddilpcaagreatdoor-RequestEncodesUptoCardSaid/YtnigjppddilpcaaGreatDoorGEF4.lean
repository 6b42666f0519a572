import Derived.Test.YtnigjppddilpcaaGreatDoorGETy
import Derived.Test.YtnigjppddilpcaaGreatDoorGEF0
import Derived.Test.YtnigjppddilpcaaGreatDoorGEF1
import Derived.Test.YtnigjppddilpcaaGreatDoorGEF2
import Derived.Test.YtnigjppddilpcaaGreatDoorGEF3
namespace Go.Proofs.YtnigjppddilpcaaGreatDoor
open Go Abs
set_option maxRecDepth 100000
set_option linter.unusedVariables false
set_option linter.unusedSimpArgs false
noncomputable def wH (p0b:(List UInt8)):Option aQ :=
 (gC p0b).bind fun x1=>some (aQ.mk x1 (0:Int) (0:Int) true)
theorem aJu {p0b:(List UInt8)}{res:aQ} (h:wH p0b=some res):bT Tryz.prog 25 [.c (PV.ls 1 eL p0b)] [] (.box 0 0) [AV.cs (cW res)]:=by
 unfold wH at h
 refine cJ (fn:=Tryz.f25) [0,2] (by kernel_rfl) Tryz.func25 r (by kernel_rfl) (by kernel_rfl)<|aH<|sV (v:=.nilptr) r<|aF (fr':=[(0,aL)]) r r<|aH<|mL r ?_
 obtain ⟨x1,hx1,h2⟩:=aE h
 refine gW (aY (v:=aO) r (jN hx1) ⟨lr,trivial⟩ r r r)<|aK r (iF (cs:=[aO,aI,aI,aB]) aQw r)<|fW (v:=.agg [aO,aI,aI,aB]) (n:=0) (cs:=[aO,aI,aI,aB]) (σ':=[[aO,aI,aI,aB]]) r r r r r<|sV (v:=.box 0 0) r<|aF (fr':=[(2,.box 0 0)]) r r<|bF ?_
 obtain rfl:=sy h2
 exact bE (rs':=[.tmp 2]) r<|bG (v:=.box 0 0) r<|bD<|aNN (off:=0) (j:=0) r r r r r (fJ ⟨r,r,r,r,trivial⟩ aC)
noncomputable def eO (cQ:aQ):Option Int :=
 cond (!cQ.made_) (some (1:Int)) (some cQ.err_)
theorem fI {cQ:aQ}{res:Int} (h:eO cQ=some res):bT Tryz.prog 29 [.box 0 0] [AV.cs (cW cQ)] (ci res) [AV.cs (cW cQ)]:=by
 unfold eO at h
 refine cJ (fn:=Tryz.f29) [0,2,11] (by kernel_rfl) Tryz.func29 r (by kernel_rfl) (by kernel_rfl)<|aH<|sI r<|aF (fr':=[(0,.box 0 0)]) r r<|aR<|aH<|mV (v:=.box 0 0) r<|aK r (aJ8 aPp r r)<|mB r<|sM r r r<|mV (v:=.box 0 0) r ?_
 refine sM r r r<|aK r (gE r)<|sM r r r<|aK r (aZ aNm r)<|sM r r r<|aK r (aJ (v:=aB) tv4 r r r)<|sM r r r<|aK r (eD r)<|aK r (aAE r r r)<|aF (fr':=[(0,.box 0 0),(11,aB)]) r r<|bS h r (fun hb1 h1=>?_) (fun hb1 h1=>?_)
 ·
  refine aH<|sI r<|aF (fr':=[(2,aI)]) r r<|bF<|aM ?_
  obtain rfl:=sy h1
  exact bE (rs':=[.tmp 2]) r<|bG (v:=aI) r<|bD<|aN [] r r r lr (bJ r aC)
 ·
  refine aW<|bZ<|aH<|mV (v:=.box 0 0) r<|aK r (gE r)<|aK r (aZ aAQ r)<|aK r (aJ (v:=aI) aJj r r r)<|sI r<|aF (fr':=[(2,aI)]) r r<|bF ?_
  obtain rfl:=sy h1
  exact bE (rs':=[.tmp 2]) r<|bG (v:=aI) r<|bD<|aN [] r r r lr (bJ r aC)
noncomputable def jJ (cQ:aQ):Option Bool :=
 some (cond (!cQ.made_) true (!decide (cQ.err_=(0:Int))))
theorem rW {cQ:aQ}{res:Bool} (h:jJ cQ=some res):bT Tryz.prog 79 [.box 0 0] [AV.cs (cW cQ)] (.c (.bool res)) [AV.cs (cW cQ)]:=by
 unfold jJ at h
 refine cJ (fn:=Tryz.f79) [0,2] (by kernel_rfl) Tryz.func79 r (by kernel_rfl) (by kernel_rfl)<|aH<|sB r<|aF (fr':=[(0,.box 0 0)]) r r<|aH<|mV (v:=.box 0 0) r<|aK r (aJ8 aPp r r)<|mB r<|sM r r r<|mV (v:=.box 0 0) r<|sM r r r ?_
 refine aK r (gE r)<|sM r r r<|aK r (aZ aNm r)<|sM r r r<|aK r (aJ (v:=aB) tv4 r r r)<|sM r r r<|aK r (eD r)<|aK r (aAE r r r)<|mB r<|og r r r (fun hc=>(bC (v:=.box 0 0) r))<|og r r r (fun hc=>(gE (gx r hc)))<|og r r r (fun hc=>(aZ aAQ (gx r hc)))<|og r r r (fun hc=>(aJ (v:=aI) aJj (gx r hc) r r)) ?_
 refine og r r r (fun hc=>(gM (gx r hc) r))<|aK r (bX r r r (fun e=>eI e))<|sB r<|aF (fr':=[(2,aB)]) r r<|bF ?_
 obtain rfl:=sy h
 exact bE (rs':=[.tmp 2]) r<|bG (v:=aB) r<|bD<|aN [] r r r lr (bJ r aC)
noncomputable def oI (cQ:aQ) (mF:Int) (iO:Int) (s10:(Int × Int)):Option (cM (Int × Int) (Fl (Int × aQ) Unit)) :=
 cond (decide (s10.2<(10:Int))) (cond (decide ((((List.drop (Int.toNat cQ.at_) cQ.b_)).length:Int)≤s10.2)) (some (cM.out (Fl.done ((0:Int),(aQ.mk cQ.b_ cQ.at_ (4:Int) cQ.made_))))) ((jT (List.drop (Int.toNat cQ.at_) cQ.b_) s10.2).bind fun x16=>(nn (IntKind.wrap .i64 ((7:Int)*s10.2))).bind fun x18=>cond (decide ((128:Int)≤((x16).toNat:Int))) (some (cM.next ((gO .or .u64 s10.1 (IntKind.wrap .u64 ((IntKind.wrap .u64 (gO .and .u8 ((x16).toNat:Int) (127:Int)))*2 ^ (min (Int.toNat (IntKind.wrap .i64 ((7:Int)*s10.2))) (IntKind.bits .u64))))),(IntKind.wrap .i64 (s10.2+(1:Int)))))) (cond (cond (cond (decide ((0:Int)<s10.2)) (decide (((x16).toNat:Int)=(0:Int))) false) true (cond (decide (s10.2=(9:Int))) (decide ((1:Int)<((x16).toNat:Int))) false)) (some (cM.out (Fl.done ((0:Int),(aQ.mk cQ.b_ cQ.at_ (3:Int) cQ.made_))))) (cond (cond (decide ((gO .xor .i64 (IntKind.wrap .i64 (Int.fdiv (gO .or .u64 s10.1 (IntKind.wrap .u64 ((IntKind.wrap .u64 (gO .and .u8 ((x16).toNat:Int) (127:Int)))*2 ^ (min (Int.toNat (IntKind.wrap .i64 ((7:Int)*s10.2))) (IntKind.bits .u64))))) (2 ^ (min (Int.toNat (1:Int)) (IntKind.bits .u64))))) (IntKind.wrap .i64 (0 - (IntKind.wrap .i64 (gO .and .u64 (gO .or .u64 s10.1 (IntKind.wrap .u64 ((IntKind.wrap .u64 (gO .and .u8 ((x16).toNat:Int) (127:Int)))*2 ^ (min (Int.toNat (IntKind.wrap .i64 ((7:Int)*s10.2))) (IntKind.bits .u64))))) (1:Int))))))<mF)) true (decide (iO<(gO .xor .i64 (IntKind.wrap .i64 (Int.fdiv (gO .or .u64 s10.1 (IntKind.wrap .u64 ((IntKind.wrap .u64 (gO .and .u8 ((x16).toNat:Int) (127:Int)))*2 ^ (min (Int.toNat (IntKind.wrap .i64 ((7:Int)*s10.2))) (IntKind.bits .u64))))) (2 ^ (min (Int.toNat (1:Int)) (IntKind.bits .u64))))) (IntKind.wrap .i64 (0 - (IntKind.wrap .i64 (gO .and .u64 (gO .or .u64 s10.1 (IntKind.wrap .u64 ((IntKind.wrap .u64 (gO .and .u8 ((x16).toNat:Int) (127:Int)))*2 ^ (min (Int.toNat (IntKind.wrap .i64 ((7:Int)*s10.2))) (IntKind.bits .u64))))) (1:Int))))))))) (some (cM.out (Fl.done ((0:Int),(aQ.mk cQ.b_ (IntKind.wrap .i64 (cQ.at_+(IntKind.wrap .i64 (s10.2+(1:Int))))) (14:Int) cQ.made_))))) (some (cM.out (Fl.done ((gO .xor .i64 (IntKind.wrap .i64 (Int.fdiv (gO .or .u64 s10.1 (IntKind.wrap .u64 ((IntKind.wrap .u64 (gO .and .u8 ((x16).toNat:Int) (127:Int)))*2 ^ (min (Int.toNat (IntKind.wrap .i64 ((7:Int)*s10.2))) (IntKind.bits .u64))))) (2 ^ (min (Int.toNat (1:Int)) (IntKind.bits .u64))))) (IntKind.wrap .i64 (0 - (IntKind.wrap .i64 (gO .and .u64 (gO .or .u64 s10.1 (IntKind.wrap .u64 ((IntKind.wrap .u64 (gO .and .u8 ((x16).toNat:Int) (127:Int)))*2 ^ (min (Int.toNat (IntKind.wrap .i64 ((7:Int)*s10.2))) (IntKind.bits .u64))))) (1:Int)))))),(aQ.mk cQ.b_ (IntKind.wrap .i64 (cQ.at_+(IntKind.wrap .i64 (s10.2+(1:Int))))) cQ.err_ cQ.made_))))))))) (some (cM.out (Fl.go ())))
noncomputable def eP (mF:Int) (iO:Int) (cQ:aQ):Option (Int × aQ) :=
 (jJ cQ).bind fun x1=>cond x1 (some ((0:Int),cQ)) ((aKn cQ.b_ cQ.at_).bind fun x5=>((eQ (oI cQ mF iO) (((0:Int),(0:Int)))):Option (Fl (Int × aQ) Unit)).bind fun x7=>Fl.next x7 (fun j9=>(some ((0:Int),(aQ.mk cQ.b_ cQ.at_ (3:Int) cQ.made_)))))
theorem iU {mF:Int}{iO:Int}{cQ:aQ}{res:(Int × aQ)} (h:eP mF iO cQ=some res):bT Tryz.prog 64 [.box 0 0,ci mF,ci iO] [AV.cs (cW cQ)] (ci res.1) [AV.cs (cW res.2)]:=by
 unfold eP at h
 refine cJ (fn:=Tryz.f64) [0,1,2,6,7,8,9,10,11,13,23,24,29,46,60,88] (by kernel_rfl) Tryz.func64 r (by kernel_rfl) (by kernel_rfl)<|aH<|sI r<|aF (fr':=[(0,.box 0 0),(1,aI),(2,aI)]) r r<|aR<|aH<|mV (v:=.box 0 0) r ?_
 obtain ⟨x1,hx1,h2⟩:=aE h
 refine dK (v:=aB) (σ':=[cH]) [0] r (rW hx1) r r ⟨lr,trivial⟩ (fJ ⟨r,r,r,r,trivial⟩ aC) r r r<|aF (fr':=[(0,.box 0 0),(1,aI),(2,aI),(13,aB)]) r r<|bS h2 r (fun hb3 h3=>?_) (fun hb3 h3=>?_)
 ·
  refine aH<|sI r<|aF (fr':=[(6,aI)]) r r<|bF<|aM ?_
  obtain rfl:=sy h3
  exact bE (rs':=[.tmp 6]) r<|bG (v:=aI) r<|bD<|aN [] r r r lr (fJ ⟨r,r,r,r,trivial⟩ aC)
 ·
  refine aW<|bZ<|aR<|hF [.q 0,.q 1,.q 2,.q 3,.q 4,.q 5,.q 6,.q 7,.q 8,.n 9 []] [(some 14,[0]),(some 15,[14]),(some 16,[15]),(some 17,[16]),(some 18,[0]),(some 19,[18]),(some 20,[19]),(some 21,[20]),(some 22,[17,21]),(some 7,[22])] [0,1,3,7,0,16,48,112,255,511] (by kernel_rfl)<|dq r r (bC (v:=.box 0 0) r)<|dq r r (gE r)<|dq r r (aZ aHO r)<|dq r r (aJ (v:=aL) aOl r r r)<|dq r r (bC (v:=.box 0 0) r)<|dq r r (gE r)<|dq r r (aZ zN r)<|dq r r (aJ (v:=aI) eB r r r) ?_
  obtain ⟨x5,hx5,h6⟩:=aE h3
  refine dq r r (aPd aP7 xJ (cR r) r (yK hx5).1)<|d_n r ?_ r
  refine sL r<|yD<|⟨nH,?_⟩
  refine tS (fr':=[(0,.box 0 0),(1,aI),(2,aI),(7,aL)]) r r<|aH<|sI r<|aF (fr':=[(0,.box 0 0),(1,aI),(2,aI),(7,aL),(8,aI)]) r r<|aR<|aH<|mI r<|aF (fr':=[(0,.box 0 0),(1,aI),(2,aI),(7,aL),(8,aI),(23,aI)]) r r ?_
  obtain ⟨x7,hx7,h8⟩:=aE h6
  refine eR gX (fun j9=>x7=Fl.go j9) (fun (j9:Unit)=>([(0,.box 0 0)]:Fr)) (fun (j9:Unit)=>([[.c (PV.ls 1 eL cQ.b_),ci cQ.at_,ci cQ.err_,.c (.bool cQ.made_)]]:St)) ?_ ?_
  ·
   refine bL<|eK _ (fun (s10:(Int × Int))=>([(0,.box 0 0),(1,ci mF),(2,ci iO),(7,.c (PV.ls 1 eL (List.drop (Int.toNat cQ.at_) cQ.b_))),(8,.c (.int .u64 s10.1)),(23,ci s10.2)]:Fr)) (fun (s10:(Int × Int))=>([[.c (PV.ls 1 eL cQ.b_),ci cQ.at_,ci cQ.err_,.c (.bool cQ.made_)]]:St)) hx7 (aU [] 1 r r r r ⟨lr,lr,lr,lr,lr,lr,trivial⟩ (bJ r aC)) ?_
   intro s10 st10 hs10 ho10
   unfold oI at hs10
   refine aH<|aK r (eA r r)<|aF (fr':=[(0,.box 0 0),(1,aI),(2,aI),(7,aL),(8,aI),(23,aI),(24,aB)]) r r<|aR<|bS hs10 r (fun hb11 h11=>?_) (fun hb11 h11=>?_)
   ·
    refine aW<|bZ<|aR<|bL<|aH<|mI r<|sI r<|aF (fr':=[(0,.box 0 0),(1,aI),(2,aI),(7,aL),(8,aI),(9,aI),(23,aI)]) r r<|aR<|aH<|mI r ?_
    refine mL r<|aK r (eC aAR (cR r))<|aK r (lC r r)<|aF (fr':=[(0,.box 0 0),(1,aI),(2,aI),(7,aL),(8,aI),(9,aI),(23,aI),(29,aB)]) r r<|bS h11 r (fun hb12 h12=>?_) (fun hb12 h12=>?_)
    ·
     refine aH<|mV (v:=.box 0 0) r<|aK r (gE r)<|aK r (aZ aAQ r)<|bV (v:=aI) (us:=[aI]) (cs:=cH) (σ':=[cH]) r aJj r r r r r r r r<|aF (fr':=[]) r r<|aH<|sI r<|aF (fr':=[(6,aI)]) r r<|bF<|aM ?_
     refine bH<|aM<|aM<|bH<|aM<|aM ?_
     have h13:=dB h12 ho10
     have h14:=eH h13 h8
     obtain rfl:=sy h14
     exact bE (rs':=[.tmp 6]) r<|bG (v:=aI) r<|bD<|aN [] r r r lr (fJ ⟨r,r,r,r,trivial⟩ aC)
    ·
     refine aW<|bZ<|aH<|mL r<|mI r ?_
     obtain ⟨x16,hx16,h17⟩:=aE h12
     refine aK r (iL (cs:=[PV.int _ _]) xJ (cR r) r hx16 r)<|aK r (fU (p:=PV.int _ _) tv5 r r)<|sI r<|aF (fr':=[(0,.box 0 0),(1,aI),(2,aI),(7,aL),(8,aI),(9,aI),(10,aI),(23,aI)]) r r<|aH<|mI r<|mI r<|aK r (aOC r r)<|aK r (tZ tk5 aAT r)<|mI r<|aK r (aKO r r) ?_
     obtain ⟨x18,hx18,h19⟩:=aE h17
     refine aK r (aOF r r (aNY hx18).1)<|aK r (aPM r r)<|sI r<|aF (fr':=[(0,.box 0 0),(1,aI),(2,aI),(7,aL),(8,aI),(9,aI),(10,aI),(23,aI)]) r r<|aR<|aH<|mI r<|aK r (lC r r)<|aF (fr':=[(0,.box 0 0),(1,aI),(2,aI),(7,aL),(8,aI),(9,aI),(10,aI),(23,aI),(46,aB)]) r r<|bS h19 r (fun hb20 h20=>?_) (fun hb20 h20=>?_)
     ·
      exact eZ<|bY<|dX<|bZ<|aT<|aK r (dZ r r)<|mI r<|cD (fr':=[(0,.box 0 0),(1,aI),(2,aI),(7,aL),(8,aI),(9,aI),(10,aI),(23,aI),(46,aB)]) r<|tU _ (sy h20) (aU [] 1 r r r r ⟨lr,lr,lr,lr,lr,lr,trivial⟩ (bJ r aC))
     ·
      refine aW<|bZ<|aR<|aH<|mI r<|aK r (mG r r)<|mB r<|og r r r (fun hc=>(bC (v:=aI) r))<|og r r r (fun hc=>(bO (gx r hc) r))<|aK r (bM r r r (fun e=>eI e))<|mB r<|og r r r (fun hc=>(bC (v:=aI) r)) ?_
      refine og r r r (fun hc=>(bO (gx r hc) r))<|og r r r (fun hc=>(bC (v:=aB) (gx r hc)))<|eJ r r (fun hc=>eU r (bC (v:=aI) r))<|eJ r r (fun hc=>eU r (mG (gx r hc) r))<|og r r r (fun hc=>(bM (gx r hc) r r (fun e=>oO hc (eI e))))<|aK r (bX r r r (fun e=>eI e))<|aF (fr':=[(0,.box 0 0),(1,aI),(2,aI),(8,aI),(9,aI),(60,aB)]) r r<|bS h20 r (fun hb21 h21=>?_) (fun hb21 h21=>?_)
      ·
       refine aH<|mV (v:=.box 0 0) r<|aK r (gE r)<|aK r (aZ aAQ r)<|bV (v:=aI) (us:=[aI]) (cs:=cH) (σ':=[cH]) r aJj r r r r r r r r<|aF (fr':=[]) r r<|aH<|sI r<|aF (fr':=[(6,aI)]) r r<|bF<|aM ?_
       refine bH<|aM<|aM<|bH<|aM<|aM ?_
       have h22:=dB h21 ho10
       have h23:=eH h22 h8
       obtain rfl:=sy h23
       exact bE (rs':=[.tmp 6]) r<|bG (v:=aI) r<|bD<|aN [] r r r lr (fJ ⟨r,r,r,r,trivial⟩ aC)
      ·
       refine aW<|bZ<|aH<|mV (v:=.box 0 0) r<|aK r (gE r)<|aK r (aZ zN r)<|aK r (aJ (v:=aI) eB r r r)<|mI r<|aK r (dZ r r)<|aK r (dZ r r)<|aK r (gE r)<|aK r (aZ zN r) ?_
       refine bV (v:=aI) (us:=[aI]) (cs:=cH) (σ':=[cH]) r eB r r r r r r r r<|aF (fr':=[(0,.box 0 0),(1,aI),(2,aI),(8,aI)]) r r<|aH<|mI r<|aK r (aMZ r r (by decide))<|aK r (tZ aAT tk3 r)<|mI r<|aK r (aOC r r)<|aK r (tZ aAT tk3 r)<|aK r (aKP r)<|aK r (aOH r r)<|sI r ?_
       refine aF (fr':=[(0,.box 0 0),(1,aI),(2,aI),(11,aI)]) r r<|aR<|aH<|mI r<|mI r<|aK r (eA r r)<|mB r<|og r r r (fun hc=>(bC (v:=aI) r))<|og r r r (fun hc=>(bC (v:=aI) r))<|og r r r (fun hc=>(mG (gx r hc) (gx r hc)))<|aK r (bX r r r (fun e=>eI e))<|aF (fr':=[(0,.box 0 0),(11,aI),(88,aB)]) r r ?_
       refine bS h21 r (fun hb25 h25=>?_) (fun hb25 h25=>?_)
       ·
        refine aH<|mV (v:=.box 0 0) r<|aK r (gE r)<|aK r (aZ aAQ r)<|bV (v:=aI) (us:=[aI]) (cs:=cH) (σ':=[cH]) r aJj r r r r r r r r<|aF (fr':=[]) r r<|aH<|sI r<|aF (fr':=[(6,aI)]) r r<|bF<|aM ?_
        refine bH<|aM<|aM<|bH<|aM<|aM ?_
        have h26:=dB h25 ho10
        have h27:=eH h26 h8
        obtain rfl:=sy h27
        exact bE (rs':=[.tmp 6]) r<|bG (v:=aI) r<|bD<|aN [] r r r lr (fJ ⟨r,r,r,r,trivial⟩ aC)
       ·
        refine aW<|bZ<|aH<|mI r<|sI r<|aF (fr':=[(6,aI)]) r r<|bF<|bH<|aM<|aM<|bH<|aM ?_
        refine aM ?_
        have h29:=dB h25 ho10
        have h30:=eH h29 h8
        obtain rfl:=sy h30
        exact bE (rs':=[.tmp 6]) r<|bG (v:=aI) r<|bD<|aN [] r r r lr (fJ ⟨r,r,r,r,trivial⟩ aC)
   ·
    refine eZ<|bY<|bY<|dX ?_
    have h32:=dB h11 ho10
    exact fS _ (sy h32) (aU [] 1 r r r r ⟨lr,trivial⟩ (bJ r aC))
  ·
   intro j9 hj33
   have h33:=iS hj33 h8
   refine bZ<|aH<|mV (v:=.box 0 0) r<|aK r (gE r)<|aK r (aZ aAQ r)<|bV (v:=aI) (us:=[aI]) (cs:=cH) (σ':=[cH]) r aJj r r r r r r r r<|aF (fr':=[]) r r<|aH<|sI r<|aF (fr':=[(6,aI)]) r r<|bF ?_
   obtain rfl:=sy h33
   exact bE (rs':=[.tmp 6]) r<|bG (v:=aI) r<|bD<|aN [] r r r lr (fJ ⟨r,r,r,r,trivial⟩ aC)
noncomputable def fZ (zD:Int) (cQ:aQ):Option ((List UInt8) × aQ) :=
 (eP (0:Int) zD cQ).bind fun x1=>(jJ x1.2).bind fun x3=>cond x3 (some (([]:List UInt8),x1.2)) (cond (decide ((IntKind.wrap .i64 (((x1.2.b_).length:Int) - x1.2.at_))<x1.1)) (some (([]:List UInt8),(aQ.mk x1.2.b_ x1.2.at_ (4:Int) x1.2.made_))) ((aN9 x1.2.b_ x1.2.at_ (IntKind.wrap .i64 (x1.2.at_+x1.1))).bind fun x9=>some ((List.drop (Int.toNat x1.2.at_) (List.take (Int.toNat (IntKind.wrap .i64 (x1.2.at_+x1.1))) x1.2.b_)),(aQ.mk x1.2.b_ (IntKind.wrap .i64 (x1.2.at_+x1.1)) x1.2.err_ x1.2.made_))))
theorem iI {zD:Int}{cQ:aQ}{res:((List UInt8) × aQ)} (h:fZ zD cQ=some res):bT Tryz.prog 71 [.box 0 0,ci zD] [AV.cs (cW cQ)] (.c (.str res.1)) [AV.cs (cW res.2)]:=by
 unfold fZ at h
 refine cJ (fn:=Tryz.f71) [0,1,4,5,6,11,23] (by kernel_rfl) Tryz.func71 r (by kernel_rfl) (by kernel_rfl)<|aH<|sS r<|aF (fr':=[(0,.box 0 0),(1,aI)]) r r<|aH<|mV (v:=.box 0 0) r<|mI r ?_
 obtain ⟨x1,hx1,h2⟩:=aE h
 refine dK (v:=aI) (σ':=[cH]) [0] r (iU hx1) r r ⟨lr,lr,lr,trivial⟩ (fJ ⟨r,r,r,r,trivial⟩ aC) r r r<|sI r<|aF (fr':=[(0,.box 0 0),(5,aI)]) r r<|aR<|aH<|mV (v:=.box 0 0) r ?_
 obtain ⟨x3,hx3,h4⟩:=aE h2
 refine dK (v:=aB) (σ':=[cH]) [0] r (rW hx3) r r ⟨lr,trivial⟩ (fJ ⟨r,r,r,r,trivial⟩ aC) r r r<|aF (fr':=[(0,.box 0 0),(5,aI),(11,aB)]) r r<|bS h4 r (fun hb5 h5=>?_) (fun hb5 h5=>?_)
 ·
  refine aH<|sS r<|aF (fr':=[(4,aS)]) r r<|bF<|aM ?_
  obtain rfl:=sy h5
  exact bE (rs':=[.tmp 4]) r<|bG (v:=aS) r<|bD<|aN [] r r r lr (fJ ⟨r,r,r,r,trivial⟩ aC)
 ·
  refine aW<|bZ<|aR<|aR<|hF [.q 0,.q 1,.q 2,.q 3,.q 4,.q 5,.q 6,.q 7,.q 8,.q 9,.q 10,.q 11] [(some 12,[5]),(some 13,[0]),(some 14,[13]),(some 15,[14]),(some 16,[15]),(some 17,[16]),(some 18,[0]),(some 19,[18]),(some 20,[19]),(some 21,[20]),(some 22,[17,21]),(some 23,[12,22])] [0,0,2,6,14,30,0,64,192,448,1022,2047] (by kernel_rfl)<|dq r r (bC (v:=aI) r)<|dq r r (bC (v:=.box 0 0) r)<|dq r r (gE r)<|dq r r (aZ aHO r)<|dq r r (aJ (v:=aL) aOl r r r)<|dq r r (eC aAR (cR r))<|dq r r (bC (v:=.box 0 0) r)<|dq r r (gE r) ?_
  refine dq r r (aZ zN r)<|dq r r (aJ (v:=aI) eB r r r)<|dq r r (aFq r r)<|dq r r (mG r r)<|tS (fr':=[(0,.box 0 0),(5,aI),(23,aB)]) r r<|bS h5 r (fun hb7 h7=>?_) (fun hb7 h7=>?_)
  ·
   refine aH<|mV (v:=.box 0 0) r<|aK r (gE r)<|aK r (aZ aAQ r)<|bV (v:=aI) (us:=[aI]) (cs:=cH) (σ':=[cH]) r aJj r r r r r r r r<|aF (fr':=[]) r r<|aH<|sS r<|aF (fr':=[(4,aS)]) r r<|bF<|aM ?_
   obtain rfl:=sy h7
   exact bE (rs':=[.tmp 4]) r<|bG (v:=aS) r<|bD<|aN [] r r r lr (fJ ⟨r,r,r,r,trivial⟩ aC)
  ·
   refine aW<|bZ<|aR<|hF [.q 0,.q 1,.q 2,.q 3,.q 4,.q 5,.q 6,.q 7,.q 8,.q 9,.q 10,.q 11,.q 12,.q 13,.q 14,.q 15,.n 16 []] [(some 27,[0]),(some 28,[27]),(some 29,[28]),(some 30,[29]),(some 31,[0]),(some 32,[31]),(some 33,[32]),(some 34,[33]),(some 35,[0]),(some 36,[35]),(some 37,[36]),(some 38,[37]),(some 39,[5]),(some 40,[38,39]),(some 41,[30,34,40]),(some 42,[41]),(some 6,[42])] [0,1,3,7,0,16,48,112,0,256,768,1792,0,7936,16383,32767,65535] (by kernel_rfl)<|dq r r (bC (v:=.box 0 0) r)<|dq r r (gE r)<|dq r r (aZ aHO r)<|dq r r (aJ (v:=aL) aOl r r r)<|dq r r (bC (v:=.box 0 0) r)<|dq r r (gE r)<|dq r r (aZ zN r)<|dq r r (aJ (v:=aI) eB r r r)<|dq r r (bC (v:=.box 0 0) r) ?_
   refine dq r r (gE r)<|dq r r (aZ zN r)<|dq r r (aJ (v:=aI) eB r r r)<|dq r r (bC (v:=aI) r)<|dq r r (dZ r r) ?_
   obtain ⟨x9,hx9,h10⟩:=aE h7
   refine dq r r (aPc aP7 xJ (cR r) r r (aLX hx9).1)<|dq r r (aAD aJg nJ (cR r))<|d_n r ?_ r
   refine sS r<|yD<|⟨nH,?_⟩
   refine tS (fr':=[(0,.box 0 0),(5,aI),(6,aS)]) r r<|aH<|mV (v:=.box 0 0) r<|aK r (gE r)<|aK r (aZ zN r)<|aK r (aJ (v:=aI) eB r r r)<|mI r<|aK r (dZ r r)<|aK r (gE r)<|aK r (aZ zN r)<|bV (v:=aI) (us:=[aI]) (cs:=cH) (σ':=[cH]) r eB r r r r r r r r<|aF (fr':=[(6,aS)]) r r ?_
   refine aH<|mS r<|sS r<|aF (fr':=[(4,aS)]) r r<|bF ?_
   obtain rfl:=sy h10
   exact bE (rs':=[.tmp 4]) r<|bG (v:=aS) r<|bD<|aN [] r r r lr (fJ ⟨r,r,r,r,trivial⟩ aC)
noncomputable def iJ (p1e:Int) (cQ:aQ):Option aQ :=
 (jJ cQ).bind fun x1=>cond (!x1) (some (aQ.mk cQ.b_ cQ.at_ p1e cQ.made_)) (some cQ)
theorem lP {p1e:Int}{cQ:aQ}{res:aQ} (h:iJ p1e cQ=some res):bT Tryz.prog 74 [.box 0 0,ci p1e] [AV.cs (cW cQ)] (.any) [AV.cs (cW res)]:=by
 unfold iJ at h
 refine cJ (fn:=Tryz.f74) [0,1,6] (by kernel_rfl) Tryz.func74 r (by kernel_rfl) (by kernel_rfl)<|aH<|mV (v:=.box 0 0) r ?_
 obtain ⟨x1,hx1,h2⟩:=aE h
 refine dK (v:=aB) (σ':=[cH]) [0] r (rW hx1) r r ⟨lr,trivial⟩ (fJ ⟨r,r,r,r,trivial⟩ aC) r r r<|aK r (eD r)<|aF (fr':=[(0,.box 0 0),(1,aI),(6,aB)]) r r<|bS h2 r (fun hb3 h3=>?_) (fun hb3 h3=>?_)
 ·
  refine aT<|mV (v:=.box 0 0) r<|mI r<|aK r (gE r)<|aK r (aZ aAQ r)<|bV (v:=aI) (us:=[aI]) (cs:=cH) (σ':=[cH]) r aJj r r r r r r r r<|cD (fr':=[(0,.box 0 0),(1,aI),(6,aB)]) r ?_
  obtain rfl:=sy h3
  exact aOv (rs':=[]) r<|bD<|aN [] r r r (AV.le_any _) (fJ ⟨r,r,r,r,trivial⟩ aC)
 ·
  refine aW ?_
  obtain rfl:=sy h3
  exact aOv (rs':=[]) r<|bD<|aN [] r r r (AV.le_any _) (fJ ⟨r,r,r,r,trivial⟩ aC)
noncomputable def gV (xO:Bool) (fF:Int) (mD:aQ):Option (Bool × aQ) :=
 (((eO mD).bind fun x4=>cond (cond (decide (x4=(0:Int))) (!xO) false) ((iJ (3:Int) mD).bind fun x7=>some x7) (some mD)):Option aQ).bind fun x1=>((eO x1).bind fun x10=>some ((decide (x10=(0:Int))),x1))
theorem jI {xO:Bool}{fF:Int}{mD:aQ}{res:(Bool × aQ)} (h:gV xO fF mD=some res):bT Tryz.prog 183 [.box 0 0,.c (.bool xO)] [[.box 1 0,ci fF],AV.cs (cW mD)] (.c (.bool res.1)) [[.box 1 0,ci fF],AV.cs (cW res.2)]:=by
 unfold gV at h
 refine cJ (fn:=Tryz.f183) [0,1,4,14] (by kernel_rfl) Tryz.func183 r (by kernel_rfl) (by kernel_rfl)<|aH<|sB r<|aF (fr':=[(0,.box 0 0),(1,aB)]) r r ?_
 obtain ⟨x1,hx1,h2⟩:=aE h
 refine fP (fun j3=>x1=j3) (fun (j3:aQ)=>([(0,.box 0 0)]:Fr)) (fun (j3:aQ)=>([[.box 1 0,ci fF],[.c (PV.ls 1 eL j3.b_),ci j3.at_,ci j3.err_,.c (.bool j3.made_)]]:St)) ?_ ?_
 ·
  refine aH<|mV (v:=.box 0 0) r<|aK r (gE r)<|aK r (aZ uM r)<|aK r (aJ (v:=.box 1 0) aGt r r r) ?_
  obtain ⟨x4,hx4,h5⟩:=aE hx1
  refine dK (v:=aI) (σ':=[[.box 1 0,aI],cH]) [1] r (fI hx4) r r ⟨lr,trivial⟩ (fJ ⟨r,r,r,r,trivial⟩ aC) r r r<|aK r (bO r r)<|mB r<|og r r r (fun hc=>(bC (v:=aB) r))<|og r r r (fun hc=>(eD (gx r hc)))<|aK r (bM r r r (fun e=>eI e))<|aF (fr':=[(0,.box 0 0),(14,aB)]) r r<|bS h5 r (fun hb6 h6=>?_) (fun hb6 h6=>?_)
  ·
   refine aT<|mV (v:=.box 0 0) r<|aK r (gE r)<|aK r (aZ uM r)<|aK r (aJ (v:=.box 1 0) aGt r r r) ?_
   obtain ⟨x7,hx7,h8⟩:=aE h6
   exact dK (v:=_) (σ':=[[.box 1 0,aI],cH]) [1] r (lP hx7) r r ⟨lr,lr,trivial⟩ (fJ ⟨r,r,r,r,trivial⟩ aC) r r r<|cD (fr':=[(0,.box 0 0),(14,aB)]) r<|fS _ (sy h8) (aU [] 2 r r r r ⟨lr,trivial⟩ (bJ r (bJ r aC)))
  ·
   exact aW<|fS _ (sy h6) (aU [] 2 r r r r ⟨lr,trivial⟩ (bJ r (bJ r aC)))
 ·
  intro j3 hj9
  subst hj9
  refine aH<|mV (v:=.box 0 0) r<|aK r (gE r)<|aK r (aZ uM r)<|aK r (aJ (v:=.box 1 0) aGt r r r) ?_
  obtain ⟨x10,hx10,h11⟩:=aE h2
  refine dK (v:=aI) (σ':=[[.box 1 0,aI],cH]) [1] r (fI hx10) r r ⟨lr,trivial⟩ (fJ ⟨r,r,r,r,trivial⟩ aC) r r r<|aK r (bO r r)<|sB r<|aF (fr':=[(4,aB)]) r r<|bF ?_
  obtain rfl:=sy h11
  exact bE (rs':=[.tmp 4]) r<|bG (v:=aB) r<|bD<|aN [] r r r lr (bJ r (fJ ⟨r,r,r,r,trivial⟩ aC))
end Go.Proofs.YtnigjppddilpcaaGreatDoor
