import Derived.Test.YtnigjppddilpcaaGreatDoorGETy
import Derived.Test.YtnigjppddilpcaaGreatDoorGEF0
import Derived.Test.YtnigjppddilpcaaGreatDoorGEF1
import Derived.Test.YtnigjppddilpcaaGreatDoorGEF2
import Derived.Test.YtnigjppddilpcaaGreatDoorGEF3
namespace Go.Proofs.YtnigjppddilpcaaGreatDoor
open Go Abs
set_option maxRecDepth 100000
set_option linter.unusedVariables false
set_option linter.unusedSimpArgs false
noncomputable def rE (p0b:(List UInt8)):Option aD :=
 (fV p0b).bind fun x1=>some (aD.mk x1 (0:Int) (0:Int) true)
theorem aJF {p0b:(List UInt8)}{res:aD} (h:rE p0b=some res):cC Tryz.prog 25 [.c (PV.ls 1 gA p0b)] [] (.box 0 0) [AV.cs (cL res)]:=by
 unfold rE at h
 refine cY (fn:=Tryz.f25) [0,2] (by kernel_rfl) Tryz.func25 r (by kernel_rfl) (by kernel_rfl)<|aK<|sV (v:=.nilptr) r<|aH (fr':=[(0,aL)]) r r<|aK<|mL r ?_
 obtain ⟨x1,hx1,h2⟩:=aG h
 refine lM (bC (v:=aO) r (kC hx1) ⟨lr,trivial⟩ r r r)<|aT r (jA (cs:=[aO,aI,aI,aB]) aRd r)<|iH (v:=.agg [aO,aI,aI,aB]) (n:=0) (cs:=[aO,aI,aI,aB]) (σ':=[[aO,aI,aI,aB]]) r r r r r<|sV (v:=.box 0 0) r<|aH (fr':=[(2,.box 0 0)]) r r<|bI ?_
 obtain rfl:=sy h2
 exact bH (rs':=[.tmp 2]) r<|bP (v:=.box 0 0) r<|bG<|aOg (off:=0) (j:=0) r r r r r (eW ⟨r,r,r,r,trivial⟩ aF)
noncomputable def dS (bV:aD):Option Int :=
 cond (!bV.made_) (some (1:Int)) (some bV.err_)
theorem eV {bV:aD}{res:Int} (h:dS bV=some res):cC Tryz.prog 29 [.box 0 0] [AV.cs (cL bV)] (ci res) [AV.cs (cL bV)]:=by
 unfold dS at h
 refine cY (fn:=Tryz.f29) [0,2,11] (by kernel_rfl) Tryz.func29 r (by kernel_rfl) (by kernel_rfl)<|aK<|sI r<|aH (fr':=[(0,.box 0 0)]) r r<|aU<|aK<|mV (v:=.box 0 0) r<|aT r (aKq aP1 r r)<|mB r<|rO r r r<|mV (v:=.box 0 0) r ?_
 refine rO r r r<|aT r (gB r)<|rO r r r<|aT r (bD aNS r)<|rO r r r<|aT r (aJ (v:=aB) tv4 r r r)<|rO r r r<|aT r (fH r)<|aT r (aAW r r r)<|aH (fr':=[(0,.box 0 0),(11,aB)]) r r<|cV h r (fun hb1 h1=>?_) (fun hb1 h1=>?_)
 ·
  refine aK<|sI r<|aH (fr':=[(2,aI)]) r r<|bI<|aN ?_
  obtain rfl:=sy h1
  exact bH (rs':=[.tmp 2]) r<|bP (v:=aI) r<|bG<|aQ [] r r r lr (cZ r aF)
 ·
  refine bJ<|cM<|aK<|mV (v:=.box 0 0) r<|aT r (gB r)<|aT r (bD aBb r)<|aT r (aJ (v:=aI) aJx r r r)<|sI r<|aH (fr':=[(2,aI)]) r r<|bI ?_
  obtain rfl:=sy h1
  exact bH (rs':=[.tmp 2]) r<|bP (v:=aI) r<|bG<|aQ [] r r r lr (cZ r aF)
noncomputable def jU (bV:aD):Option Bool :=
 some (cond (!bV.made_) true (!decide (bV.err_=(0:Int))))
theorem qW {bV:aD}{res:Bool} (h:jU bV=some res):cC Tryz.prog 79 [.box 0 0] [AV.cs (cL bV)] (.c (.bool res)) [AV.cs (cL bV)]:=by
 unfold jU at h
 refine cY (fn:=Tryz.f79) [0,2] (by kernel_rfl) Tryz.func79 r (by kernel_rfl) (by kernel_rfl)<|aK<|sB r<|aH (fr':=[(0,.box 0 0)]) r r<|aK<|mV (v:=.box 0 0) r<|aT r (aKq aP1 r r)<|mB r<|rO r r r<|mV (v:=.box 0 0) r<|rO r r r ?_
 refine aT r (gB r)<|rO r r r<|aT r (bD aNS r)<|rO r r r<|aT r (aJ (v:=aB) tv4 r r r)<|rO r r r<|aT r (fH r)<|aT r (aAW r r r)<|mB r<|og r r r (fun hc=>(bA (v:=.box 0 0) r))<|og r r r (fun hc=>(gB (gx r hc)))<|og r r r (fun hc=>(bD aBb (gx r hc)))<|og r r r (fun hc=>(aJ (v:=aI) aJx (gx r hc) r r)) ?_
 refine og r r r (fun hc=>(gQ (gx r hc) r))<|aT r (cB r r r (fun e=>fW e))<|sB r<|aH (fr':=[(2,aB)]) r r<|bI ?_
 obtain rfl:=sy h
 exact bH (rs':=[.tmp 2]) r<|bP (v:=aB) r<|bG<|aQ [] r r r lr (cZ r aF)
noncomputable def nQ (bV:aD) (oT:Int) (lG:Int) (s10:(Int × Int)):Option (bS (Int × Int) (Fl (Int × aD) Unit)) :=
 cond (decide (s10.2<(10:Int))) (cond (decide ((((List.drop (Int.toNat bV.at_) bV.b_)).length:Int)≤s10.2)) (some (bS.out (Fl.done ((0:Int),(aD.mk bV.b_ bV.at_ (4:Int) bV.made_))))) ((jV (List.drop (Int.toNat bV.at_) bV.b_) s10.2).bind fun x16=>(nn (IntKind.wrap .i64 ((7:Int)*s10.2))).bind fun x18=>cond (decide ((128:Int)≤((x16).toNat:Int))) (some (bS.next ((gM .or .u64 s10.1 (IntKind.wrap .u64 ((IntKind.wrap .u64 (gM .and .u8 ((x16).toNat:Int) (127:Int)))*2 ^ (min (Int.toNat (IntKind.wrap .i64 ((7:Int)*s10.2))) (IntKind.bits .u64))))),(IntKind.wrap .i64 (s10.2+(1:Int)))))) (cond (cond (cond (decide ((0:Int)<s10.2)) (decide (((x16).toNat:Int)=(0:Int))) false) true (cond (decide (s10.2=(9:Int))) (decide ((1:Int)<((x16).toNat:Int))) false)) (some (bS.out (Fl.done ((0:Int),(aD.mk bV.b_ bV.at_ (3:Int) bV.made_))))) (cond (cond (decide ((gM .xor .i64 (IntKind.wrap .i64 (Int.fdiv (gM .or .u64 s10.1 (IntKind.wrap .u64 ((IntKind.wrap .u64 (gM .and .u8 ((x16).toNat:Int) (127:Int)))*2 ^ (min (Int.toNat (IntKind.wrap .i64 ((7:Int)*s10.2))) (IntKind.bits .u64))))) (2 ^ (min (Int.toNat (1:Int)) (IntKind.bits .u64))))) (IntKind.wrap .i64 (0 - (IntKind.wrap .i64 (gM .and .u64 (gM .or .u64 s10.1 (IntKind.wrap .u64 ((IntKind.wrap .u64 (gM .and .u8 ((x16).toNat:Int) (127:Int)))*2 ^ (min (Int.toNat (IntKind.wrap .i64 ((7:Int)*s10.2))) (IntKind.bits .u64))))) (1:Int))))))<oT)) true (decide (lG<(gM .xor .i64 (IntKind.wrap .i64 (Int.fdiv (gM .or .u64 s10.1 (IntKind.wrap .u64 ((IntKind.wrap .u64 (gM .and .u8 ((x16).toNat:Int) (127:Int)))*2 ^ (min (Int.toNat (IntKind.wrap .i64 ((7:Int)*s10.2))) (IntKind.bits .u64))))) (2 ^ (min (Int.toNat (1:Int)) (IntKind.bits .u64))))) (IntKind.wrap .i64 (0 - (IntKind.wrap .i64 (gM .and .u64 (gM .or .u64 s10.1 (IntKind.wrap .u64 ((IntKind.wrap .u64 (gM .and .u8 ((x16).toNat:Int) (127:Int)))*2 ^ (min (Int.toNat (IntKind.wrap .i64 ((7:Int)*s10.2))) (IntKind.bits .u64))))) (1:Int))))))))) (some (bS.out (Fl.done ((0:Int),(aD.mk bV.b_ (IntKind.wrap .i64 (bV.at_+(IntKind.wrap .i64 (s10.2+(1:Int))))) (14:Int) bV.made_))))) (some (bS.out (Fl.done ((gM .xor .i64 (IntKind.wrap .i64 (Int.fdiv (gM .or .u64 s10.1 (IntKind.wrap .u64 ((IntKind.wrap .u64 (gM .and .u8 ((x16).toNat:Int) (127:Int)))*2 ^ (min (Int.toNat (IntKind.wrap .i64 ((7:Int)*s10.2))) (IntKind.bits .u64))))) (2 ^ (min (Int.toNat (1:Int)) (IntKind.bits .u64))))) (IntKind.wrap .i64 (0 - (IntKind.wrap .i64 (gM .and .u64 (gM .or .u64 s10.1 (IntKind.wrap .u64 ((IntKind.wrap .u64 (gM .and .u8 ((x16).toNat:Int) (127:Int)))*2 ^ (min (Int.toNat (IntKind.wrap .i64 ((7:Int)*s10.2))) (IntKind.bits .u64))))) (1:Int)))))),(aD.mk bV.b_ (IntKind.wrap .i64 (bV.at_+(IntKind.wrap .i64 (s10.2+(1:Int))))) bV.err_ bV.made_))))))))) (some (bS.out (Fl.go ())))
noncomputable def cW (oT:Int) (lG:Int) (bV:aD):Option (Int × aD) :=
 (jU bV).bind fun x1=>cond x1 (some ((0:Int),bV)) ((aJu bV.b_ bV.at_).bind fun x5=>((dL (nQ bV oT lG) (((0:Int),(0:Int)))):Option (Fl (Int × aD) Unit)).bind fun x7=>Fl.next x7 (fun j9=>(some ((0:Int),(aD.mk bV.b_ bV.at_ (3:Int) bV.made_)))))
theorem jE {oT:Int}{lG:Int}{bV:aD}{res:(Int × aD)} (h:cW oT lG bV=some res):cC Tryz.prog 64 [.box 0 0,ci oT,ci lG] [AV.cs (cL bV)] (ci res.1) [AV.cs (cL res.2)]:=by
 unfold cW at h
 refine cY (fn:=Tryz.f64) [0,1,2,6,7,8,9,10,11,13,23,24,29,46,60,88] (by kernel_rfl) Tryz.func64 r (by kernel_rfl) (by kernel_rfl)<|aK<|sI r<|aH (fr':=[(0,.box 0 0),(1,aI),(2,aI)]) r r<|aU<|aK<|mV (v:=.box 0 0) r ?_
 obtain ⟨x1,hx1,h2⟩:=aG h
 refine dM (v:=aB) (σ':=[bW]) [0] r (qW hx1) r r ⟨lr,trivial⟩ (eW ⟨r,r,r,r,trivial⟩ aF) r r r<|aH (fr':=[(0,.box 0 0),(1,aI),(2,aI),(13,aB)]) r r<|cV h2 r (fun hb3 h3=>?_) (fun hb3 h3=>?_)
 ·
  refine aK<|sI r<|aH (fr':=[(6,aI)]) r r<|bI<|aN ?_
  obtain rfl:=sy h3
  exact bH (rs':=[.tmp 6]) r<|bP (v:=aI) r<|bG<|aQ [] r r r lr (eW ⟨r,r,r,r,trivial⟩ aF)
 ·
  refine bJ<|cM<|aU<|jD [.q 0,.q 1,.q 2,.q 3,.q 4,.q 5,.q 6,.q 7,.q 8,.n 9 []] [(some 14,[0]),(some 15,[14]),(some 16,[15]),(some 17,[16]),(some 18,[0]),(some 19,[18]),(some 20,[19]),(some 21,[20]),(some 22,[17,21]),(some 7,[22])] [0,1,3,7,0,16,48,112,255,511] (by kernel_rfl)<|dq r r (bA (v:=.box 0 0) r)<|dq r r (gB r)<|dq r r (bD aH3 r)<|dq r r (aJ (v:=aL) aOQ r r r)<|dq r r (bA (v:=.box 0 0) r)<|dq r r (gB r)<|dq r r (bD aAd r)<|dq r r (aJ (v:=aI) fY r r r) ?_
  obtain ⟨x5,hx5,h6⟩:=aG h3
  refine dq r r (aPP aP3 aGc (eO r) r (aDG hx5).1)<|d_n r ?_ r
  refine sL r<|aBD<|⟨pS,?_⟩
  refine xA (fr':=[(0,.box 0 0),(1,aI),(2,aI),(7,aL)]) r r<|aK<|sI r<|aH (fr':=[(0,.box 0 0),(1,aI),(2,aI),(7,aL),(8,aI)]) r r<|aU<|aK<|mI r<|aH (fr':=[(0,.box 0 0),(1,aI),(2,aI),(7,aL),(8,aI),(23,aI)]) r r ?_
  obtain ⟨x7,hx7,h8⟩:=aG h6
  refine gZ mO (fun j9=>x7=Fl.go j9) (fun (j9:Unit)=>([(0,.box 0 0)]:Fr)) (fun (j9:Unit)=>([[.c (PV.ls 1 gA bV.b_),ci bV.at_,ci bV.err_,.c (.bool bV.made_)]]:St)) ?_ ?_
  ·
   refine bZ<|gU _ (fun (s10:(Int × Int))=>([(0,.box 0 0),(1,ci oT),(2,ci lG),(7,.c (PV.ls 1 gA (List.drop (Int.toNat bV.at_) bV.b_))),(8,.c (.int .u64 s10.1)),(23,ci s10.2)]:Fr)) (fun (s10:(Int × Int))=>([[.c (PV.ls 1 gA bV.b_),ci bV.at_,ci bV.err_,.c (.bool bV.made_)]]:St)) hx7 (bT [] 1 r r r r ⟨lr,lr,lr,lr,lr,lr,trivial⟩ (cZ r aF)) ?_
   intro s10 st10 hs10 ho10
   unfold nQ at hs10
   refine aK<|aT r (fM r r)<|aH (fr':=[(0,.box 0 0),(1,aI),(2,aI),(7,aL),(8,aI),(23,aI),(24,aB)]) r r<|aU<|cV hs10 r (fun hb11 h11=>?_) (fun hb11 h11=>?_)
   ·
    refine bJ<|cM<|aU<|bZ<|aK<|mI r<|sI r<|aH (fr':=[(0,.box 0 0),(1,aI),(2,aI),(7,aL),(8,aI),(9,aI),(23,aI)]) r r<|aU<|aK<|mI r ?_
    refine mL r<|aT r (gN aGH (eO r))<|aT r (rP r r)<|aH (fr':=[(0,.box 0 0),(1,aI),(2,aI),(7,aL),(8,aI),(9,aI),(23,aI),(29,aB)]) r r<|cV h11 r (fun hb12 h12=>?_) (fun hb12 h12=>?_)
    ·
     refine aK<|mV (v:=.box 0 0) r<|aT r (gB r)<|aT r (bD aBb r)<|bU (v:=aI) (us:=[aI]) (cs:=bW) (σ':=[bW]) r aJx r r r r r r r r<|aH (fr':=[]) r r<|aK<|sI r<|aH (fr':=[(6,aI)]) r r<|bI<|aN ?_
     refine bN<|aN<|aN<|bN<|aN<|aN ?_
     have h13:=eY h12 ho10
     have h14:=fI h13 h8
     obtain rfl:=sy h14
     exact bH (rs':=[.tmp 6]) r<|bP (v:=aI) r<|bG<|aQ [] r r r lr (eW ⟨r,r,r,r,trivial⟩ aF)
    ·
     refine bJ<|cM<|aK<|mL r<|mI r ?_
     obtain ⟨x16,hx16,h17⟩:=aG h12
     refine aT r (oV (cs:=[PV.int _ _]) aGc (eO r) r hx16 r)<|aT r (jW (p:=PV.int _ _) tv5 r r)<|sI r<|aH (fr':=[(0,.box 0 0),(1,aI),(2,aI),(7,aL),(8,aI),(9,aI),(10,aI),(23,aI)]) r r<|aK<|mI r<|mI r<|aT r (aO9 r r)<|aT r (aB7 tk5 aGa r)<|mI r<|aT r (aQp r r) ?_
     obtain ⟨x18,hx18,h19⟩:=aG h17
     refine aT r (aPa r r (aOs hx18).1)<|aT r (aQr r r)<|sI r<|aH (fr':=[(0,.box 0 0),(1,aI),(2,aI),(7,aL),(8,aI),(9,aI),(10,aI),(23,aI)]) r r<|aU<|aK<|mI r<|aT r (rP r r)<|aH (fr':=[(0,.box 0 0),(1,aI),(2,aI),(7,aL),(8,aI),(9,aI),(10,aI),(23,aI),(46,aB)]) r r<|cV h19 r (fun hb20 h20=>?_) (fun hb20 h20=>?_)
     ·
      exact hH<|cX<|fU<|cM<|aX<|aT r (fL r r)<|mI r<|dT (fr':=[(0,.box 0 0),(1,aI),(2,aI),(7,aL),(8,aI),(9,aI),(10,aI),(23,aI),(46,aB)]) r<|e_l _ (sy h20) (bT [] 1 r r r r ⟨lr,lr,lr,lr,lr,lr,trivial⟩ (cZ r aF))
     ·
      refine bJ<|cM<|aU<|aK<|mI r<|aT r (sJ r r)<|mB r<|og r r r (fun hc=>(bA (v:=aI) r))<|og r r r (fun hc=>(dG (gx r hc) r))<|aT r (cE r r r (fun e=>fW e))<|mB r<|og r r r (fun hc=>(bA (v:=aI) r)) ?_
      refine og r r r (fun hc=>(dG (gx r hc) r))<|og r r r (fun hc=>(bA (v:=aB) (gx r hc)))<|eX r r (fun hc=>fJ r (bA (v:=aI) r))<|eX r r (fun hc=>fJ r (sJ (gx r hc) r))<|og r r r (fun hc=>(cE (gx r hc) r r (fun e=>rF hc (fW e))))<|aT r (cB r r r (fun e=>fW e))<|aH (fr':=[(0,.box 0 0),(1,aI),(2,aI),(8,aI),(9,aI),(60,aB)]) r r<|cV h20 r (fun hb21 h21=>?_) (fun hb21 h21=>?_)
      ·
       refine aK<|mV (v:=.box 0 0) r<|aT r (gB r)<|aT r (bD aBb r)<|bU (v:=aI) (us:=[aI]) (cs:=bW) (σ':=[bW]) r aJx r r r r r r r r<|aH (fr':=[]) r r<|aK<|sI r<|aH (fr':=[(6,aI)]) r r<|bI<|aN ?_
       refine bN<|aN<|aN<|bN<|aN<|aN ?_
       have h22:=eY h21 ho10
       have h23:=fI h22 h8
       obtain rfl:=sy h23
       exact bH (rs':=[.tmp 6]) r<|bP (v:=aI) r<|bG<|aQ [] r r r lr (eW ⟨r,r,r,r,trivial⟩ aF)
      ·
       refine bJ<|cM<|aK<|mV (v:=.box 0 0) r<|aT r (gB r)<|aT r (bD aAd r)<|aT r (aJ (v:=aI) fY r r r)<|mI r<|aT r (fL r r)<|aT r (fL r r)<|aT r (gB r)<|aT r (bD aAd r) ?_
       refine bU (v:=aI) (us:=[aI]) (cs:=bW) (σ':=[bW]) r fY r r r r r r r r<|aH (fr':=[(0,.box 0 0),(1,aI),(2,aI),(8,aI)]) r r<|aK<|mI r<|aT r (aNu r r (by decide))<|aT r (aB7 aGa tk3 r)<|mI r<|aT r (aO9 r r)<|aT r (aB7 aGa tk3 r)<|aT r (aQq r)<|aT r (aPc r r)<|sI r ?_
       refine aH (fr':=[(0,.box 0 0),(1,aI),(2,aI),(11,aI)]) r r<|aU<|aK<|mI r<|mI r<|aT r (fM r r)<|mB r<|og r r r (fun hc=>(bA (v:=aI) r))<|og r r r (fun hc=>(bA (v:=aI) r))<|og r r r (fun hc=>(sJ (gx r hc) (gx r hc)))<|aT r (cB r r r (fun e=>fW e))<|aH (fr':=[(0,.box 0 0),(11,aI),(88,aB)]) r r ?_
       refine cV h21 r (fun hb25 h25=>?_) (fun hb25 h25=>?_)
       ·
        refine aK<|mV (v:=.box 0 0) r<|aT r (gB r)<|aT r (bD aBb r)<|bU (v:=aI) (us:=[aI]) (cs:=bW) (σ':=[bW]) r aJx r r r r r r r r<|aH (fr':=[]) r r<|aK<|sI r<|aH (fr':=[(6,aI)]) r r<|bI<|aN ?_
        refine bN<|aN<|aN<|bN<|aN<|aN ?_
        have h26:=eY h25 ho10
        have h27:=fI h26 h8
        obtain rfl:=sy h27
        exact bH (rs':=[.tmp 6]) r<|bP (v:=aI) r<|bG<|aQ [] r r r lr (eW ⟨r,r,r,r,trivial⟩ aF)
       ·
        refine bJ<|cM<|aK<|mI r<|sI r<|aH (fr':=[(6,aI)]) r r<|bI<|bN<|aN<|aN<|bN<|aN ?_
        refine aN ?_
        have h29:=eY h25 ho10
        have h30:=fI h29 h8
        obtain rfl:=sy h30
        exact bH (rs':=[.tmp 6]) r<|bP (v:=aI) r<|bG<|aQ [] r r r lr (eW ⟨r,r,r,r,trivial⟩ aF)
   ·
    refine hH<|cX<|cX<|fU ?_
    have h32:=eY h11 ho10
    exact pG _ (sy h32) (bT [] 1 r r r r ⟨lr,trivial⟩ (cZ r aF))
  ·
   intro j9 hj33
   have h33:=nG hj33 h8
   refine cM<|aK<|mV (v:=.box 0 0) r<|aT r (gB r)<|aT r (bD aBb r)<|bU (v:=aI) (us:=[aI]) (cs:=bW) (σ':=[bW]) r aJx r r r r r r r r<|aH (fr':=[]) r r<|aK<|sI r<|aH (fr':=[(6,aI)]) r r<|bI ?_
   obtain rfl:=sy h33
   exact bH (rs':=[.tmp 6]) r<|bP (v:=aI) r<|bG<|aQ [] r r r lr (eW ⟨r,r,r,r,trivial⟩ aF)
noncomputable def eC (sW:Int) (bV:aD):Option ((List UInt8) × aD) :=
 (cW (0:Int) sW bV).bind fun x1=>(jU x1.2).bind fun x3=>cond x3 (some (([]:List UInt8),x1.2)) (cond (decide ((IntKind.wrap .i64 (((x1.2.b_).length:Int) - x1.2.at_))<x1.1)) (some (([]:List UInt8),(aD.mk x1.2.b_ x1.2.at_ (4:Int) x1.2.made_))) ((aOF x1.2.b_ x1.2.at_ (IntKind.wrap .i64 (x1.2.at_+x1.1))).bind fun x9=>some ((List.drop (Int.toNat x1.2.at_) (List.take (Int.toNat (IntKind.wrap .i64 (x1.2.at_+x1.1))) x1.2.b_)),(aD.mk x1.2.b_ (IntKind.wrap .i64 (x1.2.at_+x1.1)) x1.2.err_ x1.2.made_))))
theorem iR {sW:Int}{bV:aD}{res:((List UInt8) × aD)} (h:eC sW bV=some res):cC Tryz.prog 71 [.box 0 0,ci sW] [AV.cs (cL bV)] (.c (.str res.1)) [AV.cs (cL res.2)]:=by
 unfold eC at h
 refine cY (fn:=Tryz.f71) [0,1,4,5,6,11,23] (by kernel_rfl) Tryz.func71 r (by kernel_rfl) (by kernel_rfl)<|aK<|sS r<|aH (fr':=[(0,.box 0 0),(1,aI)]) r r<|aK<|mV (v:=.box 0 0) r<|mI r ?_
 obtain ⟨x1,hx1,h2⟩:=aG h
 refine dM (v:=aI) (σ':=[bW]) [0] r (jE hx1) r r ⟨lr,lr,lr,trivial⟩ (eW ⟨r,r,r,r,trivial⟩ aF) r r r<|sI r<|aH (fr':=[(0,.box 0 0),(5,aI)]) r r<|aU<|aK<|mV (v:=.box 0 0) r ?_
 obtain ⟨x3,hx3,h4⟩:=aG h2
 refine dM (v:=aB) (σ':=[bW]) [0] r (qW hx3) r r ⟨lr,trivial⟩ (eW ⟨r,r,r,r,trivial⟩ aF) r r r<|aH (fr':=[(0,.box 0 0),(5,aI),(11,aB)]) r r<|cV h4 r (fun hb5 h5=>?_) (fun hb5 h5=>?_)
 ·
  refine aK<|sS r<|aH (fr':=[(4,aS)]) r r<|bI<|aN ?_
  obtain rfl:=sy h5
  exact bH (rs':=[.tmp 4]) r<|bP (v:=aS) r<|bG<|aQ [] r r r lr (eW ⟨r,r,r,r,trivial⟩ aF)
 ·
  refine bJ<|cM<|aU<|aU<|jD [.q 0,.q 1,.q 2,.q 3,.q 4,.q 5,.q 6,.q 7,.q 8,.q 9,.q 10,.q 11] [(some 12,[5]),(some 13,[0]),(some 14,[13]),(some 15,[14]),(some 16,[15]),(some 17,[16]),(some 18,[0]),(some 19,[18]),(some 20,[19]),(some 21,[20]),(some 22,[17,21]),(some 23,[12,22])] [0,0,2,6,14,30,0,64,192,448,1022,2047] (by kernel_rfl)<|dq r r (bA (v:=aI) r)<|dq r r (bA (v:=.box 0 0) r)<|dq r r (gB r)<|dq r r (bD aH3 r)<|dq r r (aJ (v:=aL) aOQ r r r)<|dq r r (gN aGH (eO r))<|dq r r (bA (v:=.box 0 0) r)<|dq r r (gB r) ?_
  refine dq r r (bD aAd r)<|dq r r (aJ (v:=aI) fY r r r)<|dq r r (aNv r r)<|dq r r (sJ r r)<|xA (fr':=[(0,.box 0 0),(5,aI),(23,aB)]) r r<|cV h5 r (fun hb7 h7=>?_) (fun hb7 h7=>?_)
  ·
   refine aK<|mV (v:=.box 0 0) r<|aT r (gB r)<|aT r (bD aBb r)<|bU (v:=aI) (us:=[aI]) (cs:=bW) (σ':=[bW]) r aJx r r r r r r r r<|aH (fr':=[]) r r<|aK<|sS r<|aH (fr':=[(4,aS)]) r r<|bI<|aN ?_
   obtain rfl:=sy h7
   exact bH (rs':=[.tmp 4]) r<|bP (v:=aS) r<|bG<|aQ [] r r r lr (eW ⟨r,r,r,r,trivial⟩ aF)
  ·
   refine bJ<|cM<|aU<|jD [.q 0,.q 1,.q 2,.q 3,.q 4,.q 5,.q 6,.q 7,.q 8,.q 9,.q 10,.q 11,.q 12,.q 13,.q 14,.q 15,.n 16 []] [(some 27,[0]),(some 28,[27]),(some 29,[28]),(some 30,[29]),(some 31,[0]),(some 32,[31]),(some 33,[32]),(some 34,[33]),(some 35,[0]),(some 36,[35]),(some 37,[36]),(some 38,[37]),(some 39,[5]),(some 40,[38,39]),(some 41,[30,34,40]),(some 42,[41]),(some 6,[42])] [0,1,3,7,0,16,48,112,0,256,768,1792,0,7936,16383,32767,65535] (by kernel_rfl)<|dq r r (bA (v:=.box 0 0) r)<|dq r r (gB r)<|dq r r (bD aH3 r)<|dq r r (aJ (v:=aL) aOQ r r r)<|dq r r (bA (v:=.box 0 0) r)<|dq r r (gB r)<|dq r r (bD aAd r)<|dq r r (aJ (v:=aI) fY r r r)<|dq r r (bA (v:=.box 0 0) r) ?_
   refine dq r r (gB r)<|dq r r (bD aAd r)<|dq r r (aJ (v:=aI) fY r r r)<|dq r r (bA (v:=aI) r)<|dq r r (fL r r) ?_
   obtain ⟨x9,hx9,h10⟩:=aG h7
   refine dq r r (aPN aP3 aGc (eO r) r r (aMn hx9).1)<|dq r r (aI2 aPf wT (eO r))<|d_n r ?_ r
   refine sS r<|aBD<|⟨pS,?_⟩
   refine xA (fr':=[(0,.box 0 0),(5,aI),(6,aS)]) r r<|aK<|mV (v:=.box 0 0) r<|aT r (gB r)<|aT r (bD aAd r)<|aT r (aJ (v:=aI) fY r r r)<|mI r<|aT r (fL r r)<|aT r (gB r)<|aT r (bD aAd r)<|bU (v:=aI) (us:=[aI]) (cs:=bW) (σ':=[bW]) r fY r r r r r r r r<|aH (fr':=[(6,aS)]) r r ?_
   refine aK<|mS r<|sS r<|aH (fr':=[(4,aS)]) r r<|bI ?_
   obtain rfl:=sy h10
   exact bH (rs':=[.tmp 4]) r<|bP (v:=aS) r<|bG<|aQ [] r r r lr (eW ⟨r,r,r,r,trivial⟩ aF)
noncomputable def fE (p1e:Int) (bV:aD):Option aD :=
 (jU bV).bind fun x1=>cond (!x1) (some (aD.mk bV.b_ bV.at_ p1e bV.made_)) (some bV)
theorem lI {p1e:Int}{bV:aD}{res:aD} (h:fE p1e bV=some res):cC Tryz.prog 74 [.box 0 0,ci p1e] [AV.cs (cL bV)] (.any) [AV.cs (cL res)]:=by
 unfold fE at h
 refine cY (fn:=Tryz.f74) [0,1,6] (by kernel_rfl) Tryz.func74 r (by kernel_rfl) (by kernel_rfl)<|aK<|mV (v:=.box 0 0) r ?_
 obtain ⟨x1,hx1,h2⟩:=aG h
 refine dM (v:=aB) (σ':=[bW]) [0] r (qW hx1) r r ⟨lr,trivial⟩ (eW ⟨r,r,r,r,trivial⟩ aF) r r r<|aT r (fH r)<|aH (fr':=[(0,.box 0 0),(1,aI),(6,aB)]) r r<|cV h2 r (fun hb3 h3=>?_) (fun hb3 h3=>?_)
 ·
  refine aX<|mV (v:=.box 0 0) r<|mI r<|aT r (gB r)<|aT r (bD aBb r)<|bU (v:=aI) (us:=[aI]) (cs:=bW) (σ':=[bW]) r aJx r r r r r r r r<|dT (fr':=[(0,.box 0 0),(1,aI),(6,aB)]) r ?_
  obtain rfl:=sy h3
  exact aO3 (rs':=[]) r<|bG<|aQ [] r r r (AV.le_any _) (eW ⟨r,r,r,r,trivial⟩ aF)
 ·
  refine bJ ?_
  obtain rfl:=sy h3
  exact aO3 (rs':=[]) r<|bG<|aQ [] r r r (AV.le_any _) (eW ⟨r,r,r,r,trivial⟩ aF)
noncomputable def fD (xK:Bool) (cN:Int) (gY:aD):Option (Bool × aD) :=
 (((dS gY).bind fun x4=>cond (cond (decide (x4=(0:Int))) (!xK) false) ((fE (3:Int) gY).bind fun x7=>some x7) (some gY)):Option aD).bind fun x1=>((dS x1).bind fun x10=>some ((decide (x10=(0:Int))),x1))
theorem jT {xK:Bool}{cN:Int}{gY:aD}{res:(Bool × aD)} (h:fD xK cN gY=some res):cC Tryz.prog 183 [.box 0 0,.c (.bool xK)] [[.box 1 0,ci cN],AV.cs (cL gY)] (.c (.bool res.1)) [[.box 1 0,ci cN],AV.cs (cL res.2)]:=by
 unfold fD at h
 refine cY (fn:=Tryz.f183) [0,1,4,14] (by kernel_rfl) Tryz.func183 r (by kernel_rfl) (by kernel_rfl)<|aK<|sB r<|aH (fr':=[(0,.box 0 0),(1,aB)]) r r ?_
 obtain ⟨x1,hx1,h2⟩:=aG h
 refine nB (fun j3=>x1=j3) (fun (j3:aD)=>([(0,.box 0 0)]:Fr)) (fun (j3:aD)=>([[.box 1 0,ci cN],[.c (PV.ls 1 gA j3.b_),ci j3.at_,ci j3.err_,.c (.bool j3.made_)]]:St)) ?_ ?_
 ·
  refine aK<|mV (v:=.box 0 0) r<|aT r (gB r)<|aT r (bD tO r)<|aT r (aJ (v:=.box 1 0) aGJ r r r) ?_
  obtain ⟨x4,hx4,h5⟩:=aG hx1
  refine dM (v:=aI) (σ':=[[.box 1 0,aI],bW]) [1] r (eV hx4) r r ⟨lr,trivial⟩ (eW ⟨r,r,r,r,trivial⟩ aF) r r r<|aT r (dG r r)<|mB r<|og r r r (fun hc=>(bA (v:=aB) r))<|og r r r (fun hc=>(fH (gx r hc)))<|aT r (cE r r r (fun e=>fW e))<|aH (fr':=[(0,.box 0 0),(14,aB)]) r r<|cV h5 r (fun hb6 h6=>?_) (fun hb6 h6=>?_)
  ·
   refine aX<|mV (v:=.box 0 0) r<|aT r (gB r)<|aT r (bD tO r)<|aT r (aJ (v:=.box 1 0) aGJ r r r) ?_
   obtain ⟨x7,hx7,h8⟩:=aG h6
   exact dM (v:=_) (σ':=[[.box 1 0,aI],bW]) [1] r (lI hx7) r r ⟨lr,lr,trivial⟩ (eW ⟨r,r,r,r,trivial⟩ aF) r r r<|dT (fr':=[(0,.box 0 0),(14,aB)]) r<|pG _ (sy h8) (bT [] 2 r r r r ⟨lr,trivial⟩ (cZ r (cZ r aF)))
  ·
   exact bJ<|pG _ (sy h6) (bT [] 2 r r r r ⟨lr,trivial⟩ (cZ r (cZ r aF)))
 ·
  intro j3 hj9
  subst hj9
  refine aK<|mV (v:=.box 0 0) r<|aT r (gB r)<|aT r (bD tO r)<|aT r (aJ (v:=.box 1 0) aGJ r r r) ?_
  obtain ⟨x10,hx10,h11⟩:=aG h2
  refine dM (v:=aI) (σ':=[[.box 1 0,aI],bW]) [1] r (eV hx10) r r ⟨lr,trivial⟩ (eW ⟨r,r,r,r,trivial⟩ aF) r r r<|aT r (dG r r)<|sB r<|aH (fr':=[(4,aB)]) r r<|bI ?_
  obtain rfl:=sy h11
  exact bH (rs':=[.tmp 4]) r<|bP (v:=aB) r<|bG<|aQ [] r r r lr (cZ r (eW ⟨r,r,r,r,trivial⟩ aF))
end Go.Proofs.YtnigjppddilpcaaGreatDoor
