import Derived.Test.YtnigjppddilpcaaGreatDoorGETy
import Derived.Test.YtnigjppddilpcaaGreatDoorGEF7
import Derived.Test.YtnigjppddilpcaaGreatDoorGEF8
import Derived.Test.YtnigjppddilpcaaGreatDoorGEF9
import Derived.Test.YtnigjppddilpcaaGreatDoorGEF13
import Derived.Test.YtnigjppddilpcaaGreatDoorGEF14
import Derived.Test.YtnigjppddilpcaaGreatDoorGEF15
namespace Go.Proofs.YtnigjppddilpcaaGreatDoor
open Go Abs
set_option maxRecDepth 100000
set_option linter.unusedVariables false
set_option linter.unusedSimpArgs false
noncomputable def xO (p0C:aY):Option Bool :=
 (mW p0C.Kind (1:Int) (17:Int)).bind fun x1=>(gd ((!x1)==false) (mW p0C.Time (0:Int) (1099511627776:Int))).bind fun x3=>(gd ((cond (!x1) true (!x3))==false) (aCe p0C)).bind fun x5=>(gd ((cond (!x1) true (!x3))==false) (mJ x5 (aY.mk p0C.Kind (0:Int) ([]:List UInt8) ([]:List UInt8) ([]:List UInt8) ([]:List UInt8) (0:Int) (0:Int) (0:Int) (0:Int) (aC.mk (0:Int) (0:Int) ([]:List UInt8) ([]:(List aC)) ([]:(List (List UInt8)))) (bL.mk ([]:List UInt8) (0:Int) (0:Int) (0:Int) (0:Int) (0:Int) (0:Int) (0:Int) (0:Int) ([]:(List (List UInt8)))) ([]:(List aP)) ([]:List UInt8)))).bind fun x7=>(gd ((cond (cond (!x1) true (!x3)) true (!x7))==false) (xM p0C.Data)).bind fun x9=>(gd ((cond (cond (cond (!x1) true (!x3)) true (!x7)) true (!x9))==false) (aBw p0C.Run)).bind fun x11=>cond (cond (cond (cond (cond (!x1) true (!x3)) true (!x7)) true (!x9)) true (!x11)) (some false) (cond (decide (p0C.Kind=(14:Int))) (some true) ((qZ p0C.ID).bind fun x17=>(qY p0C.Name).bind fun x19=>(mW p0C.Seq (1:Int) (2000:Int)).bind fun x21=>(qZ p0C.Workflow).bind fun x23=>cond (!x23) (some false) (cond (decide (p0C.Kind=(1:Int))) ((aA0 p0C.Parent).bind fun x28=>(gd ((cond x17 x19 false)==true) (mW p0C.N (0:Int) (2:Int))).bind fun x30=>(gd ((cond (cond (cond x17 x19 false) x30 false) (cond (decide (p0C.Parent=([]:List UInt8))) true (cond x28.2.2 (decide (((p0C.Parent).length:Int)≤(4096:Int))) false)) false)==true) (mW p0C.Seq (0:Int) (2000:Int))).bind fun x32=>some (cond (cond (cond (cond x17 x19 false) x30 false) (cond (decide (p0C.Parent=([]:List UInt8))) true (cond x28.2.2 (decide (((p0C.Parent).length:Int)≤(4096:Int))) false)) false) x32 false)) (((cond (decide (p0C.Kind=(2:Int))) (some (decide (p0C.Kind=(2:Int)))) (some (decide (p0C.Kind=(5:Int))))):Option Bool).bind fun x35=>(cond x35 (some (cond x17 x19 false)) (cond (decide (p0C.Kind=(3:Int))) (some x17) (cond (decide (p0C.Kind=(4:Int))) (some (decide (((p0C.Name).length:Int)≤(64:Int)))) (cond (decide (p0C.Kind=(6:Int))) ((mW p0C.Event (1:Int) (2000:Int)).bind fun x47=>some x47) (cond (decide (p0C.Kind=(7:Int))) ((gd ((decide ((1:Int)≤p0C.Token))==true) (pW p0C.Commands)).bind fun x51=>some (cond (decide ((1:Int)≤p0C.Token)) x51 false)) (cond (decide (p0C.Kind=(8:Int))) ((gd ((decide ((1:Int)≤p0C.Token))==true) (mW p0C.N (1:Int) (30:Int))).bind fun x55=>some (cond (decide ((1:Int)≤p0C.Token)) x55 false)) (cond (decide (p0C.Kind=(9:Int))) ((gd (x21==true) (mW p0C.N (1:Int) (1000:Int))).bind fun x59=>some (cond x21 x59 false)) (((cond (decide (p0C.Kind=(10:Int))) (some (decide (p0C.Kind=(10:Int)))) (cond (decide (p0C.Kind=(12:Int))) (some (decide (p0C.Kind=(12:Int)))) (some (decide (p0C.Kind=(13:Int)))))):Option Bool).bind fun x62=>(cond x62 (some (cond (decide ((1:Int)≤p0C.Token)) x21 false)) (cond (decide (p0C.Kind=(11:Int))) ((gd ((cond (decide ((1:Int)≤p0C.Token)) x21 false)==true) (qZ p0C.Name)).bind fun x71=>some (cond (cond (decide ((1:Int)≤p0C.Token)) x21 false) x71 false)) (cond (decide (p0C.Kind=(15:Int))) ((gd (x21==true) (mW p0C.N (20:Int) (22:Int))).bind fun x75=>(gd ((cond (cond x21 x75 false) (decide (((p0C.Name).length:Int)≤(4096:Int))) false)==true) (aBw p0C.ID)).bind fun x77=>some (cond (cond (cond x21 x75 false) (decide (((p0C.Name).length:Int)≤(4096:Int))) false) x77 false)) (cond (decide (p0C.Kind=(16:Int))) ((gd (x21==true) (mW p0C.N (24:Int) (25:Int))).bind fun x81=>some (cond (cond x21 x81 false) (decide (((p0C.Name).length:Int)≤(4096:Int))) false)) (some (decide ((1:Int)≤p0C.N)))))))))))))))))))
noncomputable def zW (p0b:(List UInt8)) (p1c:aP):Option (List UInt8) :=
 (app 1 ([]:List UInt8) p0b).bind fun x1=>(uB p1c).bind fun x3=>cond (!x3) (some x1) ((gI x1 p1c.Kind).bind fun x7=>(gI x7 p1c.Seq).bind fun x9=>(iM x9 p1c.Name).bind fun x11=>(iM x11 p1c.Key).bind fun x13=>(gI x13 p1c.N).bind fun x15=>(vH x15 p1c.Data).bind fun x17=>(qS x17 p1c.Opts).bind fun x19=>some x19)
noncomputable def uS (p0q:aY) (s12:((List UInt8) × Int)):Option (bS ((List UInt8) × Int) (List UInt8)) :=
 cond (decide (s12.2<((([p0q.Workflow,p0q.Run,p0q.ID,p0q.Name]:List (List UInt8))).length:Int))) ((jV ([p0q.Workflow,p0q.Run,p0q.ID,p0q.Name]:List (List UInt8)) s12.2).bind fun x14=>(iM s12.1 x14).bind fun x16=>some (bS.next (x16,(IntKind.wrap .i64 (s12.2+(1:Int)))))) (some (bS.out s12.1))
noncomputable def uT (p0q:aY) (s23:((List UInt8) × Int)):Option (bS ((List UInt8) × Int) (List UInt8)) :=
 cond (decide (s23.2<((([p0q.Token,p0q.Event,p0q.Seq,p0q.N]:List Int)).length:Int))) ((jV ([p0q.Token,p0q.Event,p0q.Seq,p0q.N]:List Int) s23.2).bind fun x25=>(gI s23.1 x25).bind fun x27=>some (bS.next (x27,(IntKind.wrap .i64 (s23.2+(1:Int)))))) (some (bS.out s23.1))
noncomputable def uU (p0q:aY) (s38:((List UInt8) × Int)):Option (bS ((List UInt8) × Int) (List UInt8)) :=
 cond (decide (s38.2<((p0q.Commands).length:Int))) ((jV p0q.Commands s38.2).bind fun x40=>(zW s38.1 x40).bind fun x42=>some (bS.next (x42,(IntKind.wrap .i64 (s38.2+(1:Int)))))) (some (bS.out s38.1))
noncomputable def zX (p0q:aY):Option ((List UInt8) × Int) :=
 (xO p0q).bind fun x1=>cond (!x1) (some (([]:(List UInt8)),(3:Int))) ((gI ([]:List UInt8) p0q.Kind).bind fun x5=>(gI x5 p0q.Time).bind fun x7=>((dL (uS p0q) ((x7,(0:Int)))):Option (List UInt8)).bind fun x9=>(((dL (uT p0q) ((x9,(0:Int)))):Option (List UInt8)).bind fun x20=>((vH x20 p0q.Data).bind fun x31=>(gI x31 ((p0q.Commands).length:Int)).bind fun x33=>((dL (uU p0q) ((x33,(0:Int)))):Option (List UInt8)).bind fun x35=>((iM x35 p0q.Parent).bind fun x46=>cond (decide ((65536:Int)<((x46).length:Int))) (some (([]:(List UInt8)),(6:Int))) (some (x46,(0:Int)))))))
noncomputable def iY (p0q:aY) (aFE:Int):Option Bool :=
 cond (decide ((300:Int)<((p0q.Commands).length:Int))) ((nD).bind fun x2=>some x2) ((kG p0q).bind fun x5=>cond (!decide (x5.2=(0:Int))) ((nD).bind fun x8=>some x8) ((hF x5.1).bind fun x11=>(gd ((!decide (x11.2=(0:Int)))==false) (mJ x11.1 p0q)).bind fun x13=>cond (cond (!decide (x11.2=(0:Int))) true (!x13)) (some false) (cond (cond (decide (aFE<(0:Int))) true (decide (((x5.1).length:Int)≤aFE))) ((nD).bind fun x18=>some x18) ((aKF x5.1 aFE).bind fun x21=>(hF (List.take (Int.toNat aFE) x5.1)).bind fun x23=>(gd ((!decide (x23.2=(0:Int)))==true) (nD)).bind fun x25=>some (cond (!decide (x23.2=(0:Int))) x25 false)))))
theorem yD {p0q:aY}{aFE:Int}{res:Bool} (h:iY p0q aFE=some res):cC Tryz.prog 10 [.agg (AV.cs (fX p0q)),ci aFE] [] (.c (.bool res)) []:=by
 unfold iY at h
 refine cY (fn:=Tryz.f10) [0,1,2,4,5,6,7,8,10,14,22,36,44] (by kernel_rfl) Tryz.func10 r (by kernel_rfl) (by kernel_rfl)<|aK<|iH (v:=.agg aE) (n:=0) (cs:=aE) (σ':=[aE]) r r r r r<|sB r<|aH (fr':=[(1,aI),(2,.box 0 0)]) r r<|aU<|aK<|aT r (bD vL r)<|aT r (aJ (v:=aL) aH4 r r r)<|aT r (gN aGI (eO r))<|aT r (sJ r r) ?_
 refine aH (fr':=[(1,aI),(2,.box 0 0),(14,aB)]) r r<|cV h r (fun hb1 h1=>?_) (fun hb1 h1=>?_)
 ·
  refine aU<|aX ?_
  obtain ⟨x2,hx2,h3⟩:=aG h1
  refine lM (bC (v:=aB) r (tR hx2) trivial r r r)<|sB r<|aH (fr':=[(4,aB)]) r r<|bI<|aN ?_
  obtain rfl:=sy h3
  exact bH (rs':=[.tmp 4]) r<|bP (v:=aB) r<|bG<|aQ [] r r r lr aF
 ·
  refine bJ<|cM<|aK<|aT r (dJ (us:=aE) xB r r r r) ?_
  obtain ⟨x5,hx5,h6⟩:=aG h1
  refine lM (bC (v:=.tup [aO,aI]) r (tF hx5) ⟨(bO r ⟨r,r,r,r,r,r,r,r,r,r,r,r,r,r,r,r,r,r,r,r,r,r,r,r,r,r,r,trivial⟩),trivial⟩ r r r)<|mV (v:=.tup [aO,aI]) r<|aT r (wH (v:=aO) r r)<|aT r (wH (v:=aI) r r)<|sV (v:=aO) r<|sI r<|aH (fr':=[(1,aI),(2,.box 0 0),(5,aO),(6,aI)]) r r<|aU<|aK<|mI r<|aT r (gQ r r)<|aH (fr':=[(1,aI),(2,.box 0 0),(5,aO),(22,aB)]) r r ?_
  refine cV h6 r (fun hb7 h7=>?_) (fun hb7 h7=>?_)
  ·
   refine aU<|aX ?_
   obtain ⟨x8,hx8,h9⟩:=aG h7
   refine lM (bC (v:=aB) r (tR hx8) trivial r r r)<|sB r<|aH (fr':=[(4,aB)]) r r<|bI<|aN ?_
   obtain rfl:=sy h9
   exact bH (rs':=[.tmp 4]) r<|bP (v:=aB) r<|bG<|aQ [] r r r lr aF
  ·
   refine bJ<|cM<|aK<|mV (v:=aO) r ?_
   obtain ⟨x11,hx11,h12⟩:=aG h7
   refine lM (bC (v:=.tup [.agg aE,aI]) r (tE hx11) ⟨lr,trivial⟩ r r r)<|mV (v:=.tup [.agg aE,aI]) r<|aT r (wH (v:=.agg aE) r r)<|aT r (wH (v:=aI) r r)<|iG (n:=1) (cs:=aA) (σ':=[aE,aA]) aKJ r r r<|bU (v:=.agg aE) (us:=aE) (cs:=aA) (σ':=[aE,aE]) r xB r r r r r r r r<|sI r<|aH (fr':=[(1,aI),(2,.box 0 0),(5,aO),(7,.box 1 0),(8,aI)]) r r<|aU<|aK<|mI r<|aT r (gQ r r) ?_
   refine mB r<|og r r r (fun hc=>(dJ (us:=aE) xB r r r r))<|og r r r (fun hc=>(dJ (us:=aE) xB r r r r)) ?_
   obtain ⟨x13,hx13,h14⟩:=aG h12
   refine yS r r (fun hc=>bC (v:=aB) r (aC5 (dW hx13 hc)) ⟨(fK (gx r hc) (bO r ⟨r,r,r,r,r,r,r,r,r,r,r,r,r,r,r,r,r,r,r,r,r,r,r,r,r,r,r,trivial⟩)),(fK (gx r hc) (bO r ⟨r,r,r,r,r,r,r,r,r,r,r,r,r,r,r,r,r,r,r,r,r,r,r,r,r,r,r,trivial⟩)),trivial⟩ (gJ (by repeat (first | exact fF | refine aZ r ?_ | refine aZ (uH r) ?_ | refine aZ uG ?_))) r r) ?_
   refine og r r r (fun hc=>(fH (gx r hc)))<|aT r (cB r r r (fun e=>fW e))<|aH (fr':=[(1,aI),(5,aO),(36,aB)]) r r<|cV h14 r (fun hb15 h15=>?_) (fun hb15 h15=>?_)
   ·
    refine aK<|sB r<|aH (fr':=[(4,aB)]) r r<|bI<|aN ?_
    obtain rfl:=sy h15
    exact bH (rs':=[.tmp 4]) r<|bP (v:=aB) r<|bG<|aQ [] r r r lr aF
   ·
    refine bJ<|cM<|aU<|aK<|mI r<|aT r (fM r r)<|mB r<|og r r r (fun hc=>(bA (v:=aI) r))<|og r r r (fun hc=>(bA (v:=aO) r))<|og r r r (fun hc=>(gN aGH (tW (gx r hc))))<|og r r r (fun hc=>(rP (gx r hc) (gx r hc)))<|aT r (cB r r r (fun e=>fW e)) ?_
    refine aH (fr':=[(1,aI),(5,aO),(44,aB)]) r r<|cV h15 r (fun hb17 h17=>?_) (fun hb17 h17=>?_)
    ·
     refine aU<|aX ?_
     obtain ⟨x18,hx18,h19⟩:=aG h17
     refine lM (bC (v:=aB) r (tR hx18) trivial r r r)<|sB r<|aH (fr':=[(4,aB)]) r r<|bI<|aN ?_
     obtain rfl:=sy h19
     exact bH (rs':=[.tmp 4]) r<|bP (v:=aB) r<|bG<|aQ [] r r r lr aF
    ·
     refine bJ<|cM<|aK<|mV (v:=aO) r<|mI r ?_
     obtain ⟨x21,hx21,h22⟩:=aG h17
     refine aT r (aPO aP3 aGc (tW r) r (aHl hx21).1) ?_
     obtain ⟨x23,hx23,h24⟩:=aG h22
     refine lM (bC (v:=.tup [.agg aE,aI]) r (tE hx23) ⟨lr,trivial⟩ r r r)<|mV (v:=.tup [.agg aE,aI]) r<|aT r (wH (v:=.agg aE) r r)<|aT r (wH (v:=aI) r r)<|iG (n:=2) (cs:=aA) (σ':=[aE,aE,aA]) aKJ r r r<|bU (v:=.agg aE) (us:=aE) (cs:=aA) (σ':=[aE,aE,aE]) r xB r r r r r r r r<|sI r<|aH (fr':=[(10,aI)]) r r<|aK<|mI r<|aT r (gQ r r)<|mB r ?_
     obtain ⟨x25,hx25,h26⟩:=aG h24
     refine yS r r (fun hc=>bC (v:=aB) r (tR (dW hx25 hc)) trivial r r r)<|aT r (cE r r r (fun e=>fW e))<|sB r<|aH (fr':=[(4,aB)]) r r<|bI ?_
     obtain rfl:=sy h26
     exact bH (rs':=[.tmp 4]) r<|bP (v:=aB) r<|bG<|aQ [] r r r lr aF
end Go.Proofs.YtnigjppddilpcaaGreatDoor
