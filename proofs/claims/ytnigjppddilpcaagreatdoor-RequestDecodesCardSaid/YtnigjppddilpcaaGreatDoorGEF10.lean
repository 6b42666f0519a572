import Derived.Test.YtnigjppddilpcaaGreatDoorGETy
import Derived.Test.YtnigjppddilpcaaGreatDoorGEF0
import Derived.Test.YtnigjppddilpcaaGreatDoorGEF4
import Derived.Test.YtnigjppddilpcaaGreatDoorGEF6
import Derived.Test.YtnigjppddilpcaaGreatDoorGEF7
import Derived.Test.YtnigjppddilpcaaGreatDoorGEF8
import Derived.Test.YtnigjppddilpcaaGreatDoorGEF9
namespace Go.Proofs.YtnigjppddilpcaaGreatDoor
open Go Abs
set_option maxRecDepth 100000
set_option linter.unusedVariables false
set_option linter.unusedSimpArgs false
noncomputable def zU (p0e:dH):Option bY :=
 (wT p0e.Kind).bind fun x1=>some (bY.mk x1 p0e.Seq p0e.Name p0e.Key p0e.N p0e.Data p0e.Opts)
theorem aGX {p0e:dH}{z:bY} (h:zU p0e=some z):cQ Tryz.prog 85 [.agg (AV.cs (gT p0e))] [] (.agg (AV.cs (dK z))) []:=by
 unfold zU at h
 refine dF (fn:=Tryz.f85) [0,1,2] (by kernel_rfl) Tryz.func85 r (by kernel_rfl) (by kernel_rfl)<|aH<|jK (v:=.agg bA) (n:=0) (cs:=bA) (σ':=[bA]) r r r r r<|hO (n:=1) (cs:=aM) (σ':=[bA,aM]) aGQ r r r<|aG (fr':=[(1,aE),(2,aU)]) r r<|aZ<|kV [.q 0,.q 1,.q 2,.q 3,.q 4,.q 5,.q 6,.q 7,.q 8,.q 9,.q 10,.q 11,.q 12,.q 13,.q 14,.q 15,.n 16 []] [(some 3,[1]),(some 4,[3]),(some 5,[4]),(some 6,[1]),(some 7,[6]),(some 8,[1]),(some 9,[8]),(some 10,[1]),(some 11,[10]),(some 12,[1]),(some 13,[12]),(some 14,[1]),(some 15,[14]),(some 16,[1]),(some 17,[16]),(some 18,[5,7,9,11,13,15,17]),(none,[2,18])] [0,1,3,0,8,0,32,0,128,0,512,0,2048,0,8192,32767,65535] (by kernel_rfl)<|dq r r (bD aBU r)<|dq r r (aK (v:=aI) fM r r r)<|bx h fun x1 y1 h2=>d_q r (xF (v:=aI) r (aEj y1) ⟨lr,trivial⟩ r)<|dq r r (bD aDV r)<|dq r r (aK (v:=aI) fM r r r)<|dq r r (bD yZ r)<|dq r r (aK (v:=aS) lP r r r)<|dq r r (bD zB r)<|dq r r (aK (v:=aS) lP r r r)<|dq r r (bD aBh r)<|dq r r (aK (v:=aI) fM r r r)<|dq r r (bD aBV r)<|dq r r (dL (us:=cE) iO r r r r)<|dq r r (bD aC1 r)<|dq r r (dL (us:=dO) yT r r r r)<|dq r r (iD (c0:=aM) (cs:=aW) aKP r (eC (v:=aI) (us:=[_]) (cs':=u20) r r r r r r (eC (v:=aI) (us:=[_]) (cs':=u20) r r r r r r (eC (v:=aS) (us:=[_]) (cs':=u20) r r r r r r (eC (v:=aS) (us:=[_]) (cs':=u20) r r r r r r (eC (v:=aI) (us:=[_]) (cs':=u20) r r r r r r (eC (v:=.agg cE) (us:=u5) (cs':=u20) r r r r r r (eC (v:=.agg dO) (us:=u10) (cs':=u20) r r r r r r iC))))))))<|d_n r ?_ r
 refine bM (v:=.agg aW) (us:=aW) (cs:=aM) (σ':=[bA,aW]) r rB r r r r r r r r<|uK<|⟨lJ,?_⟩
 refine aAq (fr':=[(2,aU)]) r r<|bK ?_
 obtain rfl:=sy h2
 exact bJ (rs':=[.cell 2 103]) r<|dY (us:=aW) (cs:=aW) rB r r r r<|bI<|aN [] r r r (bQ r aDF) aD
noncomputable def aEO (p0s:(List UInt8)) (s4:Int):Option (dU Int (Fl Bool Unit)) :=
 cond (decide (s4<((p0s).length:Int))) ((nG p0s s4).bind fun x6=>(gd ((decide (((x6).toNat:Int)<33))==false) (nG p0s s4)).bind fun x8=>(gd ((cond (decide (((x6).toNat:Int)<33)) true (decide (126<((x8).toNat:Int))))==false) (nG p0s s4)).bind fun x10=>(gd ((cond (cond (decide (((x6).toNat:Int)<33)) true (decide (126<((x8).toNat:Int)))) true (decide (((x10).toNat:Int)=47)))==false) (nG p0s s4)).bind fun x12=>cond (cond (cond (cond (decide (((x6).toNat:Int)<33)) true (decide (126<((x8).toNat:Int)))) true (decide (((x10).toNat:Int)=47))) true (decide (((x12).toNat:Int)=34))) (some (dU.out (Fl.done false))) (some (dU.next (IntKind.wrap .i64 (s4+1))))) (some (dU.out (Fl.go ())))
noncomputable def xV (p0s:(List UInt8)):Option Bool :=
 (fK (aEO p0s) (0)).bind fun x1=>Fl.next x1 (fun j3=>(some (cond (decide (1≤((p0s).length:Int))) (decide (((p0s).length:Int)≤64)) false)))
theorem aDf {p0s:(List UInt8)}{z:Bool} (h:xV p0s=some z):cQ Tryz.prog 87 [.c (.str p0s)] [] (.c (.bool z)) []:=by
 unfold xV at h
 refine dF (fn:=Tryz.f87) [0,2,3,7,31] (by kernel_rfl) Tryz.func87 r (by kernel_rfl) (by kernel_rfl)<|aH<|sB r<|aG (fr':=[(0,aS)]) r r<|aZ<|aH<|sI r<|aG (fr':=[(0,aS),(3,aI)]) r r<|bx h fun x1 y1 h2=>gZ lB (fun j3=>x1=Fl.go j3) (fun (j3:Unit)=>([(0,.c (.str p0s))]:Fr)) (fun (j3:Unit)=>([]:St)) ?_ ?_
 ·
  refine cH<|gV _ (fun (s4:Int)=>([(0,.c (.str p0s)),(3,ci s4)]:Fr)) (fun (s4:Int)=>([]:St)) y1 (bC [] 0 r r r r jN aD) ?_
  intro s4 st4 hs4 ho4
  unfold aEO at hs4
  refine aZ<|aH<|mI r<|mS r<|aR r (kT uU r)<|aR r (gI r r)<|aG (fr':=[(0,aS),(3,aI),(7,aB)]) r r<|cG hs4 r (fun b5 h5=>?_) (fun b5 h5=>?_)
  ·
   refine bF<|cZ<|aZ<|cH<|aH<|mS r<|mI r<|bx h5 fun x6 y6 h7=>aR r (aAx uU r r y6)<|aR r (gI r r)<|mB r<|og r r r (fun u=>(bN (v:=aS) r))<|og r r r (fun u=>(bN (v:=aI) r))<|bx h7 fun x8 y8 h9=>og r r r (fun u=>(aAx uU (gx r u) (gx r u) (cU y8 u)))<|og r r r (fun u=>(qW (gx r u) r))<|aR r (cN r r r (fun e=>fJ e))<|mB r<|og r r r (fun u=>(bN (v:=aS) r))<|og r r r (fun u=>(bN (v:=aI) r))<|bx h9 fun x10 y10 h11=>og r r r (fun u=>(aAx uU (gx r u) (gx r u) (cU y10 u)))<|og r r r (fun u=>(bU (gx r u) r))<|aR r (cN r r r (fun e=>fJ e))<|mB r<|og r r r (fun u=>(bN (v:=aS) r))<|og r r r (fun u=>(bN (v:=aI) r))<|bx h11 fun x12 y12 h13=>og r r r (fun u=>(aAx uU (gx r u) (gx r u) (cU y12 u)))<|og r r r (fun u=>(bU (gx r u) r))<|aR r (cN r r r (fun e=>fJ e))<|aG (fr':=[(0,aS),(3,aI),(31,aB)]) r r<|cG h13 r (fun b14 h14=>?_) (fun b14 h14=>?_)
   ·
    refine aH<|sB r<|aG (fr':=[(2,aB)]) r r<|bK<|bO<|aP<|aP<|bO<|aP<|aP ?_
    have h15:=eR h14 ho4
    have h16:=fL h15 h2
    obtain rfl:=sy h16
    exact bJ (rs':=[.tmp 2]) r<|bS (v:=aB) r<|bI<|aN [] r r r lr aD
   ·
    exact bF<|cW<|cZ<|bB<|mI r<|aR r (gC r r)<|sI r<|dM (fr':=[(0,aS),(3,aI),(31,aB)]) r<|zO _ (sy h14) (bC [] 0 r r r r jN aD)
  ·
   refine hG<|cY<|cY<|fP ?_
   have h18:=eR h5 ho4
   exact iQ _ (sy h18) (bC [] 0 r r r r ⟨lr,trivial⟩ aD)
 ·
  intro j3 hj19
  have h19:=lV hj19 h2
  refine cZ<|aH<|mS r<|aR r (kT uU r)<|aR r (oI r r)<|mB r<|og r r r (fun u=>(bN (v:=aS) r))<|og r r r (fun u=>(kT uU (gx r u)))<|og r r r (fun u=>(nM (gx r u) r))<|aR r (bV r r r (fun e=>fJ e))<|sB r<|aG (fr':=[(2,aB)]) r r<|bK ?_
  obtain rfl:=sy h19
  exact bJ (rs':=[.tmp 2]) r<|bS (v:=aB) r<|bI<|aN [] r r r lr aD
noncomputable def xW (x7:aQ) (s12:Int):Option (dU Int (Fl Bool Unit)) :=
 cond (decide (s12<((x7.Items).length:Int))) ((nG x7.Items s12).bind fun x14=>(gd ((!decide (x14.Kind=4))==false) (nG x7.Items s12)).bind fun x16=>(gd ((cond (!decide (x14.Kind=4)) true (!decide (((x16.Items).length:Int)=2)))==false) (nG x7.Items s12)).bind fun x18=>(gd ((cond (!decide (x14.Kind=4)) true (!decide (((x16.Items).length:Int)=2)))==false) (nG x18.Items 0)).bind fun x20=>(gd ((cond (cond (!decide (x14.Kind=4)) true (!decide (((x16.Items).length:Int)=2))) true (!decide (x20.Kind=3)))==false) (nG x7.Items s12)).bind fun x22=>(gd ((cond (cond (!decide (x14.Kind=4)) true (!decide (((x16.Items).length:Int)=2))) true (!decide (x20.Kind=3)))==false) (nG x22.Items 0)).bind fun x24=>(gd ((cond (cond (!decide (x14.Kind=4)) true (!decide (((x16.Items).length:Int)=2))) true (!decide (x20.Kind=3)))==false) (qY x24.Text)).bind fun x26=>cond (cond (cond (cond (!decide (x14.Kind=4)) true (!decide (((x16.Items).length:Int)=2))) true (!decide (x20.Kind=3))) true (!x26)) (some (dU.out (Fl.done false))) (some (dU.next (IntKind.wrap .i64 (s12+1))))) (some (dU.out (Fl.go ())))
noncomputable def aBH (p0v:aQ):Option Bool :=
 (tX p0v).bind fun x1=>(gd ((cond (cond (!x1) true (!decide (p0v.Kind=4))) true (!decide (((p0v.Items).length:Int)=2)))==false) (nG p0v.Items 1)).bind fun x3=>cond (cond (cond (cond (!x1) true (!decide (p0v.Kind=4))) true (!decide (((p0v.Items).length:Int)=2))) true (!decide (x3.Kind=4))) (some false) ((nG p0v.Items 1).bind fun x7=>(fK (xW x7) (0)).bind fun x9=>Fl.next x9 (fun j11=>(some true)))
theorem aKk {p0v:aQ}{z:Bool} (h:aBH p0v=some z):cQ Tryz.prog 88 [.agg (AV.cs (fA p0v))] [] (.c (.bool z)) []:=by
 unfold aBH at h
 refine dF (fn:=Tryz.f88) [0,1,2,3,4,26,35,75] (by kernel_rfl) Tryz.func88 r (by kernel_rfl) (by kernel_rfl)<|aH<|jK (v:=.agg cE) (n:=0) (cs:=cE) (σ':=[cE]) r r r r r<|sB r<|aG (fr':=[(1,aE)]) r r<|aZ<|aH<|aR r (dL (us:=cE) iO r r r r)<|bx h fun x1 y1 h2=>lS (bL (v:=aB) r (zN y1) ⟨(bQ r kR5),trivial⟩ r r r)<|aR r (fE r)<|mB r<|og r r r (fun u=>(bD mE r))<|og r r r (fun u=>(aK (v:=aI) fM (gx r u) r r))<|og r r r (fun u=>(iS (gx r u) r))<|aR r (cN r r r (fun e=>fJ e))<|mB r<|og r r r (fun u=>(bD iJ r))<|og r r r (fun u=>(aK (v:=aL) nS (gx r u) r r))<|og r r r (fun u=>(hZ vX (eK (gx r u))))<|og r r r (fun u=>(iS (gx r u) r))<|aR r (cN r r r (fun e=>fJ e))<|mB r<|og r r r (fun u=>(bD iJ r))<|og r r r (fun u=>(aK (v:=aL) nS (gx r u) r r))<|bx h2 fun x3 y3 h4=>og r r r (fun u=>(lF (cs:=[PV.int _ _,PV.int _ _,PV.str _,PV.ls _ _ _,PV.ls _ _ _]) uV (eK (gx r u)) r (cU y3 u) (eJ _)))<|og r r r (fun u=>(zI mE (gx r u)))<|og r r r (fun u=>(gP (p:=PV.int _ _) fM (gx r u) r))<|og r r r (fun u=>(iS (gx r u) r))<|aR r (cN r r r (fun e=>fJ e))<|aG (fr':=[(1,aE),(26,aB)]) r r<|cG h4 r (fun b5 h5=>?_) (fun b5 h5=>?_)
 ·
  refine aH<|sB r<|aG (fr':=[(2,aB)]) r r<|bK<|aP ?_
  obtain rfl:=sy h5
  exact bJ (rs':=[.tmp 2]) r<|bS (v:=aB) r<|bI<|aN [] r r r lr aD
 ·
  refine bF<|cZ<|aH<|aR r (bD iJ r)<|aR r (aK (v:=aL) nS r r r)<|bx h5 fun x7 y7 h8=>aR r (lF (cs:=[PV.int _ _,PV.int _ _,PV.str _,PV.ls _ _ _,PV.ls _ _ _]) uV (eK r) r y7 (eJ _))<|aR r (zI iJ r)<|aR r (gP (p:=PV.ls _ _ _) nS r r)<|sL r<|aG (fr':=[(3,aL)]) r r<|aZ<|aH<|sI r<|aG (fr':=[(3,aL),(4,aI)]) r r<|bx h8 fun x9 y9 h10=>gZ lB (fun j11=>x9=Fl.go j11) (fun (j11:Unit)=>([]:Fr)) (fun (j11:Unit)=>([[ci p0v.Kind,ci p0v.Int,.c (.str p0v.Text),.c (PV.ls 5 bT p0v.Items),.c (PV.ls 1 fI p0v.Keys)]]:St)) ?_ ?_
  ·
   refine cH<|gV _ (fun (s12:Int)=>([(3,.c (PV.ls 5 bT x7.Items)),(4,ci s12)]:Fr)) (fun (s12:Int)=>([[ci p0v.Kind,ci p0v.Int,.c (.str p0v.Text),.c (PV.ls 5 bT p0v.Items),.c (PV.ls 1 fI p0v.Keys)]]:St)) y9 (bC [] 1 r r r r jN (bR r aD)) ?_
   intro s12 st12 hs12 ho12
   unfold xW at hs12
   refine aZ<|aH<|mI r<|mL r<|aR r (hZ vX (eK r))<|aR r (gI r r)<|aG (fr':=[(3,aL),(4,aI),(35,aB)]) r r<|cG hs12 r (fun b13 h13=>?_) (fun b13 h13=>?_)
   ·
    refine bF<|cZ<|aZ<|cH<|aH<|mL r<|mI r<|bx h13 fun x14 y14 h15=>aR r (lF (cs:=[PV.int _ _,PV.int _ _,PV.str _,PV.ls _ _ _,PV.ls _ _ _]) uV (eK r) r y14 (eJ _))<|aR r (zI mE r)<|aR r (gP (p:=PV.int _ _) fM r r)<|aR r (iS r r)<|mB r<|og r r r (fun u=>(bN (v:=aL) r))<|og r r r (fun u=>(bN (v:=aI) r))<|bx h15 fun x16 y16 h17=>og r r r (fun u=>(lF (cs:=[PV.int _ _,PV.int _ _,PV.str _,PV.ls _ _ _,PV.ls _ _ _]) uV (eK (gx r u)) (gx r u) (cU y16 u) (eJ _)))<|og r r r (fun u=>(zI iJ (gx r u)))<|og r r r (fun u=>(gP (p:=PV.ls _ _ _) nS (gx r u) r))<|og r r r (fun u=>(hZ vX (eK (gx r u))))<|og r r r (fun u=>(iS (gx r u) r))<|aR r (cN r r r (fun e=>fJ e))<|mB r<|og r r r (fun u=>(bN (v:=aL) r))<|og r r r (fun u=>(bN (v:=aI) r))<|bx h17 fun x18 y18 h19=>og r r r (fun u=>(lF (cs:=[PV.int _ _,PV.int _ _,PV.str _,PV.ls _ _ _,PV.ls _ _ _]) uV (eK (gx r u)) (gx r u) (cU y18 u) (eJ _)))<|og r r r (fun u=>(zI iJ (gx r u)))<|og r r r (fun u=>(gP (p:=PV.ls _ _ _) nS (gx r u) r))<|bx h19 fun x20 y20 h21=>og r r r (fun u=>(lF (cs:=[PV.int _ _,PV.int _ _,PV.str _,PV.ls _ _ _,PV.ls _ _ _]) uV (eK (gx r u)) r (cU y20 u) (eJ _)))<|og r r r (fun u=>(zI mE (gx r u)))<|og r r r (fun u=>(gP (p:=PV.int _ _) fM (gx r u) r))<|og r r r (fun u=>(iS (gx r u) r))<|aR r (cN r r r (fun e=>fJ e))<|mB r<|og r r r (fun u=>(bN (v:=aL) r))<|og r r r (fun u=>(bN (v:=aI) r))<|bx h21 fun x22 y22 h23=>og r r r (fun u=>(lF (cs:=[PV.int _ _,PV.int _ _,PV.str _,PV.ls _ _ _,PV.ls _ _ _]) uV (eK (gx r u)) (gx r u) (cU y22 u) (eJ _)))<|og r r r (fun u=>(zI iJ (gx r u)))<|og r r r (fun u=>(gP (p:=PV.ls _ _ _) nS (gx r u) r))<|bx h23 fun x24 y24 h25=>og r r r (fun u=>(lF (cs:=[PV.int _ _,PV.int _ _,PV.str _,PV.ls _ _ _,PV.ls _ _ _]) uV (eK (gx r u)) r (cU y24 u) (eJ _)))<|og r r r (fun u=>(zI uP (gx r u)))<|og r r r (fun u=>(gP (p:=PV.str _) lP (gx r u) r))<|bx h25 fun x26 y26 h27=>sX r r (fun u=>bL (v:=aB) r (uR (cU y26 u)) ⟨(eW (gx r u) lr),trivial⟩ (fT (by repeat (first | exact eN | refine aY r ?_ | refine aY (pP r) ?_ | refine aY pO ?_))) r r) ?_
    refine og r r r (fun u=>(fE (gx r u)))<|aR r (cN r r r (fun e=>fJ e))<|aG (fr':=[(3,aL),(4,aI),(75,aB)]) r r<|cG h27 r (fun b28 h28=>?_) (fun b28 h28=>?_)
    ·
     refine aH<|sB r<|aG (fr':=[(2,aB)]) r r<|bK<|bO<|aP<|aP<|bO<|aP<|aP ?_
     have h29:=eR h28 ho12
     have h30:=fL h29 h10
     obtain rfl:=sy h30
     exact bJ (rs':=[.tmp 2]) r<|bS (v:=aB) r<|bI<|aN [] r r r lr aD
    ·
     exact bF<|cW<|cZ<|bB<|mI r<|aR r (gC r r)<|sI r<|dM (fr':=[(3,aL),(4,aI),(75,aB)]) r<|zO _ (sy h28) (bC [] 1 r r r r jN (bR r aD))
   ·
    refine hG<|cY<|cY<|fP ?_
    have h32:=eR h13 ho12
    exact iQ _ (sy h32) (bC [] 1 r r r r trivial (bR r aD))
  ·
   intro j11 hj33
   have h33:=lV hj33 h10
   refine cZ<|aH<|sB r<|aG (fr':=[(2,aB)]) r r<|bK ?_
   obtain rfl:=sy h33
   exact bJ (rs':=[.tmp 2]) r<|bS (v:=aB) r<|bI<|aN [] r r r lr aD
noncomputable def lR:Nat→Int→Option (List UInt8)
 | 0,_=>none
 | n+1,p0n =>
  (aDD (IntKind.wrap .u8 (IntKind.wrap .i64 (48+(IntKind.wrap .i64 (0 - (Int.tmod p0n 10))))))).bind fun x1=>cond (decide ((-10)<p0n)) (some ([x1]:List UInt8)) (((lR n) (IntKind.wrap .i64 (Int.tdiv p0n 10))).bind fun x5=>(cat x5 ([x1]:List UInt8)).bind fun x7=>some (x5++([x1]:List UInt8)))
theorem aIg:∀ n:Nat,(∀ {p0n:Int}{z:(List UInt8)},lR n p0n=some z→cQ Tryz.prog 207 [ci p0n] [] (.c (.str z)) []):=by
 intro n
 induction n with
 | zero=>exact fun {p0n z} h=>absurd h (by simp [lR])
 | succ n ih =>
  have ih_ref03xdigits:=@ih
  intro p0n z h
  rw [lR] at h
  refine dF (fn:=Tryz.f207) [0,2,3,4,14] (by kernel_rfl) Tryz.func207 r (by kernel_rfl) (by kernel_rfl)<|aH<|sS r<|aG (fr':=[(0,aI)]) r r<|aH<|mI r<|aR r (aQ7 r r (by decide))<|aR r (aON r)<|sI r<|aG (fr':=[(0,aI),(3,aI)]) r r<|aZ<|bB<|mI r<|aR r (gC r r)<|aR r (aCv tk3 tk5 r)<|bx h fun x1 y1 h2=>uL (row:=iT) (xs:=([x1]:List UInt8)) (rows:=[[_]]) (σ':=[]) [0] aEq r r r (gB (aK3 y1) oB) r r<|aR r (aGx aOQ uU (oC r))<|sS r<|aG (fr':=[(0,aI),(4,aS)]) r r<|aZ<|aH<|mI r<|aR r (qW r r)<|aG (fr':=[(0,aI),(4,aS),(14,aB)]) r r<|cG h2 r (fun b3 h3=>?_) (fun b3 h3=>?_)
  ·
   refine aH<|mS r<|sS r<|aG (fr':=[(2,aS)]) r r<|bK<|aP ?_
   obtain rfl:=sy h3
   exact bJ (rs':=[.tmp 2]) r<|bS (v:=aS) r<|bI<|aN [] r r r lr aD
  ·
   refine bF<|cZ<|aH<|mI r<|aR r (aSX r r (by decide))<|bx h3 fun x5 y5 h6=>lS (bL (v:=aS) r (ih_ref03xdigits y5) ⟨lr,trivial⟩ r r r)<|mS r<|bx h6 fun x7 y7 h8=>aR r (aN3 r r (aIP y7).1)<|sS r<|aG (fr':=[(2,aS)]) r r<|bK ?_
   obtain rfl:=sy h8
   exact bJ (rs':=[.tmp 2]) r<|bS (v:=aS) r<|bI<|aN [] r r r lr aD
noncomputable def yO (p0n:Int):Option (List UInt8):=lim fun n=>lR n p0n
theorem aE1 {p0n:Int}{z:(List UInt8)} (h:yO p0n=some z):cQ Tryz.prog 207 [ci p0n] [] (.c (.str z)) []:=by
 obtain ⟨n,hn⟩:=rV h
 exact (aIg n) hn
noncomputable def aBo (p0n:Int):Option (List UInt8) :=
 cond (decide (p0n<0)) ((yO p0n).bind fun x2=>(cat ([45]:List UInt8) x2).bind fun x4=>some (([45]:List UInt8)++x2)) ((yO (IntKind.wrap .i64 (0 - p0n))).bind fun x7=>some x7)
theorem aIk {p0n:Int}{z:(List UInt8)} (h:aBo p0n=some z):cQ Tryz.prog 190 [ci p0n] [] (.c (.str z)) []:=by
 unfold aBo at h
 refine dF (fn:=Tryz.f190) [0,2,4] (by kernel_rfl) Tryz.func190 r (by kernel_rfl) (by kernel_rfl)<|aH<|sS r<|aG (fr':=[(0,aI)]) r r<|aZ<|aH<|mI r<|aR r (gI r r)<|aG (fr':=[(0,aI),(4,aB)]) r r<|cG h r (fun b1 h1=>?_) (fun b1 h1=>?_)
 ·
  refine aH<|mI r<|bx h1 fun x2 y2 h3=>lS (bL (v:=aS) r (aE1 y2) ⟨lr,trivial⟩ r r r)<|bx h3 fun x4 y4 h5=>aR r (aN3 r r (aIP y4).1)<|sS r<|aG (fr':=[(2,aS)]) r r<|bK<|aP ?_
  obtain rfl:=sy h5
  exact bJ (rs':=[.tmp 2]) r<|bS (v:=aS) r<|bI<|aN [] r r r lr aD
 ·
  refine bF<|cZ<|aH<|mI r<|aR r (aON r)<|bx h1 fun x7 y7 h8=>lS (bL (v:=aS) r (aE1 y7) ⟨lr,trivial⟩ r r r)<|sS r<|aG (fr':=[(2,aS)]) r r<|bK ?_
  obtain rfl:=sy h8
  exact bJ (rs':=[.tmp 2]) r<|bS (v:=aS) r<|bI<|aN [] r r r lr aD
noncomputable def aDq (p0n:Int):Option (List UInt8) :=
 cond (decide (p0n<1)) (some ([]:List UInt8)) ((aBo p0n).bind fun x3=>(cat ([114]:List UInt8) x3).bind fun x5=>some (([114]:List UInt8)++x3))
theorem aNc {p0n:Int}{z:(List UInt8)} (h:aDq p0n=some z):cQ Tryz.prog 159 [ci p0n] [] (.c (.str z)) []:=by
 unfold aDq at h
 refine dF (fn:=Tryz.f159) [0,2,4] (by kernel_rfl) Tryz.func159 r (by kernel_rfl) (by kernel_rfl)<|aH<|sS r<|aG (fr':=[(0,aI)]) r r<|aZ<|aH<|mI r<|aR r (gI r r)<|aG (fr':=[(0,aI),(4,aB)]) r r<|cG h r (fun b1 h1=>?_) (fun b1 h1=>?_)
 ·
  refine aH<|sS r<|aG (fr':=[(2,aS)]) r r<|bK<|aP ?_
  obtain rfl:=sy h1
  exact bJ (rs':=[.tmp 2]) r<|bS (v:=aS) r<|bI<|aN [] r r r lr aD
 ·
  refine bF<|cZ<|aH<|mI r<|bx h1 fun x3 y3 h4=>lS (bL (v:=aS) r (aIk y3) ⟨lr,trivial⟩ r r r)<|bx h4 fun x5 y5 h6=>aR r (aN3 r r (aIP y5).1)<|sS r<|aG (fr':=[(2,aS)]) r r<|bK ?_
  obtain rfl:=sy h6
  exact bJ (rs':=[.tmp 2]) r<|bS (v:=aS) r<|bI<|aN [] r r r lr aD
noncomputable def zT (aBD:(List UInt8)) (s4:(Int × Int)):Option (dU (Int × Int) Int) :=
 cond (cond (decide (s4.2<((aBD).length:Int))) (decide (((aBD).length:Int)≤20)) false) ((nG aBD s4.2).bind fun x6=>some (dU.next ((IntKind.wrap .i64 ((IntKind.wrap .i64 ((IntKind.wrap .i64 (10*s4.1))+(IntKind.wrap .i64 ((x6).toNat:Int)))) - 48)),(IntKind.wrap .i64 (s4.2+1))))) (some (dU.out s4.1))
noncomputable def yP (aBD:(List UInt8)):Option (Int × Bool) :=
 (fK (zT aBD) ((0,1))).bind fun x1=>((gd ((decide (x1<1))==false) (aDq x1)).bind fun x10=>cond (cond (decide (x1<1)) true (!decide (x10=aBD))) (some (0,false)) (some (x1,true)))
theorem aE2 {aBD:(List UInt8)}{z:(Int × Bool)} (h:yP aBD=some z):cQ Tryz.prog 89 [.c (.str aBD)] [] (.tup [ci z.1,.c (.bool z.2)]) []:=by
 unfold yP at h
 refine dF (fn:=Tryz.f89) [0,2,3,4,5,14,32] (by kernel_rfl) Tryz.func89 r (by kernel_rfl) (by kernel_rfl)<|aH<|sI r<|sB r<|aG (fr':=[(0,aS)]) r r<|aH<|sI r<|aG (fr':=[(0,aS),(4,aI)]) r r<|aZ<|aZ<|bB<|sI r<|aG (fr':=[(0,aS),(4,aI),(5,aI)]) r r<|bx h fun x1 y1 h2=>gZ lB (fun j3=>x1=j3) (fun (j3:Int)=>([(0,.c (.str aBD)),(4,ci j3)]:Fr)) (fun (j3:Int)=>([]:St)) ?_ ?_
 ·
  refine cH<|gV _ (fun (s4:(Int × Int))=>([(0,.c (.str aBD)),(4,ci s4.1),(5,ci s4.2)]:Fr)) (fun (s4:(Int × Int))=>([]:St)) y1 (bC [] 0 r r r r kA aD) ?_
  intro s4 st4 hs4 ho4
  unfold zT at hs4
  refine aZ<|aH<|mI r<|mS r<|aR r (kT uU r)<|aR r (gI r r)<|mB r<|og r r r (fun u=>(bN (v:=aS) r))<|og r r r (fun u=>(kT uU (gx r u)))<|og r r r (fun u=>(nM (gx r u) r))<|aR r (bV r r r (fun e=>fJ e))<|aG (fr':=[(0,aS),(4,aI),(5,aI),(14,aB)]) r r<|cG hs4 r (fun b5 h5=>?_) (fun b5 h5=>?_)
  ·
   exact bF<|cZ<|aZ<|cH<|bB<|mI r<|aR r (aQ5 r r)<|mS r<|mI r<|bx h5 fun x6 y6 h7=>aR r (aAx uU r r y6)<|aR r (aCv tk5 tk3 r)<|aR r (gC r r)<|aR r (aFA r r)<|sI r<|dM (fr':=[(0,aS),(4,aI),(5,aI),(14,aB)]) r<|cW<|cZ<|bB<|mI r<|aR r (gC r r)<|sI r<|dM (fr':=[(0,aS),(4,aI),(5,aI),(14,aB)]) r<|zO _ (sy h7) (bC [] 0 r r r r kA aD)
  ·
   refine hG<|cY<|cY<|fP ?_
   have h8:=eR h5 ho4
   exact iQ _ (sy h8) (bC [] 0 r r r r jN aD)
 ·
  intro j3 hj9
  subst hj9
  refine cZ<|aZ<|aH<|mI r<|aR r (gI r r)<|mB r<|og r r r (fun u=>(bN (v:=aI) r))<|bx h2 fun x10 y10 h11=>sX r r (fun u=>bL (v:=aS) r (aNc (cU y10 u)) ⟨(eW (gx r u) lr),trivial⟩ (fT (by repeat (first | exact eN | refine aY r ?_ | refine aY (pP r) ?_ | refine aY pO ?_))) r r) ?_
  refine og r r r (fun u=>(bN (v:=aS) r))<|og r r r (fun u=>(wZ (gx r u) (gx r u)))<|aR r (cN r r r (fun e=>fJ e))<|aG (fr':=[(4,aI),(32,aB)]) r r<|cG h11 r (fun b12 h12=>?_) (fun b12 h12=>?_)
  ·
   refine aH<|sI r<|sB r<|aG (fr':=[(2,aI),(3,aB)]) r r<|bK<|aP ?_
   obtain rfl:=sy h12
   exact bJ (rs':=[.tmp 2,.tmp 3]) r<|bS (v:=aI) r<|bS (v:=aB) r<|bI<|aN [] r r r (mR r jN) aD
  ·
   refine bF<|cZ<|aH<|mI r<|sI r<|sB r<|aG (fr':=[(2,aI),(3,aB)]) r r<|bK ?_
   obtain rfl:=sy h12
   exact bJ (rs':=[.tmp 2,.tmp 3]) r<|bS (v:=aI) r<|bS (v:=aB) r<|bI<|aN [] r r r (mR r jN) aD
noncomputable def xX (p0e:dH):Option Bool :=
 (vF p0e.Kind 1 35).bind fun x1=>(gd ((!x1)==false) (vF p0e.ID 0 2000)).bind fun x3=>(gd ((cond (!x1) true (!x3))==false) (vF p0e.Time 0 1099511627776)).bind fun x5=>(gd ((cond (cond (!x1) true (!x3)) true (!x5))==false) (aCA p0e)).bind fun x7=>cond (cond (cond (cond (!x1) true (!x3)) true (!x5)) true (!x7)) (some false) ((wM p0e.Kind).bind fun x11=>cond x11 ((zU p0e).bind fun x14=>(xU x14).bind fun x16=>some x16) (cond (decide (p0e.Kind=1)) ((qY p0e.Name).bind fun x20=>(gd (x20==true) (xV p0e.Key)).bind fun x22=>(gd ((cond x20 x22 false)==true) (aBH p0e.Data)).bind fun x24=>(gd ((cond (cond x20 x22 false) x24 false)==true) (vF p0e.N 0 4294967295)).bind fun x26=>some (cond (cond (cond x20 x22 false) x24 false) x26 false)) (cond (decide (p0e.Kind=2)) (some (decide (1≤p0e.N))) (cond (decide (p0e.Kind=5)) ((vF p0e.Code 1 30).bind fun x32=>some x32) (cond (decide (p0e.Kind=8)) ((vF p0e.N 1 1000).bind fun x36=>some x36) (cond (decide (p0e.Kind=11)) ((vF p0e.Code 1 4).bind fun x40=>some x40) (((cond (decide (p0e.Kind=10)) (some (decide (p0e.Kind=10))) (cond (decide (p0e.Kind=22)) (some (decide (p0e.Kind=22))) (some (decide (p0e.Kind=25))))):Option Bool).bind fun x43=>(cond x43 (some (decide (((p0e.Name).length:Int)≤4096))) (cond (decide (p0e.Kind=17)) ((qY p0e.Name).bind fun x52=>(gd (x52==true) (xV p0e.Key)).bind fun x54=>some (cond x52 x54 false)) (cond (decide (p0e.Kind=20)) ((yP p0e.Key).bind fun x58=>some x58.2) (cond (decide (p0e.Kind=26)) ((xV p0e.Key).bind fun x62=>some x62) (cond (decide (p0e.Kind=33)) (some (decide (((p0e.Name).length:Int)≤64))) (some true)))))))))))))
theorem aFH {p0e:dH}{z:Bool} (h:xX p0e=some z):cQ Tryz.prog 33 [.agg (AV.cs (gT p0e))] [] (.c (.bool z)) []:=by
 unfold xX at h
 refine dF (fn:=Tryz.f33) [0,1,2,4,25,28,33,34,54,59,64,69,74,82,92,101,106] (by kernel_rfl) Tryz.func33 r (by kernel_rfl) (by kernel_rfl)<|aH<|jK (v:=.agg bA) (n:=0) (cs:=bA) (σ':=[bA]) r r r r r<|sB r<|aG (fr':=[(1,aE)]) r r<|aZ<|aH<|aR r (bD aBU r)<|aR r (aK (v:=aI) fM r r r)<|bx h fun x1 y1 h2=>lS (bL (v:=aB) r (wG y1) kA r r r)<|aR r (fE r)<|mB r<|og r r r (fun u=>(bD aJu r))<|og r r r (fun u=>(aK (v:=aI) fM (gx r u) r r))<|bx h2 fun x3 y3 h4=>sX r r (fun u=>bL (v:=aB) r (wG (cU y3 u)) ⟨(eW (gx r u) lr),lr,lr,trivial⟩ (fT (by repeat (first | exact eN | refine aY r ?_ | refine aY (pP r) ?_ | refine aY pO ?_))) r r) ?_
 refine og r r r (fun u=>(fE (gx r u)))<|aR r (cN r r r (fun e=>fJ e))<|mB r<|og r r r (fun u=>(bD aJv r))<|og r r r (fun u=>(aK (v:=aI) fM (gx r u) r r))<|bx h4 fun x5 y5 h6=>sX r r (fun u=>bL (v:=aB) r (wG (cU y5 u)) ⟨(eW (gx r u) lr),lr,lr,trivial⟩ (fT (by repeat (first | exact eN | refine aY r ?_ | refine aY (pP r) ?_ | refine aY pO ?_))) r r) ?_
 refine og r r r (fun u=>(fE (gx r u)))<|aR r (cN r r r (fun e=>fJ e))<|mB r<|og r r r (fun u=>(dL (us:=bA) aCK r r r r))<|bx h6 fun x7 y7 h8=>sX r r (fun u=>bL (v:=aB) r (aLO (cU y7 u)) ⟨(eW (gx r u) (bQ r aGn)),trivial⟩ (fT (by repeat (first | exact eN | refine aY r ?_ | refine aY (pP r) ?_ | refine aY pO ?_))) r r) ?_
 refine og r r r (fun u=>(fE (gx r u)))<|aR r (cN r r r (fun e=>fJ e))<|aG (fr':=[(1,aE),(25,aB)]) r r<|cG h8 r (fun b9 h9=>?_) (fun b9 h9=>?_)
 ·
  refine aH<|sB r<|aG (fr':=[(2,aB)]) r r<|bK<|aP ?_
  obtain rfl:=sy h9
  exact bJ (rs':=[.tmp 2]) r<|bS (v:=aB) r<|bI<|aN [] r r r lr aD
 ·
  refine bF<|cZ<|aZ<|aH<|aR r (bD aBU r)<|aR r (aK (v:=aI) fM r r r)<|bx h9 fun x11 y11 h12=>lS (bL (v:=aB) r (aGW y11) ⟨lr,trivial⟩ r r r)<|aG (fr':=[(1,aE),(28,aB)]) r r<|cG h12 r (fun b13 h13=>?_) (fun b13 h13=>?_)
  ·
   refine aH<|aR r (dL (us:=bA) aCK r r r r)<|bx h13 fun x14 y14 h15=>lS (bL (v:=.agg aW) r (aGX y14) ⟨(bQ r aGn),trivial⟩ r r r)<|bx h15 fun x16 y16 h17=>lS (bL (v:=aB) r (aDe y16) ⟨(bQ r aDF),trivial⟩ r r r)<|sB r<|aG (fr':=[(2,aB)]) r r<|bK<|aP ?_
   obtain rfl:=sy h17
   exact bJ (rs':=[.tmp 2]) r<|bS (v:=aB) r<|bI<|aN [] r r r lr aD
  ·
   refine bF<|cZ<|aZ<|aH<|aR r (bD aBU r)<|aR r (aK (v:=aI) fM r r r)<|aG (fr':=[(1,aE),(33,aI)]) r r<|cH<|aH<|aR r (bU r r)<|sB r<|aG (fr':=[(1,aE),(33,aI),(34,aB)]) r r<|cG h13 r (fun b19 h19=>?_) (fun b19 h19=>?_)
   ·
    refine aH<|aR r (bD yZ r)<|aR r (aK (v:=aS) lP r r r)<|bx h19 fun x20 y20 h21=>lS (bL (v:=aB) r (uR y20) ⟨lr,trivial⟩ r r r)<|mB r<|og r r r (fun u=>(bD zB r))<|og r r r (fun u=>(aK (v:=aS) lP (gx r u) r r))<|bx h21 fun x22 y22 h23=>sX r r (fun u=>bL (v:=aB) r (aDf (cU y22 u)) ⟨(eW (gx r u) lr),trivial⟩ (fT (by repeat (first | exact eN | refine aY r ?_ | refine aY (pP r) ?_ | refine aY pO ?_))) r r) ?_
    refine aR r (bV r r r (fun e=>fJ e))<|mB r<|og r r r (fun u=>(bD aBV r))<|og r r r (fun u=>(dL (us:=cE) iO (gx r u) r r r))<|bx h23 fun x24 y24 h25=>sX r r (fun u=>bL (v:=aB) r (aKk (cU y24 u)) ⟨(eW (gx r u) (bQ r kR5)),trivial⟩ (fT (by repeat (first | exact eN | refine aY r ?_ | refine aY (pP r) ?_ | refine aY pO ?_))) r r) ?_
    refine aR r (bV r r r (fun e=>fJ e))<|mB r<|og r r r (fun u=>(bD aBh r))<|og r r r (fun u=>(aK (v:=aI) fM (gx r u) r r))<|bx h25 fun x26 y26 h27=>sX r r (fun u=>bL (v:=aB) r (wG (cU y26 u)) ⟨(eW (gx r u) lr),lr,lr,trivial⟩ (fT (by repeat (first | exact eN | refine aY r ?_ | refine aY (pP r) ?_ | refine aY pO ?_))) r r) ?_
    refine aR r (bV r r r (fun e=>fJ e))<|sB r<|aG (fr':=[(2,aB)]) r r<|bK<|bO<|aP ?_
    obtain rfl:=sy h27
    exact bJ (rs':=[.tmp 2]) r<|bS (v:=aB) r<|bI<|aN [] r r r lr aD
   ·
    refine aH<|aR r (bU r r)<|sB r<|aG (fr':=[(1,aE),(33,aI),(54,aB)]) r r<|cG h19 r (fun b29 h29=>?_) (fun b29 h29=>?_)
    ·
     refine aH<|aR r (bD aBh r)<|aR r (aK (v:=aI) fM r r r)<|aR r (oI r r)<|sB r<|aG (fr':=[(2,aB)]) r r<|bK<|bO<|aP ?_
     obtain rfl:=sy h29
     exact bJ (rs':=[.tmp 2]) r<|bS (v:=aB) r<|bI<|aN [] r r r lr aD
    ·
     refine aH<|aR r (bU r r)<|sB r<|aG (fr':=[(1,aE),(33,aI),(59,aB)]) r r<|cG h29 r (fun b31 h31=>?_) (fun b31 h31=>?_)
     ·
      refine aH<|aR r (bD aDc r)<|aR r (aK (v:=aI) fM r r r)<|bx h31 fun x32 y32 h33=>lS (bL (v:=aB) r (wG y32) kA r r r)<|sB r<|aG (fr':=[(2,aB)]) r r<|bK<|bO<|aP ?_
      obtain rfl:=sy h33
      exact bJ (rs':=[.tmp 2]) r<|bS (v:=aB) r<|bI<|aN [] r r r lr aD
     ·
      refine aH<|aR r (bU r r)<|sB r<|aG (fr':=[(1,aE),(33,aI),(64,aB)]) r r<|cG h31 r (fun b35 h35=>?_) (fun b35 h35=>?_)
      ·
       refine aH<|aR r (bD aBh r)<|aR r (aK (v:=aI) fM r r r)<|bx h35 fun x36 y36 h37=>lS (bL (v:=aB) r (wG y36) kA r r r)<|sB r<|aG (fr':=[(2,aB)]) r r<|bK<|bO<|aP ?_
       obtain rfl:=sy h37
       exact bJ (rs':=[.tmp 2]) r<|bS (v:=aB) r<|bI<|aN [] r r r lr aD
      ·
       refine aH<|aR r (bU r r)<|sB r<|aG (fr':=[(1,aE),(33,aI),(69,aB)]) r r<|cG h35 r (fun b39 h39=>?_) (fun b39 h39=>?_)
       ·
        refine aH<|aR r (bD aDc r)<|aR r (aK (v:=aI) fM r r r)<|bx h39 fun x40 y40 h41=>lS (bL (v:=aB) r (wG y40) kA r r r)<|sB r<|aG (fr':=[(2,aB)]) r r<|bK<|bO<|aP ?_
        obtain rfl:=sy h41
        exact bJ (rs':=[.tmp 2]) r<|bS (v:=aB) r<|bI<|aN [] r r r lr aD
       ·
        obtain ⟨x43,y43,h44⟩:=iW h39
        refine hH (fun j45=>x43=j45) (fun (j45:Bool)=>([(1,aE),(33,ci p0e.Kind),(74,.c (.bool j45))]:Fr)) (fun (j45:Bool)=>([[ci p0e.ID,ci p0e.Kind,ci p0e.Time,ci p0e.Seq,ci p0e.Ref,ci p0e.N,ci p0e.Code,.c (.str p0e.Name),.c (.str p0e.Key),ci p0e.Data.Kind,ci p0e.Data.Int,.c (.str p0e.Data.Text),.c (PV.ls 5 bT p0e.Data.Items),.c (PV.ls 1 fI p0e.Data.Keys),.c (.str p0e.Opts.Queue),ci p0e.Opts.ToStart,ci p0e.Opts.ToClose,ci p0e.Opts.Total,ci p0e.Opts.Beat,ci p0e.Opts.First,ci p0e.Opts.Coef,ci p0e.Opts.Most,ci p0e.Opts.Attempts,.c (PV.ls 1 fI p0e.Opts.Fatal)]]:St)) ?_ ?_
        ·
         refine aH<|aR r (bU r r)<|sB r<|aG (fr':=[(1,aE),(33,aI),(74,aB)]) r r<|cG y43 r (fun b46 h46=>?_) (fun b46 h46=>?_)
         ·
          exact bF<|iQ _ (sy h46) (bC [] 1 r r r r kA (bR r aD))
         ·
          refine aH<|aR r (bU r r)<|sB r<|aG (fr':=[(1,aE),(33,aI),(74,aB)]) r r<|cG h46 r (fun b47 h47=>?_) (fun b47 h47=>?_)
          ·
           exact bF<|iQ _ (sy h47) (bC [] 1 r r r r kA (bR r aD))
          ·
           exact bB<|aR r (bU r r)<|sB r<|dM (fr':=[(1,aE),(33,aI),(74,aB)]) r<|iQ _ (sy h47) (bC [] 1 r r r r kA (bR r aD))
        ·
         intro j45 hj48
         subst hj48
         refine cG h44 r (fun b49 h49=>?_) (fun b49 h49=>?_)
         ·
          refine aH<|aR r (bD yZ r)<|aR r (aK (v:=aS) lP r r r)<|aR r (kT uU r)<|aR r (nM r r)<|sB r<|aG (fr':=[(2,aB)]) r r<|bK<|bO<|aP ?_
          obtain rfl:=sy h49
          exact bJ (rs':=[.tmp 2]) r<|bS (v:=aB) r<|bI<|aN [] r r r lr aD
         ·
          refine aH<|aR r (bU r r)<|sB r<|aG (fr':=[(1,aE),(33,aI),(82,aB)]) r r<|cG h49 r (fun b51 h51=>?_) (fun b51 h51=>?_)
          ·
           refine aH<|aR r (bD yZ r)<|aR r (aK (v:=aS) lP r r r)<|bx h51 fun x52 y52 h53=>lS (bL (v:=aB) r (uR y52) ⟨lr,trivial⟩ r r r)<|mB r<|og r r r (fun u=>(bD zB r))<|og r r r (fun u=>(aK (v:=aS) lP (gx r u) r r))<|bx h53 fun x54 y54 h55=>sX r r (fun u=>bL (v:=aB) r (aDf (cU y54 u)) ⟨(eW (gx r u) lr),trivial⟩ (fT (by repeat (first | exact eN | refine aY r ?_ | refine aY (pP r) ?_ | refine aY pO ?_))) r r) ?_
           refine aR r (bV r r r (fun e=>fJ e))<|sB r<|aG (fr':=[(2,aB)]) r r<|bK<|bO<|aP ?_
           obtain rfl:=sy h55
           exact bJ (rs':=[.tmp 2]) r<|bS (v:=aB) r<|bI<|aN [] r r r lr aD
          ·
           refine aH<|aR r (bU r r)<|sB r<|aG (fr':=[(1,aE),(33,aI),(92,aB)]) r r<|cG h51 r (fun b57 h57=>?_) (fun b57 h57=>?_)
           ·
            refine aH<|aR r (bD zB r)<|aR r (aK (v:=aS) lP r r r)<|bx h57 fun x58 y58 h59=>lS (bL (v:=.tup [aI,aB]) r (aE2 y58) ⟨lr,trivial⟩ r r r)<|mV (v:=.tup [aI,aB]) r<|aR r (xJ (v:=aI) r r)<|aR r (xJ (v:=aB) r r)<|sI r<|sB r<|aG (fr':=[(4,aB)]) r r<|aH<|mB r<|sB r<|aG (fr':=[(2,aB)]) r r<|bK<|bO<|aP ?_
            obtain rfl:=sy h59
            exact bJ (rs':=[.tmp 2]) r<|bS (v:=aB) r<|bI<|aN [] r r r lr aD
           ·
            refine aH<|aR r (bU r r)<|sB r<|aG (fr':=[(1,aE),(33,aI),(101,aB)]) r r<|cG h57 r (fun b61 h61=>?_) (fun b61 h61=>?_)
            ·
             refine aH<|aR r (bD zB r)<|aR r (aK (v:=aS) lP r r r)<|bx h61 fun x62 y62 h63=>lS (bL (v:=aB) r (aDf y62) ⟨lr,trivial⟩ r r r)<|sB r<|aG (fr':=[(2,aB)]) r r<|bK<|bO<|aP ?_
             obtain rfl:=sy h63
             exact bJ (rs':=[.tmp 2]) r<|bS (v:=aB) r<|bI<|aN [] r r r lr aD
            ·
             refine aH<|aR r (bU r r)<|sB r<|aG (fr':=[(1,aE),(106,aB)]) r r<|cG h61 r (fun b65 h65=>?_) (fun b65 h65=>?_)
             ·
              refine aH<|aR r (bD yZ r)<|aR r (aK (v:=aS) lP r r r)<|aR r (kT uU r)<|aR r (nM r r)<|sB r<|aG (fr':=[(2,aB)]) r r<|bK<|bO<|aP ?_
              obtain rfl:=sy h65
              exact bJ (rs':=[.tmp 2]) r<|bS (v:=aB) r<|bI<|aN [] r r r lr aD
             ·
              refine bF<|cW<|cZ<|aH<|sB r<|aG (fr':=[(2,aB)]) r r<|bK ?_
              obtain rfl:=sy h65
              exact bJ (rs':=[.tmp 2]) r<|bS (v:=aB) r<|bI<|aN [] r r r lr aD
noncomputable def aBb (p0b:(List UInt8)):Option aV :=
 (app 1 ([]:List UInt8) p0b).bind fun x1=>some (aV.mk true x1 0)
theorem aGU {p0b:(List UInt8)}{z:aV} (h:aBb p0b=some z):cQ Tryz.prog 26 [.c (PV.ls 1 iT p0b)] [] (.box 0 0) [AV.cs (dX z)]:=by
 unfold aBb at h
 refine dF (fn:=Tryz.f26) [0,2] (by kernel_rfl) Tryz.func26 r (by kernel_rfl) (by kernel_rfl)<|aH<|sV (v:=.nilptr) r<|aG (fr':=[(0,aL)]) r r<|aH<|uL (row:=iT) (xs:=([]:List UInt8)) (rows:=[]) (σ':=[]) [0] aEq r r r oB r r<|mL r<|bx h fun x1 y1 h2=>aCt (row:=iT) aEq r aGM r (eK r) (fun _=>r) y1<|aR r (fV (cs:=[aB,aO,aI]) aU5 r)<|jK (v:=.agg [aB,aO,aI]) (n:=0) (cs:=[aB,aO,aI]) (σ':=[[aB,aO,aI]]) r r r r r<|sV (v:=aE) r<|aG (fr':=[(2,aE)]) r r<|bK ?_
 obtain rfl:=sy h2
 exact bJ (rs':=[.tmp 2]) r<|bS (v:=aE) r<|bI<|aOF (off:=0) (j:=0) r r r r r (eG oX aD)
noncomputable def kN (cV:aV):Option Int :=
 cond (!cV.Made) (some 1) (some cV.Bad)
theorem mF {cV:aV}{z:Int} (h:kN cV=some z):cQ Tryz.prog 30 [.box 0 0] [AV.cs (dX cV)] (ci z) [AV.cs (dX cV)]:=by
 unfold kN at h
 refine dF (fn:=Tryz.f30) [0,2,11] (by kernel_rfl) Tryz.func30 r (by kernel_rfl) (by kernel_rfl)<|aH<|sI r<|aG (fr':=[(0,aE)]) r r<|aZ<|aH<|mV (v:=aE) r<|aR r (aJb aUy r r)<|mB r<|oE r r r<|mV (v:=aE) r<|oE r r r<|aR r (jM r)<|oE r r r<|aR r (bD aRu r)<|oE r r r<|aR r (aK (v:=aB) tv4 r r r)<|oE r r r<|aR r (fE r)<|aR r (wL r r r)<|aG (fr':=[(0,aE),(11,aB)]) r r<|cG h r (fun b1 h1=>?_) (fun b1 h1=>?_)
 ·
  refine aH<|sI r<|aG (fr':=[(2,aI)]) r r<|bK<|aP ?_
  obtain rfl:=sy h1
  exact bJ (rs':=[.tmp 2]) r<|bS (v:=aI) r<|bI<|aN [] r r r lr (bR r aD)
 ·
  refine bF<|cZ<|aH<|mV (v:=aE) r<|aR r (jM r)<|aR r (bD aOn r)<|aR r (aK (v:=aI) aF1 r r r)<|sI r<|aG (fr':=[(2,aI)]) r r<|bK ?_
  obtain rfl:=sy h1
  exact bJ (rs':=[.tmp 2]) r<|bS (v:=aI) r<|bI<|aN [] r r r lr (bR r aD)
