import Derived.Test.YtnigjppddilpcaaGreatDoorGETy
import Derived.Test.YtnigjppddilpcaaGreatDoorGEF0
import Derived.Test.YtnigjppddilpcaaGreatDoorGEF4
import Derived.Test.YtnigjppddilpcaaGreatDoorGEF6
import Derived.Test.YtnigjppddilpcaaGreatDoorGEF7
import Derived.Test.YtnigjppddilpcaaGreatDoorGEF8
import Derived.Test.YtnigjppddilpcaaGreatDoorGEF9
namespace Go.Proofs.YtnigjppddilpcaaGreatDoor
open Go Abs
set_option maxRecDepth 100000
set_option linter.unusedVariables false
set_option linter.unusedSimpArgs false
noncomputable def zO (p0e:dP):Option cK :=
 (wL p0e.Kind).bind fun x1=>some (cK.mk x1 p0e.Seq p0e.Name p0e.Key p0e.N p0e.Data p0e.Opts)
theorem aHf {p0e:dP}{z:cK} (h:zO p0e=some z):cR Tryz.prog 85 [.agg (AV.cs (eU p0e))] [] (.agg (AV.cs (eV z))) []:=by
 unfold zO at h
 refine dQ (fn:=Tryz.f85) [0,1,2] (by kernel_rfl) Tryz.func85 r (by kernel_rfl) (by kernel_rfl)<|aH<|iR (v:=.agg aT) (n:=0) (cs:=aT) (σ':=[aT]) r r r r r<|jT (n:=1) (cs:=bD) (σ':=[aT,bD]) aKh r r r<|aG (fr':=[(1,aD),(2,bK)]) r r<|aU<|mW [.q 0,.q 1,.q 2,.q 3,.q 4,.q 5,.q 6,.q 7,.q 8,.q 9,.q 10,.q 11,.q 12,.q 13,.q 14,.q 15,.n 16 []] [(some 3,[1]),(some 4,[3]),(some 5,[4]),(some 6,[1]),(some 7,[6]),(some 8,[1]),(some 9,[8]),(some 10,[1]),(some 11,[10]),(some 12,[1]),(some 13,[12]),(some 14,[1]),(some 15,[14]),(some 16,[1]),(some 17,[16]),(some 18,[5,7,9,11,13,15,17]),(none,[2,18])] [0,1,3,0,8,0,32,0,128,0,512,0,2048,0,8192,32767,65535] (by kernel_rfl)<|dq r r (bE aAJ r)<|dq r r (aJ (v:=aI) gA r r r)<|bx h fun x1 y1 h2=>d_q r (aCP (v:=aI) r (aD4 y1) ⟨lr,trivial⟩ r)<|dq r r (bE aCr r)<|dq r r (aJ (v:=aI) gA r r r)<|dq r r (bE xZ r)<|dq r r (aJ (v:=aS) mG r r r)<|dq r r (bE yA r)<|dq r r (aJ (v:=aS) mG r r r)<|dq r r (bE aAd r)<|dq r r (aJ (v:=aI) gA r r r)<|dq r r (bE aA5 r)<|dq r r (dN (us:=cH) jC r r r r)<|dq r r (bE aBW r)<|dq r r (dN (us:=dE) aAm r r r r)<|dq r r (jY (c0:=bD) (cs:=aW) aPZ r (fD (v:=aI) (us:=[_]) (cs':=u20) r r r r r r (fD (v:=aI) (us:=[_]) (cs':=u20) r r r r r r (fD (v:=aS) (us:=[_]) (cs':=u20) r r r r r r (fD (v:=aS) (us:=[_]) (cs':=u20) r r r r r r (fD (v:=aI) (us:=[_]) (cs':=u20) r r r r r r (fD (v:=.agg cH) (us:=u5) (cs':=u20) r r r r r r (fD (v:=.agg dE) (us:=u10) (cs':=u20) r r r r r r jX))))))))<|d_n r ?_ r
 refine cD (v:=.agg aW) (us:=aW) (cs:=bD) (σ':=[aT,aW]) r uX r r r r r r r r<|aEx<|⟨xN,?_⟩
 refine aBl (fr':=[(2,bK)]) r r<|bJ ?_
 obtain rfl:=sy h2
 exact bI (rs':=[.cell 2 103]) r<|eN (us:=aW) (cs:=aW) uX r r r r<|bG<|aP [] r r r (bQ r aFh) aC
noncomputable def aEG (p0s:(List UInt8)) (s4:Int):Option (dU Int (Fl Bool Unit)) :=
 cond (decide (s4<((p0s).length:Int))) ((mP p0s s4).bind fun x6=>(gd ((decide (((x6).toNat:Int)<33))==false) (mP p0s s4)).bind fun x8=>(gd ((cond (decide (((x6).toNat:Int)<33)) true (decide (126<((x8).toNat:Int))))==false) (mP p0s s4)).bind fun x10=>(gd ((cond (cond (decide (((x6).toNat:Int)<33)) true (decide (126<((x8).toNat:Int)))) true (decide (((x10).toNat:Int)=47)))==false) (mP p0s s4)).bind fun x12=>cond (cond (cond (cond (decide (((x6).toNat:Int)<33)) true (decide (126<((x8).toNat:Int)))) true (decide (((x10).toNat:Int)=47))) true (decide (((x12).toNat:Int)=34))) (some (dU.out (Fl.done false))) (some (dU.next (IntKind.wrap .i64 (s4+1))))) (some (dU.out (Fl.go ())))
noncomputable def xS (p0s:(List UInt8)):Option Bool :=
 (gL (aEG p0s) (0)).bind fun x1=>Fl.next x1 (fun j3=>(some (cond (decide (1≤((p0s).length:Int))) (decide (((p0s).length:Int)≤64)) false)))
theorem aC9 {p0s:(List UInt8)}{z:Bool} (h:xS p0s=some z):cR Tryz.prog 87 [.c (.str p0s)] [] (.c (.bool z)) []:=by
 unfold xS at h
 refine dQ (fn:=Tryz.f87) [0,2,3,7,31] (by kernel_rfl) Tryz.func87 r (by kernel_rfl) (by kernel_rfl)<|aH<|sB r<|aG (fr':=[(0,aS)]) r r<|aU<|aH<|sI r<|aG (fr':=[(0,aS),(3,aI)]) r r<|bx h fun x1 y1 h2=>gY kS (fun j3=>x1=Fl.go j3) (fun (j3:Unit)=>([(0,.c (.str p0s))]:Fr)) (fun (j3:Unit)=>([]:St)) ?_ ?_
 ·
  refine cE<|gU _ (fun (s4:Int)=>([(0,.c (.str p0s)),(3,ci s4)]:Fr)) (fun (s4:Int)=>([]:St)) y1 (bH [] 0 r r r r kU aC) ?_
  intro s4 st4 hs4 ho4
  unfold aEG at hs4
  refine aU<|aH<|mI r<|mS r<|aN r (kV uD r)<|aN r (gC r r)<|aG (fr':=[(0,aS),(3,aI),(7,aB)]) r r<|cN hs4 r (fun b5 h5=>?_) (fun b5 h5=>?_)
  ·
   refine bL<|cY<|aU<|cE<|aH<|mS r<|mI r<|bx h5 fun x6 y6 h7=>aN r (aAU uD r r y6)<|aN r (gC r r)<|mB r<|og r r r (fun u=>(bS (v:=aS) r))<|og r r r (fun u=>(bS (v:=aI) r))<|bx h7 fun x8 y8 h9=>og r r r (fun u=>(aAU uD (gx r u) (gx r u) (cZ y8 u)))<|og r r r (fun u=>(sP (gx r u) r))<|aN r (cM r r r (fun e=>fU e))<|mB r<|og r r r (fun u=>(bS (v:=aS) r))<|og r r r (fun u=>(bS (v:=aI) r))<|bx h9 fun x10 y10 h11=>og r r r (fun u=>(aAU uD (gx r u) (gx r u) (cZ y10 u)))<|og r r r (fun u=>(cC (gx r u) r))<|aN r (cM r r r (fun e=>fU e))<|mB r<|og r r r (fun u=>(bS (v:=aS) r))<|og r r r (fun u=>(bS (v:=aI) r))<|bx h11 fun x12 y12 h13=>og r r r (fun u=>(aAU uD (gx r u) (gx r u) (cZ y12 u)))<|og r r r (fun u=>(cC (gx r u) r))<|aN r (cM r r r (fun e=>fU e))<|aG (fr':=[(0,aS),(3,aI),(31,aB)]) r r<|cN h13 r (fun b14 h14=>?_) (fun b14 h14=>?_)
   ·
    refine aH<|sB r<|aG (fr':=[(2,aB)]) r r<|bJ<|bM<|aQ<|aQ<|bM<|aQ<|aQ ?_
    have h15:=eZ h14 ho4
    have h16:=gT h15 h2
    obtain rfl:=sy h16
    exact bI (rs':=[.tmp 2]) r<|bX (v:=aB) r<|bG<|aP [] r r r lr aC
   ·
    exact bL<|dH<|cY<|bA<|mI r<|aN r (fY r r)<|sI r<|dT (fr':=[(0,aS),(3,aI),(31,aB)]) r<|e_l _ (sy h14) (bH [] 0 r r r r kU aC)
  ·
   refine iA<|cX<|cX<|fS ?_
   have h18:=eZ h5 ho4
   exact kI _ (sy h18) (bH [] 0 r r r r ⟨lr,trivial⟩ aC)
 ·
  intro j3 hj19
  have h19:=mY hj19 h2
  refine cY<|aH<|mS r<|aN r (kV uD r)<|aN r (qR r r)<|mB r<|og r r r (fun u=>(bS (v:=aS) r))<|og r r r (fun u=>(kV uD (gx r u)))<|og r r r (fun u=>(qH (gx r u) r))<|aN r (cB r r r (fun e=>fU e))<|sB r<|aG (fr':=[(2,aB)]) r r<|bJ ?_
  obtain rfl:=sy h19
  exact bI (rs':=[.tmp 2]) r<|bX (v:=aB) r<|bG<|aP [] r r r lr aC
noncomputable def xT (x7:aK) (s12:Int):Option (dU Int (Fl Bool Unit)) :=
 cond (decide (s12<((x7.Items).length:Int))) ((mP x7.Items s12).bind fun x14=>(gd ((!decide (x14.Kind=4))==false) (mP x7.Items s12)).bind fun x16=>(gd ((cond (!decide (x14.Kind=4)) true (!decide (((x16.Items).length:Int)=2)))==false) (mP x7.Items s12)).bind fun x18=>(gd ((cond (!decide (x14.Kind=4)) true (!decide (((x16.Items).length:Int)=2)))==false) (mP x18.Items 0)).bind fun x20=>(gd ((cond (cond (!decide (x14.Kind=4)) true (!decide (((x16.Items).length:Int)=2))) true (!decide (x20.Kind=3)))==false) (mP x7.Items s12)).bind fun x22=>(gd ((cond (cond (!decide (x14.Kind=4)) true (!decide (((x16.Items).length:Int)=2))) true (!decide (x20.Kind=3)))==false) (mP x22.Items 0)).bind fun x24=>(gd ((cond (cond (!decide (x14.Kind=4)) true (!decide (((x16.Items).length:Int)=2))) true (!decide (x20.Kind=3)))==false) (qI x24.Text)).bind fun x26=>cond (cond (cond (cond (!decide (x14.Kind=4)) true (!decide (((x16.Items).length:Int)=2))) true (!decide (x20.Kind=3))) true (!x26)) (some (dU.out (Fl.done false))) (some (dU.next (IntKind.wrap .i64 (s12+1))))) (some (dU.out (Fl.go ())))
noncomputable def aBt (p0v:aK):Option Bool :=
 (tM p0v).bind fun x1=>(gd ((cond (cond (!x1) true (!decide (p0v.Kind=4))) true (!decide (((p0v.Items).length:Int)=2)))==false) (mP p0v.Items 1)).bind fun x3=>cond (cond (cond (cond (!x1) true (!decide (p0v.Kind=4))) true (!decide (((p0v.Items).length:Int)=2))) true (!decide (x3.Kind=4))) (some false) ((mP p0v.Items 1).bind fun x7=>(gL (xT x7) (0)).bind fun x9=>Fl.next x9 (fun j11=>(some true)))
theorem aK6 {p0v:aK}{z:Bool} (h:aBt p0v=some z):cR Tryz.prog 88 [.agg (AV.cs (fA p0v))] [] (.c (.bool z)) []:=by
 unfold aBt at h
 refine dQ (fn:=Tryz.f88) [0,1,2,3,4,26,35,75] (by kernel_rfl) Tryz.func88 r (by kernel_rfl) (by kernel_rfl)<|aH<|iR (v:=.agg cH) (n:=0) (cs:=cH) (σ':=[cH]) r r r r r<|sB r<|aG (fr':=[(1,aD)]) r r<|aU<|aH<|aN r (dN (us:=cH) jC r r r r)<|bx h fun x1 y1 h2=>kB (bC (v:=aB) r (aBh y1) ⟨(bQ r zA),trivial⟩ r r r)<|aN r (fP r)<|mB r<|og r r r (fun u=>(bE lU r))<|og r r r (fun u=>(aJ (v:=aI) gA (gx r u) r r))<|og r r r (fun u=>(iY (gx r u) r))<|aN r (cM r r r (fun e=>fU e))<|mB r<|og r r r (fun u=>(bE iH r))<|og r r r (fun u=>(aJ (v:=aL) nJ (gx r u) r r))<|og r r r (fun u=>(gQ vC (eD (gx r u))))<|og r r r (fun u=>(iY (gx r u) r))<|aN r (cM r r r (fun e=>fU e))<|mB r<|og r r r (fun u=>(bE iH r))<|og r r r (fun u=>(aJ (v:=aL) nJ (gx r u) r r))<|bx h2 fun x3 y3 h4=>og r r r (fun u=>(lT (cs:=[PV.int _ _,PV.int _ _,PV.str _,PV.ls _ _ _,PV.ls _ _ _]) uW (eD (gx r u)) r (cZ y3 u) (eA _)))<|og r r r (fun u=>(zF lU (gx r u)))<|og r r r (fun u=>(iO (p:=PV.int _ _) gA (gx r u) r))<|og r r r (fun u=>(iY (gx r u) r))<|aN r (cM r r r (fun e=>fU e))<|aG (fr':=[(1,aD),(26,aB)]) r r<|cN h4 r (fun b5 h5=>?_) (fun b5 h5=>?_)
 ·
  refine aH<|sB r<|aG (fr':=[(2,aB)]) r r<|bJ<|aQ ?_
  obtain rfl:=sy h5
  exact bI (rs':=[.tmp 2]) r<|bX (v:=aB) r<|bG<|aP [] r r r lr aC
 ·
  refine bL<|cY<|aH<|aN r (bE iH r)<|aN r (aJ (v:=aL) nJ r r r)<|bx h5 fun x7 y7 h8=>aN r (lT (cs:=[PV.int _ _,PV.int _ _,PV.str _,PV.ls _ _ _,PV.ls _ _ _]) uW (eD r) r y7 (eA _))<|aN r (zF iH r)<|aN r (iO (p:=PV.ls _ _ _) nJ r r)<|sL r<|aG (fr':=[(3,aL)]) r r<|aU<|aH<|sI r<|aG (fr':=[(3,aL),(4,aI)]) r r<|bx h8 fun x9 y9 h10=>gY kS (fun j11=>x9=Fl.go j11) (fun (j11:Unit)=>([]:Fr)) (fun (j11:Unit)=>([[ci p0v.Kind,ci p0v.Int,.c (.str p0v.Text),.c (PV.ls 5 bO p0v.Items),.c (PV.ls 1 fZ p0v.Keys)]]:St)) ?_ ?_
  ·
   refine cE<|gU _ (fun (s12:Int)=>([(3,.c (PV.ls 5 bO x7.Items)),(4,ci s12)]:Fr)) (fun (s12:Int)=>([[ci p0v.Kind,ci p0v.Int,.c (.str p0v.Text),.c (PV.ls 5 bO p0v.Items),.c (PV.ls 1 fZ p0v.Keys)]]:St)) y9 (bH [] 1 r r r r kU (cV r aC)) ?_
   intro s12 st12 hs12 ho12
   unfold xT at hs12
   refine aU<|aH<|mI r<|mL r<|aN r (gQ vC (eD r))<|aN r (gC r r)<|aG (fr':=[(3,aL),(4,aI),(35,aB)]) r r<|cN hs12 r (fun b13 h13=>?_) (fun b13 h13=>?_)
   ·
    refine bL<|cY<|aU<|cE<|aH<|mL r<|mI r<|bx h13 fun x14 y14 h15=>aN r (lT (cs:=[PV.int _ _,PV.int _ _,PV.str _,PV.ls _ _ _,PV.ls _ _ _]) uW (eD r) r y14 (eA _))<|aN r (zF lU r)<|aN r (iO (p:=PV.int _ _) gA r r)<|aN r (iY r r)<|mB r<|og r r r (fun u=>(bS (v:=aL) r))<|og r r r (fun u=>(bS (v:=aI) r))<|bx h15 fun x16 y16 h17=>og r r r (fun u=>(lT (cs:=[PV.int _ _,PV.int _ _,PV.str _,PV.ls _ _ _,PV.ls _ _ _]) uW (eD (gx r u)) (gx r u) (cZ y16 u) (eA _)))<|og r r r (fun u=>(zF iH (gx r u)))<|og r r r (fun u=>(iO (p:=PV.ls _ _ _) nJ (gx r u) r))<|og r r r (fun u=>(gQ vC (eD (gx r u))))<|og r r r (fun u=>(iY (gx r u) r))<|aN r (cM r r r (fun e=>fU e))<|mB r<|og r r r (fun u=>(bS (v:=aL) r))<|og r r r (fun u=>(bS (v:=aI) r))<|bx h17 fun x18 y18 h19=>og r r r (fun u=>(lT (cs:=[PV.int _ _,PV.int _ _,PV.str _,PV.ls _ _ _,PV.ls _ _ _]) uW (eD (gx r u)) (gx r u) (cZ y18 u) (eA _)))<|og r r r (fun u=>(zF iH (gx r u)))<|og r r r (fun u=>(iO (p:=PV.ls _ _ _) nJ (gx r u) r))<|bx h19 fun x20 y20 h21=>og r r r (fun u=>(lT (cs:=[PV.int _ _,PV.int _ _,PV.str _,PV.ls _ _ _,PV.ls _ _ _]) uW (eD (gx r u)) r (cZ y20 u) (eA _)))<|og r r r (fun u=>(zF lU (gx r u)))<|og r r r (fun u=>(iO (p:=PV.int _ _) gA (gx r u) r))<|og r r r (fun u=>(iY (gx r u) r))<|aN r (cM r r r (fun e=>fU e))<|mB r<|og r r r (fun u=>(bS (v:=aL) r))<|og r r r (fun u=>(bS (v:=aI) r))<|bx h21 fun x22 y22 h23=>og r r r (fun u=>(lT (cs:=[PV.int _ _,PV.int _ _,PV.str _,PV.ls _ _ _,PV.ls _ _ _]) uW (eD (gx r u)) (gx r u) (cZ y22 u) (eA _)))<|og r r r (fun u=>(zF iH (gx r u)))<|og r r r (fun u=>(iO (p:=PV.ls _ _ _) nJ (gx r u) r))<|bx h23 fun x24 y24 h25=>og r r r (fun u=>(lT (cs:=[PV.int _ _,PV.int _ _,PV.str _,PV.ls _ _ _,PV.ls _ _ _]) uW (eD (gx r u)) r (cZ y24 u) (eA _)))<|og r r r (fun u=>(zF tZ (gx r u)))<|og r r r (fun u=>(iO (p:=PV.str _) mG (gx r u) r))<|bx h25 fun x26 y26 h27=>uP r r (fun u=>bC (v:=aB) r (wN (cZ y26 u)) ⟨(fH (gx r u) lr),trivial⟩ (gO (by repeat (first | exact fC | refine aZ r ?_ | refine aZ (rG r) ?_ | refine aZ rF ?_))) r r) ?_
    refine og r r r (fun u=>(fP (gx r u)))<|aN r (cM r r r (fun e=>fU e))<|aG (fr':=[(3,aL),(4,aI),(75,aB)]) r r<|cN h27 r (fun b28 h28=>?_) (fun b28 h28=>?_)
    ·
     refine aH<|sB r<|aG (fr':=[(2,aB)]) r r<|bJ<|bM<|aQ<|aQ<|bM<|aQ<|aQ ?_
     have h29:=eZ h28 ho12
     have h30:=gT h29 h10
     obtain rfl:=sy h30
     exact bI (rs':=[.tmp 2]) r<|bX (v:=aB) r<|bG<|aP [] r r r lr aC
    ·
     exact bL<|dH<|cY<|bA<|mI r<|aN r (fY r r)<|sI r<|dT (fr':=[(3,aL),(4,aI),(75,aB)]) r<|e_l _ (sy h28) (bH [] 1 r r r r kU (cV r aC))
   ·
    refine iA<|cX<|cX<|fS ?_
    have h32:=eZ h13 ho12
    exact kI _ (sy h32) (bH [] 1 r r r r trivial (cV r aC))
  ·
   intro j11 hj33
   have h33:=mY hj33 h10
   refine cY<|aH<|sB r<|aG (fr':=[(2,aB)]) r r<|bJ ?_
   obtain rfl:=sy h33
   exact bI (rs':=[.tmp 2]) r<|bX (v:=aB) r<|bG<|aP [] r r r lr aC
noncomputable def lI:Nat→Int→Option (List UInt8)
 | 0,_=>none
 | n+1,p0n =>
  (aBy (IntKind.wrap .u8 (IntKind.wrap .i64 (48+(IntKind.wrap .i64 (0 - (Int.tmod p0n 10))))))).bind fun x1=>cond (decide ((-10)<p0n)) (some ([x1]:List UInt8)) (((lI n) (IntKind.wrap .i64 (Int.tdiv p0n 10))).bind fun x5=>(cat x5 ([x1]:List UInt8)).bind fun x7=>some (x5++([x1]:List UInt8)))
theorem aIN:∀ n:Nat,(∀ {p0n:Int}{z:(List UInt8)},lI n p0n=some z→cR Tryz.prog 207 [ci p0n] [] (.c (.str z)) []):=by
 intro n
 induction n with
 | zero=>exact fun {p0n z} h=>absurd h (by simp [lI])
 | succ n ih =>
  have ih_ref03xdigits:=@ih
  intro p0n z h
  rw [lI] at h
  refine dQ (fn:=Tryz.f207) [0,2,3,4,14] (by kernel_rfl) Tryz.func207 r (by kernel_rfl) (by kernel_rfl)<|aH<|sS r<|aG (fr':=[(0,aI)]) r r<|aH<|mI r<|aN r (aUk r r (by decide))<|aN r (aPR r)<|sI r<|aG (fr':=[(0,aI),(3,aI)]) r r<|aU<|bA<|mI r<|aN r (fY r r)<|aN r (aAZ tk3 tk5 r)<|bx h fun x1 y1 h2=>sW (row:=hF) (xs:=([x1]:List UInt8)) (rows:=[[_]]) (σ':=[]) [0] aCu r r r (eI (aE5 y1) mX) r r<|aN r (aEA aN2 uD (rQ r))<|sS r<|aG (fr':=[(0,aI),(4,aS)]) r r<|aU<|aH<|mI r<|aN r (sP r r)<|aG (fr':=[(0,aI),(4,aS),(14,aB)]) r r<|cN h2 r (fun b3 h3=>?_) (fun b3 h3=>?_)
  ·
   refine aH<|mS r<|sS r<|aG (fr':=[(2,aS)]) r r<|bJ<|aQ ?_
   obtain rfl:=sy h3
   exact bI (rs':=[.tmp 2]) r<|bX (v:=aS) r<|bG<|aP [] r r r lr aC
  ·
   refine bL<|cY<|aH<|mI r<|aN r (aUj r r (by decide))<|bx h3 fun x5 y5 h6=>kB (bC (v:=aS) r (ih_ref03xdigits y5) ⟨lr,trivial⟩ r r r)<|mS r<|bx h6 fun x7 y7 h8=>aN r (aO6 r r (aJq y7).1)<|sS r<|aG (fr':=[(2,aS)]) r r<|bJ ?_
   obtain rfl:=sy h8
   exact bI (rs':=[.tmp 2]) r<|bX (v:=aS) r<|bG<|aP [] r r r lr aC
noncomputable def yP (p0n:Int):Option (List UInt8):=lim fun n=>lI n p0n
theorem aEX {p0n:Int}{z:(List UInt8)} (h:yP p0n=some z):cR Tryz.prog 207 [ci p0n] [] (.c (.str z)) []:=by
 obtain ⟨n,hn⟩:=rI h
 exact (aIN n) hn
noncomputable def aBc (p0n:Int):Option (List UInt8) :=
 cond (decide (p0n<0)) ((yP p0n).bind fun x2=>(cat ([45]:List UInt8) x2).bind fun x4=>some (([45]:List UInt8)++x2)) ((yP (IntKind.wrap .i64 (0 - p0n))).bind fun x7=>some x7)
theorem aIR {p0n:Int}{z:(List UInt8)} (h:aBc p0n=some z):cR Tryz.prog 190 [ci p0n] [] (.c (.str z)) []:=by
 unfold aBc at h
 refine dQ (fn:=Tryz.f190) [0,2,4] (by kernel_rfl) Tryz.func190 r (by kernel_rfl) (by kernel_rfl)<|aH<|sS r<|aG (fr':=[(0,aI)]) r r<|aU<|aH<|mI r<|aN r (gC r r)<|aG (fr':=[(0,aI),(4,aB)]) r r<|cN h r (fun b1 h1=>?_) (fun b1 h1=>?_)
 ·
  refine aH<|mI r<|bx h1 fun x2 y2 h3=>kB (bC (v:=aS) r (aEX y2) ⟨lr,trivial⟩ r r r)<|bx h3 fun x4 y4 h5=>aN r (aO6 r r (aJq y4).1)<|sS r<|aG (fr':=[(2,aS)]) r r<|bJ<|aQ ?_
  obtain rfl:=sy h5
  exact bI (rs':=[.tmp 2]) r<|bX (v:=aS) r<|bG<|aP [] r r r lr aC
 ·
  refine bL<|cY<|aH<|mI r<|aN r (aPR r)<|bx h1 fun x7 y7 h8=>kB (bC (v:=aS) r (aEX y7) ⟨lr,trivial⟩ r r r)<|sS r<|aG (fr':=[(2,aS)]) r r<|bJ ?_
  obtain rfl:=sy h8
  exact bI (rs':=[.tmp 2]) r<|bX (v:=aS) r<|bG<|aP [] r r r lr aC
noncomputable def aDj (p0n:Int):Option (List UInt8) :=
 cond (decide (p0n<1)) (some ([]:List UInt8)) ((aBc p0n).bind fun x3=>(cat ([114]:List UInt8) x3).bind fun x5=>some (([114]:List UInt8)++x3))
theorem aOc {p0n:Int}{z:(List UInt8)} (h:aDj p0n=some z):cR Tryz.prog 159 [ci p0n] [] (.c (.str z)) []:=by
 unfold aDj at h
 refine dQ (fn:=Tryz.f159) [0,2,4] (by kernel_rfl) Tryz.func159 r (by kernel_rfl) (by kernel_rfl)<|aH<|sS r<|aG (fr':=[(0,aI)]) r r<|aU<|aH<|mI r<|aN r (gC r r)<|aG (fr':=[(0,aI),(4,aB)]) r r<|cN h r (fun b1 h1=>?_) (fun b1 h1=>?_)
 ·
  refine aH<|sS r<|aG (fr':=[(2,aS)]) r r<|bJ<|aQ ?_
  obtain rfl:=sy h1
  exact bI (rs':=[.tmp 2]) r<|bX (v:=aS) r<|bG<|aP [] r r r lr aC
 ·
  refine bL<|cY<|aH<|mI r<|bx h1 fun x3 y3 h4=>kB (bC (v:=aS) r (aIR y3) ⟨lr,trivial⟩ r r r)<|bx h4 fun x5 y5 h6=>aN r (aO6 r r (aJq y5).1)<|sS r<|aG (fr':=[(2,aS)]) r r<|bJ ?_
  obtain rfl:=sy h6
  exact bI (rs':=[.tmp 2]) r<|bX (v:=aS) r<|bG<|aP [] r r r lr aC
noncomputable def zN (aBq:(List UInt8)) (s4:(Int × Int)):Option (dU (Int × Int) Int) :=
 cond (cond (decide (s4.2<((aBq).length:Int))) (decide (((aBq).length:Int)≤20)) false) ((mP aBq s4.2).bind fun x6=>some (dU.next ((IntKind.wrap .i64 ((IntKind.wrap .i64 ((IntKind.wrap .i64 (10*s4.1))+(IntKind.wrap .i64 ((x6).toNat:Int)))) - 48)),(IntKind.wrap .i64 (s4.2+1))))) (some (dU.out s4.1))
noncomputable def yQ (aBq:(List UInt8)):Option (Int × Bool) :=
 (gL (zN aBq) ((0,1))).bind fun x1=>((gd ((decide (x1<1))==false) (aDj x1)).bind fun x10=>cond (cond (decide (x1<1)) true (!decide (x10=aBq))) (some (0,false)) (some (x1,true)))
theorem aEY {aBq:(List UInt8)}{z:(Int × Bool)} (h:yQ aBq=some z):cR Tryz.prog 89 [.c (.str aBq)] [] (.tup [ci z.1,.c (.bool z.2)]) []:=by
 unfold yQ at h
 refine dQ (fn:=Tryz.f89) [0,2,3,4,5,14,32] (by kernel_rfl) Tryz.func89 r (by kernel_rfl) (by kernel_rfl)<|aH<|sI r<|sB r<|aG (fr':=[(0,aS)]) r r<|aH<|sI r<|aG (fr':=[(0,aS),(4,aI)]) r r<|aU<|aU<|bA<|sI r<|aG (fr':=[(0,aS),(4,aI),(5,aI)]) r r<|bx h fun x1 y1 h2=>gY kS (fun j3=>x1=j3) (fun (j3:Int)=>([(0,.c (.str aBq)),(4,ci j3)]:Fr)) (fun (j3:Int)=>([]:St)) ?_ ?_
 ·
  refine cE<|gU _ (fun (s4:(Int × Int))=>([(0,.c (.str aBq)),(4,ci s4.1),(5,ci s4.2)]:Fr)) (fun (s4:(Int × Int))=>([]:St)) y1 (bH [] 0 r r r r lG aC) ?_
  intro s4 st4 hs4 ho4
  unfold zN at hs4
  refine aU<|aH<|mI r<|mS r<|aN r (kV uD r)<|aN r (gC r r)<|mB r<|og r r r (fun u=>(bS (v:=aS) r))<|og r r r (fun u=>(kV uD (gx r u)))<|og r r r (fun u=>(qH (gx r u) r))<|aN r (cB r r r (fun e=>fU e))<|aG (fr':=[(0,aS),(4,aI),(5,aI),(14,aB)]) r r<|cN hs4 r (fun b5 h5=>?_) (fun b5 h5=>?_)
  ·
   exact bL<|cY<|aU<|cE<|bA<|mI r<|aN r (aPQ r r)<|mS r<|mI r<|bx h5 fun x6 y6 h7=>aN r (aAU uD r r y6)<|aN r (aAZ tk5 tk3 r)<|aN r (fY r r)<|aN r (aNA r r)<|sI r<|dT (fr':=[(0,aS),(4,aI),(5,aI),(14,aB)]) r<|dH<|cY<|bA<|mI r<|aN r (fY r r)<|sI r<|dT (fr':=[(0,aS),(4,aI),(5,aI),(14,aB)]) r<|e_l _ (sy h7) (bH [] 0 r r r r lG aC)
  ·
   refine iA<|cX<|cX<|fS ?_
   have h8:=eZ h5 ho4
   exact kI _ (sy h8) (bH [] 0 r r r r kU aC)
 ·
  intro j3 hj9
  subst hj9
  refine cY<|aU<|aH<|mI r<|aN r (gC r r)<|mB r<|og r r r (fun u=>(bS (v:=aI) r))<|bx h2 fun x10 y10 h11=>uP r r (fun u=>bC (v:=aS) r (aOc (cZ y10 u)) ⟨(fH (gx r u) lr),trivial⟩ (gO (by repeat (first | exact fC | refine aZ r ?_ | refine aZ (rG r) ?_ | refine aZ rF ?_))) r r) ?_
  refine og r r r (fun u=>(bS (v:=aS) r))<|og r r r (fun u=>(vK (gx r u) (gx r u)))<|aN r (cM r r r (fun e=>fU e))<|aG (fr':=[(4,aI),(32,aB)]) r r<|cN h11 r (fun b12 h12=>?_) (fun b12 h12=>?_)
  ·
   refine aH<|sI r<|sB r<|aG (fr':=[(2,aI),(3,aB)]) r r<|bJ<|aQ ?_
   obtain rfl:=sy h12
   exact bI (rs':=[.tmp 2,.tmp 3]) r<|bX (v:=aI) r<|bX (v:=aB) r<|bG<|aP [] r r r (qQ r kU) aC
  ·
   refine bL<|cY<|aH<|mI r<|sI r<|sB r<|aG (fr':=[(2,aI),(3,aB)]) r r<|bJ ?_
   obtain rfl:=sy h12
   exact bI (rs':=[.tmp 2,.tmp 3]) r<|bX (v:=aI) r<|bX (v:=aB) r<|bG<|aP [] r r r (qQ r kU) aC
noncomputable def aAj (p0e:dP):Option Bool :=
 (uS p0e.Kind 1 35).bind fun x1=>(gd ((!x1)==false) (uS p0e.ID 0 2000)).bind fun x3=>(gd ((cond (!x1) true (!x3))==false) (uS p0e.Time 0 1099511627776)).bind fun x5=>(gd ((cond (cond (!x1) true (!x3)) true (!x5))==false) (aCj p0e)).bind fun x7=>cond (cond (cond (cond (!x1) true (!x3)) true (!x5)) true (!x7)) (some false) ((wD p0e.Kind).bind fun x11=>cond x11 ((zO p0e).bind fun x14=>(xR x14).bind fun x16=>some x16) (cond (decide (p0e.Kind=1)) ((qI p0e.Name).bind fun x20=>(gd (x20==true) (xS p0e.Key)).bind fun x22=>(gd ((cond x20 x22 false)==true) (aBt p0e.Data)).bind fun x24=>(gd ((cond (cond x20 x22 false) x24 false)==true) (uS p0e.N 0 4294967295)).bind fun x26=>some (cond (cond (cond x20 x22 false) x24 false) x26 false)) (cond (decide (p0e.Kind=2)) (some (decide (1≤p0e.N))) (cond (decide (p0e.Kind=5)) ((uS p0e.Code 1 30).bind fun x32=>some x32) (cond (decide (p0e.Kind=8)) ((uS p0e.N 1 1000).bind fun x36=>some x36) (cond (decide (p0e.Kind=11)) ((uS p0e.Code 1 4).bind fun x40=>some x40) (((cond (decide (p0e.Kind=10)) (some (decide (p0e.Kind=10))) (cond (decide (p0e.Kind=22)) (some (decide (p0e.Kind=22))) (some (decide (p0e.Kind=25))))):Option Bool).bind fun x43=>(cond x43 (some (decide (((p0e.Name).length:Int)≤4096))) (cond (decide (p0e.Kind=17)) ((qI p0e.Name).bind fun x52=>(gd (x52==true) (xS p0e.Key)).bind fun x54=>some (cond x52 x54 false)) (cond (decide (p0e.Kind=20)) ((yQ p0e.Key).bind fun x58=>some x58.2) (cond (decide (p0e.Kind=26)) ((xS p0e.Key).bind fun x62=>some x62) (cond (decide (p0e.Kind=33)) (some (decide (((p0e.Name).length:Int)≤64))) (some true)))))))))))))
theorem aK7 {p0e:dP}{z:Bool} (h:aAj p0e=some z):cR Tryz.prog 33 [.agg (AV.cs (eU p0e))] [] (.c (.bool z)) []:=by
 unfold aAj at h
 refine dQ (fn:=Tryz.f33) [0,1,2,4,25,28,33,34,54,59,64,69,74,82,92,101,106] (by kernel_rfl) Tryz.func33 r (by kernel_rfl) (by kernel_rfl)<|aH<|iR (v:=.agg aT) (n:=0) (cs:=aT) (σ':=[aT]) r r r r r<|sB r<|aG (fr':=[(1,aD)]) r r<|aU<|aH<|aN r (bE aAJ r)<|aN r (aJ (v:=aI) gA r r r)<|bx h fun x1 y1 h2=>kB (bC (v:=aB) r (vY y1) lG r r r)<|aN r (fP r)<|mB r<|og r r r (fun u=>(bE aF5 r))<|og r r r (fun u=>(aJ (v:=aI) gA (gx r u) r r))<|bx h2 fun x3 y3 h4=>uP r r (fun u=>bC (v:=aB) r (vY (cZ y3 u)) ⟨(fH (gx r u) lr),lr,lr,trivial⟩ (gO (by repeat (first | exact fC | refine aZ r ?_ | refine aZ (rG r) ?_ | refine aZ rF ?_))) r r) ?_
 refine og r r r (fun u=>(fP (gx r u)))<|aN r (cM r r r (fun e=>fU e))<|mB r<|og r r r (fun u=>(bE aF6 r))<|og r r r (fun u=>(aJ (v:=aI) gA (gx r u) r r))<|bx h4 fun x5 y5 h6=>uP r r (fun u=>bC (v:=aB) r (vY (cZ y5 u)) ⟨(fH (gx r u) lr),lr,lr,trivial⟩ (gO (by repeat (first | exact fC | refine aZ r ?_ | refine aZ (rG r) ?_ | refine aZ rF ?_))) r r) ?_
 refine og r r r (fun u=>(fP (gx r u)))<|aN r (cM r r r (fun e=>fU e))<|mB r<|og r r r (fun u=>(dN (us:=aT) aDp r r r r))<|bx h6 fun x7 y7 h8=>uP r r (fun u=>bC (v:=aB) r (aMA (cZ y7 u)) ⟨(fH (gx r u) (bQ r aGD)),trivial⟩ (gO (by repeat (first | exact fC | refine aZ r ?_ | refine aZ (rG r) ?_ | refine aZ rF ?_))) r r) ?_
 refine og r r r (fun u=>(fP (gx r u)))<|aN r (cM r r r (fun e=>fU e))<|aG (fr':=[(1,aD),(25,aB)]) r r<|cN h8 r (fun b9 h9=>?_) (fun b9 h9=>?_)
 ·
  refine aH<|sB r<|aG (fr':=[(2,aB)]) r r<|bJ<|aQ ?_
  obtain rfl:=sy h9
  exact bI (rs':=[.tmp 2]) r<|bX (v:=aB) r<|bG<|aP [] r r r lr aC
 ·
  refine bL<|cY<|aU<|aH<|aN r (bE aAJ r)<|aN r (aJ (v:=aI) gA r r r)<|bx h9 fun x11 y11 h12=>kB (bC (v:=aB) r (aHe y11) ⟨lr,trivial⟩ r r r)<|aG (fr':=[(1,aD),(28,aB)]) r r<|cN h12 r (fun b13 h13=>?_) (fun b13 h13=>?_)
  ·
   refine aH<|aN r (dN (us:=aT) aDp r r r r)<|bx h13 fun x14 y14 h15=>kB (bC (v:=.agg aW) r (aHf y14) ⟨(bQ r aGD),trivial⟩ r r r)<|bx h15 fun x16 y16 h17=>kB (bC (v:=aB) r (aK5 y16) ⟨(bQ r aFh),trivial⟩ r r r)<|sB r<|aG (fr':=[(2,aB)]) r r<|bJ<|aQ ?_
   obtain rfl:=sy h17
   exact bI (rs':=[.tmp 2]) r<|bX (v:=aB) r<|bG<|aP [] r r r lr aC
  ·
   refine bL<|cY<|aU<|aH<|aN r (bE aAJ r)<|aN r (aJ (v:=aI) gA r r r)<|aG (fr':=[(1,aD),(33,aI)]) r r<|cE<|aH<|aN r (cC r r)<|sB r<|aG (fr':=[(1,aD),(33,aI),(34,aB)]) r r<|cN h13 r (fun b19 h19=>?_) (fun b19 h19=>?_)
   ·
    refine aH<|aN r (bE xZ r)<|aN r (aJ (v:=aS) mG r r r)<|bx h19 fun x20 y20 h21=>kB (bC (v:=aB) r (wN y20) ⟨lr,trivial⟩ r r r)<|mB r<|og r r r (fun u=>(bE yA r))<|og r r r (fun u=>(aJ (v:=aS) mG (gx r u) r r))<|bx h21 fun x22 y22 h23=>uP r r (fun u=>bC (v:=aB) r (aC9 (cZ y22 u)) ⟨(fH (gx r u) lr),trivial⟩ (gO (by repeat (first | exact fC | refine aZ r ?_ | refine aZ (rG r) ?_ | refine aZ rF ?_))) r r) ?_
    refine aN r (cB r r r (fun e=>fU e))<|mB r<|og r r r (fun u=>(bE aA5 r))<|og r r r (fun u=>(dN (us:=cH) jC (gx r u) r r r))<|bx h23 fun x24 y24 h25=>uP r r (fun u=>bC (v:=aB) r (aK6 (cZ y24 u)) ⟨(fH (gx r u) (bQ r zA)),trivial⟩ (gO (by repeat (first | exact fC | refine aZ r ?_ | refine aZ (rG r) ?_ | refine aZ rF ?_))) r r) ?_
    refine aN r (cB r r r (fun e=>fU e))<|mB r<|og r r r (fun u=>(bE aAd r))<|og r r r (fun u=>(aJ (v:=aI) gA (gx r u) r r))<|bx h25 fun x26 y26 h27=>uP r r (fun u=>bC (v:=aB) r (vY (cZ y26 u)) ⟨(fH (gx r u) lr),lr,lr,trivial⟩ (gO (by repeat (first | exact fC | refine aZ r ?_ | refine aZ (rG r) ?_ | refine aZ rF ?_))) r r) ?_
    refine aN r (cB r r r (fun e=>fU e))<|sB r<|aG (fr':=[(2,aB)]) r r<|bJ<|bM<|aQ ?_
    obtain rfl:=sy h27
    exact bI (rs':=[.tmp 2]) r<|bX (v:=aB) r<|bG<|aP [] r r r lr aC
   ·
    refine aH<|aN r (cC r r)<|sB r<|aG (fr':=[(1,aD),(33,aI),(54,aB)]) r r<|cN h19 r (fun b29 h29=>?_) (fun b29 h29=>?_)
    ·
     refine aH<|aN r (bE aAd r)<|aN r (aJ (v:=aI) gA r r r)<|aN r (qR r r)<|sB r<|aG (fr':=[(2,aB)]) r r<|bJ<|bM<|aQ ?_
     obtain rfl:=sy h29
     exact bI (rs':=[.tmp 2]) r<|bX (v:=aB) r<|bG<|aP [] r r r lr aC
    ·
     refine aH<|aN r (cC r r)<|sB r<|aG (fr':=[(1,aD),(33,aI),(59,aB)]) r r<|cN h29 r (fun b31 h31=>?_) (fun b31 h31=>?_)
     ·
      refine aH<|aN r (bE aBH r)<|aN r (aJ (v:=aI) gA r r r)<|bx h31 fun x32 y32 h33=>kB (bC (v:=aB) r (vY y32) lG r r r)<|sB r<|aG (fr':=[(2,aB)]) r r<|bJ<|bM<|aQ ?_
      obtain rfl:=sy h33
      exact bI (rs':=[.tmp 2]) r<|bX (v:=aB) r<|bG<|aP [] r r r lr aC
     ·
      refine aH<|aN r (cC r r)<|sB r<|aG (fr':=[(1,aD),(33,aI),(64,aB)]) r r<|cN h31 r (fun b35 h35=>?_) (fun b35 h35=>?_)
      ·
       refine aH<|aN r (bE aAd r)<|aN r (aJ (v:=aI) gA r r r)<|bx h35 fun x36 y36 h37=>kB (bC (v:=aB) r (vY y36) lG r r r)<|sB r<|aG (fr':=[(2,aB)]) r r<|bJ<|bM<|aQ ?_
       obtain rfl:=sy h37
       exact bI (rs':=[.tmp 2]) r<|bX (v:=aB) r<|bG<|aP [] r r r lr aC
      ·
       refine aH<|aN r (cC r r)<|sB r<|aG (fr':=[(1,aD),(33,aI),(69,aB)]) r r<|cN h35 r (fun b39 h39=>?_) (fun b39 h39=>?_)
       ·
        refine aH<|aN r (bE aBH r)<|aN r (aJ (v:=aI) gA r r r)<|bx h39 fun x40 y40 h41=>kB (bC (v:=aB) r (vY y40) lG r r r)<|sB r<|aG (fr':=[(2,aB)]) r r<|bJ<|bM<|aQ ?_
        obtain rfl:=sy h41
        exact bI (rs':=[.tmp 2]) r<|bX (v:=aB) r<|bG<|aP [] r r r lr aC
       ·
        obtain ⟨x43,y43,h44⟩:=lB h39
        refine jR (fun j45=>x43=j45) (fun (j45:Bool)=>([(1,aD),(33,ci p0e.Kind),(74,.c (.bool j45))]:Fr)) (fun (j45:Bool)=>([[ci p0e.ID,ci p0e.Kind,ci p0e.Time,ci p0e.Seq,ci p0e.Ref,ci p0e.N,ci p0e.Code,.c (.str p0e.Name),.c (.str p0e.Key),ci p0e.Data.Kind,ci p0e.Data.Int,.c (.str p0e.Data.Text),.c (PV.ls 5 bO p0e.Data.Items),.c (PV.ls 1 fZ p0e.Data.Keys),.c (.str p0e.Opts.Queue),ci p0e.Opts.ToStart,ci p0e.Opts.ToClose,ci p0e.Opts.Total,ci p0e.Opts.Beat,ci p0e.Opts.First,ci p0e.Opts.Coef,ci p0e.Opts.Most,ci p0e.Opts.Attempts,.c (PV.ls 1 fZ p0e.Opts.Fatal)]]:St)) ?_ ?_
        ·
         refine aH<|aN r (cC r r)<|sB r<|aG (fr':=[(1,aD),(33,aI),(74,aB)]) r r<|cN y43 r (fun b46 h46=>?_) (fun b46 h46=>?_)
         ·
          exact bL<|kI _ (sy h46) (bH [] 1 r r r r lG (cV r aC))
         ·
          refine aH<|aN r (cC r r)<|sB r<|aG (fr':=[(1,aD),(33,aI),(74,aB)]) r r<|cN h46 r (fun b47 h47=>?_) (fun b47 h47=>?_)
          ·
           exact bL<|kI _ (sy h47) (bH [] 1 r r r r lG (cV r aC))
          ·
           exact bA<|aN r (cC r r)<|sB r<|dT (fr':=[(1,aD),(33,aI),(74,aB)]) r<|kI _ (sy h47) (bH [] 1 r r r r lG (cV r aC))
        ·
         intro j45 hj48
         subst hj48
         refine cN h44 r (fun b49 h49=>?_) (fun b49 h49=>?_)
         ·
          refine aH<|aN r (bE xZ r)<|aN r (aJ (v:=aS) mG r r r)<|aN r (kV uD r)<|aN r (qH r r)<|sB r<|aG (fr':=[(2,aB)]) r r<|bJ<|bM<|aQ ?_
          obtain rfl:=sy h49
          exact bI (rs':=[.tmp 2]) r<|bX (v:=aB) r<|bG<|aP [] r r r lr aC
         ·
          refine aH<|aN r (cC r r)<|sB r<|aG (fr':=[(1,aD),(33,aI),(82,aB)]) r r<|cN h49 r (fun b51 h51=>?_) (fun b51 h51=>?_)
          ·
           refine aH<|aN r (bE xZ r)<|aN r (aJ (v:=aS) mG r r r)<|bx h51 fun x52 y52 h53=>kB (bC (v:=aB) r (wN y52) ⟨lr,trivial⟩ r r r)<|mB r<|og r r r (fun u=>(bE yA r))<|og r r r (fun u=>(aJ (v:=aS) mG (gx r u) r r))<|bx h53 fun x54 y54 h55=>uP r r (fun u=>bC (v:=aB) r (aC9 (cZ y54 u)) ⟨(fH (gx r u) lr),trivial⟩ (gO (by repeat (first | exact fC | refine aZ r ?_ | refine aZ (rG r) ?_ | refine aZ rF ?_))) r r) ?_
           refine aN r (cB r r r (fun e=>fU e))<|sB r<|aG (fr':=[(2,aB)]) r r<|bJ<|bM<|aQ ?_
           obtain rfl:=sy h55
           exact bI (rs':=[.tmp 2]) r<|bX (v:=aB) r<|bG<|aP [] r r r lr aC
          ·
           refine aH<|aN r (cC r r)<|sB r<|aG (fr':=[(1,aD),(33,aI),(92,aB)]) r r<|cN h51 r (fun b57 h57=>?_) (fun b57 h57=>?_)
           ·
            refine aH<|aN r (bE yA r)<|aN r (aJ (v:=aS) mG r r r)<|bx h57 fun x58 y58 h59=>kB (bC (v:=.tup [aI,aB]) r (aEY y58) ⟨lr,trivial⟩ r r r)<|mV (v:=.tup [aI,aB]) r<|aN r (aAu (v:=aI) r r)<|aN r (aAu (v:=aB) r r)<|sI r<|sB r<|aG (fr':=[(4,aB)]) r r<|aH<|mB r<|sB r<|aG (fr':=[(2,aB)]) r r<|bJ<|bM<|aQ ?_
            obtain rfl:=sy h59
            exact bI (rs':=[.tmp 2]) r<|bX (v:=aB) r<|bG<|aP [] r r r lr aC
           ·
            refine aH<|aN r (cC r r)<|sB r<|aG (fr':=[(1,aD),(33,aI),(101,aB)]) r r<|cN h57 r (fun b61 h61=>?_) (fun b61 h61=>?_)
            ·
             refine aH<|aN r (bE yA r)<|aN r (aJ (v:=aS) mG r r r)<|bx h61 fun x62 y62 h63=>kB (bC (v:=aB) r (aC9 y62) ⟨lr,trivial⟩ r r r)<|sB r<|aG (fr':=[(2,aB)]) r r<|bJ<|bM<|aQ ?_
             obtain rfl:=sy h63
             exact bI (rs':=[.tmp 2]) r<|bX (v:=aB) r<|bG<|aP [] r r r lr aC
            ·
             refine aH<|aN r (cC r r)<|sB r<|aG (fr':=[(1,aD),(106,aB)]) r r<|cN h61 r (fun b65 h65=>?_) (fun b65 h65=>?_)
             ·
              refine aH<|aN r (bE xZ r)<|aN r (aJ (v:=aS) mG r r r)<|aN r (kV uD r)<|aN r (qH r r)<|sB r<|aG (fr':=[(2,aB)]) r r<|bJ<|bM<|aQ ?_
              obtain rfl:=sy h65
              exact bI (rs':=[.tmp 2]) r<|bX (v:=aB) r<|bG<|aP [] r r r lr aC
             ·
              refine bL<|dH<|cY<|aH<|sB r<|aG (fr':=[(2,aB)]) r r<|bJ ?_
              obtain rfl:=sy h65
              exact bI (rs':=[.tmp 2]) r<|bX (v:=aB) r<|bG<|aP [] r r r lr aC
