import Derived.Test.YtnigjppddilpcaaGreatDoorGETy
namespace Go.Proofs.YtnigjppddilpcaaGreatDoor
open Go Abs
set_option maxRecDepth 100000
set_option linter.unusedVariables false
set_option linter.unusedSimpArgs false
noncomputable def zS (aDN:(List (List UInt8))) (s4:Int):Option (dU Int (Fl Bool Unit)) :=
 cond (decide (s4<((aDN).length:Int))) ((nG aDN (IntKind.wrap .i64 (s4 - 1))).bind fun x6=>(nG aDN s4).bind fun x8=>cond (!Op.bytesLess x6 x8) (some (dU.out (Fl.done false))) (some (dU.next (IntKind.wrap .i64 (s4+1))))) (some (dU.out (Fl.go ())))
noncomputable def aAz (aDN:(List (List UInt8))):Option Bool :=
 (fK (zS aDN) (1)).bind fun x1=>Fl.next x1 (fun j3=>(some true))
theorem aJI {aDN:(List (List UInt8))}{z:Bool} (h:aAz aDN=some z):cQ Tryz.prog 180 [.c (PV.ls 1 fI aDN)] [] (.c (.bool z)) []:=by
 unfold aAz at h
 refine dF (fn:=Tryz.f180) [0,2,3,7,19] (by kernel_rfl) Tryz.func180 r (by kernel_rfl) (by kernel_rfl)<|aH<|sB r<|aG (fr':=[(0,aL)]) r r<|aZ<|aH<|sI r<|aG (fr':=[(0,aL),(3,aI)]) r r<|bx h fun x1 y1 h2=>gZ lB (fun j3=>x1=Fl.go j3) (fun (j3:Unit)=>([]:Fr)) (fun (j3:Unit)=>([]:St)) ?_ ?_
 ·
  refine cH<|gV _ (fun (s4:Int)=>([(0,.c (PV.ls 1 fI aDN)),(3,ci s4)]:Fr)) (fun (s4:Int)=>([]:St)) y1 (bC [] 0 r r r r jN aD) ?_
  intro s4 st4 hs4 ho4
  unfold zS at hs4
  refine aZ<|aH<|mI r<|mL r<|aR r (hZ zD (eK r))<|aR r (gI r r)<|aG (fr':=[(0,aL),(3,aI),(7,aB)]) r r<|cG hs4 r (fun b5 h5=>?_) (fun b5 h5=>?_)
  ·
   refine bF<|cZ<|aZ<|cH<|aZ<|kV [.q 0,.q 1,.q 2,.q 3,.q 4,.q 5,.q 6,.q 7,.q 8,.q 9] [(some 10,[0]),(some 11,[3]),(some 12,[11]),(some 13,[10,12]),(some 14,[13]),(some 15,[0]),(some 16,[3]),(some 17,[15,16]),(some 18,[17]),(some 19,[14,18])] [0,0,2,7,15,0,0,96,224,511] (by kernel_rfl)<|dq r r (bN (v:=aL) r)<|dq r r (bN (v:=aI) r)<|dq r r (aFA r r)<|bx h5 fun x6 y6 h7=>dq r r (lF (cs:=[PV.str _]) aAR (eK r) r y6 r)<|dq r r (gP (p:=PV.str _) lP r r)<|dq r r (bN (v:=aL) r)<|dq r r (bN (v:=aI) r)<|bx h7 fun x8 y8 h9=>dq r r (lF (cs:=[PV.str _]) aAR (eK r) r y8 r)<|dq r r (gP (p:=PV.str _) lP r r)<|dq r r (aQ8 r r)<|aAq (fr':=[(0,aL),(3,aI),(19,aB)]) r r<|cG h9 r (fun b10 h10=>?_) (fun b10 h10=>?_)
   ·
    refine aH<|sB r<|aG (fr':=[(2,aB)]) r r<|bK<|bO<|aP<|aP<|bO<|aP<|aP ?_
    have h11:=eR h10 ho4
    have h12:=fL h11 h2
    obtain rfl:=sy h12
    exact bJ (rs':=[.tmp 2]) r<|bS (v:=aB) r<|bI<|aN [] r r r lr aD
   ·
    exact bF<|cW<|cZ<|bB<|mI r<|aR r (gC r r)<|sI r<|dM (fr':=[(0,aL),(3,aI),(19,aB)]) r<|zO _ (sy h10) (bC [] 0 r r r r jN aD)
  ·
   refine hG<|cY<|cY<|fP ?_
   have h14:=eR h5 ho4
   exact iQ _ (sy h14) (bC [] 0 r r r r trivial aD)
 ·
  intro j3 hj15
  have h15:=lV hj15 h2
  refine cZ<|aH<|sB r<|aG (fr':=[(2,aB)]) r r<|bK ?_
  obtain rfl:=sy h15
  exact bJ (rs':=[.tmp 2]) r<|bS (v:=aB) r<|bI<|aN [] r r r lr aD
noncomputable def uY (aEL:aQ→Option Bool) (p0C:aQ) (s4:Int):Option (dU Int (Fl Bool Unit)) :=
 cond (decide (s4<((p0C.Items).length:Int))) ((nG p0C.Items s4).bind fun x6=>(aEL x6).bind fun x8=>cond (!x8) (some (dU.out (Fl.done false))) (some (dU.next (IntKind.wrap .i64 (s4+1))))) (some (dU.out (Fl.go ())))
noncomputable def pF:Nat→aQ→Option Bool
 | 0,_=>none
 | n+1,p0C =>
  (fK (uY (pF n) p0C) (0)).bind fun x1=>Fl.next x1 (fun j3=>(cond (decide (p0C.Kind=0)) (some (cond (cond (cond (decide (p0C.Int=0)) (decide (p0C.Text=([]:List UInt8))) false) (decide (((p0C.Items).length:Int)=0)) false) (decide (((p0C.Keys).length:Int)=0)) false)) (cond (decide (p0C.Kind=1)) (some (cond (cond (cond (cond (decide (p0C.Int=0)) true (decide (p0C.Int=1))) (decide (p0C.Text=([]:List UInt8))) false) (decide (((p0C.Items).length:Int)=0)) false) (decide (((p0C.Keys).length:Int)=0)) false)) (cond (decide (p0C.Kind=2)) (some (cond (cond (decide (p0C.Text=([]:List UInt8))) (decide (((p0C.Items).length:Int)=0)) false) (decide (((p0C.Keys).length:Int)=0)) false)) (cond (decide (p0C.Kind=3)) (some (cond (cond (decide (p0C.Int=0)) (decide (((p0C.Items).length:Int)=0)) false) (decide (((p0C.Keys).length:Int)=0)) false)) (cond (decide (p0C.Kind=4)) (some (cond (cond (decide (p0C.Int=0)) (decide (p0C.Text=([]:List UInt8))) false) (decide (((p0C.Keys).length:Int)=0)) false)) (cond (decide (p0C.Kind=5)) ((gd ((cond (cond (decide (p0C.Int=0)) (decide (p0C.Text=([]:List UInt8))) false) (decide (((p0C.Keys).length:Int)=((p0C.Items).length:Int))) false)==true) (aAz p0C.Keys)).bind fun x27=>some (cond (cond (cond (decide (p0C.Int=0)) (decide (p0C.Text=([]:List UInt8))) false) (decide (((p0C.Keys).length:Int)=((p0C.Items).length:Int))) false) x27 false)) (cond (decide (p0C.Kind=6)) (some (cond (cond (cond (decide (0≤p0C.Int)) (decide (p0C.Text=([]:List UInt8))) false) (decide (((p0C.Items).length:Int)=0)) false) (decide (((p0C.Keys).length:Int)=0)) false)) (some false)))))))))
theorem aFm:∀ n:Nat,(∀ {p0C:aQ}{z:Bool},pF n p0C=some z→cQ Tryz.prog 133 [.agg (AV.cs (fA p0C))] [] (.c (.bool z)) []):=by
 intro n
 induction n with
 | zero=>exact fun {p0C z} h=>absurd h (by simp [pF])
 | succ n ih =>
  have ih_ref02xWellFormed:=@ih
  intro p0C z h
  rw [pF] at h
  refine dF (fn:=Tryz.f133) [0,1,2,3,8,17,19,20,42,69,86,103,119,143] (by kernel_rfl) Tryz.func133 r (by kernel_rfl) (by kernel_rfl)<|aH<|jK (v:=.agg cE) (n:=0) (cs:=cE) (σ':=[cE]) r r r r r<|sB r<|aG (fr':=[(1,aE)]) r r<|aZ<|aH<|sI r<|aG (fr':=[(1,aE),(3,aI)]) r r<|bx h fun x1 y1 h2=>gZ lB (fun j3=>x1=Fl.go j3) (fun (j3:Unit)=>([(1,aE)]:Fr)) (fun (j3:Unit)=>([[ci p0C.Kind,ci p0C.Int,.c (.str p0C.Text),.c (PV.ls 5 bT p0C.Items),.c (PV.ls 1 fI p0C.Keys)]]:St)) ?_ ?_
  ·
   refine cH<|gV _ (fun (s4:Int)=>([(1,aE),(3,ci s4)]:Fr)) (fun (s4:Int)=>([[ci p0C.Kind,ci p0C.Int,.c (.str p0C.Text),.c (PV.ls 5 bT p0C.Items),.c (PV.ls 1 fI p0C.Keys)]]:St)) y1 (bC [] 1 r r r r jN (bR r aD)) ?_
   intro s4 st4 hs4 ho4
   unfold uY at hs4
   refine aZ<|aH<|mI r<|aR r (bD iJ r)<|aR r (aK (v:=aL) nS r r r)<|aR r (hZ vX (eK r))<|aR r (gI r r)<|aG (fr':=[(1,aE),(3,aI),(8,aB)]) r r<|cG hs4 r (fun b5 h5=>?_) (fun b5 h5=>?_)
   ·
    refine bF<|cZ<|aZ<|cH<|aH<|aR r (bD iJ r)<|aR r (aK (v:=aL) nS r r r)<|mI r<|bx h5 fun x6 y6 h7=>aR r (lF (cs:=[PV.int _ _,PV.int _ _,PV.str _,PV.ls _ _ _,PV.ls _ _ _]) uV (eK r) r y6 (eJ _))<|aR r (lT (us:=[PV.int _ _,PV.int _ _,PV.str _,PV.ls _ _ _,PV.ls _ _ _]) iO r r r)<|bx h7 fun x8 y8 h9=>lS (bL (v:=aB) r (ih_ref02xWellFormed y8) ⟨(bQ r kR5),trivial⟩ r r r)<|aR r (fE r)<|aG (fr':=[(1,aE),(3,aI),(17,aB)]) r r<|cG h9 r (fun b10 h10=>?_) (fun b10 h10=>?_)
    ·
     refine aH<|sB r<|aG (fr':=[(2,aB)]) r r<|bK<|bO<|aP<|aP<|bO<|aP<|aP ?_
     have h11:=eR h10 ho4
     have h12:=fL h11 h2
     obtain rfl:=sy h12
     exact bJ (rs':=[.tmp 2]) r<|bS (v:=aB) r<|bI<|aN [] r r r lr aD
    ·
     exact bF<|cW<|cZ<|bB<|mI r<|aR r (gC r r)<|sI r<|dM (fr':=[(1,aE),(3,aI),(17,aB)]) r<|zO _ (sy h10) (bC [] 1 r r r r jN (bR r aD))
   ·
    refine hG<|cY<|cY<|fP ?_
    have h14:=eR h5 ho4
    exact iQ _ (sy h14) (bC [] 1 r r r r ⟨lr,trivial⟩ (bR r aD))
  ·
   intro j3 hj15
   have h15:=lV hj15 h2
   refine cZ<|aZ<|aH<|aR r (bD mE r)<|aR r (aK (v:=aI) fM r r r)<|aG (fr':=[(1,aE),(19,aI)]) r r<|cH<|aH<|aR r (bU r r)<|sB r<|aG (fr':=[(1,aE),(19,aI),(20,aB)]) r r<|cG h15 r (fun b16 h16=>?_) (fun b16 h16=>?_)
   ·
    refine aH<|aR r (bD sF r)<|aR r (aK (v:=aI) fM r r r)<|aR r (bU r r)<|mB r<|og r r r (fun u=>(bD uP r))<|og r r r (fun u=>(aK (v:=aS) lP (gx r u) r r))<|og r r r (fun u=>(qX (gx r u) r))<|aR r (bV r r r (fun e=>fJ e))<|mB r<|og r r r (fun u=>(bD iJ r))<|og r r r (fun u=>(aK (v:=aL) nS (gx r u) r r))<|og r r r (fun u=>(hZ vX (eK (gx r u))))<|og r r r (fun u=>(bU (gx r u) r))<|aR r (bV r r r (fun e=>fJ e))<|mB r<|og r r r (fun u=>(bD oN r))<|og r r r (fun u=>(aK (v:=aL) rC (gx r u) r r))<|og r r r (fun u=>(hZ zD (eK (gx r u))))<|og r r r (fun u=>(bU (gx r u) r))<|aR r (bV r r r (fun e=>fJ e))<|sB r<|aG (fr':=[(2,aB)]) r r<|bK<|bO<|aP ?_
    obtain rfl:=sy h16
    exact bJ (rs':=[.tmp 2]) r<|bS (v:=aB) r<|bI<|aN [] r r r lr aD
   ·
    refine aH<|aR r (bU r r)<|sB r<|aG (fr':=[(1,aE),(19,aI),(42,aB)]) r r<|cG h16 r (fun b18 h18=>?_) (fun b18 h18=>?_)
    ·
     refine aH<|aR r (bD sF r)<|aR r (aK (v:=aI) fM r r r)<|aR r (bU r r)<|mB r<|og r r r (fun u=>(bD sF r))<|og r r r (fun u=>(aK (v:=aI) fM (gx r u) r r))<|og r r r (fun u=>(bU (gx r u) r))<|aR r (cN r r r (fun e=>fJ e))<|mB r<|og r r r (fun u=>(bD uP r))<|og r r r (fun u=>(aK (v:=aS) lP (gx r u) r r))<|og r r r (fun u=>(qX (gx r u) r))<|aR r (bV r r r (fun e=>fJ e))<|mB r<|og r r r (fun u=>(bD iJ r))<|og r r r (fun u=>(aK (v:=aL) nS (gx r u) r r))<|og r r r (fun u=>(hZ vX (eK (gx r u))))<|og r r r (fun u=>(bU (gx r u) r))<|aR r (bV r r r (fun e=>fJ e))<|mB r<|og r r r (fun u=>(bD oN r))<|og r r r (fun u=>(aK (v:=aL) rC (gx r u) r r))<|og r r r (fun u=>(hZ zD (eK (gx r u))))<|og r r r (fun u=>(bU (gx r u) r))<|aR r (bV r r r (fun e=>fJ e))<|sB r<|aG (fr':=[(2,aB)]) r r<|bK<|bO<|aP ?_
     obtain rfl:=sy h18
     exact bJ (rs':=[.tmp 2]) r<|bS (v:=aB) r<|bI<|aN [] r r r lr aD
    ·
     refine aH<|aR r (bU r r)<|sB r<|aG (fr':=[(1,aE),(19,aI),(69,aB)]) r r<|cG h18 r (fun b20 h20=>?_) (fun b20 h20=>?_)
     ·
      refine aH<|aR r (bD uP r)<|aR r (aK (v:=aS) lP r r r)<|aR r (qX r r)<|mB r<|og r r r (fun u=>(bD iJ r))<|og r r r (fun u=>(aK (v:=aL) nS (gx r u) r r))<|og r r r (fun u=>(hZ vX (eK (gx r u))))<|og r r r (fun u=>(bU (gx r u) r))<|aR r (bV r r r (fun e=>fJ e))<|mB r<|og r r r (fun u=>(bD oN r))<|og r r r (fun u=>(aK (v:=aL) rC (gx r u) r r))<|og r r r (fun u=>(hZ zD (eK (gx r u))))<|og r r r (fun u=>(bU (gx r u) r))<|aR r (bV r r r (fun e=>fJ e))<|sB r<|aG (fr':=[(2,aB)]) r r<|bK<|bO<|aP ?_
      obtain rfl:=sy h20
      exact bJ (rs':=[.tmp 2]) r<|bS (v:=aB) r<|bI<|aN [] r r r lr aD
     ·
      refine aH<|aR r (bU r r)<|sB r<|aG (fr':=[(1,aE),(19,aI),(86,aB)]) r r<|cG h20 r (fun b22 h22=>?_) (fun b22 h22=>?_)
      ·
       refine aH<|aR r (bD sF r)<|aR r (aK (v:=aI) fM r r r)<|aR r (bU r r)<|mB r<|og r r r (fun u=>(bD iJ r))<|og r r r (fun u=>(aK (v:=aL) nS (gx r u) r r))<|og r r r (fun u=>(hZ vX (eK (gx r u))))<|og r r r (fun u=>(bU (gx r u) r))<|aR r (bV r r r (fun e=>fJ e))<|mB r<|og r r r (fun u=>(bD oN r))<|og r r r (fun u=>(aK (v:=aL) rC (gx r u) r r))<|og r r r (fun u=>(hZ zD (eK (gx r u))))<|og r r r (fun u=>(bU (gx r u) r))<|aR r (bV r r r (fun e=>fJ e))<|sB r<|aG (fr':=[(2,aB)]) r r<|bK<|bO<|aP ?_
       obtain rfl:=sy h22
       exact bJ (rs':=[.tmp 2]) r<|bS (v:=aB) r<|bI<|aN [] r r r lr aD
      ·
       refine aH<|aR r (bU r r)<|sB r<|aG (fr':=[(1,aE),(19,aI),(103,aB)]) r r<|cG h22 r (fun b24 h24=>?_) (fun b24 h24=>?_)
       ·
        refine aH<|aR r (bD sF r)<|aR r (aK (v:=aI) fM r r r)<|aR r (bU r r)<|mB r<|og r r r (fun u=>(bD uP r))<|og r r r (fun u=>(aK (v:=aS) lP (gx r u) r r))<|og r r r (fun u=>(qX (gx r u) r))<|aR r (bV r r r (fun e=>fJ e))<|mB r<|og r r r (fun u=>(bD oN r))<|og r r r (fun u=>(aK (v:=aL) rC (gx r u) r r))<|og r r r (fun u=>(hZ zD (eK (gx r u))))<|og r r r (fun u=>(bU (gx r u) r))<|aR r (bV r r r (fun e=>fJ e))<|sB r<|aG (fr':=[(2,aB)]) r r<|bK<|bO<|aP ?_
        obtain rfl:=sy h24
        exact bJ (rs':=[.tmp 2]) r<|bS (v:=aB) r<|bI<|aN [] r r r lr aD
       ·
        refine aH<|aR r (bU r r)<|sB r<|aG (fr':=[(1,aE),(19,aI),(119,aB)]) r r<|cG h24 r (fun b26 h26=>?_) (fun b26 h26=>?_)
        ·
         refine aH<|aR r (bD sF r)<|aR r (aK (v:=aI) fM r r r)<|aR r (bU r r)<|mB r<|og r r r (fun u=>(bD uP r))<|og r r r (fun u=>(aK (v:=aS) lP (gx r u) r r))<|og r r r (fun u=>(qX (gx r u) r))<|aR r (bV r r r (fun e=>fJ e))<|mB r<|og r r r (fun u=>(bD oN r))<|og r r r (fun u=>(aK (v:=aL) rC (gx r u) r r))<|og r r r (fun u=>(hZ zD (eK (gx r u))))<|og r r r (fun u=>(bD iJ r))<|og r r r (fun u=>(aK (v:=aL) nS (gx r u) r r))<|og r r r (fun u=>(hZ vX (eK (gx r u))))<|og r r r (fun u=>(bU (gx r u) (gx r u)))<|aR r (bV r r r (fun e=>fJ e))<|mB r<|og r r r (fun u=>(bD oN r))<|og r r r (fun u=>(aK (v:=aL) rC (gx r u) r r))<|bx h26 fun x27 y27 h28=>sX r r (fun u=>bL (v:=aB) r (aJI (cU y27 u)) ⟨(eW (gx r u) lr),trivial⟩ (fT (by repeat (first | exact eN | refine aY r ?_ | refine aY (pP r) ?_ | refine aY pO ?_))) r r) ?_
         refine aR r (bV r r r (fun e=>fJ e))<|sB r<|aG (fr':=[(2,aB)]) r r<|bK<|bO<|aP ?_
         obtain rfl:=sy h28
         exact bJ (rs':=[.tmp 2]) r<|bS (v:=aB) r<|bI<|aN [] r r r lr aD
        ·
         refine aH<|aR r (bU r r)<|sB r<|aG (fr':=[(1,aE),(143,aB)]) r r<|cG h26 r (fun b30 h30=>?_) (fun b30 h30=>?_)
         ·
          refine aH<|aR r (bD sF r)<|aR r (aK (v:=aI) fM r r r)<|aR r (oI r r)<|mB r<|og r r r (fun u=>(bD uP r))<|og r r r (fun u=>(aK (v:=aS) lP (gx r u) r r))<|og r r r (fun u=>(qX (gx r u) r))<|aR r (bV r r r (fun e=>fJ e))<|mB r<|og r r r (fun u=>(bD iJ r))<|og r r r (fun u=>(aK (v:=aL) nS (gx r u) r r))<|og r r r (fun u=>(hZ vX (eK (gx r u))))<|og r r r (fun u=>(bU (gx r u) r))<|aR r (bV r r r (fun e=>fJ e))<|mB r<|og r r r (fun u=>(bD oN r))<|og r r r (fun u=>(aK (v:=aL) rC (gx r u) r r))<|og r r r (fun u=>(hZ zD (eK (gx r u))))<|og r r r (fun u=>(bU (gx r u) r))<|aR r (bV r r r (fun e=>fJ e))<|sB r<|aG (fr':=[(2,aB)]) r r<|bK<|bO<|aP ?_
          obtain rfl:=sy h30
          exact bJ (rs':=[.tmp 2]) r<|bS (v:=aB) r<|bI<|aN [] r r r lr aD
         ·
          refine bF<|cW<|cZ<|aH<|sB r<|aG (fr':=[(2,aB)]) r r<|bK ?_
          obtain rfl:=sy h30
          exact bJ (rs':=[.tmp 2]) r<|bS (v:=aB) r<|bI<|aN [] r r r lr aD
noncomputable def aBd (p0C:aQ):Option Bool:=lim fun n=>pF n p0C
theorem aF6 {p0C:aQ}{z:Bool} (h:aBd p0C=some z):cQ Tryz.prog 133 [.agg (AV.cs (fA p0C))] [] (.c (.bool z)) []:=by
 obtain ⟨n,hn⟩:=rV h
 exact (aFm n) hn
noncomputable def uA (p0n:Int) (nL:Int) (kW:Int):Option Bool :=
 some (cond (decide (nL≤p0n)) (decide (p0n≤kW)) false)
theorem uS {p0n:Int}{nL:Int}{kW:Int}{z:Bool} (h:uA p0n nL kW=some z):cQ Tryz.prog 152 [ci p0n,ci nL,ci kW] [] (.c (.bool z)) []:=by
 unfold uA at h
 refine dF (fn:=Tryz.f152) [0,1,2,6] (by kernel_rfl) Tryz.func152 r (by kernel_rfl) (by kernel_rfl)<|aH<|sB r<|aG (fr':=[(0,aI),(1,aI),(2,aI)]) r r<|aH<|mI r<|mI r<|aR r (oI r r)<|mB r<|og r r r (fun u=>(bN (v:=aI) r))<|og r r r (fun u=>(bN (v:=aI) r))<|og r r r (fun u=>(nM (gx r u) (gx r u)))<|aR r (bV r r r (fun e=>fJ e))<|sB r<|aG (fr':=[(6,aB)]) r r<|bK ?_
 obtain rfl:=sy h
 exact bJ (rs':=[.tmp 6]) r<|bS (v:=aB) r<|bI<|aN [] r r r lr aD
noncomputable def aAF (p0c:Int):Option Bool :=
 some (cond (cond (cond (cond (decide (97≤p0c)) (decide (p0c≤122)) false) true (cond (decide (65≤p0c)) (decide (p0c≤90)) false)) true (cond (decide (48≤p0c)) (decide (p0c≤57)) false)) true (decide (p0c=95)))
theorem aJK {p0c:Int}{z:Bool} (h:aAF p0c=some z):cQ Tryz.prog 158 [.c (.int .u8 p0c)] [] (.c (.bool z)) []:=by
 unfold aAF at h
 refine dF (fn:=Tryz.f158) [0,2] (by kernel_rfl) Tryz.func158 r (by kernel_rfl) (by kernel_rfl)<|aH<|sB r<|aG (fr':=[(0,aI)]) r r<|aH<|mI r<|aR r (oI r r)<|mB r<|og r r r (fun u=>(bN (v:=aI) r))<|og r r r (fun u=>(nM (gx r u) r))<|aR r (bV r r r (fun e=>fJ e))<|mB r<|og r r r (fun u=>(bN (v:=aI) r))<|og r r r (fun u=>(oI (gx r u) r))<|og r r r (fun u=>(bN (v:=aB) (gx r u)))<|fD r r (fun u=>fS r (bN (v:=aI) r))<|fD r r (fun u=>fS r (nM (gx r u) r))<|og r r r (fun u=>(bV (gx r u) r r (fun e=>pX u (fJ e))))<|aR r (cN r r r (fun e=>fJ e))<|mB r<|og r r r (fun u=>(bN (v:=aI) r))<|og r r r (fun u=>(oI (gx r u) r))<|og r r r (fun u=>(bN (v:=aB) (gx r u)))<|fD r r (fun u=>fS r (bN (v:=aI) r))<|fD r r (fun u=>fS r (nM (gx r u) r))<|og r r r (fun u=>(bV (gx r u) r r (fun e=>pX u (fJ e))))<|aR r (cN r r r (fun e=>fJ e))<|mB r<|og r r r (fun u=>(bN (v:=aI) r))<|og r r r (fun u=>(bU (gx r u) r))<|aR r (cN r r r (fun e=>fJ e))<|sB r<|aG (fr':=[(2,aB)]) r r<|bK ?_
 obtain rfl:=sy h
 exact bJ (rs':=[.tmp 2]) r<|bS (v:=aB) r<|bI<|aN [] r r r lr aD
noncomputable def aAD (p0s:(List UInt8)) (s10:Int):Option (dU Int (Fl Bool Unit)) :=
 cond (decide (s10<((p0s).length:Int))) ((nG p0s s10).bind fun x12=>(aAF ((x12).toNat:Int)).bind fun x14=>cond (!x14) (some (dU.out (Fl.done false))) (some (dU.next (IntKind.wrap .i64 (s10+1))))) (some (dU.out (Fl.go ())))
noncomputable def qY (p0s:(List UInt8)):Option Bool :=
 (gd ((cond (decide (((p0s).length:Int)<1)) true (decide (64<((p0s).length:Int))))==false) (nG p0s 0)).bind fun x1=>(gd (((cond (decide (((p0s).length:Int)<1)) true (decide (64<((p0s).length:Int))))==false)&&((decide (48≤((x1).toNat:Int)))==true)) (nG p0s 0)).bind fun x3=>cond (cond (cond (decide (((p0s).length:Int)<1)) true (decide (64<((p0s).length:Int)))) true (cond (decide (48≤((x1).toNat:Int))) (decide (((x3).toNat:Int)≤57)) false)) (some false) ((fK (aAD p0s) (0)).bind fun x7=>Fl.next x7 (fun j9=>(some true)))
theorem uR {p0s:(List UInt8)}{z:Bool} (h:qY p0s=some z):cQ Tryz.prog 86 [.c (.str p0s)] [] (.c (.bool z)) []:=by
 unfold qY at h
 refine dF (fn:=Tryz.f86) [0,2,3,21,25,32] (by kernel_rfl) Tryz.func86 r (by kernel_rfl) (by kernel_rfl)<|aH<|sB r<|aG (fr':=[(0,aS)]) r r<|aZ<|aH<|mS r<|aR r (kT uU r)<|aR r (gI r r)<|mB r<|og r r r (fun u=>(bN (v:=aS) r))<|og r r r (fun u=>(kT uU (gx r u)))<|og r r r (fun u=>(qW (gx r u) r))<|aR r (cN r r r (fun e=>fJ e))<|mB r<|og r r r (fun u=>(bN (v:=aS) r))<|bx h fun x1 y1 h2=>og r r r (fun u=>(aAx uU (gx r u) r (cU y1 u)))<|og r r r (fun u=>(oI (gx r u) r))<|og r r r (fun u=>(bN (v:=aB) (gx r u)))<|fD r r (fun u=>fS r (bN (v:=aS) r))<|bx h2 fun x3 y3 h4=>fD r r (fun u=>fS r (aAx uU (gx r u) r (cU y3 u)))<|fD r r (fun u=>fS r (nM (gx r u) r))<|og r r r (fun u=>(bV (gx r u) r r (fun e=>pX u (fJ e))))<|aR r (cN r r r (fun e=>fJ e))<|aG (fr':=[(0,aS),(21,aB)]) r r<|cG h4 r (fun b5 h5=>?_) (fun b5 h5=>?_)
 ·
  refine aH<|sB r<|aG (fr':=[(2,aB)]) r r<|bK<|aP ?_
  obtain rfl:=sy h5
  exact bJ (rs':=[.tmp 2]) r<|bS (v:=aB) r<|bI<|aN [] r r r lr aD
 ·
  refine bF<|cZ<|aZ<|aH<|sI r<|aG (fr':=[(0,aS),(3,aI)]) r r<|bx h5 fun x7 y7 h8=>gZ lB (fun j9=>x7=Fl.go j9) (fun (j9:Unit)=>([]:Fr)) (fun (j9:Unit)=>([]:St)) ?_ ?_
  ·
   refine cH<|gV _ (fun (s10:Int)=>([(0,.c (.str p0s)),(3,ci s10)]:Fr)) (fun (s10:Int)=>([]:St)) y7 (bC [] 0 r r r r jN aD) ?_
   intro s10 st10 hs10 ho10
   unfold aAD at hs10
   refine aZ<|aH<|mI r<|mS r<|aR r (kT uU r)<|aR r (gI r r)<|aG (fr':=[(0,aS),(3,aI),(25,aB)]) r r<|cG hs10 r (fun b11 h11=>?_) (fun b11 h11=>?_)
   ·
    refine bF<|cZ<|aZ<|cH<|aH<|mS r<|mI r<|bx h11 fun x12 y12 h13=>aR r (aAx uU r r y12)<|bx h13 fun x14 y14 h15=>lS (bL (v:=aB) r (aJK y14) ⟨lr,trivial⟩ r r r)<|aR r (fE r)<|aG (fr':=[(0,aS),(3,aI),(32,aB)]) r r<|cG h15 r (fun b16 h16=>?_) (fun b16 h16=>?_)
    ·
     refine aH<|sB r<|aG (fr':=[(2,aB)]) r r<|bK<|bO<|aP<|aP<|bO<|aP<|aP ?_
     have h17:=eR h16 ho10
     have h18:=fL h17 h8
     obtain rfl:=sy h18
     exact bJ (rs':=[.tmp 2]) r<|bS (v:=aB) r<|bI<|aN [] r r r lr aD
    ·
     exact bF<|cW<|cZ<|bB<|mI r<|aR r (gC r r)<|sI r<|dM (fr':=[(0,aS),(3,aI),(32,aB)]) r<|zO _ (sy h16) (bC [] 0 r r r r jN aD)
   ·
    refine hG<|cY<|cY<|fP ?_
    have h20:=eR h11 ho10
    exact iQ _ (sy h20) (bC [] 0 r r r r trivial aD)
  ·
   intro j9 hj21
   have h21:=lV hj21 h8
   refine cZ<|aH<|sB r<|aG (fr':=[(2,aB)]) r r<|bK ?_
   obtain rfl:=sy h21
   exact bJ (rs':=[.tmp 2]) r<|bS (v:=aB) r<|bI<|aN [] r r r lr aD
noncomputable def tY (p0o:dS) (s4:Int):Option (dU Int (Fl Bool Unit)) :=
 cond (decide (s4<((([p0o.ToStart,p0o.ToClose,p0o.Total,p0o.Beat,p0o.First,p0o.Most]:List Int)).length:Int))) ((nG ([p0o.ToStart,p0o.ToClose,p0o.Total,p0o.Beat,p0o.First,p0o.Most]:List Int) s4).bind fun x6=>(uA x6 0 1099511627776).bind fun x8=>cond (!x8) (some (dU.out (Fl.done false))) (some (dU.next (IntKind.wrap .i64 (s4+1))))) (some (dU.out (Fl.go ())))
noncomputable def tZ (p0o:dS) (s19:Int):Option (dU Int (Fl Bool Unit)) :=
 cond (decide (s19<((p0o.Fatal).length:Int))) ((nG p0o.Fatal s19).bind fun x21=>cond (decide (4096<((x21).length:Int))) (some (dU.out (Fl.done false))) (some (dU.next (IntKind.wrap .i64 (s19+1))))) (some (dU.out (Fl.go ())))
noncomputable def rM (p0o:dS):Option Bool :=
 (fK (tY p0o) (0)).bind fun x1=>Fl.next x1 (fun j3=>((fK (tZ p0o) (0)).bind fun x16=>Fl.next x16 (fun j18=>((gd ((decide (p0o.Queue=([]:List UInt8)))==false) (qY p0o.Queue)).bind fun x29=>(gd ((cond (decide (p0o.Queue=([]:List UInt8))) true x29)==true) (uA p0o.Coef 0 10000)).bind fun x31=>(gd ((cond (cond (decide (p0o.Queue=([]:List UInt8))) true x29) x31 false)==true) (uA p0o.Attempts 0 1000)).bind fun x33=>some (cond (cond (cond (cond (decide (p0o.Queue=([]:List UInt8))) true x29) x31 false) x33 false) (decide (((p0o.Fatal).length:Int)≤64)) false)))))
theorem aB0 {p0o:dS}{z:Bool} (h:rM p0o=some z):cQ Tryz.prog 135 [.agg (AV.cs (pH p0o))] [] (.c (.bool z)) []:=by
 unfold rM at h
 refine dF (fn:=Tryz.f135) [0,1,2,3,4,5,22,30,35,44] (by kernel_rfl) Tryz.func135 r (by kernel_rfl) (by kernel_rfl)<|aH<|jK (v:=.agg dO) (n:=0) (cs:=dO) (σ':=[dO]) r r r r r<|sB r<|aG (fr':=[(1,aE)]) r r<|aH<|aR r (bD aFR r)<|aR r (aK (v:=aI) fM r r r)<|aR r (bD aFS r)<|aR r (aK (v:=aI) fM r r r)<|aR r (bD aFT r)<|aR r (aK (v:=aI) fM r r r)<|aR r (bD aFU r)<|aR r (aK (v:=aI) fM r r r)<|aR r (bD aFV r)<|aR r (aK (v:=aI) fM r r r)<|aR r (bD aFX r)<|aR r (aK (v:=aI) fM r r r)<|uL (row:=(aHr .i64)) (xs:=([p0o.ToStart,p0o.ToClose,p0o.Total,p0o.Beat,p0o.First,p0o.Most]:List Int)) (rows:=[[_],[_],[_],[_],[_],[_]]) (σ':=[dO]) [0] aB8 r r r (gB r (gB r (gB r (gB r (gB r (gB r oB)))))) r r<|sV (v:=aO) r<|aG (fr':=[(1,aE),(3,aO)]) r r<|aZ<|aZ<|bB<|sI r<|aG (fr':=[(1,aE),(3,aO),(4,aI)]) r r<|bx h fun x1 y1 h2=>gZ lB (fun j3=>x1=Fl.go j3) (fun (j3:Unit)=>([(1,aE)]:Fr)) (fun (j3:Unit)=>([[.c (.str p0o.Queue),ci p0o.ToStart,ci p0o.ToClose,ci p0o.Total,ci p0o.Beat,ci p0o.First,ci p0o.Coef,ci p0o.Most,ci p0o.Attempts,.c (PV.ls 1 fI p0o.Fatal)]]:St)) ?_ ?_
 ·
  refine cH<|gV _ (fun (s4:Int)=>([(1,aE),(3,AV.os 0 1 (aHr .i64) ([p0o.ToStart,p0o.ToClose,p0o.Total,p0o.Beat,p0o.First,p0o.Most]:List Int)),(4,ci s4)]:Fr)) (fun (s4:Int)=>([[.c (.str p0o.Queue),ci p0o.ToStart,ci p0o.ToClose,ci p0o.Total,ci p0o.Beat,ci p0o.First,ci p0o.Coef,ci p0o.Most,ci p0o.Attempts,.c (PV.ls 1 fI p0o.Fatal)]]:St)) y1 (bC [288] 1 r r r r kA (bR r aD)) ?_
  intro s4 st4 hs4 ho4
  unfold tY at hs4
  refine aZ<|aH<|mI r<|mV (v:=aO) r<|aR r (hZ aRv (oC r))<|aR r (gI r r)<|aG (fr':=[(1,aE),(3,aO),(4,aI),(22,aB)]) r r<|cG hs4 r (fun b5 h5=>?_) (fun b5 h5=>?_)
  ·
   refine bF<|cZ<|aZ<|cH<|aH<|mV (v:=aO) r<|mI r<|bx h5 fun x6 y6 h7=>aR r (lF (cs:=[PV.int _ _]) aB8 (oC r) r y6 r)<|aR r (gP (p:=PV.int _ _) fM r r)<|bx h7 fun x8 y8 h9=>lS (bL (v:=aB) r (uS y8) kA r r r)<|aR r (fE r)<|aG (fr':=[(1,aE),(3,aO),(4,aI),(30,aB)]) r r<|cG h9 r (fun b10 h10=>?_) (fun b10 h10=>?_)
   ·
    refine aH<|sB r<|aG (fr':=[(2,aB)]) r r<|bK<|bO<|aP<|aP<|bO<|aP<|aP ?_
    have h11:=eR h10 ho4
    have h12:=fL h11 h2
    obtain rfl:=sy h12
    exact bJ (rs':=[.tmp 2]) r<|bS (v:=aB) r<|bI<|aN [] r r r lr aD
   ·
    exact bF<|cW<|cZ<|bB<|mI r<|aR r (gC r r)<|sI r<|dM (fr':=[(1,aE),(3,aO),(4,aI),(30,aB)]) r<|zO _ (sy h10) (bC [0] 1 r r r r kA (bR r aD))
  ·
   refine hG<|cY<|cY<|fP ?_
   have h14:=eR h5 ho4
   exact iQ _ (sy h14) (bC [] 1 r r r r ⟨lr,trivial⟩ (bR r aD))
 ·
  intro j3 hj15
  have h15:=lV hj15 h2
  refine cZ<|aZ<|aH<|sI r<|aG (fr':=[(1,aE),(5,aI)]) r r<|bx h15 fun x16 y16 h17=>gZ lB (fun j18=>x16=Fl.go j18) (fun (j18:Unit)=>([(1,aE)]:Fr)) (fun (j18:Unit)=>([[.c (.str p0o.Queue),ci p0o.ToStart,ci p0o.ToClose,ci p0o.Total,ci p0o.Beat,ci p0o.First,ci p0o.Coef,ci p0o.Most,ci p0o.Attempts,.c (PV.ls 1 fI p0o.Fatal)]]:St)) ?_ ?_
  ·
   refine cH<|gV _ (fun (s19:Int)=>([(1,aE),(5,ci s19)]:Fr)) (fun (s19:Int)=>([[.c (.str p0o.Queue),ci p0o.ToStart,ci p0o.ToClose,ci p0o.Total,ci p0o.Beat,ci p0o.First,ci p0o.Coef,ci p0o.Most,ci p0o.Attempts,.c (PV.ls 1 fI p0o.Fatal)]]:St)) y16 (bC [] 1 r r r r jN (bR r aD)) ?_
   intro s19 st19 hs19 ho19
   unfold tZ at hs19
   refine aZ<|aH<|mI r<|aR r (bD tN r)<|aR r (aK (v:=aL) rC r r r)<|aR r (hZ zD (eK r))<|aR r (gI r r)<|aG (fr':=[(1,aE),(5,aI),(35,aB)]) r r<|cG hs19 r (fun b20 h20=>?_) (fun b20 h20=>?_)
   ·
    refine bF<|cZ<|aZ<|cH<|aH<|aR r (bD tN r)<|aR r (aK (v:=aL) rC r r r)<|mI r<|bx h20 fun x21 y21 h22=>aR r (lF (cs:=[PV.str _]) aAR (eK r) r y21 r)<|aR r (gP (p:=PV.str _) lP r r)<|aR r (kT uU r)<|aR r (qW r r)<|aG (fr':=[(1,aE),(5,aI),(44,aB)]) r r<|cG h22 r (fun b23 h23=>?_) (fun b23 h23=>?_)
    ·
     refine aH<|sB r<|aG (fr':=[(2,aB)]) r r<|bK<|bO<|aP<|aP<|bO<|aP<|aP ?_
     have h24:=eR h23 ho19
     have h25:=fL h24 h17
     obtain rfl:=sy h25
     exact bJ (rs':=[.tmp 2]) r<|bS (v:=aB) r<|bI<|aN [] r r r lr aD
    ·
     exact bF<|cW<|cZ<|bB<|mI r<|aR r (gC r r)<|sI r<|dM (fr':=[(1,aE),(5,aI),(44,aB)]) r<|zO _ (sy h23) (bC [] 1 r r r r jN (bR r aD))
   ·
    refine hG<|cY<|cY<|fP ?_
    have h27:=eR h20 ho19
    exact iQ _ (sy h27) (bC [] 1 r r r r ⟨lr,trivial⟩ (bR r aD))
  ·
   intro j18 hj28
   have h28:=lV hj28 h17
   refine cZ<|aH<|aR r (bD aDb r)<|aR r (aK (v:=aS) lP r r r)<|aR r (qX r r)<|mB r<|og r r r (fun u=>(bD aDb r))<|og r r r (fun u=>(aK (v:=aS) lP (gx r u) r r))<|bx h28 fun x29 y29 h30=>sX r r (fun u=>bL (v:=aB) r (uR (cU y29 u)) ⟨(eW (gx r u) lr),trivial⟩ (fT (by repeat (first | exact eN | refine aY r ?_ | refine aY (pP r) ?_ | refine aY pO ?_))) r r) ?_
   refine aR r (cN r r r (fun e=>fJ e))<|mB r<|og r r r (fun u=>(bD aFW r))<|og r r r (fun u=>(aK (v:=aI) fM (gx r u) r r))<|bx h30 fun x31 y31 h32=>sX r r (fun u=>bL (v:=aB) r (uS (cU y31 u)) ⟨(eW (gx r u) lr),lr,lr,trivial⟩ (fT (by repeat (first | exact eN | refine aY r ?_ | refine aY (pP r) ?_ | refine aY pO ?_))) r r) ?_
   refine aR r (bV r r r (fun e=>fJ e))<|mB r<|og r r r (fun u=>(bD aFY r))<|og r r r (fun u=>(aK (v:=aI) fM (gx r u) r r))<|bx h32 fun x33 y33 h34=>sX r r (fun u=>bL (v:=aB) r (uS (cU y33 u)) ⟨(eW (gx r u) lr),lr,lr,trivial⟩ (fT (by repeat (first | exact eN | refine aY r ?_ | refine aY (pP r) ?_ | refine aY pO ?_))) r r) ?_
   refine aR r (bV r r r (fun e=>fJ e))<|mB r<|og r r r (fun u=>(bD tN r))<|og r r r (fun u=>(aK (v:=aL) rC (gx r u) r r))<|og r r r (fun u=>(hZ zD (eK (gx r u))))<|og r r r (fun u=>(nM (gx r u) r))<|aR r (bV r r r (fun e=>fJ e))<|sB r<|aG (fr':=[(2,aB)]) r r<|bK ?_
   obtain rfl:=sy h34
   exact bJ (rs':=[.tmp 2]) r<|bS (v:=aB) r<|bI<|aN [] r r r lr aD
