import Derived.Test.YtnigjppddilpcaaGreatDoorGETy
namespace Go.Proofs.YtnigjppddilpcaaGreatDoor
open Go Abs
set_option maxRecDepth 100000
set_option linter.unusedVariables false
set_option linter.unusedSimpArgs false
noncomputable def aDs (p0n:Int):Option Int :=
 cond (decide (0≤p0n)) (some (IntKind.wrap .u64 (2*(IntKind.wrap .u64 p0n)))) (some (IntKind.wrap .u64 ((IntKind.wrap .u64 (2*(IntKind.wrap .u64 (IntKind.wrap .i64 (0 - (IntKind.wrap .i64 (p0n+1)))))))+1)))
noncomputable def aBt  (s8:((List UInt8) × Int)):Option (dN ((List UInt8) × Int) ((List UInt8) × Int)) :=
 cond (decide (127<s8.2)) ((vG (IntKind.wrap .u8 (IntKind.wrap .u64 ((Int.tmod s8.2 128)+128)))).bind fun x10=>(app 1 s8.1 ([x10]:List UInt8)).bind fun x12=>some (dN.next (x12,(IntKind.wrap .u64 (Int.tdiv s8.2 128))))) (some (dN.out (s8.1,s8.2)))
noncomputable def rN (p0b:(List UInt8)) (p1n:Int):Option (List UInt8) :=
 (app 1 ([]:List UInt8) p0b).bind fun x1=>(aDs p1n).bind fun x3=>(fI (aBt) ((x1,x3))).bind fun x5=>((vG (IntKind.wrap .u8 x5.2)).bind fun x16=>(app 1 x5.1 ([x16]:List UInt8)).bind fun x18=>some x18)
noncomputable def aAR (p1s:(List UInt8)) (s6:((List UInt8) × Int)):Option (dN ((List UInt8) × Int) (List UInt8)) :=
 cond (decide (s6.2<((p1s).length:Int))) ((lO p1s s6.2).bind fun x8=>(vG ((x8).toNat:Int)).bind fun x10=>(app 1 s6.1 ([x10]:List UInt8)).bind fun x12=>some (dN.next (x12,(IntKind.wrap .i64 (s6.2+1))))) (some (dN.out s6.1))
noncomputable def qD (p0b:(List UInt8)) (p1s:(List UInt8)):Option (List UInt8) :=
 (rN p0b ((p1s).length:Int)).bind fun x1=>(fI (aAR p1s) ((x1,0))).bind fun x3=>(some x3)
noncomputable def yZ (aDp:(List (List UInt8))) (s4:Int):Option (dN Int (Fl Bool Unit)) :=
 cond (decide (s4<((aDp).length:Int))) ((lO aDp (IntKind.wrap .i64 (s4 - 1))).bind fun x6=>(lO aDp s4).bind fun x8=>cond (!Op.bytesLess x6 x8) (some (dN.out (Fl.done false))) (some (dN.next (IntKind.wrap .i64 (s4+1))))) (some (dN.out (Fl.go ())))
noncomputable def aAp (aDp:(List (List UInt8))):Option Bool :=
 (fI (yZ aDp) (1)).bind fun x1=>Fl.next x1 (fun j3=>(some true))
theorem aJy {aDp:(List (List UInt8))}{res:Bool} (h:aAp aDp=some res):cX Tryz.prog 180 [.c (PV.ls 1 iF aDp)] [] (.c (.bool res)) []:=by
 unfold aAp at h
 refine dR (fn:=Tryz.f180) [0,2,3,7,19] (by kernel_rfl) Tryz.func180 r (by kernel_rfl) (by kernel_rfl)<|aJ<|sB r<|aH (fr':=[(0,aL)]) r r<|aX<|aJ<|sI r<|aH (fr':=[(0,aL),(3,aI)]) r r<|bx h fun x1 hx1 h2=>hF lP (fun j3=>x1=Fl.go j3) (fun (j3:Unit)=>([]:Fr)) (fun (j3:Unit)=>([]:St)) ?_ ?_
 ·
  refine cP<|gY _ (fun (s4:Int)=>([(0,.c (PV.ls 1 iF aDp)),(3,ci s4)]:Fr)) (fun (s4:Int)=>([]:St)) hx1 (bJ [] 0 r r r r kR aC) ?_
  intro s4 st4 hs4 ho4
  unfold yZ at hs4
  refine aX<|aJ<|mI r<|mL r<|aU r (gT yV (eA r))<|aU r (fY r r)<|aH (fr':=[(0,aL),(3,aI),(7,aB)]) r r<|cU hs4 r (fun hb5 h5=>?_) (fun hb5 h5=>?_)
  ·
   refine bI<|dB<|aX<|cP<|aX<|lJ [.q 0,.q 1,.q 2,.q 3,.q 4,.q 5,.q 6,.q 7,.q 8,.q 9] [(some 10,[0]),(some 11,[3]),(some 12,[11]),(some 13,[10,12]),(some 14,[13]),(some 15,[0]),(some 16,[3]),(some 17,[15,16]),(some 18,[17]),(some 19,[14,18])] [0,0,2,7,15,0,0,96,224,511] (by kernel_rfl)<|dq r r (bK (v:=aL) r)<|dq r r (bK (v:=aI) r)<|dq r r (aCQ r r)<|bx h5 fun x6 hx6 h7=>dq r r (lC (cs:=[PV.str _]) aAW (eA r) r hx6 r)<|dq r r (fO (p:=PV.str _) rZ r r)<|dq r r (bK (v:=aL) r)<|dq r r (bK (v:=aI) r)<|bx h7 fun x8 hx8 h9=>dq r r (lC (cs:=[PV.str _]) aAW (eA r) r hx8 r)<|dq r r (fO (p:=PV.str _) rZ r r)<|dq r r (aRA r r)<|aAe (fr':=[(0,aL),(3,aI),(19,aB)]) r r<|cU h9 r (fun hb10 h10=>?_) (fun hb10 h10=>?_)
   ·
    refine aJ<|sB r<|aH (fr':=[(2,aB)]) r r<|bO<|bT<|aN<|aN<|bT<|aN<|aN ?_
    have h11:=eS h10 ho4
    have h12:=gI h11 h2
    obtain rfl:=sy h12
    exact bN (rs':=[.tmp 2]) r<|cE (v:=aB) r<|bM<|aP [] r r r lr aC
   ·
    exact bI<|dI<|dB<|bA<|mI r<|aU r (fX r r)<|sI r<|dQ (fr':=[(0,aL),(3,aI),(19,aB)]) r<|zY _ (sy h10) (bJ [] 0 r r r r kR aC)
  ·
   refine iE<|cZ<|cZ<|fT ?_
   have h14:=eS h5 ho4
   exact lB _ (sy h14) (bJ [] 0 r r r r trivial aC)
 ·
  intro j3 hj15
  have h15:=nY hj15 h2
  refine dB<|aJ<|sB r<|aH (fr':=[(2,aB)]) r r<|bO ?_
  obtain rfl:=sy h15
  exact bN (rs':=[.tmp 2]) r<|cE (v:=aB) r<|bM<|aP [] r r r lr aC
noncomputable def uK (aEk:aF→Option Bool) (p0C:aF) (s4:Int):Option (dN Int (Fl Bool Unit)) :=
 cond (decide (s4<((p0C.Items).length:Int))) ((lO p0C.Items s4).bind fun x6=>(aEk x6).bind fun x8=>cond (!x8) (some (dN.out (Fl.done false))) (some (dN.next (IntKind.wrap .i64 (s4+1))))) (some (dN.out (Fl.go ())))
noncomputable def oY:Nat→aF→Option Bool
 | 0,_=>none
 | n+1,p0C =>
  (fI (uK (oY n) p0C) (0)).bind fun x1=>Fl.next x1 (fun j3=>(cond (decide (p0C.Kind=0)) (some (cond (cond (cond (decide (p0C.Int=0)) (decide (p0C.Text=([]:List UInt8))) false) (decide (((p0C.Items).length:Int)=0)) false) (decide (((p0C.Keys).length:Int)=0)) false)) (cond (decide (p0C.Kind=1)) (some (cond (cond (cond (cond (decide (p0C.Int=0)) true (decide (p0C.Int=1))) (decide (p0C.Text=([]:List UInt8))) false) (decide (((p0C.Items).length:Int)=0)) false) (decide (((p0C.Keys).length:Int)=0)) false)) (cond (decide (p0C.Kind=2)) (some (cond (cond (decide (p0C.Text=([]:List UInt8))) (decide (((p0C.Items).length:Int)=0)) false) (decide (((p0C.Keys).length:Int)=0)) false)) (cond (decide (p0C.Kind=3)) (some (cond (cond (decide (p0C.Int=0)) (decide (((p0C.Items).length:Int)=0)) false) (decide (((p0C.Keys).length:Int)=0)) false)) (cond (decide (p0C.Kind=4)) (some (cond (cond (decide (p0C.Int=0)) (decide (p0C.Text=([]:List UInt8))) false) (decide (((p0C.Keys).length:Int)=0)) false)) (cond (decide (p0C.Kind=5)) ((gd ((cond (cond (decide (p0C.Int=0)) (decide (p0C.Text=([]:List UInt8))) false) (decide (((p0C.Keys).length:Int)=((p0C.Items).length:Int))) false)==true) (aAp p0C.Keys)).bind fun x27=>some (cond (cond (cond (decide (p0C.Int=0)) (decide (p0C.Text=([]:List UInt8))) false) (decide (((p0C.Keys).length:Int)=((p0C.Items).length:Int))) false) x27 false)) (cond (decide (p0C.Kind=6)) (some (cond (cond (cond (decide (0≤p0C.Int)) (decide (p0C.Text=([]:List UInt8))) false) (decide (((p0C.Items).length:Int)=0)) false) (decide (((p0C.Keys).length:Int)=0)) false)) (some false)))))))))
theorem aEY:∀ n:Nat,(∀ {p0C:aF}{res:Bool},oY n p0C=some res→cX Tryz.prog 133 [.agg (AV.cs (eR p0C))] [] (.c (.bool res)) []):=by
 intro n
 induction n with
 | zero=>exact fun {p0C res} h=>absurd h (by simp [oY])
 | succ n ih =>
  have ih_ref02xWellFormed:=@ih
  intro p0C res h
  rw [oY] at h
  refine dR (fn:=Tryz.f133) [0,1,2,3,8,17,19,20,42,69,86,103,119,143] (by kernel_rfl) Tryz.func133 r (by kernel_rfl) (by kernel_rfl)<|aJ<|kP (v:=.agg cJ) (n:=0) (cs:=cJ) (σ':=[cJ]) r r r r r<|sB r<|aH (fr':=[(1,aD)]) r r<|aX<|aJ<|sI r<|aH (fr':=[(1,aD),(3,aI)]) r r<|bx h fun x1 hx1 h2=>hF lP (fun j3=>x1=Fl.go j3) (fun (j3:Unit)=>([(1,aD)]:Fr)) (fun (j3:Unit)=>([[ci p0C.Kind,ci p0C.Int,.c (.str p0C.Text),.c (PV.ls 5 cF p0C.Items),.c (PV.ls 1 iF p0C.Keys)]]:St)) ?_ ?_
  ·
   refine cP<|gY _ (fun (s4:Int)=>([(1,aD),(3,ci s4)]:Fr)) (fun (s4:Int)=>([[ci p0C.Kind,ci p0C.Int,.c (.str p0C.Text),.c (PV.ls 5 cF p0C.Items),.c (PV.ls 1 iF p0C.Keys)]]:St)) hx1 (bJ [] 1 r r r r kR (cO r aC)) ?_
   intro s4 st4 hs4 ho4
   unfold uK at hs4
   refine aX<|aJ<|mI r<|aU r (bU iB r)<|aU r (aR (v:=aL) nS r r r)<|aU r (gT vL (eA r))<|aU r (fY r r)<|aH (fr':=[(1,aD),(3,aI),(8,aB)]) r r<|cU hs4 r (fun hb5 h5=>?_) (fun hb5 h5=>?_)
   ·
    refine bI<|dB<|aX<|cP<|aJ<|aU r (bU iB r)<|aU r (aR (v:=aL) nS r r r)<|mI r<|bx h5 fun x6 hx6 h7=>aU r (lC (cs:=[PV.int _ _,PV.int _ _,PV.str _,PV.ls _ _ _,PV.ls _ _ _]) uF (eA r) r hx6 (dZ _))<|aU r (nL (us:=[PV.int _ _,PV.int _ _,PV.str _,PV.ls _ _ _,PV.ls _ _ _]) jC r r r)<|bx h7 fun x8 hx8 h9=>oN (cA (v:=aB) r (ih_ref02xWellFormed hx8) ⟨(cM r kR5),trivial⟩ r r r)<|aU r (gX r)<|aH (fr':=[(1,aD),(3,aI),(17,aB)]) r r<|cU h9 r (fun hb10 h10=>?_) (fun hb10 h10=>?_)
    ·
     refine aJ<|sB r<|aH (fr':=[(2,aB)]) r r<|bO<|bT<|aN<|aN<|bT<|aN<|aN ?_
     have h11:=eS h10 ho4
     have h12:=gI h11 h2
     obtain rfl:=sy h12
     exact bN (rs':=[.tmp 2]) r<|cE (v:=aB) r<|bM<|aP [] r r r lr aC
    ·
     exact bI<|dI<|dB<|bA<|mI r<|aU r (fX r r)<|sI r<|dQ (fr':=[(1,aD),(3,aI),(17,aB)]) r<|zY _ (sy h10) (bJ [] 1 r r r r kR (cO r aC))
   ·
    refine iE<|cZ<|cZ<|fT ?_
    have h14:=eS h5 ho4
    exact lB _ (sy h14) (bJ [] 1 r r r r ⟨lr,trivial⟩ (cO r aC))
  ·
   intro j3 hj15
   have h15:=nY hj15 h2
   refine dB<|aX<|aJ<|aU r (bU mE r)<|aU r (aR (v:=aI) hU r r r)<|aH (fr':=[(1,aD),(19,aI)]) r r<|cP<|aJ<|aU r (cQ r r)<|sB r<|aH (fr':=[(1,aD),(19,aI),(20,aB)]) r r<|cU h15 r (fun hb16 h16=>?_) (fun hb16 h16=>?_)
   ·
    refine aJ<|aU r (bU rO r)<|aU r (aR (v:=aI) hU r r r)<|aU r (cQ r r)<|mB r<|og r r r (fun hc=>(bU uA r))<|og r r r (fun hc=>(aR (v:=aS) rZ (gx r hc) r r))<|og r r r (fun hc=>(wL (gx r hc) r))<|aU r (cS r r r (fun e=>hH e))<|mB r<|og r r r (fun hc=>(bU iB r))<|og r r r (fun hc=>(aR (v:=aL) nS (gx r hc) r r))<|og r r r (fun hc=>(gT vL (eA (gx r hc))))<|og r r r (fun hc=>(cQ (gx r hc) r))<|aU r (cS r r r (fun e=>hH e))<|mB r<|og r r r (fun hc=>(bU oI r))<|og r r r (fun hc=>(aR (v:=aL) qP (gx r hc) r r))<|og r r r (fun hc=>(gT yV (eA (gx r hc))))<|og r r r (fun hc=>(cQ (gx r hc) r))<|aU r (cS r r r (fun e=>hH e))<|sB r<|aH (fr':=[(2,aB)]) r r<|bO<|bT<|aN ?_
    obtain rfl:=sy h16
    exact bN (rs':=[.tmp 2]) r<|cE (v:=aB) r<|bM<|aP [] r r r lr aC
   ·
    refine aJ<|aU r (cQ r r)<|sB r<|aH (fr':=[(1,aD),(19,aI),(42,aB)]) r r<|cU h16 r (fun hb18 h18=>?_) (fun hb18 h18=>?_)
    ·
     refine aJ<|aU r (bU rO r)<|aU r (aR (v:=aI) hU r r r)<|aU r (cQ r r)<|mB r<|og r r r (fun hc=>(bU rO r))<|og r r r (fun hc=>(aR (v:=aI) hU (gx r hc) r r))<|og r r r (fun hc=>(cQ (gx r hc) r))<|aU r (dK r r r (fun e=>hH e))<|mB r<|og r r r (fun hc=>(bU uA r))<|og r r r (fun hc=>(aR (v:=aS) rZ (gx r hc) r r))<|og r r r (fun hc=>(wL (gx r hc) r))<|aU r (cS r r r (fun e=>hH e))<|mB r<|og r r r (fun hc=>(bU iB r))<|og r r r (fun hc=>(aR (v:=aL) nS (gx r hc) r r))<|og r r r (fun hc=>(gT vL (eA (gx r hc))))<|og r r r (fun hc=>(cQ (gx r hc) r))<|aU r (cS r r r (fun e=>hH e))<|mB r<|og r r r (fun hc=>(bU oI r))<|og r r r (fun hc=>(aR (v:=aL) qP (gx r hc) r r))<|og r r r (fun hc=>(gT yV (eA (gx r hc))))<|og r r r (fun hc=>(cQ (gx r hc) r))<|aU r (cS r r r (fun e=>hH e))<|sB r<|aH (fr':=[(2,aB)]) r r<|bO<|bT<|aN ?_
     obtain rfl:=sy h18
     exact bN (rs':=[.tmp 2]) r<|cE (v:=aB) r<|bM<|aP [] r r r lr aC
    ·
     refine aJ<|aU r (cQ r r)<|sB r<|aH (fr':=[(1,aD),(19,aI),(69,aB)]) r r<|cU h18 r (fun hb20 h20=>?_) (fun hb20 h20=>?_)
     ·
      refine aJ<|aU r (bU uA r)<|aU r (aR (v:=aS) rZ r r r)<|aU r (wL r r)<|mB r<|og r r r (fun hc=>(bU iB r))<|og r r r (fun hc=>(aR (v:=aL) nS (gx r hc) r r))<|og r r r (fun hc=>(gT vL (eA (gx r hc))))<|og r r r (fun hc=>(cQ (gx r hc) r))<|aU r (cS r r r (fun e=>hH e))<|mB r<|og r r r (fun hc=>(bU oI r))<|og r r r (fun hc=>(aR (v:=aL) qP (gx r hc) r r))<|og r r r (fun hc=>(gT yV (eA (gx r hc))))<|og r r r (fun hc=>(cQ (gx r hc) r))<|aU r (cS r r r (fun e=>hH e))<|sB r<|aH (fr':=[(2,aB)]) r r<|bO<|bT<|aN ?_
      obtain rfl:=sy h20
      exact bN (rs':=[.tmp 2]) r<|cE (v:=aB) r<|bM<|aP [] r r r lr aC
     ·
      refine aJ<|aU r (cQ r r)<|sB r<|aH (fr':=[(1,aD),(19,aI),(86,aB)]) r r<|cU h20 r (fun hb22 h22=>?_) (fun hb22 h22=>?_)
      ·
       refine aJ<|aU r (bU rO r)<|aU r (aR (v:=aI) hU r r r)<|aU r (cQ r r)<|mB r<|og r r r (fun hc=>(bU iB r))<|og r r r (fun hc=>(aR (v:=aL) nS (gx r hc) r r))<|og r r r (fun hc=>(gT vL (eA (gx r hc))))<|og r r r (fun hc=>(cQ (gx r hc) r))<|aU r (cS r r r (fun e=>hH e))<|mB r<|og r r r (fun hc=>(bU oI r))<|og r r r (fun hc=>(aR (v:=aL) qP (gx r hc) r r))<|og r r r (fun hc=>(gT yV (eA (gx r hc))))<|og r r r (fun hc=>(cQ (gx r hc) r))<|aU r (cS r r r (fun e=>hH e))<|sB r<|aH (fr':=[(2,aB)]) r r<|bO<|bT<|aN ?_
       obtain rfl:=sy h22
       exact bN (rs':=[.tmp 2]) r<|cE (v:=aB) r<|bM<|aP [] r r r lr aC
      ·
       refine aJ<|aU r (cQ r r)<|sB r<|aH (fr':=[(1,aD),(19,aI),(103,aB)]) r r<|cU h22 r (fun hb24 h24=>?_) (fun hb24 h24=>?_)
       ·
        refine aJ<|aU r (bU rO r)<|aU r (aR (v:=aI) hU r r r)<|aU r (cQ r r)<|mB r<|og r r r (fun hc=>(bU uA r))<|og r r r (fun hc=>(aR (v:=aS) rZ (gx r hc) r r))<|og r r r (fun hc=>(wL (gx r hc) r))<|aU r (cS r r r (fun e=>hH e))<|mB r<|og r r r (fun hc=>(bU oI r))<|og r r r (fun hc=>(aR (v:=aL) qP (gx r hc) r r))<|og r r r (fun hc=>(gT yV (eA (gx r hc))))<|og r r r (fun hc=>(cQ (gx r hc) r))<|aU r (cS r r r (fun e=>hH e))<|sB r<|aH (fr':=[(2,aB)]) r r<|bO<|bT<|aN ?_
        obtain rfl:=sy h24
        exact bN (rs':=[.tmp 2]) r<|cE (v:=aB) r<|bM<|aP [] r r r lr aC
       ·
        refine aJ<|aU r (cQ r r)<|sB r<|aH (fr':=[(1,aD),(19,aI),(119,aB)]) r r<|cU h24 r (fun hb26 h26=>?_) (fun hb26 h26=>?_)
        ·
         refine aJ<|aU r (bU rO r)<|aU r (aR (v:=aI) hU r r r)<|aU r (cQ r r)<|mB r<|og r r r (fun hc=>(bU uA r))<|og r r r (fun hc=>(aR (v:=aS) rZ (gx r hc) r r))<|og r r r (fun hc=>(wL (gx r hc) r))<|aU r (cS r r r (fun e=>hH e))<|mB r<|og r r r (fun hc=>(bU oI r))<|og r r r (fun hc=>(aR (v:=aL) qP (gx r hc) r r))<|og r r r (fun hc=>(gT yV (eA (gx r hc))))<|og r r r (fun hc=>(bU iB r))<|og r r r (fun hc=>(aR (v:=aL) nS (gx r hc) r r))<|og r r r (fun hc=>(gT vL (eA (gx r hc))))<|og r r r (fun hc=>(cQ (gx r hc) (gx r hc)))<|aU r (cS r r r (fun e=>hH e))<|mB r<|og r r r (fun hc=>(bU oI r))<|og r r r (fun hc=>(aR (v:=aL) qP (gx r hc) r r))<|bx h26 fun x27 hx27 h28=>zG r r (fun hc=>cA (v:=aB) r (aJy (dM hx27 hc)) ⟨(iA (gx r hc) lr),trivial⟩ (iO (by repeat (first | exact fU | refine bG r ?_ | refine bG (vD r) ?_ | refine bG vC ?_))) r r) ?_
         refine aU r (cS r r r (fun e=>hH e))<|sB r<|aH (fr':=[(2,aB)]) r r<|bO<|bT<|aN ?_
         obtain rfl:=sy h28
         exact bN (rs':=[.tmp 2]) r<|cE (v:=aB) r<|bM<|aP [] r r r lr aC
        ·
         refine aJ<|aU r (cQ r r)<|sB r<|aH (fr':=[(1,aD),(143,aB)]) r r<|cU h26 r (fun hb30 h30=>?_) (fun hb30 h30=>?_)
         ·
          refine aJ<|aU r (bU rO r)<|aU r (aR (v:=aI) hU r r r)<|aU r (uE r r)<|mB r<|og r r r (fun hc=>(bU uA r))<|og r r r (fun hc=>(aR (v:=aS) rZ (gx r hc) r r))<|og r r r (fun hc=>(wL (gx r hc) r))<|aU r (cS r r r (fun e=>hH e))<|mB r<|og r r r (fun hc=>(bU iB r))<|og r r r (fun hc=>(aR (v:=aL) nS (gx r hc) r r))<|og r r r (fun hc=>(gT vL (eA (gx r hc))))<|og r r r (fun hc=>(cQ (gx r hc) r))<|aU r (cS r r r (fun e=>hH e))<|mB r<|og r r r (fun hc=>(bU oI r))<|og r r r (fun hc=>(aR (v:=aL) qP (gx r hc) r r))<|og r r r (fun hc=>(gT yV (eA (gx r hc))))<|og r r r (fun hc=>(cQ (gx r hc) r))<|aU r (cS r r r (fun e=>hH e))<|sB r<|aH (fr':=[(2,aB)]) r r<|bO<|bT<|aN ?_
          obtain rfl:=sy h30
          exact bN (rs':=[.tmp 2]) r<|cE (v:=aB) r<|bM<|aP [] r r r lr aC
         ·
          refine bI<|dI<|dB<|aJ<|sB r<|aH (fr':=[(2,aB)]) r r<|bO ?_
          obtain rfl:=sy h30
          exact bN (rs':=[.tmp 2]) r<|cE (v:=aB) r<|bM<|aP [] r r r lr aC
noncomputable def xX (p0C:aF):Option Bool:=lim fun n=>oY n p0C
theorem aFO {p0C:aF}{res:Bool} (h:xX p0C=some res):cX Tryz.prog 133 [.agg (AV.cs (eR p0C))] [] (.c (.bool res)) []:=by
 obtain ⟨n,hn⟩:=qN h
 exact (aEY n) hn
noncomputable def aAt (aJT:(List UInt8)→aF→Option (List UInt8)) (p1v:aF) (s29:((List UInt8) × Int)):Option (dN ((List UInt8) × Int) (List UInt8)) :=
 cond (decide (s29.2<((p1v.Items).length:Int))) (((cond (decide (p1v.Kind=5)) ((lO p1v.Keys s29.2).bind fun x35=>(qD s29.1 x35).bind fun x37=>some x37) (some s29.1)):Option (List UInt8)).bind fun x31=>((lO p1v.Items s29.2).bind fun x40=>(aJT x31 x40).bind fun x42=>some (dN.next (x42,(IntKind.wrap .i64 (s29.2+1)))))) (some (dN.out s29.1))
noncomputable def aDw:Nat→(List UInt8)→aF→Option (List UInt8)
 | 0,_,_=>none
 | n+1,p0b,p1v =>
  (rN p0b p1v.Kind).bind fun x1=>((((cond (decide (p1v.Kind=1)) (some (decide (p1v.Kind=1))) (cond (decide (p1v.Kind=2)) (some (decide (p1v.Kind=2))) (some (decide (p1v.Kind=6))))):Option Bool).bind fun x6=>(cond x6 ((rN x1 p1v.Int).bind fun x13=>some x13) (cond (decide (p1v.Kind=3)) ((qD x1 p1v.Text).bind fun x16=>some x16) (((cond (decide (p1v.Kind=4)) (some (decide (p1v.Kind=4))) (some (decide (p1v.Kind=5)))):Option Bool).bind fun x18=>(cond x18 ((rN x1 ((p1v.Items).length:Int)).bind fun x24=>(fI (aAt (aDw n) p1v) ((x24,0))).bind fun x26=>(some x26)) (some x1)))))):Option (List UInt8)).bind fun x3=>(some x3)
noncomputable def aKJ (p0b:(List UInt8)) (p1v:aF):Option (List UInt8):=lim fun n=>aDw n p0b p1v
noncomputable def aDt (p0b:(List UInt8)) (p1v:aF):Option (List UInt8) :=
 (app 1 ([]:List UInt8) p0b).bind fun x1=>(xX p1v).bind fun x3=>cond (!x3) (some x1) ((aKJ x1 p1v).bind fun x7=>some x7)
noncomputable def tS (p0n:Int) (qO:Int) (nC:Int):Option Bool :=
 some (cond (decide (qO≤p0n)) (decide (p0n≤nC)) false)
theorem uC {p0n:Int}{qO:Int}{nC:Int}{res:Bool} (h:tS p0n qO nC=some res):cX Tryz.prog 152 [ci p0n,ci qO,ci nC] [] (.c (.bool res)) []:=by
 unfold tS at h
 refine dR (fn:=Tryz.f152) [0,1,2,6] (by kernel_rfl) Tryz.func152 r (by kernel_rfl) (by kernel_rfl)<|aJ<|sB r<|aH (fr':=[(0,aI),(1,aI),(2,aI)]) r r<|aJ<|mI r<|mI r<|aU r (uE r r)<|mB r<|og r r r (fun hc=>(bK (v:=aI) r))<|og r r r (fun hc=>(bK (v:=aI) r))<|og r r r (fun hc=>(rU (gx r hc) (gx r hc)))<|aU r (cS r r r (fun e=>hH e))<|sB r<|aH (fr':=[(6,aB)]) r r<|bO ?_
 obtain rfl:=sy h
 exact bN (rs':=[.tmp 6]) r<|cE (v:=aB) r<|bM<|aP [] r r r lr aC
noncomputable def aAw (p0c:Int):Option Bool :=
 some (cond (cond (cond (cond (decide (97≤p0c)) (decide (p0c≤122)) false) true (cond (decide (65≤p0c)) (decide (p0c≤90)) false)) true (cond (decide (48≤p0c)) (decide (p0c≤57)) false)) true (decide (p0c=95)))
theorem aJB {p0c:Int}{res:Bool} (h:aAw p0c=some res):cX Tryz.prog 158 [.c (.int .u8 p0c)] [] (.c (.bool res)) []:=by
 unfold aAw at h
 refine dR (fn:=Tryz.f158) [0,2] (by kernel_rfl) Tryz.func158 r (by kernel_rfl) (by kernel_rfl)<|aJ<|sB r<|aH (fr':=[(0,aI)]) r r<|aJ<|mI r<|aU r (uE r r)<|mB r<|og r r r (fun hc=>(bK (v:=aI) r))<|og r r r (fun hc=>(rU (gx r hc) r))<|aU r (cS r r r (fun e=>hH e))<|mB r<|og r r r (fun hc=>(bK (v:=aI) r))<|og r r r (fun hc=>(uE (gx r hc) r))<|og r r r (fun hc=>(bK (v:=aB) (gx r hc)))<|hZ r r (fun hc=>iI r (bK (v:=aI) r))<|hZ r r (fun hc=>iI r (rU (gx r hc) r))<|og r r r (fun hc=>(cS (gx r hc) r r (fun e=>vF hc (hH e))))<|aU r (dK r r r (fun e=>hH e))<|mB r<|og r r r (fun hc=>(bK (v:=aI) r))<|og r r r (fun hc=>(uE (gx r hc) r))<|og r r r (fun hc=>(bK (v:=aB) (gx r hc)))<|hZ r r (fun hc=>iI r (bK (v:=aI) r))<|hZ r r (fun hc=>iI r (rU (gx r hc) r))<|og r r r (fun hc=>(cS (gx r hc) r r (fun e=>vF hc (hH e))))<|aU r (dK r r r (fun e=>hH e))<|mB r<|og r r r (fun hc=>(bK (v:=aI) r))<|og r r r (fun hc=>(cQ (gx r hc) r))<|aU r (dK r r r (fun e=>hH e))<|sB r<|aH (fr':=[(2,aB)]) r r<|bO ?_
 obtain rfl:=sy h
 exact bN (rs':=[.tmp 2]) r<|cE (v:=aB) r<|bM<|aP [] r r r lr aC
noncomputable def aAv (p0s:(List UInt8)) (s10:Int):Option (dN Int (Fl Bool Unit)) :=
 cond (decide (s10<((p0s).length:Int))) ((lO p0s s10).bind fun x12=>(aAw ((x12).toNat:Int)).bind fun x14=>cond (!x14) (some (dN.out (Fl.done false))) (some (dN.next (IntKind.wrap .i64 (s10+1))))) (some (dN.out (Fl.go ())))
noncomputable def rV (p0s:(List UInt8)):Option Bool :=
 (gd ((cond (decide (((p0s).length:Int)<1)) true (decide (64<((p0s).length:Int))))==false) (lO p0s 0)).bind fun x1=>(gd (((cond (decide (((p0s).length:Int)<1)) true (decide (64<((p0s).length:Int))))==false)&&((decide (48≤((x1).toNat:Int)))==true)) (lO p0s 0)).bind fun x3=>cond (cond (cond (decide (((p0s).length:Int)<1)) true (decide (64<((p0s).length:Int)))) true (cond (decide (48≤((x1).toNat:Int))) (decide (((x3).toNat:Int)≤57)) false)) (some false) ((fI (aAv p0s) (0)).bind fun x7=>Fl.next x7 (fun j9=>(some true)))
theorem wI {p0s:(List UInt8)}{res:Bool} (h:rV p0s=some res):cX Tryz.prog 86 [.c (.str p0s)] [] (.c (.bool res)) []:=by
 unfold rV at h
 refine dR (fn:=Tryz.f86) [0,2,3,21,25,32] (by kernel_rfl) Tryz.func86 r (by kernel_rfl) (by kernel_rfl)<|aJ<|sB r<|aH (fr':=[(0,aS)]) r r<|aX<|aJ<|mS r<|aU r (nR zZ r)<|aU r (fY r r)<|mB r<|og r r r (fun hc=>(bK (v:=aS) r))<|og r r r (fun hc=>(nR zZ (gx r hc)))<|og r r r (fun hc=>(qW (gx r hc) r))<|aU r (dK r r r (fun e=>hH e))<|mB r<|og r r r (fun hc=>(bK (v:=aS) r))<|bx h fun x1 hx1 h2=>og r r r (fun hc=>(aB0 zZ (gx r hc) r (dM hx1 hc)))<|og r r r (fun hc=>(uE (gx r hc) r))<|og r r r (fun hc=>(bK (v:=aB) (gx r hc)))<|hZ r r (fun hc=>iI r (bK (v:=aS) r))<|bx h2 fun x3 hx3 h4=>hZ r r (fun hc=>iI r (aB0 zZ (gx r hc) r (dM hx3 hc)))<|hZ r r (fun hc=>iI r (rU (gx r hc) r))<|og r r r (fun hc=>(cS (gx r hc) r r (fun e=>vF hc (hH e))))<|aU r (dK r r r (fun e=>hH e))<|aH (fr':=[(0,aS),(21,aB)]) r r<|cU h4 r (fun hb5 h5=>?_) (fun hb5 h5=>?_)
 ·
  refine aJ<|sB r<|aH (fr':=[(2,aB)]) r r<|bO<|aN ?_
  obtain rfl:=sy h5
  exact bN (rs':=[.tmp 2]) r<|cE (v:=aB) r<|bM<|aP [] r r r lr aC
 ·
  refine bI<|dB<|aX<|aJ<|sI r<|aH (fr':=[(0,aS),(3,aI)]) r r<|bx h5 fun x7 hx7 h8=>hF lP (fun j9=>x7=Fl.go j9) (fun (j9:Unit)=>([]:Fr)) (fun (j9:Unit)=>([]:St)) ?_ ?_
  ·
   refine cP<|gY _ (fun (s10:Int)=>([(0,.c (.str p0s)),(3,ci s10)]:Fr)) (fun (s10:Int)=>([]:St)) hx7 (bJ [] 0 r r r r kR aC) ?_
   intro s10 st10 hs10 ho10
   unfold aAv at hs10
   refine aX<|aJ<|mI r<|mS r<|aU r (nR zZ r)<|aU r (fY r r)<|aH (fr':=[(0,aS),(3,aI),(25,aB)]) r r<|cU hs10 r (fun hb11 h11=>?_) (fun hb11 h11=>?_)
   ·
    refine bI<|dB<|aX<|cP<|aJ<|mS r<|mI r<|bx h11 fun x12 hx12 h13=>aU r (aB0 zZ r r hx12)<|bx h13 fun x14 hx14 h15=>oN (cA (v:=aB) r (aJB hx14) ⟨lr,trivial⟩ r r r)<|aU r (gX r)<|aH (fr':=[(0,aS),(3,aI),(32,aB)]) r r<|cU h15 r (fun hb16 h16=>?_) (fun hb16 h16=>?_)
    ·
     refine aJ<|sB r<|aH (fr':=[(2,aB)]) r r<|bO<|bT<|aN<|aN<|bT<|aN<|aN ?_
     have h17:=eS h16 ho10
     have h18:=gI h17 h8
     obtain rfl:=sy h18
     exact bN (rs':=[.tmp 2]) r<|cE (v:=aB) r<|bM<|aP [] r r r lr aC
    ·
     exact bI<|dI<|dB<|bA<|mI r<|aU r (fX r r)<|sI r<|dQ (fr':=[(0,aS),(3,aI),(32,aB)]) r<|zY _ (sy h16) (bJ [] 0 r r r r kR aC)
   ·
    refine iE<|cZ<|cZ<|fT ?_
    have h20:=eS h11 ho10
    exact lB _ (sy h20) (bJ [] 0 r r r r trivial aC)
  ·
   intro j9 hj21
   have h21:=nY hj21 h8
   refine dB<|aJ<|sB r<|aH (fr':=[(2,aB)]) r r<|bO ?_
   obtain rfl:=sy h21
   exact bN (rs':=[.tmp 2]) r<|cE (v:=aB) r<|bM<|aP [] r r r lr aC
noncomputable def tQ (p0o:bV) (s4:Int):Option (dN Int (Fl Bool Unit)) :=
 cond (decide (s4<((([p0o.ToStart,p0o.ToClose,p0o.Total,p0o.Beat,p0o.First,p0o.Most]:List Int)).length:Int))) ((lO ([p0o.ToStart,p0o.ToClose,p0o.Total,p0o.Beat,p0o.First,p0o.Most]:List Int) s4).bind fun x6=>(tS x6 0 1099511627776).bind fun x8=>cond (!x8) (some (dN.out (Fl.done false))) (some (dN.next (IntKind.wrap .i64 (s4+1))))) (some (dN.out (Fl.go ())))
noncomputable def tR (p0o:bV) (s19:Int):Option (dN Int (Fl Bool Unit)) :=
 cond (decide (s19<((p0o.Fatal).length:Int))) ((lO p0o.Fatal s19).bind fun x21=>cond (decide (4096<((x21).length:Int))) (some (dN.out (Fl.done false))) (some (dN.next (IntKind.wrap .i64 (s19+1))))) (some (dN.out (Fl.go ())))
noncomputable def oZ (p0o:bV):Option Bool :=
 (fI (tQ p0o) (0)).bind fun x1=>Fl.next x1 (fun j3=>((fI (tR p0o) (0)).bind fun x16=>Fl.next x16 (fun j18=>((gd ((decide (p0o.Queue=([]:List UInt8)))==false) (rV p0o.Queue)).bind fun x29=>(gd ((cond (decide (p0o.Queue=([]:List UInt8))) true x29)==true) (tS p0o.Coef 0 10000)).bind fun x31=>(gd ((cond (cond (decide (p0o.Queue=([]:List UInt8))) true x29) x31 false)==true) (tS p0o.Attempts 0 1000)).bind fun x33=>some (cond (cond (cond (cond (decide (p0o.Queue=([]:List UInt8))) true x29) x31 false) x33 false) (decide (((p0o.Fatal).length:Int)≤64)) false)))))
theorem aBz {p0o:bV}{res:Bool} (h:oZ p0o=some res):cX Tryz.prog 135 [.agg (AV.cs (mU p0o))] [] (.c (.bool res)) []:=by
 unfold oZ at h
 refine dR (fn:=Tryz.f135) [0,1,2,3,4,5,22,30,35,44] (by kernel_rfl) Tryz.func135 r (by kernel_rfl) (by kernel_rfl)<|aJ<|kP (v:=.agg dO) (n:=0) (cs:=dO) (σ':=[dO]) r r r r r<|sB r<|aH (fr':=[(1,aD)]) r r<|aJ<|aU r (bU aFA r)<|aU r (aR (v:=aI) hU r r r)<|aU r (bU aFB r)<|aU r (aR (v:=aI) hU r r r)<|aU r (bU aFC r)<|aU r (aR (v:=aI) hU r r r)<|aU r (bU aFD r)<|aU r (aR (v:=aI) hU r r r)<|aU r (bU aFE r)<|aU r (aR (v:=aI) hU r r r)<|aU r (bU aFG r)<|aU r (aR (v:=aI) hU r r r)<|uU (row:=(aG4 .i64)) (xs:=([p0o.ToStart,p0o.ToClose,p0o.Total,p0o.Beat,p0o.First,p0o.Most]:List Int)) (rows:=[[_],[_],[_],[_],[_],[_]]) (σ':=[dO]) [0] aBH r r r (fR r (fR r (fR r (fR r (fR r (fR r oL)))))) r r<|sV (v:=aO) r<|aH (fr':=[(1,aD),(3,aO)]) r r<|aX<|aX<|bA<|sI r<|aH (fr':=[(1,aD),(3,aO),(4,aI)]) r r<|bx h fun x1 hx1 h2=>hF lP (fun j3=>x1=Fl.go j3) (fun (j3:Unit)=>([(1,aD)]:Fr)) (fun (j3:Unit)=>([[.c (.str p0o.Queue),ci p0o.ToStart,ci p0o.ToClose,ci p0o.Total,ci p0o.Beat,ci p0o.First,ci p0o.Coef,ci p0o.Most,ci p0o.Attempts,.c (PV.ls 1 iF p0o.Fatal)]]:St)) ?_ ?_
 ·
  refine cP<|gY _ (fun (s4:Int)=>([(1,aD),(3,AV.os 0 1 (aG4 .i64) ([p0o.ToStart,p0o.ToClose,p0o.Total,p0o.Beat,p0o.First,p0o.Most]:List Int)),(4,ci s4)]:Fr)) (fun (s4:Int)=>([[.c (.str p0o.Queue),ci p0o.ToStart,ci p0o.ToClose,ci p0o.Total,ci p0o.Beat,ci p0o.First,ci p0o.Coef,ci p0o.Most,ci p0o.Attempts,.c (PV.ls 1 iF p0o.Fatal)]]:St)) hx1 (bJ [288] 1 r r r r nW (cO r aC)) ?_
  intro s4 st4 hs4 ho4
  unfold tQ at hs4
  refine aX<|aJ<|mI r<|mV (v:=aO) r<|aU r (gT aRV (nB r))<|aU r (fY r r)<|aH (fr':=[(1,aD),(3,aO),(4,aI),(22,aB)]) r r<|cU hs4 r (fun hb5 h5=>?_) (fun hb5 h5=>?_)
  ·
   refine bI<|dB<|aX<|cP<|aJ<|mV (v:=aO) r<|mI r<|bx h5 fun x6 hx6 h7=>aU r (lC (cs:=[PV.int _ _]) aBH (nB r) r hx6 r)<|aU r (fO (p:=PV.int _ _) hU r r)<|bx h7 fun x8 hx8 h9=>oN (cA (v:=aB) r (uC hx8) nW r r r)<|aU r (gX r)<|aH (fr':=[(1,aD),(3,aO),(4,aI),(30,aB)]) r r<|cU h9 r (fun hb10 h10=>?_) (fun hb10 h10=>?_)
   ·
    refine aJ<|sB r<|aH (fr':=[(2,aB)]) r r<|bO<|bT<|aN<|aN<|bT<|aN<|aN ?_
    have h11:=eS h10 ho4
    have h12:=gI h11 h2
    obtain rfl:=sy h12
    exact bN (rs':=[.tmp 2]) r<|cE (v:=aB) r<|bM<|aP [] r r r lr aC
   ·
    exact bI<|dI<|dB<|bA<|mI r<|aU r (fX r r)<|sI r<|dQ (fr':=[(1,aD),(3,aO),(4,aI),(30,aB)]) r<|zY _ (sy h10) (bJ [0] 1 r r r r nW (cO r aC))
  ·
   refine iE<|cZ<|cZ<|fT ?_
   have h14:=eS h5 ho4
   exact lB _ (sy h14) (bJ [] 1 r r r r ⟨lr,trivial⟩ (cO r aC))
 ·
  intro j3 hj15
  have h15:=nY hj15 h2
  refine dB<|aX<|aJ<|sI r<|aH (fr':=[(1,aD),(5,aI)]) r r<|bx h15 fun x16 hx16 h17=>hF lP (fun j18=>x16=Fl.go j18) (fun (j18:Unit)=>([(1,aD)]:Fr)) (fun (j18:Unit)=>([[.c (.str p0o.Queue),ci p0o.ToStart,ci p0o.ToClose,ci p0o.Total,ci p0o.Beat,ci p0o.First,ci p0o.Coef,ci p0o.Most,ci p0o.Attempts,.c (PV.ls 1 iF p0o.Fatal)]]:St)) ?_ ?_
  ·
   refine cP<|gY _ (fun (s19:Int)=>([(1,aD),(5,ci s19)]:Fr)) (fun (s19:Int)=>([[.c (.str p0o.Queue),ci p0o.ToStart,ci p0o.ToClose,ci p0o.Total,ci p0o.Beat,ci p0o.First,ci p0o.Coef,ci p0o.Most,ci p0o.Attempts,.c (PV.ls 1 iF p0o.Fatal)]]:St)) hx16 (bJ [] 1 r r r r kR (cO r aC)) ?_
   intro s19 st19 hs19 ho19
   unfold tR at hs19
   refine aX<|aJ<|mI r<|aU r (bU tC r)<|aU r (aR (v:=aL) qP r r r)<|aU r (gT yV (eA r))<|aU r (fY r r)<|aH (fr':=[(1,aD),(5,aI),(35,aB)]) r r<|cU hs19 r (fun hb20 h20=>?_) (fun hb20 h20=>?_)
   ·
    refine bI<|dB<|aX<|cP<|aJ<|aU r (bU tC r)<|aU r (aR (v:=aL) qP r r r)<|mI r<|bx h20 fun x21 hx21 h22=>aU r (lC (cs:=[PV.str _]) aAW (eA r) r hx21 r)<|aU r (fO (p:=PV.str _) rZ r r)<|aU r (nR zZ r)<|aU r (qW r r)<|aH (fr':=[(1,aD),(5,aI),(44,aB)]) r r<|cU h22 r (fun hb23 h23=>?_) (fun hb23 h23=>?_)
    ·
     refine aJ<|sB r<|aH (fr':=[(2,aB)]) r r<|bO<|bT<|aN<|aN<|bT<|aN<|aN ?_
     have h24:=eS h23 ho19
     have h25:=gI h24 h17
     obtain rfl:=sy h25
     exact bN (rs':=[.tmp 2]) r<|cE (v:=aB) r<|bM<|aP [] r r r lr aC
    ·
     exact bI<|dI<|dB<|bA<|mI r<|aU r (fX r r)<|sI r<|dQ (fr':=[(1,aD),(5,aI),(44,aB)]) r<|zY _ (sy h23) (bJ [] 1 r r r r kR (cO r aC))
   ·
    refine iE<|cZ<|cZ<|fT ?_
    have h27:=eS h20 ho19
    exact lB _ (sy h27) (bJ [] 1 r r r r ⟨lr,trivial⟩ (cO r aC))
  ·
   intro j18 hj28
   have h28:=nY hj28 h17
   refine dB<|aJ<|aU r (bU aCz r)<|aU r (aR (v:=aS) rZ r r r)<|aU r (wL r r)<|mB r<|og r r r (fun hc=>(bU aCz r))<|og r r r (fun hc=>(aR (v:=aS) rZ (gx r hc) r r))<|bx h28 fun x29 hx29 h30=>zG r r (fun hc=>cA (v:=aB) r (wI (dM hx29 hc)) ⟨(iA (gx r hc) lr),trivial⟩ (iO (by repeat (first | exact fU | refine bG r ?_ | refine bG (vD r) ?_ | refine bG vC ?_))) r r) ?_
   refine aU r (dK r r r (fun e=>hH e))<|mB r<|og r r r (fun hc=>(bU aFF r))<|og r r r (fun hc=>(aR (v:=aI) hU (gx r hc) r r))<|bx h30 fun x31 hx31 h32=>zG r r (fun hc=>cA (v:=aB) r (uC (dM hx31 hc)) ⟨(iA (gx r hc) lr),lr,lr,trivial⟩ (iO (by repeat (first | exact fU | refine bG r ?_ | refine bG (vD r) ?_ | refine bG vC ?_))) r r) ?_
   refine aU r (cS r r r (fun e=>hH e))<|mB r<|og r r r (fun hc=>(bU aFH r))<|og r r r (fun hc=>(aR (v:=aI) hU (gx r hc) r r))<|bx h32 fun x33 hx33 h34=>zG r r (fun hc=>cA (v:=aB) r (uC (dM hx33 hc)) ⟨(iA (gx r hc) lr),lr,lr,trivial⟩ (iO (by repeat (first | exact fU | refine bG r ?_ | refine bG (vD r) ?_ | refine bG vC ?_))) r r) ?_
   refine aU r (cS r r r (fun e=>hH e))<|mB r<|og r r r (fun hc=>(bU tC r))<|og r r r (fun hc=>(aR (v:=aL) qP (gx r hc) r r))<|og r r r (fun hc=>(gT yV (eA (gx r hc))))<|og r r r (fun hc=>(rU (gx r hc) r))<|aU r (cS r r r (fun e=>hH e))<|sB r<|aH (fr':=[(2,aB)]) r r<|bO ?_
   obtain rfl:=sy h34
   exact bN (rs':=[.tmp 2]) r<|cE (v:=aB) r<|bM<|aP [] r r r lr aC
noncomputable def wN (p1o:bV) (s12:((List UInt8) × Int)):Option (dN ((List UInt8) × Int) (List UInt8)) :=
 cond (decide (s12.2<((([p1o.ToStart,p1o.ToClose,p1o.Total,p1o.Beat,p1o.First,p1o.Coef,p1o.Most,p1o.Attempts,((p1o.Fatal).length:Int)]:List Int)).length:Int))) ((lO ([p1o.ToStart,p1o.ToClose,p1o.Total,p1o.Beat,p1o.First,p1o.Coef,p1o.Most,p1o.Attempts,((p1o.Fatal).length:Int)]:List Int) s12.2).bind fun x14=>(rN s12.1 x14).bind fun x16=>some (dN.next (x16,(IntKind.wrap .i64 (s12.2+1))))) (some (dN.out s12.1))
noncomputable def wO (p1o:bV) (s23:((List UInt8) × Int)):Option (dN ((List UInt8) × Int) (List UInt8)) :=
 cond (decide (s23.2<((p1o.Fatal).length:Int))) ((lO p1o.Fatal s23.2).bind fun x25=>(qD s23.1 x25).bind fun x27=>some (dN.next (x27,(IntKind.wrap .i64 (s23.2+1))))) (some (dN.out s23.1))
noncomputable def zI (p0b:(List UInt8)) (p1o:bV):Option (List UInt8) :=
 (app 1 ([]:List UInt8) p0b).bind fun x1=>(oZ p1o).bind fun x3=>cond (!x3) (some x1) ((qD x1 p1o.Queue).bind fun x7=>(fI (wN p1o) ((x7,0))).bind fun x9=>((fI (wO p1o) ((x9,0))).bind fun x20=>(some x20)))
