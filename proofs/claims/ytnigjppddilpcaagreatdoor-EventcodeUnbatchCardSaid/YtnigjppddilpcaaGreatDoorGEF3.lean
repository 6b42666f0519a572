import Derived.Test.YtnigjppddilpcaaGreatDoorGETy
import Derived.Test.YtnigjppddilpcaaGreatDoorGEF0
import Derived.Test.YtnigjppddilpcaaGreatDoorGEF1
import Derived.Test.YtnigjppddilpcaaGreatDoorGEF2
namespace Go.Proofs.YtnigjppddilpcaaGreatDoor
open Go Abs
set_option maxRecDepth 100000
set_option linter.unusedVariables false
set_option linter.unusedSimpArgs false
noncomputable def gF (p0s:(List aF)) (s4:Int):Option (dN Int (Fl Int Unit)) :=
 cond (decide (s4<((p0s).length:Int))) ((lO p0s s4).bind fun x6=>(vW x6).bind fun x8=>cond x8 (some (dN.out (Fl.done s4))) (some (dN.next (IntKind.wrap .i64 (s4+1))))) (some (dN.out (Fl.go ())))
noncomputable def iM (p0s:(List aF)):Option Int :=
 (fI (gF p0s) (0)).bind fun x1=>Fl.next x1 (fun j3=>(some (-1)))
theorem rD {p0s:(List aF)}{res:Int} (h:iM p0s=some res):cX Tryz.prog 205 [.c (PV.ls 5 cF p0s),.fn 216 []] [] (ci res) []:=by
 unfold iM at h
 refine dR (fn:=Tryz.f205) [0,1,4,5,7,8,9,16] (by kernel_rfl) Tryz.func205 r (by kernel_rfl) (by kernel_rfl)<|aJ<|sI r<|aH (fr':=[(0,aL),(1,.fn _ [])]) r r<|aX<|aJ<|mL r<|aU r (gT vL (eA r))<|mI r<|aH (fr':=[(0,aL),(1,.fn _ []),(7,aI),(8,aI)]) r r<|bx h fun x1 hx1 h2=>hF lP (fun j3=>x1=Fl.go j3) (fun (j3:Unit)=>([]:Fr)) (fun (j3:Unit)=>([]:St)) ?_ ?_
 ·
  refine cP<|gY _ (fun (s4:Int)=>([(0,.c (PV.ls 5 cF p0s)),(1,.fn 216 []),(7,ci ((p0s).length:Int)),(8,ci s4)]:Fr)) (fun (s4:Int)=>([]:St)) hx1 (bJ [] 0 r r r r kL4 aC) ?_
  intro s4 st4 hs4 ho4
  unfold gF at hs4
  refine aJ<|aU r (fY r r)<|aH (fr':=[(0,aL),(1,.fn _ []),(7,aI),(8,aI),(9,aB)]) r r<|aX<|cU hs4 r (fun hb5 h5=>?_) (fun hb5 h5=>?_)
  ·
   refine bI<|dB<|aX<|cP<|aJ<|mI r<|sI r<|aH (fr':=[(0,aL),(1,.fn _ []),(5,aI),(7,aI),(8,aI)]) r r<|aJ<|mV (v:=.fn _ []) r<|mL r<|mI r<|bx h5 fun x6 hx6 h7=>aU r (lC (cs:=[PV.int _ _,PV.int _ _,PV.str _,PV.ls _ _ _,PV.ls _ _ _]) uF (eA r) r hx6 (dZ _))<|aU r (nL (us:=[PV.int _ _,PV.int _ _,PV.str _,PV.ls _ _ _,PV.ls _ _ _]) jC r r r)<|bx h7 fun x8 hx8 h9=>oN (cA (v:=aB) r (aGu hx8) ⟨(cM r kR5),trivial⟩ r r r)<|aH (fr':=[(0,aL),(1,.fn _ []),(5,aI),(7,aI),(8,aI),(16,aB)]) r r<|cU h9 r (fun hb10 h10=>?_) (fun hb10 h10=>?_)
   ·
    refine aJ<|mI r<|sI r<|aH (fr':=[(4,aI)]) r r<|bO<|bT<|aN<|aN<|bT<|aN<|aN ?_
    have h11:=eS h10 ho4
    have h12:=gI h11 h2
    obtain rfl:=sy h12
    exact bN (rs':=[.tmp 4]) r<|cE (v:=aI) r<|bM<|aP [] r r r lr aC
   ·
    exact bI<|dI<|dB<|bA<|aU r (fX r r)<|mI r<|dQ (fr':=[(0,aL),(1,.fn _ []),(5,aI),(7,aI),(8,aI),(16,aB)]) r<|zY _ (sy h10) (bJ [] 0 r r r r kL4 aC)
  ·
   refine iE<|cZ<|cZ<|fT ?_
   have h14:=eS h5 ho4
   exact lB _ (sy h14) (bJ [] 0 r r r r trivial aC)
 ·
  intro j3 hj15
  have h15:=nY hj15 h2
  refine dB<|aJ<|sI r<|aH (fr':=[(4,aI)]) r r<|bO ?_
  obtain rfl:=sy h15
  exact bN (rs':=[.tmp 4]) r<|cE (v:=aI) r<|bM<|aP [] r r r lr aC
noncomputable def gD (p0s:(List aF)):Option Bool :=
 (iM p0s).bind fun x1=>some (decide (0≤x1))
theorem qH {p0s:(List aF)}{res:Bool} (h:gD p0s=some res):cX Tryz.prog 176 [.c (PV.ls 5 cF p0s),.fn 216 []] [] (.c (.bool res)) []:=by
 unfold gD at h
 refine dR (fn:=Tryz.f176) [0,1,4] (by kernel_rfl) Tryz.func176 r (by kernel_rfl) (by kernel_rfl)<|aJ<|sB r<|aH (fr':=[(0,aL),(1,.fn _ [])]) r r<|aJ<|mL r<|mV (v:=.fn _ []) r<|bx h fun x1 hx1 h2=>oN (cA (v:=aI) r (rD hx1) kR r r r)<|aU r (uE r r)<|sB r<|aH (fr':=[(4,aB)]) r r<|bO ?_
 obtain rfl:=sy h2
 exact bN (rs':=[.tmp 4]) r<|cE (v:=aB) r<|bM<|aP [] r r r lr aC
noncomputable def yN (p0v:aF):Option Bool :=
 (gd ((cond (!decide (p0v.Kind=4)) true (!decide (((p0v.Items).length:Int)=2)))==false) (lO p0v.Items 1)).bind fun x1=>cond (cond (cond (!decide (p0v.Kind=4)) true (!decide (((p0v.Items).length:Int)=2))) true (!decide (x1.Kind=4))) (some false) ((lO p0v.Items 1).bind fun x5=>(gD x5.Items).bind fun x7=>some (!x7))
theorem aHP {p0v:aF}{res:Bool} (h:yN p0v=some res):cX Tryz.prog 200 [.agg (AV.cs (eR p0v))] [] (.c (.bool res)) []:=by
 unfold yN at h
 refine dR (fn:=Tryz.f200) [0,1,2,19] (by kernel_rfl) Tryz.func200 r (by kernel_rfl) (by kernel_rfl)<|aJ<|kP (v:=.agg cJ) (n:=0) (cs:=cJ) (σ':=[cJ]) r r r r r<|sB r<|aH (fr':=[(1,aD)]) r r<|aX<|aJ<|aU r (bU mE r)<|aU r (aR (v:=aI) hU r r r)<|aU r (iZ r r)<|mB r<|og r r r (fun hc=>(bU iB r))<|og r r r (fun hc=>(aR (v:=aL) nS (gx r hc) r r))<|og r r r (fun hc=>(gT vL (eA (gx r hc))))<|og r r r (fun hc=>(iZ (gx r hc) r))<|aU r (dK r r r (fun e=>hH e))<|mB r<|og r r r (fun hc=>(bU iB r))<|og r r r (fun hc=>(aR (v:=aL) nS (gx r hc) r r))<|bx h fun x1 hx1 h2=>og r r r (fun hc=>(lC (cs:=[PV.int _ _,PV.int _ _,PV.str _,PV.ls _ _ _,PV.ls _ _ _]) uF (eA (gx r hc)) r (dM hx1 hc) (dZ _)))<|og r r r (fun hc=>(yP mE (gx r hc)))<|og r r r (fun hc=>(fO (p:=PV.int _ _) hU (gx r hc) r))<|og r r r (fun hc=>(iZ (gx r hc) r))<|aU r (dK r r r (fun e=>hH e))<|aH (fr':=[(1,aD),(19,aB)]) r r<|cU h2 r (fun hb3 h3=>?_) (fun hb3 h3=>?_)
 ·
  refine aJ<|sB r<|aH (fr':=[(2,aB)]) r r<|bO<|aN ?_
  obtain rfl:=sy h3
  exact bN (rs':=[.tmp 2]) r<|cE (v:=aB) r<|bM<|aP [] r r r lr aC
 ·
  refine bI<|dB<|aJ<|aU r (bU iB r)<|aU r (aR (v:=aL) nS r r r)<|bx h3 fun x5 hx5 h6=>aU r (lC (cs:=[PV.int _ _,PV.int _ _,PV.str _,PV.ls _ _ _,PV.ls _ _ _]) uF (eA r) r hx5 (dZ _))<|aU r (yP iB r)<|aU r (fO (p:=PV.ls _ _ _) nS r r)<|bx h6 fun x7 hx7 h8=>oN (cA (v:=aB) r (qH hx7) kR r r r)<|aU r (gX r)<|sB r<|aH (fr':=[(2,aB)]) r r<|bO ?_
  obtain rfl:=sy h8
  exact bN (rs':=[.tmp 2]) r<|cE (v:=aB) r<|bM<|aP [] r r r lr aC
noncomputable def xB (p0c:fG):Option Bool :=
 cond (decide (p0c.Kind=3)) ((nP p0c.N 1 1099511627776).bind fun x2=>some x2) (cond (decide (p0c.Kind=5)) ((nP p0c.N 0 2).bind fun x6=>some x6) (cond (decide (p0c.Kind=9)) ((nP p0c.N 0 1).bind fun x10=>some x10) (cond (decide (p0c.Kind=7)) ((gd ((decide (p0c.N=(-1)))==false) (nP p0c.N 0 2147483647)).bind fun x14=>some (cond (decide (p0c.N=(-1))) true (cond x14 (decide (p0c.Data.Kind=0)) false))) (cond (decide (p0c.Kind=10)) (some (decide (p0c.Data.Kind=5))) (cond (decide (p0c.Kind=14)) ((yN p0c.Data).bind fun x20=>some x20) (some true))))))
theorem aG8 {p0c:fG}{res:Bool} (h:xB p0c=some res):cX Tryz.prog 168 [.agg (AV.cs (qE p0c))] [] (.c (.bool res)) []:=by
 unfold xB at h
 refine dR (fn:=Tryz.f168) [0,1,2,4,5,10,15,20,36,42] (by kernel_rfl) Tryz.func168 r (by kernel_rfl) (by kernel_rfl)<|aJ<|kP (v:=.agg bL) (n:=0) (cs:=bL) (σ':=[bL]) r r r r r<|sB r<|aH (fr':=[(1,aD)]) r r<|aX<|aJ<|aU r (bU uM r)<|aU r (aR (v:=aI) hU r r r)<|aH (fr':=[(1,aD),(4,aI)]) r r<|cP<|aJ<|aU r (cQ r r)<|sB r<|aH (fr':=[(1,aD),(4,aI),(5,aB)]) r r<|cU h r (fun hb1 h1=>?_) (fun hb1 h1=>?_)
 ·
  refine aJ<|aU r (bU wW r)<|aU r (aR (v:=aI) hU r r r)<|bx h1 fun x2 hx2 h3=>oN (cA (v:=aB) r (pA hx2) nW r r r)<|sB r<|aH (fr':=[(2,aB)]) r r<|bO<|bT<|aN ?_
  obtain rfl:=sy h3
  exact bN (rs':=[.tmp 2]) r<|cE (v:=aB) r<|bM<|aP [] r r r lr aC
 ·
  refine aJ<|aU r (cQ r r)<|sB r<|aH (fr':=[(1,aD),(4,aI),(10,aB)]) r r<|cU h1 r (fun hb5 h5=>?_) (fun hb5 h5=>?_)
  ·
   refine aJ<|aU r (bU wW r)<|aU r (aR (v:=aI) hU r r r)<|bx h5 fun x6 hx6 h7=>oN (cA (v:=aB) r (pA hx6) nW r r r)<|sB r<|aH (fr':=[(2,aB)]) r r<|bO<|bT<|aN ?_
   obtain rfl:=sy h7
   exact bN (rs':=[.tmp 2]) r<|cE (v:=aB) r<|bM<|aP [] r r r lr aC
  ·
   refine aJ<|aU r (cQ r r)<|sB r<|aH (fr':=[(1,aD),(4,aI),(15,aB)]) r r<|cU h5 r (fun hb9 h9=>?_) (fun hb9 h9=>?_)
   ·
    refine aJ<|aU r (bU wW r)<|aU r (aR (v:=aI) hU r r r)<|bx h9 fun x10 hx10 h11=>oN (cA (v:=aB) r (pA hx10) nW r r r)<|sB r<|aH (fr':=[(2,aB)]) r r<|bO<|bT<|aN ?_
    obtain rfl:=sy h11
    exact bN (rs':=[.tmp 2]) r<|cE (v:=aB) r<|bM<|aP [] r r r lr aC
   ·
    refine aJ<|aU r (cQ r r)<|sB r<|aH (fr':=[(1,aD),(4,aI),(20,aB)]) r r<|cU h9 r (fun hb13 h13=>?_) (fun hb13 h13=>?_)
    ·
     refine aJ<|aU r (bU wW r)<|aU r (aR (v:=aI) hU r r r)<|aU r (cQ r r)<|mB r<|og r r r (fun hc=>(bU wW r))<|og r r r (fun hc=>(aR (v:=aI) hU (gx r hc) r r))<|bx h13 fun x14 hx14 h15=>zG r r (fun hc=>cA (v:=aB) r (pA (dM hx14 hc)) ⟨(iA (gx r hc) lr),lr,lr,trivial⟩ (iO (by repeat (first | exact fU | refine bG r ?_ | refine bG (vD r) ?_ | refine bG vC ?_))) r r) ?_
     refine og r r r (fun hc=>(bK (v:=aB) (gx r hc)))<|hZ r r (fun hc=>iI r (bU zD r))<|hZ r r (fun hc=>iI r (bU mE (gx r hc)))<|hZ r r (fun hc=>iI r (aR (v:=aI) hU (gx r hc) r r))<|hZ r r (fun hc=>iI r (cQ (gx r hc) r))<|og r r r (fun hc=>(cS (gx r hc) r r (fun e=>vF hc (hH e))))<|aU r (dK r r r (fun e=>hH e))<|sB r<|aH (fr':=[(2,aB)]) r r<|bO<|bT<|aN ?_
     obtain rfl:=sy h15
     exact bN (rs':=[.tmp 2]) r<|cE (v:=aB) r<|bM<|aP [] r r r lr aC
    ·
     refine aJ<|aU r (cQ r r)<|sB r<|aH (fr':=[(1,aD),(4,aI),(36,aB)]) r r<|cU h13 r (fun hb17 h17=>?_) (fun hb17 h17=>?_)
     ·
      refine aJ<|aU r (bU zD r)<|aU r (bU mE r)<|aU r (aR (v:=aI) hU r r r)<|aU r (cQ r r)<|sB r<|aH (fr':=[(2,aB)]) r r<|bO<|bT<|aN ?_
      obtain rfl:=sy h17
      exact bN (rs':=[.tmp 2]) r<|cE (v:=aB) r<|bM<|aP [] r r r lr aC
     ·
      refine aJ<|aU r (cQ r r)<|sB r<|aH (fr':=[(1,aD),(42,aB)]) r r<|cU h17 r (fun hb19 h19=>?_) (fun hb19 h19=>?_)
      ·
       refine aJ<|aU r (bU zD r)<|aU r (eL (us:=cJ) jC r r r r)<|bx h19 fun x20 hx20 h21=>oN (cA (v:=aB) r (aHP hx20) ⟨(cM r kR5),trivial⟩ r r r)<|sB r<|aH (fr':=[(2,aB)]) r r<|bO<|bT<|aN ?_
       obtain rfl:=sy h21
       exact bN (rs':=[.tmp 2]) r<|cE (v:=aB) r<|bM<|aP [] r r r lr aC
      ·
       refine bI<|dI<|dB<|aJ<|sB r<|aH (fr':=[(2,aB)]) r r<|bO ?_
       obtain rfl:=sy h19
       exact bN (rs':=[.tmp 2]) r<|cE (v:=aB) r<|bM<|aP [] r r r lr aC
noncomputable def yM (p0c:fG):Option Bool :=
 (xA p0c.Kind).bind fun x1=>(nP p0c.Kind 1 14).bind fun x3=>(gd ((!x3)==false) (aAd p0c x1)).bind fun x5=>(gd ((cond (!x3) true (!x5))==false) (zS p0c.Data)).bind fun x7=>(gd ((cond (cond (!x3) true (!x5)) true (!x7))==false) (mQ p0c.Opts)).bind fun x9=>cond (cond (cond (cond (!x3) true (!x5)) true (!x7)) true (!x9)) (some false) ((gd (x1.seq_==true) (nP p0c.Seq 1 2000)).bind fun x13=>(gd (((cond x1.seq_ (!x13) false)==false)&&(x1.key_==true)) (wG p0c.Key)).bind fun x15=>cond (cond (cond x1.seq_ (!x13) false) true (cond x1.key_ (!x15) false)) (some false) ((gd (((x1.name_==true)&&((cond (decide (p0c.Kind=12)) (decide (4096<((p0c.Name).length:Int))) false)==false))&&((!decide (p0c.Kind=12))==true)) (tX p0c.Name)).bind fun x19=>cond (cond x1.name_ (cond (cond (decide (p0c.Kind=12)) (decide (4096<((p0c.Name).length:Int))) false) true (cond (!decide (p0c.Kind=12)) (!x19) false)) false) (some false) ((xB p0c).bind fun x23=>some x23)))
theorem aHN {p0c:fG}{res:Bool} (h:yM p0c=some res):cX Tryz.prog 106 [.agg (AV.cs (qE p0c))] [] (.c (.bool res)) []:=by
 unfold yM at h
 refine dR (fn:=Tryz.f106) [0,1,2,3,28,46,70] (by kernel_rfl) Tryz.func106 r (by kernel_rfl) (by kernel_rfl)<|aJ<|kP (v:=.agg bL) (n:=0) (cs:=bL) (σ':=[bL]) r r r r r<|sB r<|aH (fr':=[(1,aD)]) r r<|aJ<|aU r (bU uM r)<|aU r (aR (v:=aI) hU r r r)<|bx h fun x1 hx1 h2=>oN (cA (v:=.agg eP) r (aG7 hx1) ⟨lr,trivial⟩ r r r)<|jV (n:=1) (cs:=eP) (σ':=[bL,eP]) aRZ r r r<|cN (v:=.agg eP) (us:=eP) (cs:=eP) (σ':=[bL,eP]) r yE r r r r r r r r<|aH (fr':=[(1,aD),(3,bD)]) r r<|aX<|aJ<|aU r (bU uM r)<|aU r (aR (v:=aI) hU r r r)<|bx h2 fun x3 hx3 h4=>oN (cA (v:=aB) r (pA hx3) nW r r r)<|aU r (gX r)<|mB r<|og r r r (fun hc=>(eL (us:=bL) aC1 r r r r))<|og r r r (fun hc=>(eL (us:=eP) yE r r r r))<|bx h4 fun x5 hx5 h6=>zG r r (fun hc=>cA (v:=aB) r (aJv (dM hx5 hc)) ⟨(iA (gx r hc) (cM r aMt)),(iA (gx r hc) (cM r kR6)),trivial⟩ (iO (by repeat (first | exact fU | refine bG r ?_ | refine bG (vD r) ?_ | refine bG vC ?_))) r r) ?_
 refine og r r r (fun hc=>(gX (gx r hc)))<|aU r (dK r r r (fun e=>hH e))<|mB r<|og r r r (fun hc=>(bU zD r))<|og r r r (fun hc=>(eL (us:=cJ) jC (gx r hc) r r r))<|bx h6 fun x7 hx7 h8=>zG r r (fun hc=>cA (v:=aB) r (aFh (dM hx7 hc)) ⟨(iA (gx r hc) (cM r kR5)),trivial⟩ (iO (by repeat (first | exact fU | refine bG r ?_ | refine bG (vD r) ?_ | refine bG vC ?_))) r r) ?_
 refine og r r r (fun hc=>(gX (gx r hc)))<|aU r (dK r r r (fun e=>hH e))<|mB r<|og r r r (fun hc=>(bU aET r))<|og r r r (fun hc=>(eL (us:=dO) zW (gx r hc) r r r))<|bx h8 fun x9 hx9 h10=>zG r r (fun hc=>cA (v:=aB) r (wP (dM hx9 hc)) ⟨(iA (gx r hc) (cM r aDf)),trivial⟩ (iO (by repeat (first | exact fU | refine bG r ?_ | refine bG (vD r) ?_ | refine bG vC ?_))) r r) ?_
 refine og r r r (fun hc=>(gX (gx r hc)))<|aU r (dK r r r (fun e=>hH e))<|aH (fr':=[(1,aD),(3,bD),(28,aB)]) r r<|cU h10 r (fun hb11 h11=>?_) (fun hb11 h11=>?_)
 ·
  refine aJ<|sB r<|aH (fr':=[(2,aB)]) r r<|bO<|aN ?_
  obtain rfl:=sy h11
  exact bN (rs':=[.tmp 2]) r<|cE (v:=aB) r<|bM<|aP [] r r r lr aC
 ·
  refine bI<|dB<|aX<|aJ<|aU r (bU aPp r)<|aU r (aR (v:=aB) tv4 r r r)<|mB r<|og r r r (fun hc=>(bU aER r))<|og r r r (fun hc=>(aR (v:=aI) hU (gx r hc) r r))<|bx h11 fun x13 hx13 h14=>zG r r (fun hc=>cA (v:=aB) r (pA (dM hx13 hc)) ⟨(iA (gx r hc) lr),lr,lr,trivial⟩ (iO (by repeat (first | exact fU | refine bG r ?_ | refine bG (vD r) ?_ | refine bG vC ?_))) r r) ?_
  refine og r r r (fun hc=>(gX (gx r hc)))<|aU r (cS r r r (fun e=>hH e))<|mB r<|og r r r (fun hc=>(bU aPr r))<|og r r r (fun hc=>(aR (v:=aB) tv4 (gx r hc) r r))<|og r r r (fun hc=>(bK (v:=aB) (gx r hc)))<|hZ r r (fun hc=>iI r (bU aES r))<|hZ r r (fun hc=>iI r (aR (v:=aS) rZ (gx r hc) r r))<|bx h14 fun x15 hx15 h16=>hZ r r (fun hc=>cA (v:=aB) r (aHO (dM hx15 hc)) ⟨(iA (gx r hc) lr),trivial⟩ (iO (by repeat (first | exact fU | refine bG r ?_ | refine bG (vD r) ?_ | refine bG vC ?_))) r r) ?_
  refine hZ r r (fun hc=>iI r (gX (gx r hc)))<|og r r r (fun hc=>(cS (gx r hc) r r (fun e=>vF hc (hH e))))<|aU r (dK r r r (fun e=>hH e))<|aH (fr':=[(1,aD),(3,bD),(46,aB)]) r r<|cU h16 r (fun hb17 h17=>?_) (fun hb17 h17=>?_)
  ·
   refine aJ<|sB r<|aH (fr':=[(2,aB)]) r r<|bO<|aN ?_
   obtain rfl:=sy h17
   exact bN (rs':=[.tmp 2]) r<|cE (v:=aB) r<|bM<|aP [] r r r lr aC
  ·
   refine bI<|dB<|aX<|aJ<|aU r (bU aPq r)<|aU r (aR (v:=aB) tv4 r r r)<|mB r<|og r r r (fun hc=>(bU uM r))<|og r r r (fun hc=>(aR (v:=aI) hU (gx r hc) r r))<|og r r r (fun hc=>(cQ (gx r hc) r))<|og r r r (fun hc=>(bK (v:=aB) (gx r hc)))<|hZ r r (fun hc=>iI r (bU aCs r))<|hZ r r (fun hc=>iI r (aR (v:=aS) rZ (gx r hc) r r))<|hZ r r (fun hc=>iI r (nR zZ (gx r hc)))<|hZ r r (fun hc=>iI r (qW (gx r hc) r))<|og r r r (fun hc=>(cS (gx r hc) r r (fun e=>vF hc (hH e))))<|og r r r (fun hc=>(bK (v:=aB) (gx r hc)))<|hZ r r (fun hc=>iI r (bU uM r))<|hZ r r (fun hc=>iI r (aR (v:=aI) hU (gx r hc) r r))<|hZ r r (fun hc=>iI r (iZ (gx r hc) r))<|hZ r r (fun hc=>iI r (bK (v:=aB) (gx r hc)))<|hZ r r (fun hc=>iI r (bU aCs r))<|hZ r r (fun hc=>iI r (aR (v:=aS) rZ (gx r hc) r r))<|bx h17 fun x19 hx19 h20=>hZ r r (fun hc=>cA (v:=aB) r (yB (dM hx19 hc)) ⟨(iA (gx r hc) lr),trivial⟩ (iO (by repeat (first | exact fU | refine bG r ?_ | refine bG (vD r) ?_ | refine bG vC ?_))) r r) ?_
   refine hZ r r (fun hc=>iI r (gX (gx r hc)))<|hZ r r (fun hc=>iI r (cS (gx r hc) r r (fun e=>vF hc (hH e))))<|og r r r (fun hc=>(dK (gx r hc) r r (fun e=>vF hc (hH e))))<|aU r (cS r r r (fun e=>hH e))<|aH (fr':=[(1,aD),(70,aB)]) r r<|cU h20 r (fun hb21 h21=>?_) (fun hb21 h21=>?_)
   ·
    refine aJ<|sB r<|aH (fr':=[(2,aB)]) r r<|bO<|aN ?_
    obtain rfl:=sy h21
    exact bN (rs':=[.tmp 2]) r<|cE (v:=aB) r<|bM<|aP [] r r r lr aC
   ·
    refine bI<|dB<|aJ<|aU r (eL (us:=bL) aC1 r r r r)<|bx h21 fun x23 hx23 h24=>oN (cA (v:=aB) r (aG8 hx23) ⟨(cM r aMt),trivial⟩ r r r)<|sB r<|aH (fr':=[(2,aB)]) r r<|bO ?_
    obtain rfl:=sy h24
    exact bN (rs':=[.tmp 2]) r<|cE (v:=aB) r<|bM<|aP [] r r r lr aC
noncomputable def vY (p0e:bW) (aAm:Int):Option Bool :=
 (gd (((decide (p0e.Code=0))==true)&&((cond (decide (aAm=2)) true (decide (aAm=4)))==true)) (mD p0e.Ref 1 2000)).bind fun x1=>(gd ((cond (decide (p0e.Code=0)) (cond (cond (cond (decide (aAm=2)) true (decide (aAm=4))) x1 false) true (cond (!(cond (decide (aAm=2)) true (decide (aAm=4)))) (decide (p0e.Ref=0)) false)) false)==true) (yM (fG.mk aAm p0e.Seq p0e.Name p0e.Key p0e.N p0e.Data p0e.Opts))).bind fun x3=>some (cond (cond (decide (p0e.Code=0)) (cond (cond (cond (decide (aAm=2)) true (decide (aAm=4))) x1 false) true (cond (!(cond (decide (aAm=2)) true (decide (aAm=4)))) (decide (p0e.Ref=0)) false)) false) x3 false)
theorem aGw {p0e:bW}{aAm:Int}{res:Bool} (h:vY p0e aAm=some res):cX Tryz.prog 138 [.agg (AV.cs (eM p0e)),ci aAm] [] (.c (.bool res)) []:=by
 unfold vY at h
 refine dR (fn:=Tryz.f138) [0,1,2,4,5,6] (by kernel_rfl) Tryz.func138 r (by kernel_rfl) (by kernel_rfl)<|aJ<|kP (v:=.agg aG) (n:=0) (cs:=aG) (σ':=[aG]) r r r r r<|sB r<|aH (fr':=[(1,aI),(2,aD)]) r r<|aJ<|mI r<|aU r (bU aCA r)<|aU r (aR (v:=aI) hU r r r)<|aU r (bU xP r)<|aU r (aR (v:=aS) rZ r r r)<|aU r (bU xQ r)<|aU r (aR (v:=aS) rZ r r r)<|aU r (bU aAC r)<|aU r (aR (v:=aI) hU r r r)<|aU r (bU aAV r)<|aU r (eL (us:=cJ) jC r r r r)<|aU r (bU aBG r)<|aU r (eL (us:=dO) zW r r r r)<|aU r (rI (c0:=eV) (cs:=bL) aRR r (iQ (v:=aI) (us:=[_]) (cs':=u20) r r r r r r (iQ (v:=aI) (us:=[_]) (cs':=u20) r r r r r r (iQ (v:=aS) (us:=[_]) (cs':=u20) r r r r r r (iQ (v:=aS) (us:=[_]) (cs':=u20) r r r r r r (iQ (v:=aI) (us:=[_]) (cs':=u20) r r r r r r (iQ (v:=.agg cJ) (us:=u5) (cs':=u20) r r r r r r (iQ (v:=.agg dO) (us:=u10) (cs':=u20) r r r r r r rH))))))))<|jV (n:=1) (cs:=eV) (σ':=[aG,eV]) aPv r r r<|cN (v:=.agg bL) (us:=bL) (cs:=eV) (σ':=[aG,bL]) r aC1 r r r r r r r r<|aH (fr':=[(1,aI),(2,aD),(5,bD)]) r r<|aX<|bA<|mI r<|aU r (cQ r r)<|mB r<|og r r r (fun hc=>(bK (v:=aI) r))<|og r r r (fun hc=>(cQ (gx r hc) r))<|aU r (dK r r r (fun e=>hH e))<|sB r<|aH (fr':=[(2,aD),(5,bD),(6,aB)]) r r<|aJ<|aU r (bU aB7 r)<|aU r (aR (v:=aI) hU r r r)<|aU r (cQ r r)<|mB r<|og r r r (fun hc=>(bK (v:=aB) r))<|og r r r (fun hc=>(bK (v:=aB) (gx r hc)))<|hZ r r (fun hc=>iI r (bU aCB r))<|hZ r r (fun hc=>iI r (aR (v:=aI) hU (gx r hc) r r))<|bx h fun x1 hx1 h2=>hZ r r (fun hc=>cA (v:=aB) r (nF (dM hx1 hc)) ⟨(iA (gx r hc) lr),lr,lr,trivial⟩ (iO (by repeat (first | exact fU | refine bG r ?_ | refine bG (vD r) ?_ | refine bG vC ?_))) r r) ?_
 refine og r r r (fun hc=>(cS (gx r hc) r r (fun e=>vF hc (hH e))))<|og r r r (fun hc=>(bK (v:=aB) (gx r hc)))<|hZ r r (fun hc=>iI r (bK (v:=aB) r))<|hZ r r (fun hc=>iI r (gX (gx r hc)))<|hZ r r (fun hc=>iI r (bK (v:=aB) (gx r hc)))<|hZ r r (fun hc=>iI r (bU aCB r))<|hZ r r (fun hc=>iI r (aR (v:=aI) hU (gx r hc) r r))<|hZ r r (fun hc=>iI r (cQ (gx r hc) r))<|hZ r r (fun hc=>iI r (cS (gx r hc) r r (fun e=>vF hc (hH e))))<|og r r r (fun hc=>(dK (gx r hc) r r (fun e=>vF hc (hH e))))<|aU r (cS r r r (fun e=>hH e))<|mB r<|og r r r (fun hc=>(eL (us:=bL) aC1 r r r r))<|bx h2 fun x3 hx3 h4=>zG r r (fun hc=>cA (v:=aB) r (aHN (dM hx3 hc)) ⟨(iA (gx r hc) (cM r aMt)),trivial⟩ (iO (by repeat (first | exact fU | refine bG r ?_ | refine bG (vD r) ?_ | refine bG vC ?_))) r r) ?_
 refine aU r (cS r r r (fun e=>hH e))<|sB r<|aH (fr':=[(4,aB)]) r r<|bO ?_
 obtain rfl:=sy h4
 exact bN (rs':=[.tmp 4]) r<|cE (v:=aB) r<|bM<|aP [] r r r lr aC
noncomputable def aBR (dT:Int):Option kQ :=
 cond (decide (dT=1)) (some (kQ.mk false false true false true true true)) (cond (decide (dT=2)) (some (kQ.mk false false true false false false false)) (((cond (decide (dT=3)) (some (decide (dT=3))) (cond (decide (dT=4)) (some (decide (dT=4))) (some (decide (dT=6))))):Option Bool).bind fun x5=>(cond x5 (some (kQ.mk false true false false false false false)) (cond (decide (dT=5)) (some (kQ.mk false true false true false false false)) (cond (decide (dT=8)) (some (kQ.mk true true true false false false false)) (((cond (decide (dT=9)) (some (decide (dT=9))) (cond (decide (dT=13)) (some (decide (dT=13))) (some (decide (dT=21))))):Option Bool).bind fun x17=>(cond x17 (some (kQ.mk true true false false false false true)) (((cond (decide (dT=10)) (some (decide (dT=10))) (some (decide (dT=22)))):Option Bool).bind fun x25=>(cond x25 (some (kQ.mk true true false false true false true)) (cond (decide (dT=11)) (some (kQ.mk true true false true false false false)) (((cond (decide (dT=15)) (some (decide (dT=15))) (some (decide (dT=24)))):Option Bool).bind fun x34=>(cond x34 (some (kQ.mk true true false false false false false)) (cond (decide (dT=17)) (some (kQ.mk false false false false true true true)) (cond (decide (dT=20)) (some (kQ.mk true true false false false true false)) (cond (decide (dT=25)) (some (kQ.mk true true false false true false false)) (cond (decide (dT=26)) (some (kQ.mk false false false false false true false)) (cond (decide (dT=33)) (some (kQ.mk false false false false true false false)) (some (kQ.mk false false false false false false false)))))))))))))))))))
theorem aLG {dT:Int}{res:kQ} (h:aBR dT=some res):cX Tryz.prog 139 [ci dT] [] (.agg (AV.cs (aGl res))) []:=by
 unfold aBR at h
 refine dR (fn:=Tryz.f139) [0,2,3,4,7,10,15,18,21,26,30,33,37,40,43,46,49] (by kernel_rfl) Tryz.func139 r (by kernel_rfl) (by kernel_rfl)<|aJ<|jV (n:=0) (cs:=cW) (σ':=[cW]) aRX r r r<|aH (fr':=[(0,aI),(2,aD)]) r r<|aX<|aJ<|mI r<|aH (fr':=[(2,aD),(3,aI)]) r r<|cP<|aX<|bA<|aU r (cQ r r)<|sB r<|aH (fr':=[(2,aD),(3,aI),(4,aB)]) r r<|cU h r (fun hb1 h1=>?_) (fun hb1 h1=>?_)
 ·
  refine aJ<|aU r (fM (cs:=cW) aB6 r)<|cN (v:=.agg cW) (us:=cW) (cs:=cW) (σ':=[cW]) r rY r r r r r r r r<|aH (fr':=[(2,aD)]) r r<|bO<|bT<|aN ?_
  obtain rfl:=sy h1
  exact bN (rs':=[.cell 2 139]) r<|eX (us:=cW) (cs:=cW) rY r r r r<|bM<|aP [] r r r (cM r kR7) aC
 ·
  refine aJ<|aU r (cQ r r)<|sB r<|aH (fr':=[(2,aD),(3,aI),(7,aB)]) r r<|cU h1 r (fun hb3 h3=>?_) (fun hb3 h3=>?_)
  ·
   refine aJ<|aU r (fM (cs:=cW) aB6 r)<|cN (v:=.agg cW) (us:=cW) (cs:=cW) (σ':=[cW]) r rY r r r r r r r r<|aH (fr':=[(2,aD)]) r r<|bO<|bT<|aN ?_
   obtain rfl:=sy h3
   exact bN (rs':=[.cell 2 139]) r<|eX (us:=cW) (cs:=cW) rY r r r r<|bM<|aP [] r r r (cM r kR7) aC
  ·
   obtain ⟨x5,hx5,h6⟩:=eF h3
   refine kF (fun j7=>x5=j7) (fun (j7:Bool)=>([(2,aD),(3,ci dT),(10,.c (.bool j7))]:Fr)) (fun (j7:Bool)=>([[.c (.bool false),.c (.bool false),.c (.bool false),.c (.bool false),.c (.bool false),.c (.bool false),.c (.bool false)]]:St)) ?_ ?_
   ·
    refine aJ<|aU r (cQ r r)<|sB r<|aH (fr':=[(2,aD),(3,aI),(10,aB)]) r r<|cU hx5 r (fun hb8 h8=>?_) (fun hb8 h8=>?_)
    ·
     exact bI<|lB _ (sy h8) (bJ [] 1 r r r r nW (cO r aC))
    ·
     refine aJ<|aU r (cQ r r)<|sB r<|aH (fr':=[(2,aD),(3,aI),(10,aB)]) r r<|cU h8 r (fun hb9 h9=>?_) (fun hb9 h9=>?_)
     ·
      exact bI<|lB _ (sy h9) (bJ [] 1 r r r r nW (cO r aC))
     ·
      exact bA<|aU r (cQ r r)<|sB r<|dQ (fr':=[(2,aD),(3,aI),(10,aB)]) r<|lB _ (sy h9) (bJ [] 1 r r r r nW (cO r aC))
   ·
    intro j7 hj10
    subst hj10
    refine cU h6 r (fun hb11 h11=>?_) (fun hb11 h11=>?_)
    ·
     refine aJ<|aU r (fM (cs:=cW) aB6 r)<|cN (v:=.agg cW) (us:=cW) (cs:=cW) (σ':=[cW]) r rY r r r r r r r r<|aH (fr':=[(2,aD)]) r r<|bO<|bT<|aN ?_
     obtain rfl:=sy h11
     exact bN (rs':=[.cell 2 139]) r<|eX (us:=cW) (cs:=cW) rY r r r r<|bM<|aP [] r r r (cM r kR7) aC
    ·
     refine aJ<|aU r (cQ r r)<|sB r<|aH (fr':=[(2,aD),(3,aI),(15,aB)]) r r<|cU h11 r (fun hb13 h13=>?_) (fun hb13 h13=>?_)
     ·
      refine aJ<|aU r (fM (cs:=cW) aB6 r)<|cN (v:=.agg cW) (us:=cW) (cs:=cW) (σ':=[cW]) r rY r r r r r r r r<|aH (fr':=[(2,aD)]) r r<|bO<|bT<|aN ?_
      obtain rfl:=sy h13
      exact bN (rs':=[.cell 2 139]) r<|eX (us:=cW) (cs:=cW) rY r r r r<|bM<|aP [] r r r (cM r kR7) aC
     ·
      refine aJ<|aU r (cQ r r)<|sB r<|aH (fr':=[(2,aD),(3,aI),(18,aB)]) r r<|cU h13 r (fun hb15 h15=>?_) (fun hb15 h15=>?_)
      ·
       refine aJ<|aU r (fM (cs:=cW) aB6 r)<|cN (v:=.agg cW) (us:=cW) (cs:=cW) (σ':=[cW]) r rY r r r r r r r r<|aH (fr':=[(2,aD)]) r r<|bO<|bT<|aN ?_
       obtain rfl:=sy h15
       exact bN (rs':=[.cell 2 139]) r<|eX (us:=cW) (cs:=cW) rY r r r r<|bM<|aP [] r r r (cM r kR7) aC
      ·
       obtain ⟨x17,hx17,h18⟩:=eF h15
       refine kF (fun j19=>x17=j19) (fun (j19:Bool)=>([(2,aD),(3,ci dT),(21,.c (.bool j19))]:Fr)) (fun (j19:Bool)=>([[.c (.bool false),.c (.bool false),.c (.bool false),.c (.bool false),.c (.bool false),.c (.bool false),.c (.bool false)]]:St)) ?_ ?_
       ·
        refine aJ<|aU r (cQ r r)<|sB r<|aH (fr':=[(2,aD),(3,aI),(21,aB)]) r r<|cU hx17 r (fun hb20 h20=>?_) (fun hb20 h20=>?_)
        ·
         exact bI<|lB _ (sy h20) (bJ [] 1 r r r r nW (cO r aC))
        ·
         refine aJ<|aU r (cQ r r)<|sB r<|aH (fr':=[(2,aD),(3,aI),(21,aB)]) r r<|cU h20 r (fun hb21 h21=>?_) (fun hb21 h21=>?_)
         ·
          exact bI<|lB _ (sy h21) (bJ [] 1 r r r r nW (cO r aC))
         ·
          exact bA<|aU r (cQ r r)<|sB r<|dQ (fr':=[(2,aD),(3,aI),(21,aB)]) r<|lB _ (sy h21) (bJ [] 1 r r r r nW (cO r aC))
       ·
        intro j19 hj22
        subst hj22
        refine cU h18 r (fun hb23 h23=>?_) (fun hb23 h23=>?_)
        ·
         refine aJ<|aU r (fM (cs:=cW) aB6 r)<|cN (v:=.agg cW) (us:=cW) (cs:=cW) (σ':=[cW]) r rY r r r r r r r r<|aH (fr':=[(2,aD)]) r r<|bO<|bT<|aN ?_
         obtain rfl:=sy h23
         exact bN (rs':=[.cell 2 139]) r<|eX (us:=cW) (cs:=cW) rY r r r r<|bM<|aP [] r r r (cM r kR7) aC
        ·
         obtain ⟨x25,hx25,h26⟩:=eF h23
         refine kF (fun j27=>x25=j27) (fun (j27:Bool)=>([(2,aD),(3,ci dT),(26,.c (.bool j27))]:Fr)) (fun (j27:Bool)=>([[.c (.bool false),.c (.bool false),.c (.bool false),.c (.bool false),.c (.bool false),.c (.bool false),.c (.bool false)]]:St)) ?_ ?_
         ·
          refine aJ<|aU r (cQ r r)<|sB r<|aH (fr':=[(2,aD),(3,aI),(26,aB)]) r r<|cU hx25 r (fun hb28 h28=>?_) (fun hb28 h28=>?_)
          ·
           exact bI<|lB _ (sy h28) (bJ [] 1 r r r r nW (cO r aC))
          ·
           exact bA<|aU r (cQ r r)<|sB r<|dQ (fr':=[(2,aD),(3,aI),(26,aB)]) r<|lB _ (sy h28) (bJ [] 1 r r r r nW (cO r aC))
         ·
          intro j27 hj29
          subst hj29
          refine cU h26 r (fun hb30 h30=>?_) (fun hb30 h30=>?_)
          ·
           refine aJ<|aU r (fM (cs:=cW) aB6 r)<|cN (v:=.agg cW) (us:=cW) (cs:=cW) (σ':=[cW]) r rY r r r r r r r r<|aH (fr':=[(2,aD)]) r r<|bO<|bT<|aN ?_
           obtain rfl:=sy h30
           exact bN (rs':=[.cell 2 139]) r<|eX (us:=cW) (cs:=cW) rY r r r r<|bM<|aP [] r r r (cM r kR7) aC
          ·
           refine aJ<|aU r (cQ r r)<|sB r<|aH (fr':=[(2,aD),(3,aI),(30,aB)]) r r<|cU h30 r (fun hb32 h32=>?_) (fun hb32 h32=>?_)
           ·
            refine aJ<|aU r (fM (cs:=cW) aB6 r)<|cN (v:=.agg cW) (us:=cW) (cs:=cW) (σ':=[cW]) r rY r r r r r r r r<|aH (fr':=[(2,aD)]) r r<|bO<|bT<|aN ?_
            obtain rfl:=sy h32
            exact bN (rs':=[.cell 2 139]) r<|eX (us:=cW) (cs:=cW) rY r r r r<|bM<|aP [] r r r (cM r kR7) aC
           ·
            obtain ⟨x34,hx34,h35⟩:=eF h32
            refine kF (fun j36=>x34=j36) (fun (j36:Bool)=>([(2,aD),(3,ci dT),(33,.c (.bool j36))]:Fr)) (fun (j36:Bool)=>([[.c (.bool false),.c (.bool false),.c (.bool false),.c (.bool false),.c (.bool false),.c (.bool false),.c (.bool false)]]:St)) ?_ ?_
            ·
             refine aJ<|aU r (cQ r r)<|sB r<|aH (fr':=[(2,aD),(3,aI),(33,aB)]) r r<|cU hx34 r (fun hb37 h37=>?_) (fun hb37 h37=>?_)
             ·
              exact bI<|lB _ (sy h37) (bJ [] 1 r r r r nW (cO r aC))
             ·
              exact bA<|aU r (cQ r r)<|sB r<|dQ (fr':=[(2,aD),(3,aI),(33,aB)]) r<|lB _ (sy h37) (bJ [] 1 r r r r nW (cO r aC))
            ·
             intro j36 hj38
             subst hj38
             refine cU h35 r (fun hb39 h39=>?_) (fun hb39 h39=>?_)
             ·
              refine aJ<|aU r (fM (cs:=cW) aB6 r)<|cN (v:=.agg cW) (us:=cW) (cs:=cW) (σ':=[cW]) r rY r r r r r r r r<|aH (fr':=[(2,aD)]) r r<|bO<|bT<|aN ?_
              obtain rfl:=sy h39
              exact bN (rs':=[.cell 2 139]) r<|eX (us:=cW) (cs:=cW) rY r r r r<|bM<|aP [] r r r (cM r kR7) aC
             ·
              refine aJ<|aU r (cQ r r)<|sB r<|aH (fr':=[(2,aD),(3,aI),(37,aB)]) r r<|cU h39 r (fun hb41 h41=>?_) (fun hb41 h41=>?_)
              ·
               refine aJ<|aU r (fM (cs:=cW) aB6 r)<|cN (v:=.agg cW) (us:=cW) (cs:=cW) (σ':=[cW]) r rY r r r r r r r r<|aH (fr':=[(2,aD)]) r r<|bO<|bT<|aN ?_
               obtain rfl:=sy h41
               exact bN (rs':=[.cell 2 139]) r<|eX (us:=cW) (cs:=cW) rY r r r r<|bM<|aP [] r r r (cM r kR7) aC
              ·
               refine aJ<|aU r (cQ r r)<|sB r<|aH (fr':=[(2,aD),(3,aI),(40,aB)]) r r<|cU h41 r (fun hb43 h43=>?_) (fun hb43 h43=>?_)
               ·
                refine aJ<|aU r (fM (cs:=cW) aB6 r)<|cN (v:=.agg cW) (us:=cW) (cs:=cW) (σ':=[cW]) r rY r r r r r r r r<|aH (fr':=[(2,aD)]) r r<|bO<|bT<|aN ?_
                obtain rfl:=sy h43
                exact bN (rs':=[.cell 2 139]) r<|eX (us:=cW) (cs:=cW) rY r r r r<|bM<|aP [] r r r (cM r kR7) aC
               ·
                refine aJ<|aU r (cQ r r)<|sB r<|aH (fr':=[(2,aD),(3,aI),(43,aB)]) r r<|cU h43 r (fun hb45 h45=>?_) (fun hb45 h45=>?_)
                ·
                 refine aJ<|aU r (fM (cs:=cW) aB6 r)<|cN (v:=.agg cW) (us:=cW) (cs:=cW) (σ':=[cW]) r rY r r r r r r r r<|aH (fr':=[(2,aD)]) r r<|bO<|bT<|aN ?_
                 obtain rfl:=sy h45
                 exact bN (rs':=[.cell 2 139]) r<|eX (us:=cW) (cs:=cW) rY r r r r<|bM<|aP [] r r r (cM r kR7) aC
                ·
                 refine aJ<|aU r (cQ r r)<|sB r<|aH (fr':=[(2,aD),(3,aI),(46,aB)]) r r<|cU h45 r (fun hb47 h47=>?_) (fun hb47 h47=>?_)
                 ·
                  refine aJ<|aU r (fM (cs:=cW) aB6 r)<|cN (v:=.agg cW) (us:=cW) (cs:=cW) (σ':=[cW]) r rY r r r r r r r r<|aH (fr':=[(2,aD)]) r r<|bO<|bT<|aN ?_
                  obtain rfl:=sy h47
                  exact bN (rs':=[.cell 2 139]) r<|eX (us:=cW) (cs:=cW) rY r r r r<|bM<|aP [] r r r (cM r kR7) aC
                 ·
                  refine aJ<|aU r (cQ r r)<|sB r<|aH (fr':=[(2,aD),(49,aB)]) r r<|cU h47 r (fun hb49 h49=>?_) (fun hb49 h49=>?_)
                  ·
                   refine aJ<|aU r (fM (cs:=cW) aB6 r)<|cN (v:=.agg cW) (us:=cW) (cs:=cW) (σ':=[cW]) r rY r r r r r r r r<|aH (fr':=[(2,aD)]) r r<|bO<|bT<|aN ?_
                   obtain rfl:=sy h49
                   exact bN (rs':=[.cell 2 139]) r<|eX (us:=cW) (cs:=cW) rY r r r r<|bM<|aP [] r r r (cM r kR7) aC
                  ·
                   refine bI<|dI<|dB<|aJ<|aU r (fM (cs:=cW) aB6 r)<|cN (v:=.agg cW) (us:=cW) (cs:=cW) (σ':=[cW]) r rY r r r r r r r r<|aH (fr':=[(2,aD)]) r r<|bO ?_
                   obtain rfl:=sy h49
                   exact bN (rs':=[.cell 2 139]) r<|eX (us:=cW) (cs:=cW) rY r r r r<|bM<|aP [] r r r (cM r kR7) aC
noncomputable def uS (p0u:kQ) (p1e:bW):Option Bool :=
 (gd (((cond (cond (cond (cond (cond (cond p0u.seq_ true (decide (p1e.Seq=0))) (cond p0u.ref_ true (decide (p1e.Ref=0))) false) (cond p0u.n_ true (decide (p1e.N=0))) false) (cond p0u.code_ true (decide (p1e.Code=0))) false) (cond p0u.name_ true (decide (p1e.Name=([]:List UInt8)))) false) (cond p0u.key_ true (decide (p1e.Key=([]:List UInt8)))) false)==true)&&(p0u.data_==false)) (aDF p1e.Data (aF.mk 0 0 ([]:List UInt8) ([]:(List aF)) ([]:(List (List UInt8)))))).bind fun x1=>(gd ((cond (cond (cond (cond (cond (cond (cond p0u.seq_ true (decide (p1e.Seq=0))) (cond p0u.ref_ true (decide (p1e.Ref=0))) false) (cond p0u.n_ true (decide (p1e.N=0))) false) (cond p0u.code_ true (decide (p1e.Code=0))) false) (cond p0u.name_ true (decide (p1e.Name=([]:List UInt8)))) false) (cond p0u.key_ true (decide (p1e.Key=([]:List UInt8)))) false) (cond p0u.data_ true x1) false)==true) (pP p1e.Opts (bV.mk ([]:List UInt8) 0 0 0 0 0 0 0 0 ([]:(List (List UInt8)))))).bind fun x3=>some (cond (cond (cond (cond (cond (cond (cond (cond p0u.seq_ true (decide (p1e.Seq=0))) (cond p0u.ref_ true (decide (p1e.Ref=0))) false) (cond p0u.n_ true (decide (p1e.N=0))) false) (cond p0u.code_ true (decide (p1e.Code=0))) false) (cond p0u.name_ true (decide (p1e.Name=([]:List UInt8)))) false) (cond p0u.key_ true (decide (p1e.Key=([]:List UInt8)))) false) (cond p0u.data_ true x1) false) x3 false)
theorem aFL {p0u:kQ}{p1e:bW}{res:Bool} (h:uS p0u p1e=some res):cX Tryz.prog 140 [.agg (AV.cs (aGl p0u)),.agg (AV.cs (eM p1e))] [] (.c (.bool res)) []:=by
 unfold uS at h
 refine dR (fn:=Tryz.f140) [0,1,2,3,4] (by kernel_rfl) Tryz.func140 r (by kernel_rfl) (by kernel_rfl)<|aJ<|kP (v:=.agg cW) (n:=0) (cs:=cW) (σ':=[cW]) r r r r r<|kP (v:=.agg aG) (n:=1) (cs:=aG) (σ':=[cW,aG]) r r r r r<|sB r<|aH (fr':=[(2,aD),(3,bD)]) r r<|aJ<|aU r (bU aPl r)<|aU r (aR (v:=aB) tv4 r r r)<|mB r<|og r r r (fun hc=>(bU aCA r))<|og r r r (fun hc=>(aR (v:=aI) hU (gx r hc) r r))<|og r r r (fun hc=>(cQ (gx r hc) r))<|aU r (dK r r r (fun e=>hH e))<|mB r<|og r r r (fun hc=>(bU aPm r))<|og r r r (fun hc=>(aR (v:=aB) tv4 (gx r hc) r r))<|og r r r (fun hc=>(bK (v:=aB) (gx r hc)))<|hZ r r (fun hc=>iI r (bU aCB r))<|hZ r r (fun hc=>iI r (aR (v:=aI) hU (gx r hc) r r))<|hZ r r (fun hc=>iI r (cQ (gx r hc) r))<|og r r r (fun hc=>(dK (gx r hc) r r (fun e=>vF hc (hH e))))<|aU r (cS r r r (fun e=>hH e))<|mB r<|og r r r (fun hc=>(bU aTf r))<|og r r r (fun hc=>(aR (v:=aB) tv4 (gx r hc) r r))<|og r r r (fun hc=>(bK (v:=aB) (gx r hc)))<|hZ r r (fun hc=>iI r (bU aAC r))<|hZ r r (fun hc=>iI r (aR (v:=aI) hU (gx r hc) r r))<|hZ r r (fun hc=>iI r (cQ (gx r hc) r))<|og r r r (fun hc=>(dK (gx r hc) r r (fun e=>vF hc (hH e))))<|aU r (cS r r r (fun e=>hH e))<|mB r<|og r r r (fun hc=>(bU aTg r))<|og r r r (fun hc=>(aR (v:=aB) tv4 (gx r hc) r r))<|og r r r (fun hc=>(bK (v:=aB) (gx r hc)))<|hZ r r (fun hc=>iI r (bU aB7 r))<|hZ r r (fun hc=>iI r (aR (v:=aI) hU (gx r hc) r r))<|hZ r r (fun hc=>iI r (cQ (gx r hc) r))<|og r r r (fun hc=>(dK (gx r hc) r r (fun e=>vF hc (hH e))))<|aU r (cS r r r (fun e=>hH e))<|mB r<|og r r r (fun hc=>(bU aTh r))<|og r r r (fun hc=>(aR (v:=aB) tv4 (gx r hc) r r))<|og r r r (fun hc=>(bK (v:=aB) (gx r hc)))<|hZ r r (fun hc=>iI r (bU xP r))<|hZ r r (fun hc=>iI r (aR (v:=aS) rZ (gx r hc) r r))<|hZ r r (fun hc=>iI r (wL (gx r hc) r))<|og r r r (fun hc=>(dK (gx r hc) r r (fun e=>vF hc (hH e))))<|aU r (cS r r r (fun e=>hH e))<|mB r<|og r r r (fun hc=>(bU aTi r))<|og r r r (fun hc=>(aR (v:=aB) tv4 (gx r hc) r r))<|og r r r (fun hc=>(bK (v:=aB) (gx r hc)))<|hZ r r (fun hc=>iI r (bU xQ r))<|hZ r r (fun hc=>iI r (aR (v:=aS) rZ (gx r hc) r r))<|hZ r r (fun hc=>iI r (wL (gx r hc) r))<|og r r r (fun hc=>(dK (gx r hc) r r (fun e=>vF hc (hH e))))<|aU r (cS r r r (fun e=>hH e))<|mB r<|og r r r (fun hc=>(bU aTj r))<|og r r r (fun hc=>(aR (v:=aB) tv4 (gx r hc) r r))<|og r r r (fun hc=>(bK (v:=aB) (gx r hc)))<|hZ r r (fun hc=>iI r (bU aAV r))<|hZ r r (fun hc=>iI r (eL (us:=cJ) jC (gx r hc) r r r))<|hZ r r (fun hc=>iI r (fM (cs:=bY) aGq r))<|bx h fun x1 hx1 h2=>hZ r r (fun hc=>cA (v:=aB) r (aGB (dM hx1 hc)) ⟨(iA (gx r hc) (cM r kR5)),(iA (gx r hc) (cM r ⟨r,r,r,⟨_,r⟩,⟨_,r⟩,trivial⟩)),trivial⟩ (iO (by repeat (first | exact fU | refine bG r ?_ | refine bG (vD r) ?_ | refine bG vC ?_))) r r) ?_
 refine og r r r (fun hc=>(dK (gx r hc) r r (fun e=>vF hc (hH e))))<|aU r (cS r r r (fun e=>hH e))<|mB r<|og r r r (fun hc=>(bU aBG r))<|og r r r (fun hc=>(eL (us:=dO) zW (gx r hc) r r r))<|og r r r (fun hc=>(rI (c0:=bB) (cs:=bB) aOC r rH))<|bx h2 fun x3 hx3 h4=>zG r r (fun hc=>cA (v:=aB) r (aBm (dM hx3 hc)) ⟨(iA (gx r hc) (cM r aDf)),(iA (gx r hc) (cM r ⟨r,r,r,r,r,r,r,r,r,⟨_,r⟩,trivial⟩)),trivial⟩ (iO (by repeat (first | exact fU | refine bG r ?_ | refine bG (vD r) ?_ | refine bG vC ?_))) r r) ?_
 refine aU r (cS r r r (fun e=>hH e))<|sB r<|aH (fr':=[(4,aB)]) r r<|bO ?_
 obtain rfl:=sy h4
 exact bN (rs':=[.tmp 4]) r<|cE (v:=aB) r<|bM<|aP [] r r r lr aC
noncomputable def aBe (aBh:(List UInt8)):Option (Int × Bool) :=
 if aBh.length≤140737488355328 then some (xW aBh) else none
theorem aJ9 {aBh:(List UInt8)}{res:(Int × Bool)} (h:aBe aBh=some res):cX Tryz.prog 161 [.c (.str aBh)] [] (.tup [ci res.1,.c (.bool res.2)]) []:=by
 unfold aBe at h
 obtain ⟨hl,rfl⟩:=aRk h
 refine aNz (by kernel_rfl) fun g w vs hv hI hg=>?_
 rw [aUC hv]
 refine (aLn hl w hI hg).mono fun e w'=>?_
 rintro ⟨rfl,hb⟩
 exact ⟨_,r,hb,fun g'=>aRJ (.c (.int _ _)) (.c (.bool _))⟩
noncomputable def aBx (p0s:(List UInt8)) (s4:Int):Option (dN Int (Fl Bool Unit)) :=
 cond (decide (s4<((p0s).length:Int))) ((lO p0s s4).bind fun x6=>(gd ((decide (((x6).toNat:Int)<33))==false) (lO p0s s4)).bind fun x8=>(gd ((cond (decide (((x6).toNat:Int)<33)) true (decide (126<((x8).toNat:Int))))==false) (lO p0s s4)).bind fun x10=>(gd ((cond (cond (decide (((x6).toNat:Int)<33)) true (decide (126<((x8).toNat:Int)))) true (decide (((x10).toNat:Int)=47)))==false) (lO p0s s4)).bind fun x12=>cond (cond (cond (cond (decide (((x6).toNat:Int)<33)) true (decide (126<((x8).toNat:Int)))) true (decide (((x10).toNat:Int)=47))) true (decide (((x12).toNat:Int)=34))) (some (dN.out (Fl.done false))) (some (dN.next (IntKind.wrap .i64 (s4+1))))) (some (dN.out (Fl.go ())))
noncomputable def oM (p0s:(List UInt8)):Option Bool :=
 (fI (aBx p0s) (0)).bind fun x1=>Fl.next x1 (fun j3=>((mD ((p0s).length:Int) 1 64).bind fun x20=>some x20))
theorem zK {p0s:(List UInt8)}{res:Bool} (h:oM p0s=some res):cX Tryz.prog 181 [.c (.str p0s)] [] (.c (.bool res)) []:=by
 unfold oM at h
 refine dR (fn:=Tryz.f181) [0,2,3,5,6,7,30] (by kernel_rfl) Tryz.func181 r (by kernel_rfl) (by kernel_rfl)<|aJ<|sB r<|aH (fr':=[(0,aS)]) r r<|aX<|aJ<|mS r<|aU r (nR zZ r)<|mI r<|aH (fr':=[(0,aS),(5,aI),(6,aI)]) r r<|bx h fun x1 hx1 h2=>hF lP (fun j3=>x1=Fl.go j3) (fun (j3:Unit)=>([(0,.c (.str p0s))]:Fr)) (fun (j3:Unit)=>([]:St)) ?_ ?_
 ·
  refine cP<|gY _ (fun (s4:Int)=>([(0,.c (.str p0s)),(5,ci ((p0s).length:Int)),(6,ci s4)]:Fr)) (fun (s4:Int)=>([]:St)) hx1 (bJ [] 0 r r r r nW aC) ?_
  intro s4 st4 hs4 ho4
  unfold aBx at hs4
  refine aJ<|aU r (fY r r)<|aH (fr':=[(0,aS),(5,aI),(6,aI),(7,aB)]) r r<|aX<|cU hs4 r (fun hb5 h5=>?_) (fun hb5 h5=>?_)
  ·
   refine bI<|dB<|aX<|cP<|aJ<|mI r<|sI r<|aH (fr':=[(0,aS),(3,aI),(5,aI),(6,aI)]) r r<|aJ<|mS r<|mI r<|bx h5 fun x6 hx6 h7=>aU r (aB0 zZ r r hx6)<|aU r (fY r r)<|mB r<|og r r r (fun hc=>(bK (v:=aS) r))<|og r r r (fun hc=>(bK (v:=aI) r))<|bx h7 fun x8 hx8 h9=>og r r r (fun hc=>(aB0 zZ (gx r hc) (gx r hc) (dM hx8 hc)))<|og r r r (fun hc=>(qW (gx r hc) r))<|aU r (dK r r r (fun e=>hH e))<|mB r<|og r r r (fun hc=>(bK (v:=aS) r))<|og r r r (fun hc=>(bK (v:=aI) r))<|bx h9 fun x10 hx10 h11=>og r r r (fun hc=>(aB0 zZ (gx r hc) (gx r hc) (dM hx10 hc)))<|og r r r (fun hc=>(cQ (gx r hc) r))<|aU r (dK r r r (fun e=>hH e))<|mB r<|og r r r (fun hc=>(bK (v:=aS) r))<|og r r r (fun hc=>(bK (v:=aI) r))<|bx h11 fun x12 hx12 h13=>og r r r (fun hc=>(aB0 zZ (gx r hc) (gx r hc) (dM hx12 hc)))<|og r r r (fun hc=>(cQ (gx r hc) r))<|aU r (dK r r r (fun e=>hH e))<|aH (fr':=[(0,aS),(5,aI),(6,aI),(30,aB)]) r r<|cU h13 r (fun hb14 h14=>?_) (fun hb14 h14=>?_)
   ·
    refine aJ<|sB r<|aH (fr':=[(2,aB)]) r r<|bO<|bT<|aN<|aN<|bT<|aN<|aN ?_
    have h15:=eS h14 ho4
    have h16:=gI h15 h2
    obtain rfl:=sy h16
    exact bN (rs':=[.tmp 2]) r<|cE (v:=aB) r<|bM<|aP [] r r r lr aC
   ·
    exact bI<|dI<|dB<|bA<|aU r (fX r r)<|mI r<|dQ (fr':=[(0,aS),(5,aI),(6,aI),(30,aB)]) r<|zY _ (sy h14) (bJ [] 0 r r r r nW aC)
  ·
   refine iE<|cZ<|cZ<|fT ?_
   have h18:=eS h5 ho4
   exact lB _ (sy h18) (bJ [] 0 r r r r ⟨lr,trivial⟩ aC)
 ·
  intro j3 hj19
  have h19:=nY hj19 h2
  refine dB<|aJ<|mS r<|aU r (nR zZ r)<|bx h19 fun x20 hx20 h21=>oN (cA (v:=aB) r (nF hx20) nW r r r)<|sB r<|aH (fr':=[(2,aB)]) r r<|bO ?_
  obtain rfl:=sy h21
  exact bN (rs':=[.tmp 2]) r<|cE (v:=aB) r<|bM<|aP [] r r r lr aC
noncomputable def xF (x5:aF) (s10:Int):Option (dN Int (Fl Bool Unit)) :=
 cond (decide (s10<((x5.Items).length:Int))) ((lO x5.Items s10).bind fun x12=>(gd ((cond (!decide (x12.Kind=4)) true (!decide (((x12.Items).length:Int)=2)))==false) (lO x12.Items 0)).bind fun x14=>(gd ((cond (cond (!decide (x12.Kind=4)) true (!decide (((x12.Items).length:Int)=2))) true (!decide (x14.Kind=3)))==false) (lO x12.Items 0)).bind fun x16=>(gd ((cond (cond (!decide (x12.Kind=4)) true (!decide (((x12.Items).length:Int)=2))) true (!decide (x14.Kind=3)))==false) (tX x16.Text)).bind fun x18=>cond (cond (cond (cond (!decide (x12.Kind=4)) true (!decide (((x12.Items).length:Int)=2))) true (!decide (x14.Kind=3))) true (!x18)) (some (dN.out (Fl.done false))) (some (dN.next (IntKind.wrap .i64 (s10+1))))) (some (dN.out (Fl.go ())))
noncomputable def aBa (p0v:aF):Option Bool :=
 (gd ((cond (!decide (p0v.Kind=4)) true (!decide (((p0v.Items).length:Int)=2)))==false) (lO p0v.Items 1)).bind fun x1=>cond (cond (cond (!decide (p0v.Kind=4)) true (!decide (((p0v.Items).length:Int)=2))) true (!decide (x1.Kind=4))) (some false) ((lO p0v.Items 1).bind fun x5=>(fI (xF x5) (0)).bind fun x7=>Fl.next x7 (fun j9=>(some true)))
theorem aJ7 {p0v:aF}{res:Bool} (h:aBa p0v=some res):cX Tryz.prog 182 [.agg (AV.cs (eR p0v))] [] (.c (.bool res)) []:=by
 unfold aBa at h
 refine dR (fn:=Tryz.f182) [0,1,2,4,21,26,27,28,29,57] (by kernel_rfl) Tryz.func182 r (by kernel_rfl) (by kernel_rfl)<|aJ<|kP (v:=.agg cJ) (n:=0) (cs:=cJ) (σ':=[cJ]) r r r r r<|sB r<|aH (fr':=[(1,aD)]) r r<|aX<|aJ<|aU r (bU mE r)<|aU r (aR (v:=aI) hU r r r)<|aU r (iZ r r)<|mB r<|og r r r (fun hc=>(bU iB r))<|og r r r (fun hc=>(aR (v:=aL) nS (gx r hc) r r))<|og r r r (fun hc=>(gT vL (eA (gx r hc))))<|og r r r (fun hc=>(iZ (gx r hc) r))<|aU r (dK r r r (fun e=>hH e))<|mB r<|og r r r (fun hc=>(bU iB r))<|og r r r (fun hc=>(aR (v:=aL) nS (gx r hc) r r))<|bx h fun x1 hx1 h2=>og r r r (fun hc=>(lC (cs:=[PV.int _ _,PV.int _ _,PV.str _,PV.ls _ _ _,PV.ls _ _ _]) uF (eA (gx r hc)) r (dM hx1 hc) (dZ _)))<|og r r r (fun hc=>(yP mE (gx r hc)))<|og r r r (fun hc=>(fO (p:=PV.int _ _) hU (gx r hc) r))<|og r r r (fun hc=>(iZ (gx r hc) r))<|aU r (dK r r r (fun e=>hH e))<|aH (fr':=[(1,aD),(21,aB)]) r r<|cU h2 r (fun hb3 h3=>?_) (fun hb3 h3=>?_)
 ·
  refine aJ<|sB r<|aH (fr':=[(2,aB)]) r r<|bO<|aN ?_
  obtain rfl:=sy h3
  exact bN (rs':=[.tmp 2]) r<|cE (v:=aB) r<|bM<|aP [] r r r lr aC
 ·
  refine bI<|dB<|aX<|aJ<|aU r (bU iB r)<|aU r (aR (v:=aL) nS r r r)<|bx h3 fun x5 hx5 h6=>aU r (lC (cs:=[PV.int _ _,PV.int _ _,PV.str _,PV.ls _ _ _,PV.ls _ _ _]) uF (eA r) r hx5 (dZ _))<|aU r (yP iB r)<|aU r (fO (p:=PV.ls _ _ _) nS r r)<|aU r (gT vL (eA r))<|mI r<|aH (fr':=[(26,aL),(27,aI),(28,aI)]) r r<|bx h6 fun x7 hx7 h8=>hF lP (fun j9=>x7=Fl.go j9) (fun (j9:Unit)=>([]:Fr)) (fun (j9:Unit)=>([[ci p0v.Kind,ci p0v.Int,.c (.str p0v.Text),.c (PV.ls 5 cF p0v.Items),.c (PV.ls 1 iF p0v.Keys)]]:St)) ?_ ?_
  ·
   refine cP<|gY _ (fun (s10:Int)=>([(26,.c (PV.ls 5 cF x5.Items)),(27,ci ((x5.Items).length:Int)),(28,ci s10)]:Fr)) (fun (s10:Int)=>([[ci p0v.Kind,ci p0v.Int,.c (.str p0v.Text),.c (PV.ls 5 cF p0v.Items),.c (PV.ls 1 iF p0v.Keys)]]:St)) hx7 (bJ [] 1 r r r r nW (cO r aC)) ?_
   intro s10 st10 hs10 ho10
   unfold xF at hs10
   refine aJ<|aU r (fY r r)<|aH (fr':=[(26,aL),(27,aI),(28,aI),(29,aB)]) r r<|aX<|cU hs10 r (fun hb11 h11=>?_) (fun hb11 h11=>?_)
   ·
    refine bI<|dB<|aX<|cP<|aX<|bA<|bx h11 fun x12 hx12 h13=>aU r (lC (cs:=[PV.int _ _,PV.int _ _,PV.str _,PV.ls _ _ _,PV.ls _ _ _]) uF (eA r) r hx12 (dZ _))<|aU r (nL (us:=[PV.int _ _,PV.int _ _,PV.str _,PV.ls _ _ _,PV.ls _ _ _]) jC r r r)<|jV (n:=1) (cs:=bY) (σ':=[cJ,bY]) aDE r r r<|cN (v:=.agg cJ) (us:=cJ) (cs:=bY) (σ':=[cJ,cJ]) r jC r r r r r r r r<|aH (fr':=[(4,bD),(26,aL),(27,aI),(28,aI)]) r r<|aJ<|aU r (bU mE r)<|aU r (aR (v:=aI) hU r r r)<|aU r (iZ r r)<|mB r<|og r r r (fun hc=>(bU iB r))<|og r r r (fun hc=>(aR (v:=aL) nS (gx r hc) r r))<|og r r r (fun hc=>(gT vL (eA (gx r hc))))<|og r r r (fun hc=>(iZ (gx r hc) r))<|aU r (dK r r r (fun e=>hH e))<|mB r<|og r r r (fun hc=>(bU iB r))<|og r r r (fun hc=>(aR (v:=aL) nS (gx r hc) r r))<|bx h13 fun x14 hx14 h15=>og r r r (fun hc=>(lC (cs:=[PV.int _ _,PV.int _ _,PV.str _,PV.ls _ _ _,PV.ls _ _ _]) uF (eA (gx r hc)) r (dM hx14 hc) (dZ _)))<|og r r r (fun hc=>(yP mE (gx r hc)))<|og r r r (fun hc=>(fO (p:=PV.int _ _) hU (gx r hc) r))<|og r r r (fun hc=>(iZ (gx r hc) r))<|aU r (dK r r r (fun e=>hH e))<|mB r<|og r r r (fun hc=>(bU iB r))<|og r r r (fun hc=>(aR (v:=aL) nS (gx r hc) r r))<|bx h15 fun x16 hx16 h17=>og r r r (fun hc=>(lC (cs:=[PV.int _ _,PV.int _ _,PV.str _,PV.ls _ _ _,PV.ls _ _ _]) uF (eA (gx r hc)) r (dM hx16 hc) (dZ _)))<|og r r r (fun hc=>(yP uA (gx r hc)))<|og r r r (fun hc=>(fO (p:=PV.str _) rZ (gx r hc) r))<|bx h17 fun x18 hx18 h19=>zG r r (fun hc=>cA (v:=aB) r (yB (dM hx18 hc)) ⟨(iA (gx r hc) lr),trivial⟩ (iO (by repeat (first | exact fU | refine bG r ?_ | refine bG (vD r) ?_ | refine bG vC ?_))) r r) ?_
    refine og r r r (fun hc=>(gX (gx r hc)))<|aU r (dK r r r (fun e=>hH e))<|aH (fr':=[(26,aL),(27,aI),(28,aI),(57,aB)]) r r<|cU h19 r (fun hb20 h20=>?_) (fun hb20 h20=>?_)
    ·
     refine aJ<|sB r<|aH (fr':=[(2,aB)]) r r<|bO<|bT<|aN<|aN<|bT<|aN<|aN ?_
     have h21:=eS h20 ho10
     have h22:=gI h21 h8
     obtain rfl:=sy h22
     exact bN (rs':=[.tmp 2]) r<|cE (v:=aB) r<|bM<|aP [] r r r lr aC
    ·
     exact bI<|dI<|dB<|bA<|aU r (fX r r)<|mI r<|dQ (fr':=[(26,aL),(27,aI),(28,aI),(57,aB)]) r<|zY _ (sy h20) (bJ [] 1 r r r r nW (cO r aC))
   ·
    refine iE<|cZ<|cZ<|fT ?_
    have h24:=eS h11 ho10
    exact lB _ (sy h24) (bJ [] 1 r r r r trivial (cO r aC))
  ·
   intro j9 hj25
   have h25:=nY hj25 h8
   refine dB<|aJ<|sB r<|aH (fr':=[(2,aB)]) r r<|bO ?_
   obtain rfl:=sy h25
   exact bN (rs':=[.tmp 2]) r<|cE (v:=aB) r<|bM<|aP [] r r r lr aC
