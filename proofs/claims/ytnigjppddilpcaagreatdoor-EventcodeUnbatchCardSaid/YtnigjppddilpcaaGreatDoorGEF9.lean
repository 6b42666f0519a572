import Derived.Test.YtnigjppddilpcaaGreatDoorGETy
import Derived.Test.YtnigjppddilpcaaGreatDoorGEF6
import Derived.Test.YtnigjppddilpcaaGreatDoorGEF7
import Derived.Test.YtnigjppddilpcaaGreatDoorGEF8
namespace Go.Proofs.YtnigjppddilpcaaGreatDoor
open Go Abs
set_option maxRecDepth 100000
set_option linter.unusedVariables false
set_option linter.unusedSimpArgs false
noncomputable def aB4 (p0e:bW):Option Bool :=
 (aB5 p0e.Kind).bind fun x1=>(gd (x1.seq_==true) (uW p0e.Seq 1 2000)).bind fun x3=>(gd (((cond (cond x1.seq_ (!x3) false) true (cond (!x1.seq_) (!decide (p0e.Seq=0)) false))==false)&&(x1.ref_==true)) (uW p0e.Ref 1 2000)).bind fun x5=>cond (cond (cond (cond (cond x1.seq_ (!x3) false) true (cond (!x1.seq_) (!decide (p0e.Seq=0)) false)) true (cond x1.ref_ (!x5) false)) true (cond (!x1.ref_) (!decide (p0e.Ref=0)) false)) (some false) (cond (cond (cond (cond (cond (!x1.n_) (!decide (p0e.N=0)) false) true (cond (!x1.code_) (!decide (p0e.Code=0)) false)) true (cond (!x1.name_) (!decide (p0e.Name=([]:List UInt8))) false)) true (cond (!x1.key_) (!decide (p0e.Key=([]:List UInt8))) false)) (some false) ((xI p0e.Data).bind fun x11=>cond (cond (!x11) true (cond (!x1.data_) (!decide (p0e.Data.Kind=0)) false)) (some false) ((gd (x1.opts_==false) (pU p0e.Opts (bV.mk ([]:List UInt8) 0 0 0 0 0 0 0 0 ([]:(List (List UInt8)))))).bind fun x15=>some (cond x1.opts_ true x15))))
theorem aLK {p0e:bW}{res:Bool} (h:aB4 p0e=some res):cX Tryz.prog 82 [.agg (AV.cs (eM p0e))] [] (.c (.bool res)) []:=by
 unfold aB4 at h
 refine dR (fn:=Tryz.f82) [0,1,2,3,44,82,97] (by kernel_rfl) Tryz.func82 r (by kernel_rfl) (by kernel_rfl)<|aJ<|kP (v:=.agg aG) (n:=0) (cs:=aG) (σ':=[aG]) r r r r r<|sB r<|aH (fr':=[(1,aD)]) r r<|aJ<|aU r (bU aAU r)<|aU r (aR (v:=aI) hU r r r)<|bx h fun x1 hx1 h2=>oN (cA (v:=.agg bF) r (aLL hx1) ⟨lr,trivial⟩ r r r)<|jV (n:=1) (cs:=bF) (σ':=[aG,bF]) aRY r r r<|cN (v:=.agg bF) (us:=bF) (cs:=bF) (σ':=[aG,bF]) r mW r r r r r r r r<|aH (fr':=[(1,aD),(3,bD)]) r r<|aX<|aJ<|aU r (bU aPn r)<|aU r (aR (v:=aB) tv4 r r r)<|mB r<|og r r r (fun hc=>(bU aCA r))<|og r r r (fun hc=>(aR (v:=aI) hU (gx r hc) r r))<|bx h2 fun x3 hx3 h4=>zG r r (fun hc=>cA (v:=aB) r (vS (dM hx3 hc)) ⟨(iA (gx r hc) lr),lr,lr,trivial⟩ (iO (by repeat (first | exact fU | refine bG r ?_ | refine bG (vD r) ?_ | refine bG vC ?_))) r r) ?_
 refine og r r r (fun hc=>(gX (gx r hc)))<|aU r (cS r r r (fun e=>hH e))<|mB r<|og r r r (fun hc=>(bU aPn r))<|og r r r (fun hc=>(aR (v:=aB) tv4 (gx r hc) r r))<|og r r r (fun hc=>(gX (gx r hc)))<|og r r r (fun hc=>(bK (v:=aB) (gx r hc)))<|hZ r r (fun hc=>iI r (bU aCA r))<|hZ r r (fun hc=>iI r (aR (v:=aI) hU (gx r hc) r r))<|hZ r r (fun hc=>iI r (iZ (gx r hc) r))<|og r r r (fun hc=>(cS (gx r hc) r r (fun e=>vF hc (hH e))))<|aU r (dK r r r (fun e=>hH e))<|mB r<|og r r r (fun hc=>(bU aPo r))<|og r r r (fun hc=>(aR (v:=aB) tv4 (gx r hc) r r))<|og r r r (fun hc=>(bK (v:=aB) (gx r hc)))<|hZ r r (fun hc=>iI r (bU aCB r))<|hZ r r (fun hc=>iI r (aR (v:=aI) hU (gx r hc) r r))<|bx h4 fun x5 hx5 h6=>hZ r r (fun hc=>cA (v:=aB) r (vS (dM hx5 hc)) ⟨(iA (gx r hc) lr),lr,lr,trivial⟩ (iO (by repeat (first | exact fU | refine bG r ?_ | refine bG (vD r) ?_ | refine bG vC ?_))) r r) ?_
 refine hZ r r (fun hc=>iI r (gX (gx r hc)))<|og r r r (fun hc=>(cS (gx r hc) r r (fun e=>vF hc (hH e))))<|aU r (dK r r r (fun e=>hH e))<|mB r<|og r r r (fun hc=>(bU aPo r))<|og r r r (fun hc=>(aR (v:=aB) tv4 (gx r hc) r r))<|og r r r (fun hc=>(gX (gx r hc)))<|og r r r (fun hc=>(bK (v:=aB) (gx r hc)))<|hZ r r (fun hc=>iI r (bU aCB r))<|hZ r r (fun hc=>iI r (aR (v:=aI) hU (gx r hc) r r))<|hZ r r (fun hc=>iI r (iZ (gx r hc) r))<|og r r r (fun hc=>(cS (gx r hc) r r (fun e=>vF hc (hH e))))<|aU r (dK r r r (fun e=>hH e))<|aH (fr':=[(1,aD),(3,bD),(44,aB)]) r r<|cU h6 r (fun hb7 h7=>?_) (fun hb7 h7=>?_)
 ·
  refine aJ<|sB r<|aH (fr':=[(2,aB)]) r r<|bO<|aN ?_
  obtain rfl:=sy h7
  exact bN (rs':=[.tmp 2]) r<|cE (v:=aB) r<|bM<|aP [] r r r lr aC
 ·
  refine bI<|dB<|aX<|aJ<|aU r (bU aTk r)<|aU r (aR (v:=aB) tv4 r r r)<|aU r (gX r)<|mB r<|og r r r (fun hc=>(bU aAC r))<|og r r r (fun hc=>(aR (v:=aI) hU (gx r hc) r r))<|og r r r (fun hc=>(iZ (gx r hc) r))<|aU r (cS r r r (fun e=>hH e))<|mB r<|og r r r (fun hc=>(bU aTl r))<|og r r r (fun hc=>(aR (v:=aB) tv4 (gx r hc) r r))<|og r r r (fun hc=>(gX (gx r hc)))<|og r r r (fun hc=>(bK (v:=aB) (gx r hc)))<|hZ r r (fun hc=>iI r (bU aB7 r))<|hZ r r (fun hc=>iI r (aR (v:=aI) hU (gx r hc) r r))<|hZ r r (fun hc=>iI r (iZ (gx r hc) r))<|og r r r (fun hc=>(cS (gx r hc) r r (fun e=>vF hc (hH e))))<|aU r (dK r r r (fun e=>hH e))<|mB r<|og r r r (fun hc=>(bU aTm r))<|og r r r (fun hc=>(aR (v:=aB) tv4 (gx r hc) r r))<|og r r r (fun hc=>(gX (gx r hc)))<|og r r r (fun hc=>(bK (v:=aB) (gx r hc)))<|hZ r r (fun hc=>iI r (bU xP r))<|hZ r r (fun hc=>iI r (aR (v:=aS) rZ (gx r hc) r r))<|hZ r r (fun hc=>iI r (aCx (gx r hc) r))<|og r r r (fun hc=>(cS (gx r hc) r r (fun e=>vF hc (hH e))))<|aU r (dK r r r (fun e=>hH e))<|mB r<|og r r r (fun hc=>(bU aTn r))<|og r r r (fun hc=>(aR (v:=aB) tv4 (gx r hc) r r))<|og r r r (fun hc=>(gX (gx r hc)))<|og r r r (fun hc=>(bK (v:=aB) (gx r hc)))<|hZ r r (fun hc=>iI r (bU xQ r))<|hZ r r (fun hc=>iI r (aR (v:=aS) rZ (gx r hc) r r))<|hZ r r (fun hc=>iI r (aCx (gx r hc) r))<|og r r r (fun hc=>(cS (gx r hc) r r (fun e=>vF hc (hH e))))<|aU r (dK r r r (fun e=>hH e))<|aH (fr':=[(1,aD),(3,bD),(82,aB)]) r r<|cU h7 r (fun hb9 h9=>?_) (fun hb9 h9=>?_)
  ·
   refine aJ<|sB r<|aH (fr':=[(2,aB)]) r r<|bO<|aN ?_
   obtain rfl:=sy h9
   exact bN (rs':=[.tmp 2]) r<|cE (v:=aB) r<|bM<|aP [] r r r lr aC
  ·
   refine bI<|dB<|aX<|aJ<|aU r (bU aAV r)<|aU r (eL (us:=cJ) jC r r r r)<|bx h9 fun x11 hx11 h12=>oN (cA (v:=aB) r (aCE hx11) ⟨(cM r kR5),trivial⟩ r r r)<|aU r (gX r)<|mB r<|og r r r (fun hc=>(bU aTo r))<|og r r r (fun hc=>(aR (v:=aB) tv4 (gx r hc) r r))<|og r r r (fun hc=>(gX (gx r hc)))<|og r r r (fun hc=>(bK (v:=aB) (gx r hc)))<|hZ r r (fun hc=>iI r (bU aAV r))<|hZ r r (fun hc=>iI r (bU mE (gx r hc)))<|hZ r r (fun hc=>iI r (aR (v:=aI) hU (gx r hc) r r))<|hZ r r (fun hc=>iI r (iZ (gx r hc) r))<|og r r r (fun hc=>(cS (gx r hc) r r (fun e=>vF hc (hH e))))<|aU r (dK r r r (fun e=>hH e))<|aH (fr':=[(1,aD),(3,bD),(97,aB)]) r r<|cU h12 r (fun hb13 h13=>?_) (fun hb13 h13=>?_)
   ·
    refine aJ<|sB r<|aH (fr':=[(2,aB)]) r r<|bO<|aN ?_
    obtain rfl:=sy h13
    exact bN (rs':=[.tmp 2]) r<|cE (v:=aB) r<|bM<|aP [] r r r lr aC
   ·
    refine bI<|dB<|aJ<|aU r (bU aTp r)<|aU r (aR (v:=aB) tv4 r r r)<|mB r<|og r r r (fun hc=>(bU aBG r))<|og r r r (fun hc=>(eL (us:=dO) zW (gx r hc) r r r))<|og r r r (fun hc=>(rI (c0:=bB) (cs:=bB) aOC r rH))<|bx h13 fun x15 hx15 h16=>zG r r (fun hc=>cA (v:=aB) r (zL (dM hx15 hc)) ⟨(iA (gx r hc) (cM r aDf)),(iA (gx r hc) (cM r ⟨r,r,r,r,r,r,r,r,r,⟨_,r⟩,trivial⟩)),trivial⟩ (iO (by repeat (first | exact fU | refine bG r ?_ | refine bG (vD r) ?_ | refine bG vC ?_))) r r) ?_
    refine aU r (dK r r r (fun e=>hH e))<|sB r<|aH (fr':=[(2,aB)]) r r<|bO ?_
    obtain rfl:=sy h16
    exact bN (rs':=[.tmp 2]) r<|cE (v:=aB) r<|bM<|aP [] r r r lr aC
noncomputable def aAy  : Option (List Int) :=
 some ([7,12,14,16,19,23,18,27,28,29,30,31,32,35]:List Int)
theorem aHa  {res:(List Int)} (h:aAy=some res):cX Tryz.prog 189 [] [] (AV.os 0 1 (aG4 .i64) res) []:=by
 unfold aAy at h
 refine dR (fn:=Tryz.f189) [0] (by kernel_rfl) Tryz.func189 r (by kernel_rfl) (by kernel_rfl)<|aJ<|sV (v:=AV.nil) r<|aH (fr':=[]) r r<|aJ<|uU (row:=(aG4 .i64)) (xs:=([(7:Int),(12:Int),(14:Int),(16:Int),(19:Int),(23:Int),(18:Int),(27:Int),(28:Int),(29:Int),(30:Int),(31:Int),(32:Int),(35:Int)]:List Int)) (rows:=[[_],[_],[_],[_],[_],[_],[_],[_],[_],[_],[_],[_],[_],[_]]) (σ':=[]) [0] aBH r r r (fR r (fR r (fR r (fR r (fR r (fR r (fR r (fR r (fR r (fR r (fR r (fR r (fR r (fR r oL)))))))))))))) r r<|sV (v:=aO) r<|aH (fr':=[(0,aO)]) r r<|bO ?_
 obtain rfl:=sy h
 exact bN (rs':=[.tmp 0]) r<|cE (v:=aO) r<|bM<|aP [16] r r r lr aC
noncomputable def xZ (x1:(List Int)) (dT:Int) (s6:Int):Option (dN Int (Fl Int Unit)) :=
 cond (decide (s6<((x1).length:Int))) ((lO x1 s6).bind fun x8=>cond (decide (x8=dT)) (some (dN.out (Fl.done (IntKind.wrap .i64 (s6+1))))) (some (dN.next (IntKind.wrap .i64 (s6+1))))) (some (dN.out (Fl.go ())))
noncomputable def wH (dT:Int):Option Int :=
 (aAy).bind fun x1=>(fI (xZ x1 dT) (0)).bind fun x3=>Fl.next x3 (fun j5=>(some 0))
theorem aDX {dT:Int}{res:Int} (h:wH dT=some res):cX Tryz.prog 154 [ci dT] [] (ci res) []:=by
 unfold wH at h
 refine dR (fn:=Tryz.f154) [0,2,3,4,9,17] (by kernel_rfl) Tryz.func154 r (by kernel_rfl) (by kernel_rfl)<|aJ<|sI r<|aH (fr':=[(0,aI)]) r r<|aX<|bA ?_
 obtain ⟨x1,hx1,h2⟩:=eF h
 refine oN (cA (v:=aO) r (aHa hx1) trivial r r r)<|sV (v:=aO) r<|aH (fr':=[(0,aI),(3,aO)]) r r<|aX<|aJ<|sI r<|aH (fr':=[(0,aI),(3,aO),(4,aI)]) r r<|bx h2 fun x3 hx3 h4=>hF lP (fun j5=>x3=Fl.go j5) (fun (j5:Unit)=>([]:Fr)) (fun (j5:Unit)=>([]:St)) ?_ ?_
 ·
  refine cP<|gY _ (fun (s6:Int)=>([(0,ci dT),(3,AV.os 0 1 (aG4 .i64) x1),(4,ci s6)]:Fr)) (fun (s6:Int)=>([]:St)) hx3 (bJ [80] 0 r r r r nW aC) ?_
  intro s6 st6 hs6 ho6
  unfold xZ at hs6
  refine aX<|aJ<|mI r<|mV (v:=aO) r<|aU r (gT aRV (nB r))<|aU r (fY r r)<|aH (fr':=[(0,aI),(3,aO),(4,aI),(9,aB)]) r r<|cU hs6 r (fun hb7 h7=>?_) (fun hb7 h7=>?_)
  ·
   refine bI<|dB<|aX<|cP<|aJ<|mV (v:=aO) r<|mI r<|bx h7 fun x8 hx8 h9=>aU r (lC (cs:=[PV.int _ _]) aBH (nB r) r hx8 r)<|aU r (fO (p:=PV.int _ _) hU r r)<|mI r<|aU r (cQ r r)<|aH (fr':=[(0,aI),(3,aO),(4,aI),(17,aB)]) r r<|cU h9 r (fun hb10 h10=>?_) (fun hb10 h10=>?_)
   ·
    refine aJ<|mI r<|aU r (fX r r)<|sI r<|aH (fr':=[(2,aI)]) r r<|bO<|bT<|aN<|aN<|bT<|aN<|aN ?_
    have h11:=eS h10 ho6
    have h12:=gI h11 h4
    obtain rfl:=sy h12
    exact bN (rs':=[.tmp 2]) r<|cE (v:=aI) r<|bM<|aP [] r r r lr aC
   ·
    exact bI<|dI<|dB<|bA<|mI r<|aU r (fX r r)<|sI r<|dQ (fr':=[(0,aI),(3,aO),(4,aI),(17,aB)]) r<|zY _ (sy h10) (bJ [0] 0 r r r r nW aC)
  ·
   refine iE<|cZ<|cZ<|fT ?_
   have h14:=eS h7 ho6
   exact lB _ (sy h14) (bJ [] 0 r r r r trivial aC)
 ·
  intro j5 hj15
  have h15:=nY hj15 h4
  refine dB<|aJ<|sI r<|aH (fr':=[(2,aI)]) r r<|bO ?_
  obtain rfl:=sy h15
  exact bN (rs':=[.tmp 2]) r<|cE (v:=aI) r<|bM<|aP [] r r r lr aC
noncomputable def wC (dT:Int):Option Bool :=
 (wH dT).bind fun x1=>some (decide (0<x1))
theorem aGz {dT:Int}{res:Bool} (h:wC dT=some res):cX Tryz.prog 83 [ci dT] [] (.c (.bool res)) []:=by
 unfold wC at h
 refine dR (fn:=Tryz.f83) [0,2] (by kernel_rfl) Tryz.func83 r (by kernel_rfl) (by kernel_rfl)<|aJ<|sB r<|aH (fr':=[(0,aI)]) r r<|aJ<|mI r<|bx h fun x1 hx1 h2=>oN (cA (v:=aI) r (aDX hx1) ⟨lr,trivial⟩ r r r)<|aU r (qW r r)<|sB r<|aH (fr':=[(2,aB)]) r r<|bO ?_
 obtain rfl:=sy h2
 exact bN (rs':=[.tmp 2]) r<|cE (v:=aB) r<|bM<|aP [] r r r lr aC
noncomputable def aAx (p0s:(List UInt8)) (s6:Int):Option (dN Int (Fl Bool Unit)) :=
 cond (decide (s6<((p0s).length:Int))) ((lO p0s s6).bind fun x8=>(gd ((decide (((x8).toNat:Int)<33))==false) (lO p0s s6)).bind fun x10=>(gd ((cond (decide (((x8).toNat:Int)<33)) true (decide (126<((x10).toNat:Int))))==false) (lO p0s s6)).bind fun x12=>(gd ((cond (cond (decide (((x8).toNat:Int)<33)) true (decide (126<((x10).toNat:Int)))) true (decide (((x12).toNat:Int)=47)))==false) (lO p0s s6)).bind fun x14=>cond (cond (cond (cond (decide (((x8).toNat:Int)<33)) true (decide (126<((x10).toNat:Int)))) true (decide (((x12).toNat:Int)=47))) true (decide (((x14).toNat:Int)=34))) (some (dN.out (Fl.done false))) (some (dN.next (IntKind.wrap .i64 (s6+1))))) (some (dN.out (Fl.go ())))
noncomputable def aBi (p0s:(List UInt8)):Option Bool :=
 cond (cond (decide (((p0s).length:Int)<1)) true (decide (64<((p0s).length:Int)))) (some false) ((fI (aAx p0s) (0)).bind fun x3=>Fl.next x3 (fun j5=>(some true)))
theorem aKd {p0s:(List UInt8)}{res:Bool} (h:aBi p0s=some res):cX Tryz.prog 113 [.c (.str p0s)] [] (.c (.bool res)) []:=by
 unfold aBi at h
 refine dR (fn:=Tryz.f113) [0,2,3,11,15,39] (by kernel_rfl) Tryz.func113 r (by kernel_rfl) (by kernel_rfl)<|aJ<|sB r<|aH (fr':=[(0,aS)]) r r<|aX<|aJ<|mS r<|aU r (nR zZ r)<|aU r (fY r r)<|mB r<|og r r r (fun hc=>(bK (v:=aS) r))<|og r r r (fun hc=>(nR zZ (gx r hc)))<|og r r r (fun hc=>(qW (gx r hc) r))<|aU r (dK r r r (fun e=>hH e))<|aH (fr':=[(0,aS),(11,aB)]) r r<|cU h r (fun hb1 h1=>?_) (fun hb1 h1=>?_)
 ·
  refine aJ<|sB r<|aH (fr':=[(2,aB)]) r r<|bO<|aN ?_
  obtain rfl:=sy h1
  exact bN (rs':=[.tmp 2]) r<|cE (v:=aB) r<|bM<|aP [] r r r lr aC
 ·
  refine bI<|dB<|aX<|aJ<|sI r<|aH (fr':=[(0,aS),(3,aI)]) r r<|bx h1 fun x3 hx3 h4=>hF lP (fun j5=>x3=Fl.go j5) (fun (j5:Unit)=>([]:Fr)) (fun (j5:Unit)=>([]:St)) ?_ ?_
  ·
   refine cP<|gY _ (fun (s6:Int)=>([(0,.c (.str p0s)),(3,ci s6)]:Fr)) (fun (s6:Int)=>([]:St)) hx3 (bJ [] 0 r r r r kR aC) ?_
   intro s6 st6 hs6 ho6
   unfold aAx at hs6
   refine aX<|aJ<|mI r<|mS r<|aU r (nR zZ r)<|aU r (fY r r)<|aH (fr':=[(0,aS),(3,aI),(15,aB)]) r r<|cU hs6 r (fun hb7 h7=>?_) (fun hb7 h7=>?_)
   ·
    refine bI<|dB<|aX<|cP<|aJ<|mS r<|mI r<|bx h7 fun x8 hx8 h9=>aU r (aB0 zZ r r hx8)<|aU r (fY r r)<|mB r<|og r r r (fun hc=>(bK (v:=aS) r))<|og r r r (fun hc=>(bK (v:=aI) r))<|bx h9 fun x10 hx10 h11=>og r r r (fun hc=>(aB0 zZ (gx r hc) (gx r hc) (dM hx10 hc)))<|og r r r (fun hc=>(qW (gx r hc) r))<|aU r (dK r r r (fun e=>hH e))<|mB r<|og r r r (fun hc=>(bK (v:=aS) r))<|og r r r (fun hc=>(bK (v:=aI) r))<|bx h11 fun x12 hx12 h13=>og r r r (fun hc=>(aB0 zZ (gx r hc) (gx r hc) (dM hx12 hc)))<|og r r r (fun hc=>(cQ (gx r hc) r))<|aU r (dK r r r (fun e=>hH e))<|mB r<|og r r r (fun hc=>(bK (v:=aS) r))<|og r r r (fun hc=>(bK (v:=aI) r))<|bx h13 fun x14 hx14 h15=>og r r r (fun hc=>(aB0 zZ (gx r hc) (gx r hc) (dM hx14 hc)))<|og r r r (fun hc=>(cQ (gx r hc) r))<|aU r (dK r r r (fun e=>hH e))<|aH (fr':=[(0,aS),(3,aI),(39,aB)]) r r<|cU h15 r (fun hb16 h16=>?_) (fun hb16 h16=>?_)
    ·
     refine aJ<|sB r<|aH (fr':=[(2,aB)]) r r<|bO<|bT<|aN<|aN<|bT<|aN<|aN ?_
     have h17:=eS h16 ho6
     have h18:=gI h17 h4
     obtain rfl:=sy h18
     exact bN (rs':=[.tmp 2]) r<|cE (v:=aB) r<|bM<|aP [] r r r lr aC
    ·
     exact bI<|dI<|dB<|bA<|mI r<|aU r (fX r r)<|sI r<|dQ (fr':=[(0,aS),(3,aI),(39,aB)]) r<|zY _ (sy h16) (bJ [] 0 r r r r kR aC)
   ·
    refine iE<|cZ<|cZ<|fT ?_
    have h20:=eS h7 ho6
    exact lB _ (sy h20) (bJ [] 0 r r r r trivial aC)
  ·
   intro j5 hj21
   have h21:=nY hj21 h4
   refine dB<|aJ<|sB r<|aH (fr':=[(2,aB)]) r r<|bO ?_
   obtain rfl:=sy h21
   exact bN (rs':=[.tmp 2]) r<|cE (v:=aB) r<|bM<|aP [] r r r lr aC
noncomputable def aAS (p0a:fG) (p1b:fG):Option Bool :=
 (gd ((cond (cond (cond (cond (decide (p0a.Kind=p1b.Kind)) (decide (p0a.Seq=p1b.Seq)) false) (decide (p0a.Name=p1b.Name)) false) (decide (p0a.Key=p1b.Key)) false) (decide (p0a.N=p1b.N)) false)==true) (aDv p0a.Data p1b.Data)).bind fun x1=>(gd ((cond (cond (cond (cond (cond (decide (p0a.Kind=p1b.Kind)) (decide (p0a.Seq=p1b.Seq)) false) (decide (p0a.Name=p1b.Name)) false) (decide (p0a.Key=p1b.Key)) false) (decide (p0a.N=p1b.N)) false) x1 false)==true) (pU p0a.Opts p1b.Opts)).bind fun x3=>some (cond (cond (cond (cond (cond (cond (decide (p0a.Kind=p1b.Kind)) (decide (p0a.Seq=p1b.Seq)) false) (decide (p0a.Name=p1b.Name)) false) (decide (p0a.Key=p1b.Key)) false) (decide (p0a.N=p1b.N)) false) x1 false) x3 false)
theorem aLI {p0a:fG}{p1b:fG}{res:Bool} (h:aAS p0a p1b=some res):cX Tryz.prog 155 [.agg (AV.cs (qE p0a)),.agg (AV.cs (qE p1b))] [] (.c (.bool res)) []:=by
 unfold aAS at h
 refine dR (fn:=Tryz.f155) [0,1,2,3,4] (by kernel_rfl) Tryz.func155 r (by kernel_rfl) (by kernel_rfl)<|aJ<|kP (v:=.agg bL) (n:=0) (cs:=bL) (σ':=[bL]) r r r r r<|kP (v:=.agg bL) (n:=1) (cs:=bL) (σ':=[bL,bL]) r r r r r<|sB r<|aH (fr':=[(2,aD),(3,bD)]) r r<|aJ<|aU r (bU uM r)<|aU r (aR (v:=aI) hU r r r)<|aU r (bU uM r)<|aU r (aR (v:=aI) hU r r r)<|aU r (cQ r r)<|mB r<|og r r r (fun hc=>(bU aER r))<|og r r r (fun hc=>(aR (v:=aI) hU (gx r hc) r r))<|og r r r (fun hc=>(bU aER r))<|og r r r (fun hc=>(aR (v:=aI) hU (gx r hc) r r))<|og r r r (fun hc=>(cQ (gx r hc) (gx r hc)))<|aU r (cS r r r (fun e=>hH e))<|mB r<|og r r r (fun hc=>(bU aCs r))<|og r r r (fun hc=>(aR (v:=aS) rZ (gx r hc) r r))<|og r r r (fun hc=>(bU aCs r))<|og r r r (fun hc=>(aR (v:=aS) rZ (gx r hc) r r))<|og r r r (fun hc=>(wL (gx r hc) (gx r hc)))<|aU r (cS r r r (fun e=>hH e))<|mB r<|og r r r (fun hc=>(bU aES r))<|og r r r (fun hc=>(aR (v:=aS) rZ (gx r hc) r r))<|og r r r (fun hc=>(bU aES r))<|og r r r (fun hc=>(aR (v:=aS) rZ (gx r hc) r r))<|og r r r (fun hc=>(wL (gx r hc) (gx r hc)))<|aU r (cS r r r (fun e=>hH e))<|mB r<|og r r r (fun hc=>(bU wW r))<|og r r r (fun hc=>(aR (v:=aI) hU (gx r hc) r r))<|og r r r (fun hc=>(bU wW r))<|og r r r (fun hc=>(aR (v:=aI) hU (gx r hc) r r))<|og r r r (fun hc=>(cQ (gx r hc) (gx r hc)))<|aU r (cS r r r (fun e=>hH e))<|mB r<|og r r r (fun hc=>(bU zD r))<|og r r r (fun hc=>(eL (us:=cJ) jC (gx r hc) r r r))<|og r r r (fun hc=>(bU zD r))<|og r r r (fun hc=>(eL (us:=cJ) jC (gx r hc) r r r))<|bx h fun x1 hx1 h2=>zG r r (fun hc=>cA (v:=aB) r (aGy (dM hx1 hc)) ⟨(iA (gx r hc) (cM r kR5)),(iA (gx r hc) (cM r kR5)),trivial⟩ (iO (by repeat (first | exact fU | refine bG r ?_ | refine bG (vD r) ?_ | refine bG vC ?_))) r r) ?_
 refine aU r (cS r r r (fun e=>hH e))<|mB r<|og r r r (fun hc=>(bU aET r))<|og r r r (fun hc=>(eL (us:=dO) zW (gx r hc) r r r))<|og r r r (fun hc=>(bU aET r))<|og r r r (fun hc=>(eL (us:=dO) zW (gx r hc) r r r))<|bx h2 fun x3 hx3 h4=>zG r r (fun hc=>cA (v:=aB) r (zL (dM hx3 hc)) ⟨(iA (gx r hc) (cM r aDf)),(iA (gx r hc) (cM r aDf)),trivial⟩ (iO (by repeat (first | exact fU | refine bG r ?_ | refine bG (vD r) ?_ | refine bG vC ?_))) r r) ?_
 refine aU r (cS r r r (fun e=>hH e))<|sB r<|aH (fr':=[(4,aB)]) r r<|bO ?_
 obtain rfl:=sy h4
 exact bN (rs':=[.tmp 4]) r<|cE (v:=aB) r<|bM<|aP [] r r r lr aC
noncomputable def aB3 (p0c:fG):Option fG :=
 ((((cond (decide (p0c.Kind=1)) (some (decide (p0c.Kind=1))) (cond (decide (p0c.Kind=2)) (some (decide (p0c.Kind=2))) (cond (decide (p0c.Kind=3)) (some (decide (p0c.Kind=3))) (cond (decide (p0c.Kind=4)) (some (decide (p0c.Kind=4))) (cond (decide (p0c.Kind=5)) (some (decide (p0c.Kind=5))) (some (decide (p0c.Kind=6)))))))):Option Bool).bind fun x4=>(cond x4 (some 0) (some p0c.Seq))):Option Int).bind fun x1=>(((((cond (decide (p0c.Kind=1)) (some (decide (p0c.Kind=1))) (cond (decide (p0c.Kind=5)) (some (decide (p0c.Kind=5))) (cond (decide (p0c.Kind=6)) (some (decide (p0c.Kind=6))) (cond (decide (p0c.Kind=7)) (some (decide (p0c.Kind=7))) (cond (decide (p0c.Kind=8)) (some (decide (p0c.Kind=8))) (some (decide (p0c.Kind=12)))))))):Option Bool).bind fun x18=>(cond x18 (some ([]:List UInt8)) (some p0c.Name))):Option (List UInt8)).bind fun x15=>(((((cond (decide (p0c.Kind=5)) (some (decide (p0c.Kind=5))) (cond (decide (p0c.Kind=6)) (some (decide (p0c.Kind=6))) (cond (decide (p0c.Kind=8)) (some (decide (p0c.Kind=8))) (some (decide (p0c.Kind=9)))))):Option Bool).bind fun x32=>(cond x32 (some ([]:List UInt8)) (some p0c.Key))):Option (List UInt8)).bind fun x29=>(((((cond (decide (p0c.Kind=3)) (some (decide (p0c.Kind=3))) (cond (decide (p0c.Kind=5)) (some (decide (p0c.Kind=5))) (cond (decide (p0c.Kind=7)) (some (decide (p0c.Kind=7))) (some (decide (p0c.Kind=9)))))):Option Bool).bind fun x44=>(cond x44 (some 0) (some p0c.N))):Option Int).bind fun x41=>(((((cond (decide (p0c.Kind=2)) (some (decide (p0c.Kind=2))) (cond (decide (p0c.Kind=3)) (some (decide (p0c.Kind=3))) (some (decide (p0c.Kind=4))))):Option Bool).bind fun x56=>(cond x56 (some (fG.mk p0c.Kind x1 x15 x29 x41 p0c.Data p0c.Opts)) (some (fG.mk p0c.Kind x1 x15 x29 x41 (aF.mk 0 0 ([]:List UInt8) ([]:(List aF)) ([]:(List (List UInt8)))) p0c.Opts)))):Option fG).bind fun x53=>(cond (decide (x53.Kind=1)) (some (fG.mk x53.Kind x53.Seq x53.Name x53.Key x53.N x53.Data (bV.mk ([]:List UInt8) 0 0 0 0 0 0 0 0 ([]:(List (List UInt8)))))) (some x53))))))
theorem aLJ {p0c:fG}{res:fG} (h:aB3 p0c=some res):cX Tryz.prog 156 [.agg (AV.cs (qE p0c))] [] (.agg (AV.cs (qE res))) []:=by
 unfold aB3 at h
 refine dR (fn:=Tryz.f156) [0,1,2,4,5,14,15,24,25,32,33,40,43,49] (by kernel_rfl) Tryz.func156 r (by kernel_rfl) (by kernel_rfl)<|aJ<|kP (v:=.agg bL) (n:=0) (cs:=bL) (σ':=[bL]) r r r r r<|jV (n:=1) (cs:=eV) (σ':=[bL,eV]) aPv r r r<|aH (fr':=[(1,aD),(2,bD)]) r r<|bx h fun x1 hx1 h2=>kF (fun j3=>x1=j3) (fun (j3:Int)=>([(1,aD),(2,bD)]:Fr)) (fun (j3:Int)=>([[ci p0c.Kind,ci j3,.c (.str p0c.Name),.c (.str p0c.Key),ci p0c.N,ci p0c.Data.Kind,ci p0c.Data.Int,.c (.str p0c.Data.Text),.c (PV.ls 5 cF p0c.Data.Items),.c (PV.ls 1 iF p0c.Data.Keys),.c (.str p0c.Opts.Queue),ci p0c.Opts.ToStart,ci p0c.Opts.ToClose,ci p0c.Opts.Total,ci p0c.Opts.Beat,ci p0c.Opts.First,ci p0c.Opts.Coef,ci p0c.Opts.Most,ci p0c.Opts.Attempts,.c (PV.ls 1 iF p0c.Opts.Fatal)],[ci 0,ci 0,.c (.str ([]:List UInt8)),.c (.str ([]:List UInt8)),ci 0,ci 0,ci 0,.c (.str ([]:List UInt8)),AV.nil,AV.nil,.c (.str ([]:List UInt8)),ci 0,ci 0,ci 0,ci 0,ci 0,ci 0,ci 0,ci 0,AV.nil]]:St)) ?_ ?_
 ·
  refine aJ<|aU r (bU uM r)<|aU r (aR (v:=aI) hU r r r)<|aH (fr':=[(1,aD),(2,bD),(4,aI)]) r r<|cP<|bx hx1 fun x4 hx4 h5=>kF (fun j6=>x4=j6) (fun (j6:Bool)=>([(1,aD),(2,bD),(5,.c (.bool j6))]:Fr)) (fun (j6:Bool)=>([[ci p0c.Kind,ci p0c.Seq,.c (.str p0c.Name),.c (.str p0c.Key),ci p0c.N,ci p0c.Data.Kind,ci p0c.Data.Int,.c (.str p0c.Data.Text),.c (PV.ls 5 cF p0c.Data.Items),.c (PV.ls 1 iF p0c.Data.Keys),.c (.str p0c.Opts.Queue),ci p0c.Opts.ToStart,ci p0c.Opts.ToClose,ci p0c.Opts.Total,ci p0c.Opts.Beat,ci p0c.Opts.First,ci p0c.Opts.Coef,ci p0c.Opts.Most,ci p0c.Opts.Attempts,.c (PV.ls 1 iF p0c.Opts.Fatal)],[ci 0,ci 0,.c (.str ([]:List UInt8)),.c (.str ([]:List UInt8)),ci 0,ci 0,ci 0,.c (.str ([]:List UInt8)),AV.nil,AV.nil,.c (.str ([]:List UInt8)),ci 0,ci 0,ci 0,ci 0,ci 0,ci 0,ci 0,ci 0,AV.nil]]:St)) ?_ ?_
  ·
   refine aJ<|aU r (cQ r r)<|sB r<|aH (fr':=[(1,aD),(2,bD),(4,aI),(5,aB)]) r r<|cU hx4 r (fun hb7 h7=>?_) (fun hb7 h7=>?_)
   ·
    exact bI<|lB _ (sy h7) (bJ [] 2 r r r r nW (cO r (cO r aC)))
   ·
    refine aJ<|aU r (cQ r r)<|sB r<|aH (fr':=[(1,aD),(2,bD),(4,aI),(5,aB)]) r r<|cU h7 r (fun hb8 h8=>?_) (fun hb8 h8=>?_)
    ·
     exact bI<|lB _ (sy h8) (bJ [] 2 r r r r nW (cO r (cO r aC)))
    ·
     refine aJ<|aU r (cQ r r)<|sB r<|aH (fr':=[(1,aD),(2,bD),(4,aI),(5,aB)]) r r<|cU h8 r (fun hb9 h9=>?_) (fun hb9 h9=>?_)
     ·
      exact bI<|lB _ (sy h9) (bJ [] 2 r r r r nW (cO r (cO r aC)))
     ·
      refine aJ<|aU r (cQ r r)<|sB r<|aH (fr':=[(1,aD),(2,bD),(4,aI),(5,aB)]) r r<|cU h9 r (fun hb10 h10=>?_) (fun hb10 h10=>?_)
      ·
       exact bI<|lB _ (sy h10) (bJ [] 2 r r r r nW (cO r (cO r aC)))
      ·
       refine aJ<|aU r (cQ r r)<|sB r<|aH (fr':=[(1,aD),(2,bD),(4,aI),(5,aB)]) r r<|cU h10 r (fun hb11 h11=>?_) (fun hb11 h11=>?_)
       ·
        exact bI<|lB _ (sy h11) (bJ [] 2 r r r r nW (cO r (cO r aC)))
       ·
        exact bA<|aU r (cQ r r)<|sB r<|dQ (fr':=[(1,aD),(2,bD),(4,aI),(5,aB)]) r<|lB _ (sy h11) (bJ [] 2 r r r r nW (cO r (cO r aC)))
  ·
   intro j6 hj12
   subst hj12
   refine cU h5 r (fun hb13 h13=>?_) (fun hb13 h13=>?_)
   ·
    exact bA<|aU r (bU aER r)<|cN (v:=aI) (us:=[aI]) (cs:=bL) (σ':=[bL,eV]) r hU r r r r r r r r<|dQ (fr':=[(1,aD),(2,bD),(5,aB)]) r<|dI<|lB _ (sy h13) (bJ [] 2 r r r r kR (cO r (cO r aC)))
   ·
    exact bI<|dI<|lB _ (sy h13) (bJ [] 2 r r r r kR (cO r (cO r aC)))
 ·
  intro j3 hj14
  subst hj14
  obtain ⟨x15,hx15,h16⟩:=eF h2
  refine kF (fun j17=>x15=j17) (fun (j17:(List UInt8))=>([(1,aD),(2,bD)]:Fr)) (fun (j17:(List UInt8))=>([[ci p0c.Kind,ci x1,.c (.str j17),.c (.str p0c.Key),ci p0c.N,ci p0c.Data.Kind,ci p0c.Data.Int,.c (.str p0c.Data.Text),.c (PV.ls 5 cF p0c.Data.Items),.c (PV.ls 1 iF p0c.Data.Keys),.c (.str p0c.Opts.Queue),ci p0c.Opts.ToStart,ci p0c.Opts.ToClose,ci p0c.Opts.Total,ci p0c.Opts.Beat,ci p0c.Opts.First,ci p0c.Opts.Coef,ci p0c.Opts.Most,ci p0c.Opts.Attempts,.c (PV.ls 1 iF p0c.Opts.Fatal)],[ci 0,ci 0,.c (.str ([]:List UInt8)),.c (.str ([]:List UInt8)),ci 0,ci 0,ci 0,.c (.str ([]:List UInt8)),AV.nil,AV.nil,.c (.str ([]:List UInt8)),ci 0,ci 0,ci 0,ci 0,ci 0,ci 0,ci 0,ci 0,AV.nil]]:St)) ?_ ?_
  ·
   refine aJ<|aU r (bU uM r)<|aU r (aR (v:=aI) hU r r r)<|aH (fr':=[(1,aD),(2,bD),(14,aI)]) r r<|cP<|bx hx15 fun x18 hx18 h19=>kF (fun j20=>x18=j20) (fun (j20:Bool)=>([(1,aD),(2,bD),(15,.c (.bool j20))]:Fr)) (fun (j20:Bool)=>([[ci p0c.Kind,ci x1,.c (.str p0c.Name),.c (.str p0c.Key),ci p0c.N,ci p0c.Data.Kind,ci p0c.Data.Int,.c (.str p0c.Data.Text),.c (PV.ls 5 cF p0c.Data.Items),.c (PV.ls 1 iF p0c.Data.Keys),.c (.str p0c.Opts.Queue),ci p0c.Opts.ToStart,ci p0c.Opts.ToClose,ci p0c.Opts.Total,ci p0c.Opts.Beat,ci p0c.Opts.First,ci p0c.Opts.Coef,ci p0c.Opts.Most,ci p0c.Opts.Attempts,.c (PV.ls 1 iF p0c.Opts.Fatal)],[ci 0,ci 0,.c (.str ([]:List UInt8)),.c (.str ([]:List UInt8)),ci 0,ci 0,ci 0,.c (.str ([]:List UInt8)),AV.nil,AV.nil,.c (.str ([]:List UInt8)),ci 0,ci 0,ci 0,ci 0,ci 0,ci 0,ci 0,ci 0,AV.nil]]:St)) ?_ ?_
   ·
    refine aJ<|aU r (cQ r r)<|sB r<|aH (fr':=[(1,aD),(2,bD),(14,aI),(15,aB)]) r r<|cU hx18 r (fun hb21 h21=>?_) (fun hb21 h21=>?_)
    ·
     exact bI<|lB _ (sy h21) (bJ [] 2 r r r r nW (cO r (cO r aC)))
    ·
     refine aJ<|aU r (cQ r r)<|sB r<|aH (fr':=[(1,aD),(2,bD),(14,aI),(15,aB)]) r r<|cU h21 r (fun hb22 h22=>?_) (fun hb22 h22=>?_)
     ·
      exact bI<|lB _ (sy h22) (bJ [] 2 r r r r nW (cO r (cO r aC)))
     ·
      refine aJ<|aU r (cQ r r)<|sB r<|aH (fr':=[(1,aD),(2,bD),(14,aI),(15,aB)]) r r<|cU h22 r (fun hb23 h23=>?_) (fun hb23 h23=>?_)
      ·
       exact bI<|lB _ (sy h23) (bJ [] 2 r r r r nW (cO r (cO r aC)))
      ·
       refine aJ<|aU r (cQ r r)<|sB r<|aH (fr':=[(1,aD),(2,bD),(14,aI),(15,aB)]) r r<|cU h23 r (fun hb24 h24=>?_) (fun hb24 h24=>?_)
       ·
        exact bI<|lB _ (sy h24) (bJ [] 2 r r r r nW (cO r (cO r aC)))
       ·
        refine aJ<|aU r (cQ r r)<|sB r<|aH (fr':=[(1,aD),(2,bD),(14,aI),(15,aB)]) r r<|cU h24 r (fun hb25 h25=>?_) (fun hb25 h25=>?_)
        ·
         exact bI<|lB _ (sy h25) (bJ [] 2 r r r r nW (cO r (cO r aC)))
        ·
         exact bA<|aU r (cQ r r)<|sB r<|dQ (fr':=[(1,aD),(2,bD),(14,aI),(15,aB)]) r<|lB _ (sy h25) (bJ [] 2 r r r r nW (cO r (cO r aC)))
   ·
    intro j20 hj26
    subst hj26
    refine cU h19 r (fun hb27 h27=>?_) (fun hb27 h27=>?_)
    ·
     exact bA<|aU r (bU aCs r)<|cN (v:=aS) (us:=[aS]) (cs:=bL) (σ':=[bL,eV]) r rZ r r r r r r r r<|dQ (fr':=[(1,aD),(2,bD),(15,aB)]) r<|dI<|lB _ (sy h27) (bJ [] 2 r r r r kR (cO r (cO r aC)))
    ·
     exact bI<|dI<|lB _ (sy h27) (bJ [] 2 r r r r kR (cO r (cO r aC)))
  ·
   intro j17 hj28
   subst hj28
   obtain ⟨x29,hx29,h30⟩:=eF h16
   refine kF (fun j31=>x29=j31) (fun (j31:(List UInt8))=>([(1,aD),(2,bD)]:Fr)) (fun (j31:(List UInt8))=>([[ci p0c.Kind,ci x1,.c (.str x15),.c (.str j31),ci p0c.N,ci p0c.Data.Kind,ci p0c.Data.Int,.c (.str p0c.Data.Text),.c (PV.ls 5 cF p0c.Data.Items),.c (PV.ls 1 iF p0c.Data.Keys),.c (.str p0c.Opts.Queue),ci p0c.Opts.ToStart,ci p0c.Opts.ToClose,ci p0c.Opts.Total,ci p0c.Opts.Beat,ci p0c.Opts.First,ci p0c.Opts.Coef,ci p0c.Opts.Most,ci p0c.Opts.Attempts,.c (PV.ls 1 iF p0c.Opts.Fatal)],[ci 0,ci 0,.c (.str ([]:List UInt8)),.c (.str ([]:List UInt8)),ci 0,ci 0,ci 0,.c (.str ([]:List UInt8)),AV.nil,AV.nil,.c (.str ([]:List UInt8)),ci 0,ci 0,ci 0,ci 0,ci 0,ci 0,ci 0,ci 0,AV.nil]]:St)) ?_ ?_
   ·
    refine aJ<|aU r (bU uM r)<|aU r (aR (v:=aI) hU r r r)<|aH (fr':=[(1,aD),(2,bD),(24,aI)]) r r<|cP<|bx hx29 fun x32 hx32 h33=>kF (fun j34=>x32=j34) (fun (j34:Bool)=>([(1,aD),(2,bD),(25,.c (.bool j34))]:Fr)) (fun (j34:Bool)=>([[ci p0c.Kind,ci x1,.c (.str x15),.c (.str p0c.Key),ci p0c.N,ci p0c.Data.Kind,ci p0c.Data.Int,.c (.str p0c.Data.Text),.c (PV.ls 5 cF p0c.Data.Items),.c (PV.ls 1 iF p0c.Data.Keys),.c (.str p0c.Opts.Queue),ci p0c.Opts.ToStart,ci p0c.Opts.ToClose,ci p0c.Opts.Total,ci p0c.Opts.Beat,ci p0c.Opts.First,ci p0c.Opts.Coef,ci p0c.Opts.Most,ci p0c.Opts.Attempts,.c (PV.ls 1 iF p0c.Opts.Fatal)],[ci 0,ci 0,.c (.str ([]:List UInt8)),.c (.str ([]:List UInt8)),ci 0,ci 0,ci 0,.c (.str ([]:List UInt8)),AV.nil,AV.nil,.c (.str ([]:List UInt8)),ci 0,ci 0,ci 0,ci 0,ci 0,ci 0,ci 0,ci 0,AV.nil]]:St)) ?_ ?_
    ·
     refine aJ<|aU r (cQ r r)<|sB r<|aH (fr':=[(1,aD),(2,bD),(24,aI),(25,aB)]) r r<|cU hx32 r (fun hb35 h35=>?_) (fun hb35 h35=>?_)
     ·
      exact bI<|lB _ (sy h35) (bJ [] 2 r r r r nW (cO r (cO r aC)))
     ·
      refine aJ<|aU r (cQ r r)<|sB r<|aH (fr':=[(1,aD),(2,bD),(24,aI),(25,aB)]) r r<|cU h35 r (fun hb36 h36=>?_) (fun hb36 h36=>?_)
      ·
       exact bI<|lB _ (sy h36) (bJ [] 2 r r r r nW (cO r (cO r aC)))
      ·
       refine aJ<|aU r (cQ r r)<|sB r<|aH (fr':=[(1,aD),(2,bD),(24,aI),(25,aB)]) r r<|cU h36 r (fun hb37 h37=>?_) (fun hb37 h37=>?_)
       ·
        exact bI<|lB _ (sy h37) (bJ [] 2 r r r r nW (cO r (cO r aC)))
       ·
        exact bA<|aU r (cQ r r)<|sB r<|dQ (fr':=[(1,aD),(2,bD),(24,aI),(25,aB)]) r<|lB _ (sy h37) (bJ [] 2 r r r r nW (cO r (cO r aC)))
    ·
     intro j34 hj38
     subst hj38
     refine cU h33 r (fun hb39 h39=>?_) (fun hb39 h39=>?_)
     ·
      exact bA<|aU r (bU aES r)<|cN (v:=aS) (us:=[aS]) (cs:=bL) (σ':=[bL,eV]) r rZ r r r r r r r r<|dQ (fr':=[(1,aD),(2,bD),(25,aB)]) r<|dI<|lB _ (sy h39) (bJ [] 2 r r r r kR (cO r (cO r aC)))
     ·
      exact bI<|dI<|lB _ (sy h39) (bJ [] 2 r r r r kR (cO r (cO r aC)))
   ·
    intro j31 hj40
    subst hj40
    obtain ⟨x41,hx41,h42⟩:=eF h30
    refine kF (fun j43=>x41=j43) (fun (j43:Int)=>([(1,aD),(2,bD)]:Fr)) (fun (j43:Int)=>([[ci p0c.Kind,ci x1,.c (.str x15),.c (.str x29),ci j43,ci p0c.Data.Kind,ci p0c.Data.Int,.c (.str p0c.Data.Text),.c (PV.ls 5 cF p0c.Data.Items),.c (PV.ls 1 iF p0c.Data.Keys),.c (.str p0c.Opts.Queue),ci p0c.Opts.ToStart,ci p0c.Opts.ToClose,ci p0c.Opts.Total,ci p0c.Opts.Beat,ci p0c.Opts.First,ci p0c.Opts.Coef,ci p0c.Opts.Most,ci p0c.Opts.Attempts,.c (PV.ls 1 iF p0c.Opts.Fatal)],[ci 0,ci 0,.c (.str ([]:List UInt8)),.c (.str ([]:List UInt8)),ci 0,ci 0,ci 0,.c (.str ([]:List UInt8)),AV.nil,AV.nil,.c (.str ([]:List UInt8)),ci 0,ci 0,ci 0,ci 0,ci 0,ci 0,ci 0,ci 0,AV.nil]]:St)) ?_ ?_
    ·
     refine aJ<|aU r (bU uM r)<|aU r (aR (v:=aI) hU r r r)<|aH (fr':=[(1,aD),(2,bD),(32,aI)]) r r<|cP<|bx hx41 fun x44 hx44 h45=>kF (fun j46=>x44=j46) (fun (j46:Bool)=>([(1,aD),(2,bD),(33,.c (.bool j46))]:Fr)) (fun (j46:Bool)=>([[ci p0c.Kind,ci x1,.c (.str x15),.c (.str x29),ci p0c.N,ci p0c.Data.Kind,ci p0c.Data.Int,.c (.str p0c.Data.Text),.c (PV.ls 5 cF p0c.Data.Items),.c (PV.ls 1 iF p0c.Data.Keys),.c (.str p0c.Opts.Queue),ci p0c.Opts.ToStart,ci p0c.Opts.ToClose,ci p0c.Opts.Total,ci p0c.Opts.Beat,ci p0c.Opts.First,ci p0c.Opts.Coef,ci p0c.Opts.Most,ci p0c.Opts.Attempts,.c (PV.ls 1 iF p0c.Opts.Fatal)],[ci 0,ci 0,.c (.str ([]:List UInt8)),.c (.str ([]:List UInt8)),ci 0,ci 0,ci 0,.c (.str ([]:List UInt8)),AV.nil,AV.nil,.c (.str ([]:List UInt8)),ci 0,ci 0,ci 0,ci 0,ci 0,ci 0,ci 0,ci 0,AV.nil]]:St)) ?_ ?_
     ·
      refine aJ<|aU r (cQ r r)<|sB r<|aH (fr':=[(1,aD),(2,bD),(32,aI),(33,aB)]) r r<|cU hx44 r (fun hb47 h47=>?_) (fun hb47 h47=>?_)
      ·
       exact bI<|lB _ (sy h47) (bJ [] 2 r r r r nW (cO r (cO r aC)))
      ·
       refine aJ<|aU r (cQ r r)<|sB r<|aH (fr':=[(1,aD),(2,bD),(32,aI),(33,aB)]) r r<|cU h47 r (fun hb48 h48=>?_) (fun hb48 h48=>?_)
       ·
        exact bI<|lB _ (sy h48) (bJ [] 2 r r r r nW (cO r (cO r aC)))
       ·
        refine aJ<|aU r (cQ r r)<|sB r<|aH (fr':=[(1,aD),(2,bD),(32,aI),(33,aB)]) r r<|cU h48 r (fun hb49 h49=>?_) (fun hb49 h49=>?_)
        ·
         exact bI<|lB _ (sy h49) (bJ [] 2 r r r r nW (cO r (cO r aC)))
        ·
         exact bA<|aU r (cQ r r)<|sB r<|dQ (fr':=[(1,aD),(2,bD),(32,aI),(33,aB)]) r<|lB _ (sy h49) (bJ [] 2 r r r r nW (cO r (cO r aC)))
     ·
      intro j46 hj50
      subst hj50
      refine cU h45 r (fun hb51 h51=>?_) (fun hb51 h51=>?_)
      ·
       exact bA<|aU r (bU wW r)<|cN (v:=aI) (us:=[aI]) (cs:=bL) (σ':=[bL,eV]) r hU r r r r r r r r<|dQ (fr':=[(1,aD),(2,bD),(33,aB)]) r<|dI<|lB _ (sy h51) (bJ [] 2 r r r r kR (cO r (cO r aC)))
      ·
       exact bI<|dI<|lB _ (sy h51) (bJ [] 2 r r r r kR (cO r (cO r aC)))
    ·
     intro j43 hj52
     subst hj52
     obtain ⟨x53,hx53,h54⟩:=eF h42
     refine kF (fun j55=>x53=j55) (fun (j55:fG)=>([(1,aD),(2,bD)]:Fr)) (fun (j55:fG)=>([[ci j55.Kind,ci j55.Seq,.c (.str j55.Name),.c (.str j55.Key),ci j55.N,ci j55.Data.Kind,ci j55.Data.Int,.c (.str j55.Data.Text),.c (PV.ls 5 cF j55.Data.Items),.c (PV.ls 1 iF j55.Data.Keys),.c (.str j55.Opts.Queue),ci j55.Opts.ToStart,ci j55.Opts.ToClose,ci j55.Opts.Total,ci j55.Opts.Beat,ci j55.Opts.First,ci j55.Opts.Coef,ci j55.Opts.Most,ci j55.Opts.Attempts,.c (PV.ls 1 iF j55.Opts.Fatal)],[ci 0,ci 0,.c (.str ([]:List UInt8)),.c (.str ([]:List UInt8)),ci 0,ci 0,ci 0,.c (.str ([]:List UInt8)),AV.nil,AV.nil,.c (.str ([]:List UInt8)),ci 0,ci 0,ci 0,ci 0,ci 0,ci 0,ci 0,ci 0,AV.nil]]:St)) ?_ ?_
     ·
      refine aJ<|aU r (bU uM r)<|aU r (aR (v:=aI) hU r r r)<|aH (fr':=[(1,aD),(2,bD),(40,aI)]) r r<|cP<|bx hx53 fun x56 hx56 h57=>kF (fun j58=>x56=j58) (fun (j58:Bool)=>([(1,aD),(2,bD),(43,.c (.bool j58))]:Fr)) (fun (j58:Bool)=>([[ci p0c.Kind,ci x1,.c (.str x15),.c (.str x29),ci x41,ci p0c.Data.Kind,ci p0c.Data.Int,.c (.str p0c.Data.Text),.c (PV.ls 5 cF p0c.Data.Items),.c (PV.ls 1 iF p0c.Data.Keys),.c (.str p0c.Opts.Queue),ci p0c.Opts.ToStart,ci p0c.Opts.ToClose,ci p0c.Opts.Total,ci p0c.Opts.Beat,ci p0c.Opts.First,ci p0c.Opts.Coef,ci p0c.Opts.Most,ci p0c.Opts.Attempts,.c (PV.ls 1 iF p0c.Opts.Fatal)],[ci 0,ci 0,.c (.str ([]:List UInt8)),.c (.str ([]:List UInt8)),ci 0,ci 0,ci 0,.c (.str ([]:List UInt8)),AV.nil,AV.nil,.c (.str ([]:List UInt8)),ci 0,ci 0,ci 0,ci 0,ci 0,ci 0,ci 0,ci 0,AV.nil]]:St)) ?_ ?_
      ·
       refine aJ<|aU r (cQ r r)<|sB r<|aH (fr':=[(1,aD),(2,bD),(40,aI),(43,aB)]) r r<|cU hx56 r (fun hb59 h59=>?_) (fun hb59 h59=>?_)
       ·
        exact bI<|lB _ (sy h59) (bJ [] 2 r r r r nW (cO r (cO r aC)))
       ·
        refine aJ<|aU r (cQ r r)<|sB r<|aH (fr':=[(1,aD),(2,bD),(40,aI),(43,aB)]) r r<|cU h59 r (fun hb60 h60=>?_) (fun hb60 h60=>?_)
        ·
         exact bI<|lB _ (sy h60) (bJ [] 2 r r r r nW (cO r (cO r aC)))
        ·
         exact bA<|aU r (cQ r r)<|sB r<|dQ (fr':=[(1,aD),(2,bD),(40,aI),(43,aB)]) r<|lB _ (sy h60) (bJ [] 2 r r r r nW (cO r (cO r aC)))
      ·
       intro j58 hj61
       subst hj61
       refine cU h57 r (fun hb62 h62=>?_) (fun hb62 h62=>?_)
       ·
        exact bI<|dI<|lB _ (sy h62) (bJ [] 2 r r r r kR (cO r (cO r aC)))
       ·
        exact bA<|aU r (fM (cs:=bY) aGq r)<|aU r (bU zD r)<|cN (v:=.agg bY) (us:=bY) (cs:=bL) (σ':=[aD0,eV]) r jC r r r r r r r r<|dQ (fr':=[(1,aD),(2,bD),(43,aB)]) r<|dI<|lB _ (sy h62) (bJ [] 2 r r r r kR (qU ⟨lr,lr,lr,lr,lr,lr,lr,lr,aAh,aAh,lr,lr,lr,lr,lr,lr,lr,lr,lr,lr,trivial⟩ (cO r aC)))
     ·
      intro j55 hj63
      subst hj63
      refine aX<|aJ<|aU r (bU uM r)<|aU r (aR (v:=aI) hU r r r)<|aU r (cQ r r)<|aH (fr':=[(1,aD),(2,bD),(49,aB)]) r r<|cU h54 r (fun hb64 h64=>?_) (fun hb64 h64=>?_)
      ·
       refine bA<|aU r (rI (c0:=bB) (cs:=bB) aOC r rH)<|aU r (bU aET r)<|cN (v:=.agg bB) (us:=bB) (cs:=bL) (σ':=[lF,eV]) r zW r r r r r r r r<|aH (fr':=[(1,aD),(2,bD)]) r r<|aJ<|aU r (eL (us:=lF) aC1 r r r r)<|cN (v:=.agg lF) (us:=lF) (cs:=eV) (σ':=[lF,lF]) r aC1 r r r r r r r r<|aH (fr':=[(2,bD)]) r r<|bO ?_
       obtain rfl:=sy h64
       exact bN (rs':=[.cell 2 103]) r<|eX (us:=lF) (cs:=lF) aC1 r r r r<|bM<|aP [] r r r (cM r ⟨r,r,r,r,r,r,r,r,r,r,r,r,r,r,r,r,r,r,r,⟨_,r⟩,trivial⟩) aC
      ·
       refine bI<|dB<|aJ<|aU r (eL (us:=bL) aC1 r r r r)<|cN (v:=.agg bL) (us:=bL) (cs:=eV) (σ':=[bL,bL]) r aC1 r r r r r r r r<|aH (fr':=[(2,bD)]) r r<|bO ?_
       obtain rfl:=sy h64
       exact bN (rs':=[.cell 2 103]) r<|eX (us:=bL) (cs:=bL) aC1 r r r r<|bM<|aP [] r r r (cM r aMt) aC
noncomputable def xL (p0v:aF) (s8:Int):Option (dN Int (Fl Bool Unit)) :=
 (lO p0v.Items 1).bind fun x9=>cond (decide (s8<((x9.Items).length:Int))) ((lO p0v.Items 1).bind fun x12=>(lO x12.Items s8).bind fun x14=>(gd ((cond (!decide (x14.Kind=4)) true (!decide (((x14.Items).length:Int)=2)))==false) (lO x14.Items 0)).bind fun x16=>(gd ((cond (cond (!decide (x14.Kind=4)) true (!decide (((x14.Items).length:Int)=2))) true (!decide (x16.Kind=3)))==false) (lO x14.Items 0)).bind fun x18=>(gd ((cond (cond (!decide (x14.Kind=4)) true (!decide (((x14.Items).length:Int)=2))) true (!decide (x16.Kind=3)))==false) (rV x18.Text)).bind fun x20=>cond (cond (cond (cond (!decide (x14.Kind=4)) true (!decide (((x14.Items).length:Int)=2))) true (!decide (x16.Kind=3))) true (!x20)) (some (dN.out (Fl.done false))) (some (dN.next (IntKind.wrap .i64 (s8+1))))) (some (dN.out (Fl.go ())))
noncomputable def aBj (p0v:aF):Option Bool :=
 (gd ((cond (!decide (p0v.Kind=4)) true (!decide (((p0v.Items).length:Int)=2)))==false) (lO p0v.Items 1)).bind fun x1=>cond (cond (cond (!decide (p0v.Kind=4)) true (!decide (((p0v.Items).length:Int)=2))) true (!decide (x1.Kind=4))) (some false) ((fI (xL p0v) (0)).bind fun x5=>Fl.next x5 (fun j7=>(some true)))
theorem aKe {p0v:aF}{res:Bool} (h:aBj p0v=some res):cX Tryz.prog 157 [.agg (AV.cs (eR p0v))] [] (.c (.bool res)) []:=by
 unfold aBj at h
 refine dR (fn:=Tryz.f157) [0,1,2,3,4,21,29,65] (by kernel_rfl) Tryz.func157 r (by kernel_rfl) (by kernel_rfl)<|aJ<|kP (v:=.agg cJ) (n:=0) (cs:=cJ) (σ':=[cJ]) r r r r r<|sB r<|aH (fr':=[(1,aD)]) r r<|aX<|aJ<|aU r (bU mE r)<|aU r (aR (v:=aI) hU r r r)<|aU r (iZ r r)<|mB r<|og r r r (fun hc=>(bU iB r))<|og r r r (fun hc=>(aR (v:=aL) nS (gx r hc) r r))<|og r r r (fun hc=>(gT vL (eA (gx r hc))))<|og r r r (fun hc=>(iZ (gx r hc) r))<|aU r (dK r r r (fun e=>hH e))<|mB r<|og r r r (fun hc=>(bU iB r))<|og r r r (fun hc=>(aR (v:=aL) nS (gx r hc) r r))<|bx h fun x1 hx1 h2=>og r r r (fun hc=>(lC (cs:=[PV.int _ _,PV.int _ _,PV.str _,PV.ls _ _ _,PV.ls _ _ _]) uF (eA (gx r hc)) r (dM hx1 hc) (dZ _)))<|og r r r (fun hc=>(yP mE (gx r hc)))<|og r r r (fun hc=>(fO (p:=PV.int _ _) hU (gx r hc) r))<|og r r r (fun hc=>(iZ (gx r hc) r))<|aU r (dK r r r (fun e=>hH e))<|aH (fr':=[(1,aD),(21,aB)]) r r<|cU h2 r (fun hb3 h3=>?_) (fun hb3 h3=>?_)
 ·
  refine aJ<|sB r<|aH (fr':=[(2,aB)]) r r<|bO<|aN ?_
  obtain rfl:=sy h3
  exact bN (rs':=[.tmp 2]) r<|cE (v:=aB) r<|bM<|aP [] r r r lr aC
 ·
  refine bI<|dB<|aX<|aJ<|sI r<|aH (fr':=[(1,aD),(3,aI)]) r r<|bx h3 fun x5 hx5 h6=>hF lP (fun j7=>x5=Fl.go j7) (fun (j7:Unit)=>([]:Fr)) (fun (j7:Unit)=>([[ci p0v.Kind,ci p0v.Int,.c (.str p0v.Text),.c (PV.ls 5 cF p0v.Items),.c (PV.ls 1 iF p0v.Keys)]]:St)) ?_ ?_
  ·
   refine cP<|gY _ (fun (s8:Int)=>([(1,aD),(3,ci s8)]:Fr)) (fun (s8:Int)=>([[ci p0v.Kind,ci p0v.Int,.c (.str p0v.Text),.c (PV.ls 5 cF p0v.Items),.c (PV.ls 1 iF p0v.Keys)]]:St)) hx5 (bJ [] 1 r r r r kR (cO r aC)) ?_
   intro s8 st8 hs8 ho8
   unfold xL at hs8
   refine aX<|aJ<|mI r<|aU r (bU iB r)<|aU r (aR (v:=aL) nS r r r)<|bx hs8 fun x9 hx9 h10=>aU r (lC (cs:=[PV.int _ _,PV.int _ _,PV.str _,PV.ls _ _ _,PV.ls _ _ _]) uF (eA r) r hx9 (dZ _))<|aU r (yP iB r)<|aU r (fO (p:=PV.ls _ _ _) nS r r)<|aU r (gT vL (eA r))<|aU r (fY r r)<|aH (fr':=[(1,aD),(3,aI),(29,aB)]) r r<|cU h10 r (fun hb11 h11=>?_) (fun hb11 h11=>?_)
   ·
    refine bI<|dB<|aX<|cP<|aJ<|aU r (bU iB r)<|aU r (aR (v:=aL) nS r r r)<|bx h11 fun x12 hx12 h13=>aU r (lC (cs:=[PV.int _ _,PV.int _ _,PV.str _,PV.ls _ _ _,PV.ls _ _ _]) uF (eA r) r hx12 (dZ _))<|aU r (yP iB r)<|aU r (fO (p:=PV.ls _ _ _) nS r r)<|mI r<|bx h13 fun x14 hx14 h15=>aU r (lC (cs:=[PV.int _ _,PV.int _ _,PV.str _,PV.ls _ _ _,PV.ls _ _ _]) uF (eA r) r hx14 (dZ _))<|aU r (nL (us:=[PV.int _ _,PV.int _ _,PV.str _,PV.ls _ _ _,PV.ls _ _ _]) jC r r r)<|jV (n:=1) (cs:=bY) (σ':=[cJ,bY]) aDE r r r<|cN (v:=.agg cJ) (us:=cJ) (cs:=bY) (σ':=[cJ,cJ]) r jC r r r r r r r r<|aH (fr':=[(1,aD),(3,aI),(4,bD)]) r r<|aJ<|aU r (bU mE r)<|aU r (aR (v:=aI) hU r r r)<|aU r (iZ r r)<|mB r<|og r r r (fun hc=>(bU iB r))<|og r r r (fun hc=>(aR (v:=aL) nS (gx r hc) r r))<|og r r r (fun hc=>(gT vL (eA (gx r hc))))<|og r r r (fun hc=>(iZ (gx r hc) r))<|aU r (dK r r r (fun e=>hH e))<|mB r<|og r r r (fun hc=>(bU iB r))<|og r r r (fun hc=>(aR (v:=aL) nS (gx r hc) r r))<|bx h15 fun x16 hx16 h17=>og r r r (fun hc=>(lC (cs:=[PV.int _ _,PV.int _ _,PV.str _,PV.ls _ _ _,PV.ls _ _ _]) uF (eA (gx r hc)) r (dM hx16 hc) (dZ _)))<|og r r r (fun hc=>(yP mE (gx r hc)))<|og r r r (fun hc=>(fO (p:=PV.int _ _) hU (gx r hc) r))<|og r r r (fun hc=>(iZ (gx r hc) r))<|aU r (dK r r r (fun e=>hH e))<|mB r<|og r r r (fun hc=>(bU iB r))<|og r r r (fun hc=>(aR (v:=aL) nS (gx r hc) r r))<|bx h17 fun x18 hx18 h19=>og r r r (fun hc=>(lC (cs:=[PV.int _ _,PV.int _ _,PV.str _,PV.ls _ _ _,PV.ls _ _ _]) uF (eA (gx r hc)) r (dM hx18 hc) (dZ _)))<|og r r r (fun hc=>(yP uA (gx r hc)))<|og r r r (fun hc=>(fO (p:=PV.str _) rZ (gx r hc) r))<|bx h19 fun x20 hx20 h21=>zG r r (fun hc=>cA (v:=aB) r (wI (dM hx20 hc)) ⟨(iA (gx r hc) lr),trivial⟩ (iO (by repeat (first | exact fU | refine bG r ?_ | refine bG (vD r) ?_ | refine bG vC ?_))) r r) ?_
    refine og r r r (fun hc=>(gX (gx r hc)))<|aU r (dK r r r (fun e=>hH e))<|aH (fr':=[(1,aD),(3,aI),(65,aB)]) r r<|cU h21 r (fun hb22 h22=>?_) (fun hb22 h22=>?_)
    ·
     refine aJ<|sB r<|aH (fr':=[(2,aB)]) r r<|bO<|bT<|aN<|aN<|bT<|aN<|aN ?_
     have h23:=eS h22 ho8
     have h24:=gI h23 h6
     obtain rfl:=sy h24
     exact bN (rs':=[.tmp 2]) r<|cE (v:=aB) r<|bM<|aP [] r r r lr aC
    ·
     exact bI<|dI<|dB<|bA<|mI r<|aU r (fX r r)<|sI r<|dQ (fr':=[(1,aD),(3,aI),(65,aB)]) r<|zY _ (sy h22) (bJ [] 1 r r r r kR (cO r aC))
   ·
    refine iE<|cZ<|cZ<|fT ?_
    have h26:=eS h11 ho8
    exact lB _ (sy h26) (bJ [] 1 r r r r trivial (cO r aC))
  ·
   intro j7 hj27
   have h27:=nY hj27 h6
   refine dB<|aJ<|sB r<|aH (fr':=[(2,aB)]) r r<|bO ?_
   obtain rfl:=sy h27
   exact bN (rs':=[.tmp 2]) r<|cE (v:=aB) r<|bM<|aP [] r r r lr aC
noncomputable def aBk (p0C:fG):Option Bool :=
 (tS p0C.Kind 1 14).bind fun x1=>(gd ((!x1)==false) (aB3 p0C)).bind fun x3=>(gd ((!x1)==false) (aAS x3 (fG.mk p0C.Kind 0 ([]:List UInt8) ([]:List UInt8) 0 (aF.mk 0 0 ([]:List UInt8) ([]:(List aF)) ([]:(List (List UInt8)))) (bV.mk ([]:List UInt8) 0 0 0 0 0 0 0 0 ([]:(List (List UInt8))))))).bind fun x5=>(gd ((cond (!x1) true (!x5))==false) (xI p0C.Data)).bind fun x7=>cond (cond (cond (!x1) true (!x5)) true (!x7)) (some false) ((tS p0C.Seq 1 2000).bind fun x11=>(rV p0C.Name).bind fun x13=>(aBi p0C.Key).bind fun x15=>cond (decide (p0C.Kind=1)) ((gd ((cond x11 x13 false)==true) (oZ p0C.Opts)).bind fun x18=>some (cond (cond x11 x13 false) x18 false)) (((cond (decide (p0C.Kind=2)) (some (decide (p0C.Kind=2))) (some (decide (p0C.Kind=4)))):Option Bool).bind fun x21=>(cond x21 (some x11) (cond (decide (p0C.Kind=3)) ((gd (x11==true) (tS p0C.N 1 1099511627776)).bind fun x29=>some (cond x11 x29 false)) (cond (decide (p0C.Kind=5)) ((gd ((cond (cond x11 x13 false) x15 false)==true) (tS p0C.N 0 2)).bind fun x33=>some (cond (cond (cond x11 x13 false) x15 false) x33 false)) (cond (decide (p0C.Kind=6)) (some (cond (cond x11 x13 false) x15 false)) (cond (decide (p0C.Kind=7)) ((gd ((x13==true)&&((decide (p0C.N=(-1)))==false)) (tS p0C.N 0 2147483647)).bind fun x39=>some (cond x13 (cond (decide (p0C.N=(-1))) true (cond x39 (decide (p0C.Data.Kind=0)) false)) false)) (cond (decide (p0C.Kind=8)) (some (cond x15 x13 false)) (cond (decide (p0C.Kind=9)) ((gd (x15==true) (tS p0C.N 0 1)).bind fun x45=>some (cond x15 x45 false)) (cond (decide (p0C.Kind=10)) (some (decide (p0C.Data.Kind=5))) (cond (decide (p0C.Kind=12)) (some (decide (((p0C.Name).length:Int)≤4096))) (cond (decide (p0C.Kind=14)) ((aBj p0C.Data).bind fun x53=>some x53) (some true)))))))))))))
theorem aKf {p0C:fG}{res:Bool} (h:aBk p0C=some res):cX Tryz.prog 84 [.agg (AV.cs (qE p0C))] [] (.c (.bool res)) []:=by
 unfold aBk at h
 refine dR (fn:=Tryz.f84) [0,1,2,3,4,5,24,35,36,47,51,59,73,82,101,107,115,121,127] (by kernel_rfl) Tryz.func84 r (by kernel_rfl) (by kernel_rfl)<|aJ<|kP (v:=.agg bL) (n:=0) (cs:=bL) (σ':=[bL]) r r r r r<|sB r<|aH (fr':=[(1,aD)]) r r<|aX<|aX<|lJ [.q 0,.q 1,.q 2,.q 3,.q 4,.q 5,.q 6,.q 7,.q 8,.q 9,.q 10,.q 11,.q 12,.q 13,.q 14,.q 15,.q 16,.q 17,.q 18] [(some 6,[1]),(some 7,[6]),(some 8,[7]),(some 9,[8]),(some 10,[9]),(some 11,[1,10]),(some 12,[11,10]),(some 13,[1,10]),(some 14,[13,10]),(some 15,[14,10]),(some 16,[12,15,10]),(some 17,[16,10]),(some 18,[10,17]),(some 19,[18]),(some 20,[1,19]),(some 21,[20,19]),(some 22,[21,19]),(some 23,[22,19]),(some 24,[19,23])] [0,1,3,7,15,31,63,31,159,415,1023,2047,4095,8191,16383,32767,65535,131071,262143] (by kernel_rfl)<|dq r r (bU uM r)<|dq r r (aR (v:=aI) hU r r r)<|bx h fun x1 hx1 h2=>d_q r (aAZ (v:=aB) r (uC hx1) nW r)<|dq r r (gX r)<|dq r r (bK (v:=aB) r)<|d_g r r r (fun hc=>mG r (eL (us:=bL) aC1 r r r r))<|bx h2 fun x3 hx3 h4=>d_g r r r (fun hc=>aAZ (v:=.agg bL) r (aLJ (dM hx3 hc)) ⟨(iA (gx r hc) (cM r aMt)),trivial⟩ r)<|d_g r r r (fun hc=>mG r (bU uM r))<|d_g r r r (fun hc=>mG r (aR (v:=aI) hU (gx r hc) r r))<|d_g r r r (fun hc=>mG r (rI (c0:=eV) (cs:=eV) aRR r (iQ (v:=aI) (us:=[_]) (cs':=u20) r (gx r hc) r r r r rH)))<|bx h4 fun x5 hx5 h6=>d_g r r r (fun hc=>aAZ (v:=aB) r (aLI (dM hx5 hc)) ⟨(iA (gx r hc) (cM r aMt)),(iA (gx r hc) (cM r ⟨r,r,r,r,r,r,r,r,⟨_,r⟩,⟨_,r⟩,r,r,r,r,r,r,r,r,r,⟨_,r⟩,trivial⟩)),trivial⟩ r)<|d_g r r r (fun hc=>mG r (gX (gx r hc)))<|dq r r (dK r r r (fun e=>hH e))<|dq r r (bK (v:=aB) r)<|d_g r r r (fun hc=>mG r (bU zD r))<|d_g r r r (fun hc=>mG r (eL (us:=cJ) jC (gx r hc) r r r))<|bx h6 fun x7 hx7 h8=>d_g r r r (fun hc=>aAZ (v:=aB) r (aCE (dM hx7 hc)) ⟨(iA (gx r hc) (cM r kR5)),trivial⟩ r)<|d_g r r r (fun hc=>mG r (gX (gx r hc)))<|dq r r (dK r r r (fun e=>hH e))<|aAe (fr':=[(1,aD),(24,aB)]) r r<|cU h8 r (fun hb9 h9=>?_) (fun hb9 h9=>?_)
 ·
  refine aJ<|sB r<|aH (fr':=[(2,aB)]) r r<|bO<|aN ?_
  obtain rfl:=sy h9
  exact bN (rs':=[.tmp 2]) r<|cE (v:=aB) r<|bM<|aP [] r r r lr aC
 ·
  refine bI<|dB<|aJ<|aU r (bU aER r)<|aU r (aR (v:=aI) hU r r r)<|bx h9 fun x11 hx11 h12=>oN (cA (v:=aB) r (uC hx11) nW r r r)<|sB r<|aH (fr':=[(1,aD),(3,aB)]) r r<|aJ<|aU r (bU aCs r)<|aU r (aR (v:=aS) rZ r r r)<|bx h12 fun x13 hx13 h14=>oN (cA (v:=aB) r (wI hx13) ⟨lr,trivial⟩ r r r)<|sB r<|aH (fr':=[(1,aD),(3,aB),(4,aB)]) r r<|aJ<|aU r (bU aES r)<|aU r (aR (v:=aS) rZ r r r)<|bx h14 fun x15 hx15 h16=>oN (cA (v:=aB) r (aKd hx15) ⟨lr,trivial⟩ r r r)<|sB r<|aH (fr':=[(1,aD),(3,aB),(4,aB),(5,aB)]) r r<|aX<|aJ<|aU r (bU uM r)<|aU r (aR (v:=aI) hU r r r)<|aH (fr':=[(1,aD),(3,aB),(4,aB),(5,aB),(35,aI)]) r r<|cP<|aJ<|aU r (cQ r r)<|sB r<|aH (fr':=[(1,aD),(3,aB),(4,aB),(5,aB),(35,aI),(36,aB)]) r r<|cU h16 r (fun hb17 h17=>?_) (fun hb17 h17=>?_)
  ·
   refine aJ<|mB r<|mB r<|og r r r (fun hc=>(bK (v:=aB) r))<|aU r (cS r r r (fun e=>hH e))<|mB r<|og r r r (fun hc=>(bU aET r))<|og r r r (fun hc=>(eL (us:=dO) zW (gx r hc) r r r))<|bx h17 fun x18 hx18 h19=>zG r r (fun hc=>cA (v:=aB) r (aBz (dM hx18 hc)) ⟨(iA (gx r hc) (cM r aDf)),trivial⟩ (iO (by repeat (first | exact fU | refine bG r ?_ | refine bG (vD r) ?_ | refine bG vC ?_))) r r) ?_
   refine aU r (cS r r r (fun e=>hH e))<|sB r<|aH (fr':=[(2,aB)]) r r<|bO<|bT<|aN ?_
   obtain rfl:=sy h19
   exact bN (rs':=[.tmp 2]) r<|cE (v:=aB) r<|bM<|aP [] r r r lr aC
  ·
   obtain ⟨x21,hx21,h22⟩:=eF h17
   refine kF (fun j23=>x21=j23) (fun (j23:Bool)=>([(1,aD),(3,.c (.bool x11)),(4,.c (.bool x13)),(5,.c (.bool x15)),(35,ci p0C.Kind),(47,.c (.bool j23))]:Fr)) (fun (j23:Bool)=>([[ci p0C.Kind,ci p0C.Seq,.c (.str p0C.Name),.c (.str p0C.Key),ci p0C.N,ci p0C.Data.Kind,ci p0C.Data.Int,.c (.str p0C.Data.Text),.c (PV.ls 5 cF p0C.Data.Items),.c (PV.ls 1 iF p0C.Data.Keys),.c (.str p0C.Opts.Queue),ci p0C.Opts.ToStart,ci p0C.Opts.ToClose,ci p0C.Opts.Total,ci p0C.Opts.Beat,ci p0C.Opts.First,ci p0C.Opts.Coef,ci p0C.Opts.Most,ci p0C.Opts.Attempts,.c (PV.ls 1 iF p0C.Opts.Fatal)]]:St)) ?_ ?_
   ·
    refine aJ<|aU r (cQ r r)<|sB r<|aH (fr':=[(1,aD),(3,aB),(4,aB),(5,aB),(35,aI),(47,aB)]) r r<|cU hx21 r (fun hb24 h24=>?_) (fun hb24 h24=>?_)
    ·
     exact bI<|lB _ (sy h24) (bJ [] 1 r r r r kL6 (cO r aC))
    ·
     exact bA<|aU r (cQ r r)<|sB r<|dQ (fr':=[(1,aD),(3,aB),(4,aB),(5,aB),(35,aI),(47,aB)]) r<|lB _ (sy h24) (bJ [] 1 r r r r kL6 (cO r aC))
   ·
    intro j23 hj25
    subst hj25
    refine cU h22 r (fun hb26 h26=>?_) (fun hb26 h26=>?_)
    ·
     refine aJ<|mB r<|sB r<|aH (fr':=[(2,aB)]) r r<|bO<|bT<|aN ?_
     obtain rfl:=sy h26
     exact bN (rs':=[.tmp 2]) r<|cE (v:=aB) r<|bM<|aP [] r r r lr aC
    ·
     refine aJ<|aU r (cQ r r)<|sB r<|aH (fr':=[(1,aD),(3,aB),(4,aB),(5,aB),(35,aI),(51,aB)]) r r<|cU h26 r (fun hb28 h28=>?_) (fun hb28 h28=>?_)
     ·
      refine aJ<|mB r<|mB r<|og r r r (fun hc=>(bU wW r))<|og r r r (fun hc=>(aR (v:=aI) hU (gx r hc) r r))<|bx h28 fun x29 hx29 h30=>zG r r (fun hc=>cA (v:=aB) r (uC (dM hx29 hc)) ⟨(iA (gx r hc) lr),lr,lr,trivial⟩ (iO (by repeat (first | exact fU | refine bG r ?_ | refine bG (vD r) ?_ | refine bG vC ?_))) r r) ?_
      refine aU r (cS r r r (fun e=>hH e))<|sB r<|aH (fr':=[(2,aB)]) r r<|bO<|bT<|aN ?_
      obtain rfl:=sy h30
      exact bN (rs':=[.tmp 2]) r<|cE (v:=aB) r<|bM<|aP [] r r r lr aC
     ·
      refine aJ<|aU r (cQ r r)<|sB r<|aH (fr':=[(1,aD),(3,aB),(4,aB),(5,aB),(35,aI),(59,aB)]) r r<|cU h28 r (fun hb32 h32=>?_) (fun hb32 h32=>?_)
      ·
       refine aJ<|mB r<|mB r<|og r r r (fun hc=>(bK (v:=aB) r))<|aU r (cS r r r (fun e=>hH e))<|mB r<|og r r r (fun hc=>(bK (v:=aB) r))<|aU r (cS r r r (fun e=>hH e))<|mB r<|og r r r (fun hc=>(bU wW r))<|og r r r (fun hc=>(aR (v:=aI) hU (gx r hc) r r))<|bx h32 fun x33 hx33 h34=>zG r r (fun hc=>cA (v:=aB) r (uC (dM hx33 hc)) ⟨(iA (gx r hc) lr),lr,lr,trivial⟩ (iO (by repeat (first | exact fU | refine bG r ?_ | refine bG (vD r) ?_ | refine bG vC ?_))) r r) ?_
       refine aU r (cS r r r (fun e=>hH e))<|sB r<|aH (fr':=[(2,aB)]) r r<|bO<|bT<|aN ?_
       obtain rfl:=sy h34
       exact bN (rs':=[.tmp 2]) r<|cE (v:=aB) r<|bM<|aP [] r r r lr aC
      ·
       refine aJ<|aU r (cQ r r)<|sB r<|aH (fr':=[(1,aD),(3,aB),(4,aB),(5,aB),(35,aI),(73,aB)]) r r<|cU h32 r (fun hb36 h36=>?_) (fun hb36 h36=>?_)
       ·
        refine aJ<|mB r<|mB r<|og r r r (fun hc=>(bK (v:=aB) r))<|aU r (cS r r r (fun e=>hH e))<|mB r<|og r r r (fun hc=>(bK (v:=aB) r))<|aU r (cS r r r (fun e=>hH e))<|sB r<|aH (fr':=[(2,aB)]) r r<|bO<|bT<|aN ?_
        obtain rfl:=sy h36
        exact bN (rs':=[.tmp 2]) r<|cE (v:=aB) r<|bM<|aP [] r r r lr aC
       ·
        refine aJ<|aU r (cQ r r)<|sB r<|aH (fr':=[(1,aD),(4,aB),(5,aB),(35,aI),(82,aB)]) r r<|cU h36 r (fun hb38 h38=>?_) (fun hb38 h38=>?_)
        ·
         refine aJ<|mB r<|mB r<|og r r r (fun hc=>(bU wW r))<|og r r r (fun hc=>(aR (v:=aI) hU (gx r hc) r r))<|og r r r (fun hc=>(cQ (gx r hc) r))<|og r r r (fun hc=>(bK (v:=aB) (gx r hc)))<|hZ r r (fun hc=>iI r (bU wW r))<|hZ r r (fun hc=>iI r (aR (v:=aI) hU (gx r hc) r r))<|bx h38 fun x39 hx39 h40=>hZ r r (fun hc=>cA (v:=aB) r (uC (dM hx39 hc)) ⟨(iA (gx r hc) lr),lr,lr,trivial⟩ (iO (by repeat (first | exact fU | refine bG r ?_ | refine bG (vD r) ?_ | refine bG vC ?_))) r r) ?_
         refine hZ r r (fun hc=>iI r (bK (v:=aB) (gx r hc)))<|hZ r r (fun hc=>iI r (bU zD r))<|hZ r r (fun hc=>iI r (bU mE (gx r hc)))<|hZ r r (fun hc=>iI r (aR (v:=aI) hU (gx r hc) r r))<|hZ r r (fun hc=>iI r (cQ (gx r hc) r))<|hZ r r (fun hc=>iI r (cS (gx r hc) r r (fun e=>vF hc (hH e))))<|og r r r (fun hc=>(dK (gx r hc) r r (fun e=>vF hc (hH e))))<|aU r (cS r r r (fun e=>hH e))<|sB r<|aH (fr':=[(2,aB)]) r r<|bO<|bT<|aN ?_
         obtain rfl:=sy h40
         exact bN (rs':=[.tmp 2]) r<|cE (v:=aB) r<|bM<|aP [] r r r lr aC
        ·
         refine aJ<|aU r (cQ r r)<|sB r<|aH (fr':=[(1,aD),(4,aB),(5,aB),(35,aI),(101,aB)]) r r<|cU h38 r (fun hb42 h42=>?_) (fun hb42 h42=>?_)
         ·
          refine aJ<|mB r<|mB r<|og r r r (fun hc=>(bK (v:=aB) r))<|aU r (cS r r r (fun e=>hH e))<|sB r<|aH (fr':=[(2,aB)]) r r<|bO<|bT<|aN ?_
          obtain rfl:=sy h42
          exact bN (rs':=[.tmp 2]) r<|cE (v:=aB) r<|bM<|aP [] r r r lr aC
         ·
          refine aJ<|aU r (cQ r r)<|sB r<|aH (fr':=[(1,aD),(5,aB),(35,aI),(107,aB)]) r r<|cU h42 r (fun hb44 h44=>?_) (fun hb44 h44=>?_)
          ·
           refine aJ<|mB r<|mB r<|og r r r (fun hc=>(bU wW r))<|og r r r (fun hc=>(aR (v:=aI) hU (gx r hc) r r))<|bx h44 fun x45 hx45 h46=>zG r r (fun hc=>cA (v:=aB) r (uC (dM hx45 hc)) ⟨(iA (gx r hc) lr),lr,lr,trivial⟩ (iO (by repeat (first | exact fU | refine bG r ?_ | refine bG (vD r) ?_ | refine bG vC ?_))) r r) ?_
           refine aU r (cS r r r (fun e=>hH e))<|sB r<|aH (fr':=[(2,aB)]) r r<|bO<|bT<|aN ?_
           obtain rfl:=sy h46
           exact bN (rs':=[.tmp 2]) r<|cE (v:=aB) r<|bM<|aP [] r r r lr aC
          ·
           refine aJ<|aU r (cQ r r)<|sB r<|aH (fr':=[(1,aD),(35,aI),(115,aB)]) r r<|cU h44 r (fun hb48 h48=>?_) (fun hb48 h48=>?_)
           ·
            refine aJ<|aU r (bU zD r)<|aU r (bU mE r)<|aU r (aR (v:=aI) hU r r r)<|aU r (cQ r r)<|sB r<|aH (fr':=[(2,aB)]) r r<|bO<|bT<|aN ?_
            obtain rfl:=sy h48
            exact bN (rs':=[.tmp 2]) r<|cE (v:=aB) r<|bM<|aP [] r r r lr aC
           ·
            refine aJ<|aU r (cQ r r)<|sB r<|aH (fr':=[(1,aD),(35,aI),(121,aB)]) r r<|cU h48 r (fun hb50 h50=>?_) (fun hb50 h50=>?_)
            ·
             refine aJ<|aU r (bU aCs r)<|aU r (aR (v:=aS) rZ r r r)<|aU r (nR zZ r)<|aU r (rU r r)<|sB r<|aH (fr':=[(2,aB)]) r r<|bO<|bT<|aN ?_
             obtain rfl:=sy h50
             exact bN (rs':=[.tmp 2]) r<|cE (v:=aB) r<|bM<|aP [] r r r lr aC
            ·
             refine aJ<|aU r (cQ r r)<|sB r<|aH (fr':=[(1,aD),(127,aB)]) r r<|cU h50 r (fun hb52 h52=>?_) (fun hb52 h52=>?_)
             ·
              refine aJ<|aU r (bU zD r)<|aU r (eL (us:=cJ) jC r r r r)<|bx h52 fun x53 hx53 h54=>oN (cA (v:=aB) r (aKe hx53) ⟨(cM r kR5),trivial⟩ r r r)<|sB r<|aH (fr':=[(2,aB)]) r r<|bO<|bT<|aN ?_
              obtain rfl:=sy h54
              exact bN (rs':=[.tmp 2]) r<|cE (v:=aB) r<|bM<|aP [] r r r lr aC
             ·
              refine bI<|dI<|dB<|aJ<|sB r<|aH (fr':=[(2,aB)]) r r<|bO ?_
              obtain rfl:=sy h52
              exact bN (rs':=[.tmp 2]) r<|cE (v:=aB) r<|bM<|aP [] r r r lr aC
