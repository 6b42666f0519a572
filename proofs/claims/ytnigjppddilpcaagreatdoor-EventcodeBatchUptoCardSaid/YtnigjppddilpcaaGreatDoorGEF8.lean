import Derived.Test.YtnigjppddilpcaaGreatDoorGETy
import Derived.Test.YtnigjppddilpcaaGreatDoorGEF0
import Derived.Test.YtnigjppddilpcaaGreatDoorGEF1
import Derived.Test.YtnigjppddilpcaaGreatDoorGEF6
import Derived.Test.YtnigjppddilpcaaGreatDoorGEF7
namespace Go.Proofs.YtnigjppddilpcaaGreatDoor
open Go Abs
set_option maxRecDepth 100000
set_option linter.unusedVariables false
set_option linter.unusedSimpArgs false
noncomputable def oJ (p1e:bI) (s6:((List UInt8) × Int)):Option (cI ((List UInt8) × Int) (List UInt8)) :=
 cond (decide (s6.2<((([p1e.ID,p1e.Kind,p1e.Time,p1e.Seq,p1e.Ref,p1e.N,p1e.Code]:List Int)).length:Int))) ((hG ([p1e.ID,p1e.Kind,p1e.Time,p1e.Seq,p1e.Ref,p1e.N,p1e.Code]:List Int) s6.2).bind fun x8=>(iL s6.1 x8).bind fun x10=>some (cI.next (x10,(IntKind.wrap .i64 (s6.2+(1:Int)))))) (some (cI.out s6.1))
noncomputable def qS (p0b:(List UInt8)) (p1e:bI):Option (List UInt8) :=
 (app 1 ([]:List UInt8) p0b).bind fun x1=>((dR (oJ p1e) ((x1,(0:Int)))):Option (List UInt8)).bind fun x3=>((iK x3 p1e.Name).bind fun x14=>(iK x14 p1e.Key).bind fun x16=>(tG x16 p1e.Data).bind fun x18=>(lH x18 p1e.Opts).bind fun x20=>some x20)
theorem aA8 {p0b:(List UInt8)}{p1e:bI}{res:(List UInt8)} (h:qS p0b p1e=some res):bS Tryz.prog 19 [.c (PV.ls 1 dF p0b),.agg (AV.cs (cD p1e))] [] (AV.os 0 1 dF res) []:=by
 unfold qS at h
 refine cJ (fn:=Tryz.f19) [0,1,3,4,5,7,25,26,27,28] (by kernel_rfl) Tryz.func19 r (by kernel_rfl) (by kernel_rfl)<|aH<|fS (v:=.agg aD) (n:=0) (cs:=aD) (σ':=[aD]) r r r r r<|sV (v:=AV.nil) r<|aF (fr':=[(0,aL),(3,.box 0 0)]) r r<|aH<|kT (row:=dF) (xs:=([]:List UInt8)) (rows:=[]) (σ':=[aD]) [0] pK r r r gY r r<|mL r ?_
 obtain ⟨x1,hx1,h2⟩:=aE h
 refine wX (row:=dF) pK r sD r (cC r) (fun _=>r) hx1<|sV (v:=aO) r<|aF (fr':=[(3,.box 0 0),(5,aO)]) r r<|aP<|aH<|aM r (bD aCg r)<|aM r (aK (v:=aI) eP r r r)<|aM r (bD tU r)<|aM r (aK (v:=aI) eP r r r)<|aM r (bD aCh r)<|aM r (aK (v:=aI) eP r r r)<|aM r (bD xE r) ?_
 refine aM r (aK (v:=aI) eP r r r)<|aM r (bD xF r)<|aM r (aK (v:=aI) eP r r r)<|aM r (bD sC r)<|aM r (aK (v:=aI) eP r r r)<|aM r (bD vU r)<|aM r (aK (v:=aI) eP r r r)<|kT (row:=(aDx .i64)) (xs:=([p1e.ID,p1e.Kind,p1e.Time,p1e.Seq,p1e.Ref,p1e.N,p1e.Code]:List Int)) (rows:=[[_],[_],[_],[_],[_],[_],[_]]) (σ':=[aD]) [0] aEf r r r (cM r (cM r (cM r (cM r (cM r (cM r (cM r gY))))))) r r<|aM r (dI aMm (lG r))<|mI r<|aF (fr':=[(3,.box 0 0),(5,aO),(25,aO),(26,aI),(27,aI)]) r r ?_
 obtain ⟨x3,hx3,h4⟩:=aE h2
 refine eB gF (fun j5=>x3=j5) (fun (j5:(List UInt8))=>([(3,.box 0 0),(5,AV.os 0 1 dF j5)]:Fr)) (fun (j5:(List UInt8))=>([[ci p1e.ID,ci p1e.Kind,ci p1e.Time,ci p1e.Seq,ci p1e.Ref,ci p1e.N,ci p1e.Code,.c (.str p1e.Name),.c (.str p1e.Key),ci p1e.Data.Kind,ci p1e.Data.Int,.c (.str p1e.Data.Text),.c (PV.ls 5 bF p1e.Data.Items),.c (PV.ls 1 eA p1e.Data.Keys),.c (.str p1e.Opts.Queue),ci p1e.Opts.ToStart,ci p1e.Opts.ToClose,ci p1e.Opts.Total,ci p1e.Opts.Beat,ci p1e.Opts.First,ci p1e.Opts.Coef,ci p1e.Opts.Most,ci p1e.Opts.Attempts,.c (PV.ls 1 eA p1e.Opts.Fatal)]]:St)) ?_ ?_
 ·
  refine bJ<|dV _ (fun (s6:((List UInt8) × Int))=>([(3,.box 0 0),(5,AV.os 0 1 dF s6.1),(25,AV.os 1 1 (aDx .i64) ([p1e.ID,p1e.Kind,p1e.Time,p1e.Seq,p1e.Ref,p1e.N,p1e.Code]:List Int)),(26,ci ((([p1e.ID,p1e.Kind,p1e.Time,p1e.Seq,p1e.Ref,p1e.N,p1e.Code]:List Int)).length:Int)),(27,ci s6.2)]:Fr)) (fun (s6:((List UInt8) × Int))=>([[ci p1e.ID,ci p1e.Kind,ci p1e.Time,ci p1e.Seq,ci p1e.Ref,ci p1e.N,ci p1e.Code,.c (.str p1e.Name),.c (.str p1e.Key),ci p1e.Data.Kind,ci p1e.Data.Int,.c (.str p1e.Data.Text),.c (PV.ls 5 bF p1e.Data.Items),.c (PV.ls 1 eA p1e.Data.Keys),.c (.str p1e.Opts.Queue),ci p1e.Opts.ToStart,ci p1e.Opts.ToClose,ci p1e.Opts.Total,ci p1e.Opts.Beat,ci p1e.Opts.First,ci p1e.Opts.Coef,ci p1e.Opts.Most,ci p1e.Opts.Attempts,.c (PV.ls 1 eA p1e.Opts.Fatal)]]:St)) hx3 (aU [160,400] 1 r r r r ⟨lr,lr,lr,lr,lr,trivial⟩ (bW r aA)) ?_
  intro s6 st6 hs6 ho6
  unfold oJ at hs6
  refine aH<|aM r (dJ r r)<|aF (fr':=[(3,.box 0 0),(5,aO),(25,aO),(26,aI),(27,aI),(28,aB)]) r r<|aP<|bP hs6 r (fun hb7 h7=>?_) (fun hb7 h7=>?_)
  ·
   refine aW<|bV<|aP<|bJ<|aP<|aQ ?_
   obtain ⟨x8,hx8,h9⟩:=aE h7
   refine aM r (gR (cs:=[PV.int _ _]) aEf (lG r) r hx8 r)<|aM r (eG (p:=PV.int _ _) eP r r)<|sI r<|aF (fr':=[(3,.box 0 0),(5,aO),(7,aI),(25,aO),(26,aI),(27,aI)]) r r<|aQ<|mV (v:=aO) r<|mI r ?_
   obtain ⟨x10,hx10,h11⟩:=aE h9
   exact gV (aX (v:=aO) r (lJ hx10) ⟨lr,lr,trivial⟩ r r r)<|sV (v:=aO) r<|cB (fr':=[(3,.box 0 0),(5,aO),(7,aI),(25,aO),(26,aI),(27,aI)]) r<|bX<|bV<|aQ<|aM r (dB r r)<|mI r<|cB (fr':=[(3,.box 0 0),(5,aO),(7,aI),(25,aO),(26,aI),(27,aI)]) r<|rX _ (sy h11) (aU [528,1] 1 r r r r ⟨lr,lr,lr,lr,lr,trivial⟩ (bW r aA))
  ·
   refine eK<|bR<|bR<|dC ?_
   have h12:=cS h7 ho6
   exact gD _ (sy h12) (aU [0] 1 r r r r ⟨lr,lr,trivial⟩ (bW r aA))
 ·
  intro j5 hj13
  subst hj13
  refine bV<|aH<|mV (v:=aO) r<|aM r (bD oW r)<|aM r (aK (v:=aS) kD r r r) ?_
  obtain ⟨x14,hx14,h15⟩:=aE h4
  refine gV (aX (v:=aO) r (lV hx14) ⟨lr,lr,trivial⟩ r r r)<|sV (v:=aO) r<|aF (fr':=[(3,.box 0 0),(5,aO)]) r r<|aH<|mV (v:=aO) r<|aM r (bD oX r)<|aM r (aK (v:=aS) kD r r r) ?_
  obtain ⟨x16,hx16,h17⟩:=aE h15
  refine gV (aX (v:=aO) r (lV hx16) ⟨lr,lr,trivial⟩ r r r)<|sV (v:=aO) r<|aF (fr':=[(3,.box 0 0),(5,aO)]) r r<|aH<|mV (v:=aO) r<|aM r (bD tV r)<|aM r (cN (us:=bL) fM r r r r) ?_
  obtain ⟨x18,hx18,h19⟩:=aE h17
  refine gV (aX (v:=aO) r (aF2 hx18) ⟨lr,(bK r ⟨r,r,r,r,r,trivial⟩),trivial⟩ r r r)<|sV (v:=aO) r<|aF (fr':=[(3,.box 0 0),(5,aO)]) r r<|aH<|mV (v:=aO) r<|aM r (bD rW r)<|aM r (cN (us:=bZ) wH r r r r) ?_
  obtain ⟨x20,hx20,h21⟩:=aE h19
  refine gV (aX (v:=aO) r (aA7 hx20) ⟨lr,(bK r ⟨r,r,r,r,r,r,r,r,r,r,trivial⟩),trivial⟩ r r r)<|sV (v:=aO) r<|aF (fr':=[(4,aO)]) r r<|bC ?_
  obtain rfl:=sy h21
  exact bB (rs':=[.tmp 4]) r<|bH (v:=aO) r<|aZ<|aN [800] r r r lr aA
noncomputable def jD (p0b:(List UInt8)) (p1e:bI):Option Bool :=
 ((cond (decide ((50:Int)<((p0b).length:Int))) ((iH).bind fun x5=>some (Fl.done x5)) ((nL ([p1e]:List bI)).bind fun x9=>cond x9 ((iH).bind fun x12=>some (Fl.done x12)) (some (Fl.go ())))):Option (Fl Bool Unit)).bind fun x1=>Fl.next x1 (fun j3=>((jG p0b p1e).bind fun x17=>(qS p0b p1e).bind fun x19=>(sJ x17 x19).bind fun x21=>(gd (x21==true) (iH)).bind fun x23=>some (cond x21 x23 false)))
theorem yY {p0b:(List UInt8)}{p1e:bI}{res:Bool} (h:jD p0b p1e=some res):bS Tryz.prog 3 [.c (PV.ls 1 dF p0b),.agg (AV.cs (cD p1e))] [] (.c (.bool res)) []:=by
 unfold jD at h
 refine cJ (fn:=Tryz.f3) [0,1,3,4,12] (by kernel_rfl) Tryz.func3 r (by kernel_rfl) (by kernel_rfl)<|aH<|fS (v:=.agg aD) (n:=0) (cs:=aD) (σ':=[aD]) r r r r r<|sB r<|aF (fr':=[(0,aL),(3,.box 0 0)]) r r ?_
 obtain ⟨x1,hx1,h2⟩:=aE h
 refine fY (fun j3=>x1=Fl.go j3) (fun (j3:Unit)=>([(0,.c (PV.ls 1 dF p0b)),(3,.box 0 0)]:Fr)) (fun (j3:Unit)=>([[ci p1e.ID,ci p1e.Kind,ci p1e.Time,ci p1e.Seq,ci p1e.Ref,ci p1e.N,ci p1e.Code,.c (.str p1e.Name),.c (.str p1e.Key),ci p1e.Data.Kind,ci p1e.Data.Int,.c (.str p1e.Data.Text),.c (PV.ls 5 bF p1e.Data.Items),.c (PV.ls 1 eA p1e.Data.Keys),.c (.str p1e.Opts.Queue),ci p1e.Opts.ToStart,ci p1e.Opts.ToClose,ci p1e.Opts.Total,ci p1e.Opts.Beat,ci p1e.Opts.First,ci p1e.Opts.Coef,ci p1e.Opts.Most,ci p1e.Opts.Attempts,.c (PV.ls 1 eA p1e.Opts.Fatal)]]:St)) ?_ ?_
 ·
  refine aH<|mL r<|aM r (dI sD (cC r))<|aM r (kA r r)<|mB r<|aKt hx1 (fun hb4 h4=>?_) (fun hb4 h4=>?_)
  ·
   refine rZ r r hb4<|rZ r r hb4<|rZ r r hb4<|aM r (vI r hb4 r)<|aF (fr':=[(0,aL),(3,.box 0 0),(12,aB)]) r r<|fL r<|aP<|aQ ?_
   obtain ⟨x5,hx5,h6⟩:=aE h4
   refine gV (aX (v:=aB) r (iQ hx5) trivial r r r)<|sB r<|aF (fr':=[(4,aB)]) r r<|bC<|aJ ?_
   have h7:=dQ h6 h2
   obtain rfl:=sy h7
   exact bB (rs':=[.tmp 4]) r<|bH (v:=aB) r<|aZ<|aN [] r r r lr aA
  ·
   refine kG r r hb4<|aM r (cN (us:=aD) qF r r r r)<|kG r r hb4<|kT (row:=cD) (xs:=([p1e]:List bI)) (rows:=[[_,_,_,_,_,_,_,_,_,_,_,_,_,_,_,_,_,_,_,_,_,_,_,_]]) (σ':=[aD]) [0,0,0,0,0,0,0,0,0,0,0,0,5,1,0,0,0,0,0,0,0,0,0,1] aEe r r r (cM r gY) r r<|kG r r hb4 ?_
   obtain ⟨x9,hx9,h10⟩:=aE h4
   refine gV (aX (v:=aB) r (yF hx9) ⟨lr,trivial⟩ r r r)<|aM r (nE r hb4 r)<|aF (fr':=[(0,aL),(3,.box 0 0),(12,aB)]) r r<|bP h10 r (fun hb11 h11=>?_) (fun hb11 h11=>?_)
   ·
    refine aP<|aQ ?_
    obtain ⟨x12,hx12,h13⟩:=aE h11
    refine gV (aX (v:=aB) r (iQ hx12) trivial r r r)<|sB r<|aF (fr':=[(4,aB)]) r r<|bC<|aJ ?_
    have h14:=dQ h13 h2
    obtain rfl:=sy h14
    exact bB (rs':=[.tmp 4]) r<|bH (v:=aB) r<|aZ<|aN [] r r r lr aA
   ·
    exact aW<|gD _ (sy h11) (aU [] 1 r r r r ⟨lr,lr,trivial⟩ (bW r aA))
 ·
  intro j3 hj16
  have h16:=iC hj16 h2
  refine aP<|hF [.q 0,.q 1,.q 2,.q 3,.q 4,.q 5,.q 6,.q 7,.q 8,.q 9,.n 10 []] [(some 14,[0]),(some 15,[3]),(some 16,[14,15]),(some 17,[0]),(some 18,[3]),(some 19,[17,18]),(some 20,[16,19]),(some 21,[20]),(some 22,[21]),(some 23,[21,22]),(some 4,[23])] [0,0,3,0,0,31,63,127,255,511,1023] (by kernel_rfl)<|dq r r (bE (v:=aL) r)<|dq r r (cN (us:=aD) qF r r r r) ?_
  obtain ⟨x17,hx17,h18⟩:=aE h16
  refine d_q r (pD (v:=aL) r (sF hx17) ⟨lr,(bK r ⟨r,r,r,r,r,r,r,r,r,r,r,r,r,r,r,r,r,r,r,r,r,r,r,r,trivial⟩),trivial⟩ r)<|dq r r (bE (v:=aL) r)<|dq r r (cN (us:=aD) qF r r r r) ?_
  obtain ⟨x19,hx19,h20⟩:=aE h18
  refine d_q r (pD (v:=aL) r (aA8 hx19) ⟨lr,(bK r ⟨r,r,r,r,r,r,r,r,r,r,r,r,r,r,r,r,r,r,r,r,r,r,r,r,trivial⟩),trivial⟩ r) ?_
  obtain ⟨x21,hx21,h22⟩:=aE h20
  refine d_q r (pD (v:=aB) r (aBL hx21) ⟨lr,lr,trivial⟩ r)<|dq r r (bE (v:=aB) r) ?_
  obtain ⟨x23,hx23,h24⟩:=aE h22
  refine d_g r r r (fun hc=>pD (v:=aB) r (iQ (cA hx23 hc)) trivial r)<|dq r r (bO r r r (fun e=>eO e))<|d_n r ?_ r
  refine sB r<|aCI<|⟨tD,?_⟩
  refine uE (fr':=[(4,aB)]) r r<|bC ?_
  obtain rfl:=sy h24
  exact bB (rs':=[.tmp 4]) r<|bH (v:=aB) r<|aZ<|aN [] r r r lr aA
noncomputable def nG (p0n:Int) (nC:Int) (jK:Int):Option Bool :=
 some (cond (decide (nC≤p0n)) (decide (p0n≤jK)) false)
theorem nY {p0n:Int}{nC:Int}{jK:Int}{res:Bool} (h:nG p0n nC jK=some res):bS Tryz.prog 81 [ci p0n,ci nC,ci jK] [] (.c (.bool res)) []:=by
 unfold nG at h
 refine cJ (fn:=Tryz.f81) [0,1,2,6] (by kernel_rfl) Tryz.func81 r (by kernel_rfl) (by kernel_rfl)<|aH<|sB r<|aF (fr':=[(0,aI),(1,aI),(2,aI)]) r r<|aH<|mI r<|mI r<|aM r (nM r r)<|mB r<|og r r r (fun hc=>(bE (v:=aI) r))<|og r r r (fun hc=>(bE (v:=aI) r)) ?_
 refine og r r r (fun hc=>(nD (gx r hc) (gx r hc)))<|aM r (bO r r r (fun e=>eO e))<|sB r<|aF (fr':=[(6,aB)]) r r<|bC ?_
 obtain rfl:=sy h
 exact bB (rs':=[.tmp 6]) r<|bH (v:=aB) r<|aZ<|aN [] r r r lr aA
noncomputable def tI (p0v:aC) (s6:Int):Option (cI Int (Fl Bool Unit)) :=
 cond (decide (s6<((p0v.Keys).length:Int))) ((hG p0v.Keys s6).bind fun x8=>cond (decide ((4096:Int)<((x8).length:Int))) (some (cI.out (Fl.done false))) (some (cI.next (IntKind.wrap .i64 (s6+(1:Int)))))) (some (cI.out (Fl.go ())))
noncomputable def tJ (aD9:aC→Option Bool) (p0v:aC) (s19:Int):Option (cI Int (Fl Bool Unit)) :=
 cond (decide (s19<((p0v.Items).length:Int))) ((hG p0v.Items s19).bind fun x21=>(aD9 x21).bind fun x23=>cond (!x23) (some (cI.out (Fl.done false))) (some (cI.next (IntKind.wrap .i64 (s19+(1:Int)))))) (some (cI.out (Fl.go ())))
noncomputable def nR:Nat→aC→Option Bool
 | 0,_=>none
 | n+1,p0v =>
  cond (decide ((4096:Int)<((p0v.Text).length:Int))) (some false) (((dR (tI p0v) ((0:Int))):Option (Fl Bool Unit)).bind fun x3=>Fl.next x3 (fun j5=>(((dR (tJ (nR n) p0v) ((0:Int))):Option (Fl Bool Unit)).bind fun x16=>Fl.next x16 (fun j18=>(some true)))))
theorem aFY:∀ n:Nat,(∀ {p0v:aC}{res:Bool},nR n p0v=some res→bS Tryz.prog 201 [.agg (AV.cs (cQ p0v))] [] (.c (.bool res)) []):=by
 intro n
 induction n with
 | zero=>exact fun {p0v res} h=>absurd h (by simp [nR])
 | succ n ih =>
  have ih_ref02xShort:=@ih
  intro p0v res h
  rw [nR] at h
  refine cJ (fn:=Tryz.f201) [0,1,2,3,4,8,13,22,27,36] (by kernel_rfl) Tryz.func201 r (by kernel_rfl) (by kernel_rfl)<|aH<|fS (v:=.agg bL) (n:=0) (cs:=bL) (σ':=[bL]) r r r r r<|sB r<|aF (fr':=[(1,.box 0 0)]) r r<|aP<|aH<|aM r (bD lT r)<|aM r (aK (v:=aS) kD r r r)<|aM r (gL pJ r)<|aM r (kA r r) ?_
  refine aF (fr':=[(1,.box 0 0),(8,aB)]) r r<|bP h r (fun hb1 h1=>?_) (fun hb1 h1=>?_)
  ·
   refine aH<|sB r<|aF (fr':=[(2,aB)]) r r<|bC<|aJ ?_
   obtain rfl:=sy h1
   exact bB (rs':=[.tmp 2]) r<|bH (v:=aB) r<|aZ<|aN [] r r r lr aA
  ·
   refine aW<|bV<|aP<|aH<|sI r<|aF (fr':=[(1,.box 0 0),(3,aI)]) r r ?_
   obtain ⟨x3,hx3,h4⟩:=aE h1
   refine eB gF (fun j5=>x3=Fl.go j5) (fun (j5:Unit)=>([(1,.box 0 0)]:Fr)) (fun (j5:Unit)=>([[ci p0v.Kind,ci p0v.Int,.c (.str p0v.Text),.c (PV.ls 5 bF p0v.Items),.c (PV.ls 1 eA p0v.Keys)]]:St)) ?_ ?_
   ·
    refine bJ<|dV _ (fun (s6:Int)=>([(1,.box 0 0),(3,ci s6)]:Fr)) (fun (s6:Int)=>([[ci p0v.Kind,ci p0v.Int,.c (.str p0v.Text),.c (PV.ls 5 bF p0v.Items),.c (PV.ls 1 eA p0v.Keys)]]:St)) hx3 (aU [] 1 r r r r ⟨lr,lr,trivial⟩ (bW r aA)) ?_
    intro s6 st6 hs6 ho6
    unfold tI at hs6
    refine aP<|aH<|mI r<|aM r (bD jA r)<|aM r (aK (v:=aL) kM r r r)<|aM r (dI pI (cC r))<|aM r (dJ r r)<|aF (fr':=[(1,.box 0 0),(3,aI),(13,aB)]) r r<|bP hs6 r (fun hb7 h7=>?_) (fun hb7 h7=>?_)
    ·
     refine aW<|bV<|aP<|bJ<|aH<|aM r (bD jA r)<|aM r (aK (v:=aL) kM r r r)<|mI r ?_
     obtain ⟨x8,hx8,h9⟩:=aE h7
     refine aM r (gR (cs:=[PV.str _]) vV (cC r) r hx8 r)<|aM r (eG (p:=PV.str _) kD r r)<|aM r (gL pJ r)<|aM r (kA r r)<|aF (fr':=[(1,.box 0 0),(3,aI),(22,aB)]) r r<|bP h9 r (fun hb10 h10=>?_) (fun hb10 h10=>?_)
     ·
      refine aH<|sB r<|aF (fr':=[(2,aB)]) r r<|bC<|bA<|aJ<|aJ<|bA<|aJ<|aJ ?_
      have h11:=cS h10 ho6
      have h12:=dQ h11 h4
      obtain rfl:=sy h12
      exact bB (rs':=[.tmp 2]) r<|bH (v:=aB) r<|aZ<|aN [] r r r lr aA
     ·
      exact aW<|bX<|bV<|aQ<|mI r<|aM r (dB r r)<|sI r<|cB (fr':=[(1,.box 0 0),(3,aI),(22,aB)]) r<|rX _ (sy h10) (aU [] 1 r r r r ⟨lr,lr,trivial⟩ (bW r aA))
    ·
     refine eK<|bR<|bR<|dC ?_
     have h14:=cS h7 ho6
     exact gD _ (sy h14) (aU [] 1 r r r r ⟨lr,trivial⟩ (bW r aA))
   ·
    intro j5 hj15
    have h15:=iC hj15 h4
    refine bV<|aP<|aH<|sI r<|aF (fr':=[(1,.box 0 0),(4,aI)]) r r ?_
    obtain ⟨x16,hx16,h17⟩:=aE h15
    refine eB gF (fun j18=>x16=Fl.go j18) (fun (j18:Unit)=>([]:Fr)) (fun (j18:Unit)=>([[ci p0v.Kind,ci p0v.Int,.c (.str p0v.Text),.c (PV.ls 5 bF p0v.Items),.c (PV.ls 1 eA p0v.Keys)]]:St)) ?_ ?_
    ·
     refine bJ<|dV _ (fun (s19:Int)=>([(1,.box 0 0),(4,ci s19)]:Fr)) (fun (s19:Int)=>([[ci p0v.Kind,ci p0v.Int,.c (.str p0v.Text),.c (PV.ls 5 bF p0v.Items),.c (PV.ls 1 eA p0v.Keys)]]:St)) hx16 (aU [] 1 r r r r ⟨lr,lr,trivial⟩ (bW r aA)) ?_
     intro s19 st19 hs19 ho19
     unfold tJ at hs19
     refine aP<|aH<|mI r<|aM r (bD eJ r)<|aM r (aK (v:=aL) iF r r r)<|aM r (dI nH (cC r))<|aM r (dJ r r)<|aF (fr':=[(1,.box 0 0),(4,aI),(27,aB)]) r r<|bP hs19 r (fun hb20 h20=>?_) (fun hb20 h20=>?_)
     ·
      refine aW<|bV<|aP<|bJ<|aH<|aM r (bD eJ r)<|aM r (aK (v:=aL) iF r r r)<|mI r ?_
      obtain ⟨x21,hx21,h22⟩:=aE h20
      refine aM r (gR (cs:=[PV.int _ _,PV.int _ _,PV.str _,PV.ls _ _ _,PV.ls _ _ _]) mP (cC r) r hx21 (cE _))<|aM r (gM (us:=[PV.int _ _,PV.int _ _,PV.str _,PV.ls _ _ _,PV.ls _ _ _]) fM r r r) ?_
      obtain ⟨x23,hx23,h24⟩:=aE h22
      refine gV (aX (v:=aB) r (ih_ref02xShort hx23) ⟨(bK r ⟨r,r,r,r,r,trivial⟩),trivial⟩ r r r)<|aM r (eI r)<|aF (fr':=[(1,.box 0 0),(4,aI),(36,aB)]) r r<|bP h24 r (fun hb25 h25=>?_) (fun hb25 h25=>?_)
      ·
       refine aH<|sB r<|aF (fr':=[(2,aB)]) r r<|bC<|bA<|aJ<|aJ<|bA<|aJ<|aJ ?_
       have h26:=cS h25 ho19
       have h27:=dQ h26 h17
       obtain rfl:=sy h27
       exact bB (rs':=[.tmp 2]) r<|bH (v:=aB) r<|aZ<|aN [] r r r lr aA
      ·
       exact aW<|bX<|bV<|aQ<|mI r<|aM r (dB r r)<|sI r<|cB (fr':=[(1,.box 0 0),(4,aI),(36,aB)]) r<|rX _ (sy h25) (aU [] 1 r r r r ⟨lr,lr,trivial⟩ (bW r aA))
     ·
      refine eK<|bR<|bR<|dC ?_
      have h29:=cS h20 ho19
      exact gD _ (sy h29) (aU [] 1 r r r r trivial (bW r aA))
    ·
     intro j18 hj30
     have h30:=iC hj30 h17
     refine bV<|aH<|sB r<|aF (fr':=[(2,aB)]) r r<|bC ?_
     obtain rfl:=sy h30
     exact bB (rs':=[.tmp 2]) r<|bH (v:=aB) r<|aZ<|aN [] r r r lr aA
noncomputable def aAO (p0v:aC):Option Bool:=lim fun n=>nR n p0v
theorem aGH {p0v:aC}{res:Bool} (h:aAO p0v=some res):bS Tryz.prog 201 [.agg (AV.cs (cQ p0v))] [] (.c (.bool res)) []:=by
 obtain ⟨n,hn⟩:=jZ h
 exact (aFY n) hn
noncomputable def tF (aD8:aC→Option Int) (p0v:aC) (s4:(Int × Int)):Option (cI (Int × Int) Int) :=
 cond (decide (s4.2<((p0v.Items).length:Int))) ((hG p0v.Items s4.2).bind fun x6=>(aD8 x6).bind fun x8=>cond (decide (s4.1<x8)) (some (cI.next (x8,(IntKind.wrap .i64 (s4.2+(1:Int)))))) (some (cI.next (s4.1,(IntKind.wrap .i64 (s4.2+(1:Int))))))) (some (cI.out s4.1))
noncomputable def nQ:Nat→aC→Option Int
 | 0,_=>none
 | n+1,p0v =>
  ((dR (tF (nQ n) p0v) (((0:Int),(0:Int)))):Option Int).bind fun x1=>(some (IntKind.wrap .i64 (x1+(1:Int))))
theorem aFX:∀ n:Nat,(∀ {p0v:aC}{res:Int},nQ n p0v=some res→bS Tryz.prog 202 [.agg (AV.cs (cQ p0v))] [] (ci res) []):=by
 intro n
 induction n with
 | zero=>exact fun {p0v res} h=>absurd h (by simp [nQ])
 | succ n ih =>
  have ih_ref02xDepth:=@ih
  intro p0v res h
  rw [nQ] at h
  refine cJ (fn:=Tryz.f202) [0,1,2,3,4,5,10,21] (by kernel_rfl) Tryz.func202 r (by kernel_rfl) (by kernel_rfl)<|aH<|fS (v:=.agg bL) (n:=0) (cs:=bL) (σ':=[bL]) r r r r r<|sI r<|aF (fr':=[(1,.box 0 0)]) r r<|aH<|sI r<|aF (fr':=[(1,.box 0 0),(3,aI)]) r r<|aP<|aP<|aQ ?_
  refine sI r<|aF (fr':=[(1,.box 0 0),(3,aI),(4,aI)]) r r ?_
  obtain ⟨x1,hx1,h2⟩:=aE h
  refine eB gF (fun j3=>x1=j3) (fun (j3:Int)=>([(3,ci j3)]:Fr)) (fun (j3:Int)=>([[ci p0v.Kind,ci p0v.Int,.c (.str p0v.Text),.c (PV.ls 5 bF p0v.Items),.c (PV.ls 1 eA p0v.Keys)]]:St)) ?_ ?_
  ·
   refine bJ<|dV _ (fun (s4:(Int × Int))=>([(1,.box 0 0),(3,ci s4.1),(4,ci s4.2)]:Fr)) (fun (s4:(Int × Int))=>([[ci p0v.Kind,ci p0v.Int,.c (.str p0v.Text),.c (PV.ls 5 bF p0v.Items),.c (PV.ls 1 eA p0v.Keys)]]:St)) hx1 (aU [] 1 r r r r ⟨lr,lr,lr,trivial⟩ (bW r aA)) ?_
   intro s4 st4 hs4 ho4
   unfold tF at hs4
   refine aP<|aH<|mI r<|aM r (bD eJ r)<|aM r (aK (v:=aL) iF r r r)<|aM r (dI nH (cC r))<|aM r (dJ r r)<|aF (fr':=[(1,.box 0 0),(3,aI),(4,aI),(10,aB)]) r r<|bP hs4 r (fun hb5 h5=>?_) (fun hb5 h5=>?_)
   ·
    refine aW<|bV<|aP<|bJ<|aH<|aM r (bD eJ r)<|aM r (aK (v:=aL) iF r r r)<|mI r ?_
    obtain ⟨x6,hx6,h7⟩:=aE h5
    refine aM r (gR (cs:=[PV.int _ _,PV.int _ _,PV.str _,PV.ls _ _ _,PV.ls _ _ _]) mP (cC r) r hx6 (cE _))<|aM r (gM (us:=[PV.int _ _,PV.int _ _,PV.str _,PV.ls _ _ _,PV.ls _ _ _]) fM r r r) ?_
    obtain ⟨x8,hx8,h9⟩:=aE h7
    refine gV (aX (v:=aI) r (ih_ref02xDepth hx8) ⟨(bK r ⟨r,r,r,r,r,trivial⟩),trivial⟩ r r r)<|sI r<|aF (fr':=[(1,.box 0 0),(3,aI),(4,aI),(5,aI)]) r r<|aH<|mI r<|mI r<|aM r (kA r r)<|aF (fr':=[(1,.box 0 0),(3,aI),(4,aI),(5,aI),(21,aB)]) r r<|bP h9 r (fun hb10 h10=>?_) (fun hb10 h10=>?_)
    ·
     exact aQ<|mI r<|sI r<|cB (fr':=[(1,.box 0 0),(3,aI),(4,aI),(5,aI),(21,aB)]) r<|bX<|bV<|aQ<|mI r<|aM r (dB r r)<|sI r<|cB (fr':=[(1,.box 0 0),(3,aI),(4,aI),(5,aI),(21,aB)]) r<|rX _ (sy h10) (aU [] 1 r r r r ⟨lr,lr,lr,trivial⟩ (bW r aA))
    ·
     exact aW<|bX<|bV<|aQ<|mI r<|aM r (dB r r)<|sI r<|cB (fr':=[(1,.box 0 0),(3,aI),(4,aI),(5,aI),(21,aB)]) r<|rX _ (sy h10) (aU [] 1 r r r r ⟨lr,lr,lr,trivial⟩ (bW r aA))
   ·
    refine eK<|bR<|bR<|dC ?_
    have h11:=cS h5 ho4
    exact gD _ (sy h11) (aU [] 1 r r r r ⟨lr,trivial⟩ (bW r aA))
  ·
   intro j3 hj12
   subst hj12
   refine bV<|aH<|mI r<|aM r (dB r r)<|sI r<|aF (fr':=[(2,aI)]) r r<|bC ?_
   obtain rfl:=sy h2
   exact bB (rs':=[.tmp 2]) r<|bH (v:=aI) r<|aZ<|aN [] r r r lr aA
noncomputable def aAN (p0v:aC):Option Int:=lim fun n=>nQ n p0v
theorem aGG {p0v:aC}{res:Int} (h:aAN p0v=some res):bS Tryz.prog 202 [.agg (AV.cs (cQ p0v))] [] (ci res) []:=by
 obtain ⟨n,hn⟩:=jZ h
 exact (aFX n) hn
noncomputable def uV (aFA:aC→Option Int) (p0v:aC) (s4:(Int × Int)):Option (cI (Int × Int) Int) :=
 cond (decide (s4.2<((p0v.Items).length:Int))) ((hG p0v.Items s4.2).bind fun x6=>(aFA x6).bind fun x8=>some (cI.next ((IntKind.wrap .i64 (s4.1+x8)),(IntKind.wrap .i64 (s4.2+(1:Int)))))) (some (cI.out s4.1))
noncomputable def pX:Nat→aC→Option Int
 | 0,_=>none
 | n+1,p0v =>
  ((dR (uV (pX n) p0v) (((1:Int),(0:Int)))):Option Int).bind fun x1=>(some x1)
theorem aGB:∀ n:Nat,(∀ {p0v:aC}{res:Int},pX n p0v=some res→bS Tryz.prog 203 [.agg (AV.cs (cQ p0v))] [] (ci res) []):=by
 intro n
 induction n with
 | zero=>exact fun {p0v res} h=>absurd h (by simp [pX])
 | succ n ih =>
  have ih_ref02xSize:=@ih
  intro p0v res h
  rw [pX] at h
  refine cJ (fn:=Tryz.f203) [0,1,2,3,4,9] (by kernel_rfl) Tryz.func203 r (by kernel_rfl) (by kernel_rfl)<|aH<|fS (v:=.agg bL) (n:=0) (cs:=bL) (σ':=[bL]) r r r r r<|sI r<|aF (fr':=[(1,.box 0 0)]) r r<|aH<|sI r<|aF (fr':=[(1,.box 0 0),(3,aI)]) r r<|aP<|aP<|aQ ?_
  refine sI r<|aF (fr':=[(1,.box 0 0),(3,aI),(4,aI)]) r r ?_
  obtain ⟨x1,hx1,h2⟩:=aE h
  refine eB gF (fun j3=>x1=j3) (fun (j3:Int)=>([(3,ci j3)]:Fr)) (fun (j3:Int)=>([[ci p0v.Kind,ci p0v.Int,.c (.str p0v.Text),.c (PV.ls 5 bF p0v.Items),.c (PV.ls 1 eA p0v.Keys)]]:St)) ?_ ?_
  ·
   refine bJ<|dV _ (fun (s4:(Int × Int))=>([(1,.box 0 0),(3,ci s4.1),(4,ci s4.2)]:Fr)) (fun (s4:(Int × Int))=>([[ci p0v.Kind,ci p0v.Int,.c (.str p0v.Text),.c (PV.ls 5 bF p0v.Items),.c (PV.ls 1 eA p0v.Keys)]]:St)) hx1 (aU [] 1 r r r r ⟨lr,lr,lr,trivial⟩ (bW r aA)) ?_
   intro s4 st4 hs4 ho4
   unfold uV at hs4
   refine aP<|aH<|mI r<|aM r (bD eJ r)<|aM r (aK (v:=aL) iF r r r)<|aM r (dI nH (cC r))<|aM r (dJ r r)<|aF (fr':=[(1,.box 0 0),(3,aI),(4,aI),(9,aB)]) r r<|bP hs4 r (fun hb5 h5=>?_) (fun hb5 h5=>?_)
   ·
    refine aW<|bV<|aP<|bJ<|aQ<|mI r<|aM r (bD eJ r)<|aM r (aK (v:=aL) iF r r r)<|mI r ?_
    obtain ⟨x6,hx6,h7⟩:=aE h5
    refine aM r (gR (cs:=[PV.int _ _,PV.int _ _,PV.str _,PV.ls _ _ _,PV.ls _ _ _]) mP (cC r) r hx6 (cE _))<|aM r (gM (us:=[PV.int _ _,PV.int _ _,PV.str _,PV.ls _ _ _,PV.ls _ _ _]) fM r r r) ?_
    obtain ⟨x8,hx8,h9⟩:=aE h7
    exact gV (aX (v:=aI) r (ih_ref02xSize hx8) ⟨(bK r ⟨r,r,r,r,r,trivial⟩),trivial⟩ r r r)<|aM r (dB r r)<|sI r<|cB (fr':=[(1,.box 0 0),(3,aI),(4,aI),(9,aB)]) r<|bX<|bV<|aQ<|mI r<|aM r (dB r r)<|sI r<|cB (fr':=[(1,.box 0 0),(3,aI),(4,aI),(9,aB)]) r<|rX _ (sy h9) (aU [] 1 r r r r ⟨lr,lr,lr,trivial⟩ (bW r aA))
   ·
    refine eK<|bR<|bR<|dC ?_
    have h10:=cS h5 ho4
    exact gD _ (sy h10) (aU [] 1 r r r r ⟨lr,trivial⟩ (bW r aA))
  ·
   intro j3 hj11
   subst hj11
   refine bV<|aH<|mI r<|sI r<|aF (fr':=[(2,aI)]) r r<|bC ?_
   obtain rfl:=sy h2
   exact bB (rs':=[.tmp 2]) r<|bH (v:=aI) r<|aZ<|aN [] r r r lr aA
noncomputable def aB4 (p0v:aC):Option Int:=lim fun n=>pX n p0v
theorem aId {p0v:aC}{res:Int} (h:aB4 p0v=some res):bS Tryz.prog 203 [.agg (AV.cs (cQ p0v))] [] (ci res) []:=by
 obtain ⟨n,hn⟩:=jZ h
 exact (aGB n) hn
noncomputable def tK (p0v:aC):Option Bool :=
 (aAO p0v).bind fun x1=>(gd (x1==true) (aAN p0v)).bind fun x3=>(gd ((cond x1 (decide (x3≤(16:Int))) false)==true) (aB4 p0v)).bind fun x5=>some (cond (cond x1 (decide (x3≤(16:Int))) false) (decide (x5≤(1000:Int))) false)
theorem aF5 {p0v:aC}{res:Bool} (h:tK p0v=some res):bS Tryz.prog 169 [.agg (AV.cs (cQ p0v))] [] (.c (.bool res)) []:=by
 unfold tK at h
 refine cJ (fn:=Tryz.f169) [0,1,2] (by kernel_rfl) Tryz.func169 r (by kernel_rfl) (by kernel_rfl)<|aH<|fS (v:=.agg bL) (n:=0) (cs:=bL) (σ':=[bL]) r r r r r<|sB r<|aF (fr':=[(1,.box 0 0)]) r r<|aH<|aM r (cN (us:=bL) fM r r r r) ?_
 obtain ⟨x1,hx1,h2⟩:=aE h
 refine gV (aX (v:=aB) r (aGH hx1) ⟨(bK r ⟨r,r,r,r,r,trivial⟩),trivial⟩ r r r)<|mB r<|og r r r (fun hc=>(cN (us:=bL) fM r r r r)) ?_
 obtain ⟨x3,hx3,h4⟩:=aE h2
 refine sM r r (fun hc=>aX (v:=aI) r (aGG (cA hx3 hc)) ⟨(eH (gx r hc) (bK r ⟨r,r,r,r,r,trivial⟩)),trivial⟩ (fA (by repeat (first | exact dX | refine aY r ?_ | refine aY (oS r) ?_ | refine aY oR ?_))) r r) ?_
 refine og r r r (fun hc=>(nD (gx r hc) r))<|aM r (bO r r r (fun e=>eO e))<|mB r<|og r r r (fun hc=>(cN (us:=bL) fM r r r r)) ?_
 obtain ⟨x5,hx5,h6⟩:=aE h4
 refine sM r r (fun hc=>aX (v:=aI) r (aId (cA hx5 hc)) ⟨(eH (gx r hc) (bK r ⟨r,r,r,r,r,trivial⟩)),trivial⟩ (fA (by repeat (first | exact dX | refine aY r ?_ | refine aY (oS r) ?_ | refine aY oR ?_))) r r) ?_
 refine og r r r (fun hc=>(nD (gx r hc) r))<|aM r (bO r r r (fun e=>eO e))<|sB r<|aF (fr':=[(2,aB)]) r r<|bC ?_
 obtain rfl:=sy h6
 exact bB (rs':=[.tmp 2]) r<|bH (v:=aB) r<|aZ<|aN [] r r r lr aA
noncomputable def rR (aDu:aC→Option Bool) (p0v:aC) (s4:Int):Option (cI Int (Fl Bool Unit)) :=
 cond (decide (s4<((p0v.Items).length:Int))) ((hG p0v.Items s4).bind fun x6=>(aDu x6).bind fun x8=>cond x8 (some (cI.out (Fl.done true))) (some (cI.next (IntKind.wrap .i64 (s4+(1:Int)))))) (some (cI.out (Fl.go ())))
noncomputable def mK:Nat→aC→Option Bool
 | 0,_=>none
 | n+1,p0v =>
  ((dR (rR (mK n) p0v) ((0:Int))):Option (Fl Bool Unit)).bind fun x1=>Fl.next x1 (fun j3=>(some (decide (p0v.Kind=(6:Int)))))
theorem aEi:∀ n:Nat,(∀ {p0v:aC}{res:Bool},mK n p0v=some res→bS Tryz.prog 170 [.agg (AV.cs (cQ p0v))] [] (.c (.bool res)) []):=by
 intro n
 induction n with
 | zero=>exact fun {p0v res} h=>absurd h (by simp [mK])
 | succ n ih =>
  have ih_ref02xFuture:=@ih
  intro p0v res h
  rw [mK] at h
  refine cJ (fn:=Tryz.f170) [0,1,2,3,8,16] (by kernel_rfl) Tryz.func170 r (by kernel_rfl) (by kernel_rfl)<|aH<|fS (v:=.agg bL) (n:=0) (cs:=bL) (σ':=[bL]) r r r r r<|sB r<|aF (fr':=[(1,.box 0 0)]) r r<|aP<|aH<|sI r<|aF (fr':=[(1,.box 0 0),(3,aI)]) r r ?_
  obtain ⟨x1,hx1,h2⟩:=aE h
  refine eB gF (fun j3=>x1=Fl.go j3) (fun (j3:Unit)=>([(1,.box 0 0)]:Fr)) (fun (j3:Unit)=>([[ci p0v.Kind,ci p0v.Int,.c (.str p0v.Text),.c (PV.ls 5 bF p0v.Items),.c (PV.ls 1 eA p0v.Keys)]]:St)) ?_ ?_
  ·
   refine bJ<|dV _ (fun (s4:Int)=>([(1,.box 0 0),(3,ci s4)]:Fr)) (fun (s4:Int)=>([[ci p0v.Kind,ci p0v.Int,.c (.str p0v.Text),.c (PV.ls 5 bF p0v.Items),.c (PV.ls 1 eA p0v.Keys)]]:St)) hx1 (aU [] 1 r r r r ⟨lr,lr,trivial⟩ (bW r aA)) ?_
   intro s4 st4 hs4 ho4
   unfold rR at hs4
   refine aP<|aH<|mI r<|aM r (bD eJ r)<|aM r (aK (v:=aL) iF r r r)<|aM r (dI nH (cC r))<|aM r (dJ r r)<|aF (fr':=[(1,.box 0 0),(3,aI),(8,aB)]) r r<|bP hs4 r (fun hb5 h5=>?_) (fun hb5 h5=>?_)
   ·
    refine aW<|bV<|aP<|bJ<|aH<|aM r (bD eJ r)<|aM r (aK (v:=aL) iF r r r)<|mI r ?_
    obtain ⟨x6,hx6,h7⟩:=aE h5
    refine aM r (gR (cs:=[PV.int _ _,PV.int _ _,PV.str _,PV.ls _ _ _,PV.ls _ _ _]) mP (cC r) r hx6 (cE _))<|aM r (gM (us:=[PV.int _ _,PV.int _ _,PV.str _,PV.ls _ _ _,PV.ls _ _ _]) fM r r r) ?_
    obtain ⟨x8,hx8,h9⟩:=aE h7
    refine gV (aX (v:=aB) r (ih_ref02xFuture hx8) ⟨(bK r ⟨r,r,r,r,r,trivial⟩),trivial⟩ r r r)<|aF (fr':=[(1,.box 0 0),(3,aI),(16,aB)]) r r<|bP h9 r (fun hb10 h10=>?_) (fun hb10 h10=>?_)
    ·
     refine aH<|sB r<|aF (fr':=[(2,aB)]) r r<|bC<|bA<|aJ<|aJ<|bA<|aJ<|aJ ?_
     have h11:=cS h10 ho4
     have h12:=dQ h11 h2
     obtain rfl:=sy h12
     exact bB (rs':=[.tmp 2]) r<|bH (v:=aB) r<|aZ<|aN [] r r r lr aA
    ·
     exact aW<|bX<|bV<|aQ<|mI r<|aM r (dB r r)<|sI r<|cB (fr':=[(1,.box 0 0),(3,aI),(16,aB)]) r<|rX _ (sy h10) (aU [] 1 r r r r ⟨lr,lr,trivial⟩ (bW r aA))
   ·
    refine eK<|bR<|bR<|dC ?_
    have h14:=cS h5 ho4
    exact gD _ (sy h14) (aU [] 1 r r r r ⟨lr,trivial⟩ (bW r aA))
  ·
   intro j3 hj15
   have h15:=iC hj15 h2
   refine bV<|aH<|aM r (bD gW r)<|aM r (aK (v:=aI) eP r r r)<|aM r (bM r r)<|sB r<|aF (fr':=[(2,aB)]) r r<|bC ?_
   obtain rfl:=sy h15
   exact bB (rs':=[.tmp 2]) r<|bH (v:=aB) r<|aZ<|aN [] r r r lr aA
noncomputable def zR (p0v:aC):Option Bool:=lim fun n=>mK n p0v
theorem aF3 {p0v:aC}{res:Bool} (h:zR p0v=some res):bS Tryz.prog 170 [.agg (AV.cs (cQ p0v))] [] (.c (.bool res)) []:=by
 obtain ⟨n,hn⟩:=jZ h
 exact (aEi n) hn
noncomputable def pV (p0v:aC):Option Bool :=
 (qO p0v).bind fun x1=>(gd (x1==true) (tK p0v)).bind fun x3=>(gd ((cond x1 x3 false)==true) (zR p0v)).bind fun x5=>some (cond (cond x1 x3 false) (!x5) false)
theorem yG {p0v:aC}{res:Bool} (h:pV p0v=some res):bS Tryz.prog 111 [.agg (AV.cs (cQ p0v))] [] (.c (.bool res)) []:=by
 unfold pV at h
 refine cJ (fn:=Tryz.f111) [0,1,2] (by kernel_rfl) Tryz.func111 r (by kernel_rfl) (by kernel_rfl)<|aH<|fS (v:=.agg bL) (n:=0) (cs:=bL) (σ':=[bL]) r r r r r<|sB r<|aF (fr':=[(1,.box 0 0)]) r r<|aH<|aM r (cN (us:=bL) fM r r r r) ?_
 obtain ⟨x1,hx1,h2⟩:=aE h
 refine gV (aX (v:=aB) r (xL hx1) ⟨(bK r ⟨r,r,r,r,r,trivial⟩),trivial⟩ r r r)<|mB r<|og r r r (fun hc=>(cN (us:=bL) fM r r r r)) ?_
 obtain ⟨x3,hx3,h4⟩:=aE h2
 refine sM r r (fun hc=>aX (v:=aB) r (aF5 (cA hx3 hc)) ⟨(eH (gx r hc) (bK r ⟨r,r,r,r,r,trivial⟩)),trivial⟩ (fA (by repeat (first | exact dX | refine aY r ?_ | refine aY (oS r) ?_ | refine aY oR ?_))) r r) ?_
 refine aM r (bO r r r (fun e=>eO e))<|mB r<|og r r r (fun hc=>(cN (us:=bL) fM r r r r)) ?_
 obtain ⟨x5,hx5,h6⟩:=aE h4
 refine sM r r (fun hc=>aX (v:=aB) r (aF3 (cA hx5 hc)) ⟨(eH (gx r hc) (bK r ⟨r,r,r,r,r,trivial⟩)),trivial⟩ (fA (by repeat (first | exact dX | refine aY r ?_ | refine aY (oS r) ?_ | refine aY oR ?_))) r r) ?_
 refine og r r r (fun hc=>(eI (gx r hc)))<|aM r (bO r r r (fun e=>eO e))<|sB r<|aF (fr':=[(2,aB)]) r r<|bC ?_
 obtain rfl:=sy h6
 exact bB (rs':=[.tmp 2]) r<|bH (v:=aB) r<|aZ<|aN [] r r r lr aA
noncomputable def xC (cF:Int):Option dZ :=
 cond (decide (cF=(1:Int))) (some (dZ.mk false false true false true true true false)) (cond (decide (cF=(2:Int))) (some (dZ.mk false false true false false false false false)) (((cond (decide (cF=(3:Int))) (some (decide (cF=(3:Int)))) (cond (decide (cF=(4:Int))) (some (decide (cF=(4:Int)))) (some (decide (cF=(6:Int)))))):Option Bool).bind fun x5=>(cond x5 (some (dZ.mk false true false false false false false false)) (cond (decide (cF=(5:Int))) (some (dZ.mk false true false true false false false false)) (cond (decide (cF=(8:Int))) (some (dZ.mk true true true false false false false false)) (((cond (decide (cF=(9:Int))) (some (decide (cF=(9:Int)))) (cond (decide (cF=(13:Int))) (some (decide (cF=(13:Int)))) (some (decide (cF=(21:Int)))))):Option Bool).bind fun x17=>(cond x17 (some (dZ.mk true true false false false false true false)) (((cond (decide (cF=(10:Int))) (some (decide (cF=(10:Int)))) (some (decide (cF=(22:Int))))):Option Bool).bind fun x25=>(cond x25 (some (dZ.mk true true false false true false true false)) (cond (decide (cF=(11:Int))) (some (dZ.mk true true false true false false false false)) (((cond (decide (cF=(15:Int))) (some (decide (cF=(15:Int)))) (cond (decide (cF=(24:Int))) (some (decide (cF=(24:Int)))) (cond (decide (cF=(12:Int))) (some (decide (cF=(12:Int)))) (some (decide (cF=(16:Int))))))):Option Bool).bind fun x34=>(cond x34 (some (dZ.mk true true false false false false false false)) (cond (decide (cF=(17:Int))) (some (dZ.mk false false false false true true true false)) (cond (decide (cF=(20:Int))) (some (dZ.mk true true false false false true false false)) (cond (decide (cF=(25:Int))) (some (dZ.mk true true false false true false false false)) (cond (decide (cF=(26:Int))) (some (dZ.mk false false false false false true false false)) (cond (decide (cF=(33:Int))) (some (dZ.mk false false false false true false false false)) (cond (decide (cF=(7:Int))) (some (dZ.mk true false false false true false true true)) (cond (decide (cF=(14:Int))) (some (dZ.mk true false true false false false false false)) (cond (decide (cF=(19:Int))) (some (dZ.mk true false true false true true true false)) (cond (decide (cF=(23:Int))) (some (dZ.mk true false false false true true true false)) (cond (decide (cF=(18:Int))) (some (dZ.mk false false true false true false true false)) (cond (decide (cF=(27:Int))) (some (dZ.mk false false false false true true true false)) (cond (decide (cF=(28:Int))) (some (dZ.mk false false true false false true true false)) (cond (decide (cF=(31:Int))) (some (dZ.mk false false false false true false true false)) (((cond (decide (cF=(29:Int))) (some (decide (cF=(29:Int)))) (cond (decide (cF=(30:Int))) (some (decide (cF=(30:Int)))) (cond (decide (cF=(32:Int))) (some (decide (cF=(32:Int)))) (some (decide (cF=(35:Int))))))):Option Bool).bind fun x69=>(cond x69 (some (dZ.mk false false false false false false true false)) (some (dZ.mk false false false false false false false false)))))))))))))))))))))))))))))
theorem aIh {cF:Int}{res:dZ} (h:xC cF=some res):bS Tryz.prog 153 [ci cF] [] (.agg (AV.cs (aFK res))) []:=by
 unfold xC at h
 refine cJ (fn:=Tryz.f153) [0,2,3,4,7,10,15,18,21,26,30,33,39,42,45,48,51,54,57,60,63,66,69,72,75,78] (by kernel_rfl) Tryz.func153 r (by kernel_rfl) (by kernel_rfl)<|aH<|gC (n:=0) (cs:=aR) (σ':=[aR]) aNN r r r<|aF (fr':=[(0,aI),(2,.box 0 0)]) r r<|aP<|aH<|mI r<|aF (fr':=[(2,.box 0 0),(3,aI)]) r r<|bJ<|aP<|aQ ?_
 refine aM r (bM r r)<|sB r<|aF (fr':=[(2,.box 0 0),(3,aI),(4,aB)]) r r<|bP h r (fun hb1 h1=>?_) (fun hb1 h1=>?_)
 ·
  refine aH<|aM r (dK (cs:=aR) pE r)<|bU (v:=.agg aR) (us:=aR) (cs:=aR) (σ':=[aR]) r hD r r r r r r r r<|aF (fr':=[(2,.box 0 0)]) r r<|bC<|bA<|aJ ?_
  obtain rfl:=sy h1
  exact bB (rs':=[.cell 2 154]) r<|cZ (us:=aR) (cs:=aR) hD r r r r<|aZ<|aN [] r r r (bK r ⟨r,r,r,r,r,r,r,r,trivial⟩) aA
 ·
  refine aH<|aM r (bM r r)<|sB r<|aF (fr':=[(2,.box 0 0),(3,aI),(7,aB)]) r r<|bP h1 r (fun hb3 h3=>?_) (fun hb3 h3=>?_)
  ·
   refine aH<|aM r (dK (cs:=aR) pE r)<|bU (v:=.agg aR) (us:=aR) (cs:=aR) (σ':=[aR]) r hD r r r r r r r r<|aF (fr':=[(2,.box 0 0)]) r r<|bC<|bA<|aJ ?_
   obtain rfl:=sy h3
   exact bB (rs':=[.cell 2 154]) r<|cZ (us:=aR) (cs:=aR) hD r r r r<|aZ<|aN [] r r r (bK r ⟨r,r,r,r,r,r,r,r,trivial⟩) aA
  ·
   obtain ⟨x5,hx5,h6⟩:=aE h3
   refine fY (fun j7=>x5=j7) (fun (j7:Bool)=>([(2,.box 0 0),(3,ci cF),(10,.c (.bool j7))]:Fr)) (fun (j7:Bool)=>([[.c (.bool false),.c (.bool false),.c (.bool false),.c (.bool false),.c (.bool false),.c (.bool false),.c (.bool false),.c (.bool false)]]:St)) ?_ ?_
   ·
    refine aH<|aM r (bM r r)<|sB r<|aF (fr':=[(2,.box 0 0),(3,aI),(10,aB)]) r r<|bP hx5 r (fun hb8 h8=>?_) (fun hb8 h8=>?_)
    ·
     exact aW<|gD _ (sy h8) (aU [] 1 r r r r ⟨lr,lr,lr,trivial⟩ (bW r aA))
    ·
     refine aH<|aM r (bM r r)<|sB r<|aF (fr':=[(2,.box 0 0),(3,aI),(10,aB)]) r r<|bP h8 r (fun hb9 h9=>?_) (fun hb9 h9=>?_)
     ·
      exact aW<|gD _ (sy h9) (aU [] 1 r r r r ⟨lr,lr,lr,trivial⟩ (bW r aA))
     ·
      exact aQ<|aM r (bM r r)<|sB r<|cB (fr':=[(2,.box 0 0),(3,aI),(10,aB)]) r<|gD _ (sy h9) (aU [] 1 r r r r ⟨lr,lr,lr,trivial⟩ (bW r aA))
   ·
    intro j7 hj10
    subst hj10
    refine bP h6 r (fun hb11 h11=>?_) (fun hb11 h11=>?_)
    ·
     refine aH<|aM r (dK (cs:=aR) pE r)<|bU (v:=.agg aR) (us:=aR) (cs:=aR) (σ':=[aR]) r hD r r r r r r r r<|aF (fr':=[(2,.box 0 0)]) r r<|bC<|bA<|aJ ?_
     obtain rfl:=sy h11
     exact bB (rs':=[.cell 2 154]) r<|cZ (us:=aR) (cs:=aR) hD r r r r<|aZ<|aN [] r r r (bK r ⟨r,r,r,r,r,r,r,r,trivial⟩) aA
    ·
     refine aH<|aM r (bM r r)<|sB r<|aF (fr':=[(2,.box 0 0),(3,aI),(15,aB)]) r r<|bP h11 r (fun hb13 h13=>?_) (fun hb13 h13=>?_)
     ·
      refine aH<|aM r (dK (cs:=aR) pE r)<|bU (v:=.agg aR) (us:=aR) (cs:=aR) (σ':=[aR]) r hD r r r r r r r r<|aF (fr':=[(2,.box 0 0)]) r r<|bC<|bA<|aJ ?_
      obtain rfl:=sy h13
      exact bB (rs':=[.cell 2 154]) r<|cZ (us:=aR) (cs:=aR) hD r r r r<|aZ<|aN [] r r r (bK r ⟨r,r,r,r,r,r,r,r,trivial⟩) aA
     ·
      refine aH<|aM r (bM r r)<|sB r<|aF (fr':=[(2,.box 0 0),(3,aI),(18,aB)]) r r<|bP h13 r (fun hb15 h15=>?_) (fun hb15 h15=>?_)
      ·
       refine aH<|aM r (dK (cs:=aR) pE r)<|bU (v:=.agg aR) (us:=aR) (cs:=aR) (σ':=[aR]) r hD r r r r r r r r<|aF (fr':=[(2,.box 0 0)]) r r<|bC<|bA<|aJ ?_
       obtain rfl:=sy h15
       exact bB (rs':=[.cell 2 154]) r<|cZ (us:=aR) (cs:=aR) hD r r r r<|aZ<|aN [] r r r (bK r ⟨r,r,r,r,r,r,r,r,trivial⟩) aA
      ·
       obtain ⟨x17,hx17,h18⟩:=aE h15
       refine fY (fun j19=>x17=j19) (fun (j19:Bool)=>([(2,.box 0 0),(3,ci cF),(21,.c (.bool j19))]:Fr)) (fun (j19:Bool)=>([[.c (.bool false),.c (.bool false),.c (.bool false),.c (.bool false),.c (.bool false),.c (.bool false),.c (.bool false),.c (.bool false)]]:St)) ?_ ?_
       ·
        refine aH<|aM r (bM r r)<|sB r<|aF (fr':=[(2,.box 0 0),(3,aI),(21,aB)]) r r<|bP hx17 r (fun hb20 h20=>?_) (fun hb20 h20=>?_)
        ·
         exact aW<|gD _ (sy h20) (aU [] 1 r r r r ⟨lr,lr,lr,trivial⟩ (bW r aA))
        ·
         refine aH<|aM r (bM r r)<|sB r<|aF (fr':=[(2,.box 0 0),(3,aI),(21,aB)]) r r<|bP h20 r (fun hb21 h21=>?_) (fun hb21 h21=>?_)
         ·
          exact aW<|gD _ (sy h21) (aU [] 1 r r r r ⟨lr,lr,lr,trivial⟩ (bW r aA))
         ·
          exact aQ<|aM r (bM r r)<|sB r<|cB (fr':=[(2,.box 0 0),(3,aI),(21,aB)]) r<|gD _ (sy h21) (aU [] 1 r r r r ⟨lr,lr,lr,trivial⟩ (bW r aA))
       ·
        intro j19 hj22
        subst hj22
        refine bP h18 r (fun hb23 h23=>?_) (fun hb23 h23=>?_)
        ·
         refine aH<|aM r (dK (cs:=aR) pE r)<|bU (v:=.agg aR) (us:=aR) (cs:=aR) (σ':=[aR]) r hD r r r r r r r r<|aF (fr':=[(2,.box 0 0)]) r r<|bC<|bA<|aJ ?_
         obtain rfl:=sy h23
         exact bB (rs':=[.cell 2 154]) r<|cZ (us:=aR) (cs:=aR) hD r r r r<|aZ<|aN [] r r r (bK r ⟨r,r,r,r,r,r,r,r,trivial⟩) aA
        ·
         obtain ⟨x25,hx25,h26⟩:=aE h23
         refine fY (fun j27=>x25=j27) (fun (j27:Bool)=>([(2,.box 0 0),(3,ci cF),(26,.c (.bool j27))]:Fr)) (fun (j27:Bool)=>([[.c (.bool false),.c (.bool false),.c (.bool false),.c (.bool false),.c (.bool false),.c (.bool false),.c (.bool false),.c (.bool false)]]:St)) ?_ ?_
         ·
          refine aH<|aM r (bM r r)<|sB r<|aF (fr':=[(2,.box 0 0),(3,aI),(26,aB)]) r r<|bP hx25 r (fun hb28 h28=>?_) (fun hb28 h28=>?_)
          ·
           exact aW<|gD _ (sy h28) (aU [] 1 r r r r ⟨lr,lr,lr,trivial⟩ (bW r aA))
          ·
           exact aQ<|aM r (bM r r)<|sB r<|cB (fr':=[(2,.box 0 0),(3,aI),(26,aB)]) r<|gD _ (sy h28) (aU [] 1 r r r r ⟨lr,lr,lr,trivial⟩ (bW r aA))
         ·
          intro j27 hj29
          subst hj29
          refine bP h26 r (fun hb30 h30=>?_) (fun hb30 h30=>?_)
          ·
           refine aH<|aM r (dK (cs:=aR) pE r)<|bU (v:=.agg aR) (us:=aR) (cs:=aR) (σ':=[aR]) r hD r r r r r r r r<|aF (fr':=[(2,.box 0 0)]) r r<|bC<|bA<|aJ ?_
           obtain rfl:=sy h30
           exact bB (rs':=[.cell 2 154]) r<|cZ (us:=aR) (cs:=aR) hD r r r r<|aZ<|aN [] r r r (bK r ⟨r,r,r,r,r,r,r,r,trivial⟩) aA
          ·
           refine aH<|aM r (bM r r)<|sB r<|aF (fr':=[(2,.box 0 0),(3,aI),(30,aB)]) r r<|bP h30 r (fun hb32 h32=>?_) (fun hb32 h32=>?_)
           ·
            refine aH<|aM r (dK (cs:=aR) pE r)<|bU (v:=.agg aR) (us:=aR) (cs:=aR) (σ':=[aR]) r hD r r r r r r r r<|aF (fr':=[(2,.box 0 0)]) r r<|bC<|bA<|aJ ?_
            obtain rfl:=sy h32
            exact bB (rs':=[.cell 2 154]) r<|cZ (us:=aR) (cs:=aR) hD r r r r<|aZ<|aN [] r r r (bK r ⟨r,r,r,r,r,r,r,r,trivial⟩) aA
           ·
            obtain ⟨x34,hx34,h35⟩:=aE h32
            refine fY (fun j36=>x34=j36) (fun (j36:Bool)=>([(2,.box 0 0),(3,ci cF),(33,.c (.bool j36))]:Fr)) (fun (j36:Bool)=>([[.c (.bool false),.c (.bool false),.c (.bool false),.c (.bool false),.c (.bool false),.c (.bool false),.c (.bool false),.c (.bool false)]]:St)) ?_ ?_
            ·
             refine aH<|aM r (bM r r)<|sB r<|aF (fr':=[(2,.box 0 0),(3,aI),(33,aB)]) r r<|bP hx34 r (fun hb37 h37=>?_) (fun hb37 h37=>?_)
             ·
              exact aW<|gD _ (sy h37) (aU [] 1 r r r r ⟨lr,lr,lr,trivial⟩ (bW r aA))
             ·
              refine aH<|aM r (bM r r)<|sB r<|aF (fr':=[(2,.box 0 0),(3,aI),(33,aB)]) r r<|bP h37 r (fun hb38 h38=>?_) (fun hb38 h38=>?_)
              ·
               exact aW<|gD _ (sy h38) (aU [] 1 r r r r ⟨lr,lr,lr,trivial⟩ (bW r aA))
              ·
               refine aH<|aM r (bM r r)<|sB r<|aF (fr':=[(2,.box 0 0),(3,aI),(33,aB)]) r r<|bP h38 r (fun hb39 h39=>?_) (fun hb39 h39=>?_)
               ·
                exact aW<|gD _ (sy h39) (aU [] 1 r r r r ⟨lr,lr,lr,trivial⟩ (bW r aA))
               ·
                exact aQ<|aM r (bM r r)<|sB r<|cB (fr':=[(2,.box 0 0),(3,aI),(33,aB)]) r<|gD _ (sy h39) (aU [] 1 r r r r ⟨lr,lr,lr,trivial⟩ (bW r aA))
            ·
             intro j36 hj40
             subst hj40
             refine bP h35 r (fun hb41 h41=>?_) (fun hb41 h41=>?_)
             ·
              refine aH<|aM r (dK (cs:=aR) pE r)<|bU (v:=.agg aR) (us:=aR) (cs:=aR) (σ':=[aR]) r hD r r r r r r r r<|aF (fr':=[(2,.box 0 0)]) r r<|bC<|bA<|aJ ?_
              obtain rfl:=sy h41
              exact bB (rs':=[.cell 2 154]) r<|cZ (us:=aR) (cs:=aR) hD r r r r<|aZ<|aN [] r r r (bK r ⟨r,r,r,r,r,r,r,r,trivial⟩) aA
             ·
              refine aH<|aM r (bM r r)<|sB r<|aF (fr':=[(2,.box 0 0),(3,aI),(39,aB)]) r r<|bP h41 r (fun hb43 h43=>?_) (fun hb43 h43=>?_)
              ·
               refine aH<|aM r (dK (cs:=aR) pE r)<|bU (v:=.agg aR) (us:=aR) (cs:=aR) (σ':=[aR]) r hD r r r r r r r r<|aF (fr':=[(2,.box 0 0)]) r r<|bC<|bA<|aJ ?_
               obtain rfl:=sy h43
               exact bB (rs':=[.cell 2 154]) r<|cZ (us:=aR) (cs:=aR) hD r r r r<|aZ<|aN [] r r r (bK r ⟨r,r,r,r,r,r,r,r,trivial⟩) aA
              ·
               refine aH<|aM r (bM r r)<|sB r<|aF (fr':=[(2,.box 0 0),(3,aI),(42,aB)]) r r<|bP h43 r (fun hb45 h45=>?_) (fun hb45 h45=>?_)
               ·
                refine aH<|aM r (dK (cs:=aR) pE r)<|bU (v:=.agg aR) (us:=aR) (cs:=aR) (σ':=[aR]) r hD r r r r r r r r<|aF (fr':=[(2,.box 0 0)]) r r<|bC<|bA<|aJ ?_
                obtain rfl:=sy h45
                exact bB (rs':=[.cell 2 154]) r<|cZ (us:=aR) (cs:=aR) hD r r r r<|aZ<|aN [] r r r (bK r ⟨r,r,r,r,r,r,r,r,trivial⟩) aA
               ·
                refine aH<|aM r (bM r r)<|sB r<|aF (fr':=[(2,.box 0 0),(3,aI),(45,aB)]) r r<|bP h45 r (fun hb47 h47=>?_) (fun hb47 h47=>?_)
                ·
                 refine aH<|aM r (dK (cs:=aR) pE r)<|bU (v:=.agg aR) (us:=aR) (cs:=aR) (σ':=[aR]) r hD r r r r r r r r<|aF (fr':=[(2,.box 0 0)]) r r<|bC<|bA<|aJ ?_
                 obtain rfl:=sy h47
                 exact bB (rs':=[.cell 2 154]) r<|cZ (us:=aR) (cs:=aR) hD r r r r<|aZ<|aN [] r r r (bK r ⟨r,r,r,r,r,r,r,r,trivial⟩) aA
                ·
                 refine aH<|aM r (bM r r)<|sB r<|aF (fr':=[(2,.box 0 0),(3,aI),(48,aB)]) r r<|bP h47 r (fun hb49 h49=>?_) (fun hb49 h49=>?_)
                 ·
                  refine aH<|aM r (dK (cs:=aR) pE r)<|bU (v:=.agg aR) (us:=aR) (cs:=aR) (σ':=[aR]) r hD r r r r r r r r<|aF (fr':=[(2,.box 0 0)]) r r<|bC<|bA<|aJ ?_
                  obtain rfl:=sy h49
                  exact bB (rs':=[.cell 2 154]) r<|cZ (us:=aR) (cs:=aR) hD r r r r<|aZ<|aN [] r r r (bK r ⟨r,r,r,r,r,r,r,r,trivial⟩) aA
                 ·
                  refine aH<|aM r (bM r r)<|sB r<|aF (fr':=[(2,.box 0 0),(3,aI),(51,aB)]) r r<|bP h49 r (fun hb51 h51=>?_) (fun hb51 h51=>?_)
                  ·
                   refine aH<|aM r (dK (cs:=aR) pE r)<|bU (v:=.agg aR) (us:=aR) (cs:=aR) (σ':=[aR]) r hD r r r r r r r r<|aF (fr':=[(2,.box 0 0)]) r r<|bC<|bA<|aJ ?_
                   obtain rfl:=sy h51
                   exact bB (rs':=[.cell 2 154]) r<|cZ (us:=aR) (cs:=aR) hD r r r r<|aZ<|aN [] r r r (bK r ⟨r,r,r,r,r,r,r,r,trivial⟩) aA
                  ·
                   refine aH<|aM r (bM r r)<|sB r<|aF (fr':=[(2,.box 0 0),(3,aI),(54,aB)]) r r<|bP h51 r (fun hb53 h53=>?_) (fun hb53 h53=>?_)
                   ·
                    refine aH<|aM r (dK (cs:=aR) pE r)<|bU (v:=.agg aR) (us:=aR) (cs:=aR) (σ':=[aR]) r hD r r r r r r r r<|aF (fr':=[(2,.box 0 0)]) r r<|bC<|bA<|aJ ?_
                    obtain rfl:=sy h53
                    exact bB (rs':=[.cell 2 154]) r<|cZ (us:=aR) (cs:=aR) hD r r r r<|aZ<|aN [] r r r (bK r ⟨r,r,r,r,r,r,r,r,trivial⟩) aA
                   ·
                    refine aH<|aM r (bM r r)<|sB r<|aF (fr':=[(2,.box 0 0),(3,aI),(57,aB)]) r r<|bP h53 r (fun hb55 h55=>?_) (fun hb55 h55=>?_)
                    ·
                     refine aH<|aM r (dK (cs:=aR) pE r)<|bU (v:=.agg aR) (us:=aR) (cs:=aR) (σ':=[aR]) r hD r r r r r r r r<|aF (fr':=[(2,.box 0 0)]) r r<|bC<|bA<|aJ ?_
                     obtain rfl:=sy h55
                     exact bB (rs':=[.cell 2 154]) r<|cZ (us:=aR) (cs:=aR) hD r r r r<|aZ<|aN [] r r r (bK r ⟨r,r,r,r,r,r,r,r,trivial⟩) aA
                    ·
                     refine aH<|aM r (bM r r)<|sB r<|aF (fr':=[(2,.box 0 0),(3,aI),(60,aB)]) r r<|bP h55 r (fun hb57 h57=>?_) (fun hb57 h57=>?_)
                     ·
                      refine aH<|aM r (dK (cs:=aR) pE r)<|bU (v:=.agg aR) (us:=aR) (cs:=aR) (σ':=[aR]) r hD r r r r r r r r<|aF (fr':=[(2,.box 0 0)]) r r<|bC<|bA<|aJ ?_
                      obtain rfl:=sy h57
                      exact bB (rs':=[.cell 2 154]) r<|cZ (us:=aR) (cs:=aR) hD r r r r<|aZ<|aN [] r r r (bK r ⟨r,r,r,r,r,r,r,r,trivial⟩) aA
                     ·
                      refine aH<|aM r (bM r r)<|sB r<|aF (fr':=[(2,.box 0 0),(3,aI),(63,aB)]) r r<|bP h57 r (fun hb59 h59=>?_) (fun hb59 h59=>?_)
                      ·
                       refine aH<|aM r (dK (cs:=aR) pE r)<|bU (v:=.agg aR) (us:=aR) (cs:=aR) (σ':=[aR]) r hD r r r r r r r r<|aF (fr':=[(2,.box 0 0)]) r r<|bC<|bA<|aJ ?_
                       obtain rfl:=sy h59
                       exact bB (rs':=[.cell 2 154]) r<|cZ (us:=aR) (cs:=aR) hD r r r r<|aZ<|aN [] r r r (bK r ⟨r,r,r,r,r,r,r,r,trivial⟩) aA
                      ·
                       refine aH<|aM r (bM r r)<|sB r<|aF (fr':=[(2,.box 0 0),(3,aI),(66,aB)]) r r<|bP h59 r (fun hb61 h61=>?_) (fun hb61 h61=>?_)
                       ·
                        refine aH<|aM r (dK (cs:=aR) pE r)<|bU (v:=.agg aR) (us:=aR) (cs:=aR) (σ':=[aR]) r hD r r r r r r r r<|aF (fr':=[(2,.box 0 0)]) r r<|bC<|bA<|aJ ?_
                        obtain rfl:=sy h61
                        exact bB (rs':=[.cell 2 154]) r<|cZ (us:=aR) (cs:=aR) hD r r r r<|aZ<|aN [] r r r (bK r ⟨r,r,r,r,r,r,r,r,trivial⟩) aA
                       ·
                        refine aH<|aM r (bM r r)<|sB r<|aF (fr':=[(2,.box 0 0),(3,aI),(69,aB)]) r r<|bP h61 r (fun hb63 h63=>?_) (fun hb63 h63=>?_)
                        ·
                         refine aH<|aM r (dK (cs:=aR) pE r)<|bU (v:=.agg aR) (us:=aR) (cs:=aR) (σ':=[aR]) r hD r r r r r r r r<|aF (fr':=[(2,.box 0 0)]) r r<|bC<|bA<|aJ ?_
                         obtain rfl:=sy h63
                         exact bB (rs':=[.cell 2 154]) r<|cZ (us:=aR) (cs:=aR) hD r r r r<|aZ<|aN [] r r r (bK r ⟨r,r,r,r,r,r,r,r,trivial⟩) aA
                        ·
                         refine aH<|aM r (bM r r)<|sB r<|aF (fr':=[(2,.box 0 0),(3,aI),(72,aB)]) r r<|bP h63 r (fun hb65 h65=>?_) (fun hb65 h65=>?_)
                         ·
                          refine aH<|aM r (dK (cs:=aR) pE r)<|bU (v:=.agg aR) (us:=aR) (cs:=aR) (σ':=[aR]) r hD r r r r r r r r<|aF (fr':=[(2,.box 0 0)]) r r<|bC<|bA<|aJ ?_
                          obtain rfl:=sy h65
                          exact bB (rs':=[.cell 2 154]) r<|cZ (us:=aR) (cs:=aR) hD r r r r<|aZ<|aN [] r r r (bK r ⟨r,r,r,r,r,r,r,r,trivial⟩) aA
                         ·
                          refine aH<|aM r (bM r r)<|sB r<|aF (fr':=[(2,.box 0 0),(3,aI),(75,aB)]) r r<|bP h65 r (fun hb67 h67=>?_) (fun hb67 h67=>?_)
                          ·
                           refine aH<|aM r (dK (cs:=aR) pE r)<|bU (v:=.agg aR) (us:=aR) (cs:=aR) (σ':=[aR]) r hD r r r r r r r r<|aF (fr':=[(2,.box 0 0)]) r r<|bC<|bA<|aJ ?_
                           obtain rfl:=sy h67
                           exact bB (rs':=[.cell 2 154]) r<|cZ (us:=aR) (cs:=aR) hD r r r r<|aZ<|aN [] r r r (bK r ⟨r,r,r,r,r,r,r,r,trivial⟩) aA
                          ·
                           obtain ⟨x69,hx69,h70⟩:=aE h67
                           refine fY (fun j71=>x69=j71) (fun (j71:Bool)=>([(2,.box 0 0),(78,.c (.bool j71))]:Fr)) (fun (j71:Bool)=>([[.c (.bool false),.c (.bool false),.c (.bool false),.c (.bool false),.c (.bool false),.c (.bool false),.c (.bool false),.c (.bool false)]]:St)) ?_ ?_
                           ·
                            refine aH<|aM r (bM r r)<|sB r<|aF (fr':=[(2,.box 0 0),(3,aI),(78,aB)]) r r<|bP hx69 r (fun hb72 h72=>?_) (fun hb72 h72=>?_)
                            ·
                             exact aW<|gD _ (sy h72) (aU [] 1 r r r r ⟨lr,lr,trivial⟩ (bW r aA))
                            ·
                             refine aH<|aM r (bM r r)<|sB r<|aF (fr':=[(2,.box 0 0),(3,aI),(78,aB)]) r r<|bP h72 r (fun hb73 h73=>?_) (fun hb73 h73=>?_)
                             ·
                              exact aW<|gD _ (sy h73) (aU [] 1 r r r r ⟨lr,lr,trivial⟩ (bW r aA))
                             ·
                              refine aH<|aM r (bM r r)<|sB r<|aF (fr':=[(2,.box 0 0),(3,aI),(78,aB)]) r r<|bP h73 r (fun hb74 h74=>?_) (fun hb74 h74=>?_)
                              ·
                               exact aW<|gD _ (sy h74) (aU [] 1 r r r r ⟨lr,lr,trivial⟩ (bW r aA))
                              ·
                               exact aQ<|aM r (bM r r)<|sB r<|cB (fr':=[(2,.box 0 0),(3,aI),(78,aB)]) r<|gD _ (sy h74) (aU [] 1 r r r r ⟨lr,lr,trivial⟩ (bW r aA))
                           ·
                            intro j71 hj75
                            subst hj75
                            refine bP h70 r (fun hb76 h76=>?_) (fun hb76 h76=>?_)
                            ·
                             refine aH<|aM r (dK (cs:=aR) pE r)<|bU (v:=.agg aR) (us:=aR) (cs:=aR) (σ':=[aR]) r hD r r r r r r r r<|aF (fr':=[(2,.box 0 0)]) r r<|bC<|bA<|aJ ?_
                             obtain rfl:=sy h76
                             exact bB (rs':=[.cell 2 154]) r<|cZ (us:=aR) (cs:=aR) hD r r r r<|aZ<|aN [] r r r (bK r ⟨r,r,r,r,r,r,r,r,trivial⟩) aA
                            ·
                             refine aW<|bX<|bV<|aH<|aM r (dK (cs:=aR) pE r)<|bU (v:=.agg aR) (us:=aR) (cs:=aR) (σ':=[aR]) r hD r r r r r r r r<|aF (fr':=[(2,.box 0 0)]) r r<|bC ?_
                             obtain rfl:=sy h76
                             exact bB (rs':=[.cell 2 154]) r<|cZ (us:=aR) (cs:=aR) hD r r r r<|aZ<|aN [] r r r (bK r ⟨r,r,r,r,r,r,r,r,trivial⟩) aA
end Go.Proofs.YtnigjppddilpcaaGreatDoor
