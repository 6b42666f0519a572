import Derived.Test.YtnigjppddilpcaaGreatDoorGETy
import Derived.Test.YtnigjppddilpcaaGreatDoorGEF0
import Derived.Test.YtnigjppddilpcaaGreatDoorGEF1
import Derived.Test.YtnigjppddilpcaaGreatDoorGEF2
namespace Go.Proofs.YtnigjppddilpcaaGreatDoor
open Go Abs
set_option maxRecDepth 100000
set_option linter.unusedVariables false
set_option linter.unusedSimpArgs false
noncomputable def gN (p0s:(List aQ)) (s4:Int):Option (dU Int (Fl Int Unit)) :=
 cond (decide (s4<((p0s).length:Int))) ((nG p0s s4).bind fun x6=>(wI x6).bind fun x8=>cond x8 (some (dU.out (Fl.done s4))) (some (dU.next (IntKind.wrap .i64 (s4+1))))) (some (dU.out (Fl.go ())))
noncomputable def jA (p0s:(List aQ)):Option Int :=
 (fK (gN p0s) (0)).bind fun x1=>Fl.next x1 (fun j3=>(some (-1)))
theorem rT {p0s:(List aQ)}{z:Int} (h:jA p0s=some z):cQ Tryz.prog 205 [.c (PV.ls 5 bT p0s),.fn 216 []] [] (ci z) []:=by
 unfold jA at h
 refine dF (fn:=Tryz.f205) [0,1,4,5,7,8,9,16] (by kernel_rfl) Tryz.func205 r (by kernel_rfl) (by kernel_rfl)<|aH<|sI r<|aG (fr':=[(0,aL),(1,.fn _ [])]) r r<|aZ<|aH<|mL r<|aR r (hZ vX (eK r))<|mI r<|aG (fr':=[(0,aL),(1,.fn _ []),(7,aI),(8,aI)]) r r<|bx h fun x1 y1 h2=>gZ lB (fun j3=>x1=Fl.go j3) (fun (j3:Unit)=>([]:Fr)) (fun (j3:Unit)=>([]:St)) ?_ ?_
 ·
  refine cH<|gV _ (fun (s4:Int)=>([(0,.c (PV.ls 5 bT p0s)),(1,.fn 216 []),(7,ci ((p0s).length:Int)),(8,ci s4)]:Fr)) (fun (s4:Int)=>([]:St)) y1 (bC [] 0 r r r r kL4 aD) ?_
  intro s4 st4 hs4 ho4
  unfold gN at hs4
  refine aH<|aR r (gI r r)<|aG (fr':=[(0,aL),(1,.fn _ []),(7,aI),(8,aI),(9,aB)]) r r<|aZ<|cG hs4 r (fun b5 h5=>?_) (fun b5 h5=>?_)
  ·
   refine bF<|cZ<|aZ<|cH<|aH<|mI r<|sI r<|aG (fr':=[(0,aL),(1,.fn _ []),(5,aI),(7,aI),(8,aI)]) r r<|aH<|mV (v:=.fn _ []) r<|mL r<|mI r<|bx h5 fun x6 y6 h7=>aR r (lF (cs:=[PV.int _ _,PV.int _ _,PV.str _,PV.ls _ _ _,PV.ls _ _ _]) uV (eK r) r y6 (eJ _))<|aR r (lT (us:=[PV.int _ _,PV.int _ _,PV.str _,PV.ls _ _ _,PV.ls _ _ _]) iO r r r)<|bx h7 fun x8 y8 h9=>lS (bL (v:=aB) r (aGR y8) ⟨(bQ r kR5),trivial⟩ r r r)<|aG (fr':=[(0,aL),(1,.fn _ []),(5,aI),(7,aI),(8,aI),(16,aB)]) r r<|cG h9 r (fun b10 h10=>?_) (fun b10 h10=>?_)
   ·
    refine aH<|mI r<|sI r<|aG (fr':=[(4,aI)]) r r<|bK<|bO<|aP<|aP<|bO<|aP<|aP ?_
    have h11:=eR h10 ho4
    have h12:=fL h11 h2
    obtain rfl:=sy h12
    exact bJ (rs':=[.tmp 4]) r<|bS (v:=aI) r<|bI<|aN [] r r r lr aD
   ·
    exact bF<|cW<|cZ<|bB<|aR r (gC r r)<|mI r<|dM (fr':=[(0,aL),(1,.fn _ []),(5,aI),(7,aI),(8,aI),(16,aB)]) r<|zO _ (sy h10) (bC [] 0 r r r r kL4 aD)
  ·
   refine hG<|cY<|cY<|fP ?_
   have h14:=eR h5 ho4
   exact iQ _ (sy h14) (bC [] 0 r r r r trivial aD)
 ·
  intro j3 hj15
  have h15:=lV hj15 h2
  refine cZ<|aH<|sI r<|aG (fr':=[(4,aI)]) r r<|bK ?_
  obtain rfl:=sy h15
  exact bJ (rs':=[.tmp 4]) r<|bS (v:=aI) r<|bI<|aN [] r r r lr aD
noncomputable def gL (p0s:(List aQ)):Option Bool :=
 (jA p0s).bind fun x1=>some (decide (0≤x1))
theorem qS {p0s:(List aQ)}{z:Bool} (h:gL p0s=some z):cQ Tryz.prog 176 [.c (PV.ls 5 bT p0s),.fn 216 []] [] (.c (.bool z)) []:=by
 unfold gL at h
 refine dF (fn:=Tryz.f176) [0,1,4] (by kernel_rfl) Tryz.func176 r (by kernel_rfl) (by kernel_rfl)<|aH<|sB r<|aG (fr':=[(0,aL),(1,.fn _ [])]) r r<|aH<|mL r<|mV (v:=.fn _ []) r<|bx h fun x1 y1 h2=>lS (bL (v:=aI) r (rT y1) jN r r r)<|aR r (oI r r)<|sB r<|aG (fr':=[(4,aB)]) r r<|bK ?_
 obtain rfl:=sy h2
 exact bJ (rs':=[.tmp 4]) r<|bS (v:=aB) r<|bI<|aN [] r r r lr aD
noncomputable def zH (p0v:aQ):Option Bool :=
 (gd ((cond (!decide (p0v.Kind=4)) true (!decide (((p0v.Items).length:Int)=2)))==false) (nG p0v.Items 1)).bind fun x1=>cond (cond (cond (!decide (p0v.Kind=4)) true (!decide (((p0v.Items).length:Int)=2))) true (!decide (x1.Kind=4))) (some false) ((nG p0v.Items 1).bind fun x5=>(gL x5.Items).bind fun x7=>some (!x7))
theorem aIj {p0v:aQ}{z:Bool} (h:zH p0v=some z):cQ Tryz.prog 200 [.agg (AV.cs (fA p0v))] [] (.c (.bool z)) []:=by
 unfold zH at h
 refine dF (fn:=Tryz.f200) [0,1,2,19] (by kernel_rfl) Tryz.func200 r (by kernel_rfl) (by kernel_rfl)<|aH<|jK (v:=.agg cE) (n:=0) (cs:=cE) (σ':=[cE]) r r r r r<|sB r<|aG (fr':=[(1,aE)]) r r<|aZ<|aH<|aR r (bD mE r)<|aR r (aK (v:=aI) fM r r r)<|aR r (iS r r)<|mB r<|og r r r (fun u=>(bD iJ r))<|og r r r (fun u=>(aK (v:=aL) nS (gx r u) r r))<|og r r r (fun u=>(hZ vX (eK (gx r u))))<|og r r r (fun u=>(iS (gx r u) r))<|aR r (cN r r r (fun e=>fJ e))<|mB r<|og r r r (fun u=>(bD iJ r))<|og r r r (fun u=>(aK (v:=aL) nS (gx r u) r r))<|bx h fun x1 y1 h2=>og r r r (fun u=>(lF (cs:=[PV.int _ _,PV.int _ _,PV.str _,PV.ls _ _ _,PV.ls _ _ _]) uV (eK (gx r u)) r (cU y1 u) (eJ _)))<|og r r r (fun u=>(zI mE (gx r u)))<|og r r r (fun u=>(gP (p:=PV.int _ _) fM (gx r u) r))<|og r r r (fun u=>(iS (gx r u) r))<|aR r (cN r r r (fun e=>fJ e))<|aG (fr':=[(1,aE),(19,aB)]) r r<|cG h2 r (fun b3 h3=>?_) (fun b3 h3=>?_)
 ·
  refine aH<|sB r<|aG (fr':=[(2,aB)]) r r<|bK<|aP ?_
  obtain rfl:=sy h3
  exact bJ (rs':=[.tmp 2]) r<|bS (v:=aB) r<|bI<|aN [] r r r lr aD
 ·
  refine bF<|cZ<|aH<|aR r (bD iJ r)<|aR r (aK (v:=aL) nS r r r)<|bx h3 fun x5 y5 h6=>aR r (lF (cs:=[PV.int _ _,PV.int _ _,PV.str _,PV.ls _ _ _,PV.ls _ _ _]) uV (eK r) r y5 (eJ _))<|aR r (zI iJ r)<|aR r (gP (p:=PV.ls _ _ _) nS r r)<|bx h6 fun x7 y7 h8=>lS (bL (v:=aB) r (qS y7) jN r r r)<|aR r (fE r)<|sB r<|aG (fr':=[(2,aB)]) r r<|bK ?_
  obtain rfl:=sy h8
  exact bJ (rs':=[.tmp 2]) r<|bS (v:=aB) r<|bI<|aN [] r r r lr aD
noncomputable def xO (p0c:bY):Option Bool :=
 cond (decide (p0c.Kind=3)) ((nQ p0c.N 1 1099511627776).bind fun x2=>some x2) (cond (decide (p0c.Kind=5)) ((nQ p0c.N 0 2).bind fun x6=>some x6) (cond (decide (p0c.Kind=9)) ((nQ p0c.N 0 1).bind fun x10=>some x10) (cond (decide (p0c.Kind=7)) ((gd ((decide (p0c.N=(-1)))==false) (nQ p0c.N 0 2147483647)).bind fun x14=>some (cond (decide (p0c.N=(-1))) true (cond x14 (decide (p0c.Data.Kind=0)) false))) (cond (decide (p0c.Kind=10)) (some (decide (p0c.Data.Kind=5))) (cond (decide (p0c.Kind=14)) ((zH p0c.Data).bind fun x20=>some x20) (some true))))))
theorem aHC {p0c:bY}{z:Bool} (h:xO p0c=some z):cQ Tryz.prog 168 [.agg (AV.cs (dK p0c))] [] (.c (.bool z)) []:=by
 unfold xO at h
 refine dF (fn:=Tryz.f168) [0,1,2,4,5,10,15,20,36,42] (by kernel_rfl) Tryz.func168 r (by kernel_rfl) (by kernel_rfl)<|aH<|jK (v:=.agg aW) (n:=0) (cs:=aW) (σ':=[aW]) r r r r r<|sB r<|aG (fr':=[(1,aE)]) r r<|aZ<|aH<|aR r (bD tJ r)<|aR r (aK (v:=aI) fM r r r)<|aG (fr':=[(1,aE),(4,aI)]) r r<|cH<|aH<|aR r (bU r r)<|sB r<|aG (fr':=[(1,aE),(4,aI),(5,aB)]) r r<|cG h r (fun b1 h1=>?_) (fun b1 h1=>?_)
 ·
  refine aH<|aR r (bD uF r)<|aR r (aK (v:=aI) fM r r r)<|bx h1 fun x2 y2 h3=>lS (bL (v:=aB) r (pJ y2) kA r r r)<|sB r<|aG (fr':=[(2,aB)]) r r<|bK<|bO<|aP ?_
  obtain rfl:=sy h3
  exact bJ (rs':=[.tmp 2]) r<|bS (v:=aB) r<|bI<|aN [] r r r lr aD
 ·
  refine aH<|aR r (bU r r)<|sB r<|aG (fr':=[(1,aE),(4,aI),(10,aB)]) r r<|cG h1 r (fun b5 h5=>?_) (fun b5 h5=>?_)
  ·
   refine aH<|aR r (bD uF r)<|aR r (aK (v:=aI) fM r r r)<|bx h5 fun x6 y6 h7=>lS (bL (v:=aB) r (pJ y6) kA r r r)<|sB r<|aG (fr':=[(2,aB)]) r r<|bK<|bO<|aP ?_
   obtain rfl:=sy h7
   exact bJ (rs':=[.tmp 2]) r<|bS (v:=aB) r<|bI<|aN [] r r r lr aD
  ·
   refine aH<|aR r (bU r r)<|sB r<|aG (fr':=[(1,aE),(4,aI),(15,aB)]) r r<|cG h5 r (fun b9 h9=>?_) (fun b9 h9=>?_)
   ·
    refine aH<|aR r (bD uF r)<|aR r (aK (v:=aI) fM r r r)<|bx h9 fun x10 y10 h11=>lS (bL (v:=aB) r (pJ y10) kA r r r)<|sB r<|aG (fr':=[(2,aB)]) r r<|bK<|bO<|aP ?_
    obtain rfl:=sy h11
    exact bJ (rs':=[.tmp 2]) r<|bS (v:=aB) r<|bI<|aN [] r r r lr aD
   ·
    refine aH<|aR r (bU r r)<|sB r<|aG (fr':=[(1,aE),(4,aI),(20,aB)]) r r<|cG h9 r (fun b13 h13=>?_) (fun b13 h13=>?_)
    ·
     refine aH<|aR r (bD uF r)<|aR r (aK (v:=aI) fM r r r)<|aR r (bU r r)<|mB r<|og r r r (fun u=>(bD uF r))<|og r r r (fun u=>(aK (v:=aI) fM (gx r u) r r))<|bx h13 fun x14 y14 h15=>sX r r (fun u=>bL (v:=aB) r (pJ (cU y14 u)) ⟨(eW (gx r u) lr),lr,lr,trivial⟩ (fT (by repeat (first | exact eN | refine aY r ?_ | refine aY (pP r) ?_ | refine aY pO ?_))) r r) ?_
     refine og r r r (fun u=>(bN (v:=aB) (gx r u)))<|fD r r (fun u=>fS r (bD vW r))<|fD r r (fun u=>fS r (bD mE (gx r u)))<|fD r r (fun u=>fS r (aK (v:=aI) fM (gx r u) r r))<|fD r r (fun u=>fS r (bU (gx r u) r))<|og r r r (fun u=>(bV (gx r u) r r (fun e=>pX u (fJ e))))<|aR r (cN r r r (fun e=>fJ e))<|sB r<|aG (fr':=[(2,aB)]) r r<|bK<|bO<|aP ?_
     obtain rfl:=sy h15
     exact bJ (rs':=[.tmp 2]) r<|bS (v:=aB) r<|bI<|aN [] r r r lr aD
    ·
     refine aH<|aR r (bU r r)<|sB r<|aG (fr':=[(1,aE),(4,aI),(36,aB)]) r r<|cG h13 r (fun b17 h17=>?_) (fun b17 h17=>?_)
     ·
      refine aH<|aR r (bD vW r)<|aR r (bD mE r)<|aR r (aK (v:=aI) fM r r r)<|aR r (bU r r)<|sB r<|aG (fr':=[(2,aB)]) r r<|bK<|bO<|aP ?_
      obtain rfl:=sy h17
      exact bJ (rs':=[.tmp 2]) r<|bS (v:=aB) r<|bI<|aN [] r r r lr aD
     ·
      refine aH<|aR r (bU r r)<|sB r<|aG (fr':=[(1,aE),(42,aB)]) r r<|cG h17 r (fun b19 h19=>?_) (fun b19 h19=>?_)
      ·
       refine aH<|aR r (bD vW r)<|aR r (dL (us:=cE) iO r r r r)<|bx h19 fun x20 y20 h21=>lS (bL (v:=aB) r (aIj y20) ⟨(bQ r kR5),trivial⟩ r r r)<|sB r<|aG (fr':=[(2,aB)]) r r<|bK<|bO<|aP ?_
       obtain rfl:=sy h21
       exact bJ (rs':=[.tmp 2]) r<|bS (v:=aB) r<|bI<|aN [] r r r lr aD
      ·
       refine bF<|cW<|cZ<|aH<|sB r<|aG (fr':=[(2,aB)]) r r<|bK ?_
       obtain rfl:=sy h19
       exact bJ (rs':=[.tmp 2]) r<|bS (v:=aB) r<|bI<|aN [] r r r lr aD
noncomputable def sH (p0c:bY):Option Bool :=
 (xN p0c.Kind).bind fun x1=>(nQ p0c.Kind 1 14).bind fun x3=>(gd ((!x3)==false) (aAr p0c x1)).bind fun x5=>(gd ((cond (!x3) true (!x5))==false) (vQ p0c.Data)).bind fun x7=>(gd ((cond (cond (!x3) true (!x5)) true (!x7))==false) (pN p0c.Opts)).bind fun x9=>cond (cond (cond (cond (!x3) true (!x5)) true (!x7)) true (!x9)) (some false) ((gd (x1.seq_==true) (nQ p0c.Seq 1 2000)).bind fun x13=>(gd (((cond x1.seq_ (!x13) false)==false)&&(x1.key_==true)) (uI p0c.Key)).bind fun x15=>cond (cond (cond x1.seq_ (!x13) false) true (cond x1.key_ (!x15) false)) (some false) ((gd (((x1.name_==true)&&((cond (decide (p0c.Kind=12)) (decide (4096<((p0c.Name).length:Int))) false)==false))&&((!decide (p0c.Kind=12))==true)) (sW p0c.Name)).bind fun x19=>cond (cond x1.name_ (cond (cond (decide (p0c.Kind=12)) (decide (4096<((p0c.Name).length:Int))) false) true (cond (!decide (p0c.Kind=12)) (!x19) false)) false) (some false) ((xO p0c).bind fun x23=>some x23)))
theorem zZ {p0c:bY}{z:Bool} (h:sH p0c=some z):cQ Tryz.prog 106 [.agg (AV.cs (dK p0c))] [] (.c (.bool z)) []:=by
 unfold sH at h
 refine dF (fn:=Tryz.f106) [0,1,2,3,28,46,70] (by kernel_rfl) Tryz.func106 r (by kernel_rfl) (by kernel_rfl)<|aH<|jK (v:=.agg aW) (n:=0) (cs:=aW) (σ':=[aW]) r r r r r<|sB r<|aG (fr':=[(1,aE)]) r r<|aH<|aR r (bD tJ r)<|aR r (aK (v:=aI) fM r r r)<|bx h fun x1 y1 h2=>lS (bL (v:=.agg eZ) r (aHB y1) ⟨lr,trivial⟩ r r r)<|hO (n:=1) (cs:=eZ) (σ':=[aW,eZ]) aRB r r r<|bM (v:=.agg eZ) (us:=eZ) (cs:=eZ) (σ':=[aW,eZ]) r yW r r r r r r r r<|aG (fr':=[(1,aE),(3,aU)]) r r<|aZ<|aH<|aR r (bD tJ r)<|aR r (aK (v:=aI) fM r r r)<|bx h2 fun x3 y3 h4=>lS (bL (v:=aB) r (pJ y3) kA r r r)<|aR r (fE r)<|mB r<|og r r r (fun u=>(dL (us:=aW) rB r r r r))<|og r r r (fun u=>(dL (us:=eZ) yW r r r r))<|bx h4 fun x5 y5 h6=>sX r r (fun u=>bL (v:=aB) r (aJG (cU y5 u)) ⟨(eW (gx r u) (bQ r aDF)),(eW (gx r u) (bQ r kR6)),trivial⟩ (fT (by repeat (first | exact eN | refine aY r ?_ | refine aY (pP r) ?_ | refine aY pO ?_))) r r) ?_
 refine og r r r (fun u=>(fE (gx r u)))<|aR r (cN r r r (fun e=>fJ e))<|mB r<|og r r r (fun u=>(bD vW r))<|og r r r (fun u=>(dL (us:=cE) iO (gx r u) r r r))<|bx h6 fun x7 y7 h8=>sX r r (fun u=>bL (v:=aB) r (aBu (cU y7 u)) ⟨(eW (gx r u) (bQ r kR5)),trivial⟩ (fT (by repeat (first | exact eN | refine aY r ?_ | refine aY (pP r) ?_ | refine aY pO ?_))) r r) ?_
 refine og r r r (fun u=>(fE (gx r u)))<|aR r (cN r r r (fun e=>fJ e))<|mB r<|og r r r (fun u=>(bD aBp r))<|og r r r (fun u=>(dL (us:=dO) yT (gx r u) r r r))<|bx h8 fun x9 y9 h10=>sX r r (fun u=>bL (v:=aB) r (aA3 (cU y9 u)) ⟨(eW (gx r u) (bQ r aBA)),trivial⟩ (fT (by repeat (first | exact eN | refine aY r ?_ | refine aY (pP r) ?_ | refine aY pO ?_))) r r) ?_
 refine og r r r (fun u=>(fE (gx r u)))<|aR r (cN r r r (fun e=>fJ e))<|aG (fr':=[(1,aE),(3,aU),(28,aB)]) r r<|cG h10 r (fun b11 h11=>?_) (fun b11 h11=>?_)
 ·
  refine aH<|sB r<|aG (fr':=[(2,aB)]) r r<|bK<|aP ?_
  obtain rfl:=sy h11
  exact bJ (rs':=[.tmp 2]) r<|bS (v:=aB) r<|bI<|aN [] r r r lr aD
 ·
  refine bF<|cZ<|aZ<|aH<|aR r (bD aO0 r)<|aR r (aK (v:=aB) tv4 r r r)<|mB r<|og r r r (fun u=>(bD aB5 r))<|og r r r (fun u=>(aK (v:=aI) fM (gx r u) r r))<|bx h11 fun x13 y13 h14=>sX r r (fun u=>bL (v:=aB) r (pJ (cU y13 u)) ⟨(eW (gx r u) lr),lr,lr,trivial⟩ (fT (by repeat (first | exact eN | refine aY r ?_ | refine aY (pP r) ?_ | refine aY pO ?_))) r r) ?_
  refine og r r r (fun u=>(fE (gx r u)))<|aR r (bV r r r (fun e=>fJ e))<|mB r<|og r r r (fun u=>(bD aO2 r))<|og r r r (fun u=>(aK (v:=aB) tv4 (gx r u) r r))<|og r r r (fun u=>(bN (v:=aB) (gx r u)))<|fD r r (fun u=>fS r (bD aB6 r))<|fD r r (fun u=>fS r (aK (v:=aS) lP (gx r u) r r))<|bx h14 fun x15 y15 h16=>fD r r (fun u=>bL (v:=aB) r (aIi (cU y15 u)) ⟨(eW (gx r u) lr),trivial⟩ (fT (by repeat (first | exact eN | refine aY r ?_ | refine aY (pP r) ?_ | refine aY pO ?_))) r r) ?_
  refine fD r r (fun u=>fS r (fE (gx r u)))<|og r r r (fun u=>(bV (gx r u) r r (fun e=>pX u (fJ e))))<|aR r (cN r r r (fun e=>fJ e))<|aG (fr':=[(1,aE),(3,aU),(46,aB)]) r r<|cG h16 r (fun b17 h17=>?_) (fun b17 h17=>?_)
  ·
   refine aH<|sB r<|aG (fr':=[(2,aB)]) r r<|bK<|aP ?_
   obtain rfl:=sy h17
   exact bJ (rs':=[.tmp 2]) r<|bS (v:=aB) r<|bI<|aN [] r r r lr aD
  ·
   refine bF<|cZ<|aZ<|aH<|aR r (bD aO1 r)<|aR r (aK (v:=aB) tv4 r r r)<|mB r<|og r r r (fun u=>(bD tJ r))<|og r r r (fun u=>(aK (v:=aI) fM (gx r u) r r))<|og r r r (fun u=>(bU (gx r u) r))<|og r r r (fun u=>(bN (v:=aB) (gx r u)))<|fD r r (fun u=>fS r (bD aAP r))<|fD r r (fun u=>fS r (aK (v:=aS) lP (gx r u) r r))<|fD r r (fun u=>fS r (kT uU (gx r u)))<|fD r r (fun u=>fS r (qW (gx r u) r))<|og r r r (fun u=>(bV (gx r u) r r (fun e=>pX u (fJ e))))<|og r r r (fun u=>(bN (v:=aB) (gx r u)))<|fD r r (fun u=>fS r (bD tJ r))<|fD r r (fun u=>fS r (aK (v:=aI) fM (gx r u) r r))<|fD r r (fun u=>fS r (iS (gx r u) r))<|fD r r (fun u=>fS r (bN (v:=aB) (gx r u)))<|fD r r (fun u=>fS r (bD aAP r))<|fD r r (fun u=>fS r (aK (v:=aS) lP (gx r u) r r))<|bx h17 fun x19 y19 h20=>fD r r (fun u=>bL (v:=aB) r (wC (cU y19 u)) ⟨(eW (gx r u) lr),trivial⟩ (fT (by repeat (first | exact eN | refine aY r ?_ | refine aY (pP r) ?_ | refine aY pO ?_))) r r) ?_
   refine fD r r (fun u=>fS r (fE (gx r u)))<|fD r r (fun u=>fS r (bV (gx r u) r r (fun e=>pX u (fJ e))))<|og r r r (fun u=>(cN (gx r u) r r (fun e=>pX u (fJ e))))<|aR r (bV r r r (fun e=>fJ e))<|aG (fr':=[(1,aE),(70,aB)]) r r<|cG h20 r (fun b21 h21=>?_) (fun b21 h21=>?_)
   ·
    refine aH<|sB r<|aG (fr':=[(2,aB)]) r r<|bK<|aP ?_
    obtain rfl:=sy h21
    exact bJ (rs':=[.tmp 2]) r<|bS (v:=aB) r<|bI<|aN [] r r r lr aD
   ·
    refine bF<|cZ<|aH<|aR r (dL (us:=aW) rB r r r r)<|bx h21 fun x23 y23 h24=>lS (bL (v:=aB) r (aHC y23) ⟨(bQ r aDF),trivial⟩ r r r)<|sB r<|aG (fr':=[(2,aB)]) r r<|bK ?_
    obtain rfl:=sy h24
    exact bJ (rs':=[.tmp 2]) r<|bS (v:=aB) r<|bI<|aN [] r r r lr aD
noncomputable def wK (p0e:dH) (aAw:Int):Option Bool :=
 (gd (((decide (p0e.Code=0))==true)&&((cond (decide (aAw=2)) true (decide (aAw=4)))==true)) (mC p0e.Ref 1 2000)).bind fun x1=>(gd ((cond (decide (p0e.Code=0)) (cond (cond (cond (decide (aAw=2)) true (decide (aAw=4))) x1 false) true (cond (!(cond (decide (aAw=2)) true (decide (aAw=4)))) (decide (p0e.Ref=0)) false)) false)==true) (sH (bY.mk aAw p0e.Seq p0e.Name p0e.Key p0e.N p0e.Data p0e.Opts))).bind fun x3=>some (cond (cond (decide (p0e.Code=0)) (cond (cond (cond (decide (aAw=2)) true (decide (aAw=4))) x1 false) true (cond (!(cond (decide (aAw=2)) true (decide (aAw=4)))) (decide (p0e.Ref=0)) false)) false) x3 false)
theorem aGT {p0e:dH}{aAw:Int}{z:Bool} (h:wK p0e aAw=some z):cQ Tryz.prog 138 [.agg (AV.cs (gT p0e)),ci aAw] [] (.c (.bool z)) []:=by
 unfold wK at h
 refine dF (fn:=Tryz.f138) [0,1,2,4,5,6] (by kernel_rfl) Tryz.func138 r (by kernel_rfl) (by kernel_rfl)<|aH<|jK (v:=.agg bA) (n:=0) (cs:=bA) (σ':=[bA]) r r r r r<|sB r<|aG (fr':=[(1,aI),(2,aE)]) r r<|aH<|mI r<|aR r (bD aDV r)<|aR r (aK (v:=aI) fM r r r)<|aR r (bD yZ r)<|aR r (aK (v:=aS) lP r r r)<|aR r (bD zB r)<|aR r (aK (v:=aS) lP r r r)<|aR r (bD aBh r)<|aR r (aK (v:=aI) fM r r r)<|aR r (bD aBV r)<|aR r (dL (us:=cE) iO r r r r)<|aR r (bD aC1 r)<|aR r (dL (us:=dO) yT r r r r)<|aR r (iD (c0:=aM) (cs:=aW) aKP r (eC (v:=aI) (us:=[_]) (cs':=u20) r r r r r r (eC (v:=aI) (us:=[_]) (cs':=u20) r r r r r r (eC (v:=aS) (us:=[_]) (cs':=u20) r r r r r r (eC (v:=aS) (us:=[_]) (cs':=u20) r r r r r r (eC (v:=aI) (us:=[_]) (cs':=u20) r r r r r r (eC (v:=.agg cE) (us:=u5) (cs':=u20) r r r r r r (eC (v:=.agg dO) (us:=u10) (cs':=u20) r r r r r r iC))))))))<|hO (n:=1) (cs:=aM) (σ':=[bA,aM]) aGQ r r r<|bM (v:=.agg aW) (us:=aW) (cs:=aM) (σ':=[bA,aW]) r rB r r r r r r r r<|aG (fr':=[(1,aI),(2,aE),(5,aU)]) r r<|aZ<|bB<|mI r<|aR r (bU r r)<|mB r<|og r r r (fun u=>(bN (v:=aI) r))<|og r r r (fun u=>(bU (gx r u) r))<|aR r (cN r r r (fun e=>fJ e))<|sB r<|aG (fr':=[(2,aE),(5,aU),(6,aB)]) r r<|aH<|aR r (bD aDc r)<|aR r (aK (v:=aI) fM r r r)<|aR r (bU r r)<|mB r<|og r r r (fun u=>(bN (v:=aB) r))<|og r r r (fun u=>(bN (v:=aB) (gx r u)))<|fD r r (fun u=>fS r (bD aDW r))<|fD r r (fun u=>fS r (aK (v:=aI) fM (gx r u) r r))<|bx h fun x1 y1 h2=>fD r r (fun u=>bL (v:=aB) r (nD (cU y1 u)) ⟨(eW (gx r u) lr),lr,lr,trivial⟩ (fT (by repeat (first | exact eN | refine aY r ?_ | refine aY (pP r) ?_ | refine aY pO ?_))) r r) ?_
 refine og r r r (fun u=>(bV (gx r u) r r (fun e=>pX u (fJ e))))<|og r r r (fun u=>(bN (v:=aB) (gx r u)))<|fD r r (fun u=>fS r (bN (v:=aB) r))<|fD r r (fun u=>fS r (fE (gx r u)))<|fD r r (fun u=>fS r (bN (v:=aB) (gx r u)))<|fD r r (fun u=>fS r (bD aDW r))<|fD r r (fun u=>fS r (aK (v:=aI) fM (gx r u) r r))<|fD r r (fun u=>fS r (bU (gx r u) r))<|fD r r (fun u=>fS r (bV (gx r u) r r (fun e=>pX u (fJ e))))<|og r r r (fun u=>(cN (gx r u) r r (fun e=>pX u (fJ e))))<|aR r (bV r r r (fun e=>fJ e))<|mB r<|og r r r (fun u=>(dL (us:=aW) rB r r r r))<|bx h2 fun x3 y3 h4=>sX r r (fun u=>bL (v:=aB) r (zZ (cU y3 u)) ⟨(eW (gx r u) (bQ r aDF)),trivial⟩ (fT (by repeat (first | exact eN | refine aY r ?_ | refine aY (pP r) ?_ | refine aY pO ?_))) r r) ?_
 refine aR r (bV r r r (fun e=>fJ e))<|sB r<|aG (fr':=[(4,aB)]) r r<|bK ?_
 obtain rfl:=sy h4
 exact bJ (rs':=[.tmp 4]) r<|bS (v:=aB) r<|bI<|aN [] r r r lr aD
noncomputable def aCl (dN:Int):Option kX :=
 cond (decide (dN=1)) (some (kX.mk false false true false true true true)) (cond (decide (dN=2)) (some (kX.mk false false true false false false false)) (((cond (decide (dN=3)) (some (decide (dN=3))) (cond (decide (dN=4)) (some (decide (dN=4))) (some (decide (dN=6))))):Option Bool).bind fun x5=>(cond x5 (some (kX.mk false true false false false false false)) (cond (decide (dN=5)) (some (kX.mk false true false true false false false)) (cond (decide (dN=8)) (some (kX.mk true true true false false false false)) (((cond (decide (dN=9)) (some (decide (dN=9))) (cond (decide (dN=13)) (some (decide (dN=13))) (some (decide (dN=21))))):Option Bool).bind fun x17=>(cond x17 (some (kX.mk true true false false false false true)) (((cond (decide (dN=10)) (some (decide (dN=10))) (some (decide (dN=22)))):Option Bool).bind fun x25=>(cond x25 (some (kX.mk true true false false true false true)) (cond (decide (dN=11)) (some (kX.mk true true false true false false false)) (((cond (decide (dN=15)) (some (decide (dN=15))) (some (decide (dN=24)))):Option Bool).bind fun x34=>(cond x34 (some (kX.mk true true false false false false false)) (cond (decide (dN=17)) (some (kX.mk false false false false true true true)) (cond (decide (dN=20)) (some (kX.mk true true false false false true false)) (cond (decide (dN=25)) (some (kX.mk true true false false true false false)) (cond (decide (dN=26)) (some (kX.mk false false false false false true false)) (cond (decide (dN=33)) (some (kX.mk false false false false true false false)) (some (kX.mk false false false false false false false)))))))))))))))))))
theorem aLJ {dN:Int}{z:kX} (h:aCl dN=some z):cQ Tryz.prog 139 [ci dN] [] (.agg (AV.cs (aGH z))) []:=by
 unfold aCl at h
 refine dF (fn:=Tryz.f139) [0,2,3,4,7,10,15,18,21,26,30,33,37,40,43,46,49] (by kernel_rfl) Tryz.func139 r (by kernel_rfl) (by kernel_rfl)<|aH<|hO (n:=0) (cs:=cX) (σ':=[cX]) aRz r r r<|aG (fr':=[(0,aI),(2,aE)]) r r<|aZ<|aH<|mI r<|aG (fr':=[(2,aE),(3,aI)]) r r<|cH<|aZ<|bB<|aR r (bU r r)<|sB r<|aG (fr':=[(2,aE),(3,aI),(4,aB)]) r r<|cG h r (fun b1 h1=>?_) (fun b1 h1=>?_)
 ·
  refine aH<|aR r (fV (cs:=cX) aCG r)<|bM (v:=.agg cX) (us:=cX) (cs:=cX) (σ':=[cX]) r sK r r r r r r r r<|aG (fr':=[(2,aE)]) r r<|bK<|bO<|aP ?_
  obtain rfl:=sy h1
  exact bJ (rs':=[.cell 2 139]) r<|dY (us:=cX) (cs:=cX) sK r r r r<|bI<|aN [] r r r (bQ r kR7) aD
 ·
  refine aH<|aR r (bU r r)<|sB r<|aG (fr':=[(2,aE),(3,aI),(7,aB)]) r r<|cG h1 r (fun b3 h3=>?_) (fun b3 h3=>?_)
  ·
   refine aH<|aR r (fV (cs:=cX) aCG r)<|bM (v:=.agg cX) (us:=cX) (cs:=cX) (σ':=[cX]) r sK r r r r r r r r<|aG (fr':=[(2,aE)]) r r<|bK<|bO<|aP ?_
   obtain rfl:=sy h3
   exact bJ (rs':=[.cell 2 139]) r<|dY (us:=cX) (cs:=cX) sK r r r r<|bI<|aN [] r r r (bQ r kR7) aD
  ·
   obtain ⟨x5,y5,h6⟩:=iW h3
   refine hH (fun j7=>x5=j7) (fun (j7:Bool)=>([(2,aE),(3,ci dN),(10,.c (.bool j7))]:Fr)) (fun (j7:Bool)=>([[.c (.bool false),.c (.bool false),.c (.bool false),.c (.bool false),.c (.bool false),.c (.bool false),.c (.bool false)]]:St)) ?_ ?_
   ·
    refine aH<|aR r (bU r r)<|sB r<|aG (fr':=[(2,aE),(3,aI),(10,aB)]) r r<|cG y5 r (fun b8 h8=>?_) (fun b8 h8=>?_)
    ·
     exact bF<|iQ _ (sy h8) (bC [] 1 r r r r kA (bR r aD))
    ·
     refine aH<|aR r (bU r r)<|sB r<|aG (fr':=[(2,aE),(3,aI),(10,aB)]) r r<|cG h8 r (fun b9 h9=>?_) (fun b9 h9=>?_)
     ·
      exact bF<|iQ _ (sy h9) (bC [] 1 r r r r kA (bR r aD))
     ·
      exact bB<|aR r (bU r r)<|sB r<|dM (fr':=[(2,aE),(3,aI),(10,aB)]) r<|iQ _ (sy h9) (bC [] 1 r r r r kA (bR r aD))
   ·
    intro j7 hj10
    subst hj10
    refine cG h6 r (fun b11 h11=>?_) (fun b11 h11=>?_)
    ·
     refine aH<|aR r (fV (cs:=cX) aCG r)<|bM (v:=.agg cX) (us:=cX) (cs:=cX) (σ':=[cX]) r sK r r r r r r r r<|aG (fr':=[(2,aE)]) r r<|bK<|bO<|aP ?_
     obtain rfl:=sy h11
     exact bJ (rs':=[.cell 2 139]) r<|dY (us:=cX) (cs:=cX) sK r r r r<|bI<|aN [] r r r (bQ r kR7) aD
    ·
     refine aH<|aR r (bU r r)<|sB r<|aG (fr':=[(2,aE),(3,aI),(15,aB)]) r r<|cG h11 r (fun b13 h13=>?_) (fun b13 h13=>?_)
     ·
      refine aH<|aR r (fV (cs:=cX) aCG r)<|bM (v:=.agg cX) (us:=cX) (cs:=cX) (σ':=[cX]) r sK r r r r r r r r<|aG (fr':=[(2,aE)]) r r<|bK<|bO<|aP ?_
      obtain rfl:=sy h13
      exact bJ (rs':=[.cell 2 139]) r<|dY (us:=cX) (cs:=cX) sK r r r r<|bI<|aN [] r r r (bQ r kR7) aD
     ·
      refine aH<|aR r (bU r r)<|sB r<|aG (fr':=[(2,aE),(3,aI),(18,aB)]) r r<|cG h13 r (fun b15 h15=>?_) (fun b15 h15=>?_)
      ·
       refine aH<|aR r (fV (cs:=cX) aCG r)<|bM (v:=.agg cX) (us:=cX) (cs:=cX) (σ':=[cX]) r sK r r r r r r r r<|aG (fr':=[(2,aE)]) r r<|bK<|bO<|aP ?_
       obtain rfl:=sy h15
       exact bJ (rs':=[.cell 2 139]) r<|dY (us:=cX) (cs:=cX) sK r r r r<|bI<|aN [] r r r (bQ r kR7) aD
      ·
       obtain ⟨x17,y17,h18⟩:=iW h15
       refine hH (fun j19=>x17=j19) (fun (j19:Bool)=>([(2,aE),(3,ci dN),(21,.c (.bool j19))]:Fr)) (fun (j19:Bool)=>([[.c (.bool false),.c (.bool false),.c (.bool false),.c (.bool false),.c (.bool false),.c (.bool false),.c (.bool false)]]:St)) ?_ ?_
       ·
        refine aH<|aR r (bU r r)<|sB r<|aG (fr':=[(2,aE),(3,aI),(21,aB)]) r r<|cG y17 r (fun b20 h20=>?_) (fun b20 h20=>?_)
        ·
         exact bF<|iQ _ (sy h20) (bC [] 1 r r r r kA (bR r aD))
        ·
         refine aH<|aR r (bU r r)<|sB r<|aG (fr':=[(2,aE),(3,aI),(21,aB)]) r r<|cG h20 r (fun b21 h21=>?_) (fun b21 h21=>?_)
         ·
          exact bF<|iQ _ (sy h21) (bC [] 1 r r r r kA (bR r aD))
         ·
          exact bB<|aR r (bU r r)<|sB r<|dM (fr':=[(2,aE),(3,aI),(21,aB)]) r<|iQ _ (sy h21) (bC [] 1 r r r r kA (bR r aD))
       ·
        intro j19 hj22
        subst hj22
        refine cG h18 r (fun b23 h23=>?_) (fun b23 h23=>?_)
        ·
         refine aH<|aR r (fV (cs:=cX) aCG r)<|bM (v:=.agg cX) (us:=cX) (cs:=cX) (σ':=[cX]) r sK r r r r r r r r<|aG (fr':=[(2,aE)]) r r<|bK<|bO<|aP ?_
         obtain rfl:=sy h23
         exact bJ (rs':=[.cell 2 139]) r<|dY (us:=cX) (cs:=cX) sK r r r r<|bI<|aN [] r r r (bQ r kR7) aD
        ·
         obtain ⟨x25,y25,h26⟩:=iW h23
         refine hH (fun j27=>x25=j27) (fun (j27:Bool)=>([(2,aE),(3,ci dN),(26,.c (.bool j27))]:Fr)) (fun (j27:Bool)=>([[.c (.bool false),.c (.bool false),.c (.bool false),.c (.bool false),.c (.bool false),.c (.bool false),.c (.bool false)]]:St)) ?_ ?_
         ·
          refine aH<|aR r (bU r r)<|sB r<|aG (fr':=[(2,aE),(3,aI),(26,aB)]) r r<|cG y25 r (fun b28 h28=>?_) (fun b28 h28=>?_)
          ·
           exact bF<|iQ _ (sy h28) (bC [] 1 r r r r kA (bR r aD))
          ·
           exact bB<|aR r (bU r r)<|sB r<|dM (fr':=[(2,aE),(3,aI),(26,aB)]) r<|iQ _ (sy h28) (bC [] 1 r r r r kA (bR r aD))
         ·
          intro j27 hj29
          subst hj29
          refine cG h26 r (fun b30 h30=>?_) (fun b30 h30=>?_)
          ·
           refine aH<|aR r (fV (cs:=cX) aCG r)<|bM (v:=.agg cX) (us:=cX) (cs:=cX) (σ':=[cX]) r sK r r r r r r r r<|aG (fr':=[(2,aE)]) r r<|bK<|bO<|aP ?_
           obtain rfl:=sy h30
           exact bJ (rs':=[.cell 2 139]) r<|dY (us:=cX) (cs:=cX) sK r r r r<|bI<|aN [] r r r (bQ r kR7) aD
          ·
           refine aH<|aR r (bU r r)<|sB r<|aG (fr':=[(2,aE),(3,aI),(30,aB)]) r r<|cG h30 r (fun b32 h32=>?_) (fun b32 h32=>?_)
           ·
            refine aH<|aR r (fV (cs:=cX) aCG r)<|bM (v:=.agg cX) (us:=cX) (cs:=cX) (σ':=[cX]) r sK r r r r r r r r<|aG (fr':=[(2,aE)]) r r<|bK<|bO<|aP ?_
            obtain rfl:=sy h32
            exact bJ (rs':=[.cell 2 139]) r<|dY (us:=cX) (cs:=cX) sK r r r r<|bI<|aN [] r r r (bQ r kR7) aD
           ·
            obtain ⟨x34,y34,h35⟩:=iW h32
            refine hH (fun j36=>x34=j36) (fun (j36:Bool)=>([(2,aE),(3,ci dN),(33,.c (.bool j36))]:Fr)) (fun (j36:Bool)=>([[.c (.bool false),.c (.bool false),.c (.bool false),.c (.bool false),.c (.bool false),.c (.bool false),.c (.bool false)]]:St)) ?_ ?_
            ·
             refine aH<|aR r (bU r r)<|sB r<|aG (fr':=[(2,aE),(3,aI),(33,aB)]) r r<|cG y34 r (fun b37 h37=>?_) (fun b37 h37=>?_)
             ·
              exact bF<|iQ _ (sy h37) (bC [] 1 r r r r kA (bR r aD))
             ·
              exact bB<|aR r (bU r r)<|sB r<|dM (fr':=[(2,aE),(3,aI),(33,aB)]) r<|iQ _ (sy h37) (bC [] 1 r r r r kA (bR r aD))
            ·
             intro j36 hj38
             subst hj38
             refine cG h35 r (fun b39 h39=>?_) (fun b39 h39=>?_)
             ·
              refine aH<|aR r (fV (cs:=cX) aCG r)<|bM (v:=.agg cX) (us:=cX) (cs:=cX) (σ':=[cX]) r sK r r r r r r r r<|aG (fr':=[(2,aE)]) r r<|bK<|bO<|aP ?_
              obtain rfl:=sy h39
              exact bJ (rs':=[.cell 2 139]) r<|dY (us:=cX) (cs:=cX) sK r r r r<|bI<|aN [] r r r (bQ r kR7) aD
             ·
              refine aH<|aR r (bU r r)<|sB r<|aG (fr':=[(2,aE),(3,aI),(37,aB)]) r r<|cG h39 r (fun b41 h41=>?_) (fun b41 h41=>?_)
              ·
               refine aH<|aR r (fV (cs:=cX) aCG r)<|bM (v:=.agg cX) (us:=cX) (cs:=cX) (σ':=[cX]) r sK r r r r r r r r<|aG (fr':=[(2,aE)]) r r<|bK<|bO<|aP ?_
               obtain rfl:=sy h41
               exact bJ (rs':=[.cell 2 139]) r<|dY (us:=cX) (cs:=cX) sK r r r r<|bI<|aN [] r r r (bQ r kR7) aD
              ·
               refine aH<|aR r (bU r r)<|sB r<|aG (fr':=[(2,aE),(3,aI),(40,aB)]) r r<|cG h41 r (fun b43 h43=>?_) (fun b43 h43=>?_)
               ·
                refine aH<|aR r (fV (cs:=cX) aCG r)<|bM (v:=.agg cX) (us:=cX) (cs:=cX) (σ':=[cX]) r sK r r r r r r r r<|aG (fr':=[(2,aE)]) r r<|bK<|bO<|aP ?_
                obtain rfl:=sy h43
                exact bJ (rs':=[.cell 2 139]) r<|dY (us:=cX) (cs:=cX) sK r r r r<|bI<|aN [] r r r (bQ r kR7) aD
               ·
                refine aH<|aR r (bU r r)<|sB r<|aG (fr':=[(2,aE),(3,aI),(43,aB)]) r r<|cG h43 r (fun b45 h45=>?_) (fun b45 h45=>?_)
                ·
                 refine aH<|aR r (fV (cs:=cX) aCG r)<|bM (v:=.agg cX) (us:=cX) (cs:=cX) (σ':=[cX]) r sK r r r r r r r r<|aG (fr':=[(2,aE)]) r r<|bK<|bO<|aP ?_
                 obtain rfl:=sy h45
                 exact bJ (rs':=[.cell 2 139]) r<|dY (us:=cX) (cs:=cX) sK r r r r<|bI<|aN [] r r r (bQ r kR7) aD
                ·
                 refine aH<|aR r (bU r r)<|sB r<|aG (fr':=[(2,aE),(3,aI),(46,aB)]) r r<|cG h45 r (fun b47 h47=>?_) (fun b47 h47=>?_)
                 ·
                  refine aH<|aR r (fV (cs:=cX) aCG r)<|bM (v:=.agg cX) (us:=cX) (cs:=cX) (σ':=[cX]) r sK r r r r r r r r<|aG (fr':=[(2,aE)]) r r<|bK<|bO<|aP ?_
                  obtain rfl:=sy h47
                  exact bJ (rs':=[.cell 2 139]) r<|dY (us:=cX) (cs:=cX) sK r r r r<|bI<|aN [] r r r (bQ r kR7) aD
                 ·
                  refine aH<|aR r (bU r r)<|sB r<|aG (fr':=[(2,aE),(49,aB)]) r r<|cG h47 r (fun b49 h49=>?_) (fun b49 h49=>?_)
                  ·
                   refine aH<|aR r (fV (cs:=cX) aCG r)<|bM (v:=.agg cX) (us:=cX) (cs:=cX) (σ':=[cX]) r sK r r r r r r r r<|aG (fr':=[(2,aE)]) r r<|bK<|bO<|aP ?_
                   obtain rfl:=sy h49
                   exact bJ (rs':=[.cell 2 139]) r<|dY (us:=cX) (cs:=cX) sK r r r r<|bI<|aN [] r r r (bQ r kR7) aD
                  ·
                   refine bF<|cW<|cZ<|aH<|aR r (fV (cs:=cX) aCG r)<|bM (v:=.agg cX) (us:=cX) (cs:=cX) (σ':=[cX]) r sK r r r r r r r r<|aG (fr':=[(2,aE)]) r r<|bK ?_
                   obtain rfl:=sy h49
                   exact bJ (rs':=[.cell 2 139]) r<|dY (us:=cX) (cs:=cX) sK r r r r<|bI<|aN [] r r r (bQ r kR7) aD
noncomputable def vD (p0u:kX) (p1e:dH):Option Bool :=
 (gd (((cond (cond (cond (cond (cond (cond p0u.seq_ true (decide (p1e.Seq=0))) (cond p0u.ref_ true (decide (p1e.Ref=0))) false) (cond p0u.n_ true (decide (p1e.N=0))) false) (cond p0u.code_ true (decide (p1e.Code=0))) false) (cond p0u.name_ true (decide (p1e.Name=([]:List UInt8)))) false) (cond p0u.key_ true (decide (p1e.Key=([]:List UInt8)))) false)==true)&&(p0u.data_==false)) (aCN p1e.Data (aQ.mk 0 0 ([]:List UInt8) ([]:(List aQ)) ([]:(List (List UInt8)))))).bind fun x1=>(gd ((cond (cond (cond (cond (cond (cond (cond p0u.seq_ true (decide (p1e.Seq=0))) (cond p0u.ref_ true (decide (p1e.Ref=0))) false) (cond p0u.n_ true (decide (p1e.N=0))) false) (cond p0u.code_ true (decide (p1e.Code=0))) false) (cond p0u.name_ true (decide (p1e.Name=([]:List UInt8)))) false) (cond p0u.key_ true (decide (p1e.Key=([]:List UInt8)))) false) (cond p0u.data_ true x1) false)==true) (oK p1e.Opts (dS.mk ([]:List UInt8) 0 0 0 0 0 0 0 0 ([]:(List (List UInt8)))))).bind fun x3=>some (cond (cond (cond (cond (cond (cond (cond (cond p0u.seq_ true (decide (p1e.Seq=0))) (cond p0u.ref_ true (decide (p1e.Ref=0))) false) (cond p0u.n_ true (decide (p1e.N=0))) false) (cond p0u.code_ true (decide (p1e.Code=0))) false) (cond p0u.name_ true (decide (p1e.Name=([]:List UInt8)))) false) (cond p0u.key_ true (decide (p1e.Key=([]:List UInt8)))) false) (cond p0u.data_ true x1) false) x3 false)
theorem aF4 {p0u:kX}{p1e:dH}{z:Bool} (h:vD p0u p1e=some z):cQ Tryz.prog 140 [.agg (AV.cs (aGH p0u)),.agg (AV.cs (gT p1e))] [] (.c (.bool z)) []:=by
 unfold vD at h
 refine dF (fn:=Tryz.f140) [0,1,2,3,4] (by kernel_rfl) Tryz.func140 r (by kernel_rfl) (by kernel_rfl)<|aH<|jK (v:=.agg cX) (n:=0) (cs:=cX) (σ':=[cX]) r r r r r<|jK (v:=.agg bA) (n:=1) (cs:=bA) (σ':=[cX,bA]) r r r r r<|sB r<|aG (fr':=[(2,aE),(3,aU)]) r r<|aH<|aR r (bD aOW r)<|aR r (aK (v:=aB) tv4 r r r)<|mB r<|og r r r (fun u=>(bD aDV r))<|og r r r (fun u=>(aK (v:=aI) fM (gx r u) r r))<|og r r r (fun u=>(bU (gx r u) r))<|aR r (cN r r r (fun e=>fJ e))<|mB r<|og r r r (fun u=>(bD aOX r))<|og r r r (fun u=>(aK (v:=aB) tv4 (gx r u) r r))<|og r r r (fun u=>(bN (v:=aB) (gx r u)))<|fD r r (fun u=>fS r (bD aDW r))<|fD r r (fun u=>fS r (aK (v:=aI) fM (gx r u) r r))<|fD r r (fun u=>fS r (bU (gx r u) r))<|og r r r (fun u=>(cN (gx r u) r r (fun e=>pX u (fJ e))))<|aR r (bV r r r (fun e=>fJ e))<|mB r<|og r r r (fun u=>(bD aSr r))<|og r r r (fun u=>(aK (v:=aB) tv4 (gx r u) r r))<|og r r r (fun u=>(bN (v:=aB) (gx r u)))<|fD r r (fun u=>fS r (bD aBh r))<|fD r r (fun u=>fS r (aK (v:=aI) fM (gx r u) r r))<|fD r r (fun u=>fS r (bU (gx r u) r))<|og r r r (fun u=>(cN (gx r u) r r (fun e=>pX u (fJ e))))<|aR r (bV r r r (fun e=>fJ e))<|mB r<|og r r r (fun u=>(bD aSs r))<|og r r r (fun u=>(aK (v:=aB) tv4 (gx r u) r r))<|og r r r (fun u=>(bN (v:=aB) (gx r u)))<|fD r r (fun u=>fS r (bD aDc r))<|fD r r (fun u=>fS r (aK (v:=aI) fM (gx r u) r r))<|fD r r (fun u=>fS r (bU (gx r u) r))<|og r r r (fun u=>(cN (gx r u) r r (fun e=>pX u (fJ e))))<|aR r (bV r r r (fun e=>fJ e))<|mB r<|og r r r (fun u=>(bD aSt r))<|og r r r (fun u=>(aK (v:=aB) tv4 (gx r u) r r))<|og r r r (fun u=>(bN (v:=aB) (gx r u)))<|fD r r (fun u=>fS r (bD yZ r))<|fD r r (fun u=>fS r (aK (v:=aS) lP (gx r u) r r))<|fD r r (fun u=>fS r (qX (gx r u) r))<|og r r r (fun u=>(cN (gx r u) r r (fun e=>pX u (fJ e))))<|aR r (bV r r r (fun e=>fJ e))<|mB r<|og r r r (fun u=>(bD aSu r))<|og r r r (fun u=>(aK (v:=aB) tv4 (gx r u) r r))<|og r r r (fun u=>(bN (v:=aB) (gx r u)))<|fD r r (fun u=>fS r (bD zB r))<|fD r r (fun u=>fS r (aK (v:=aS) lP (gx r u) r r))<|fD r r (fun u=>fS r (qX (gx r u) r))<|og r r r (fun u=>(cN (gx r u) r r (fun e=>pX u (fJ e))))<|aR r (bV r r r (fun e=>fJ e))<|mB r<|og r r r (fun u=>(bD aSv r))<|og r r r (fun u=>(aK (v:=aB) tv4 (gx r u) r r))<|og r r r (fun u=>(bN (v:=aB) (gx r u)))<|fD r r (fun u=>fS r (bD aBV r))<|fD r r (fun u=>fS r (dL (us:=cE) iO (gx r u) r r r))<|fD r r (fun u=>fS r (fV (cs:=cB) aFl r))<|bx h fun x1 y1 h2=>fD r r (fun u=>bL (v:=aB) r (aD9 (cU y1 u)) ⟨(eW (gx r u) (bQ r kR5)),(eW (gx r u) (bQ r ⟨r,r,r,⟨_,r⟩,⟨_,r⟩,trivial⟩)),trivial⟩ (fT (by repeat (first | exact eN | refine aY r ?_ | refine aY (pP r) ?_ | refine aY pO ?_))) r r) ?_
 refine og r r r (fun u=>(cN (gx r u) r r (fun e=>pX u (fJ e))))<|aR r (bV r r r (fun e=>fJ e))<|mB r<|og r r r (fun u=>(bD aC1 r))<|og r r r (fun u=>(dL (us:=dO) yT (gx r u) r r r))<|og r r r (fun u=>(iD (c0:=bG) (cs:=bG) aM6 r iC))<|bx h2 fun x3 y3 h4=>sX r r (fun u=>bL (v:=aB) r (yH (cU y3 u)) ⟨(eW (gx r u) (bQ r aBA)),(eW (gx r u) (bQ r ⟨r,r,r,r,r,r,r,r,r,⟨_,r⟩,trivial⟩)),trivial⟩ (fT (by repeat (first | exact eN | refine aY r ?_ | refine aY (pP r) ?_ | refine aY pO ?_))) r r) ?_
 refine aR r (bV r r r (fun e=>fJ e))<|sB r<|aG (fr':=[(4,aB)]) r r<|bK ?_
 obtain rfl:=sy h4
 exact bJ (rs':=[.tmp 4]) r<|bS (v:=aB) r<|bI<|aN [] r r r lr aD
noncomputable def aAj (aBD:(List UInt8)):Option (Int × Bool) :=
 if aBD.length≤140737488355328 then some (xE aBD) else none
theorem aFG {aBD:(List UInt8)}{z:(Int × Bool)} (h:aAj aBD=some z):cQ Tryz.prog 161 [.c (.str aBD)] [] (.tup [ci z.1,.c (.bool z.2)]) []:=by
 unfold aAj at h
 obtain ⟨hl,rfl⟩:=aQQ h
 refine aFK (by kernel_rfl) fun g w vs hv hI hg=>?_
 rw [aTA hv]
 refine (aLh hl w hI hg).mono fun e w'=>?_
 rintro ⟨rfl,hb⟩
 exact ⟨_,r,hb,fun g'=>aRi (.c (.int _ _)) (.c (.bool _))⟩
noncomputable def aBY (p0s:(List UInt8)) (s4:Int):Option (dU Int (Fl Bool Unit)) :=
 cond (decide (s4<((p0s).length:Int))) ((nG p0s s4).bind fun x6=>(gd ((decide (((x6).toNat:Int)<33))==false) (nG p0s s4)).bind fun x8=>(gd ((cond (decide (((x6).toNat:Int)<33)) true (decide (126<((x8).toNat:Int))))==false) (nG p0s s4)).bind fun x10=>(gd ((cond (cond (decide (((x6).toNat:Int)<33)) true (decide (126<((x8).toNat:Int)))) true (decide (((x10).toNat:Int)=47)))==false) (nG p0s s4)).bind fun x12=>cond (cond (cond (cond (decide (((x6).toNat:Int)<33)) true (decide (126<((x8).toNat:Int)))) true (decide (((x10).toNat:Int)=47))) true (decide (((x12).toNat:Int)=34))) (some (dU.out (Fl.done false))) (some (dU.next (IntKind.wrap .i64 (s4+1))))) (some (dU.out (Fl.go ())))
noncomputable def oS (p0s:(List UInt8)):Option Bool :=
 (fK (aBY p0s) (0)).bind fun x1=>Fl.next x1 (fun j3=>((mC ((p0s).length:Int) 1 64).bind fun x20=>some x20))
theorem aAf {p0s:(List UInt8)}{z:Bool} (h:oS p0s=some z):cQ Tryz.prog 181 [.c (.str p0s)] [] (.c (.bool z)) []:=by
 unfold oS at h
 refine dF (fn:=Tryz.f181) [0,2,3,5,6,7,30] (by kernel_rfl) Tryz.func181 r (by kernel_rfl) (by kernel_rfl)<|aH<|sB r<|aG (fr':=[(0,aS)]) r r<|aZ<|aH<|mS r<|aR r (kT uU r)<|mI r<|aG (fr':=[(0,aS),(5,aI),(6,aI)]) r r<|bx h fun x1 y1 h2=>gZ lB (fun j3=>x1=Fl.go j3) (fun (j3:Unit)=>([(0,.c (.str p0s))]:Fr)) (fun (j3:Unit)=>([]:St)) ?_ ?_
 ·
  refine cH<|gV _ (fun (s4:Int)=>([(0,.c (.str p0s)),(5,ci ((p0s).length:Int)),(6,ci s4)]:Fr)) (fun (s4:Int)=>([]:St)) y1 (bC [] 0 r r r r kA aD) ?_
  intro s4 st4 hs4 ho4
  unfold aBY at hs4
  refine aH<|aR r (gI r r)<|aG (fr':=[(0,aS),(5,aI),(6,aI),(7,aB)]) r r<|aZ<|cG hs4 r (fun b5 h5=>?_) (fun b5 h5=>?_)
  ·
   refine bF<|cZ<|aZ<|cH<|aH<|mI r<|sI r<|aG (fr':=[(0,aS),(3,aI),(5,aI),(6,aI)]) r r<|aH<|mS r<|mI r<|bx h5 fun x6 y6 h7=>aR r (aAx uU r r y6)<|aR r (gI r r)<|mB r<|og r r r (fun u=>(bN (v:=aS) r))<|og r r r (fun u=>(bN (v:=aI) r))<|bx h7 fun x8 y8 h9=>og r r r (fun u=>(aAx uU (gx r u) (gx r u) (cU y8 u)))<|og r r r (fun u=>(qW (gx r u) r))<|aR r (cN r r r (fun e=>fJ e))<|mB r<|og r r r (fun u=>(bN (v:=aS) r))<|og r r r (fun u=>(bN (v:=aI) r))<|bx h9 fun x10 y10 h11=>og r r r (fun u=>(aAx uU (gx r u) (gx r u) (cU y10 u)))<|og r r r (fun u=>(bU (gx r u) r))<|aR r (cN r r r (fun e=>fJ e))<|mB r<|og r r r (fun u=>(bN (v:=aS) r))<|og r r r (fun u=>(bN (v:=aI) r))<|bx h11 fun x12 y12 h13=>og r r r (fun u=>(aAx uU (gx r u) (gx r u) (cU y12 u)))<|og r r r (fun u=>(bU (gx r u) r))<|aR r (cN r r r (fun e=>fJ e))<|aG (fr':=[(0,aS),(5,aI),(6,aI),(30,aB)]) r r<|cG h13 r (fun b14 h14=>?_) (fun b14 h14=>?_)
   ·
    refine aH<|sB r<|aG (fr':=[(2,aB)]) r r<|bK<|bO<|aP<|aP<|bO<|aP<|aP ?_
    have h15:=eR h14 ho4
    have h16:=fL h15 h2
    obtain rfl:=sy h16
    exact bJ (rs':=[.tmp 2]) r<|bS (v:=aB) r<|bI<|aN [] r r r lr aD
   ·
    exact bF<|cW<|cZ<|bB<|aR r (gC r r)<|mI r<|dM (fr':=[(0,aS),(5,aI),(6,aI),(30,aB)]) r<|zO _ (sy h14) (bC [] 0 r r r r kA aD)
  ·
   refine hG<|cY<|cY<|fP ?_
   have h18:=eR h5 ho4
   exact iQ _ (sy h18) (bC [] 0 r r r r ⟨lr,trivial⟩ aD)
 ·
  intro j3 hj19
  have h19:=lV hj19 h2
  refine cZ<|aH<|mS r<|aR r (kT uU r)<|bx h19 fun x20 y20 h21=>lS (bL (v:=aB) r (nD y20) kA r r r)<|sB r<|aG (fr':=[(2,aB)]) r r<|bK ?_
  obtain rfl:=sy h21
  exact bJ (rs':=[.tmp 2]) r<|bS (v:=aB) r<|bI<|aN [] r r r lr aD
noncomputable def xP (x5:aQ) (s10:Int):Option (dU Int (Fl Bool Unit)) :=
 cond (decide (s10<((x5.Items).length:Int))) ((nG x5.Items s10).bind fun x12=>(gd ((cond (!decide (x12.Kind=4)) true (!decide (((x12.Items).length:Int)=2)))==false) (nG x12.Items 0)).bind fun x14=>(gd ((cond (cond (!decide (x12.Kind=4)) true (!decide (((x12.Items).length:Int)=2))) true (!decide (x14.Kind=3)))==false) (nG x12.Items 0)).bind fun x16=>(gd ((cond (cond (!decide (x12.Kind=4)) true (!decide (((x12.Items).length:Int)=2))) true (!decide (x14.Kind=3)))==false) (sW x16.Text)).bind fun x18=>cond (cond (cond (cond (!decide (x12.Kind=4)) true (!decide (((x12.Items).length:Int)=2))) true (!decide (x14.Kind=3))) true (!x18)) (some (dU.out (Fl.done false))) (some (dU.next (IntKind.wrap .i64 (s10+1))))) (some (dU.out (Fl.go ())))
noncomputable def aBz (p0v:aQ):Option Bool :=
 (gd ((cond (!decide (p0v.Kind=4)) true (!decide (((p0v.Items).length:Int)=2)))==false) (nG p0v.Items 1)).bind fun x1=>cond (cond (cond (!decide (p0v.Kind=4)) true (!decide (((p0v.Items).length:Int)=2))) true (!decide (x1.Kind=4))) (some false) ((nG p0v.Items 1).bind fun x5=>(fK (xP x5) (0)).bind fun x7=>Fl.next x7 (fun j9=>(some true)))
theorem aKe {p0v:aQ}{z:Bool} (h:aBz p0v=some z):cQ Tryz.prog 182 [.agg (AV.cs (fA p0v))] [] (.c (.bool z)) []:=by
 unfold aBz at h
 refine dF (fn:=Tryz.f182) [0,1,2,4,21,26,27,28,29,57] (by kernel_rfl) Tryz.func182 r (by kernel_rfl) (by kernel_rfl)<|aH<|jK (v:=.agg cE) (n:=0) (cs:=cE) (σ':=[cE]) r r r r r<|sB r<|aG (fr':=[(1,aE)]) r r<|aZ<|aH<|aR r (bD mE r)<|aR r (aK (v:=aI) fM r r r)<|aR r (iS r r)<|mB r<|og r r r (fun u=>(bD iJ r))<|og r r r (fun u=>(aK (v:=aL) nS (gx r u) r r))<|og r r r (fun u=>(hZ vX (eK (gx r u))))<|og r r r (fun u=>(iS (gx r u) r))<|aR r (cN r r r (fun e=>fJ e))<|mB r<|og r r r (fun u=>(bD iJ r))<|og r r r (fun u=>(aK (v:=aL) nS (gx r u) r r))<|bx h fun x1 y1 h2=>og r r r (fun u=>(lF (cs:=[PV.int _ _,PV.int _ _,PV.str _,PV.ls _ _ _,PV.ls _ _ _]) uV (eK (gx r u)) r (cU y1 u) (eJ _)))<|og r r r (fun u=>(zI mE (gx r u)))<|og r r r (fun u=>(gP (p:=PV.int _ _) fM (gx r u) r))<|og r r r (fun u=>(iS (gx r u) r))<|aR r (cN r r r (fun e=>fJ e))<|aG (fr':=[(1,aE),(21,aB)]) r r<|cG h2 r (fun b3 h3=>?_) (fun b3 h3=>?_)
 ·
  refine aH<|sB r<|aG (fr':=[(2,aB)]) r r<|bK<|aP ?_
  obtain rfl:=sy h3
  exact bJ (rs':=[.tmp 2]) r<|bS (v:=aB) r<|bI<|aN [] r r r lr aD
 ·
  refine bF<|cZ<|aZ<|aH<|aR r (bD iJ r)<|aR r (aK (v:=aL) nS r r r)<|bx h3 fun x5 y5 h6=>aR r (lF (cs:=[PV.int _ _,PV.int _ _,PV.str _,PV.ls _ _ _,PV.ls _ _ _]) uV (eK r) r y5 (eJ _))<|aR r (zI iJ r)<|aR r (gP (p:=PV.ls _ _ _) nS r r)<|aR r (hZ vX (eK r))<|mI r<|aG (fr':=[(26,aL),(27,aI),(28,aI)]) r r<|bx h6 fun x7 y7 h8=>gZ lB (fun j9=>x7=Fl.go j9) (fun (j9:Unit)=>([]:Fr)) (fun (j9:Unit)=>([[ci p0v.Kind,ci p0v.Int,.c (.str p0v.Text),.c (PV.ls 5 bT p0v.Items),.c (PV.ls 1 fI p0v.Keys)]]:St)) ?_ ?_
  ·
   refine cH<|gV _ (fun (s10:Int)=>([(26,.c (PV.ls 5 bT x5.Items)),(27,ci ((x5.Items).length:Int)),(28,ci s10)]:Fr)) (fun (s10:Int)=>([[ci p0v.Kind,ci p0v.Int,.c (.str p0v.Text),.c (PV.ls 5 bT p0v.Items),.c (PV.ls 1 fI p0v.Keys)]]:St)) y7 (bC [] 1 r r r r kA (bR r aD)) ?_
   intro s10 st10 hs10 ho10
   unfold xP at hs10
   refine aH<|aR r (gI r r)<|aG (fr':=[(26,aL),(27,aI),(28,aI),(29,aB)]) r r<|aZ<|cG hs10 r (fun b11 h11=>?_) (fun b11 h11=>?_)
   ·
    refine bF<|cZ<|aZ<|cH<|aZ<|bB<|bx h11 fun x12 y12 h13=>aR r (lF (cs:=[PV.int _ _,PV.int _ _,PV.str _,PV.ls _ _ _,PV.ls _ _ _]) uV (eK r) r y12 (eJ _))<|aR r (lT (us:=[PV.int _ _,PV.int _ _,PV.str _,PV.ls _ _ _,PV.ls _ _ _]) iO r r r)<|hO (n:=1) (cs:=cB) (σ':=[cE,cB]) aD2 r r r<|bM (v:=.agg cE) (us:=cE) (cs:=cB) (σ':=[cE,cE]) r iO r r r r r r r r<|aG (fr':=[(4,aU),(26,aL),(27,aI),(28,aI)]) r r<|aH<|aR r (bD mE r)<|aR r (aK (v:=aI) fM r r r)<|aR r (iS r r)<|mB r<|og r r r (fun u=>(bD iJ r))<|og r r r (fun u=>(aK (v:=aL) nS (gx r u) r r))<|og r r r (fun u=>(hZ vX (eK (gx r u))))<|og r r r (fun u=>(iS (gx r u) r))<|aR r (cN r r r (fun e=>fJ e))<|mB r<|og r r r (fun u=>(bD iJ r))<|og r r r (fun u=>(aK (v:=aL) nS (gx r u) r r))<|bx h13 fun x14 y14 h15=>og r r r (fun u=>(lF (cs:=[PV.int _ _,PV.int _ _,PV.str _,PV.ls _ _ _,PV.ls _ _ _]) uV (eK (gx r u)) r (cU y14 u) (eJ _)))<|og r r r (fun u=>(zI mE (gx r u)))<|og r r r (fun u=>(gP (p:=PV.int _ _) fM (gx r u) r))<|og r r r (fun u=>(iS (gx r u) r))<|aR r (cN r r r (fun e=>fJ e))<|mB r<|og r r r (fun u=>(bD iJ r))<|og r r r (fun u=>(aK (v:=aL) nS (gx r u) r r))<|bx h15 fun x16 y16 h17=>og r r r (fun u=>(lF (cs:=[PV.int _ _,PV.int _ _,PV.str _,PV.ls _ _ _,PV.ls _ _ _]) uV (eK (gx r u)) r (cU y16 u) (eJ _)))<|og r r r (fun u=>(zI uP (gx r u)))<|og r r r (fun u=>(gP (p:=PV.str _) lP (gx r u) r))<|bx h17 fun x18 y18 h19=>sX r r (fun u=>bL (v:=aB) r (wC (cU y18 u)) ⟨(eW (gx r u) lr),trivial⟩ (fT (by repeat (first | exact eN | refine aY r ?_ | refine aY (pP r) ?_ | refine aY pO ?_))) r r) ?_
    refine og r r r (fun u=>(fE (gx r u)))<|aR r (cN r r r (fun e=>fJ e))<|aG (fr':=[(26,aL),(27,aI),(28,aI),(57,aB)]) r r<|cG h19 r (fun b20 h20=>?_) (fun b20 h20=>?_)
    ·
     refine aH<|sB r<|aG (fr':=[(2,aB)]) r r<|bK<|bO<|aP<|aP<|bO<|aP<|aP ?_
     have h21:=eR h20 ho10
     have h22:=fL h21 h8
     obtain rfl:=sy h22
     exact bJ (rs':=[.tmp 2]) r<|bS (v:=aB) r<|bI<|aN [] r r r lr aD
    ·
     exact bF<|cW<|cZ<|bB<|aR r (gC r r)<|mI r<|dM (fr':=[(26,aL),(27,aI),(28,aI),(57,aB)]) r<|zO _ (sy h20) (bC [] 1 r r r r kA (bR r aD))
   ·
    refine hG<|cY<|cY<|fP ?_
    have h24:=eR h11 ho10
    exact iQ _ (sy h24) (bC [] 1 r r r r trivial (bR r aD))
  ·
   intro j9 hj25
   have h25:=lV hj25 h8
   refine cZ<|aH<|sB r<|aG (fr':=[(2,aB)]) r r<|bK ?_
   obtain rfl:=sy h25
   exact bJ (rs':=[.tmp 2]) r<|bS (v:=aB) r<|bI<|aN [] r r r lr aD
