import Derived.Test.YtnigjppddilpcaaGreatDoorGETy
import Derived.Test.YtnigjppddilpcaaGreatDoorGEF0
import Derived.Test.YtnigjppddilpcaaGreatDoorGEF1
import Derived.Test.YtnigjppddilpcaaGreatDoorGEF2
namespace Go.Proofs.YtnigjppddilpcaaGreatDoor
open Go Abs
set_option maxRecDepth 100000
set_option linter.unusedVariables false
set_option linter.unusedSimpArgs false
noncomputable def gJ (p0s:(List aK)) (s4:Int):Option (dU Int (Fl Int Unit)) :=
 cond (decide (s4<((p0s).length:Int))) ((mP p0s s4).bind fun x6=>(wA x6).bind fun x8=>cond x8 (some (dU.out (Fl.done s4))) (some (dU.next (IntKind.wrap .i64 (s4+1))))) (some (dU.out (Fl.go ())))
noncomputable def iP (p0s:(List aK)):Option Int :=
 (gL (gJ p0s) (0)).bind fun x1=>Fl.next x1 (fun j3=>(some (-1)))
theorem rC {p0s:(List aK)}{z:Int} (h:iP p0s=some z):cR Tryz.prog 205 [.c (PV.ls 5 bO p0s),.fn 216 []] [] (ci z) []:=by
 unfold iP at h
 refine dQ (fn:=Tryz.f205) [0,1,4,5,7,8,9,16] (by kernel_rfl) Tryz.func205 r (by kernel_rfl) (by kernel_rfl)<|aH<|sI r<|aG (fr':=[(0,aL),(1,.fn _ [])]) r r<|aU<|aH<|mL r<|aN r (gQ vC (eD r))<|mI r<|aG (fr':=[(0,aL),(1,.fn _ []),(7,aI),(8,aI)]) r r<|bx h fun x1 y1 h2=>gY kS (fun j3=>x1=Fl.go j3) (fun (j3:Unit)=>([]:Fr)) (fun (j3:Unit)=>([]:St)) ?_ ?_
 ·
  refine cE<|gU _ (fun (s4:Int)=>([(0,.c (PV.ls 5 bO p0s)),(1,.fn 216 []),(7,ci ((p0s).length:Int)),(8,ci s4)]:Fr)) (fun (s4:Int)=>([]:St)) y1 (bH [] 0 r r r r kL4 aC) ?_
  intro s4 st4 hs4 ho4
  unfold gJ at hs4
  refine aH<|aN r (gC r r)<|aG (fr':=[(0,aL),(1,.fn _ []),(7,aI),(8,aI),(9,aB)]) r r<|aU<|cN hs4 r (fun b5 h5=>?_) (fun b5 h5=>?_)
  ·
   refine bL<|cY<|aU<|cE<|aH<|mI r<|sI r<|aG (fr':=[(0,aL),(1,.fn _ []),(5,aI),(7,aI),(8,aI)]) r r<|aH<|mV (v:=.fn _ []) r<|mL r<|mI r<|bx h5 fun x6 y6 h7=>aN r (lT (cs:=[PV.int _ _,PV.int _ _,PV.str _,PV.ls _ _ _,PV.ls _ _ _]) uW (eD r) r y6 (eA _))<|aN r (kT (us:=[PV.int _ _,PV.int _ _,PV.str _,PV.ls _ _ _,PV.ls _ _ _]) jC r r r)<|bx h7 fun x8 y8 h9=>kB (bC (v:=aB) r (aHa y8) ⟨(bQ r zA),trivial⟩ r r r)<|aG (fr':=[(0,aL),(1,.fn _ []),(5,aI),(7,aI),(8,aI),(16,aB)]) r r<|cN h9 r (fun b10 h10=>?_) (fun b10 h10=>?_)
   ·
    refine aH<|mI r<|sI r<|aG (fr':=[(4,aI)]) r r<|bJ<|bM<|aQ<|aQ<|bM<|aQ<|aQ ?_
    have h11:=eZ h10 ho4
    have h12:=gT h11 h2
    obtain rfl:=sy h12
    exact bI (rs':=[.tmp 4]) r<|bX (v:=aI) r<|bG<|aP [] r r r lr aC
   ·
    exact bL<|dH<|cY<|bA<|aN r (fY r r)<|mI r<|dT (fr':=[(0,aL),(1,.fn _ []),(5,aI),(7,aI),(8,aI),(16,aB)]) r<|e_l _ (sy h10) (bH [] 0 r r r r kL4 aC)
  ·
   refine iA<|cX<|cX<|fS ?_
   have h14:=eZ h5 ho4
   exact kI _ (sy h14) (bH [] 0 r r r r trivial aC)
 ·
  intro j3 hj15
  have h15:=mY hj15 h2
  refine cY<|aH<|sI r<|aG (fr':=[(4,aI)]) r r<|bJ ?_
  obtain rfl:=sy h15
  exact bI (rs':=[.tmp 4]) r<|bX (v:=aI) r<|bG<|aP [] r r r lr aC
noncomputable def gH (p0s:(List aK)):Option Bool :=
 (iP p0s).bind fun x1=>some (decide (0≤x1))
theorem pV {p0s:(List aK)}{z:Bool} (h:gH p0s=some z):cR Tryz.prog 176 [.c (PV.ls 5 bO p0s),.fn 216 []] [] (.c (.bool z)) []:=by
 unfold gH at h
 refine dQ (fn:=Tryz.f176) [0,1,4] (by kernel_rfl) Tryz.func176 r (by kernel_rfl) (by kernel_rfl)<|aH<|sB r<|aG (fr':=[(0,aL),(1,.fn _ [])]) r r<|aH<|mL r<|mV (v:=.fn _ []) r<|bx h fun x1 y1 h2=>kB (bC (v:=aI) r (rC y1) kU r r r)<|aN r (qR r r)<|sB r<|aG (fr':=[(4,aB)]) r r<|bJ ?_
 obtain rfl:=sy h2
 exact bI (rs':=[.tmp 4]) r<|bX (v:=aB) r<|bG<|aP [] r r r lr aC
noncomputable def zE (p0v:aK):Option Bool :=
 (gd ((cond (!decide (p0v.Kind=4)) true (!decide (((p0v.Items).length:Int)=2)))==false) (mP p0v.Items 1)).bind fun x1=>cond (cond (cond (!decide (p0v.Kind=4)) true (!decide (((p0v.Items).length:Int)=2))) true (!decide (x1.Kind=4))) (some false) ((mP p0v.Items 1).bind fun x5=>(gH x5.Items).bind fun x7=>some (!x7))
theorem aIQ {p0v:aK}{z:Bool} (h:zE p0v=some z):cR Tryz.prog 200 [.agg (AV.cs (fA p0v))] [] (.c (.bool z)) []:=by
 unfold zE at h
 refine dQ (fn:=Tryz.f200) [0,1,2,19] (by kernel_rfl) Tryz.func200 r (by kernel_rfl) (by kernel_rfl)<|aH<|iR (v:=.agg cH) (n:=0) (cs:=cH) (σ':=[cH]) r r r r r<|sB r<|aG (fr':=[(1,aD)]) r r<|aU<|aH<|aN r (bE lU r)<|aN r (aJ (v:=aI) gA r r r)<|aN r (iY r r)<|mB r<|og r r r (fun u=>(bE iH r))<|og r r r (fun u=>(aJ (v:=aL) nJ (gx r u) r r))<|og r r r (fun u=>(gQ vC (eD (gx r u))))<|og r r r (fun u=>(iY (gx r u) r))<|aN r (cM r r r (fun e=>fU e))<|mB r<|og r r r (fun u=>(bE iH r))<|og r r r (fun u=>(aJ (v:=aL) nJ (gx r u) r r))<|bx h fun x1 y1 h2=>og r r r (fun u=>(lT (cs:=[PV.int _ _,PV.int _ _,PV.str _,PV.ls _ _ _,PV.ls _ _ _]) uW (eD (gx r u)) r (cZ y1 u) (eA _)))<|og r r r (fun u=>(zF lU (gx r u)))<|og r r r (fun u=>(iO (p:=PV.int _ _) gA (gx r u) r))<|og r r r (fun u=>(iY (gx r u) r))<|aN r (cM r r r (fun e=>fU e))<|aG (fr':=[(1,aD),(19,aB)]) r r<|cN h2 r (fun b3 h3=>?_) (fun b3 h3=>?_)
 ·
  refine aH<|sB r<|aG (fr':=[(2,aB)]) r r<|bJ<|aQ ?_
  obtain rfl:=sy h3
  exact bI (rs':=[.tmp 2]) r<|bX (v:=aB) r<|bG<|aP [] r r r lr aC
 ·
  refine bL<|cY<|aH<|aN r (bE iH r)<|aN r (aJ (v:=aL) nJ r r r)<|bx h3 fun x5 y5 h6=>aN r (lT (cs:=[PV.int _ _,PV.int _ _,PV.str _,PV.ls _ _ _,PV.ls _ _ _]) uW (eD r) r y5 (eA _))<|aN r (zF iH r)<|aN r (iO (p:=PV.ls _ _ _) nJ r r)<|bx h6 fun x7 y7 h8=>kB (bC (v:=aB) r (pV y7) kU r r r)<|aN r (fP r)<|sB r<|aG (fr':=[(2,aB)]) r r<|bJ ?_
  obtain rfl:=sy h8
  exact bI (rs':=[.tmp 2]) r<|bX (v:=aB) r<|bG<|aP [] r r r lr aC
noncomputable def xI (p0c:cK):Option Bool :=
 cond (decide (p0c.Kind=3)) ((nE p0c.N 1 1099511627776).bind fun x2=>some x2) (cond (decide (p0c.Kind=5)) ((nE p0c.N 0 2).bind fun x6=>some x6) (cond (decide (p0c.Kind=9)) ((nE p0c.N 0 1).bind fun x10=>some x10) (cond (decide (p0c.Kind=7)) ((gd ((decide (p0c.N=(-1)))==false) (nE p0c.N 0 2147483647)).bind fun x14=>some (cond (decide (p0c.N=(-1))) true (cond x14 (decide (p0c.Data.Kind=0)) false))) (cond (decide (p0c.Kind=10)) (some (decide (p0c.Data.Kind=5))) (cond (decide (p0c.Kind=14)) ((zE p0c.Data).bind fun x20=>some x20) (some true))))))
theorem aHY {p0c:cK}{z:Bool} (h:xI p0c=some z):cR Tryz.prog 168 [.agg (AV.cs (eV p0c))] [] (.c (.bool z)) []:=by
 unfold xI at h
 refine dQ (fn:=Tryz.f168) [0,1,2,4,5,10,15,20,36,42] (by kernel_rfl) Tryz.func168 r (by kernel_rfl) (by kernel_rfl)<|aH<|iR (v:=.agg aW) (n:=0) (cs:=aW) (σ':=[aW]) r r r r r<|sB r<|aG (fr':=[(1,aD)]) r r<|aU<|aH<|aN r (bE sN r)<|aN r (aJ (v:=aI) gA r r r)<|aG (fr':=[(1,aD),(4,aI)]) r r<|cE<|aH<|aN r (cC r r)<|sB r<|aG (fr':=[(1,aD),(4,aI),(5,aB)]) r r<|cN h r (fun b1 h1=>?_) (fun b1 h1=>?_)
 ·
  refine aH<|aN r (bE uI r)<|aN r (aJ (v:=aI) gA r r r)<|bx h1 fun x2 y2 h3=>kB (bC (v:=aB) r (oP y2) lG r r r)<|sB r<|aG (fr':=[(2,aB)]) r r<|bJ<|bM<|aQ ?_
  obtain rfl:=sy h3
  exact bI (rs':=[.tmp 2]) r<|bX (v:=aB) r<|bG<|aP [] r r r lr aC
 ·
  refine aH<|aN r (cC r r)<|sB r<|aG (fr':=[(1,aD),(4,aI),(10,aB)]) r r<|cN h1 r (fun b5 h5=>?_) (fun b5 h5=>?_)
  ·
   refine aH<|aN r (bE uI r)<|aN r (aJ (v:=aI) gA r r r)<|bx h5 fun x6 y6 h7=>kB (bC (v:=aB) r (oP y6) lG r r r)<|sB r<|aG (fr':=[(2,aB)]) r r<|bJ<|bM<|aQ ?_
   obtain rfl:=sy h7
   exact bI (rs':=[.tmp 2]) r<|bX (v:=aB) r<|bG<|aP [] r r r lr aC
  ·
   refine aH<|aN r (cC r r)<|sB r<|aG (fr':=[(1,aD),(4,aI),(15,aB)]) r r<|cN h5 r (fun b9 h9=>?_) (fun b9 h9=>?_)
   ·
    refine aH<|aN r (bE uI r)<|aN r (aJ (v:=aI) gA r r r)<|bx h9 fun x10 y10 h11=>kB (bC (v:=aB) r (oP y10) lG r r r)<|sB r<|aG (fr':=[(2,aB)]) r r<|bJ<|bM<|aQ ?_
    obtain rfl:=sy h11
    exact bI (rs':=[.tmp 2]) r<|bX (v:=aB) r<|bG<|aP [] r r r lr aC
   ·
    refine aH<|aN r (cC r r)<|sB r<|aG (fr':=[(1,aD),(4,aI),(20,aB)]) r r<|cN h9 r (fun b13 h13=>?_) (fun b13 h13=>?_)
    ·
     refine aH<|aN r (bE uI r)<|aN r (aJ (v:=aI) gA r r r)<|aN r (cC r r)<|mB r<|og r r r (fun u=>(bE uI r))<|og r r r (fun u=>(aJ (v:=aI) gA (gx r u) r r))<|bx h13 fun x14 y14 h15=>uP r r (fun u=>bC (v:=aB) r (oP (cZ y14 u)) ⟨(fH (gx r u) lr),lr,lr,trivial⟩ (gO (by repeat (first | exact fC | refine aZ r ?_ | refine aZ (rG r) ?_ | refine aZ rF ?_))) r r) ?_
     refine og r r r (fun u=>(bS (v:=aB) (gx r u)))<|fI r r (fun u=>fT r (bE xC r))<|fI r r (fun u=>fT r (bE lU (gx r u)))<|fI r r (fun u=>fT r (aJ (v:=aI) gA (gx r u) r r))<|fI r r (fun u=>fT r (cC (gx r u) r))<|og r r r (fun u=>(cB (gx r u) r r (fun e=>qC u (fU e))))<|aN r (cM r r r (fun e=>fU e))<|sB r<|aG (fr':=[(2,aB)]) r r<|bJ<|bM<|aQ ?_
     obtain rfl:=sy h15
     exact bI (rs':=[.tmp 2]) r<|bX (v:=aB) r<|bG<|aP [] r r r lr aC
    ·
     refine aH<|aN r (cC r r)<|sB r<|aG (fr':=[(1,aD),(4,aI),(36,aB)]) r r<|cN h13 r (fun b17 h17=>?_) (fun b17 h17=>?_)
     ·
      refine aH<|aN r (bE xC r)<|aN r (bE lU r)<|aN r (aJ (v:=aI) gA r r r)<|aN r (cC r r)<|sB r<|aG (fr':=[(2,aB)]) r r<|bJ<|bM<|aQ ?_
      obtain rfl:=sy h17
      exact bI (rs':=[.tmp 2]) r<|bX (v:=aB) r<|bG<|aP [] r r r lr aC
     ·
      refine aH<|aN r (cC r r)<|sB r<|aG (fr':=[(1,aD),(42,aB)]) r r<|cN h17 r (fun b19 h19=>?_) (fun b19 h19=>?_)
      ·
       refine aH<|aN r (bE xC r)<|aN r (dN (us:=cH) jC r r r r)<|bx h19 fun x20 y20 h21=>kB (bC (v:=aB) r (aIQ y20) ⟨(bQ r zA),trivial⟩ r r r)<|sB r<|aG (fr':=[(2,aB)]) r r<|bJ<|bM<|aQ ?_
       obtain rfl:=sy h21
       exact bI (rs':=[.tmp 2]) r<|bX (v:=aB) r<|bG<|aP [] r r r lr aC
      ·
       refine bL<|dH<|cY<|aH<|sB r<|aG (fr':=[(2,aB)]) r r<|bJ ?_
       obtain rfl:=sy h19
       exact bI (rs':=[.tmp 2]) r<|bX (v:=aB) r<|bG<|aP [] r r r lr aC
noncomputable def rP (p0c:cK):Option Bool :=
 (xH p0c.Kind).bind fun x1=>(nE p0c.Kind 1 14).bind fun x3=>(gd ((!x3)==false) (aAo p0c x1)).bind fun x5=>(gd ((cond (!x3) true (!x5))==false) (vF p0c.Data)).bind fun x7=>(gd ((cond (cond (!x3) true (!x5)) true (!x7))==false) (nD p0c.Opts)).bind fun x9=>cond (cond (cond (cond (!x3) true (!x5)) true (!x7)) true (!x9)) (some false) ((gd (x1.seq_==true) (nE p0c.Seq 1 2000)).bind fun x13=>(gd (((cond x1.seq_ (!x13) false)==false)&&(x1.key_==true)) (tU p0c.Key)).bind fun x15=>cond (cond (cond x1.seq_ (!x13) false) true (cond x1.key_ (!x15) false)) (some false) ((gd (((x1.name_==true)&&((cond (decide (p0c.Kind=12)) (decide (4096<((p0c.Name).length:Int))) false)==false))&&((!decide (p0c.Kind=12))==true)) (rY p0c.Name)).bind fun x19=>cond (cond x1.name_ (cond (cond (decide (p0c.Kind=12)) (decide (4096<((p0c.Name).length:Int))) false) true (cond (!decide (p0c.Kind=12)) (!x19) false)) false) (some false) ((xI p0c).bind fun x23=>some x23)))
theorem zU {p0c:cK}{z:Bool} (h:rP p0c=some z):cR Tryz.prog 106 [.agg (AV.cs (eV p0c))] [] (.c (.bool z)) []:=by
 unfold rP at h
 refine dQ (fn:=Tryz.f106) [0,1,2,3,28,46,70] (by kernel_rfl) Tryz.func106 r (by kernel_rfl) (by kernel_rfl)<|aH<|iR (v:=.agg aW) (n:=0) (cs:=aW) (σ':=[aW]) r r r r r<|sB r<|aG (fr':=[(1,aD)]) r r<|aH<|aN r (bE sN r)<|aN r (aJ (v:=aI) gA r r r)<|bx h fun x1 y1 h2=>kB (bC (v:=.agg eY) r (aHX y1) ⟨lr,trivial⟩ r r r)<|jT (n:=1) (cs:=eY) (σ':=[aW,eY]) aSN r r r<|cD (v:=.agg eY) (us:=eY) (cs:=eY) (σ':=[aW,eY]) r yU r r r r r r r r<|aG (fr':=[(1,aD),(3,bK)]) r r<|aU<|aH<|aN r (bE sN r)<|aN r (aJ (v:=aI) gA r r r)<|bx h2 fun x3 y3 h4=>kB (bC (v:=aB) r (oP y3) lG r r r)<|aN r (fP r)<|mB r<|og r r r (fun u=>(dN (us:=aW) uX r r r r))<|og r r r (fun u=>(dN (us:=eY) yU r r r r))<|bx h4 fun x5 y5 h6=>uP r r (fun u=>bC (v:=aB) r (aKp (cZ y5 u)) ⟨(fH (gx r u) (bQ r aFh)),(fH (gx r u) (bQ r kR6)),trivial⟩ (gO (by repeat (first | exact fC | refine aZ r ?_ | refine aZ (rG r) ?_ | refine aZ rF ?_))) r r) ?_
 refine og r r r (fun u=>(fP (gx r u)))<|aN r (cM r r r (fun e=>fU e))<|mB r<|og r r r (fun u=>(bE xC r))<|og r r r (fun u=>(dN (us:=cH) jC (gx r u) r r r))<|bx h6 fun x7 y7 h8=>uP r r (fun u=>bC (v:=aB) r (aBi (cZ y7 u)) ⟨(fH (gx r u) (bQ r zA)),trivial⟩ (gO (by repeat (first | exact fC | refine aZ r ?_ | refine aZ (rG r) ?_ | refine aZ rF ?_))) r r) ?_
 refine og r r r (fun u=>(fP (gx r u)))<|aN r (cM r r r (fun e=>fU e))<|mB r<|og r r r (fun u=>(bE aBV r))<|og r r r (fun u=>(dN (us:=dE) aAm (gx r u) r r r))<|bx h8 fun x9 y9 h10=>uP r r (fun u=>bC (v:=aB) r (wS (cZ y9 u)) ⟨(fH (gx r u) (bQ r zX)),trivial⟩ (gO (by repeat (first | exact fC | refine aZ r ?_ | refine aZ (rG r) ?_ | refine aZ rF ?_))) r r) ?_
 refine og r r r (fun u=>(fP (gx r u)))<|aN r (cM r r r (fun e=>fU e))<|aG (fr':=[(1,aD),(3,bK),(28,aB)]) r r<|cN h10 r (fun b11 h11=>?_) (fun b11 h11=>?_)
 ·
  refine aH<|sB r<|aG (fr':=[(2,aB)]) r r<|bJ<|aQ ?_
  obtain rfl:=sy h11
  exact bI (rs':=[.tmp 2]) r<|bX (v:=aB) r<|bG<|aP [] r r r lr aC
 ·
  refine bL<|cY<|aU<|aH<|aN r (bE aP9 r)<|aN r (aJ (v:=aB) tv4 r r r)<|mB r<|og r r r (fun u=>(bE aCS r))<|og r r r (fun u=>(aJ (v:=aI) gA (gx r u) r r))<|bx h11 fun x13 y13 h14=>uP r r (fun u=>bC (v:=aB) r (oP (cZ y13 u)) ⟨(fH (gx r u) lr),lr,lr,trivial⟩ (gO (by repeat (first | exact fC | refine aZ r ?_ | refine aZ (rG r) ?_ | refine aZ rF ?_))) r r) ?_
  refine og r r r (fun u=>(fP (gx r u)))<|aN r (cB r r r (fun e=>fU e))<|mB r<|og r r r (fun u=>(bE aQb r))<|og r r r (fun u=>(aJ (v:=aB) tv4 (gx r u) r r))<|og r r r (fun u=>(bS (v:=aB) (gx r u)))<|fI r r (fun u=>fT r (bE aCT r))<|fI r r (fun u=>fT r (aJ (v:=aS) mG (gx r u) r r))<|bx h14 fun x15 y15 h16=>fI r r (fun u=>bC (v:=aB) r (aIP (cZ y15 u)) ⟨(fH (gx r u) lr),trivial⟩ (gO (by repeat (first | exact fC | refine aZ r ?_ | refine aZ (rG r) ?_ | refine aZ rF ?_))) r r) ?_
  refine fI r r (fun u=>fT r (fP (gx r u)))<|og r r r (fun u=>(cB (gx r u) r r (fun e=>qC u (fU e))))<|aN r (cM r r r (fun e=>fU e))<|aG (fr':=[(1,aD),(3,bK),(46,aB)]) r r<|cN h16 r (fun b17 h17=>?_) (fun b17 h17=>?_)
  ·
   refine aH<|sB r<|aG (fr':=[(2,aB)]) r r<|bJ<|aQ ?_
   obtain rfl:=sy h17
   exact bI (rs':=[.tmp 2]) r<|bX (v:=aB) r<|bG<|aP [] r r r lr aC
  ·
   refine bL<|cY<|aU<|aH<|aN r (bE aQa r)<|aN r (aJ (v:=aB) tv4 r r r)<|mB r<|og r r r (fun u=>(bE sN r))<|og r r r (fun u=>(aJ (v:=aI) gA (gx r u) r r))<|og r r r (fun u=>(cC (gx r u) r))<|og r r r (fun u=>(bS (v:=aB) (gx r u)))<|fI r r (fun u=>fT r (bE aBd r))<|fI r r (fun u=>fT r (aJ (v:=aS) mG (gx r u) r r))<|fI r r (fun u=>fT r (kV uD (gx r u)))<|fI r r (fun u=>fT r (sP (gx r u) r))<|og r r r (fun u=>(cB (gx r u) r r (fun e=>qC u (fU e))))<|og r r r (fun u=>(bS (v:=aB) (gx r u)))<|fI r r (fun u=>fT r (bE sN r))<|fI r r (fun u=>fT r (aJ (v:=aI) gA (gx r u) r r))<|fI r r (fun u=>fT r (iY (gx r u) r))<|fI r r (fun u=>fT r (bS (v:=aB) (gx r u)))<|fI r r (fun u=>fT r (bE aBd r))<|fI r r (fun u=>fT r (aJ (v:=aS) mG (gx r u) r r))<|bx h17 fun x19 y19 h20=>fI r r (fun u=>bC (v:=aB) r (vV (cZ y19 u)) ⟨(fH (gx r u) lr),trivial⟩ (gO (by repeat (first | exact fC | refine aZ r ?_ | refine aZ (rG r) ?_ | refine aZ rF ?_))) r r) ?_
   refine fI r r (fun u=>fT r (fP (gx r u)))<|fI r r (fun u=>fT r (cB (gx r u) r r (fun e=>qC u (fU e))))<|og r r r (fun u=>(cM (gx r u) r r (fun e=>qC u (fU e))))<|aN r (cB r r r (fun e=>fU e))<|aG (fr':=[(1,aD),(70,aB)]) r r<|cN h20 r (fun b21 h21=>?_) (fun b21 h21=>?_)
   ·
    refine aH<|sB r<|aG (fr':=[(2,aB)]) r r<|bJ<|aQ ?_
    obtain rfl:=sy h21
    exact bI (rs':=[.tmp 2]) r<|bX (v:=aB) r<|bG<|aP [] r r r lr aC
   ·
    refine bL<|cY<|aH<|aN r (dN (us:=aW) uX r r r r)<|bx h21 fun x23 y23 h24=>kB (bC (v:=aB) r (aHY y23) ⟨(bQ r aFh),trivial⟩ r r r)<|sB r<|aG (fr':=[(2,aB)]) r r<|bJ ?_
    obtain rfl:=sy h24
    exact bI (rs':=[.tmp 2]) r<|bX (v:=aB) r<|bG<|aP [] r r r lr aC
noncomputable def wC (p0e:dP) (aAs:Int):Option Bool :=
 (gd (((decide (p0e.Code=0))==true)&&((cond (decide (aAs=2)) true (decide (aAs=4)))==true)) (lN p0e.Ref 1 2000)).bind fun x1=>(gd ((cond (decide (p0e.Code=0)) (cond (cond (cond (decide (aAs=2)) true (decide (aAs=4))) x1 false) true (cond (!(cond (decide (aAs=2)) true (decide (aAs=4)))) (decide (p0e.Ref=0)) false)) false)==true) (rP (cK.mk aAs p0e.Seq p0e.Name p0e.Key p0e.N p0e.Data p0e.Opts))).bind fun x3=>some (cond (cond (decide (p0e.Code=0)) (cond (cond (cond (decide (aAs=2)) true (decide (aAs=4))) x1 false) true (cond (!(cond (decide (aAs=2)) true (decide (aAs=4)))) (decide (p0e.Ref=0)) false)) false) x3 false)
theorem aHc {p0e:dP}{aAs:Int}{z:Bool} (h:wC p0e aAs=some z):cR Tryz.prog 138 [.agg (AV.cs (eU p0e)),ci aAs] [] (.c (.bool z)) []:=by
 unfold wC at h
 refine dQ (fn:=Tryz.f138) [0,1,2,4,5,6] (by kernel_rfl) Tryz.func138 r (by kernel_rfl) (by kernel_rfl)<|aH<|iR (v:=.agg aT) (n:=0) (cs:=aT) (σ':=[aT]) r r r r r<|sB r<|aG (fr':=[(1,aI),(2,aD)]) r r<|aH<|mI r<|aN r (bE aCr r)<|aN r (aJ (v:=aI) gA r r r)<|aN r (bE xZ r)<|aN r (aJ (v:=aS) mG r r r)<|aN r (bE yA r)<|aN r (aJ (v:=aS) mG r r r)<|aN r (bE aAd r)<|aN r (aJ (v:=aI) gA r r r)<|aN r (bE aA5 r)<|aN r (dN (us:=cH) jC r r r r)<|aN r (bE aBW r)<|aN r (dN (us:=dE) aAm r r r r)<|aN r (jY (c0:=bD) (cs:=aW) aPZ r (fD (v:=aI) (us:=[_]) (cs':=u20) r r r r r r (fD (v:=aI) (us:=[_]) (cs':=u20) r r r r r r (fD (v:=aS) (us:=[_]) (cs':=u20) r r r r r r (fD (v:=aS) (us:=[_]) (cs':=u20) r r r r r r (fD (v:=aI) (us:=[_]) (cs':=u20) r r r r r r (fD (v:=.agg cH) (us:=u5) (cs':=u20) r r r r r r (fD (v:=.agg dE) (us:=u10) (cs':=u20) r r r r r r jX))))))))<|jT (n:=1) (cs:=bD) (σ':=[aT,bD]) aKh r r r<|cD (v:=.agg aW) (us:=aW) (cs:=bD) (σ':=[aT,aW]) r uX r r r r r r r r<|aG (fr':=[(1,aI),(2,aD),(5,bK)]) r r<|aU<|bA<|mI r<|aN r (cC r r)<|mB r<|og r r r (fun u=>(bS (v:=aI) r))<|og r r r (fun u=>(cC (gx r u) r))<|aN r (cM r r r (fun e=>fU e))<|sB r<|aG (fr':=[(2,aD),(5,bK),(6,aB)]) r r<|aH<|aN r (bE aBH r)<|aN r (aJ (v:=aI) gA r r r)<|aN r (cC r r)<|mB r<|og r r r (fun u=>(bS (v:=aB) r))<|og r r r (fun u=>(bS (v:=aB) (gx r u)))<|fI r r (fun u=>fT r (bE aCs r))<|fI r r (fun u=>fT r (aJ (v:=aI) gA (gx r u) r r))<|bx h fun x1 y1 h2=>fI r r (fun u=>bC (v:=aB) r (mN (cZ y1 u)) ⟨(fH (gx r u) lr),lr,lr,trivial⟩ (gO (by repeat (first | exact fC | refine aZ r ?_ | refine aZ (rG r) ?_ | refine aZ rF ?_))) r r) ?_
 refine og r r r (fun u=>(cB (gx r u) r r (fun e=>qC u (fU e))))<|og r r r (fun u=>(bS (v:=aB) (gx r u)))<|fI r r (fun u=>fT r (bS (v:=aB) r))<|fI r r (fun u=>fT r (fP (gx r u)))<|fI r r (fun u=>fT r (bS (v:=aB) (gx r u)))<|fI r r (fun u=>fT r (bE aCs r))<|fI r r (fun u=>fT r (aJ (v:=aI) gA (gx r u) r r))<|fI r r (fun u=>fT r (cC (gx r u) r))<|fI r r (fun u=>fT r (cB (gx r u) r r (fun e=>qC u (fU e))))<|og r r r (fun u=>(cM (gx r u) r r (fun e=>qC u (fU e))))<|aN r (cB r r r (fun e=>fU e))<|mB r<|og r r r (fun u=>(dN (us:=aW) uX r r r r))<|bx h2 fun x3 y3 h4=>uP r r (fun u=>bC (v:=aB) r (zU (cZ y3 u)) ⟨(fH (gx r u) (bQ r aFh)),trivial⟩ (gO (by repeat (first | exact fC | refine aZ r ?_ | refine aZ (rG r) ?_ | refine aZ rF ?_))) r r) ?_
 refine aN r (cB r r r (fun e=>fU e))<|sB r<|aG (fr':=[(4,aB)]) r r<|bJ ?_
 obtain rfl:=sy h4
 exact bI (rs':=[.tmp 4]) r<|bX (v:=aB) r<|bG<|aP [] r r r lr aC
noncomputable def aB6 (dG:Int):Option kK :=
 cond (decide (dG=1)) (some (kK.mk false false true false true true true)) (cond (decide (dG=2)) (some (kK.mk false false true false false false false)) (((cond (decide (dG=3)) (some (decide (dG=3))) (cond (decide (dG=4)) (some (decide (dG=4))) (some (decide (dG=6))))):Option Bool).bind fun x5=>(cond x5 (some (kK.mk false true false false false false false)) (cond (decide (dG=5)) (some (kK.mk false true false true false false false)) (cond (decide (dG=8)) (some (kK.mk true true true false false false false)) (((cond (decide (dG=9)) (some (decide (dG=9))) (cond (decide (dG=13)) (some (decide (dG=13))) (some (decide (dG=21))))):Option Bool).bind fun x17=>(cond x17 (some (kK.mk true true false false false false true)) (((cond (decide (dG=10)) (some (decide (dG=10))) (some (decide (dG=22)))):Option Bool).bind fun x25=>(cond x25 (some (kK.mk true true false false true false true)) (cond (decide (dG=11)) (some (kK.mk true true false true false false false)) (((cond (decide (dG=15)) (some (decide (dG=15))) (some (decide (dG=24)))):Option Bool).bind fun x34=>(cond x34 (some (kK.mk true true false false false false false)) (cond (decide (dG=17)) (some (kK.mk false false false false true true true)) (cond (decide (dG=20)) (some (kK.mk true true false false false true false)) (cond (decide (dG=25)) (some (kK.mk true true false false true false false)) (cond (decide (dG=26)) (some (kK.mk false false false false false true false)) (cond (decide (dG=33)) (some (kK.mk false false false false true false false)) (some (kK.mk false false false false false false false)))))))))))))))))))
theorem aMv {dG:Int}{z:kK} (h:aB6 dG=some z):cR Tryz.prog 139 [ci dG] [] (.agg (AV.cs (aGZ z))) []:=by
 unfold aB6 at h
 refine dQ (fn:=Tryz.f139) [0,2,3,4,7,10,15,18,21,26,30,33,37,40,43,46,49] (by kernel_rfl) Tryz.func139 r (by kernel_rfl) (by kernel_rfl)<|aH<|jT (n:=0) (cs:=cU) (σ':=[cU]) aSL r r r<|aG (fr':=[(0,aI),(2,aD)]) r r<|aU<|aH<|mI r<|aG (fr':=[(2,aD),(3,aI)]) r r<|cE<|aU<|bA<|aN r (cC r r)<|sB r<|aG (fr':=[(2,aD),(3,aI),(4,aB)]) r r<|cN h r (fun b1 h1=>?_) (fun b1 h1=>?_)
 ·
  refine aH<|aN r (gD (cs:=cU) aCp r)<|cD (v:=.agg cU) (us:=cU) (cs:=cU) (σ':=[cU]) r rR r r r r r r r r<|aG (fr':=[(2,aD)]) r r<|bJ<|bM<|aQ ?_
  obtain rfl:=sy h1
  exact bI (rs':=[.cell 2 139]) r<|eN (us:=cU) (cs:=cU) rR r r r r<|bG<|aP [] r r r (bQ r kR7) aC
 ·
  refine aH<|aN r (cC r r)<|sB r<|aG (fr':=[(2,aD),(3,aI),(7,aB)]) r r<|cN h1 r (fun b3 h3=>?_) (fun b3 h3=>?_)
  ·
   refine aH<|aN r (gD (cs:=cU) aCp r)<|cD (v:=.agg cU) (us:=cU) (cs:=cU) (σ':=[cU]) r rR r r r r r r r r<|aG (fr':=[(2,aD)]) r r<|bJ<|bM<|aQ ?_
   obtain rfl:=sy h3
   exact bI (rs':=[.cell 2 139]) r<|eN (us:=cU) (cs:=cU) rR r r r r<|bG<|aP [] r r r (bQ r kR7) aC
  ·
   obtain ⟨x5,y5,h6⟩:=lB h3
   refine jR (fun j7=>x5=j7) (fun (j7:Bool)=>([(2,aD),(3,ci dG),(10,.c (.bool j7))]:Fr)) (fun (j7:Bool)=>([[.c (.bool false),.c (.bool false),.c (.bool false),.c (.bool false),.c (.bool false),.c (.bool false),.c (.bool false)]]:St)) ?_ ?_
   ·
    refine aH<|aN r (cC r r)<|sB r<|aG (fr':=[(2,aD),(3,aI),(10,aB)]) r r<|cN y5 r (fun b8 h8=>?_) (fun b8 h8=>?_)
    ·
     exact bL<|kI _ (sy h8) (bH [] 1 r r r r lG (cV r aC))
    ·
     refine aH<|aN r (cC r r)<|sB r<|aG (fr':=[(2,aD),(3,aI),(10,aB)]) r r<|cN h8 r (fun b9 h9=>?_) (fun b9 h9=>?_)
     ·
      exact bL<|kI _ (sy h9) (bH [] 1 r r r r lG (cV r aC))
     ·
      exact bA<|aN r (cC r r)<|sB r<|dT (fr':=[(2,aD),(3,aI),(10,aB)]) r<|kI _ (sy h9) (bH [] 1 r r r r lG (cV r aC))
   ·
    intro j7 hj10
    subst hj10
    refine cN h6 r (fun b11 h11=>?_) (fun b11 h11=>?_)
    ·
     refine aH<|aN r (gD (cs:=cU) aCp r)<|cD (v:=.agg cU) (us:=cU) (cs:=cU) (σ':=[cU]) r rR r r r r r r r r<|aG (fr':=[(2,aD)]) r r<|bJ<|bM<|aQ ?_
     obtain rfl:=sy h11
     exact bI (rs':=[.cell 2 139]) r<|eN (us:=cU) (cs:=cU) rR r r r r<|bG<|aP [] r r r (bQ r kR7) aC
    ·
     refine aH<|aN r (cC r r)<|sB r<|aG (fr':=[(2,aD),(3,aI),(15,aB)]) r r<|cN h11 r (fun b13 h13=>?_) (fun b13 h13=>?_)
     ·
      refine aH<|aN r (gD (cs:=cU) aCp r)<|cD (v:=.agg cU) (us:=cU) (cs:=cU) (σ':=[cU]) r rR r r r r r r r r<|aG (fr':=[(2,aD)]) r r<|bJ<|bM<|aQ ?_
      obtain rfl:=sy h13
      exact bI (rs':=[.cell 2 139]) r<|eN (us:=cU) (cs:=cU) rR r r r r<|bG<|aP [] r r r (bQ r kR7) aC
     ·
      refine aH<|aN r (cC r r)<|sB r<|aG (fr':=[(2,aD),(3,aI),(18,aB)]) r r<|cN h13 r (fun b15 h15=>?_) (fun b15 h15=>?_)
      ·
       refine aH<|aN r (gD (cs:=cU) aCp r)<|cD (v:=.agg cU) (us:=cU) (cs:=cU) (σ':=[cU]) r rR r r r r r r r r<|aG (fr':=[(2,aD)]) r r<|bJ<|bM<|aQ ?_
       obtain rfl:=sy h15
       exact bI (rs':=[.cell 2 139]) r<|eN (us:=cU) (cs:=cU) rR r r r r<|bG<|aP [] r r r (bQ r kR7) aC
      ·
       obtain ⟨x17,y17,h18⟩:=lB h15
       refine jR (fun j19=>x17=j19) (fun (j19:Bool)=>([(2,aD),(3,ci dG),(21,.c (.bool j19))]:Fr)) (fun (j19:Bool)=>([[.c (.bool false),.c (.bool false),.c (.bool false),.c (.bool false),.c (.bool false),.c (.bool false),.c (.bool false)]]:St)) ?_ ?_
       ·
        refine aH<|aN r (cC r r)<|sB r<|aG (fr':=[(2,aD),(3,aI),(21,aB)]) r r<|cN y17 r (fun b20 h20=>?_) (fun b20 h20=>?_)
        ·
         exact bL<|kI _ (sy h20) (bH [] 1 r r r r lG (cV r aC))
        ·
         refine aH<|aN r (cC r r)<|sB r<|aG (fr':=[(2,aD),(3,aI),(21,aB)]) r r<|cN h20 r (fun b21 h21=>?_) (fun b21 h21=>?_)
         ·
          exact bL<|kI _ (sy h21) (bH [] 1 r r r r lG (cV r aC))
         ·
          exact bA<|aN r (cC r r)<|sB r<|dT (fr':=[(2,aD),(3,aI),(21,aB)]) r<|kI _ (sy h21) (bH [] 1 r r r r lG (cV r aC))
       ·
        intro j19 hj22
        subst hj22
        refine cN h18 r (fun b23 h23=>?_) (fun b23 h23=>?_)
        ·
         refine aH<|aN r (gD (cs:=cU) aCp r)<|cD (v:=.agg cU) (us:=cU) (cs:=cU) (σ':=[cU]) r rR r r r r r r r r<|aG (fr':=[(2,aD)]) r r<|bJ<|bM<|aQ ?_
         obtain rfl:=sy h23
         exact bI (rs':=[.cell 2 139]) r<|eN (us:=cU) (cs:=cU) rR r r r r<|bG<|aP [] r r r (bQ r kR7) aC
        ·
         obtain ⟨x25,y25,h26⟩:=lB h23
         refine jR (fun j27=>x25=j27) (fun (j27:Bool)=>([(2,aD),(3,ci dG),(26,.c (.bool j27))]:Fr)) (fun (j27:Bool)=>([[.c (.bool false),.c (.bool false),.c (.bool false),.c (.bool false),.c (.bool false),.c (.bool false),.c (.bool false)]]:St)) ?_ ?_
         ·
          refine aH<|aN r (cC r r)<|sB r<|aG (fr':=[(2,aD),(3,aI),(26,aB)]) r r<|cN y25 r (fun b28 h28=>?_) (fun b28 h28=>?_)
          ·
           exact bL<|kI _ (sy h28) (bH [] 1 r r r r lG (cV r aC))
          ·
           exact bA<|aN r (cC r r)<|sB r<|dT (fr':=[(2,aD),(3,aI),(26,aB)]) r<|kI _ (sy h28) (bH [] 1 r r r r lG (cV r aC))
         ·
          intro j27 hj29
          subst hj29
          refine cN h26 r (fun b30 h30=>?_) (fun b30 h30=>?_)
          ·
           refine aH<|aN r (gD (cs:=cU) aCp r)<|cD (v:=.agg cU) (us:=cU) (cs:=cU) (σ':=[cU]) r rR r r r r r r r r<|aG (fr':=[(2,aD)]) r r<|bJ<|bM<|aQ ?_
           obtain rfl:=sy h30
           exact bI (rs':=[.cell 2 139]) r<|eN (us:=cU) (cs:=cU) rR r r r r<|bG<|aP [] r r r (bQ r kR7) aC
          ·
           refine aH<|aN r (cC r r)<|sB r<|aG (fr':=[(2,aD),(3,aI),(30,aB)]) r r<|cN h30 r (fun b32 h32=>?_) (fun b32 h32=>?_)
           ·
            refine aH<|aN r (gD (cs:=cU) aCp r)<|cD (v:=.agg cU) (us:=cU) (cs:=cU) (σ':=[cU]) r rR r r r r r r r r<|aG (fr':=[(2,aD)]) r r<|bJ<|bM<|aQ ?_
            obtain rfl:=sy h32
            exact bI (rs':=[.cell 2 139]) r<|eN (us:=cU) (cs:=cU) rR r r r r<|bG<|aP [] r r r (bQ r kR7) aC
           ·
            obtain ⟨x34,y34,h35⟩:=lB h32
            refine jR (fun j36=>x34=j36) (fun (j36:Bool)=>([(2,aD),(3,ci dG),(33,.c (.bool j36))]:Fr)) (fun (j36:Bool)=>([[.c (.bool false),.c (.bool false),.c (.bool false),.c (.bool false),.c (.bool false),.c (.bool false),.c (.bool false)]]:St)) ?_ ?_
            ·
             refine aH<|aN r (cC r r)<|sB r<|aG (fr':=[(2,aD),(3,aI),(33,aB)]) r r<|cN y34 r (fun b37 h37=>?_) (fun b37 h37=>?_)
             ·
              exact bL<|kI _ (sy h37) (bH [] 1 r r r r lG (cV r aC))
             ·
              exact bA<|aN r (cC r r)<|sB r<|dT (fr':=[(2,aD),(3,aI),(33,aB)]) r<|kI _ (sy h37) (bH [] 1 r r r r lG (cV r aC))
            ·
             intro j36 hj38
             subst hj38
             refine cN h35 r (fun b39 h39=>?_) (fun b39 h39=>?_)
             ·
              refine aH<|aN r (gD (cs:=cU) aCp r)<|cD (v:=.agg cU) (us:=cU) (cs:=cU) (σ':=[cU]) r rR r r r r r r r r<|aG (fr':=[(2,aD)]) r r<|bJ<|bM<|aQ ?_
              obtain rfl:=sy h39
              exact bI (rs':=[.cell 2 139]) r<|eN (us:=cU) (cs:=cU) rR r r r r<|bG<|aP [] r r r (bQ r kR7) aC
             ·
              refine aH<|aN r (cC r r)<|sB r<|aG (fr':=[(2,aD),(3,aI),(37,aB)]) r r<|cN h39 r (fun b41 h41=>?_) (fun b41 h41=>?_)
              ·
               refine aH<|aN r (gD (cs:=cU) aCp r)<|cD (v:=.agg cU) (us:=cU) (cs:=cU) (σ':=[cU]) r rR r r r r r r r r<|aG (fr':=[(2,aD)]) r r<|bJ<|bM<|aQ ?_
               obtain rfl:=sy h41
               exact bI (rs':=[.cell 2 139]) r<|eN (us:=cU) (cs:=cU) rR r r r r<|bG<|aP [] r r r (bQ r kR7) aC
              ·
               refine aH<|aN r (cC r r)<|sB r<|aG (fr':=[(2,aD),(3,aI),(40,aB)]) r r<|cN h41 r (fun b43 h43=>?_) (fun b43 h43=>?_)
               ·
                refine aH<|aN r (gD (cs:=cU) aCp r)<|cD (v:=.agg cU) (us:=cU) (cs:=cU) (σ':=[cU]) r rR r r r r r r r r<|aG (fr':=[(2,aD)]) r r<|bJ<|bM<|aQ ?_
                obtain rfl:=sy h43
                exact bI (rs':=[.cell 2 139]) r<|eN (us:=cU) (cs:=cU) rR r r r r<|bG<|aP [] r r r (bQ r kR7) aC
               ·
                refine aH<|aN r (cC r r)<|sB r<|aG (fr':=[(2,aD),(3,aI),(43,aB)]) r r<|cN h43 r (fun b45 h45=>?_) (fun b45 h45=>?_)
                ·
                 refine aH<|aN r (gD (cs:=cU) aCp r)<|cD (v:=.agg cU) (us:=cU) (cs:=cU) (σ':=[cU]) r rR r r r r r r r r<|aG (fr':=[(2,aD)]) r r<|bJ<|bM<|aQ ?_
                 obtain rfl:=sy h45
                 exact bI (rs':=[.cell 2 139]) r<|eN (us:=cU) (cs:=cU) rR r r r r<|bG<|aP [] r r r (bQ r kR7) aC
                ·
                 refine aH<|aN r (cC r r)<|sB r<|aG (fr':=[(2,aD),(3,aI),(46,aB)]) r r<|cN h45 r (fun b47 h47=>?_) (fun b47 h47=>?_)
                 ·
                  refine aH<|aN r (gD (cs:=cU) aCp r)<|cD (v:=.agg cU) (us:=cU) (cs:=cU) (σ':=[cU]) r rR r r r r r r r r<|aG (fr':=[(2,aD)]) r r<|bJ<|bM<|aQ ?_
                  obtain rfl:=sy h47
                  exact bI (rs':=[.cell 2 139]) r<|eN (us:=cU) (cs:=cU) rR r r r r<|bG<|aP [] r r r (bQ r kR7) aC
                 ·
                  refine aH<|aN r (cC r r)<|sB r<|aG (fr':=[(2,aD),(49,aB)]) r r<|cN h47 r (fun b49 h49=>?_) (fun b49 h49=>?_)
                  ·
                   refine aH<|aN r (gD (cs:=cU) aCp r)<|cD (v:=.agg cU) (us:=cU) (cs:=cU) (σ':=[cU]) r rR r r r r r r r r<|aG (fr':=[(2,aD)]) r r<|bJ<|bM<|aQ ?_
                   obtain rfl:=sy h49
                   exact bI (rs':=[.cell 2 139]) r<|eN (us:=cU) (cs:=cU) rR r r r r<|bG<|aP [] r r r (bQ r kR7) aC
                  ·
                   refine bL<|dH<|cY<|aH<|aN r (gD (cs:=cU) aCp r)<|cD (v:=.agg cU) (us:=cU) (cs:=cU) (σ':=[cU]) r rR r r r r r r r r<|aG (fr':=[(2,aD)]) r r<|bJ ?_
                   obtain rfl:=sy h49
                   exact bI (rs':=[.cell 2 139]) r<|eN (us:=cU) (cs:=cU) rR r r r r<|bG<|aP [] r r r (bQ r kR7) aC
noncomputable def uM (p0u:kK) (p1e:dP):Option Bool :=
 (gd (((cond (cond (cond (cond (cond (cond p0u.seq_ true (decide (p1e.Seq=0))) (cond p0u.ref_ true (decide (p1e.Ref=0))) false) (cond p0u.n_ true (decide (p1e.N=0))) false) (cond p0u.code_ true (decide (p1e.Code=0))) false) (cond p0u.name_ true (decide (p1e.Name=([]:List UInt8)))) false) (cond p0u.key_ true (decide (p1e.Key=([]:List UInt8)))) false)==true)&&(p0u.data_==false)) (aCA p1e.Data (aK.mk 0 0 ([]:List UInt8) ([]:(List aK)) ([]:(List (List UInt8)))))).bind fun x1=>(gd ((cond (cond (cond (cond (cond (cond (cond p0u.seq_ true (decide (p1e.Seq=0))) (cond p0u.ref_ true (decide (p1e.Ref=0))) false) (cond p0u.n_ true (decide (p1e.N=0))) false) (cond p0u.code_ true (decide (p1e.Code=0))) false) (cond p0u.name_ true (decide (p1e.Name=([]:List UInt8)))) false) (cond p0u.key_ true (decide (p1e.Key=([]:List UInt8)))) false) (cond p0u.data_ true x1) false)==true) (nS p1e.Opts (dR.mk ([]:List UInt8) 0 0 0 0 0 0 0 0 ([]:(List (List UInt8)))))).bind fun x3=>some (cond (cond (cond (cond (cond (cond (cond (cond p0u.seq_ true (decide (p1e.Seq=0))) (cond p0u.ref_ true (decide (p1e.Ref=0))) false) (cond p0u.n_ true (decide (p1e.N=0))) false) (cond p0u.code_ true (decide (p1e.Code=0))) false) (cond p0u.name_ true (decide (p1e.Name=([]:List UInt8)))) false) (cond p0u.key_ true (decide (p1e.Key=([]:List UInt8)))) false) (cond p0u.data_ true x1) false) x3 false)
theorem aGd {p0u:kK}{p1e:dP}{z:Bool} (h:uM p0u p1e=some z):cR Tryz.prog 140 [.agg (AV.cs (aGZ p0u)),.agg (AV.cs (eU p1e))] [] (.c (.bool z)) []:=by
 unfold uM at h
 refine dQ (fn:=Tryz.f140) [0,1,2,3,4] (by kernel_rfl) Tryz.func140 r (by kernel_rfl) (by kernel_rfl)<|aH<|iR (v:=.agg cU) (n:=0) (cs:=cU) (σ':=[cU]) r r r r r<|iR (v:=.agg aT) (n:=1) (cs:=aT) (σ':=[cU,aT]) r r r r r<|sB r<|aG (fr':=[(2,aD),(3,bK)]) r r<|aH<|aN r (bE aP5 r)<|aN r (aJ (v:=aB) tv4 r r r)<|mB r<|og r r r (fun u=>(bE aCr r))<|og r r r (fun u=>(aJ (v:=aI) gA (gx r u) r r))<|og r r r (fun u=>(cC (gx r u) r))<|aN r (cM r r r (fun e=>fU e))<|mB r<|og r r r (fun u=>(bE aP6 r))<|og r r r (fun u=>(aJ (v:=aB) tv4 (gx r u) r r))<|og r r r (fun u=>(bS (v:=aB) (gx r u)))<|fI r r (fun u=>fT r (bE aCs r))<|fI r r (fun u=>fT r (aJ (v:=aI) gA (gx r u) r r))<|fI r r (fun u=>fT r (cC (gx r u) r))<|og r r r (fun u=>(cM (gx r u) r r (fun e=>qC u (fU e))))<|aN r (cB r r r (fun e=>fU e))<|mB r<|og r r r (fun u=>(bE aTG r))<|og r r r (fun u=>(aJ (v:=aB) tv4 (gx r u) r r))<|og r r r (fun u=>(bS (v:=aB) (gx r u)))<|fI r r (fun u=>fT r (bE aAd r))<|fI r r (fun u=>fT r (aJ (v:=aI) gA (gx r u) r r))<|fI r r (fun u=>fT r (cC (gx r u) r))<|og r r r (fun u=>(cM (gx r u) r r (fun e=>qC u (fU e))))<|aN r (cB r r r (fun e=>fU e))<|mB r<|og r r r (fun u=>(bE aTH r))<|og r r r (fun u=>(aJ (v:=aB) tv4 (gx r u) r r))<|og r r r (fun u=>(bS (v:=aB) (gx r u)))<|fI r r (fun u=>fT r (bE aBH r))<|fI r r (fun u=>fT r (aJ (v:=aI) gA (gx r u) r r))<|fI r r (fun u=>fT r (cC (gx r u) r))<|og r r r (fun u=>(cM (gx r u) r r (fun e=>qC u (fU e))))<|aN r (cB r r r (fun e=>fU e))<|mB r<|og r r r (fun u=>(bE aTI r))<|og r r r (fun u=>(aJ (v:=aB) tv4 (gx r u) r r))<|og r r r (fun u=>(bS (v:=aB) (gx r u)))<|fI r r (fun u=>fT r (bE xZ r))<|fI r r (fun u=>fT r (aJ (v:=aS) mG (gx r u) r r))<|fI r r (fun u=>fT r (qZ (gx r u) r))<|og r r r (fun u=>(cM (gx r u) r r (fun e=>qC u (fU e))))<|aN r (cB r r r (fun e=>fU e))<|mB r<|og r r r (fun u=>(bE aTJ r))<|og r r r (fun u=>(aJ (v:=aB) tv4 (gx r u) r r))<|og r r r (fun u=>(bS (v:=aB) (gx r u)))<|fI r r (fun u=>fT r (bE yA r))<|fI r r (fun u=>fT r (aJ (v:=aS) mG (gx r u) r r))<|fI r r (fun u=>fT r (qZ (gx r u) r))<|og r r r (fun u=>(cM (gx r u) r r (fun e=>qC u (fU e))))<|aN r (cB r r r (fun e=>fU e))<|mB r<|og r r r (fun u=>(bE aTK r))<|og r r r (fun u=>(aJ (v:=aB) tv4 (gx r u) r r))<|og r r r (fun u=>(bS (v:=aB) (gx r u)))<|fI r r (fun u=>fT r (bE aA5 r))<|fI r r (fun u=>fT r (dN (us:=cH) jC (gx r u) r r r))<|fI r r (fun u=>fT r (gD (cs:=dF) aIK r))<|bx h fun x1 y1 h2=>fI r r (fun u=>bC (v:=aB) r (aDY (cZ y1 u)) ⟨(fH (gx r u) (bQ r zA)),(fH (gx r u) (bQ r ⟨r,r,r,⟨_,r⟩,⟨_,r⟩,trivial⟩)),trivial⟩ (gO (by repeat (first | exact fC | refine aZ r ?_ | refine aZ (rG r) ?_ | refine aZ rF ?_))) r r) ?_
 refine og r r r (fun u=>(cM (gx r u) r r (fun e=>qC u (fU e))))<|aN r (cB r r r (fun e=>fU e))<|mB r<|og r r r (fun u=>(bE aBW r))<|og r r r (fun u=>(dN (us:=dE) aAm (gx r u) r r r))<|og r r r (fun u=>(jY (c0:=cP) (cs:=cP) aRa r jX))<|bx h2 fun x3 y3 h4=>uP r r (fun u=>bC (v:=aB) r (yE (cZ y3 u)) ⟨(fH (gx r u) (bQ r zX)),(fH (gx r u) (bQ r ⟨r,r,r,r,r,r,r,r,r,⟨_,r⟩,trivial⟩)),trivial⟩ (gO (by repeat (first | exact fC | refine aZ r ?_ | refine aZ (rG r) ?_ | refine aZ rF ?_))) r r) ?_
 refine aN r (cB r r r (fun e=>fU e))<|sB r<|aG (fr':=[(4,aB)]) r r<|bJ ?_
 obtain rfl:=sy h4
 exact bI (rs':=[.tmp 4]) r<|bX (v:=aB) r<|bG<|aP [] r r r lr aC
noncomputable def aAh (aBq:(List UInt8)):Option (Int × Bool) :=
 if aBq.length≤140737488355328 then some (vI aBq) else none
theorem aFG {aBq:(List UInt8)}{z:(Int × Bool)} (h:aAh aBq=some z):cR Tryz.prog 161 [.c (.str aBq)] [] (.tup [ci z.1,.c (.bool z.2)]) []:=by
 unfold aAh at h
 obtain ⟨hl,rfl⟩:=aR3 h
 refine aFH (by kernel_rfl) fun g w vs hv hI hg=>?_
 rw [aUY hv]
 refine (aL4 hl w hI hg).mono fun e w'=>?_
 rintro ⟨rfl,hb⟩
 exact ⟨_,r,hb,fun g'=>aSw (.c (.int _ _)) (.c (.bool _))⟩
noncomputable def aBK (p0s:(List UInt8)) (s4:Int):Option (dU Int (Fl Bool Unit)) :=
 cond (decide (s4<((p0s).length:Int))) ((mP p0s s4).bind fun x6=>(gd ((decide (((x6).toNat:Int)<33))==false) (mP p0s s4)).bind fun x8=>(gd ((cond (decide (((x6).toNat:Int)<33)) true (decide (126<((x8).toNat:Int))))==false) (mP p0s s4)).bind fun x10=>(gd ((cond (cond (decide (((x6).toNat:Int)<33)) true (decide (126<((x8).toNat:Int)))) true (decide (((x10).toNat:Int)=47)))==false) (mP p0s s4)).bind fun x12=>cond (cond (cond (cond (decide (((x6).toNat:Int)<33)) true (decide (126<((x8).toNat:Int)))) true (decide (((x10).toNat:Int)=47))) true (decide (((x12).toNat:Int)=34))) (some (dU.out (Fl.done false))) (some (dU.next (IntKind.wrap .i64 (s4+1))))) (some (dU.out (Fl.go ())))
noncomputable def nY (p0s:(List UInt8)):Option Bool :=
 (gL (aBK p0s) (0)).bind fun x1=>Fl.next x1 (fun j3=>((lN ((p0s).length:Int) 1 64).bind fun x20=>some x20))
theorem aAe {p0s:(List UInt8)}{z:Bool} (h:nY p0s=some z):cR Tryz.prog 181 [.c (.str p0s)] [] (.c (.bool z)) []:=by
 unfold nY at h
 refine dQ (fn:=Tryz.f181) [0,2,3,5,6,7,30] (by kernel_rfl) Tryz.func181 r (by kernel_rfl) (by kernel_rfl)<|aH<|sB r<|aG (fr':=[(0,aS)]) r r<|aU<|aH<|mS r<|aN r (kV uD r)<|mI r<|aG (fr':=[(0,aS),(5,aI),(6,aI)]) r r<|bx h fun x1 y1 h2=>gY kS (fun j3=>x1=Fl.go j3) (fun (j3:Unit)=>([(0,.c (.str p0s))]:Fr)) (fun (j3:Unit)=>([]:St)) ?_ ?_
 ·
  refine cE<|gU _ (fun (s4:Int)=>([(0,.c (.str p0s)),(5,ci ((p0s).length:Int)),(6,ci s4)]:Fr)) (fun (s4:Int)=>([]:St)) y1 (bH [] 0 r r r r lG aC) ?_
  intro s4 st4 hs4 ho4
  unfold aBK at hs4
  refine aH<|aN r (gC r r)<|aG (fr':=[(0,aS),(5,aI),(6,aI),(7,aB)]) r r<|aU<|cN hs4 r (fun b5 h5=>?_) (fun b5 h5=>?_)
  ·
   refine bL<|cY<|aU<|cE<|aH<|mI r<|sI r<|aG (fr':=[(0,aS),(3,aI),(5,aI),(6,aI)]) r r<|aH<|mS r<|mI r<|bx h5 fun x6 y6 h7=>aN r (aAU uD r r y6)<|aN r (gC r r)<|mB r<|og r r r (fun u=>(bS (v:=aS) r))<|og r r r (fun u=>(bS (v:=aI) r))<|bx h7 fun x8 y8 h9=>og r r r (fun u=>(aAU uD (gx r u) (gx r u) (cZ y8 u)))<|og r r r (fun u=>(sP (gx r u) r))<|aN r (cM r r r (fun e=>fU e))<|mB r<|og r r r (fun u=>(bS (v:=aS) r))<|og r r r (fun u=>(bS (v:=aI) r))<|bx h9 fun x10 y10 h11=>og r r r (fun u=>(aAU uD (gx r u) (gx r u) (cZ y10 u)))<|og r r r (fun u=>(cC (gx r u) r))<|aN r (cM r r r (fun e=>fU e))<|mB r<|og r r r (fun u=>(bS (v:=aS) r))<|og r r r (fun u=>(bS (v:=aI) r))<|bx h11 fun x12 y12 h13=>og r r r (fun u=>(aAU uD (gx r u) (gx r u) (cZ y12 u)))<|og r r r (fun u=>(cC (gx r u) r))<|aN r (cM r r r (fun e=>fU e))<|aG (fr':=[(0,aS),(5,aI),(6,aI),(30,aB)]) r r<|cN h13 r (fun b14 h14=>?_) (fun b14 h14=>?_)
   ·
    refine aH<|sB r<|aG (fr':=[(2,aB)]) r r<|bJ<|bM<|aQ<|aQ<|bM<|aQ<|aQ ?_
    have h15:=eZ h14 ho4
    have h16:=gT h15 h2
    obtain rfl:=sy h16
    exact bI (rs':=[.tmp 2]) r<|bX (v:=aB) r<|bG<|aP [] r r r lr aC
   ·
    exact bL<|dH<|cY<|bA<|aN r (fY r r)<|mI r<|dT (fr':=[(0,aS),(5,aI),(6,aI),(30,aB)]) r<|e_l _ (sy h14) (bH [] 0 r r r r lG aC)
  ·
   refine iA<|cX<|cX<|fS ?_
   have h18:=eZ h5 ho4
   exact kI _ (sy h18) (bH [] 0 r r r r ⟨lr,trivial⟩ aC)
 ·
  intro j3 hj19
  have h19:=mY hj19 h2
  refine cY<|aH<|mS r<|aN r (kV uD r)<|bx h19 fun x20 y20 h21=>kB (bC (v:=aB) r (mN y20) lG r r r)<|sB r<|aG (fr':=[(2,aB)]) r r<|bJ ?_
  obtain rfl:=sy h21
  exact bI (rs':=[.tmp 2]) r<|bX (v:=aB) r<|bG<|aP [] r r r lr aC
noncomputable def xK (x5:aK) (s10:Int):Option (dU Int (Fl Bool Unit)) :=
 cond (decide (s10<((x5.Items).length:Int))) ((mP x5.Items s10).bind fun x12=>(gd ((cond (!decide (x12.Kind=4)) true (!decide (((x12.Items).length:Int)=2)))==false) (mP x12.Items 0)).bind fun x14=>(gd ((cond (cond (!decide (x12.Kind=4)) true (!decide (((x12.Items).length:Int)=2))) true (!decide (x14.Kind=3)))==false) (mP x12.Items 0)).bind fun x16=>(gd ((cond (cond (!decide (x12.Kind=4)) true (!decide (((x12.Items).length:Int)=2))) true (!decide (x14.Kind=3)))==false) (rY x16.Text)).bind fun x18=>cond (cond (cond (cond (!decide (x12.Kind=4)) true (!decide (((x12.Items).length:Int)=2))) true (!decide (x14.Kind=3))) true (!x18)) (some (dU.out (Fl.done false))) (some (dU.next (IntKind.wrap .i64 (s10+1))))) (some (dU.out (Fl.go ())))
noncomputable def aBm (p0v:aK):Option Bool :=
 (gd ((cond (!decide (p0v.Kind=4)) true (!decide (((p0v.Items).length:Int)=2)))==false) (mP p0v.Items 1)).bind fun x1=>cond (cond (cond (!decide (p0v.Kind=4)) true (!decide (((p0v.Items).length:Int)=2))) true (!decide (x1.Kind=4))) (some false) ((mP p0v.Items 1).bind fun x5=>(gL (xK x5) (0)).bind fun x7=>Fl.next x7 (fun j9=>(some true)))
theorem aKZ {p0v:aK}{z:Bool} (h:aBm p0v=some z):cR Tryz.prog 182 [.agg (AV.cs (fA p0v))] [] (.c (.bool z)) []:=by
 unfold aBm at h
 refine dQ (fn:=Tryz.f182) [0,1,2,4,21,26,27,28,29,57] (by kernel_rfl) Tryz.func182 r (by kernel_rfl) (by kernel_rfl)<|aH<|iR (v:=.agg cH) (n:=0) (cs:=cH) (σ':=[cH]) r r r r r<|sB r<|aG (fr':=[(1,aD)]) r r<|aU<|aH<|aN r (bE lU r)<|aN r (aJ (v:=aI) gA r r r)<|aN r (iY r r)<|mB r<|og r r r (fun u=>(bE iH r))<|og r r r (fun u=>(aJ (v:=aL) nJ (gx r u) r r))<|og r r r (fun u=>(gQ vC (eD (gx r u))))<|og r r r (fun u=>(iY (gx r u) r))<|aN r (cM r r r (fun e=>fU e))<|mB r<|og r r r (fun u=>(bE iH r))<|og r r r (fun u=>(aJ (v:=aL) nJ (gx r u) r r))<|bx h fun x1 y1 h2=>og r r r (fun u=>(lT (cs:=[PV.int _ _,PV.int _ _,PV.str _,PV.ls _ _ _,PV.ls _ _ _]) uW (eD (gx r u)) r (cZ y1 u) (eA _)))<|og r r r (fun u=>(zF lU (gx r u)))<|og r r r (fun u=>(iO (p:=PV.int _ _) gA (gx r u) r))<|og r r r (fun u=>(iY (gx r u) r))<|aN r (cM r r r (fun e=>fU e))<|aG (fr':=[(1,aD),(21,aB)]) r r<|cN h2 r (fun b3 h3=>?_) (fun b3 h3=>?_)
 ·
  refine aH<|sB r<|aG (fr':=[(2,aB)]) r r<|bJ<|aQ ?_
  obtain rfl:=sy h3
  exact bI (rs':=[.tmp 2]) r<|bX (v:=aB) r<|bG<|aP [] r r r lr aC
 ·
  refine bL<|cY<|aU<|aH<|aN r (bE iH r)<|aN r (aJ (v:=aL) nJ r r r)<|bx h3 fun x5 y5 h6=>aN r (lT (cs:=[PV.int _ _,PV.int _ _,PV.str _,PV.ls _ _ _,PV.ls _ _ _]) uW (eD r) r y5 (eA _))<|aN r (zF iH r)<|aN r (iO (p:=PV.ls _ _ _) nJ r r)<|aN r (gQ vC (eD r))<|mI r<|aG (fr':=[(26,aL),(27,aI),(28,aI)]) r r<|bx h6 fun x7 y7 h8=>gY kS (fun j9=>x7=Fl.go j9) (fun (j9:Unit)=>([]:Fr)) (fun (j9:Unit)=>([[ci p0v.Kind,ci p0v.Int,.c (.str p0v.Text),.c (PV.ls 5 bO p0v.Items),.c (PV.ls 1 fZ p0v.Keys)]]:St)) ?_ ?_
  ·
   refine cE<|gU _ (fun (s10:Int)=>([(26,.c (PV.ls 5 bO x5.Items)),(27,ci ((x5.Items).length:Int)),(28,ci s10)]:Fr)) (fun (s10:Int)=>([[ci p0v.Kind,ci p0v.Int,.c (.str p0v.Text),.c (PV.ls 5 bO p0v.Items),.c (PV.ls 1 fZ p0v.Keys)]]:St)) y7 (bH [] 1 r r r r lG (cV r aC)) ?_
   intro s10 st10 hs10 ho10
   unfold xK at hs10
   refine aH<|aN r (gC r r)<|aG (fr':=[(26,aL),(27,aI),(28,aI),(29,aB)]) r r<|aU<|cN hs10 r (fun b11 h11=>?_) (fun b11 h11=>?_)
   ·
    refine bL<|cY<|aU<|cE<|aU<|bA<|bx h11 fun x12 y12 h13=>aN r (lT (cs:=[PV.int _ _,PV.int _ _,PV.str _,PV.ls _ _ _,PV.ls _ _ _]) uW (eD r) r y12 (eA _))<|aN r (kT (us:=[PV.int _ _,PV.int _ _,PV.str _,PV.ls _ _ _,PV.ls _ _ _]) jC r r r)<|jT (n:=1) (cs:=dF) (σ':=[cH,dF]) aG8 r r r<|cD (v:=.agg cH) (us:=cH) (cs:=dF) (σ':=[cH,cH]) r jC r r r r r r r r<|aG (fr':=[(4,bK),(26,aL),(27,aI),(28,aI)]) r r<|aH<|aN r (bE lU r)<|aN r (aJ (v:=aI) gA r r r)<|aN r (iY r r)<|mB r<|og r r r (fun u=>(bE iH r))<|og r r r (fun u=>(aJ (v:=aL) nJ (gx r u) r r))<|og r r r (fun u=>(gQ vC (eD (gx r u))))<|og r r r (fun u=>(iY (gx r u) r))<|aN r (cM r r r (fun e=>fU e))<|mB r<|og r r r (fun u=>(bE iH r))<|og r r r (fun u=>(aJ (v:=aL) nJ (gx r u) r r))<|bx h13 fun x14 y14 h15=>og r r r (fun u=>(lT (cs:=[PV.int _ _,PV.int _ _,PV.str _,PV.ls _ _ _,PV.ls _ _ _]) uW (eD (gx r u)) r (cZ y14 u) (eA _)))<|og r r r (fun u=>(zF lU (gx r u)))<|og r r r (fun u=>(iO (p:=PV.int _ _) gA (gx r u) r))<|og r r r (fun u=>(iY (gx r u) r))<|aN r (cM r r r (fun e=>fU e))<|mB r<|og r r r (fun u=>(bE iH r))<|og r r r (fun u=>(aJ (v:=aL) nJ (gx r u) r r))<|bx h15 fun x16 y16 h17=>og r r r (fun u=>(lT (cs:=[PV.int _ _,PV.int _ _,PV.str _,PV.ls _ _ _,PV.ls _ _ _]) uW (eD (gx r u)) r (cZ y16 u) (eA _)))<|og r r r (fun u=>(zF tZ (gx r u)))<|og r r r (fun u=>(iO (p:=PV.str _) mG (gx r u) r))<|bx h17 fun x18 y18 h19=>uP r r (fun u=>bC (v:=aB) r (vV (cZ y18 u)) ⟨(fH (gx r u) lr),trivial⟩ (gO (by repeat (first | exact fC | refine aZ r ?_ | refine aZ (rG r) ?_ | refine aZ rF ?_))) r r) ?_
    refine og r r r (fun u=>(fP (gx r u)))<|aN r (cM r r r (fun e=>fU e))<|aG (fr':=[(26,aL),(27,aI),(28,aI),(57,aB)]) r r<|cN h19 r (fun b20 h20=>?_) (fun b20 h20=>?_)
    ·
     refine aH<|sB r<|aG (fr':=[(2,aB)]) r r<|bJ<|bM<|aQ<|aQ<|bM<|aQ<|aQ ?_
     have h21:=eZ h20 ho10
     have h22:=gT h21 h8
     obtain rfl:=sy h22
     exact bI (rs':=[.tmp 2]) r<|bX (v:=aB) r<|bG<|aP [] r r r lr aC
    ·
     exact bL<|dH<|cY<|bA<|aN r (fY r r)<|mI r<|dT (fr':=[(26,aL),(27,aI),(28,aI),(57,aB)]) r<|e_l _ (sy h20) (bH [] 1 r r r r lG (cV r aC))
   ·
    refine iA<|cX<|cX<|fS ?_
    have h24:=eZ h11 ho10
    exact kI _ (sy h24) (bH [] 1 r r r r trivial (cV r aC))
  ·
   intro j9 hj25
   have h25:=mY hj25 h8
   refine cY<|aH<|sB r<|aG (fr':=[(2,aB)]) r r<|bJ ?_
   obtain rfl:=sy h25
   exact bI (rs':=[.tmp 2]) r<|bX (v:=aB) r<|bG<|aP [] r r r lr aC
