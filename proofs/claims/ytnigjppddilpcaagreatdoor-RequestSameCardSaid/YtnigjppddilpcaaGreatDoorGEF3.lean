import Derived.Test.YtnigjppddilpcaaGreatDoorGETy
import Derived.Test.YtnigjppddilpcaaGreatDoorGEF0
import Derived.Test.YtnigjppddilpcaaGreatDoorGEF1
import Derived.Test.YtnigjppddilpcaaGreatDoorGEF2
namespace Go.Proofs.YtnigjppddilpcaaGreatDoor
open Go Abs
set_option maxRecDepth 100000
set_option linter.unusedVariables false
set_option linter.unusedSimpArgs false
noncomputable def fJ (p0s:(List aE)) (s4:Int):Option (dG Int (Fl Int Unit)) :=
 cond (decide (s4<((p0s).length:Int))) ((nF p0s s4).bind fun x6=>(rV x6).bind fun x8=>cond x8 (some (dG.out (Fl.done s4))) (some (dG.next (IntKind.wrap .i64 (s4+1))))) (some (dG.out (Fl.go ())))
noncomputable def gL (p0s:(List aE)):Option Int :=
 (fX (fJ p0s) (0)).bind fun x1=>Fl.next x1 (fun j3=>(some (-1)))
theorem oV {p0s:(List aE)}{z:Int} (h:gL p0s=some z):dE Tryz.prog 205 [.c (PV.ls 5 cH p0s),.fn 216 []] [] (ci z) []:=by
 unfold gL at h
 refine eJ (fn:=Tryz.f205) [0,1,4,5,7,8,9,16] (by kernel_rfl) Tryz.func205 r (by kernel_rfl) (by kernel_rfl)<|aT<|sI r<|aR (fr':=[(0,aL),(1,.fn _ [])]) r r<|bC<|aT<|mL r<|aW r (iR aCa (fQ r))<|mI r<|aR (fr':=[(0,aL),(1,.fn _ []),(7,aI),(8,aI)]) r r<|bx h fun x1 y1 h2=>kC pL (fun j3=>x1=Fl.go j3) (fun (j3:Unit)=>([]:Fr)) (fun (j3:Unit)=>([]:St)) ?_ ?_
 ·
  refine dA<|jS _ (fun (s4:Int)=>([(0,.c (PV.ls 5 cH p0s)),(1,.fn 216 []),(7,ci ((p0s).length:Int)),(8,ci s4)]:Fr)) (fun (s4:Int)=>([]:St)) y1 (cR [] 0 r r r r kL4 aH) ?_
  intro s4 st4 hs4 ho4
  unfold fJ at hs4
  refine aT<|aW r (iJ r r)<|aR (fr':=[(0,aL),(1,.fn _ []),(7,aI),(8,aI),(9,aB)]) r r<|bC<|eS hs4 r (fun b5 h5=>?_) (fun b5 h5=>?_)
  ·
   refine cE<|eA<|bC<|dA<|aT<|mI r<|sI r<|aR (fr':=[(0,aL),(1,.fn _ []),(5,aI),(7,aI),(8,aI)]) r r<|aT<|mV (v:=.fn _ []) r<|mL r<|mI r<|bx h5 fun x6 y6 h7=>aW r (rD (cs:=[PV.int _ _,PV.int _ _,PV.str _,PV.ls _ _ _,PV.ls _ _ _]) aDc (fQ r) r y6 (hF _))<|aW r (lV (us:=[PV.int _ _,PV.int _ _,PV.str _,PV.ls _ _ _,PV.ls _ _ _]) jG r r r)<|bx h7 fun x8 y8 h9=>qB (bR (v:=aB) r (aED y8) ⟨(bV r kR5),trivial⟩ r r r)<|aR (fr':=[(0,aL),(1,.fn _ []),(5,aI),(7,aI),(8,aI),(16,aB)]) r r<|eS h9 r (fun b10 h10=>?_) (fun b10 h10=>?_)
   ·
    refine aT<|mI r<|sI r<|aR (fr':=[(4,aI)]) r r<|cB<|cL<|aV<|aV<|cL<|aV<|aV ?_
    have h11:=gN h10 ho4
    have h12:=hU h11 h2
    obtain rfl:=sy h12
    exact bZ (rs':=[.tmp 4]) r<|cM (v:=aI) r<|bX<|aZ [] r r r lr aH
   ·
    exact cE<|eW<|eA<|bN<|aW r (iH r r)<|mI r<|fG (fr':=[(0,aL),(1,.fn _ []),(5,aI),(7,aI),(8,aI),(16,aB)]) r<|e_l _ (sy h10) (cR [] 0 r r r r kL4 aH)
  ·
   refine kF<|eL<|eL<|iM ?_
   have h14:=gN h5 ho4
   exact tB _ (sy h14) (cR [] 0 r r r r trivial aH)
 ·
  intro j3 hj15
  have h15:=qP hj15 h2
  refine eA<|aT<|sI r<|aR (fr':=[(4,aI)]) r r<|cB ?_
  obtain rfl:=sy h15
  exact bZ (rs':=[.tmp 4]) r<|cM (v:=aI) r<|bX<|aZ [] r r r lr aH
noncomputable def fH (p0s:(List aE)):Option Bool :=
 (gL p0s).bind fun x1=>some (decide (0≤x1))
theorem nV {p0s:(List aE)}{z:Bool} (h:fH p0s=some z):dE Tryz.prog 176 [.c (PV.ls 5 cH p0s),.fn 216 []] [] (.c (.bool z)) []:=by
 unfold fH at h
 refine eJ (fn:=Tryz.f176) [0,1,4] (by kernel_rfl) Tryz.func176 r (by kernel_rfl) (by kernel_rfl)<|aT<|sB r<|aR (fr':=[(0,aL),(1,.fn _ [])]) r r<|aT<|mL r<|mV (v:=.fn _ []) r<|bx h fun x1 y1 h2=>qB (bR (v:=aI) r (oV y1) pV r r r)<|aW r (xD r r)<|sB r<|aR (fr':=[(4,aB)]) r r<|cB ?_
 obtain rfl:=sy h2
 exact bZ (rs':=[.tmp 4]) r<|cM (v:=aB) r<|bX<|aZ [] r r r lr aH
noncomputable def uV (p0v:aE):Option Bool :=
 (gd ((cond (!decide (p0v.Kind=4)) true (!decide (((p0v.Items).length:Int)=2)))==false) (nF p0v.Items 1)).bind fun x1=>cond (cond (cond (!decide (p0v.Kind=4)) true (!decide (((p0v.Items).length:Int)=2))) true (!decide (x1.Kind=4))) (some false) ((nF p0v.Items 1).bind fun x5=>(fH x5.Items).bind fun x7=>some (!x7))
theorem aF7 {p0v:aE}{z:Bool} (h:uV p0v=some z):dE Tryz.prog 200 [.agg (AV.cs (fZ p0v))] [] (.c (.bool z)) []:=by
 unfold uV at h
 refine eJ (fn:=Tryz.f200) [0,1,2,19] (by kernel_rfl) Tryz.func200 r (by kernel_rfl) (by kernel_rfl)<|aT<|jB (v:=.agg cK) (n:=0) (cs:=cK) (σ':=[cK]) r r r r r<|sB r<|aR (fr':=[(1,aF)]) r r<|bC<|aT<|aW r (bH sP r)<|aW r (aK (v:=aI) gZ r r r)<|aW r (kD r r)<|mB r<|og r r r (fun u=>(bH pE r))<|og r r r (fun u=>(aK (v:=aL) zT (gx r u) r r))<|og r r r (fun u=>(iR aCa (fQ (gx r u))))<|og r r r (fun u=>(kD (gx r u) r))<|aW r (dD r r r (fun e=>hD e))<|mB r<|og r r r (fun u=>(bH pE r))<|og r r r (fun u=>(aK (v:=aL) zT (gx r u) r r))<|bx h fun x1 y1 h2=>og r r r (fun u=>(rD (cs:=[PV.int _ _,PV.int _ _,PV.str _,PV.ls _ _ _,PV.ls _ _ _]) aDc (fQ (gx r u)) r (eQ y1 u) (hF _)))<|og r r r (fun u=>(aMS sP (gx r u)))<|og r r r (fun u=>(nR (p:=PV.int _ _) gZ (gx r u) r))<|og r r r (fun u=>(kD (gx r u) r))<|aW r (dD r r r (fun e=>hD e))<|aR (fr':=[(1,aF),(19,aB)]) r r<|eS h2 r (fun b3 h3=>?_) (fun b3 h3=>?_)
 ·
  refine aT<|sB r<|aR (fr':=[(2,aB)]) r r<|cB<|aV ?_
  obtain rfl:=sy h3
  exact bZ (rs':=[.tmp 2]) r<|cM (v:=aB) r<|bX<|aZ [] r r r lr aH
 ·
  refine cE<|eA<|aT<|aW r (bH pE r)<|aW r (aK (v:=aL) zT r r r)<|bx h3 fun x5 y5 h6=>aW r (rD (cs:=[PV.int _ _,PV.int _ _,PV.str _,PV.ls _ _ _,PV.ls _ _ _]) aDc (fQ r) r y5 (hF _))<|aW r (aMS pE r)<|aW r (nR (p:=PV.ls _ _ _) zT r r)<|bx h6 fun x7 y7 h8=>qB (bR (v:=aB) r (nV y7) pV r r r)<|aW r (hY r)<|sB r<|aR (fr':=[(2,aB)]) r r<|cB ?_
  obtain rfl:=sy h8
  exact bZ (rs':=[.tmp 2]) r<|cM (v:=aB) r<|bX<|aZ [] r r r lr aH
noncomputable def tH (p0c:bL):Option Bool :=
 cond (decide (p0c.Kind=3)) ((lC p0c.N 1 1099511627776).bind fun x2=>some x2) (cond (decide (p0c.Kind=5)) ((lC p0c.N 0 2).bind fun x6=>some x6) (cond (decide (p0c.Kind=9)) ((lC p0c.N 0 1).bind fun x10=>some x10) (cond (decide (p0c.Kind=7)) ((gd ((decide (p0c.N=(-1)))==false) (lC p0c.N 0 2147483647)).bind fun x14=>some (cond (decide (p0c.N=(-1))) true (cond x14 (decide (p0c.Data.Kind=0)) false))) (cond (decide (p0c.Kind=10)) (some (decide (p0c.Data.Kind=5))) (cond (decide (p0c.Kind=14)) ((uV p0c.Data).bind fun x20=>some x20) (some true))))))
theorem aFh {p0c:bL}{z:Bool} (h:tH p0c=some z):dE Tryz.prog 168 [.agg (AV.cs (dM p0c))] [] (.c (.bool z)) []:=by
 unfold tH at h
 refine eJ (fn:=Tryz.f168) [0,1,2,4,5,10,15,20,36,42] (by kernel_rfl) Tryz.func168 r (by kernel_rfl) (by kernel_rfl)<|aT<|jB (v:=.agg aU) (n:=0) (cs:=aU) (σ':=[aU]) r r r r r<|sB r<|aR (fr':=[(1,aF)]) r r<|bC<|aT<|aW r (bH wV r)<|aW r (aK (v:=aI) gZ r r r)<|aR (fr':=[(1,aF),(4,aI)]) r r<|dA<|aT<|aW r (dZ r r)<|sB r<|aR (fr':=[(1,aF),(4,aI),(5,aB)]) r r<|eS h r (fun b1 h1=>?_) (fun b1 h1=>?_)
 ·
  refine aT<|aW r (bH vF r)<|aW r (aK (v:=aI) gZ r r r)<|bx h1 fun x2 y2 h3=>qB (bR (v:=aB) r (mJ y2) wE r r r)<|sB r<|aR (fr':=[(2,aB)]) r r<|cB<|cL<|aV ?_
  obtain rfl:=sy h3
  exact bZ (rs':=[.tmp 2]) r<|cM (v:=aB) r<|bX<|aZ [] r r r lr aH
 ·
  refine aT<|aW r (dZ r r)<|sB r<|aR (fr':=[(1,aF),(4,aI),(10,aB)]) r r<|eS h1 r (fun b5 h5=>?_) (fun b5 h5=>?_)
  ·
   refine aT<|aW r (bH vF r)<|aW r (aK (v:=aI) gZ r r r)<|bx h5 fun x6 y6 h7=>qB (bR (v:=aB) r (mJ y6) wE r r r)<|sB r<|aR (fr':=[(2,aB)]) r r<|cB<|cL<|aV ?_
   obtain rfl:=sy h7
   exact bZ (rs':=[.tmp 2]) r<|cM (v:=aB) r<|bX<|aZ [] r r r lr aH
  ·
   refine aT<|aW r (dZ r r)<|sB r<|aR (fr':=[(1,aF),(4,aI),(15,aB)]) r r<|eS h5 r (fun b9 h9=>?_) (fun b9 h9=>?_)
   ·
    refine aT<|aW r (bH vF r)<|aW r (aK (v:=aI) gZ r r r)<|bx h9 fun x10 y10 h11=>qB (bR (v:=aB) r (mJ y10) wE r r r)<|sB r<|aR (fr':=[(2,aB)]) r r<|cB<|cL<|aV ?_
    obtain rfl:=sy h11
    exact bZ (rs':=[.tmp 2]) r<|cM (v:=aB) r<|bX<|aZ [] r r r lr aH
   ·
    refine aT<|aW r (dZ r r)<|sB r<|aR (fr':=[(1,aF),(4,aI),(20,aB)]) r r<|eS h9 r (fun b13 h13=>?_) (fun b13 h13=>?_)
    ·
     refine aT<|aW r (bH vF r)<|aW r (aK (v:=aI) gZ r r r)<|aW r (dZ r r)<|mB r<|og r r r (fun u=>(bH vF r))<|og r r r (fun u=>(aK (v:=aI) gZ (gx r u) r r))<|bx h13 fun x14 y14 h15=>zB r r (fun u=>bR (v:=aB) r (mJ (eQ y14 u)) ⟨(fY (gx r u) lr),lr,lr,trivial⟩ (iN (by repeat (first | exact gK | refine bI r ?_ | refine bI (vT r) ?_ | refine bI vS ?_))) r r) ?_
     refine og r r r (fun u=>(bP (v:=aB) (gx r u)))<|hS r r (fun u=>iG r (bH wW r))<|hS r r (fun u=>iG r (bH sP (gx r u)))<|hS r r (fun u=>iG r (aK (v:=aI) gZ (gx r u) r r))<|hS r r (fun u=>iG r (dZ (gx r u) r))<|og r r r (fun u=>(cD (gx r u) r r (fun e=>wC u (hD e))))<|aW r (dD r r r (fun e=>hD e))<|sB r<|aR (fr':=[(2,aB)]) r r<|cB<|cL<|aV ?_
     obtain rfl:=sy h15
     exact bZ (rs':=[.tmp 2]) r<|cM (v:=aB) r<|bX<|aZ [] r r r lr aH
    ·
     refine aT<|aW r (dZ r r)<|sB r<|aR (fr':=[(1,aF),(4,aI),(36,aB)]) r r<|eS h13 r (fun b17 h17=>?_) (fun b17 h17=>?_)
     ·
      refine aT<|aW r (bH wW r)<|aW r (bH sP r)<|aW r (aK (v:=aI) gZ r r r)<|aW r (dZ r r)<|sB r<|aR (fr':=[(2,aB)]) r r<|cB<|cL<|aV ?_
      obtain rfl:=sy h17
      exact bZ (rs':=[.tmp 2]) r<|cM (v:=aB) r<|bX<|aZ [] r r r lr aH
     ·
      refine aT<|aW r (dZ r r)<|sB r<|aR (fr':=[(1,aF),(42,aB)]) r r<|eS h17 r (fun b19 h19=>?_) (fun b19 h19=>?_)
      ·
       refine aT<|aW r (bH wW r)<|aW r (dN (us:=cK) jG r r r r)<|bx h19 fun x20 y20 h21=>qB (bR (v:=aB) r (aF7 y20) ⟨(bV r kR5),trivial⟩ r r r)<|sB r<|aR (fr':=[(2,aB)]) r r<|cB<|cL<|aV ?_
       obtain rfl:=sy h21
       exact bZ (rs':=[.tmp 2]) r<|cM (v:=aB) r<|bX<|aZ [] r r r lr aH
      ·
       refine cE<|eW<|eA<|aT<|sB r<|aR (fr':=[(2,aB)]) r r<|cB ?_
       obtain rfl:=sy h19
       exact bZ (rs':=[.tmp 2]) r<|cM (v:=aB) r<|bX<|aZ [] r r r lr aH
noncomputable def qR (p0c:bL):Option Bool :=
 (tG p0c.Kind).bind fun x1=>(lC p0c.Kind 1 14).bind fun x3=>(gd ((!x3)==false) (wH p0c x1)).bind fun x5=>(gd ((cond (!x3) true (!x5))==false) (wA p0c.Data)).bind fun x7=>(gd ((cond (cond (!x3) true (!x5)) true (!x7))==false) (mN p0c.Opts)).bind fun x9=>cond (cond (cond (cond (!x3) true (!x5)) true (!x7)) true (!x9)) (some false) ((gd (x1.seq_==true) (lC p0c.Seq 1 2000)).bind fun x13=>(gd (((cond x1.seq_ (!x13) false)==false)&&(x1.key_==true)) (sA p0c.Key)).bind fun x15=>cond (cond (cond x1.seq_ (!x13) false) true (cond x1.key_ (!x15) false)) (some false) ((gd (((x1.name_==true)&&((cond (decide (p0c.Kind=12)) (decide (4096<((p0c.Name).length:Int))) false)==false))&&((!decide (p0c.Kind=12))==true)) (tJ p0c.Name)).bind fun x19=>cond (cond x1.name_ (cond (cond (decide (p0c.Kind=12)) (decide (4096<((p0c.Name).length:Int))) false) true (cond (!decide (p0c.Kind=12)) (!x19) false)) false) (some false) ((tH p0c).bind fun x23=>some x23)))
theorem yZ {p0c:bL}{z:Bool} (h:qR p0c=some z):dE Tryz.prog 106 [.agg (AV.cs (dM p0c))] [] (.c (.bool z)) []:=by
 unfold qR at h
 refine eJ (fn:=Tryz.f106) [0,1,2,3,28,46,70] (by kernel_rfl) Tryz.func106 r (by kernel_rfl) (by kernel_rfl)<|aT<|jB (v:=.agg aU) (n:=0) (cs:=aU) (σ':=[aU]) r r r r r<|sB r<|aR (fr':=[(1,aF)]) r r<|aT<|aW r (bH wV r)<|aW r (aK (v:=aI) gZ r r r)<|bx h fun x1 y1 h2=>qB (bR (v:=.agg dX) r (aFg y1) ⟨lr,trivial⟩ r r r)<|kT (n:=1) (cs:=dX) (σ':=[aU,dX]) aPz r r r<|cY (v:=.agg dX) (us:=dX) (cs:=dX) (σ':=[aU,dX]) r uK r r r r r r r r<|aR (fr':=[(1,aF),(3,bK)]) r r<|bC<|aT<|aW r (bH wV r)<|aW r (aK (v:=aI) gZ r r r)<|bx h2 fun x3 y3 h4=>qB (bR (v:=aB) r (mJ y3) wE r r r)<|aW r (hY r)<|mB r<|og r r r (fun u=>(dN (us:=aU) uJ r r r r))<|og r r r (fun u=>(dN (us:=dX) uK r r r r))<|bx h4 fun x5 y5 h6=>zB r r (fun u=>bR (v:=aB) r (aHG (eQ y5 u)) ⟨(fY (gx r u) (bV r aFQ)),(fY (gx r u) (bV r kR6)),trivial⟩ (iN (by repeat (first | exact gK | refine bI r ?_ | refine bI (vT r) ?_ | refine bI vS ?_))) r r) ?_
 refine og r r r (fun u=>(hY (gx r u)))<|aW r (dD r r r (fun e=>hD e))<|mB r<|og r r r (fun u=>(bH wW r))<|og r r r (fun u=>(dN (us:=cK) jG (gx r u) r r r))<|bx h6 fun x7 y7 h8=>zB r r (fun u=>bR (v:=aB) r (aDy (eQ y7 u)) ⟨(fY (gx r u) (bV r kR5)),trivial⟩ (iN (by repeat (first | exact gK | refine bI r ?_ | refine bI (vT r) ?_ | refine bI vS ?_))) r r) ?_
 refine og r r r (fun u=>(hY (gx r u)))<|aW r (dD r r r (fun e=>hD e))<|mB r<|og r r r (fun u=>(bH zS r))<|og r r r (fun u=>(dN (us:=dK) zU (gx r u) r r r))<|bx h8 fun x9 y9 h10=>zB r r (fun u=>bR (v:=aB) r (xE (eQ y9 u)) ⟨(fY (gx r u) (bV r yM)),trivial⟩ (iN (by repeat (first | exact gK | refine bI r ?_ | refine bI (vT r) ?_ | refine bI vS ?_))) r r) ?_
 refine og r r r (fun u=>(hY (gx r u)))<|aW r (dD r r r (fun e=>hD e))<|aR (fr':=[(1,aF),(3,bK),(28,aB)]) r r<|eS h10 r (fun b11 h11=>?_) (fun b11 h11=>?_)
 ·
  refine aT<|sB r<|aR (fr':=[(2,aB)]) r r<|cB<|aV ?_
  obtain rfl:=sy h11
  exact bZ (rs':=[.tmp 2]) r<|cM (v:=aB) r<|bX<|aZ [] r r r lr aH
 ·
  refine cE<|eA<|bC<|aT<|aW r (bH aM4 r)<|aW r (aK (v:=aB) tv4 r r r)<|mB r<|og r r r (fun u=>(bH aAU r))<|og r r r (fun u=>(aK (v:=aI) gZ (gx r u) r r))<|bx h11 fun x13 y13 h14=>zB r r (fun u=>bR (v:=aB) r (mJ (eQ y13 u)) ⟨(fY (gx r u) lr),lr,lr,trivial⟩ (iN (by repeat (first | exact gK | refine bI r ?_ | refine bI (vT r) ?_ | refine bI vS ?_))) r r) ?_
  refine og r r r (fun u=>(hY (gx r u)))<|aW r (cD r r r (fun e=>hD e))<|mB r<|og r r r (fun u=>(bH aM6 r))<|og r r r (fun u=>(aK (v:=aB) tv4 (gx r u) r r))<|og r r r (fun u=>(bP (v:=aB) (gx r u)))<|hS r r (fun u=>iG r (bH aAV r))<|hS r r (fun u=>iG r (aK (v:=aS) oG (gx r u) r r))<|bx h14 fun x15 y15 h16=>hS r r (fun u=>bR (v:=aB) r (aF6 (eQ y15 u)) ⟨(fY (gx r u) lr),trivial⟩ (iN (by repeat (first | exact gK | refine bI r ?_ | refine bI (vT r) ?_ | refine bI vS ?_))) r r) ?_
  refine hS r r (fun u=>iG r (hY (gx r u)))<|og r r r (fun u=>(cD (gx r u) r r (fun e=>wC u (hD e))))<|aW r (dD r r r (fun e=>hD e))<|aR (fr':=[(1,aF),(3,bK),(46,aB)]) r r<|eS h16 r (fun b17 h17=>?_) (fun b17 h17=>?_)
  ·
   refine aT<|sB r<|aR (fr':=[(2,aB)]) r r<|cB<|aV ?_
   obtain rfl:=sy h17
   exact bZ (rs':=[.tmp 2]) r<|cM (v:=aB) r<|bX<|aZ [] r r r lr aH
  ·
   refine cE<|eA<|bC<|aT<|aW r (bH aM5 r)<|aW r (aK (v:=aB) tv4 r r r)<|mB r<|og r r r (fun u=>(bH wV r))<|og r r r (fun u=>(aK (v:=aI) gZ (gx r u) r r))<|og r r r (fun u=>(dZ (gx r u) r))<|og r r r (fun u=>(bP (v:=aB) (gx r u)))<|hS r r (fun u=>iG r (bH zR r))<|hS r r (fun u=>iG r (aK (v:=aS) oG (gx r u) r r))<|hS r r (fun u=>iG r (rN zG (gx r u)))<|hS r r (fun u=>iG r (uW (gx r u) r))<|og r r r (fun u=>(cD (gx r u) r r (fun e=>wC u (hD e))))<|og r r r (fun u=>(bP (v:=aB) (gx r u)))<|hS r r (fun u=>iG r (bH wV r))<|hS r r (fun u=>iG r (aK (v:=aI) gZ (gx r u) r r))<|hS r r (fun u=>iG r (kD (gx r u) r))<|hS r r (fun u=>iG r (bP (v:=aB) (gx r u)))<|hS r r (fun u=>iG r (bH zR r))<|hS r r (fun u=>iG r (aK (v:=aS) oG (gx r u) r r))<|bx h17 fun x19 y19 h20=>hS r r (fun u=>bR (v:=aB) r (zY (eQ y19 u)) ⟨(fY (gx r u) lr),trivial⟩ (iN (by repeat (first | exact gK | refine bI r ?_ | refine bI (vT r) ?_ | refine bI vS ?_))) r r) ?_
   refine hS r r (fun u=>iG r (hY (gx r u)))<|hS r r (fun u=>iG r (cD (gx r u) r r (fun e=>wC u (hD e))))<|og r r r (fun u=>(dD (gx r u) r r (fun e=>wC u (hD e))))<|aW r (cD r r r (fun e=>hD e))<|aR (fr':=[(1,aF),(70,aB)]) r r<|eS h20 r (fun b21 h21=>?_) (fun b21 h21=>?_)
   ·
    refine aT<|sB r<|aR (fr':=[(2,aB)]) r r<|cB<|aV ?_
    obtain rfl:=sy h21
    exact bZ (rs':=[.tmp 2]) r<|cM (v:=aB) r<|bX<|aZ [] r r r lr aH
   ·
    refine cE<|eA<|aT<|aW r (dN (us:=aU) uJ r r r r)<|bx h21 fun x23 y23 h24=>qB (bR (v:=aB) r (aFh y23) ⟨(bV r aFQ),trivial⟩ r r r)<|sB r<|aR (fr':=[(2,aB)]) r r<|cB ?_
    obtain rfl:=sy h24
    exact bZ (rs':=[.tmp 2]) r<|cM (v:=aB) r<|bX<|aZ [] r r r lr aH
noncomputable def yE (aB0:(List UInt8)):Option (Int × Bool) :=
 if aB0.length≤140737488355328 then some (vC aB0) else none
theorem aIb {aB0:(List UInt8)}{z:(Int × Bool)} (h:yE aB0=some z):dE Tryz.prog 161 [.c (.str aB0)] [] (.tup [ci z.1,.c (.bool z.2)]) []:=by
 unfold yE at h
 obtain ⟨hl,rfl⟩:=aOS h
 refine aDA (by kernel_rfl) fun g w vs hv hI hg=>?_
 rw [aRz hv]
 refine (aI7 hl w hI hg).mono fun e w'=>?_
 rintro ⟨rfl,hb⟩
 exact ⟨_,r,hb,fun g'=>aPm (.c (.int _ _)) (.c (.bool _))⟩
