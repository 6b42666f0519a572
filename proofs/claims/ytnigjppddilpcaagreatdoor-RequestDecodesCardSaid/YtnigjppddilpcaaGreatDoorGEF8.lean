import Derived.Test.YtnigjppddilpcaaGreatDoorGETy
import Derived.Test.YtnigjppddilpcaaGreatDoorGEF0
import Derived.Test.YtnigjppddilpcaaGreatDoorGEF1
import Derived.Test.YtnigjppddilpcaaGreatDoorGEF6
import Derived.Test.YtnigjppddilpcaaGreatDoorGEF7
namespace Go.Proofs.YtnigjppddilpcaaGreatDoor
open Go Abs
set_option maxRecDepth 100000
set_option linter.unusedVariables false
set_option linter.unusedSimpArgs false
noncomputable def vF (p0n:Int) (nL:Int) (kW:Int):Option Bool :=
 some (cond (decide (nL≤p0n)) (decide (p0n≤kW)) false)
theorem wG {p0n:Int}{nL:Int}{kW:Int}{z:Bool} (h:vF p0n nL kW=some z):cQ Tryz.prog 81 [ci p0n,ci nL,ci kW] [] (.c (.bool z)) []:=by
 unfold vF at h
 refine dF (fn:=Tryz.f81) [0,1,2,6] (by kernel_rfl) Tryz.func81 r (by kernel_rfl) (by kernel_rfl)<|aH<|sB r<|aG (fr':=[(0,aI),(1,aI),(2,aI)]) r r<|aH<|mI r<|mI r<|aR r (oI r r)<|mB r<|og r r r (fun u=>(bN (v:=aI) r))<|og r r r (fun u=>(bN (v:=aI) r))<|og r r r (fun u=>(nM (gx r u) (gx r u)))<|aR r (bV r r r (fun e=>fJ e))<|sB r<|aG (fr':=[(6,aB)]) r r<|bK ?_
 obtain rfl:=sy h
 exact bJ (rs':=[.tmp 6]) r<|bS (v:=aB) r<|bI<|aN [] r r r lr aD
noncomputable def aAA (p0v:aQ) (s6:Int):Option (dU Int (Fl Bool Unit)) :=
 cond (decide (s6<((p0v.Keys).length:Int))) ((nG p0v.Keys s6).bind fun x8=>cond (decide (4096<((x8).length:Int))) (some (dU.out (Fl.done false))) (some (dU.next (IntKind.wrap .i64 (s6+1))))) (some (dU.out (Fl.go ())))
noncomputable def aAB (aH9:aQ→Option Bool) (p0v:aQ) (s19:Int):Option (dU Int (Fl Bool Unit)) :=
 cond (decide (s19<((p0v.Items).length:Int))) ((nG p0v.Items s19).bind fun x21=>(aH9 x21).bind fun x23=>cond (!x23) (some (dU.out (Fl.done false))) (some (dU.next (IntKind.wrap .i64 (s19+1))))) (some (dU.out (Fl.go ())))
noncomputable def vU:Nat→aQ→Option Bool
 | 0,_=>none
 | n+1,p0v =>
  cond (decide (4096<((p0v.Text).length:Int))) (some false) ((fK (aAA p0v) (0)).bind fun x3=>Fl.next x3 (fun j5=>((fK (aAB (vU n) p0v) (0)).bind fun x16=>Fl.next x16 (fun j18=>(some true)))))
theorem aJE:∀ n:Nat,(∀ {p0v:aQ}{z:Bool},vU n p0v=some z→cQ Tryz.prog 201 [.agg (AV.cs (fA p0v))] [] (.c (.bool z)) []):=by
 intro n
 induction n with
 | zero=>exact fun {p0v z} h=>absurd h (by simp [vU])
 | succ n ih =>
  have ih_ref02xShort:=@ih
  intro p0v z h
  rw [vU] at h
  refine dF (fn:=Tryz.f201) [0,1,2,3,4,8,13,22,27,36] (by kernel_rfl) Tryz.func201 r (by kernel_rfl) (by kernel_rfl)<|aH<|jK (v:=.agg cE) (n:=0) (cs:=cE) (σ':=[cE]) r r r r r<|sB r<|aG (fr':=[(1,aE)]) r r<|aZ<|aH<|aR r (bD uP r)<|aR r (aK (v:=aS) lP r r r)<|aR r (kT uU r)<|aR r (qW r r)<|aG (fr':=[(1,aE),(8,aB)]) r r<|cG h r (fun b1 h1=>?_) (fun b1 h1=>?_)
  ·
   refine aH<|sB r<|aG (fr':=[(2,aB)]) r r<|bK<|aP ?_
   obtain rfl:=sy h1
   exact bJ (rs':=[.tmp 2]) r<|bS (v:=aB) r<|bI<|aN [] r r r lr aD
  ·
   refine bF<|cZ<|aZ<|aH<|sI r<|aG (fr':=[(1,aE),(3,aI)]) r r<|bx h1 fun x3 y3 h4=>gZ lB (fun j5=>x3=Fl.go j5) (fun (j5:Unit)=>([(1,aE)]:Fr)) (fun (j5:Unit)=>([[ci p0v.Kind,ci p0v.Int,.c (.str p0v.Text),.c (PV.ls 5 bT p0v.Items),.c (PV.ls 1 fI p0v.Keys)]]:St)) ?_ ?_
   ·
    refine cH<|gV _ (fun (s6:Int)=>([(1,aE),(3,ci s6)]:Fr)) (fun (s6:Int)=>([[ci p0v.Kind,ci p0v.Int,.c (.str p0v.Text),.c (PV.ls 5 bT p0v.Items),.c (PV.ls 1 fI p0v.Keys)]]:St)) y3 (bC [] 1 r r r r jN (bR r aD)) ?_
    intro s6 st6 hs6 ho6
    unfold aAA at hs6
    refine aZ<|aH<|mI r<|aR r (bD oN r)<|aR r (aK (v:=aL) rC r r r)<|aR r (hZ zD (eK r))<|aR r (gI r r)<|aG (fr':=[(1,aE),(3,aI),(13,aB)]) r r<|cG hs6 r (fun b7 h7=>?_) (fun b7 h7=>?_)
    ·
     refine bF<|cZ<|aZ<|cH<|aH<|aR r (bD oN r)<|aR r (aK (v:=aL) rC r r r)<|mI r<|bx h7 fun x8 y8 h9=>aR r (lF (cs:=[PV.str _]) aAR (eK r) r y8 r)<|aR r (gP (p:=PV.str _) lP r r)<|aR r (kT uU r)<|aR r (qW r r)<|aG (fr':=[(1,aE),(3,aI),(22,aB)]) r r<|cG h9 r (fun b10 h10=>?_) (fun b10 h10=>?_)
     ·
      refine aH<|sB r<|aG (fr':=[(2,aB)]) r r<|bK<|bO<|aP<|aP<|bO<|aP<|aP ?_
      have h11:=eR h10 ho6
      have h12:=fL h11 h4
      obtain rfl:=sy h12
      exact bJ (rs':=[.tmp 2]) r<|bS (v:=aB) r<|bI<|aN [] r r r lr aD
     ·
      exact bF<|cW<|cZ<|bB<|mI r<|aR r (gC r r)<|sI r<|dM (fr':=[(1,aE),(3,aI),(22,aB)]) r<|zO _ (sy h10) (bC [] 1 r r r r jN (bR r aD))
    ·
     refine hG<|cY<|cY<|fP ?_
     have h14:=eR h7 ho6
     exact iQ _ (sy h14) (bC [] 1 r r r r ⟨lr,trivial⟩ (bR r aD))
   ·
    intro j5 hj15
    have h15:=lV hj15 h4
    refine cZ<|aZ<|aH<|sI r<|aG (fr':=[(1,aE),(4,aI)]) r r<|bx h15 fun x16 y16 h17=>gZ lB (fun j18=>x16=Fl.go j18) (fun (j18:Unit)=>([]:Fr)) (fun (j18:Unit)=>([[ci p0v.Kind,ci p0v.Int,.c (.str p0v.Text),.c (PV.ls 5 bT p0v.Items),.c (PV.ls 1 fI p0v.Keys)]]:St)) ?_ ?_
    ·
     refine cH<|gV _ (fun (s19:Int)=>([(1,aE),(4,ci s19)]:Fr)) (fun (s19:Int)=>([[ci p0v.Kind,ci p0v.Int,.c (.str p0v.Text),.c (PV.ls 5 bT p0v.Items),.c (PV.ls 1 fI p0v.Keys)]]:St)) y16 (bC [] 1 r r r r jN (bR r aD)) ?_
     intro s19 st19 hs19 ho19
     unfold aAB at hs19
     refine aZ<|aH<|mI r<|aR r (bD iJ r)<|aR r (aK (v:=aL) nS r r r)<|aR r (hZ vX (eK r))<|aR r (gI r r)<|aG (fr':=[(1,aE),(4,aI),(27,aB)]) r r<|cG hs19 r (fun b20 h20=>?_) (fun b20 h20=>?_)
     ·
      refine bF<|cZ<|aZ<|cH<|aH<|aR r (bD iJ r)<|aR r (aK (v:=aL) nS r r r)<|mI r<|bx h20 fun x21 y21 h22=>aR r (lF (cs:=[PV.int _ _,PV.int _ _,PV.str _,PV.ls _ _ _,PV.ls _ _ _]) uV (eK r) r y21 (eJ _))<|aR r (lT (us:=[PV.int _ _,PV.int _ _,PV.str _,PV.ls _ _ _,PV.ls _ _ _]) iO r r r)<|bx h22 fun x23 y23 h24=>lS (bL (v:=aB) r (ih_ref02xShort y23) ⟨(bQ r kR5),trivial⟩ r r r)<|aR r (fE r)<|aG (fr':=[(1,aE),(4,aI),(36,aB)]) r r<|cG h24 r (fun b25 h25=>?_) (fun b25 h25=>?_)
      ·
       refine aH<|sB r<|aG (fr':=[(2,aB)]) r r<|bK<|bO<|aP<|aP<|bO<|aP<|aP ?_
       have h26:=eR h25 ho19
       have h27:=fL h26 h17
       obtain rfl:=sy h27
       exact bJ (rs':=[.tmp 2]) r<|bS (v:=aB) r<|bI<|aN [] r r r lr aD
      ·
       exact bF<|cW<|cZ<|bB<|mI r<|aR r (gC r r)<|sI r<|dM (fr':=[(1,aE),(4,aI),(36,aB)]) r<|zO _ (sy h25) (bC [] 1 r r r r jN (bR r aD))
     ·
      refine hG<|cY<|cY<|fP ?_
      have h29:=eR h20 ho19
      exact iQ _ (sy h29) (bC [] 1 r r r r trivial (bR r aD))
    ·
     intro j18 hj30
     have h30:=lV hj30 h17
     refine cZ<|aH<|sB r<|aG (fr':=[(2,aB)]) r r<|bK ?_
     obtain rfl:=sy h30
     exact bJ (rs':=[.tmp 2]) r<|bS (v:=aB) r<|bI<|aN [] r r r lr aD
noncomputable def aEN (p0v:aQ):Option Bool:=lim fun n=>vU n p0v
theorem aKh {p0v:aQ}{z:Bool} (h:aEN p0v=some z):cQ Tryz.prog 201 [.agg (AV.cs (fA p0v))] [] (.c (.bool z)) []:=by
 obtain ⟨n,hn⟩:=rV h
 exact (aJE n) hn
noncomputable def aAy (aH8:aQ→Option Int) (p0v:aQ) (s4:(Int × Int)):Option (dU (Int × Int) Int) :=
 cond (decide (s4.2<((p0v.Items).length:Int))) ((nG p0v.Items s4.2).bind fun x6=>(aH8 x6).bind fun x8=>cond (decide (s4.1<x8)) (some (dU.next (x8,(IntKind.wrap .i64 (s4.2+1))))) (some (dU.next (s4.1,(IntKind.wrap .i64 (s4.2+1)))))) (some (dU.out s4.1))
noncomputable def vT:Nat→aQ→Option Int
 | 0,_=>none
 | n+1,p0v =>
  (fK (aAy (vT n) p0v) ((0,0))).bind fun x1=>(some (IntKind.wrap .i64 (x1+1)))
theorem aJD:∀ n:Nat,(∀ {p0v:aQ}{z:Int},vT n p0v=some z→cQ Tryz.prog 202 [.agg (AV.cs (fA p0v))] [] (ci z) []):=by
 intro n
 induction n with
 | zero=>exact fun {p0v z} h=>absurd h (by simp [vT])
 | succ n ih =>
  have ih_ref02xDepth:=@ih
  intro p0v z h
  rw [vT] at h
  refine dF (fn:=Tryz.f202) [0,1,2,3,4,5,10,21] (by kernel_rfl) Tryz.func202 r (by kernel_rfl) (by kernel_rfl)<|aH<|jK (v:=.agg cE) (n:=0) (cs:=cE) (σ':=[cE]) r r r r r<|sI r<|aG (fr':=[(1,aE)]) r r<|aH<|sI r<|aG (fr':=[(1,aE),(3,aI)]) r r<|aZ<|aZ<|bB<|sI r<|aG (fr':=[(1,aE),(3,aI),(4,aI)]) r r<|bx h fun x1 y1 h2=>gZ lB (fun j3=>x1=j3) (fun (j3:Int)=>([(3,ci j3)]:Fr)) (fun (j3:Int)=>([[ci p0v.Kind,ci p0v.Int,.c (.str p0v.Text),.c (PV.ls 5 bT p0v.Items),.c (PV.ls 1 fI p0v.Keys)]]:St)) ?_ ?_
  ·
   refine cH<|gV _ (fun (s4:(Int × Int))=>([(1,aE),(3,ci s4.1),(4,ci s4.2)]:Fr)) (fun (s4:(Int × Int))=>([[ci p0v.Kind,ci p0v.Int,.c (.str p0v.Text),.c (PV.ls 5 bT p0v.Items),.c (PV.ls 1 fI p0v.Keys)]]:St)) y1 (bC [] 1 r r r r kA (bR r aD)) ?_
   intro s4 st4 hs4 ho4
   unfold aAy at hs4
   refine aZ<|aH<|mI r<|aR r (bD iJ r)<|aR r (aK (v:=aL) nS r r r)<|aR r (hZ vX (eK r))<|aR r (gI r r)<|aG (fr':=[(1,aE),(3,aI),(4,aI),(10,aB)]) r r<|cG hs4 r (fun b5 h5=>?_) (fun b5 h5=>?_)
   ·
    refine bF<|cZ<|aZ<|cH<|aH<|aR r (bD iJ r)<|aR r (aK (v:=aL) nS r r r)<|mI r<|bx h5 fun x6 y6 h7=>aR r (lF (cs:=[PV.int _ _,PV.int _ _,PV.str _,PV.ls _ _ _,PV.ls _ _ _]) uV (eK r) r y6 (eJ _))<|aR r (lT (us:=[PV.int _ _,PV.int _ _,PV.str _,PV.ls _ _ _,PV.ls _ _ _]) iO r r r)<|bx h7 fun x8 y8 h9=>lS (bL (v:=aI) r (ih_ref02xDepth y8) ⟨(bQ r kR5),trivial⟩ r r r)<|sI r<|aG (fr':=[(1,aE),(3,aI),(4,aI),(5,aI)]) r r<|aH<|mI r<|mI r<|aR r (qW r r)<|aG (fr':=[(1,aE),(3,aI),(4,aI),(5,aI),(21,aB)]) r r<|cG h9 r (fun b10 h10=>?_) (fun b10 h10=>?_)
    ·
     exact bB<|mI r<|sI r<|dM (fr':=[(1,aE),(3,aI),(4,aI),(5,aI),(21,aB)]) r<|cW<|cZ<|bB<|mI r<|aR r (gC r r)<|sI r<|dM (fr':=[(1,aE),(3,aI),(4,aI),(5,aI),(21,aB)]) r<|zO _ (sy h10) (bC [] 1 r r r r kA (bR r aD))
    ·
     exact bF<|cW<|cZ<|bB<|mI r<|aR r (gC r r)<|sI r<|dM (fr':=[(1,aE),(3,aI),(4,aI),(5,aI),(21,aB)]) r<|zO _ (sy h10) (bC [] 1 r r r r kA (bR r aD))
   ·
    refine hG<|cY<|cY<|fP ?_
    have h11:=eR h5 ho4
    exact iQ _ (sy h11) (bC [] 1 r r r r ⟨lr,trivial⟩ (bR r aD))
  ·
   intro j3 hj12
   subst hj12
   refine cZ<|aH<|mI r<|aR r (gC r r)<|sI r<|aG (fr':=[(2,aI)]) r r<|bK ?_
   obtain rfl:=sy h2
   exact bJ (rs':=[.tmp 2]) r<|bS (v:=aI) r<|bI<|aN [] r r r lr aD
noncomputable def aEM (p0v:aQ):Option Int:=lim fun n=>vT n p0v
theorem aKg {p0v:aQ}{z:Int} (h:aEM p0v=some z):cQ Tryz.prog 202 [.agg (AV.cs (fA p0v))] [] (ci z) []:=by
 obtain ⟨n,hn⟩:=rV h
 exact (aJD n) hn
noncomputable def aBn (aJg:aQ→Option Int) (p0v:aQ) (s4:(Int × Int)):Option (dU (Int × Int) Int) :=
 cond (decide (s4.2<((p0v.Items).length:Int))) ((nG p0v.Items s4.2).bind fun x6=>(aJg x6).bind fun x8=>some (dU.next ((IntKind.wrap .i64 (s4.1+x8)),(IntKind.wrap .i64 (s4.2+1))))) (some (dU.out s4.1))
noncomputable def xS:Nat→aQ→Option Int
 | 0,_=>none
 | n+1,p0v =>
  (fK (aBn (xS n) p0v) ((1,0))).bind fun x1=>(some x1)
theorem aKc:∀ n:Nat,(∀ {p0v:aQ}{z:Int},xS n p0v=some z→cQ Tryz.prog 203 [.agg (AV.cs (fA p0v))] [] (ci z) []):=by
 intro n
 induction n with
 | zero=>exact fun {p0v z} h=>absurd h (by simp [xS])
 | succ n ih =>
  have ih_ref02xSize:=@ih
  intro p0v z h
  rw [xS] at h
  refine dF (fn:=Tryz.f203) [0,1,2,3,4,9] (by kernel_rfl) Tryz.func203 r (by kernel_rfl) (by kernel_rfl)<|aH<|jK (v:=.agg cE) (n:=0) (cs:=cE) (σ':=[cE]) r r r r r<|sI r<|aG (fr':=[(1,aE)]) r r<|aH<|sI r<|aG (fr':=[(1,aE),(3,aI)]) r r<|aZ<|aZ<|bB<|sI r<|aG (fr':=[(1,aE),(3,aI),(4,aI)]) r r<|bx h fun x1 y1 h2=>gZ lB (fun j3=>x1=j3) (fun (j3:Int)=>([(3,ci j3)]:Fr)) (fun (j3:Int)=>([[ci p0v.Kind,ci p0v.Int,.c (.str p0v.Text),.c (PV.ls 5 bT p0v.Items),.c (PV.ls 1 fI p0v.Keys)]]:St)) ?_ ?_
  ·
   refine cH<|gV _ (fun (s4:(Int × Int))=>([(1,aE),(3,ci s4.1),(4,ci s4.2)]:Fr)) (fun (s4:(Int × Int))=>([[ci p0v.Kind,ci p0v.Int,.c (.str p0v.Text),.c (PV.ls 5 bT p0v.Items),.c (PV.ls 1 fI p0v.Keys)]]:St)) y1 (bC [] 1 r r r r kA (bR r aD)) ?_
   intro s4 st4 hs4 ho4
   unfold aBn at hs4
   refine aZ<|aH<|mI r<|aR r (bD iJ r)<|aR r (aK (v:=aL) nS r r r)<|aR r (hZ vX (eK r))<|aR r (gI r r)<|aG (fr':=[(1,aE),(3,aI),(4,aI),(9,aB)]) r r<|cG hs4 r (fun b5 h5=>?_) (fun b5 h5=>?_)
   ·
    exact bF<|cZ<|aZ<|cH<|bB<|mI r<|aR r (bD iJ r)<|aR r (aK (v:=aL) nS r r r)<|mI r<|bx h5 fun x6 y6 h7=>aR r (lF (cs:=[PV.int _ _,PV.int _ _,PV.str _,PV.ls _ _ _,PV.ls _ _ _]) uV (eK r) r y6 (eJ _))<|aR r (lT (us:=[PV.int _ _,PV.int _ _,PV.str _,PV.ls _ _ _,PV.ls _ _ _]) iO r r r)<|bx h7 fun x8 y8 h9=>lS (bL (v:=aI) r (ih_ref02xSize y8) ⟨(bQ r kR5),trivial⟩ r r r)<|aR r (gC r r)<|sI r<|dM (fr':=[(1,aE),(3,aI),(4,aI),(9,aB)]) r<|cW<|cZ<|bB<|mI r<|aR r (gC r r)<|sI r<|dM (fr':=[(1,aE),(3,aI),(4,aI),(9,aB)]) r<|zO _ (sy h9) (bC [] 1 r r r r kA (bR r aD))
   ·
    refine hG<|cY<|cY<|fP ?_
    have h10:=eR h5 ho4
    exact iQ _ (sy h10) (bC [] 1 r r r r ⟨lr,trivial⟩ (bR r aD))
  ·
   intro j3 hj11
   subst hj11
   refine cZ<|aH<|mI r<|sI r<|aG (fr':=[(2,aI)]) r r<|bK ?_
   obtain rfl:=sy h2
   exact bJ (rs':=[.tmp 2]) r<|bS (v:=aI) r<|bI<|aN [] r r r lr aD
noncomputable def aFQ (p0v:aQ):Option Int:=lim fun n=>xS n p0v
theorem aLL {p0v:aQ}{z:Int} (h:aFQ p0v=some z):cQ Tryz.prog 203 [.agg (AV.cs (fA p0v))] [] (ci z) []:=by
 obtain ⟨n,hn⟩:=rV h
 exact (aKc n) hn
noncomputable def aAC (p0v:aQ):Option Bool :=
 (aEN p0v).bind fun x1=>(gd (x1==true) (aEM p0v)).bind fun x3=>(gd ((cond x1 (decide (x3≤16)) false)==true) (aFQ p0v)).bind fun x5=>some (cond (cond x1 (decide (x3≤16)) false) (decide (x5≤1000)) false)
theorem aJJ {p0v:aQ}{z:Bool} (h:aAC p0v=some z):cQ Tryz.prog 169 [.agg (AV.cs (fA p0v))] [] (.c (.bool z)) []:=by
 unfold aAC at h
 refine dF (fn:=Tryz.f169) [0,1,2] (by kernel_rfl) Tryz.func169 r (by kernel_rfl) (by kernel_rfl)<|aH<|jK (v:=.agg cE) (n:=0) (cs:=cE) (σ':=[cE]) r r r r r<|sB r<|aG (fr':=[(1,aE)]) r r<|aH<|aR r (dL (us:=cE) iO r r r r)<|bx h fun x1 y1 h2=>lS (bL (v:=aB) r (aKh y1) ⟨(bQ r kR5),trivial⟩ r r r)<|mB r<|og r r r (fun u=>(dL (us:=cE) iO r r r r))<|bx h2 fun x3 y3 h4=>sX r r (fun u=>bL (v:=aI) r (aKg (cU y3 u)) ⟨(eW (gx r u) (bQ r kR5)),trivial⟩ (fT (by repeat (first | exact eN | refine aY r ?_ | refine aY (pP r) ?_ | refine aY pO ?_))) r r) ?_
 refine og r r r (fun u=>(nM (gx r u) r))<|aR r (bV r r r (fun e=>fJ e))<|mB r<|og r r r (fun u=>(dL (us:=cE) iO r r r r))<|bx h4 fun x5 y5 h6=>sX r r (fun u=>bL (v:=aI) r (aLL (cU y5 u)) ⟨(eW (gx r u) (bQ r kR5)),trivial⟩ (fT (by repeat (first | exact eN | refine aY r ?_ | refine aY (pP r) ?_ | refine aY pO ?_))) r r) ?_
 refine og r r r (fun u=>(nM (gx r u) r))<|aR r (bV r r r (fun e=>fJ e))<|sB r<|aG (fr':=[(2,aB)]) r r<|bK ?_
 obtain rfl:=sy h6
 exact bJ (rs':=[.tmp 2]) r<|bS (v:=aB) r<|bI<|aN [] r r r lr aD
noncomputable def zR (aHm:aQ→Option Bool) (p0v:aQ) (s4:Int):Option (dU Int (Fl Bool Unit)) :=
 cond (decide (s4<((p0v.Items).length:Int))) ((nG p0v.Items s4).bind fun x6=>(aHm x6).bind fun x8=>cond x8 (some (dU.out (Fl.done true))) (some (dU.next (IntKind.wrap .i64 (s4+1))))) (some (dU.out (Fl.go ())))
noncomputable def uM:Nat→aQ→Option Bool
 | 0,_=>none
 | n+1,p0v =>
  (fK (zR (uM n) p0v) (0)).bind fun x1=>Fl.next x1 (fun j3=>(some (decide (p0v.Kind=6))))
theorem aIf:∀ n:Nat,(∀ {p0v:aQ}{z:Bool},uM n p0v=some z→cQ Tryz.prog 170 [.agg (AV.cs (fA p0v))] [] (.c (.bool z)) []):=by
 intro n
 induction n with
 | zero=>exact fun {p0v z} h=>absurd h (by simp [uM])
 | succ n ih =>
  have ih_ref02xFuture:=@ih
  intro p0v z h
  rw [uM] at h
  refine dF (fn:=Tryz.f170) [0,1,2,3,8,16] (by kernel_rfl) Tryz.func170 r (by kernel_rfl) (by kernel_rfl)<|aH<|jK (v:=.agg cE) (n:=0) (cs:=cE) (σ':=[cE]) r r r r r<|sB r<|aG (fr':=[(1,aE)]) r r<|aZ<|aH<|sI r<|aG (fr':=[(1,aE),(3,aI)]) r r<|bx h fun x1 y1 h2=>gZ lB (fun j3=>x1=Fl.go j3) (fun (j3:Unit)=>([(1,aE)]:Fr)) (fun (j3:Unit)=>([[ci p0v.Kind,ci p0v.Int,.c (.str p0v.Text),.c (PV.ls 5 bT p0v.Items),.c (PV.ls 1 fI p0v.Keys)]]:St)) ?_ ?_
  ·
   refine cH<|gV _ (fun (s4:Int)=>([(1,aE),(3,ci s4)]:Fr)) (fun (s4:Int)=>([[ci p0v.Kind,ci p0v.Int,.c (.str p0v.Text),.c (PV.ls 5 bT p0v.Items),.c (PV.ls 1 fI p0v.Keys)]]:St)) y1 (bC [] 1 r r r r jN (bR r aD)) ?_
   intro s4 st4 hs4 ho4
   unfold zR at hs4
   refine aZ<|aH<|mI r<|aR r (bD iJ r)<|aR r (aK (v:=aL) nS r r r)<|aR r (hZ vX (eK r))<|aR r (gI r r)<|aG (fr':=[(1,aE),(3,aI),(8,aB)]) r r<|cG hs4 r (fun b5 h5=>?_) (fun b5 h5=>?_)
   ·
    refine bF<|cZ<|aZ<|cH<|aH<|aR r (bD iJ r)<|aR r (aK (v:=aL) nS r r r)<|mI r<|bx h5 fun x6 y6 h7=>aR r (lF (cs:=[PV.int _ _,PV.int _ _,PV.str _,PV.ls _ _ _,PV.ls _ _ _]) uV (eK r) r y6 (eJ _))<|aR r (lT (us:=[PV.int _ _,PV.int _ _,PV.str _,PV.ls _ _ _,PV.ls _ _ _]) iO r r r)<|bx h7 fun x8 y8 h9=>lS (bL (v:=aB) r (ih_ref02xFuture y8) ⟨(bQ r kR5),trivial⟩ r r r)<|aG (fr':=[(1,aE),(3,aI),(16,aB)]) r r<|cG h9 r (fun b10 h10=>?_) (fun b10 h10=>?_)
    ·
     refine aH<|sB r<|aG (fr':=[(2,aB)]) r r<|bK<|bO<|aP<|aP<|bO<|aP<|aP ?_
     have h11:=eR h10 ho4
     have h12:=fL h11 h2
     obtain rfl:=sy h12
     exact bJ (rs':=[.tmp 2]) r<|bS (v:=aB) r<|bI<|aN [] r r r lr aD
    ·
     exact bF<|cW<|cZ<|bB<|mI r<|aR r (gC r r)<|sI r<|dM (fr':=[(1,aE),(3,aI),(16,aB)]) r<|zO _ (sy h10) (bC [] 1 r r r r jN (bR r aD))
   ·
    refine hG<|cY<|cY<|fP ?_
    have h14:=eR h5 ho4
    exact iQ _ (sy h14) (bC [] 1 r r r r ⟨lr,trivial⟩ (bR r aD))
  ·
   intro j3 hj15
   have h15:=lV hj15 h2
   refine cZ<|aH<|aR r (bD mE r)<|aR r (aK (v:=aI) fM r r r)<|aR r (bU r r)<|sB r<|aG (fr':=[(2,aB)]) r r<|bK ?_
   obtain rfl:=sy h15
   exact bJ (rs':=[.tmp 2]) r<|bS (v:=aB) r<|bI<|aN [] r r r lr aD
noncomputable def aDQ (p0v:aQ):Option Bool:=lim fun n=>uM n p0v
theorem aJH {p0v:aQ}{z:Bool} (h:aDQ p0v=some z):cQ Tryz.prog 170 [.agg (AV.cs (fA p0v))] [] (.c (.bool z)) []:=by
 obtain ⟨n,hn⟩:=rV h
 exact (aIf n) hn
noncomputable def tX (p0v:aQ):Option Bool :=
 (aBd p0v).bind fun x1=>(gd (x1==true) (aAC p0v)).bind fun x3=>(gd ((cond x1 x3 false)==true) (aDQ p0v)).bind fun x5=>some (cond (cond x1 x3 false) (!x5) false)
theorem zN {p0v:aQ}{z:Bool} (h:tX p0v=some z):cQ Tryz.prog 111 [.agg (AV.cs (fA p0v))] [] (.c (.bool z)) []:=by
 unfold tX at h
 refine dF (fn:=Tryz.f111) [0,1,2] (by kernel_rfl) Tryz.func111 r (by kernel_rfl) (by kernel_rfl)<|aH<|jK (v:=.agg cE) (n:=0) (cs:=cE) (σ':=[cE]) r r r r r<|sB r<|aG (fr':=[(1,aE)]) r r<|aH<|aR r (dL (us:=cE) iO r r r r)<|bx h fun x1 y1 h2=>lS (bL (v:=aB) r (aF6 y1) ⟨(bQ r kR5),trivial⟩ r r r)<|mB r<|og r r r (fun u=>(dL (us:=cE) iO r r r r))<|bx h2 fun x3 y3 h4=>sX r r (fun u=>bL (v:=aB) r (aJJ (cU y3 u)) ⟨(eW (gx r u) (bQ r kR5)),trivial⟩ (fT (by repeat (first | exact eN | refine aY r ?_ | refine aY (pP r) ?_ | refine aY pO ?_))) r r) ?_
 refine aR r (bV r r r (fun e=>fJ e))<|mB r<|og r r r (fun u=>(dL (us:=cE) iO r r r r))<|bx h4 fun x5 y5 h6=>sX r r (fun u=>bL (v:=aB) r (aJH (cU y5 u)) ⟨(eW (gx r u) (bQ r kR5)),trivial⟩ (fT (by repeat (first | exact eN | refine aY r ?_ | refine aY (pP r) ?_ | refine aY pO ?_))) r r) ?_
 refine og r r r (fun u=>(fE (gx r u)))<|aR r (bV r r r (fun e=>fJ e))<|sB r<|aG (fr':=[(2,aB)]) r r<|bK ?_
 obtain rfl:=sy h6
 exact bJ (rs':=[.tmp 2]) r<|bS (v:=aB) r<|bI<|aN [] r r r lr aD
noncomputable def aCB (dN:Int):Option hD :=
 cond (decide (dN=1)) (some (hD.mk false false true false true true true false)) (cond (decide (dN=2)) (some (hD.mk false false true false false false false false)) (((cond (decide (dN=3)) (some (decide (dN=3))) (cond (decide (dN=4)) (some (decide (dN=4))) (some (decide (dN=6))))):Option Bool).bind fun x5=>(cond x5 (some (hD.mk false true false false false false false false)) (cond (decide (dN=5)) (some (hD.mk false true false true false false false false)) (cond (decide (dN=8)) (some (hD.mk true true true false false false false false)) (((cond (decide (dN=9)) (some (decide (dN=9))) (cond (decide (dN=13)) (some (decide (dN=13))) (some (decide (dN=21))))):Option Bool).bind fun x17=>(cond x17 (some (hD.mk true true false false false false true false)) (((cond (decide (dN=10)) (some (decide (dN=10))) (some (decide (dN=22)))):Option Bool).bind fun x25=>(cond x25 (some (hD.mk true true false false true false true false)) (cond (decide (dN=11)) (some (hD.mk true true false true false false false false)) (((cond (decide (dN=15)) (some (decide (dN=15))) (cond (decide (dN=24)) (some (decide (dN=24))) (cond (decide (dN=12)) (some (decide (dN=12))) (some (decide (dN=16)))))):Option Bool).bind fun x34=>(cond x34 (some (hD.mk true true false false false false false false)) (cond (decide (dN=17)) (some (hD.mk false false false false true true true false)) (cond (decide (dN=20)) (some (hD.mk true true false false false true false false)) (cond (decide (dN=25)) (some (hD.mk true true false false true false false false)) (cond (decide (dN=26)) (some (hD.mk false false false false false true false false)) (cond (decide (dN=33)) (some (hD.mk false false false false true false false false)) (cond (decide (dN=7)) (some (hD.mk true false false false true false true true)) (cond (decide (dN=14)) (some (hD.mk true false true false false false false false)) (cond (decide (dN=19)) (some (hD.mk true false true false true true true false)) (cond (decide (dN=23)) (some (hD.mk true false false false true true true false)) (cond (decide (dN=18)) (some (hD.mk false false true false true false true false)) (cond (decide (dN=27)) (some (hD.mk false false false false true true true false)) (cond (decide (dN=28)) (some (hD.mk false false true false false true true false)) (cond (decide (dN=31)) (some (hD.mk false false false false true false true false)) (((cond (decide (dN=29)) (some (decide (dN=29))) (cond (decide (dN=30)) (some (decide (dN=30))) (cond (decide (dN=32)) (some (decide (dN=32))) (some (decide (dN=35)))))):Option Bool).bind fun x69=>(cond x69 (some (hD.mk false false false false false false true false)) (some (hD.mk false false false false false false false false)))))))))))))))))))))))))))))
theorem aLP {dN:Int}{z:hD} (h:aCB dN=some z):cQ Tryz.prog 153 [ci dN] [] (.agg (AV.cs (aJq z))) []:=by
 unfold aCB at h
 refine dF (fn:=Tryz.f153) [0,2,3,4,7,10,15,18,21,26,30,33,39,42,45,48,51,54,57,60,63,66,69,72,75,78] (by kernel_rfl) Tryz.func153 r (by kernel_rfl) (by kernel_rfl)<|aH<|hO (n:=0) (cs:=bP) (σ':=[bP]) aRA r r r<|aG (fr':=[(0,aI),(2,aE)]) r r<|aZ<|aH<|mI r<|aG (fr':=[(2,aE),(3,aI)]) r r<|cH<|aZ<|bB<|aR r (bU r r)<|sB r<|aG (fr':=[(2,aE),(3,aI),(4,aB)]) r r<|cG h r (fun b1 h1=>?_) (fun b1 h1=>?_)
 ·
  refine aH<|aR r (fV (cs:=bP) xH r)<|bM (v:=.agg bP) (us:=bP) (cs:=bP) (σ':=[bP]) r mT r r r r r r r r<|aG (fr':=[(2,aE)]) r r<|bK<|bO<|aP ?_
  obtain rfl:=sy h1
  exact bJ (rs':=[.cell 2 154]) r<|dY (us:=bP) (cs:=bP) mT r r r r<|bI<|aN [] r r r (bQ r kR8) aD
 ·
  refine aH<|aR r (bU r r)<|sB r<|aG (fr':=[(2,aE),(3,aI),(7,aB)]) r r<|cG h1 r (fun b3 h3=>?_) (fun b3 h3=>?_)
  ·
   refine aH<|aR r (fV (cs:=bP) xH r)<|bM (v:=.agg bP) (us:=bP) (cs:=bP) (σ':=[bP]) r mT r r r r r r r r<|aG (fr':=[(2,aE)]) r r<|bK<|bO<|aP ?_
   obtain rfl:=sy h3
   exact bJ (rs':=[.cell 2 154]) r<|dY (us:=bP) (cs:=bP) mT r r r r<|bI<|aN [] r r r (bQ r kR8) aD
  ·
   obtain ⟨x5,y5,h6⟩:=iW h3
   refine hH (fun j7=>x5=j7) (fun (j7:Bool)=>([(2,aE),(3,ci dN),(10,.c (.bool j7))]:Fr)) (fun (j7:Bool)=>([[.c (.bool false),.c (.bool false),.c (.bool false),.c (.bool false),.c (.bool false),.c (.bool false),.c (.bool false),.c (.bool false)]]:St)) ?_ ?_
   ·
    refine aH<|aR r (bU r r)<|sB r<|aG (fr':=[(2,aE),(3,aI),(10,aB)]) r r<|cG y5 r (fun b8 h8=>?_) (fun b8 h8=>?_)
    ·
     exact bF<|iQ _ (sy h8) (bC [] 1 r r r r kA (bR r aD))
    ·
     refine aH<|aR r (bU r r)<|sB r<|aG (fr':=[(2,aE),(3,aI),(10,aB)]) r r<|cG h8 r (fun b9 h9=>?_) (fun b9 h9=>?_)
     ·
      exact bF<|iQ _ (sy h9) (bC [] 1 r r r r kA (bR r aD))
     ·
      exact bB<|aR r (bU r r)<|sB r<|dM (fr':=[(2,aE),(3,aI),(10,aB)]) r<|iQ _ (sy h9) (bC [] 1 r r r r kA (bR r aD))
   ·
    intro j7 hj10
    subst hj10
    refine cG h6 r (fun b11 h11=>?_) (fun b11 h11=>?_)
    ·
     refine aH<|aR r (fV (cs:=bP) xH r)<|bM (v:=.agg bP) (us:=bP) (cs:=bP) (σ':=[bP]) r mT r r r r r r r r<|aG (fr':=[(2,aE)]) r r<|bK<|bO<|aP ?_
     obtain rfl:=sy h11
     exact bJ (rs':=[.cell 2 154]) r<|dY (us:=bP) (cs:=bP) mT r r r r<|bI<|aN [] r r r (bQ r kR8) aD
    ·
     refine aH<|aR r (bU r r)<|sB r<|aG (fr':=[(2,aE),(3,aI),(15,aB)]) r r<|cG h11 r (fun b13 h13=>?_) (fun b13 h13=>?_)
     ·
      refine aH<|aR r (fV (cs:=bP) xH r)<|bM (v:=.agg bP) (us:=bP) (cs:=bP) (σ':=[bP]) r mT r r r r r r r r<|aG (fr':=[(2,aE)]) r r<|bK<|bO<|aP ?_
      obtain rfl:=sy h13
      exact bJ (rs':=[.cell 2 154]) r<|dY (us:=bP) (cs:=bP) mT r r r r<|bI<|aN [] r r r (bQ r kR8) aD
     ·
      refine aH<|aR r (bU r r)<|sB r<|aG (fr':=[(2,aE),(3,aI),(18,aB)]) r r<|cG h13 r (fun b15 h15=>?_) (fun b15 h15=>?_)
      ·
       refine aH<|aR r (fV (cs:=bP) xH r)<|bM (v:=.agg bP) (us:=bP) (cs:=bP) (σ':=[bP]) r mT r r r r r r r r<|aG (fr':=[(2,aE)]) r r<|bK<|bO<|aP ?_
       obtain rfl:=sy h15
       exact bJ (rs':=[.cell 2 154]) r<|dY (us:=bP) (cs:=bP) mT r r r r<|bI<|aN [] r r r (bQ r kR8) aD
      ·
       obtain ⟨x17,y17,h18⟩:=iW h15
       refine hH (fun j19=>x17=j19) (fun (j19:Bool)=>([(2,aE),(3,ci dN),(21,.c (.bool j19))]:Fr)) (fun (j19:Bool)=>([[.c (.bool false),.c (.bool false),.c (.bool false),.c (.bool false),.c (.bool false),.c (.bool false),.c (.bool false),.c (.bool false)]]:St)) ?_ ?_
       ·
        refine aH<|aR r (bU r r)<|sB r<|aG (fr':=[(2,aE),(3,aI),(21,aB)]) r r<|cG y17 r (fun b20 h20=>?_) (fun b20 h20=>?_)
        ·
         exact bF<|iQ _ (sy h20) (bC [] 1 r r r r kA (bR r aD))
        ·
         refine aH<|aR r (bU r r)<|sB r<|aG (fr':=[(2,aE),(3,aI),(21,aB)]) r r<|cG h20 r (fun b21 h21=>?_) (fun b21 h21=>?_)
         ·
          exact bF<|iQ _ (sy h21) (bC [] 1 r r r r kA (bR r aD))
         ·
          exact bB<|aR r (bU r r)<|sB r<|dM (fr':=[(2,aE),(3,aI),(21,aB)]) r<|iQ _ (sy h21) (bC [] 1 r r r r kA (bR r aD))
       ·
        intro j19 hj22
        subst hj22
        refine cG h18 r (fun b23 h23=>?_) (fun b23 h23=>?_)
        ·
         refine aH<|aR r (fV (cs:=bP) xH r)<|bM (v:=.agg bP) (us:=bP) (cs:=bP) (σ':=[bP]) r mT r r r r r r r r<|aG (fr':=[(2,aE)]) r r<|bK<|bO<|aP ?_
         obtain rfl:=sy h23
         exact bJ (rs':=[.cell 2 154]) r<|dY (us:=bP) (cs:=bP) mT r r r r<|bI<|aN [] r r r (bQ r kR8) aD
        ·
         obtain ⟨x25,y25,h26⟩:=iW h23
         refine hH (fun j27=>x25=j27) (fun (j27:Bool)=>([(2,aE),(3,ci dN),(26,.c (.bool j27))]:Fr)) (fun (j27:Bool)=>([[.c (.bool false),.c (.bool false),.c (.bool false),.c (.bool false),.c (.bool false),.c (.bool false),.c (.bool false),.c (.bool false)]]:St)) ?_ ?_
         ·
          refine aH<|aR r (bU r r)<|sB r<|aG (fr':=[(2,aE),(3,aI),(26,aB)]) r r<|cG y25 r (fun b28 h28=>?_) (fun b28 h28=>?_)
          ·
           exact bF<|iQ _ (sy h28) (bC [] 1 r r r r kA (bR r aD))
          ·
           exact bB<|aR r (bU r r)<|sB r<|dM (fr':=[(2,aE),(3,aI),(26,aB)]) r<|iQ _ (sy h28) (bC [] 1 r r r r kA (bR r aD))
         ·
          intro j27 hj29
          subst hj29
          refine cG h26 r (fun b30 h30=>?_) (fun b30 h30=>?_)
          ·
           refine aH<|aR r (fV (cs:=bP) xH r)<|bM (v:=.agg bP) (us:=bP) (cs:=bP) (σ':=[bP]) r mT r r r r r r r r<|aG (fr':=[(2,aE)]) r r<|bK<|bO<|aP ?_
           obtain rfl:=sy h30
           exact bJ (rs':=[.cell 2 154]) r<|dY (us:=bP) (cs:=bP) mT r r r r<|bI<|aN [] r r r (bQ r kR8) aD
          ·
           refine aH<|aR r (bU r r)<|sB r<|aG (fr':=[(2,aE),(3,aI),(30,aB)]) r r<|cG h30 r (fun b32 h32=>?_) (fun b32 h32=>?_)
           ·
            refine aH<|aR r (fV (cs:=bP) xH r)<|bM (v:=.agg bP) (us:=bP) (cs:=bP) (σ':=[bP]) r mT r r r r r r r r<|aG (fr':=[(2,aE)]) r r<|bK<|bO<|aP ?_
            obtain rfl:=sy h32
            exact bJ (rs':=[.cell 2 154]) r<|dY (us:=bP) (cs:=bP) mT r r r r<|bI<|aN [] r r r (bQ r kR8) aD
           ·
            obtain ⟨x34,y34,h35⟩:=iW h32
            refine hH (fun j36=>x34=j36) (fun (j36:Bool)=>([(2,aE),(3,ci dN),(33,.c (.bool j36))]:Fr)) (fun (j36:Bool)=>([[.c (.bool false),.c (.bool false),.c (.bool false),.c (.bool false),.c (.bool false),.c (.bool false),.c (.bool false),.c (.bool false)]]:St)) ?_ ?_
            ·
             refine aH<|aR r (bU r r)<|sB r<|aG (fr':=[(2,aE),(3,aI),(33,aB)]) r r<|cG y34 r (fun b37 h37=>?_) (fun b37 h37=>?_)
             ·
              exact bF<|iQ _ (sy h37) (bC [] 1 r r r r kA (bR r aD))
             ·
              refine aH<|aR r (bU r r)<|sB r<|aG (fr':=[(2,aE),(3,aI),(33,aB)]) r r<|cG h37 r (fun b38 h38=>?_) (fun b38 h38=>?_)
              ·
               exact bF<|iQ _ (sy h38) (bC [] 1 r r r r kA (bR r aD))
              ·
               refine aH<|aR r (bU r r)<|sB r<|aG (fr':=[(2,aE),(3,aI),(33,aB)]) r r<|cG h38 r (fun b39 h39=>?_) (fun b39 h39=>?_)
               ·
                exact bF<|iQ _ (sy h39) (bC [] 1 r r r r kA (bR r aD))
               ·
                exact bB<|aR r (bU r r)<|sB r<|dM (fr':=[(2,aE),(3,aI),(33,aB)]) r<|iQ _ (sy h39) (bC [] 1 r r r r kA (bR r aD))
            ·
             intro j36 hj40
             subst hj40
             refine cG h35 r (fun b41 h41=>?_) (fun b41 h41=>?_)
             ·
              refine aH<|aR r (fV (cs:=bP) xH r)<|bM (v:=.agg bP) (us:=bP) (cs:=bP) (σ':=[bP]) r mT r r r r r r r r<|aG (fr':=[(2,aE)]) r r<|bK<|bO<|aP ?_
              obtain rfl:=sy h41
              exact bJ (rs':=[.cell 2 154]) r<|dY (us:=bP) (cs:=bP) mT r r r r<|bI<|aN [] r r r (bQ r kR8) aD
             ·
              refine aH<|aR r (bU r r)<|sB r<|aG (fr':=[(2,aE),(3,aI),(39,aB)]) r r<|cG h41 r (fun b43 h43=>?_) (fun b43 h43=>?_)
              ·
               refine aH<|aR r (fV (cs:=bP) xH r)<|bM (v:=.agg bP) (us:=bP) (cs:=bP) (σ':=[bP]) r mT r r r r r r r r<|aG (fr':=[(2,aE)]) r r<|bK<|bO<|aP ?_
               obtain rfl:=sy h43
               exact bJ (rs':=[.cell 2 154]) r<|dY (us:=bP) (cs:=bP) mT r r r r<|bI<|aN [] r r r (bQ r kR8) aD
              ·
               refine aH<|aR r (bU r r)<|sB r<|aG (fr':=[(2,aE),(3,aI),(42,aB)]) r r<|cG h43 r (fun b45 h45=>?_) (fun b45 h45=>?_)
               ·
                refine aH<|aR r (fV (cs:=bP) xH r)<|bM (v:=.agg bP) (us:=bP) (cs:=bP) (σ':=[bP]) r mT r r r r r r r r<|aG (fr':=[(2,aE)]) r r<|bK<|bO<|aP ?_
                obtain rfl:=sy h45
                exact bJ (rs':=[.cell 2 154]) r<|dY (us:=bP) (cs:=bP) mT r r r r<|bI<|aN [] r r r (bQ r kR8) aD
               ·
                refine aH<|aR r (bU r r)<|sB r<|aG (fr':=[(2,aE),(3,aI),(45,aB)]) r r<|cG h45 r (fun b47 h47=>?_) (fun b47 h47=>?_)
                ·
                 refine aH<|aR r (fV (cs:=bP) xH r)<|bM (v:=.agg bP) (us:=bP) (cs:=bP) (σ':=[bP]) r mT r r r r r r r r<|aG (fr':=[(2,aE)]) r r<|bK<|bO<|aP ?_
                 obtain rfl:=sy h47
                 exact bJ (rs':=[.cell 2 154]) r<|dY (us:=bP) (cs:=bP) mT r r r r<|bI<|aN [] r r r (bQ r kR8) aD
                ·
                 refine aH<|aR r (bU r r)<|sB r<|aG (fr':=[(2,aE),(3,aI),(48,aB)]) r r<|cG h47 r (fun b49 h49=>?_) (fun b49 h49=>?_)
                 ·
                  refine aH<|aR r (fV (cs:=bP) xH r)<|bM (v:=.agg bP) (us:=bP) (cs:=bP) (σ':=[bP]) r mT r r r r r r r r<|aG (fr':=[(2,aE)]) r r<|bK<|bO<|aP ?_
                  obtain rfl:=sy h49
                  exact bJ (rs':=[.cell 2 154]) r<|dY (us:=bP) (cs:=bP) mT r r r r<|bI<|aN [] r r r (bQ r kR8) aD
                 ·
                  refine aH<|aR r (bU r r)<|sB r<|aG (fr':=[(2,aE),(3,aI),(51,aB)]) r r<|cG h49 r (fun b51 h51=>?_) (fun b51 h51=>?_)
                  ·
                   refine aH<|aR r (fV (cs:=bP) xH r)<|bM (v:=.agg bP) (us:=bP) (cs:=bP) (σ':=[bP]) r mT r r r r r r r r<|aG (fr':=[(2,aE)]) r r<|bK<|bO<|aP ?_
                   obtain rfl:=sy h51
                   exact bJ (rs':=[.cell 2 154]) r<|dY (us:=bP) (cs:=bP) mT r r r r<|bI<|aN [] r r r (bQ r kR8) aD
                  ·
                   refine aH<|aR r (bU r r)<|sB r<|aG (fr':=[(2,aE),(3,aI),(54,aB)]) r r<|cG h51 r (fun b53 h53=>?_) (fun b53 h53=>?_)
                   ·
                    refine aH<|aR r (fV (cs:=bP) xH r)<|bM (v:=.agg bP) (us:=bP) (cs:=bP) (σ':=[bP]) r mT r r r r r r r r<|aG (fr':=[(2,aE)]) r r<|bK<|bO<|aP ?_
                    obtain rfl:=sy h53
                    exact bJ (rs':=[.cell 2 154]) r<|dY (us:=bP) (cs:=bP) mT r r r r<|bI<|aN [] r r r (bQ r kR8) aD
                   ·
                    refine aH<|aR r (bU r r)<|sB r<|aG (fr':=[(2,aE),(3,aI),(57,aB)]) r r<|cG h53 r (fun b55 h55=>?_) (fun b55 h55=>?_)
                    ·
                     refine aH<|aR r (fV (cs:=bP) xH r)<|bM (v:=.agg bP) (us:=bP) (cs:=bP) (σ':=[bP]) r mT r r r r r r r r<|aG (fr':=[(2,aE)]) r r<|bK<|bO<|aP ?_
                     obtain rfl:=sy h55
                     exact bJ (rs':=[.cell 2 154]) r<|dY (us:=bP) (cs:=bP) mT r r r r<|bI<|aN [] r r r (bQ r kR8) aD
                    ·
                     refine aH<|aR r (bU r r)<|sB r<|aG (fr':=[(2,aE),(3,aI),(60,aB)]) r r<|cG h55 r (fun b57 h57=>?_) (fun b57 h57=>?_)
                     ·
                      refine aH<|aR r (fV (cs:=bP) xH r)<|bM (v:=.agg bP) (us:=bP) (cs:=bP) (σ':=[bP]) r mT r r r r r r r r<|aG (fr':=[(2,aE)]) r r<|bK<|bO<|aP ?_
                      obtain rfl:=sy h57
                      exact bJ (rs':=[.cell 2 154]) r<|dY (us:=bP) (cs:=bP) mT r r r r<|bI<|aN [] r r r (bQ r kR8) aD
                     ·
                      refine aH<|aR r (bU r r)<|sB r<|aG (fr':=[(2,aE),(3,aI),(63,aB)]) r r<|cG h57 r (fun b59 h59=>?_) (fun b59 h59=>?_)
                      ·
                       refine aH<|aR r (fV (cs:=bP) xH r)<|bM (v:=.agg bP) (us:=bP) (cs:=bP) (σ':=[bP]) r mT r r r r r r r r<|aG (fr':=[(2,aE)]) r r<|bK<|bO<|aP ?_
                       obtain rfl:=sy h59
                       exact bJ (rs':=[.cell 2 154]) r<|dY (us:=bP) (cs:=bP) mT r r r r<|bI<|aN [] r r r (bQ r kR8) aD
                      ·
                       refine aH<|aR r (bU r r)<|sB r<|aG (fr':=[(2,aE),(3,aI),(66,aB)]) r r<|cG h59 r (fun b61 h61=>?_) (fun b61 h61=>?_)
                       ·
                        refine aH<|aR r (fV (cs:=bP) xH r)<|bM (v:=.agg bP) (us:=bP) (cs:=bP) (σ':=[bP]) r mT r r r r r r r r<|aG (fr':=[(2,aE)]) r r<|bK<|bO<|aP ?_
                        obtain rfl:=sy h61
                        exact bJ (rs':=[.cell 2 154]) r<|dY (us:=bP) (cs:=bP) mT r r r r<|bI<|aN [] r r r (bQ r kR8) aD
                       ·
                        refine aH<|aR r (bU r r)<|sB r<|aG (fr':=[(2,aE),(3,aI),(69,aB)]) r r<|cG h61 r (fun b63 h63=>?_) (fun b63 h63=>?_)
                        ·
                         refine aH<|aR r (fV (cs:=bP) xH r)<|bM (v:=.agg bP) (us:=bP) (cs:=bP) (σ':=[bP]) r mT r r r r r r r r<|aG (fr':=[(2,aE)]) r r<|bK<|bO<|aP ?_
                         obtain rfl:=sy h63
                         exact bJ (rs':=[.cell 2 154]) r<|dY (us:=bP) (cs:=bP) mT r r r r<|bI<|aN [] r r r (bQ r kR8) aD
                        ·
                         refine aH<|aR r (bU r r)<|sB r<|aG (fr':=[(2,aE),(3,aI),(72,aB)]) r r<|cG h63 r (fun b65 h65=>?_) (fun b65 h65=>?_)
                         ·
                          refine aH<|aR r (fV (cs:=bP) xH r)<|bM (v:=.agg bP) (us:=bP) (cs:=bP) (σ':=[bP]) r mT r r r r r r r r<|aG (fr':=[(2,aE)]) r r<|bK<|bO<|aP ?_
                          obtain rfl:=sy h65
                          exact bJ (rs':=[.cell 2 154]) r<|dY (us:=bP) (cs:=bP) mT r r r r<|bI<|aN [] r r r (bQ r kR8) aD
                         ·
                          refine aH<|aR r (bU r r)<|sB r<|aG (fr':=[(2,aE),(3,aI),(75,aB)]) r r<|cG h65 r (fun b67 h67=>?_) (fun b67 h67=>?_)
                          ·
                           refine aH<|aR r (fV (cs:=bP) xH r)<|bM (v:=.agg bP) (us:=bP) (cs:=bP) (σ':=[bP]) r mT r r r r r r r r<|aG (fr':=[(2,aE)]) r r<|bK<|bO<|aP ?_
                           obtain rfl:=sy h67
                           exact bJ (rs':=[.cell 2 154]) r<|dY (us:=bP) (cs:=bP) mT r r r r<|bI<|aN [] r r r (bQ r kR8) aD
                          ·
                           obtain ⟨x69,y69,h70⟩:=iW h67
                           refine hH (fun j71=>x69=j71) (fun (j71:Bool)=>([(2,aE),(78,.c (.bool j71))]:Fr)) (fun (j71:Bool)=>([[.c (.bool false),.c (.bool false),.c (.bool false),.c (.bool false),.c (.bool false),.c (.bool false),.c (.bool false),.c (.bool false)]]:St)) ?_ ?_
                           ·
                            refine aH<|aR r (bU r r)<|sB r<|aG (fr':=[(2,aE),(3,aI),(78,aB)]) r r<|cG y69 r (fun b72 h72=>?_) (fun b72 h72=>?_)
                            ·
                             exact bF<|iQ _ (sy h72) (bC [] 1 r r r r jN (bR r aD))
                            ·
                             refine aH<|aR r (bU r r)<|sB r<|aG (fr':=[(2,aE),(3,aI),(78,aB)]) r r<|cG h72 r (fun b73 h73=>?_) (fun b73 h73=>?_)
                             ·
                              exact bF<|iQ _ (sy h73) (bC [] 1 r r r r jN (bR r aD))
                             ·
                              refine aH<|aR r (bU r r)<|sB r<|aG (fr':=[(2,aE),(3,aI),(78,aB)]) r r<|cG h73 r (fun b74 h74=>?_) (fun b74 h74=>?_)
                              ·
                               exact bF<|iQ _ (sy h74) (bC [] 1 r r r r jN (bR r aD))
                              ·
                               exact bB<|aR r (bU r r)<|sB r<|dM (fr':=[(2,aE),(3,aI),(78,aB)]) r<|iQ _ (sy h74) (bC [] 1 r r r r jN (bR r aD))
                           ·
                            intro j71 hj75
                            subst hj75
                            refine cG h70 r (fun b76 h76=>?_) (fun b76 h76=>?_)
                            ·
                             refine aH<|aR r (fV (cs:=bP) xH r)<|bM (v:=.agg bP) (us:=bP) (cs:=bP) (σ':=[bP]) r mT r r r r r r r r<|aG (fr':=[(2,aE)]) r r<|bK<|bO<|aP ?_
                             obtain rfl:=sy h76
                             exact bJ (rs':=[.cell 2 154]) r<|dY (us:=bP) (cs:=bP) mT r r r r<|bI<|aN [] r r r (bQ r kR8) aD
                            ·
                             refine bF<|cW<|cZ<|aH<|aR r (fV (cs:=bP) xH r)<|bM (v:=.agg bP) (us:=bP) (cs:=bP) (σ':=[bP]) r mT r r r r r r r r<|aG (fr':=[(2,aE)]) r r<|bK ?_
                             obtain rfl:=sy h76
                             exact bJ (rs':=[.cell 2 154]) r<|dY (us:=bP) (cs:=bP) mT r r r r<|bI<|aN [] r r r (bQ r kR8) aD
