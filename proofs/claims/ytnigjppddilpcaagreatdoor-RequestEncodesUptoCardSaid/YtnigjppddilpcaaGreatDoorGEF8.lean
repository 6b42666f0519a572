import Derived.Test.YtnigjppddilpcaaGreatDoorGETy
import Derived.Test.YtnigjppddilpcaaGreatDoorGEF0
import Derived.Test.YtnigjppddilpcaaGreatDoorGEF1
import Derived.Test.YtnigjppddilpcaaGreatDoorGEF6
import Derived.Test.YtnigjppddilpcaaGreatDoorGEF7
namespace Go.Proofs.YtnigjppddilpcaaGreatDoor
open Go Abs
set_option maxRecDepth 100000
set_option linter.unusedVariables false
set_option linter.unusedSimpArgs false
noncomputable def sT (p0v:aG) (s6:Int):Option (cM Int (Fl Bool Unit)) :=
 cond (decide (s6<((p0v.Keys).length:Int))) ((jT p0v.Keys s6).bind fun x8=>cond (decide ((4096:Int)<((x8).length:Int))) (some (cM.out (Fl.done false))) (some (cM.next (IntKind.wrap .i64 (s6+(1:Int)))))) (some (cM.out (Fl.go ())))
noncomputable def sU (aEf:aG→Option Bool) (p0v:aG) (s19:Int):Option (cM Int (Fl Bool Unit)) :=
 cond (decide (s19<((p0v.Items).length:Int))) ((jT p0v.Items s19).bind fun x21=>(aEf x21).bind fun x23=>cond (!x23) (some (cM.out (Fl.done false))) (some (cM.next (IntKind.wrap .i64 (s19+(1:Int)))))) (some (cM.out (Fl.go ())))
noncomputable def nW:Nat→aG→Option Bool
 | 0,_=>none
 | n+1,p0v =>
  cond (decide ((4096:Int)<((p0v.Text).length:Int))) (some false) (((eQ (sT p0v) ((0:Int))):Option (Fl Bool Unit)).bind fun x3=>Fl.next x3 (fun j5=>(((eQ (sU (nW n) p0v) ((0:Int))):Option (Fl Bool Unit)).bind fun x16=>Fl.next x16 (fun j18=>(some true)))))
theorem aFR:∀ n:Nat,(∀ {p0v:aG}{res:Bool},nW n p0v=some res→bT Tryz.prog 201 [.agg (AV.cs (cV p0v))] [] (.c (.bool res)) []):=by
 intro n
 induction n with
 | zero=>exact fun {p0v res} h=>absurd h (by simp [nW])
 | succ n ih =>
  have ih_ref02xShort:=@ih
  intro p0v res h
  rw [nW] at h
  refine cJ (fn:=Tryz.f201) [0,1,2,3,4,8,13,22,27,36] (by kernel_rfl) Tryz.func201 r (by kernel_rfl) (by kernel_rfl)<|aH<|fW (v:=.agg bQ) (n:=0) (cs:=bQ) (σ':=[bQ]) r r r r r<|sB r<|aF (fr':=[(1,.box 0 0)]) r r<|aR<|aH<|aK r (aZ oA r)<|aK r (aJ (v:=aS) iE r r r)<|aK r (gS nJ r)<|aK r (mG r r) ?_
  refine aF (fr':=[(1,.box 0 0),(8,aB)]) r r<|bS h r (fun hb1 h1=>?_) (fun hb1 h1=>?_)
  ·
   refine aH<|sB r<|aF (fr':=[(2,aB)]) r r<|bF<|aM ?_
   obtain rfl:=sy h1
   exact bE (rs':=[.tmp 2]) r<|bG (v:=aB) r<|bD<|aN [] r r r lr aC
  ·
   refine aW<|bZ<|aR<|aH<|sI r<|aF (fr':=[(1,.box 0 0),(3,aI)]) r r ?_
   obtain ⟨x3,hx3,h4⟩:=aE h1
   refine eR gX (fun j5=>x3=Fl.go j5) (fun (j5:Unit)=>([(1,.box 0 0)]:Fr)) (fun (j5:Unit)=>([[ci p0v.Kind,ci p0v.Int,.c (.str p0v.Text),.c (PV.ls 5 bB p0v.Items),.c (PV.ls 1 dD p0v.Keys)]]:St)) ?_ ?_
   ·
    refine bL<|eK _ (fun (s6:Int)=>([(1,.box 0 0),(3,ci s6)]:Fr)) (fun (s6:Int)=>([[ci p0v.Kind,ci p0v.Int,.c (.str p0v.Text),.c (PV.ls 5 bB p0v.Items),.c (PV.ls 1 dD p0v.Keys)]]:St)) hx3 (aU [] 1 r r r r ⟨lr,lr,trivial⟩ (bJ r aC)) ?_
    intro s6 st6 hs6 ho6
    unfold sT at hs6
    refine aR<|aH<|mI r<|aK r (aZ jW r)<|aK r (aJ (v:=aL) lN r r r)<|aK r (eC pU (cR r))<|aK r (eA r r)<|aF (fr':=[(1,.box 0 0),(3,aI),(13,aB)]) r r<|bS hs6 r (fun hb7 h7=>?_) (fun hb7 h7=>?_)
    ·
     refine aW<|bZ<|aR<|bL<|aH<|aK r (aZ jW r)<|aK r (aJ (v:=aL) lN r r r)<|mI r ?_
     obtain ⟨x8,hx8,h9⟩:=aE h7
     refine aK r (iL (cs:=[PV.str _]) rV (cR r) r hx8 r)<|aK r (fU (p:=PV.str _) iE r r)<|aK r (gS nJ r)<|aK r (mG r r)<|aF (fr':=[(1,.box 0 0),(3,aI),(22,aB)]) r r<|bS h9 r (fun hb10 h10=>?_) (fun hb10 h10=>?_)
     ·
      refine aH<|sB r<|aF (fr':=[(2,aB)]) r r<|bF<|bH<|aM<|aM<|bH<|aM<|aM ?_
      have h11:=dB h10 ho6
      have h12:=eH h11 h4
      obtain rfl:=sy h12
      exact bE (rs':=[.tmp 2]) r<|bG (v:=aB) r<|bD<|aN [] r r r lr aC
     ·
      exact aW<|bW<|bZ<|aT<|mI r<|aK r (dZ r r)<|sI r<|cD (fr':=[(1,.box 0 0),(3,aI),(22,aB)]) r<|tU _ (sy h10) (aU [] 1 r r r r ⟨lr,lr,trivial⟩ (bJ r aC))
    ·
     refine eZ<|bY<|bY<|dX ?_
     have h14:=dB h7 ho6
     exact fS _ (sy h14) (aU [] 1 r r r r ⟨lr,trivial⟩ (bJ r aC))
   ·
    intro j5 hj15
    have h15:=iS hj15 h4
    refine bZ<|aR<|aH<|sI r<|aF (fr':=[(1,.box 0 0),(4,aI)]) r r ?_
    obtain ⟨x16,hx16,h17⟩:=aE h15
    refine eR gX (fun j18=>x16=Fl.go j18) (fun (j18:Unit)=>([]:Fr)) (fun (j18:Unit)=>([[ci p0v.Kind,ci p0v.Int,.c (.str p0v.Text),.c (PV.ls 5 bB p0v.Items),.c (PV.ls 1 dD p0v.Keys)]]:St)) ?_ ?_
    ·
     refine bL<|eK _ (fun (s19:Int)=>([(1,.box 0 0),(4,ci s19)]:Fr)) (fun (s19:Int)=>([[ci p0v.Kind,ci p0v.Int,.c (.str p0v.Text),.c (PV.ls 5 bB p0v.Items),.c (PV.ls 1 dD p0v.Keys)]]:St)) hx16 (aU [] 1 r r r r ⟨lr,lr,trivial⟩ (bJ r aC)) ?_
     intro s19 st19 hs19 ho19
     unfold sU at hs19
     refine aR<|aH<|mI r<|aK r (aZ fM r)<|aK r (aJ (v:=aL) kD r r r)<|aK r (eC qM (cR r))<|aK r (eA r r)<|aF (fr':=[(1,.box 0 0),(4,aI),(27,aB)]) r r<|bS hs19 r (fun hb20 h20=>?_) (fun hb20 h20=>?_)
     ·
      refine aW<|bZ<|aR<|bL<|aH<|aK r (aZ fM r)<|aK r (aJ (v:=aL) kD r r r)<|mI r ?_
      obtain ⟨x21,hx21,h22⟩:=aE h20
      refine aK r (iL (cs:=[PV.int _ _,PV.int _ _,PV.str _,PV.ls _ _ _,PV.ls _ _ _]) tO (cR r) r hx21 (cY _))<|aK r (hG (us:=[PV.int _ _,PV.int _ _,PV.str _,PV.ls _ _ _,PV.ls _ _ _]) fV r r r) ?_
      obtain ⟨x23,hx23,h24⟩:=aE h22
      refine gW (aY (v:=aB) r (ih_ref02xShort hx23) ⟨(bP r ⟨r,r,r,r,r,trivial⟩),trivial⟩ r r r)<|aK r (eD r)<|aF (fr':=[(1,.box 0 0),(4,aI),(36,aB)]) r r<|bS h24 r (fun hb25 h25=>?_) (fun hb25 h25=>?_)
      ·
       refine aH<|sB r<|aF (fr':=[(2,aB)]) r r<|bF<|bH<|aM<|aM<|bH<|aM<|aM ?_
       have h26:=dB h25 ho19
       have h27:=eH h26 h17
       obtain rfl:=sy h27
       exact bE (rs':=[.tmp 2]) r<|bG (v:=aB) r<|bD<|aN [] r r r lr aC
      ·
       exact aW<|bW<|bZ<|aT<|mI r<|aK r (dZ r r)<|sI r<|cD (fr':=[(1,.box 0 0),(4,aI),(36,aB)]) r<|tU _ (sy h25) (aU [] 1 r r r r ⟨lr,lr,trivial⟩ (bJ r aC))
     ·
      refine eZ<|bY<|bY<|dX ?_
      have h29:=dB h20 ho19
      exact fS _ (sy h29) (aU [] 1 r r r r trivial (bJ r aC))
    ·
     intro j18 hj30
     have h30:=iS hj30 h17
     refine bZ<|aH<|sB r<|aF (fr':=[(2,aB)]) r r<|bF ?_
     obtain rfl:=sy h30
     exact bE (rs':=[.tmp 2]) r<|bG (v:=aB) r<|bD<|aN [] r r r lr aC
noncomputable def aAJ (p0v:aG):Option Bool:=lim fun n=>nW n p0v
theorem aGB {p0v:aG}{res:Bool} (h:aAJ p0v=some res):bT Tryz.prog 201 [.agg (AV.cs (cV p0v))] [] (.c (.bool res)) []:=by
 obtain ⟨n,hn⟩:=kR h
 exact (aFR n) hn
noncomputable def sQ (aEe:aG→Option Int) (p0v:aG) (s4:(Int × Int)):Option (cM (Int × Int) Int) :=
 cond (decide (s4.2<((p0v.Items).length:Int))) ((jT p0v.Items s4.2).bind fun x6=>(aEe x6).bind fun x8=>cond (decide (s4.1<x8)) (some (cM.next (x8,(IntKind.wrap .i64 (s4.2+(1:Int)))))) (some (cM.next (s4.1,(IntKind.wrap .i64 (s4.2+(1:Int))))))) (some (cM.out s4.1))
noncomputable def nV:Nat→aG→Option Int
 | 0,_=>none
 | n+1,p0v =>
  ((eQ (sQ (nV n) p0v) (((0:Int),(0:Int)))):Option Int).bind fun x1=>(some (IntKind.wrap .i64 (x1+(1:Int))))
theorem aFQ:∀ n:Nat,(∀ {p0v:aG}{res:Int},nV n p0v=some res→bT Tryz.prog 202 [.agg (AV.cs (cV p0v))] [] (ci res) []):=by
 intro n
 induction n with
 | zero=>exact fun {p0v res} h=>absurd h (by simp [nV])
 | succ n ih =>
  have ih_ref02xDepth:=@ih
  intro p0v res h
  rw [nV] at h
  refine cJ (fn:=Tryz.f202) [0,1,2,3,4,5,10,21] (by kernel_rfl) Tryz.func202 r (by kernel_rfl) (by kernel_rfl)<|aH<|fW (v:=.agg bQ) (n:=0) (cs:=bQ) (σ':=[bQ]) r r r r r<|sI r<|aF (fr':=[(1,.box 0 0)]) r r<|aH<|sI r<|aF (fr':=[(1,.box 0 0),(3,aI)]) r r<|aR<|aR<|aT ?_
  refine sI r<|aF (fr':=[(1,.box 0 0),(3,aI),(4,aI)]) r r ?_
  obtain ⟨x1,hx1,h2⟩:=aE h
  refine eR gX (fun j3=>x1=j3) (fun (j3:Int)=>([(3,ci j3)]:Fr)) (fun (j3:Int)=>([[ci p0v.Kind,ci p0v.Int,.c (.str p0v.Text),.c (PV.ls 5 bB p0v.Items),.c (PV.ls 1 dD p0v.Keys)]]:St)) ?_ ?_
  ·
   refine bL<|eK _ (fun (s4:(Int × Int))=>([(1,.box 0 0),(3,ci s4.1),(4,ci s4.2)]:Fr)) (fun (s4:(Int × Int))=>([[ci p0v.Kind,ci p0v.Int,.c (.str p0v.Text),.c (PV.ls 5 bB p0v.Items),.c (PV.ls 1 dD p0v.Keys)]]:St)) hx1 (aU [] 1 r r r r ⟨lr,lr,lr,trivial⟩ (bJ r aC)) ?_
   intro s4 st4 hs4 ho4
   unfold sQ at hs4
   refine aR<|aH<|mI r<|aK r (aZ fM r)<|aK r (aJ (v:=aL) kD r r r)<|aK r (eC qM (cR r))<|aK r (eA r r)<|aF (fr':=[(1,.box 0 0),(3,aI),(4,aI),(10,aB)]) r r<|bS hs4 r (fun hb5 h5=>?_) (fun hb5 h5=>?_)
   ·
    refine aW<|bZ<|aR<|bL<|aH<|aK r (aZ fM r)<|aK r (aJ (v:=aL) kD r r r)<|mI r ?_
    obtain ⟨x6,hx6,h7⟩:=aE h5
    refine aK r (iL (cs:=[PV.int _ _,PV.int _ _,PV.str _,PV.ls _ _ _,PV.ls _ _ _]) tO (cR r) r hx6 (cY _))<|aK r (hG (us:=[PV.int _ _,PV.int _ _,PV.str _,PV.ls _ _ _,PV.ls _ _ _]) fV r r r) ?_
    obtain ⟨x8,hx8,h9⟩:=aE h7
    refine gW (aY (v:=aI) r (ih_ref02xDepth hx8) ⟨(bP r ⟨r,r,r,r,r,trivial⟩),trivial⟩ r r r)<|sI r<|aF (fr':=[(1,.box 0 0),(3,aI),(4,aI),(5,aI)]) r r<|aH<|mI r<|mI r<|aK r (mG r r)<|aF (fr':=[(1,.box 0 0),(3,aI),(4,aI),(5,aI),(21,aB)]) r r<|bS h9 r (fun hb10 h10=>?_) (fun hb10 h10=>?_)
    ·
     exact aT<|mI r<|sI r<|cD (fr':=[(1,.box 0 0),(3,aI),(4,aI),(5,aI),(21,aB)]) r<|bW<|bZ<|aT<|mI r<|aK r (dZ r r)<|sI r<|cD (fr':=[(1,.box 0 0),(3,aI),(4,aI),(5,aI),(21,aB)]) r<|tU _ (sy h10) (aU [] 1 r r r r ⟨lr,lr,lr,trivial⟩ (bJ r aC))
    ·
     exact aW<|bW<|bZ<|aT<|mI r<|aK r (dZ r r)<|sI r<|cD (fr':=[(1,.box 0 0),(3,aI),(4,aI),(5,aI),(21,aB)]) r<|tU _ (sy h10) (aU [] 1 r r r r ⟨lr,lr,lr,trivial⟩ (bJ r aC))
   ·
    refine eZ<|bY<|bY<|dX ?_
    have h11:=dB h5 ho4
    exact fS _ (sy h11) (aU [] 1 r r r r ⟨lr,trivial⟩ (bJ r aC))
  ·
   intro j3 hj12
   subst hj12
   refine bZ<|aH<|mI r<|aK r (dZ r r)<|sI r<|aF (fr':=[(2,aI)]) r r<|bF ?_
   obtain rfl:=sy h2
   exact bE (rs':=[.tmp 2]) r<|bG (v:=aI) r<|bD<|aN [] r r r lr aC
noncomputable def aAI (p0v:aG):Option Int:=lim fun n=>nV n p0v
theorem aGA {p0v:aG}{res:Int} (h:aAI p0v=some res):bT Tryz.prog 202 [.agg (AV.cs (cV p0v))] [] (ci res) []:=by
 obtain ⟨n,hn⟩:=kR h
 exact (aFQ n) hn
noncomputable def uH (aFy:aG→Option Int) (p0v:aG) (s4:(Int × Int)):Option (cM (Int × Int) Int) :=
 cond (decide (s4.2<((p0v.Items).length:Int))) ((jT p0v.Items s4.2).bind fun x6=>(aFy x6).bind fun x8=>some (cM.next ((IntKind.wrap .i64 (s4.1+x8)),(IntKind.wrap .i64 (s4.2+(1:Int)))))) (some (cM.out s4.1))
noncomputable def pM:Nat→aG→Option Int
 | 0,_=>none
 | n+1,p0v =>
  ((eQ (uH (pM n) p0v) (((1:Int),(0:Int)))):Option Int).bind fun x1=>(some x1)
theorem aGw:∀ n:Nat,(∀ {p0v:aG}{res:Int},pM n p0v=some res→bT Tryz.prog 203 [.agg (AV.cs (cV p0v))] [] (ci res) []):=by
 intro n
 induction n with
 | zero=>exact fun {p0v res} h=>absurd h (by simp [pM])
 | succ n ih =>
  have ih_ref02xSize:=@ih
  intro p0v res h
  rw [pM] at h
  refine cJ (fn:=Tryz.f203) [0,1,2,3,4,9] (by kernel_rfl) Tryz.func203 r (by kernel_rfl) (by kernel_rfl)<|aH<|fW (v:=.agg bQ) (n:=0) (cs:=bQ) (σ':=[bQ]) r r r r r<|sI r<|aF (fr':=[(1,.box 0 0)]) r r<|aH<|sI r<|aF (fr':=[(1,.box 0 0),(3,aI)]) r r<|aR<|aR<|aT ?_
  refine sI r<|aF (fr':=[(1,.box 0 0),(3,aI),(4,aI)]) r r ?_
  obtain ⟨x1,hx1,h2⟩:=aE h
  refine eR gX (fun j3=>x1=j3) (fun (j3:Int)=>([(3,ci j3)]:Fr)) (fun (j3:Int)=>([[ci p0v.Kind,ci p0v.Int,.c (.str p0v.Text),.c (PV.ls 5 bB p0v.Items),.c (PV.ls 1 dD p0v.Keys)]]:St)) ?_ ?_
  ·
   refine bL<|eK _ (fun (s4:(Int × Int))=>([(1,.box 0 0),(3,ci s4.1),(4,ci s4.2)]:Fr)) (fun (s4:(Int × Int))=>([[ci p0v.Kind,ci p0v.Int,.c (.str p0v.Text),.c (PV.ls 5 bB p0v.Items),.c (PV.ls 1 dD p0v.Keys)]]:St)) hx1 (aU [] 1 r r r r ⟨lr,lr,lr,trivial⟩ (bJ r aC)) ?_
   intro s4 st4 hs4 ho4
   unfold uH at hs4
   refine aR<|aH<|mI r<|aK r (aZ fM r)<|aK r (aJ (v:=aL) kD r r r)<|aK r (eC qM (cR r))<|aK r (eA r r)<|aF (fr':=[(1,.box 0 0),(3,aI),(4,aI),(9,aB)]) r r<|bS hs4 r (fun hb5 h5=>?_) (fun hb5 h5=>?_)
   ·
    refine aW<|bZ<|aR<|bL<|aT<|mI r<|aK r (aZ fM r)<|aK r (aJ (v:=aL) kD r r r)<|mI r ?_
    obtain ⟨x6,hx6,h7⟩:=aE h5
    refine aK r (iL (cs:=[PV.int _ _,PV.int _ _,PV.str _,PV.ls _ _ _,PV.ls _ _ _]) tO (cR r) r hx6 (cY _))<|aK r (hG (us:=[PV.int _ _,PV.int _ _,PV.str _,PV.ls _ _ _,PV.ls _ _ _]) fV r r r) ?_
    obtain ⟨x8,hx8,h9⟩:=aE h7
    exact gW (aY (v:=aI) r (ih_ref02xSize hx8) ⟨(bP r ⟨r,r,r,r,r,trivial⟩),trivial⟩ r r r)<|aK r (dZ r r)<|sI r<|cD (fr':=[(1,.box 0 0),(3,aI),(4,aI),(9,aB)]) r<|bW<|bZ<|aT<|mI r<|aK r (dZ r r)<|sI r<|cD (fr':=[(1,.box 0 0),(3,aI),(4,aI),(9,aB)]) r<|tU _ (sy h9) (aU [] 1 r r r r ⟨lr,lr,lr,trivial⟩ (bJ r aC))
   ·
    refine eZ<|bY<|bY<|dX ?_
    have h10:=dB h5 ho4
    exact fS _ (sy h10) (aU [] 1 r r r r ⟨lr,trivial⟩ (bJ r aC))
  ·
   intro j3 hj11
   subst hj11
   refine bZ<|aH<|mI r<|sI r<|aF (fr':=[(2,aI)]) r r<|bF ?_
   obtain rfl:=sy h2
   exact bE (rs':=[.tmp 2]) r<|bG (v:=aI) r<|bD<|aN [] r r r lr aC
noncomputable def aBX (p0v:aG):Option Int:=lim fun n=>pM n p0v
theorem aHU {p0v:aG}{res:Int} (h:aBX p0v=some res):bT Tryz.prog 203 [.agg (AV.cs (cV p0v))] [] (ci res) []:=by
 obtain ⟨n,hn⟩:=kR h
 exact (aGw n) hn
noncomputable def sW (p0v:aG):Option Bool :=
 (aAJ p0v).bind fun x1=>(gd (x1==true) (aAI p0v)).bind fun x3=>(gd ((cond x1 (decide (x3≤(16:Int))) false)==true) (aBX p0v)).bind fun x5=>some (cond (cond x1 (decide (x3≤(16:Int))) false) (decide (x5≤(1000:Int))) false)
theorem aFX {p0v:aG}{res:Bool} (h:sW p0v=some res):bT Tryz.prog 169 [.agg (AV.cs (cV p0v))] [] (.c (.bool res)) []:=by
 unfold sW at h
 refine cJ (fn:=Tryz.f169) [0,1,2] (by kernel_rfl) Tryz.func169 r (by kernel_rfl) (by kernel_rfl)<|aH<|fW (v:=.agg bQ) (n:=0) (cs:=bQ) (σ':=[bQ]) r r r r r<|sB r<|aF (fr':=[(1,.box 0 0)]) r r<|aH<|aK r (cN (us:=bQ) fV r r r r) ?_
 obtain ⟨x1,hx1,h2⟩:=aE h
 refine gW (aY (v:=aB) r (aGB hx1) ⟨(bP r ⟨r,r,r,r,r,trivial⟩),trivial⟩ r r r)<|mB r<|og r r r (fun hc=>(cN (us:=bQ) fV r r r r)) ?_
 obtain ⟨x3,hx3,h4⟩:=aE h2
 refine rZ r r (fun hc=>aY (v:=aI) r (aGA (cG hx3 hc)) ⟨(dW (gx r hc) (bP r ⟨r,r,r,r,r,trivial⟩)),trivial⟩ (fC (by repeat (first | exact dT | refine aX r ?_ | refine aX (oQ r) ?_ | refine aX oP ?_))) r r) ?_
 refine og r r r (fun hc=>(lI (gx r hc) r))<|aK r (bM r r r (fun e=>eI e))<|mB r<|og r r r (fun hc=>(cN (us:=bQ) fV r r r r)) ?_
 obtain ⟨x5,hx5,h6⟩:=aE h4
 refine rZ r r (fun hc=>aY (v:=aI) r (aHU (cG hx5 hc)) ⟨(dW (gx r hc) (bP r ⟨r,r,r,r,r,trivial⟩)),trivial⟩ (fC (by repeat (first | exact dT | refine aX r ?_ | refine aX (oQ r) ?_ | refine aX oP ?_))) r r) ?_
 refine og r r r (fun hc=>(lI (gx r hc) r))<|aK r (bM r r r (fun e=>eI e))<|sB r<|aF (fr':=[(2,aB)]) r r<|bF ?_
 obtain rfl:=sy h6
 exact bE (rs':=[.tmp 2]) r<|bG (v:=aB) r<|bD<|aN [] r r r lr aC
noncomputable def rH (aDv:aG→Option Bool) (p0v:aG) (s4:Int):Option (cM Int (Fl Bool Unit)) :=
 cond (decide (s4<((p0v.Items).length:Int))) ((jT p0v.Items s4).bind fun x6=>(aDv x6).bind fun x8=>cond x8 (some (cM.out (Fl.done true))) (some (cM.next (IntKind.wrap .i64 (s4+(1:Int)))))) (some (cM.out (Fl.go ())))
noncomputable def mU:Nat→aG→Option Bool
 | 0,_=>none
 | n+1,p0v =>
  ((eQ (rH (mU n) p0v) ((0:Int))):Option (Fl Bool Unit)).bind fun x1=>Fl.next x1 (fun j3=>(some (decide (p0v.Kind=(6:Int)))))
theorem aEn:∀ n:Nat,(∀ {p0v:aG}{res:Bool},mU n p0v=some res→bT Tryz.prog 170 [.agg (AV.cs (cV p0v))] [] (.c (.bool res)) []):=by
 intro n
 induction n with
 | zero=>exact fun {p0v res} h=>absurd h (by simp [mU])
 | succ n ih =>
  have ih_ref02xFuture:=@ih
  intro p0v res h
  rw [mU] at h
  refine cJ (fn:=Tryz.f170) [0,1,2,3,8,16] (by kernel_rfl) Tryz.func170 r (by kernel_rfl) (by kernel_rfl)<|aH<|fW (v:=.agg bQ) (n:=0) (cs:=bQ) (σ':=[bQ]) r r r r r<|sB r<|aF (fr':=[(1,.box 0 0)]) r r<|aR<|aH<|sI r<|aF (fr':=[(1,.box 0 0),(3,aI)]) r r ?_
  obtain ⟨x1,hx1,h2⟩:=aE h
  refine eR gX (fun j3=>x1=Fl.go j3) (fun (j3:Unit)=>([(1,.box 0 0)]:Fr)) (fun (j3:Unit)=>([[ci p0v.Kind,ci p0v.Int,.c (.str p0v.Text),.c (PV.ls 5 bB p0v.Items),.c (PV.ls 1 dD p0v.Keys)]]:St)) ?_ ?_
  ·
   refine bL<|eK _ (fun (s4:Int)=>([(1,.box 0 0),(3,ci s4)]:Fr)) (fun (s4:Int)=>([[ci p0v.Kind,ci p0v.Int,.c (.str p0v.Text),.c (PV.ls 5 bB p0v.Items),.c (PV.ls 1 dD p0v.Keys)]]:St)) hx1 (aU [] 1 r r r r ⟨lr,lr,trivial⟩ (bJ r aC)) ?_
   intro s4 st4 hs4 ho4
   unfold rH at hs4
   refine aR<|aH<|mI r<|aK r (aZ fM r)<|aK r (aJ (v:=aL) kD r r r)<|aK r (eC qM (cR r))<|aK r (eA r r)<|aF (fr':=[(1,.box 0 0),(3,aI),(8,aB)]) r r<|bS hs4 r (fun hb5 h5=>?_) (fun hb5 h5=>?_)
   ·
    refine aW<|bZ<|aR<|bL<|aH<|aK r (aZ fM r)<|aK r (aJ (v:=aL) kD r r r)<|mI r ?_
    obtain ⟨x6,hx6,h7⟩:=aE h5
    refine aK r (iL (cs:=[PV.int _ _,PV.int _ _,PV.str _,PV.ls _ _ _,PV.ls _ _ _]) tO (cR r) r hx6 (cY _))<|aK r (hG (us:=[PV.int _ _,PV.int _ _,PV.str _,PV.ls _ _ _,PV.ls _ _ _]) fV r r r) ?_
    obtain ⟨x8,hx8,h9⟩:=aE h7
    refine gW (aY (v:=aB) r (ih_ref02xFuture hx8) ⟨(bP r ⟨r,r,r,r,r,trivial⟩),trivial⟩ r r r)<|aF (fr':=[(1,.box 0 0),(3,aI),(16,aB)]) r r<|bS h9 r (fun hb10 h10=>?_) (fun hb10 h10=>?_)
    ·
     refine aH<|sB r<|aF (fr':=[(2,aB)]) r r<|bF<|bH<|aM<|aM<|bH<|aM<|aM ?_
     have h11:=dB h10 ho4
     have h12:=eH h11 h2
     obtain rfl:=sy h12
     exact bE (rs':=[.tmp 2]) r<|bG (v:=aB) r<|bD<|aN [] r r r lr aC
    ·
     exact aW<|bW<|bZ<|aT<|mI r<|aK r (dZ r r)<|sI r<|cD (fr':=[(1,.box 0 0),(3,aI),(16,aB)]) r<|tU _ (sy h10) (aU [] 1 r r r r ⟨lr,lr,trivial⟩ (bJ r aC))
   ·
    refine eZ<|bY<|bY<|dX ?_
    have h14:=dB h5 ho4
    exact fS _ (sy h14) (aU [] 1 r r r r ⟨lr,trivial⟩ (bJ r aC))
  ·
   intro j3 hj15
   have h15:=iS hj15 h2
   refine bZ<|aH<|aK r (aZ iR r)<|aK r (aJ (v:=aI) eB r r r)<|aK r (bO r r)<|sB r<|aF (fr':=[(2,aB)]) r r<|bF ?_
   obtain rfl:=sy h15
   exact bE (rs':=[.tmp 2]) r<|bG (v:=aB) r<|bD<|aN [] r r r lr aC
noncomputable def zG (p0v:aG):Option Bool:=lim fun n=>mU n p0v
theorem aFV {p0v:aG}{res:Bool} (h:zG p0v=some res):bT Tryz.prog 170 [.agg (AV.cs (cV p0v))] [] (.c (.bool res)) []:=by
 obtain ⟨n,hn⟩:=kR h
 exact (aEn n) hn
noncomputable def sA (p0v:aG):Option Bool :=
 (qF p0v).bind fun x1=>(gd (x1==true) (sW p0v)).bind fun x3=>(gd ((cond x1 x3 false)==true) (zG p0v)).bind fun x5=>some (cond (cond x1 x3 false) (!x5) false)
theorem aBH {p0v:aG}{res:Bool} (h:sA p0v=some res):bT Tryz.prog 111 [.agg (AV.cs (cV p0v))] [] (.c (.bool res)) []:=by
 unfold sA at h
 refine cJ (fn:=Tryz.f111) [0,1,2] (by kernel_rfl) Tryz.func111 r (by kernel_rfl) (by kernel_rfl)<|aH<|fW (v:=.agg bQ) (n:=0) (cs:=bQ) (σ':=[bQ]) r r r r r<|sB r<|aF (fr':=[(1,.box 0 0)]) r r<|aH<|aK r (cN (us:=bQ) fV r r r r) ?_
 obtain ⟨x1,hx1,h2⟩:=aE h
 refine gW (aY (v:=aB) r (xG hx1) ⟨(bP r ⟨r,r,r,r,r,trivial⟩),trivial⟩ r r r)<|mB r<|og r r r (fun hc=>(cN (us:=bQ) fV r r r r)) ?_
 obtain ⟨x3,hx3,h4⟩:=aE h2
 refine rZ r r (fun hc=>aY (v:=aB) r (aFX (cG hx3 hc)) ⟨(dW (gx r hc) (bP r ⟨r,r,r,r,r,trivial⟩)),trivial⟩ (fC (by repeat (first | exact dT | refine aX r ?_ | refine aX (oQ r) ?_ | refine aX oP ?_))) r r) ?_
 refine aK r (bM r r r (fun e=>eI e))<|mB r<|og r r r (fun hc=>(cN (us:=bQ) fV r r r r)) ?_
 obtain ⟨x5,hx5,h6⟩:=aE h4
 refine rZ r r (fun hc=>aY (v:=aB) r (aFV (cG hx5 hc)) ⟨(dW (gx r hc) (bP r ⟨r,r,r,r,r,trivial⟩)),trivial⟩ (fC (by repeat (first | exact dT | refine aX r ?_ | refine aX (oQ r) ?_ | refine aX oP ?_))) r r) ?_
 refine og r r r (fun hc=>(eD (gx r hc)))<|aK r (bM r r r (fun e=>eI e))<|sB r<|aF (fr':=[(2,aB)]) r r<|bF ?_
 obtain rfl:=sy h6
 exact bE (rs':=[.tmp 2]) r<|bG (v:=aB) r<|bD<|aN [] r r r lr aC
end Go.Proofs.YtnigjppddilpcaaGreatDoor
