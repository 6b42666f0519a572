import Derived.Test.YtnigjppddilpcaaGreatDoorGETy
import Derived.Test.YtnigjppddilpcaaGreatDoorGEF0
import Derived.Test.YtnigjppddilpcaaGreatDoorGEF1
import Derived.Test.YtnigjppddilpcaaGreatDoorGEF6
import Derived.Test.YtnigjppddilpcaaGreatDoorGEF7
namespace Go.Proofs.YtnigjppddilpcaaGreatDoor
open Go Abs
set_option maxRecDepth 100000
set_option linter.unusedVariables false
set_option linter.unusedSimpArgs false
noncomputable def zC (p1e:bW) (s6:((List UInt8) × Int)):Option (dN ((List UInt8) × Int) (List UInt8)) :=
 cond (decide (s6.2<((([p1e.ID,p1e.Kind,p1e.Time,p1e.Seq,p1e.Ref,p1e.N,p1e.Code]:List Int)).length:Int))) ((lO ([p1e.ID,p1e.Kind,p1e.Time,p1e.Seq,p1e.Ref,p1e.N,p1e.Code]:List Int) s6.2).bind fun x8=>(rN s6.1 x8).bind fun x10=>some (dN.next (x10,(IntKind.wrap .i64 (s6.2+1))))) (some (dN.out s6.1))
noncomputable def aGj (p0b:(List UInt8)) (p1e:bW):Option (List UInt8) :=
 (app 1 ([]:List UInt8) p0b).bind fun x1=>(fI (zC p1e) ((x1,0))).bind fun x3=>((qD x3 p1e.Name).bind fun x14=>(qD x14 p1e.Key).bind fun x16=>(aDt x16 p1e.Data).bind fun x18=>(zI x18 p1e.Opts).bind fun x20=>some x20)
noncomputable def uW (p0n:Int) (qO:Int) (nC:Int):Option Bool :=
 some (cond (decide (qO≤p0n)) (decide (p0n≤nC)) false)
theorem vS {p0n:Int}{qO:Int}{nC:Int}{res:Bool} (h:uW p0n qO nC=some res):cX Tryz.prog 81 [ci p0n,ci qO,ci nC] [] (.c (.bool res)) []:=by
 unfold uW at h
 refine dR (fn:=Tryz.f81) [0,1,2,6] (by kernel_rfl) Tryz.func81 r (by kernel_rfl) (by kernel_rfl)<|aJ<|sB r<|aH (fr':=[(0,aI),(1,aI),(2,aI)]) r r<|aJ<|mI r<|mI r<|aU r (uE r r)<|mB r<|og r r r (fun hc=>(bK (v:=aI) r))<|og r r r (fun hc=>(bK (v:=aI) r))<|og r r r (fun hc=>(rU (gx r hc) (gx r hc)))<|aU r (cS r r r (fun e=>hH e))<|sB r<|aH (fr':=[(6,aB)]) r r<|bO ?_
 obtain rfl:=sy h
 exact bN (rs':=[.tmp 6]) r<|cE (v:=aB) r<|bM<|aP [] r r r lr aC
noncomputable def aAq (p0v:aF) (s6:Int):Option (dN Int (Fl Bool Unit)) :=
 cond (decide (s6<((p0v.Keys).length:Int))) ((lO p0v.Keys s6).bind fun x8=>cond (decide (4096<((x8).length:Int))) (some (dN.out (Fl.done false))) (some (dN.next (IntKind.wrap .i64 (s6+1))))) (some (dN.out (Fl.go ())))
noncomputable def aAr (aHE:aF→Option Bool) (p0v:aF) (s19:Int):Option (dN Int (Fl Bool Unit)) :=
 cond (decide (s19<((p0v.Items).length:Int))) ((lO p0v.Items s19).bind fun x21=>(aHE x21).bind fun x23=>cond (!x23) (some (dN.out (Fl.done false))) (some (dN.next (IntKind.wrap .i64 (s19+1))))) (some (dN.out (Fl.go ())))
noncomputable def vK:Nat→aF→Option Bool
 | 0,_=>none
 | n+1,p0v =>
  cond (decide (4096<((p0v.Text).length:Int))) (some false) ((fI (aAq p0v) (0)).bind fun x3=>Fl.next x3 (fun j5=>((fI (aAr (vK n) p0v) (0)).bind fun x16=>Fl.next x16 (fun j18=>(some true)))))
theorem aJt:∀ n:Nat,(∀ {p0v:aF}{res:Bool},vK n p0v=some res→cX Tryz.prog 201 [.agg (AV.cs (eR p0v))] [] (.c (.bool res)) []):=by
 intro n
 induction n with
 | zero=>exact fun {p0v res} h=>absurd h (by simp [vK])
 | succ n ih =>
  have ih_ref02xShort:=@ih
  intro p0v res h
  rw [vK] at h
  refine dR (fn:=Tryz.f201) [0,1,2,3,4,8,13,22,27,36] (by kernel_rfl) Tryz.func201 r (by kernel_rfl) (by kernel_rfl)<|aJ<|kP (v:=.agg cJ) (n:=0) (cs:=cJ) (σ':=[cJ]) r r r r r<|sB r<|aH (fr':=[(1,aD)]) r r<|aX<|aJ<|aU r (bU uA r)<|aU r (aR (v:=aS) rZ r r r)<|aU r (nR zZ r)<|aU r (qW r r)<|aH (fr':=[(1,aD),(8,aB)]) r r<|cU h r (fun hb1 h1=>?_) (fun hb1 h1=>?_)
  ·
   refine aJ<|sB r<|aH (fr':=[(2,aB)]) r r<|bO<|aN ?_
   obtain rfl:=sy h1
   exact bN (rs':=[.tmp 2]) r<|cE (v:=aB) r<|bM<|aP [] r r r lr aC
  ·
   refine bI<|dB<|aX<|aJ<|sI r<|aH (fr':=[(1,aD),(3,aI)]) r r<|bx h1 fun x3 hx3 h4=>hF lP (fun j5=>x3=Fl.go j5) (fun (j5:Unit)=>([(1,aD)]:Fr)) (fun (j5:Unit)=>([[ci p0v.Kind,ci p0v.Int,.c (.str p0v.Text),.c (PV.ls 5 cF p0v.Items),.c (PV.ls 1 iF p0v.Keys)]]:St)) ?_ ?_
   ·
    refine cP<|gY _ (fun (s6:Int)=>([(1,aD),(3,ci s6)]:Fr)) (fun (s6:Int)=>([[ci p0v.Kind,ci p0v.Int,.c (.str p0v.Text),.c (PV.ls 5 cF p0v.Items),.c (PV.ls 1 iF p0v.Keys)]]:St)) hx3 (bJ [] 1 r r r r kR (cO r aC)) ?_
    intro s6 st6 hs6 ho6
    unfold aAq at hs6
    refine aX<|aJ<|mI r<|aU r (bU oI r)<|aU r (aR (v:=aL) qP r r r)<|aU r (gT yV (eA r))<|aU r (fY r r)<|aH (fr':=[(1,aD),(3,aI),(13,aB)]) r r<|cU hs6 r (fun hb7 h7=>?_) (fun hb7 h7=>?_)
    ·
     refine bI<|dB<|aX<|cP<|aJ<|aU r (bU oI r)<|aU r (aR (v:=aL) qP r r r)<|mI r<|bx h7 fun x8 hx8 h9=>aU r (lC (cs:=[PV.str _]) aAW (eA r) r hx8 r)<|aU r (fO (p:=PV.str _) rZ r r)<|aU r (nR zZ r)<|aU r (qW r r)<|aH (fr':=[(1,aD),(3,aI),(22,aB)]) r r<|cU h9 r (fun hb10 h10=>?_) (fun hb10 h10=>?_)
     ·
      refine aJ<|sB r<|aH (fr':=[(2,aB)]) r r<|bO<|bT<|aN<|aN<|bT<|aN<|aN ?_
      have h11:=eS h10 ho6
      have h12:=gI h11 h4
      obtain rfl:=sy h12
      exact bN (rs':=[.tmp 2]) r<|cE (v:=aB) r<|bM<|aP [] r r r lr aC
     ·
      exact bI<|dI<|dB<|bA<|mI r<|aU r (fX r r)<|sI r<|dQ (fr':=[(1,aD),(3,aI),(22,aB)]) r<|zY _ (sy h10) (bJ [] 1 r r r r kR (cO r aC))
    ·
     refine iE<|cZ<|cZ<|fT ?_
     have h14:=eS h7 ho6
     exact lB _ (sy h14) (bJ [] 1 r r r r ⟨lr,trivial⟩ (cO r aC))
   ·
    intro j5 hj15
    have h15:=nY hj15 h4
    refine dB<|aX<|aJ<|sI r<|aH (fr':=[(1,aD),(4,aI)]) r r<|bx h15 fun x16 hx16 h17=>hF lP (fun j18=>x16=Fl.go j18) (fun (j18:Unit)=>([]:Fr)) (fun (j18:Unit)=>([[ci p0v.Kind,ci p0v.Int,.c (.str p0v.Text),.c (PV.ls 5 cF p0v.Items),.c (PV.ls 1 iF p0v.Keys)]]:St)) ?_ ?_
    ·
     refine cP<|gY _ (fun (s19:Int)=>([(1,aD),(4,ci s19)]:Fr)) (fun (s19:Int)=>([[ci p0v.Kind,ci p0v.Int,.c (.str p0v.Text),.c (PV.ls 5 cF p0v.Items),.c (PV.ls 1 iF p0v.Keys)]]:St)) hx16 (bJ [] 1 r r r r kR (cO r aC)) ?_
     intro s19 st19 hs19 ho19
     unfold aAr at hs19
     refine aX<|aJ<|mI r<|aU r (bU iB r)<|aU r (aR (v:=aL) nS r r r)<|aU r (gT vL (eA r))<|aU r (fY r r)<|aH (fr':=[(1,aD),(4,aI),(27,aB)]) r r<|cU hs19 r (fun hb20 h20=>?_) (fun hb20 h20=>?_)
     ·
      refine bI<|dB<|aX<|cP<|aJ<|aU r (bU iB r)<|aU r (aR (v:=aL) nS r r r)<|mI r<|bx h20 fun x21 hx21 h22=>aU r (lC (cs:=[PV.int _ _,PV.int _ _,PV.str _,PV.ls _ _ _,PV.ls _ _ _]) uF (eA r) r hx21 (dZ _))<|aU r (nL (us:=[PV.int _ _,PV.int _ _,PV.str _,PV.ls _ _ _,PV.ls _ _ _]) jC r r r)<|bx h22 fun x23 hx23 h24=>oN (cA (v:=aB) r (ih_ref02xShort hx23) ⟨(cM r kR5),trivial⟩ r r r)<|aU r (gX r)<|aH (fr':=[(1,aD),(4,aI),(36,aB)]) r r<|cU h24 r (fun hb25 h25=>?_) (fun hb25 h25=>?_)
      ·
       refine aJ<|sB r<|aH (fr':=[(2,aB)]) r r<|bO<|bT<|aN<|aN<|bT<|aN<|aN ?_
       have h26:=eS h25 ho19
       have h27:=gI h26 h17
       obtain rfl:=sy h27
       exact bN (rs':=[.tmp 2]) r<|cE (v:=aB) r<|bM<|aP [] r r r lr aC
      ·
       exact bI<|dI<|dB<|bA<|mI r<|aU r (fX r r)<|sI r<|dQ (fr':=[(1,aD),(4,aI),(36,aB)]) r<|zY _ (sy h25) (bJ [] 1 r r r r kR (cO r aC))
     ·
      refine iE<|cZ<|cZ<|fT ?_
      have h29:=eS h20 ho19
      exact lB _ (sy h29) (bJ [] 1 r r r r trivial (cO r aC))
    ·
     intro j18 hj30
     have h30:=nY hj30 h17
     refine dB<|aJ<|sB r<|aH (fr':=[(2,aB)]) r r<|bO ?_
     obtain rfl:=sy h30
     exact bN (rs':=[.tmp 2]) r<|cE (v:=aB) r<|bM<|aP [] r r r lr aC
noncomputable def aEm (p0v:aF):Option Bool:=lim fun n=>vK n p0v
theorem aKc {p0v:aF}{res:Bool} (h:aEm p0v=some res):cX Tryz.prog 201 [.agg (AV.cs (eR p0v))] [] (.c (.bool res)) []:=by
 obtain ⟨n,hn⟩:=qN h
 exact (aJt n) hn
noncomputable def aAo (aHD:aF→Option Int) (p0v:aF) (s4:(Int × Int)):Option (dN (Int × Int) Int) :=
 cond (decide (s4.2<((p0v.Items).length:Int))) ((lO p0v.Items s4.2).bind fun x6=>(aHD x6).bind fun x8=>cond (decide (s4.1<x8)) (some (dN.next (x8,(IntKind.wrap .i64 (s4.2+1))))) (some (dN.next (s4.1,(IntKind.wrap .i64 (s4.2+1)))))) (some (dN.out s4.1))
noncomputable def vJ:Nat→aF→Option Int
 | 0,_=>none
 | n+1,p0v =>
  (fI (aAo (vJ n) p0v) ((0,0))).bind fun x1=>(some (IntKind.wrap .i64 (x1+1)))
theorem aJs:∀ n:Nat,(∀ {p0v:aF}{res:Int},vJ n p0v=some res→cX Tryz.prog 202 [.agg (AV.cs (eR p0v))] [] (ci res) []):=by
 intro n
 induction n with
 | zero=>exact fun {p0v res} h=>absurd h (by simp [vJ])
 | succ n ih =>
  have ih_ref02xDepth:=@ih
  intro p0v res h
  rw [vJ] at h
  refine dR (fn:=Tryz.f202) [0,1,2,3,4,5,10,21] (by kernel_rfl) Tryz.func202 r (by kernel_rfl) (by kernel_rfl)<|aJ<|kP (v:=.agg cJ) (n:=0) (cs:=cJ) (σ':=[cJ]) r r r r r<|sI r<|aH (fr':=[(1,aD)]) r r<|aJ<|sI r<|aH (fr':=[(1,aD),(3,aI)]) r r<|aX<|aX<|bA<|sI r<|aH (fr':=[(1,aD),(3,aI),(4,aI)]) r r<|bx h fun x1 hx1 h2=>hF lP (fun j3=>x1=j3) (fun (j3:Int)=>([(3,ci j3)]:Fr)) (fun (j3:Int)=>([[ci p0v.Kind,ci p0v.Int,.c (.str p0v.Text),.c (PV.ls 5 cF p0v.Items),.c (PV.ls 1 iF p0v.Keys)]]:St)) ?_ ?_
  ·
   refine cP<|gY _ (fun (s4:(Int × Int))=>([(1,aD),(3,ci s4.1),(4,ci s4.2)]:Fr)) (fun (s4:(Int × Int))=>([[ci p0v.Kind,ci p0v.Int,.c (.str p0v.Text),.c (PV.ls 5 cF p0v.Items),.c (PV.ls 1 iF p0v.Keys)]]:St)) hx1 (bJ [] 1 r r r r nW (cO r aC)) ?_
   intro s4 st4 hs4 ho4
   unfold aAo at hs4
   refine aX<|aJ<|mI r<|aU r (bU iB r)<|aU r (aR (v:=aL) nS r r r)<|aU r (gT vL (eA r))<|aU r (fY r r)<|aH (fr':=[(1,aD),(3,aI),(4,aI),(10,aB)]) r r<|cU hs4 r (fun hb5 h5=>?_) (fun hb5 h5=>?_)
   ·
    refine bI<|dB<|aX<|cP<|aJ<|aU r (bU iB r)<|aU r (aR (v:=aL) nS r r r)<|mI r<|bx h5 fun x6 hx6 h7=>aU r (lC (cs:=[PV.int _ _,PV.int _ _,PV.str _,PV.ls _ _ _,PV.ls _ _ _]) uF (eA r) r hx6 (dZ _))<|aU r (nL (us:=[PV.int _ _,PV.int _ _,PV.str _,PV.ls _ _ _,PV.ls _ _ _]) jC r r r)<|bx h7 fun x8 hx8 h9=>oN (cA (v:=aI) r (ih_ref02xDepth hx8) ⟨(cM r kR5),trivial⟩ r r r)<|sI r<|aH (fr':=[(1,aD),(3,aI),(4,aI),(5,aI)]) r r<|aJ<|mI r<|mI r<|aU r (qW r r)<|aH (fr':=[(1,aD),(3,aI),(4,aI),(5,aI),(21,aB)]) r r<|cU h9 r (fun hb10 h10=>?_) (fun hb10 h10=>?_)
    ·
     exact bA<|mI r<|sI r<|dQ (fr':=[(1,aD),(3,aI),(4,aI),(5,aI),(21,aB)]) r<|dI<|dB<|bA<|mI r<|aU r (fX r r)<|sI r<|dQ (fr':=[(1,aD),(3,aI),(4,aI),(5,aI),(21,aB)]) r<|zY _ (sy h10) (bJ [] 1 r r r r nW (cO r aC))
    ·
     exact bI<|dI<|dB<|bA<|mI r<|aU r (fX r r)<|sI r<|dQ (fr':=[(1,aD),(3,aI),(4,aI),(5,aI),(21,aB)]) r<|zY _ (sy h10) (bJ [] 1 r r r r nW (cO r aC))
   ·
    refine iE<|cZ<|cZ<|fT ?_
    have h11:=eS h5 ho4
    exact lB _ (sy h11) (bJ [] 1 r r r r ⟨lr,trivial⟩ (cO r aC))
  ·
   intro j3 hj12
   subst hj12
   refine dB<|aJ<|mI r<|aU r (fX r r)<|sI r<|aH (fr':=[(2,aI)]) r r<|bO ?_
   obtain rfl:=sy h2
   exact bN (rs':=[.tmp 2]) r<|cE (v:=aI) r<|bM<|aP [] r r r lr aC
noncomputable def aEl (p0v:aF):Option Int:=lim fun n=>vJ n p0v
theorem aKb {p0v:aF}{res:Int} (h:aEl p0v=some res):cX Tryz.prog 202 [.agg (AV.cs (eR p0v))] [] (ci res) []:=by
 obtain ⟨n,hn⟩:=qN h
 exact (aJs n) hn
noncomputable def aA2 (aI6:aF→Option Int) (p0v:aF) (s4:(Int × Int)):Option (dN (Int × Int) Int) :=
 cond (decide (s4.2<((p0v.Items).length:Int))) ((lO p0v.Items s4.2).bind fun x6=>(aI6 x6).bind fun x8=>some (dN.next ((IntKind.wrap .i64 (s4.1+x8)),(IntKind.wrap .i64 (s4.2+1))))) (some (dN.out s4.1))
noncomputable def xK:Nat→aF→Option Int
 | 0,_=>none
 | n+1,p0v =>
  (fI (aA2 (xK n) p0v) ((1,0))).bind fun x1=>(some x1)
theorem aJ5:∀ n:Nat,(∀ {p0v:aF}{res:Int},xK n p0v=some res→cX Tryz.prog 203 [.agg (AV.cs (eR p0v))] [] (ci res) []):=by
 intro n
 induction n with
 | zero=>exact fun {p0v res} h=>absurd h (by simp [xK])
 | succ n ih =>
  have ih_ref02xSize:=@ih
  intro p0v res h
  rw [xK] at h
  refine dR (fn:=Tryz.f203) [0,1,2,3,4,9] (by kernel_rfl) Tryz.func203 r (by kernel_rfl) (by kernel_rfl)<|aJ<|kP (v:=.agg cJ) (n:=0) (cs:=cJ) (σ':=[cJ]) r r r r r<|sI r<|aH (fr':=[(1,aD)]) r r<|aJ<|sI r<|aH (fr':=[(1,aD),(3,aI)]) r r<|aX<|aX<|bA<|sI r<|aH (fr':=[(1,aD),(3,aI),(4,aI)]) r r<|bx h fun x1 hx1 h2=>hF lP (fun j3=>x1=j3) (fun (j3:Int)=>([(3,ci j3)]:Fr)) (fun (j3:Int)=>([[ci p0v.Kind,ci p0v.Int,.c (.str p0v.Text),.c (PV.ls 5 cF p0v.Items),.c (PV.ls 1 iF p0v.Keys)]]:St)) ?_ ?_
  ·
   refine cP<|gY _ (fun (s4:(Int × Int))=>([(1,aD),(3,ci s4.1),(4,ci s4.2)]:Fr)) (fun (s4:(Int × Int))=>([[ci p0v.Kind,ci p0v.Int,.c (.str p0v.Text),.c (PV.ls 5 cF p0v.Items),.c (PV.ls 1 iF p0v.Keys)]]:St)) hx1 (bJ [] 1 r r r r nW (cO r aC)) ?_
   intro s4 st4 hs4 ho4
   unfold aA2 at hs4
   refine aX<|aJ<|mI r<|aU r (bU iB r)<|aU r (aR (v:=aL) nS r r r)<|aU r (gT vL (eA r))<|aU r (fY r r)<|aH (fr':=[(1,aD),(3,aI),(4,aI),(9,aB)]) r r<|cU hs4 r (fun hb5 h5=>?_) (fun hb5 h5=>?_)
   ·
    exact bI<|dB<|aX<|cP<|bA<|mI r<|aU r (bU iB r)<|aU r (aR (v:=aL) nS r r r)<|mI r<|bx h5 fun x6 hx6 h7=>aU r (lC (cs:=[PV.int _ _,PV.int _ _,PV.str _,PV.ls _ _ _,PV.ls _ _ _]) uF (eA r) r hx6 (dZ _))<|aU r (nL (us:=[PV.int _ _,PV.int _ _,PV.str _,PV.ls _ _ _,PV.ls _ _ _]) jC r r r)<|bx h7 fun x8 hx8 h9=>oN (cA (v:=aI) r (ih_ref02xSize hx8) ⟨(cM r kR5),trivial⟩ r r r)<|aU r (fX r r)<|sI r<|dQ (fr':=[(1,aD),(3,aI),(4,aI),(9,aB)]) r<|dI<|dB<|bA<|mI r<|aU r (fX r r)<|sI r<|dQ (fr':=[(1,aD),(3,aI),(4,aI),(9,aB)]) r<|zY _ (sy h9) (bJ [] 1 r r r r nW (cO r aC))
   ·
    refine iE<|cZ<|cZ<|fT ?_
    have h10:=eS h5 ho4
    exact lB _ (sy h10) (bJ [] 1 r r r r ⟨lr,trivial⟩ (cO r aC))
  ·
   intro j3 hj11
   subst hj11
   refine dB<|aJ<|mI r<|sI r<|aH (fr':=[(2,aI)]) r r<|bO ?_
   obtain rfl:=sy h2
   exact bN (rs':=[.tmp 2]) r<|cE (v:=aI) r<|bM<|aP [] r r r lr aC
noncomputable def aFx (p0v:aF):Option Int:=lim fun n=>xK n p0v
theorem aLH {p0v:aF}{res:Int} (h:aFx p0v=some res):cX Tryz.prog 203 [.agg (AV.cs (eR p0v))] [] (ci res) []:=by
 obtain ⟨n,hn⟩:=qN h
 exact (aJ5 n) hn
noncomputable def aAs (p0v:aF):Option Bool :=
 (aEm p0v).bind fun x1=>(gd (x1==true) (aEl p0v)).bind fun x3=>(gd ((cond x1 (decide (x3≤16)) false)==true) (aFx p0v)).bind fun x5=>some (cond (cond x1 (decide (x3≤16)) false) (decide (x5≤1000)) false)
theorem aJz {p0v:aF}{res:Bool} (h:aAs p0v=some res):cX Tryz.prog 169 [.agg (AV.cs (eR p0v))] [] (.c (.bool res)) []:=by
 unfold aAs at h
 refine dR (fn:=Tryz.f169) [0,1,2] (by kernel_rfl) Tryz.func169 r (by kernel_rfl) (by kernel_rfl)<|aJ<|kP (v:=.agg cJ) (n:=0) (cs:=cJ) (σ':=[cJ]) r r r r r<|sB r<|aH (fr':=[(1,aD)]) r r<|aJ<|aU r (eL (us:=cJ) jC r r r r)<|bx h fun x1 hx1 h2=>oN (cA (v:=aB) r (aKc hx1) ⟨(cM r kR5),trivial⟩ r r r)<|mB r<|og r r r (fun hc=>(eL (us:=cJ) jC r r r r))<|bx h2 fun x3 hx3 h4=>zG r r (fun hc=>cA (v:=aI) r (aKb (dM hx3 hc)) ⟨(iA (gx r hc) (cM r kR5)),trivial⟩ (iO (by repeat (first | exact fU | refine bG r ?_ | refine bG (vD r) ?_ | refine bG vC ?_))) r r) ?_
 refine og r r r (fun hc=>(rU (gx r hc) r))<|aU r (cS r r r (fun e=>hH e))<|mB r<|og r r r (fun hc=>(eL (us:=cJ) jC r r r r))<|bx h4 fun x5 hx5 h6=>zG r r (fun hc=>cA (v:=aI) r (aLH (dM hx5 hc)) ⟨(iA (gx r hc) (cM r kR5)),trivial⟩ (iO (by repeat (first | exact fU | refine bG r ?_ | refine bG (vD r) ?_ | refine bG vC ?_))) r r) ?_
 refine og r r r (fun hc=>(rU (gx r hc) r))<|aU r (cS r r r (fun e=>hH e))<|sB r<|aH (fr':=[(2,aB)]) r r<|bO ?_
 obtain rfl:=sy h6
 exact bN (rs':=[.tmp 2]) r<|cE (v:=aB) r<|bM<|aP [] r r r lr aC
noncomputable def yY (aG2:aF→Option Bool) (p0v:aF) (s4:Int):Option (dN Int (Fl Bool Unit)) :=
 cond (decide (s4<((p0v.Items).length:Int))) ((lO p0v.Items s4).bind fun x6=>(aG2 x6).bind fun x8=>cond x8 (some (dN.out (Fl.done true))) (some (dN.next (IntKind.wrap .i64 (s4+1))))) (some (dN.out (Fl.go ())))
noncomputable def tZ:Nat→aF→Option Bool
 | 0,_=>none
 | n+1,p0v =>
  (fI (yY (tZ n) p0v) (0)).bind fun x1=>Fl.next x1 (fun j3=>(some (decide (p0v.Kind=6))))
theorem aHK:∀ n:Nat,(∀ {p0v:aF}{res:Bool},tZ n p0v=some res→cX Tryz.prog 170 [.agg (AV.cs (eR p0v))] [] (.c (.bool res)) []):=by
 intro n
 induction n with
 | zero=>exact fun {p0v res} h=>absurd h (by simp [tZ])
 | succ n ih =>
  have ih_ref02xFuture:=@ih
  intro p0v res h
  rw [tZ] at h
  refine dR (fn:=Tryz.f170) [0,1,2,3,8,16] (by kernel_rfl) Tryz.func170 r (by kernel_rfl) (by kernel_rfl)<|aJ<|kP (v:=.agg cJ) (n:=0) (cs:=cJ) (σ':=[cJ]) r r r r r<|sB r<|aH (fr':=[(1,aD)]) r r<|aX<|aJ<|sI r<|aH (fr':=[(1,aD),(3,aI)]) r r<|bx h fun x1 hx1 h2=>hF lP (fun j3=>x1=Fl.go j3) (fun (j3:Unit)=>([(1,aD)]:Fr)) (fun (j3:Unit)=>([[ci p0v.Kind,ci p0v.Int,.c (.str p0v.Text),.c (PV.ls 5 cF p0v.Items),.c (PV.ls 1 iF p0v.Keys)]]:St)) ?_ ?_
  ·
   refine cP<|gY _ (fun (s4:Int)=>([(1,aD),(3,ci s4)]:Fr)) (fun (s4:Int)=>([[ci p0v.Kind,ci p0v.Int,.c (.str p0v.Text),.c (PV.ls 5 cF p0v.Items),.c (PV.ls 1 iF p0v.Keys)]]:St)) hx1 (bJ [] 1 r r r r kR (cO r aC)) ?_
   intro s4 st4 hs4 ho4
   unfold yY at hs4
   refine aX<|aJ<|mI r<|aU r (bU iB r)<|aU r (aR (v:=aL) nS r r r)<|aU r (gT vL (eA r))<|aU r (fY r r)<|aH (fr':=[(1,aD),(3,aI),(8,aB)]) r r<|cU hs4 r (fun hb5 h5=>?_) (fun hb5 h5=>?_)
   ·
    refine bI<|dB<|aX<|cP<|aJ<|aU r (bU iB r)<|aU r (aR (v:=aL) nS r r r)<|mI r<|bx h5 fun x6 hx6 h7=>aU r (lC (cs:=[PV.int _ _,PV.int _ _,PV.str _,PV.ls _ _ _,PV.ls _ _ _]) uF (eA r) r hx6 (dZ _))<|aU r (nL (us:=[PV.int _ _,PV.int _ _,PV.str _,PV.ls _ _ _,PV.ls _ _ _]) jC r r r)<|bx h7 fun x8 hx8 h9=>oN (cA (v:=aB) r (ih_ref02xFuture hx8) ⟨(cM r kR5),trivial⟩ r r r)<|aH (fr':=[(1,aD),(3,aI),(16,aB)]) r r<|cU h9 r (fun hb10 h10=>?_) (fun hb10 h10=>?_)
    ·
     refine aJ<|sB r<|aH (fr':=[(2,aB)]) r r<|bO<|bT<|aN<|aN<|bT<|aN<|aN ?_
     have h11:=eS h10 ho4
     have h12:=gI h11 h2
     obtain rfl:=sy h12
     exact bN (rs':=[.tmp 2]) r<|cE (v:=aB) r<|bM<|aP [] r r r lr aC
    ·
     exact bI<|dI<|dB<|bA<|mI r<|aU r (fX r r)<|sI r<|dQ (fr':=[(1,aD),(3,aI),(16,aB)]) r<|zY _ (sy h10) (bJ [] 1 r r r r kR (cO r aC))
   ·
    refine iE<|cZ<|cZ<|fT ?_
    have h14:=eS h5 ho4
    exact lB _ (sy h14) (bJ [] 1 r r r r ⟨lr,trivial⟩ (cO r aC))
  ·
   intro j3 hj15
   have h15:=nY hj15 h2
   refine dB<|aJ<|aU r (bU mE r)<|aU r (aR (v:=aI) hU r r r)<|aU r (cQ r r)<|sB r<|aH (fr':=[(2,aB)]) r r<|bO ?_
   obtain rfl:=sy h15
   exact bN (rs':=[.tmp 2]) r<|cE (v:=aB) r<|bM<|aP [] r r r lr aC
noncomputable def aDu (p0v:aF):Option Bool:=lim fun n=>tZ n p0v
theorem aJx {p0v:aF}{res:Bool} (h:aDu p0v=some res):cX Tryz.prog 170 [.agg (AV.cs (eR p0v))] [] (.c (.bool res)) []:=by
 obtain ⟨n,hn⟩:=qN h
 exact (aHK n) hn
noncomputable def xI (p0v:aF):Option Bool :=
 (xX p0v).bind fun x1=>(gd (x1==true) (aAs p0v)).bind fun x3=>(gd ((cond x1 x3 false)==true) (aDu p0v)).bind fun x5=>some (cond (cond x1 x3 false) (!x5) false)
theorem aCE {p0v:aF}{res:Bool} (h:xI p0v=some res):cX Tryz.prog 111 [.agg (AV.cs (eR p0v))] [] (.c (.bool res)) []:=by
 unfold xI at h
 refine dR (fn:=Tryz.f111) [0,1,2] (by kernel_rfl) Tryz.func111 r (by kernel_rfl) (by kernel_rfl)<|aJ<|kP (v:=.agg cJ) (n:=0) (cs:=cJ) (σ':=[cJ]) r r r r r<|sB r<|aH (fr':=[(1,aD)]) r r<|aJ<|aU r (eL (us:=cJ) jC r r r r)<|bx h fun x1 hx1 h2=>oN (cA (v:=aB) r (aFO hx1) ⟨(cM r kR5),trivial⟩ r r r)<|mB r<|og r r r (fun hc=>(eL (us:=cJ) jC r r r r))<|bx h2 fun x3 hx3 h4=>zG r r (fun hc=>cA (v:=aB) r (aJz (dM hx3 hc)) ⟨(iA (gx r hc) (cM r kR5)),trivial⟩ (iO (by repeat (first | exact fU | refine bG r ?_ | refine bG (vD r) ?_ | refine bG vC ?_))) r r) ?_
 refine aU r (cS r r r (fun e=>hH e))<|mB r<|og r r r (fun hc=>(eL (us:=cJ) jC r r r r))<|bx h4 fun x5 hx5 h6=>zG r r (fun hc=>cA (v:=aB) r (aJx (dM hx5 hc)) ⟨(iA (gx r hc) (cM r kR5)),trivial⟩ (iO (by repeat (first | exact fU | refine bG r ?_ | refine bG (vD r) ?_ | refine bG vC ?_))) r r) ?_
 refine og r r r (fun hc=>(gX (gx r hc)))<|aU r (cS r r r (fun e=>hH e))<|sB r<|aH (fr':=[(2,aB)]) r r<|bO ?_
 obtain rfl:=sy h6
 exact bN (rs':=[.tmp 2]) r<|cE (v:=aB) r<|bM<|aP [] r r r lr aC
noncomputable def aB5 (dT:Int):Option gQ :=
 cond (decide (dT=1)) (some (gQ.mk false false true false true true true false)) (cond (decide (dT=2)) (some (gQ.mk false false true false false false false false)) (((cond (decide (dT=3)) (some (decide (dT=3))) (cond (decide (dT=4)) (some (decide (dT=4))) (some (decide (dT=6))))):Option Bool).bind fun x5=>(cond x5 (some (gQ.mk false true false false false false false false)) (cond (decide (dT=5)) (some (gQ.mk false true false true false false false false)) (cond (decide (dT=8)) (some (gQ.mk true true true false false false false false)) (((cond (decide (dT=9)) (some (decide (dT=9))) (cond (decide (dT=13)) (some (decide (dT=13))) (some (decide (dT=21))))):Option Bool).bind fun x17=>(cond x17 (some (gQ.mk true true false false false false true false)) (((cond (decide (dT=10)) (some (decide (dT=10))) (some (decide (dT=22)))):Option Bool).bind fun x25=>(cond x25 (some (gQ.mk true true false false true false true false)) (cond (decide (dT=11)) (some (gQ.mk true true false true false false false false)) (((cond (decide (dT=15)) (some (decide (dT=15))) (cond (decide (dT=24)) (some (decide (dT=24))) (cond (decide (dT=12)) (some (decide (dT=12))) (some (decide (dT=16)))))):Option Bool).bind fun x34=>(cond x34 (some (gQ.mk true true false false false false false false)) (cond (decide (dT=17)) (some (gQ.mk false false false false true true true false)) (cond (decide (dT=20)) (some (gQ.mk true true false false false true false false)) (cond (decide (dT=25)) (some (gQ.mk true true false false true false false false)) (cond (decide (dT=26)) (some (gQ.mk false false false false false true false false)) (cond (decide (dT=33)) (some (gQ.mk false false false false true false false false)) (cond (decide (dT=7)) (some (gQ.mk true false false false true false true true)) (cond (decide (dT=14)) (some (gQ.mk true false true false false false false false)) (cond (decide (dT=19)) (some (gQ.mk true false true false true true true false)) (cond (decide (dT=23)) (some (gQ.mk true false false false true true true false)) (cond (decide (dT=18)) (some (gQ.mk false false true false true false true false)) (cond (decide (dT=27)) (some (gQ.mk false false false false true true true false)) (cond (decide (dT=28)) (some (gQ.mk false false true false false true true false)) (cond (decide (dT=31)) (some (gQ.mk false false false false true false true false)) (((cond (decide (dT=29)) (some (decide (dT=29))) (cond (decide (dT=30)) (some (decide (dT=30))) (cond (decide (dT=32)) (some (decide (dT=32))) (some (decide (dT=35)))))):Option Bool).bind fun x69=>(cond x69 (some (gQ.mk false false false false false false true false)) (some (gQ.mk false false false false false false false false)))))))))))))))))))))))))))))
theorem aLL {dT:Int}{res:gQ} (h:aB5 dT=some res):cX Tryz.prog 153 [ci dT] [] (.agg (AV.cs (aJf res))) []:=by
 unfold aB5 at h
 refine dR (fn:=Tryz.f153) [0,2,3,4,7,10,15,18,21,26,30,33,39,42,45,48,51,54,57,60,63,66,69,72,75,78] (by kernel_rfl) Tryz.func153 r (by kernel_rfl) (by kernel_rfl)<|aJ<|jV (n:=0) (cs:=bF) (σ':=[bF]) aRY r r r<|aH (fr':=[(0,aI),(2,aD)]) r r<|aX<|aJ<|mI r<|aH (fr':=[(2,aD),(3,aI)]) r r<|cP<|aX<|bA<|aU r (cQ r r)<|sB r<|aH (fr':=[(2,aD),(3,aI),(4,aB)]) r r<|cU h r (fun hb1 h1=>?_) (fun hb1 h1=>?_)
 ·
  refine aJ<|aU r (fM (cs:=bF) wV r)<|cN (v:=.agg bF) (us:=bF) (cs:=bF) (σ':=[bF]) r mW r r r r r r r r<|aH (fr':=[(2,aD)]) r r<|bO<|bT<|aN ?_
  obtain rfl:=sy h1
  exact bN (rs':=[.cell 2 154]) r<|eX (us:=bF) (cs:=bF) mW r r r r<|bM<|aP [] r r r (cM r kR8) aC
 ·
  refine aJ<|aU r (cQ r r)<|sB r<|aH (fr':=[(2,aD),(3,aI),(7,aB)]) r r<|cU h1 r (fun hb3 h3=>?_) (fun hb3 h3=>?_)
  ·
   refine aJ<|aU r (fM (cs:=bF) wV r)<|cN (v:=.agg bF) (us:=bF) (cs:=bF) (σ':=[bF]) r mW r r r r r r r r<|aH (fr':=[(2,aD)]) r r<|bO<|bT<|aN ?_
   obtain rfl:=sy h3
   exact bN (rs':=[.cell 2 154]) r<|eX (us:=bF) (cs:=bF) mW r r r r<|bM<|aP [] r r r (cM r kR8) aC
  ·
   obtain ⟨x5,hx5,h6⟩:=eF h3
   refine kF (fun j7=>x5=j7) (fun (j7:Bool)=>([(2,aD),(3,ci dT),(10,.c (.bool j7))]:Fr)) (fun (j7:Bool)=>([[.c (.bool false),.c (.bool false),.c (.bool false),.c (.bool false),.c (.bool false),.c (.bool false),.c (.bool false),.c (.bool false)]]:St)) ?_ ?_
   ·
    refine aJ<|aU r (cQ r r)<|sB r<|aH (fr':=[(2,aD),(3,aI),(10,aB)]) r r<|cU hx5 r (fun hb8 h8=>?_) (fun hb8 h8=>?_)
    ·
     exact bI<|lB _ (sy h8) (bJ [] 1 r r r r nW (cO r aC))
    ·
     refine aJ<|aU r (cQ r r)<|sB r<|aH (fr':=[(2,aD),(3,aI),(10,aB)]) r r<|cU h8 r (fun hb9 h9=>?_) (fun hb9 h9=>?_)
     ·
      exact bI<|lB _ (sy h9) (bJ [] 1 r r r r nW (cO r aC))
     ·
      exact bA<|aU r (cQ r r)<|sB r<|dQ (fr':=[(2,aD),(3,aI),(10,aB)]) r<|lB _ (sy h9) (bJ [] 1 r r r r nW (cO r aC))
   ·
    intro j7 hj10
    subst hj10
    refine cU h6 r (fun hb11 h11=>?_) (fun hb11 h11=>?_)
    ·
     refine aJ<|aU r (fM (cs:=bF) wV r)<|cN (v:=.agg bF) (us:=bF) (cs:=bF) (σ':=[bF]) r mW r r r r r r r r<|aH (fr':=[(2,aD)]) r r<|bO<|bT<|aN ?_
     obtain rfl:=sy h11
     exact bN (rs':=[.cell 2 154]) r<|eX (us:=bF) (cs:=bF) mW r r r r<|bM<|aP [] r r r (cM r kR8) aC
    ·
     refine aJ<|aU r (cQ r r)<|sB r<|aH (fr':=[(2,aD),(3,aI),(15,aB)]) r r<|cU h11 r (fun hb13 h13=>?_) (fun hb13 h13=>?_)
     ·
      refine aJ<|aU r (fM (cs:=bF) wV r)<|cN (v:=.agg bF) (us:=bF) (cs:=bF) (σ':=[bF]) r mW r r r r r r r r<|aH (fr':=[(2,aD)]) r r<|bO<|bT<|aN ?_
      obtain rfl:=sy h13
      exact bN (rs':=[.cell 2 154]) r<|eX (us:=bF) (cs:=bF) mW r r r r<|bM<|aP [] r r r (cM r kR8) aC
     ·
      refine aJ<|aU r (cQ r r)<|sB r<|aH (fr':=[(2,aD),(3,aI),(18,aB)]) r r<|cU h13 r (fun hb15 h15=>?_) (fun hb15 h15=>?_)
      ·
       refine aJ<|aU r (fM (cs:=bF) wV r)<|cN (v:=.agg bF) (us:=bF) (cs:=bF) (σ':=[bF]) r mW r r r r r r r r<|aH (fr':=[(2,aD)]) r r<|bO<|bT<|aN ?_
       obtain rfl:=sy h15
       exact bN (rs':=[.cell 2 154]) r<|eX (us:=bF) (cs:=bF) mW r r r r<|bM<|aP [] r r r (cM r kR8) aC
      ·
       obtain ⟨x17,hx17,h18⟩:=eF h15
       refine kF (fun j19=>x17=j19) (fun (j19:Bool)=>([(2,aD),(3,ci dT),(21,.c (.bool j19))]:Fr)) (fun (j19:Bool)=>([[.c (.bool false),.c (.bool false),.c (.bool false),.c (.bool false),.c (.bool false),.c (.bool false),.c (.bool false),.c (.bool false)]]:St)) ?_ ?_
       ·
        refine aJ<|aU r (cQ r r)<|sB r<|aH (fr':=[(2,aD),(3,aI),(21,aB)]) r r<|cU hx17 r (fun hb20 h20=>?_) (fun hb20 h20=>?_)
        ·
         exact bI<|lB _ (sy h20) (bJ [] 1 r r r r nW (cO r aC))
        ·
         refine aJ<|aU r (cQ r r)<|sB r<|aH (fr':=[(2,aD),(3,aI),(21,aB)]) r r<|cU h20 r (fun hb21 h21=>?_) (fun hb21 h21=>?_)
         ·
          exact bI<|lB _ (sy h21) (bJ [] 1 r r r r nW (cO r aC))
         ·
          exact bA<|aU r (cQ r r)<|sB r<|dQ (fr':=[(2,aD),(3,aI),(21,aB)]) r<|lB _ (sy h21) (bJ [] 1 r r r r nW (cO r aC))
       ·
        intro j19 hj22
        subst hj22
        refine cU h18 r (fun hb23 h23=>?_) (fun hb23 h23=>?_)
        ·
         refine aJ<|aU r (fM (cs:=bF) wV r)<|cN (v:=.agg bF) (us:=bF) (cs:=bF) (σ':=[bF]) r mW r r r r r r r r<|aH (fr':=[(2,aD)]) r r<|bO<|bT<|aN ?_
         obtain rfl:=sy h23
         exact bN (rs':=[.cell 2 154]) r<|eX (us:=bF) (cs:=bF) mW r r r r<|bM<|aP [] r r r (cM r kR8) aC
        ·
         obtain ⟨x25,hx25,h26⟩:=eF h23
         refine kF (fun j27=>x25=j27) (fun (j27:Bool)=>([(2,aD),(3,ci dT),(26,.c (.bool j27))]:Fr)) (fun (j27:Bool)=>([[.c (.bool false),.c (.bool false),.c (.bool false),.c (.bool false),.c (.bool false),.c (.bool false),.c (.bool false),.c (.bool false)]]:St)) ?_ ?_
         ·
          refine aJ<|aU r (cQ r r)<|sB r<|aH (fr':=[(2,aD),(3,aI),(26,aB)]) r r<|cU hx25 r (fun hb28 h28=>?_) (fun hb28 h28=>?_)
          ·
           exact bI<|lB _ (sy h28) (bJ [] 1 r r r r nW (cO r aC))
          ·
           exact bA<|aU r (cQ r r)<|sB r<|dQ (fr':=[(2,aD),(3,aI),(26,aB)]) r<|lB _ (sy h28) (bJ [] 1 r r r r nW (cO r aC))
         ·
          intro j27 hj29
          subst hj29
          refine cU h26 r (fun hb30 h30=>?_) (fun hb30 h30=>?_)
          ·
           refine aJ<|aU r (fM (cs:=bF) wV r)<|cN (v:=.agg bF) (us:=bF) (cs:=bF) (σ':=[bF]) r mW r r r r r r r r<|aH (fr':=[(2,aD)]) r r<|bO<|bT<|aN ?_
           obtain rfl:=sy h30
           exact bN (rs':=[.cell 2 154]) r<|eX (us:=bF) (cs:=bF) mW r r r r<|bM<|aP [] r r r (cM r kR8) aC
          ·
           refine aJ<|aU r (cQ r r)<|sB r<|aH (fr':=[(2,aD),(3,aI),(30,aB)]) r r<|cU h30 r (fun hb32 h32=>?_) (fun hb32 h32=>?_)
           ·
            refine aJ<|aU r (fM (cs:=bF) wV r)<|cN (v:=.agg bF) (us:=bF) (cs:=bF) (σ':=[bF]) r mW r r r r r r r r<|aH (fr':=[(2,aD)]) r r<|bO<|bT<|aN ?_
            obtain rfl:=sy h32
            exact bN (rs':=[.cell 2 154]) r<|eX (us:=bF) (cs:=bF) mW r r r r<|bM<|aP [] r r r (cM r kR8) aC
           ·
            obtain ⟨x34,hx34,h35⟩:=eF h32
            refine kF (fun j36=>x34=j36) (fun (j36:Bool)=>([(2,aD),(3,ci dT),(33,.c (.bool j36))]:Fr)) (fun (j36:Bool)=>([[.c (.bool false),.c (.bool false),.c (.bool false),.c (.bool false),.c (.bool false),.c (.bool false),.c (.bool false),.c (.bool false)]]:St)) ?_ ?_
            ·
             refine aJ<|aU r (cQ r r)<|sB r<|aH (fr':=[(2,aD),(3,aI),(33,aB)]) r r<|cU hx34 r (fun hb37 h37=>?_) (fun hb37 h37=>?_)
             ·
              exact bI<|lB _ (sy h37) (bJ [] 1 r r r r nW (cO r aC))
             ·
              refine aJ<|aU r (cQ r r)<|sB r<|aH (fr':=[(2,aD),(3,aI),(33,aB)]) r r<|cU h37 r (fun hb38 h38=>?_) (fun hb38 h38=>?_)
              ·
               exact bI<|lB _ (sy h38) (bJ [] 1 r r r r nW (cO r aC))
              ·
               refine aJ<|aU r (cQ r r)<|sB r<|aH (fr':=[(2,aD),(3,aI),(33,aB)]) r r<|cU h38 r (fun hb39 h39=>?_) (fun hb39 h39=>?_)
               ·
                exact bI<|lB _ (sy h39) (bJ [] 1 r r r r nW (cO r aC))
               ·
                exact bA<|aU r (cQ r r)<|sB r<|dQ (fr':=[(2,aD),(3,aI),(33,aB)]) r<|lB _ (sy h39) (bJ [] 1 r r r r nW (cO r aC))
            ·
             intro j36 hj40
             subst hj40
             refine cU h35 r (fun hb41 h41=>?_) (fun hb41 h41=>?_)
             ·
              refine aJ<|aU r (fM (cs:=bF) wV r)<|cN (v:=.agg bF) (us:=bF) (cs:=bF) (σ':=[bF]) r mW r r r r r r r r<|aH (fr':=[(2,aD)]) r r<|bO<|bT<|aN ?_
              obtain rfl:=sy h41
              exact bN (rs':=[.cell 2 154]) r<|eX (us:=bF) (cs:=bF) mW r r r r<|bM<|aP [] r r r (cM r kR8) aC
             ·
              refine aJ<|aU r (cQ r r)<|sB r<|aH (fr':=[(2,aD),(3,aI),(39,aB)]) r r<|cU h41 r (fun hb43 h43=>?_) (fun hb43 h43=>?_)
              ·
               refine aJ<|aU r (fM (cs:=bF) wV r)<|cN (v:=.agg bF) (us:=bF) (cs:=bF) (σ':=[bF]) r mW r r r r r r r r<|aH (fr':=[(2,aD)]) r r<|bO<|bT<|aN ?_
               obtain rfl:=sy h43
               exact bN (rs':=[.cell 2 154]) r<|eX (us:=bF) (cs:=bF) mW r r r r<|bM<|aP [] r r r (cM r kR8) aC
              ·
               refine aJ<|aU r (cQ r r)<|sB r<|aH (fr':=[(2,aD),(3,aI),(42,aB)]) r r<|cU h43 r (fun hb45 h45=>?_) (fun hb45 h45=>?_)
               ·
                refine aJ<|aU r (fM (cs:=bF) wV r)<|cN (v:=.agg bF) (us:=bF) (cs:=bF) (σ':=[bF]) r mW r r r r r r r r<|aH (fr':=[(2,aD)]) r r<|bO<|bT<|aN ?_
                obtain rfl:=sy h45
                exact bN (rs':=[.cell 2 154]) r<|eX (us:=bF) (cs:=bF) mW r r r r<|bM<|aP [] r r r (cM r kR8) aC
               ·
                refine aJ<|aU r (cQ r r)<|sB r<|aH (fr':=[(2,aD),(3,aI),(45,aB)]) r r<|cU h45 r (fun hb47 h47=>?_) (fun hb47 h47=>?_)
                ·
                 refine aJ<|aU r (fM (cs:=bF) wV r)<|cN (v:=.agg bF) (us:=bF) (cs:=bF) (σ':=[bF]) r mW r r r r r r r r<|aH (fr':=[(2,aD)]) r r<|bO<|bT<|aN ?_
                 obtain rfl:=sy h47
                 exact bN (rs':=[.cell 2 154]) r<|eX (us:=bF) (cs:=bF) mW r r r r<|bM<|aP [] r r r (cM r kR8) aC
                ·
                 refine aJ<|aU r (cQ r r)<|sB r<|aH (fr':=[(2,aD),(3,aI),(48,aB)]) r r<|cU h47 r (fun hb49 h49=>?_) (fun hb49 h49=>?_)
                 ·
                  refine aJ<|aU r (fM (cs:=bF) wV r)<|cN (v:=.agg bF) (us:=bF) (cs:=bF) (σ':=[bF]) r mW r r r r r r r r<|aH (fr':=[(2,aD)]) r r<|bO<|bT<|aN ?_
                  obtain rfl:=sy h49
                  exact bN (rs':=[.cell 2 154]) r<|eX (us:=bF) (cs:=bF) mW r r r r<|bM<|aP [] r r r (cM r kR8) aC
                 ·
                  refine aJ<|aU r (cQ r r)<|sB r<|aH (fr':=[(2,aD),(3,aI),(51,aB)]) r r<|cU h49 r (fun hb51 h51=>?_) (fun hb51 h51=>?_)
                  ·
                   refine aJ<|aU r (fM (cs:=bF) wV r)<|cN (v:=.agg bF) (us:=bF) (cs:=bF) (σ':=[bF]) r mW r r r r r r r r<|aH (fr':=[(2,aD)]) r r<|bO<|bT<|aN ?_
                   obtain rfl:=sy h51
                   exact bN (rs':=[.cell 2 154]) r<|eX (us:=bF) (cs:=bF) mW r r r r<|bM<|aP [] r r r (cM r kR8) aC
                  ·
                   refine aJ<|aU r (cQ r r)<|sB r<|aH (fr':=[(2,aD),(3,aI),(54,aB)]) r r<|cU h51 r (fun hb53 h53=>?_) (fun hb53 h53=>?_)
                   ·
                    refine aJ<|aU r (fM (cs:=bF) wV r)<|cN (v:=.agg bF) (us:=bF) (cs:=bF) (σ':=[bF]) r mW r r r r r r r r<|aH (fr':=[(2,aD)]) r r<|bO<|bT<|aN ?_
                    obtain rfl:=sy h53
                    exact bN (rs':=[.cell 2 154]) r<|eX (us:=bF) (cs:=bF) mW r r r r<|bM<|aP [] r r r (cM r kR8) aC
                   ·
                    refine aJ<|aU r (cQ r r)<|sB r<|aH (fr':=[(2,aD),(3,aI),(57,aB)]) r r<|cU h53 r (fun hb55 h55=>?_) (fun hb55 h55=>?_)
                    ·
                     refine aJ<|aU r (fM (cs:=bF) wV r)<|cN (v:=.agg bF) (us:=bF) (cs:=bF) (σ':=[bF]) r mW r r r r r r r r<|aH (fr':=[(2,aD)]) r r<|bO<|bT<|aN ?_
                     obtain rfl:=sy h55
                     exact bN (rs':=[.cell 2 154]) r<|eX (us:=bF) (cs:=bF) mW r r r r<|bM<|aP [] r r r (cM r kR8) aC
                    ·
                     refine aJ<|aU r (cQ r r)<|sB r<|aH (fr':=[(2,aD),(3,aI),(60,aB)]) r r<|cU h55 r (fun hb57 h57=>?_) (fun hb57 h57=>?_)
                     ·
                      refine aJ<|aU r (fM (cs:=bF) wV r)<|cN (v:=.agg bF) (us:=bF) (cs:=bF) (σ':=[bF]) r mW r r r r r r r r<|aH (fr':=[(2,aD)]) r r<|bO<|bT<|aN ?_
                      obtain rfl:=sy h57
                      exact bN (rs':=[.cell 2 154]) r<|eX (us:=bF) (cs:=bF) mW r r r r<|bM<|aP [] r r r (cM r kR8) aC
                     ·
                      refine aJ<|aU r (cQ r r)<|sB r<|aH (fr':=[(2,aD),(3,aI),(63,aB)]) r r<|cU h57 r (fun hb59 h59=>?_) (fun hb59 h59=>?_)
                      ·
                       refine aJ<|aU r (fM (cs:=bF) wV r)<|cN (v:=.agg bF) (us:=bF) (cs:=bF) (σ':=[bF]) r mW r r r r r r r r<|aH (fr':=[(2,aD)]) r r<|bO<|bT<|aN ?_
                       obtain rfl:=sy h59
                       exact bN (rs':=[.cell 2 154]) r<|eX (us:=bF) (cs:=bF) mW r r r r<|bM<|aP [] r r r (cM r kR8) aC
                      ·
                       refine aJ<|aU r (cQ r r)<|sB r<|aH (fr':=[(2,aD),(3,aI),(66,aB)]) r r<|cU h59 r (fun hb61 h61=>?_) (fun hb61 h61=>?_)
                       ·
                        refine aJ<|aU r (fM (cs:=bF) wV r)<|cN (v:=.agg bF) (us:=bF) (cs:=bF) (σ':=[bF]) r mW r r r r r r r r<|aH (fr':=[(2,aD)]) r r<|bO<|bT<|aN ?_
                        obtain rfl:=sy h61
                        exact bN (rs':=[.cell 2 154]) r<|eX (us:=bF) (cs:=bF) mW r r r r<|bM<|aP [] r r r (cM r kR8) aC
                       ·
                        refine aJ<|aU r (cQ r r)<|sB r<|aH (fr':=[(2,aD),(3,aI),(69,aB)]) r r<|cU h61 r (fun hb63 h63=>?_) (fun hb63 h63=>?_)
                        ·
                         refine aJ<|aU r (fM (cs:=bF) wV r)<|cN (v:=.agg bF) (us:=bF) (cs:=bF) (σ':=[bF]) r mW r r r r r r r r<|aH (fr':=[(2,aD)]) r r<|bO<|bT<|aN ?_
                         obtain rfl:=sy h63
                         exact bN (rs':=[.cell 2 154]) r<|eX (us:=bF) (cs:=bF) mW r r r r<|bM<|aP [] r r r (cM r kR8) aC
                        ·
                         refine aJ<|aU r (cQ r r)<|sB r<|aH (fr':=[(2,aD),(3,aI),(72,aB)]) r r<|cU h63 r (fun hb65 h65=>?_) (fun hb65 h65=>?_)
                         ·
                          refine aJ<|aU r (fM (cs:=bF) wV r)<|cN (v:=.agg bF) (us:=bF) (cs:=bF) (σ':=[bF]) r mW r r r r r r r r<|aH (fr':=[(2,aD)]) r r<|bO<|bT<|aN ?_
                          obtain rfl:=sy h65
                          exact bN (rs':=[.cell 2 154]) r<|eX (us:=bF) (cs:=bF) mW r r r r<|bM<|aP [] r r r (cM r kR8) aC
                         ·
                          refine aJ<|aU r (cQ r r)<|sB r<|aH (fr':=[(2,aD),(3,aI),(75,aB)]) r r<|cU h65 r (fun hb67 h67=>?_) (fun hb67 h67=>?_)
                          ·
                           refine aJ<|aU r (fM (cs:=bF) wV r)<|cN (v:=.agg bF) (us:=bF) (cs:=bF) (σ':=[bF]) r mW r r r r r r r r<|aH (fr':=[(2,aD)]) r r<|bO<|bT<|aN ?_
                           obtain rfl:=sy h67
                           exact bN (rs':=[.cell 2 154]) r<|eX (us:=bF) (cs:=bF) mW r r r r<|bM<|aP [] r r r (cM r kR8) aC
                          ·
                           obtain ⟨x69,hx69,h70⟩:=eF h67
                           refine kF (fun j71=>x69=j71) (fun (j71:Bool)=>([(2,aD),(78,.c (.bool j71))]:Fr)) (fun (j71:Bool)=>([[.c (.bool false),.c (.bool false),.c (.bool false),.c (.bool false),.c (.bool false),.c (.bool false),.c (.bool false),.c (.bool false)]]:St)) ?_ ?_
                           ·
                            refine aJ<|aU r (cQ r r)<|sB r<|aH (fr':=[(2,aD),(3,aI),(78,aB)]) r r<|cU hx69 r (fun hb72 h72=>?_) (fun hb72 h72=>?_)
                            ·
                             exact bI<|lB _ (sy h72) (bJ [] 1 r r r r kR (cO r aC))
                            ·
                             refine aJ<|aU r (cQ r r)<|sB r<|aH (fr':=[(2,aD),(3,aI),(78,aB)]) r r<|cU h72 r (fun hb73 h73=>?_) (fun hb73 h73=>?_)
                             ·
                              exact bI<|lB _ (sy h73) (bJ [] 1 r r r r kR (cO r aC))
                             ·
                              refine aJ<|aU r (cQ r r)<|sB r<|aH (fr':=[(2,aD),(3,aI),(78,aB)]) r r<|cU h73 r (fun hb74 h74=>?_) (fun hb74 h74=>?_)
                              ·
                               exact bI<|lB _ (sy h74) (bJ [] 1 r r r r kR (cO r aC))
                              ·
                               exact bA<|aU r (cQ r r)<|sB r<|dQ (fr':=[(2,aD),(3,aI),(78,aB)]) r<|lB _ (sy h74) (bJ [] 1 r r r r kR (cO r aC))
                           ·
                            intro j71 hj75
                            subst hj75
                            refine cU h70 r (fun hb76 h76=>?_) (fun hb76 h76=>?_)
                            ·
                             refine aJ<|aU r (fM (cs:=bF) wV r)<|cN (v:=.agg bF) (us:=bF) (cs:=bF) (σ':=[bF]) r mW r r r r r r r r<|aH (fr':=[(2,aD)]) r r<|bO<|bT<|aN ?_
                             obtain rfl:=sy h76
                             exact bN (rs':=[.cell 2 154]) r<|eX (us:=bF) (cs:=bF) mW r r r r<|bM<|aP [] r r r (cM r kR8) aC
                            ·
                             refine bI<|dI<|dB<|aJ<|aU r (fM (cs:=bF) wV r)<|cN (v:=.agg bF) (us:=bF) (cs:=bF) (σ':=[bF]) r mW r r r r r r r r<|aH (fr':=[(2,aD)]) r r<|bO ?_
                             obtain rfl:=sy h76
                             exact bN (rs':=[.cell 2 154]) r<|eX (us:=bF) (cs:=bF) mW r r r r<|bM<|aP [] r r r (cM r kR8) aC
