import Derived.Test.YtnigjppddilpcaaGreatDoorGETy
import Derived.Test.YtnigjppddilpcaaGreatDoorGEF0
import Derived.Test.YtnigjppddilpcaaGreatDoorGEF1
import Derived.Test.YtnigjppddilpcaaGreatDoorGEF6
import Derived.Test.YtnigjppddilpcaaGreatDoorGEF7
namespace Go.Proofs.YtnigjppddilpcaaGreatDoor
open Go Abs
set_option maxRecDepth 100000
set_option linter.unusedVariables false
set_option linter.unusedSimpArgs false
noncomputable def wE (p1e:dP) (s6:((List UInt8) × Int)):Option (dU ((List UInt8) × Int) (List UInt8)) :=
 cond (decide (s6.2<((([p1e.ID,p1e.Kind,p1e.Time,p1e.Seq,p1e.Ref,p1e.N,p1e.Code]:List Int)).length:Int))) ((mP ([p1e.ID,p1e.Kind,p1e.Time,p1e.Seq,p1e.Ref,p1e.N,p1e.Code]:List Int) s6.2).bind fun x8=>(jB s6.1 x8).bind fun x10=>some (dU.next (x10,(IntKind.wrap .i64 (s6.2+1))))) (some (dU.out s6.1))
noncomputable def aAF (p0b:(List UInt8)) (p1e:dP):Option (List UInt8) :=
 (app 1 ([]:List UInt8) p0b).bind fun x1=>(gL (wE p1e) ((x1,0))).bind fun x3=>((kH x3 p1e.Name).bind fun x14=>(kH x14 p1e.Key).bind fun x16=>(tL x16 p1e.Data).bind fun x18=>(pK x18 p1e.Opts).bind fun x20=>some x20)
theorem aKv {p0b:(List UInt8)}{p1e:dP}{z:(List UInt8)} (h:aAF p0b p1e=some z):cR Tryz.prog 19 [.c (PV.ls 1 hF p0b),.agg (AV.cs (eU p1e))] [] (AV.os 0 1 hF z) []:=by
 unfold aAF at h
 refine dQ (fn:=Tryz.f19) [0,1,3,4,5,7,25,26,27,28] (by kernel_rfl) Tryz.func19 r (by kernel_rfl) (by kernel_rfl)<|aH<|iR (v:=.agg aT) (n:=0) (cs:=aT) (σ':=[aT]) r r r r r<|sV (v:=AV.nil) r<|aG (fr':=[(0,aL),(3,aD)]) r r<|aH<|sW (row:=hF) (xs:=([]:List UInt8)) (rows:=[]) (σ':=[aT]) [0] aCu r r r mX r r<|mL r<|bx h fun x1 y1 h2=>aDg (row:=hF) aCu r aFi r (eD r) (fun _=>r) y1<|sV (v:=aO) r<|aG (fr':=[(3,aD),(5,aO)]) r r<|aU<|aH<|aN r (bE aF5 r)<|aN r (aJ (v:=aI) gA r r r)<|aN r (bE aAJ r)<|aN r (aJ (v:=aI) gA r r r)<|aN r (bE aF6 r)<|aN r (aJ (v:=aI) gA r r r)<|aN r (bE aCr r)<|aN r (aJ (v:=aI) gA r r r)<|aN r (bE aCs r)<|aN r (aJ (v:=aI) gA r r r)<|aN r (bE aAd r)<|aN r (aJ (v:=aI) gA r r r)<|aN r (bE aBH r)<|aN r (aJ (v:=aI) gA r r r)<|sW (row:=(aFU .i64)) (xs:=([p1e.ID,p1e.Kind,p1e.Time,p1e.Seq,p1e.Ref,p1e.N,p1e.Code]:List Int)) (rows:=[[_],[_],[_],[_],[_],[_],[_]]) (σ':=[aT]) [0] aG6 r r r (eI r (eI r (eI r (eI r (eI r (eI r (eI r mX))))))) r r<|aN r (gQ aPo (rQ r))<|mI r<|aG (fr':=[(3,aD),(5,aO),(25,aO),(26,aI),(27,aI)]) r r<|bx h2 fun x3 y3 h4=>gY kS (fun j5=>x3=j5) (fun (j5:(List UInt8))=>([(3,aD),(5,AV.os 0 1 hF j5)]:Fr)) (fun (j5:(List UInt8))=>([[ci p1e.ID,ci p1e.Kind,ci p1e.Time,ci p1e.Seq,ci p1e.Ref,ci p1e.N,ci p1e.Code,.c (.str p1e.Name),.c (.str p1e.Key),ci p1e.Data.Kind,ci p1e.Data.Int,.c (.str p1e.Data.Text),.c (PV.ls 5 bO p1e.Data.Items),.c (PV.ls 1 fZ p1e.Data.Keys),.c (.str p1e.Opts.Queue),ci p1e.Opts.ToStart,ci p1e.Opts.ToClose,ci p1e.Opts.Total,ci p1e.Opts.Beat,ci p1e.Opts.First,ci p1e.Opts.Coef,ci p1e.Opts.Most,ci p1e.Opts.Attempts,.c (PV.ls 1 fZ p1e.Opts.Fatal)]]:St)) ?_ ?_
 ·
  refine cE<|gU _ (fun (s6:((List UInt8) × Int))=>([(3,aD),(5,AV.os 0 1 hF s6.1),(25,AV.os 1 1 (aFU .i64) ([p1e.ID,p1e.Kind,p1e.Time,p1e.Seq,p1e.Ref,p1e.N,p1e.Code]:List Int)),(26,ci ((([p1e.ID,p1e.Kind,p1e.Time,p1e.Seq,p1e.Ref,p1e.N,p1e.Code]:List Int)).length:Int)),(27,ci s6.2)]:Fr)) (fun (s6:((List UInt8) × Int))=>([[ci p1e.ID,ci p1e.Kind,ci p1e.Time,ci p1e.Seq,ci p1e.Ref,ci p1e.N,ci p1e.Code,.c (.str p1e.Name),.c (.str p1e.Key),ci p1e.Data.Kind,ci p1e.Data.Int,.c (.str p1e.Data.Text),.c (PV.ls 5 bO p1e.Data.Items),.c (PV.ls 1 fZ p1e.Data.Keys),.c (.str p1e.Opts.Queue),ci p1e.Opts.ToStart,ci p1e.Opts.ToClose,ci p1e.Opts.Total,ci p1e.Opts.Beat,ci p1e.Opts.First,ci p1e.Opts.Coef,ci p1e.Opts.Most,ci p1e.Opts.Attempts,.c (PV.ls 1 fZ p1e.Opts.Fatal)]]:St)) y3 (bH [160,400] 1 r r r r kL5 (cV r aC)) ?_
  intro s6 st6 hs6 ho6
  unfold wE at hs6
  refine aH<|aN r (gC r r)<|aG (fr':=[(3,aD),(5,aO),(25,aO),(26,aI),(27,aI),(28,aB)]) r r<|aU<|cN hs6 r (fun b7 h7=>?_) (fun b7 h7=>?_)
  ·
   exact bL<|cY<|aU<|cE<|aU<|bA<|bx h7 fun x8 y8 h9=>aN r (lT (cs:=[PV.int _ _]) aG6 (rQ r) r y8 r)<|aN r (iO (p:=PV.int _ _) gA r r)<|sI r<|aG (fr':=[(3,aD),(5,aO),(7,aI),(25,aO),(26,aI),(27,aI)]) r r<|bA<|mV (v:=aO) r<|mI r<|bx h9 fun x10 y10 h11=>kB (bC (v:=aO) r (nN y10) kU r r r)<|sV (v:=aO) r<|dT (fr':=[(3,aD),(5,aO),(7,aI),(25,aO),(26,aI),(27,aI)]) r<|dH<|cY<|bA<|aN r (fY r r)<|mI r<|dT (fr':=[(3,aD),(5,aO),(7,aI),(25,aO),(26,aI),(27,aI)]) r<|e_l _ (sy h11) (bH [528,1] 1 r r r r kL5 (cV r aC))
  ·
   refine iA<|cX<|cX<|fS ?_
   have h12:=eZ h7 ho6
   exact kI _ (sy h12) (bH [0] 1 r r r r kU (cV r aC))
 ·
  intro j5 hj13
  subst hj13
  refine cY<|aH<|mV (v:=aO) r<|aN r (bE xZ r)<|aN r (aJ (v:=aS) mG r r r)<|bx h4 fun x14 y14 h15=>kB (bC (v:=aO) r (rB y14) kU r r r)<|sV (v:=aO) r<|aG (fr':=[(3,aD),(5,aO)]) r r<|aH<|mV (v:=aO) r<|aN r (bE yA r)<|aN r (aJ (v:=aS) mG r r r)<|bx h15 fun x16 y16 h17=>kB (bC (v:=aO) r (rB y16) kU r r r)<|sV (v:=aO) r<|aG (fr':=[(3,aD),(5,aO)]) r r<|aH<|mV (v:=aO) r<|aN r (bE aA5 r)<|aN r (dN (us:=cH) jC r r r r)<|bx h17 fun x18 y18 h19=>kB (bC (v:=aO) r (aEW y18) ⟨lr,(bQ r zA),trivial⟩ r r r)<|sV (v:=aO) r<|aG (fr':=[(3,aD),(5,aO)]) r r<|aH<|mV (v:=aO) r<|aN r (bE aBW r)<|aN r (dN (us:=dE) aAm r r r r)<|bx h19 fun x20 y20 h21=>kB (bC (v:=aO) r (aEZ y20) ⟨lr,(bQ r zX),trivial⟩ r r r)<|sV (v:=aO) r<|aG (fr':=[(4,aO)]) r r<|bJ ?_
  obtain rfl:=sy h21
  exact bI (rs':=[.tmp 4]) r<|bX (v:=aO) r<|bG<|aP [800] r r r lr aC
noncomputable def uS (p0n:Int) (oK:Int) (lO:Int):Option Bool :=
 some (cond (decide (oK≤p0n)) (decide (p0n≤lO)) false)
theorem vY {p0n:Int}{oK:Int}{lO:Int}{z:Bool} (h:uS p0n oK lO=some z):cR Tryz.prog 81 [ci p0n,ci oK,ci lO] [] (.c (.bool z)) []:=by
 unfold uS at h
 refine dQ (fn:=Tryz.f81) [0,1,2,6] (by kernel_rfl) Tryz.func81 r (by kernel_rfl) (by kernel_rfl)<|aH<|sB r<|aG (fr':=[(0,aI),(1,aI),(2,aI)]) r r<|aH<|mI r<|mI r<|aN r (qR r r)<|mB r<|og r r r (fun u=>(bS (v:=aI) r))<|og r r r (fun u=>(bS (v:=aI) r))<|og r r r (fun u=>(qH (gx r u) (gx r u)))<|aN r (cB r r r (fun e=>fU e))<|sB r<|aG (fr':=[(6,aB)]) r r<|bJ ?_
 obtain rfl:=sy h
 exact bI (rs':=[.tmp 6]) r<|bX (v:=aB) r<|bG<|aP [] r r r lr aC
noncomputable def aAy (p0v:aK) (s6:Int):Option (dU Int (Fl Bool Unit)) :=
 cond (decide (s6<((p0v.Keys).length:Int))) ((mP p0v.Keys s6).bind fun x8=>cond (decide (4096<((x8).length:Int))) (some (dU.out (Fl.done false))) (some (dU.next (IntKind.wrap .i64 (s6+1))))) (some (dU.out (Fl.go ())))
noncomputable def aAz (aIE:aK→Option Bool) (p0v:aK) (s19:Int):Option (dU Int (Fl Bool Unit)) :=
 cond (decide (s19<((p0v.Items).length:Int))) ((mP p0v.Items s19).bind fun x21=>(aIE x21).bind fun x23=>cond (!x23) (some (dU.out (Fl.done false))) (some (dU.next (IntKind.wrap .i64 (s19+1))))) (some (dU.out (Fl.go ())))
noncomputable def vM:Nat→aK→Option Bool
 | 0,_=>none
 | n+1,p0v =>
  cond (decide (4096<((p0v.Text).length:Int))) (some false) ((gL (aAy p0v) (0)).bind fun x3=>Fl.next x3 (fun j5=>((gL (aAz (vM n) p0v) (0)).bind fun x16=>Fl.next x16 (fun j18=>(some true)))))
theorem aKn:∀ n:Nat,(∀ {p0v:aK}{z:Bool},vM n p0v=some z→cR Tryz.prog 201 [.agg (AV.cs (fA p0v))] [] (.c (.bool z)) []):=by
 intro n
 induction n with
 | zero=>exact fun {p0v z} h=>absurd h (by simp [vM])
 | succ n ih =>
  have ih_ref02xShort:=@ih
  intro p0v z h
  rw [vM] at h
  refine dQ (fn:=Tryz.f201) [0,1,2,3,4,8,13,22,27,36] (by kernel_rfl) Tryz.func201 r (by kernel_rfl) (by kernel_rfl)<|aH<|iR (v:=.agg cH) (n:=0) (cs:=cH) (σ':=[cH]) r r r r r<|sB r<|aG (fr':=[(1,aD)]) r r<|aU<|aH<|aN r (bE tZ r)<|aN r (aJ (v:=aS) mG r r r)<|aN r (kV uD r)<|aN r (sP r r)<|aG (fr':=[(1,aD),(8,aB)]) r r<|cN h r (fun b1 h1=>?_) (fun b1 h1=>?_)
  ·
   refine aH<|sB r<|aG (fr':=[(2,aB)]) r r<|bJ<|aQ ?_
   obtain rfl:=sy h1
   exact bI (rs':=[.tmp 2]) r<|bX (v:=aB) r<|bG<|aP [] r r r lr aC
  ·
   refine bL<|cY<|aU<|aH<|sI r<|aG (fr':=[(1,aD),(3,aI)]) r r<|bx h1 fun x3 y3 h4=>gY kS (fun j5=>x3=Fl.go j5) (fun (j5:Unit)=>([(1,aD)]:Fr)) (fun (j5:Unit)=>([[ci p0v.Kind,ci p0v.Int,.c (.str p0v.Text),.c (PV.ls 5 bO p0v.Items),.c (PV.ls 1 fZ p0v.Keys)]]:St)) ?_ ?_
   ·
    refine cE<|gU _ (fun (s6:Int)=>([(1,aD),(3,ci s6)]:Fr)) (fun (s6:Int)=>([[ci p0v.Kind,ci p0v.Int,.c (.str p0v.Text),.c (PV.ls 5 bO p0v.Items),.c (PV.ls 1 fZ p0v.Keys)]]:St)) y3 (bH [] 1 r r r r kU (cV r aC)) ?_
    intro s6 st6 hs6 ho6
    unfold aAy at hs6
    refine aU<|aH<|mI r<|aN r (bE qJ r)<|aN r (aJ (v:=aL) sE r r r)<|aN r (gQ yZ (eD r))<|aN r (gC r r)<|aG (fr':=[(1,aD),(3,aI),(13,aB)]) r r<|cN hs6 r (fun b7 h7=>?_) (fun b7 h7=>?_)
    ·
     refine bL<|cY<|aU<|cE<|aH<|aN r (bE qJ r)<|aN r (aJ (v:=aL) sE r r r)<|mI r<|bx h7 fun x8 y8 h9=>aN r (lT (cs:=[PV.str _]) aBI (eD r) r y8 r)<|aN r (iO (p:=PV.str _) mG r r)<|aN r (kV uD r)<|aN r (sP r r)<|aG (fr':=[(1,aD),(3,aI),(22,aB)]) r r<|cN h9 r (fun b10 h10=>?_) (fun b10 h10=>?_)
     ·
      refine aH<|sB r<|aG (fr':=[(2,aB)]) r r<|bJ<|bM<|aQ<|aQ<|bM<|aQ<|aQ ?_
      have h11:=eZ h10 ho6
      have h12:=gT h11 h4
      obtain rfl:=sy h12
      exact bI (rs':=[.tmp 2]) r<|bX (v:=aB) r<|bG<|aP [] r r r lr aC
     ·
      exact bL<|dH<|cY<|bA<|mI r<|aN r (fY r r)<|sI r<|dT (fr':=[(1,aD),(3,aI),(22,aB)]) r<|e_l _ (sy h10) (bH [] 1 r r r r kU (cV r aC))
    ·
     refine iA<|cX<|cX<|fS ?_
     have h14:=eZ h7 ho6
     exact kI _ (sy h14) (bH [] 1 r r r r ⟨lr,trivial⟩ (cV r aC))
   ·
    intro j5 hj15
    have h15:=mY hj15 h4
    refine cY<|aU<|aH<|sI r<|aG (fr':=[(1,aD),(4,aI)]) r r<|bx h15 fun x16 y16 h17=>gY kS (fun j18=>x16=Fl.go j18) (fun (j18:Unit)=>([]:Fr)) (fun (j18:Unit)=>([[ci p0v.Kind,ci p0v.Int,.c (.str p0v.Text),.c (PV.ls 5 bO p0v.Items),.c (PV.ls 1 fZ p0v.Keys)]]:St)) ?_ ?_
    ·
     refine cE<|gU _ (fun (s19:Int)=>([(1,aD),(4,ci s19)]:Fr)) (fun (s19:Int)=>([[ci p0v.Kind,ci p0v.Int,.c (.str p0v.Text),.c (PV.ls 5 bO p0v.Items),.c (PV.ls 1 fZ p0v.Keys)]]:St)) y16 (bH [] 1 r r r r kU (cV r aC)) ?_
     intro s19 st19 hs19 ho19
     unfold aAz at hs19
     refine aU<|aH<|mI r<|aN r (bE iH r)<|aN r (aJ (v:=aL) nJ r r r)<|aN r (gQ vC (eD r))<|aN r (gC r r)<|aG (fr':=[(1,aD),(4,aI),(27,aB)]) r r<|cN hs19 r (fun b20 h20=>?_) (fun b20 h20=>?_)
     ·
      refine bL<|cY<|aU<|cE<|aH<|aN r (bE iH r)<|aN r (aJ (v:=aL) nJ r r r)<|mI r<|bx h20 fun x21 y21 h22=>aN r (lT (cs:=[PV.int _ _,PV.int _ _,PV.str _,PV.ls _ _ _,PV.ls _ _ _]) uW (eD r) r y21 (eA _))<|aN r (kT (us:=[PV.int _ _,PV.int _ _,PV.str _,PV.ls _ _ _,PV.ls _ _ _]) jC r r r)<|bx h22 fun x23 y23 h24=>kB (bC (v:=aB) r (ih_ref02xShort y23) ⟨(bQ r zA),trivial⟩ r r r)<|aN r (fP r)<|aG (fr':=[(1,aD),(4,aI),(36,aB)]) r r<|cN h24 r (fun b25 h25=>?_) (fun b25 h25=>?_)
      ·
       refine aH<|sB r<|aG (fr':=[(2,aB)]) r r<|bJ<|bM<|aQ<|aQ<|bM<|aQ<|aQ ?_
       have h26:=eZ h25 ho19
       have h27:=gT h26 h17
       obtain rfl:=sy h27
       exact bI (rs':=[.tmp 2]) r<|bX (v:=aB) r<|bG<|aP [] r r r lr aC
      ·
       exact bL<|dH<|cY<|bA<|mI r<|aN r (fY r r)<|sI r<|dT (fr':=[(1,aD),(4,aI),(36,aB)]) r<|e_l _ (sy h25) (bH [] 1 r r r r kU (cV r aC))
     ·
      refine iA<|cX<|cX<|fS ?_
      have h29:=eZ h20 ho19
      exact kI _ (sy h29) (bH [] 1 r r r r trivial (cV r aC))
    ·
     intro j18 hj30
     have h30:=mY hj30 h17
     refine cY<|aH<|sB r<|aG (fr':=[(2,aB)]) r r<|bJ ?_
     obtain rfl:=sy h30
     exact bI (rs':=[.tmp 2]) r<|bX (v:=aB) r<|bG<|aP [] r r r lr aC
noncomputable def aEE (p0v:aK):Option Bool:=lim fun n=>vM n p0v
theorem aK2 {p0v:aK}{z:Bool} (h:aEE p0v=some z):cR Tryz.prog 201 [.agg (AV.cs (fA p0v))] [] (.c (.bool z)) []:=by
 obtain ⟨n,hn⟩:=rI h
 exact (aKn n) hn
noncomputable def aAw (aID:aK→Option Int) (p0v:aK) (s4:(Int × Int)):Option (dU (Int × Int) Int) :=
 cond (decide (s4.2<((p0v.Items).length:Int))) ((mP p0v.Items s4.2).bind fun x6=>(aID x6).bind fun x8=>cond (decide (s4.1<x8)) (some (dU.next (x8,(IntKind.wrap .i64 (s4.2+1))))) (some (dU.next (s4.1,(IntKind.wrap .i64 (s4.2+1)))))) (some (dU.out s4.1))
noncomputable def vL:Nat→aK→Option Int
 | 0,_=>none
 | n+1,p0v =>
  (gL (aAw (vL n) p0v) ((0,0))).bind fun x1=>(some (IntKind.wrap .i64 (x1+1)))
theorem aKm:∀ n:Nat,(∀ {p0v:aK}{z:Int},vL n p0v=some z→cR Tryz.prog 202 [.agg (AV.cs (fA p0v))] [] (ci z) []):=by
 intro n
 induction n with
 | zero=>exact fun {p0v z} h=>absurd h (by simp [vL])
 | succ n ih =>
  have ih_ref02xDepth:=@ih
  intro p0v z h
  rw [vL] at h
  refine dQ (fn:=Tryz.f202) [0,1,2,3,4,5,10,21] (by kernel_rfl) Tryz.func202 r (by kernel_rfl) (by kernel_rfl)<|aH<|iR (v:=.agg cH) (n:=0) (cs:=cH) (σ':=[cH]) r r r r r<|sI r<|aG (fr':=[(1,aD)]) r r<|aH<|sI r<|aG (fr':=[(1,aD),(3,aI)]) r r<|aU<|aU<|bA<|sI r<|aG (fr':=[(1,aD),(3,aI),(4,aI)]) r r<|bx h fun x1 y1 h2=>gY kS (fun j3=>x1=j3) (fun (j3:Int)=>([(3,ci j3)]:Fr)) (fun (j3:Int)=>([[ci p0v.Kind,ci p0v.Int,.c (.str p0v.Text),.c (PV.ls 5 bO p0v.Items),.c (PV.ls 1 fZ p0v.Keys)]]:St)) ?_ ?_
  ·
   refine cE<|gU _ (fun (s4:(Int × Int))=>([(1,aD),(3,ci s4.1),(4,ci s4.2)]:Fr)) (fun (s4:(Int × Int))=>([[ci p0v.Kind,ci p0v.Int,.c (.str p0v.Text),.c (PV.ls 5 bO p0v.Items),.c (PV.ls 1 fZ p0v.Keys)]]:St)) y1 (bH [] 1 r r r r lG (cV r aC)) ?_
   intro s4 st4 hs4 ho4
   unfold aAw at hs4
   refine aU<|aH<|mI r<|aN r (bE iH r)<|aN r (aJ (v:=aL) nJ r r r)<|aN r (gQ vC (eD r))<|aN r (gC r r)<|aG (fr':=[(1,aD),(3,aI),(4,aI),(10,aB)]) r r<|cN hs4 r (fun b5 h5=>?_) (fun b5 h5=>?_)
   ·
    refine bL<|cY<|aU<|cE<|aH<|aN r (bE iH r)<|aN r (aJ (v:=aL) nJ r r r)<|mI r<|bx h5 fun x6 y6 h7=>aN r (lT (cs:=[PV.int _ _,PV.int _ _,PV.str _,PV.ls _ _ _,PV.ls _ _ _]) uW (eD r) r y6 (eA _))<|aN r (kT (us:=[PV.int _ _,PV.int _ _,PV.str _,PV.ls _ _ _,PV.ls _ _ _]) jC r r r)<|bx h7 fun x8 y8 h9=>kB (bC (v:=aI) r (ih_ref02xDepth y8) ⟨(bQ r zA),trivial⟩ r r r)<|sI r<|aG (fr':=[(1,aD),(3,aI),(4,aI),(5,aI)]) r r<|aH<|mI r<|mI r<|aN r (sP r r)<|aG (fr':=[(1,aD),(3,aI),(4,aI),(5,aI),(21,aB)]) r r<|cN h9 r (fun b10 h10=>?_) (fun b10 h10=>?_)
    ·
     exact bA<|mI r<|sI r<|dT (fr':=[(1,aD),(3,aI),(4,aI),(5,aI),(21,aB)]) r<|dH<|cY<|bA<|mI r<|aN r (fY r r)<|sI r<|dT (fr':=[(1,aD),(3,aI),(4,aI),(5,aI),(21,aB)]) r<|e_l _ (sy h10) (bH [] 1 r r r r lG (cV r aC))
    ·
     exact bL<|dH<|cY<|bA<|mI r<|aN r (fY r r)<|sI r<|dT (fr':=[(1,aD),(3,aI),(4,aI),(5,aI),(21,aB)]) r<|e_l _ (sy h10) (bH [] 1 r r r r lG (cV r aC))
   ·
    refine iA<|cX<|cX<|fS ?_
    have h11:=eZ h5 ho4
    exact kI _ (sy h11) (bH [] 1 r r r r ⟨lr,trivial⟩ (cV r aC))
  ·
   intro j3 hj12
   subst hj12
   refine cY<|aH<|mI r<|aN r (fY r r)<|sI r<|aG (fr':=[(2,aI)]) r r<|bJ ?_
   obtain rfl:=sy h2
   exact bI (rs':=[.tmp 2]) r<|bX (v:=aI) r<|bG<|aP [] r r r lr aC
noncomputable def aED (p0v:aK):Option Int:=lim fun n=>vL n p0v
theorem aK1 {p0v:aK}{z:Int} (h:aED p0v=some z):cR Tryz.prog 202 [.agg (AV.cs (fA p0v))] [] (ci z) []:=by
 obtain ⟨n,hn⟩:=rI h
 exact (aKm n) hn
noncomputable def aBb (aJW:aK→Option Int) (p0v:aK) (s4:(Int × Int)):Option (dU (Int × Int) Int) :=
 cond (decide (s4.2<((p0v.Items).length:Int))) ((mP p0v.Items s4.2).bind fun x6=>(aJW x6).bind fun x8=>some (dU.next ((IntKind.wrap .i64 (s4.1+x8)),(IntKind.wrap .i64 (s4.2+1))))) (some (dU.out s4.1))
noncomputable def xP:Nat→aK→Option Int
 | 0,_=>none
 | n+1,p0v =>
  (gL (aBb (xP n) p0v) ((1,0))).bind fun x1=>(some x1)
theorem aKX:∀ n:Nat,(∀ {p0v:aK}{z:Int},xP n p0v=some z→cR Tryz.prog 203 [.agg (AV.cs (fA p0v))] [] (ci z) []):=by
 intro n
 induction n with
 | zero=>exact fun {p0v z} h=>absurd h (by simp [xP])
 | succ n ih =>
  have ih_ref02xSize:=@ih
  intro p0v z h
  rw [xP] at h
  refine dQ (fn:=Tryz.f203) [0,1,2,3,4,9] (by kernel_rfl) Tryz.func203 r (by kernel_rfl) (by kernel_rfl)<|aH<|iR (v:=.agg cH) (n:=0) (cs:=cH) (σ':=[cH]) r r r r r<|sI r<|aG (fr':=[(1,aD)]) r r<|aH<|sI r<|aG (fr':=[(1,aD),(3,aI)]) r r<|aU<|aU<|bA<|sI r<|aG (fr':=[(1,aD),(3,aI),(4,aI)]) r r<|bx h fun x1 y1 h2=>gY kS (fun j3=>x1=j3) (fun (j3:Int)=>([(3,ci j3)]:Fr)) (fun (j3:Int)=>([[ci p0v.Kind,ci p0v.Int,.c (.str p0v.Text),.c (PV.ls 5 bO p0v.Items),.c (PV.ls 1 fZ p0v.Keys)]]:St)) ?_ ?_
  ·
   refine cE<|gU _ (fun (s4:(Int × Int))=>([(1,aD),(3,ci s4.1),(4,ci s4.2)]:Fr)) (fun (s4:(Int × Int))=>([[ci p0v.Kind,ci p0v.Int,.c (.str p0v.Text),.c (PV.ls 5 bO p0v.Items),.c (PV.ls 1 fZ p0v.Keys)]]:St)) y1 (bH [] 1 r r r r lG (cV r aC)) ?_
   intro s4 st4 hs4 ho4
   unfold aBb at hs4
   refine aU<|aH<|mI r<|aN r (bE iH r)<|aN r (aJ (v:=aL) nJ r r r)<|aN r (gQ vC (eD r))<|aN r (gC r r)<|aG (fr':=[(1,aD),(3,aI),(4,aI),(9,aB)]) r r<|cN hs4 r (fun b5 h5=>?_) (fun b5 h5=>?_)
   ·
    exact bL<|cY<|aU<|cE<|bA<|mI r<|aN r (bE iH r)<|aN r (aJ (v:=aL) nJ r r r)<|mI r<|bx h5 fun x6 y6 h7=>aN r (lT (cs:=[PV.int _ _,PV.int _ _,PV.str _,PV.ls _ _ _,PV.ls _ _ _]) uW (eD r) r y6 (eA _))<|aN r (kT (us:=[PV.int _ _,PV.int _ _,PV.str _,PV.ls _ _ _,PV.ls _ _ _]) jC r r r)<|bx h7 fun x8 y8 h9=>kB (bC (v:=aI) r (ih_ref02xSize y8) ⟨(bQ r zA),trivial⟩ r r r)<|aN r (fY r r)<|sI r<|dT (fr':=[(1,aD),(3,aI),(4,aI),(9,aB)]) r<|dH<|cY<|bA<|mI r<|aN r (fY r r)<|sI r<|dT (fr':=[(1,aD),(3,aI),(4,aI),(9,aB)]) r<|e_l _ (sy h9) (bH [] 1 r r r r lG (cV r aC))
   ·
    refine iA<|cX<|cX<|fS ?_
    have h10:=eZ h5 ho4
    exact kI _ (sy h10) (bH [] 1 r r r r ⟨lr,trivial⟩ (cV r aC))
  ·
   intro j3 hj11
   subst hj11
   refine cY<|aH<|mI r<|sI r<|aG (fr':=[(2,aI)]) r r<|bJ ?_
   obtain rfl:=sy h2
   exact bI (rs':=[.tmp 2]) r<|bX (v:=aI) r<|bG<|aP [] r r r lr aC
noncomputable def aFR (p0v:aK):Option Int:=lim fun n=>xP n p0v
theorem aMx {p0v:aK}{z:Int} (h:aFR p0v=some z):cR Tryz.prog 203 [.agg (AV.cs (fA p0v))] [] (ci z) []:=by
 obtain ⟨n,hn⟩:=rI h
 exact (aKX n) hn
noncomputable def aAA (p0v:aK):Option Bool :=
 (aEE p0v).bind fun x1=>(gd (x1==true) (aED p0v)).bind fun x3=>(gd ((cond x1 (decide (x3≤16)) false)==true) (aFR p0v)).bind fun x5=>some (cond (cond x1 (decide (x3≤16)) false) (decide (x5≤1000)) false)
theorem aKt {p0v:aK}{z:Bool} (h:aAA p0v=some z):cR Tryz.prog 169 [.agg (AV.cs (fA p0v))] [] (.c (.bool z)) []:=by
 unfold aAA at h
 refine dQ (fn:=Tryz.f169) [0,1,2] (by kernel_rfl) Tryz.func169 r (by kernel_rfl) (by kernel_rfl)<|aH<|iR (v:=.agg cH) (n:=0) (cs:=cH) (σ':=[cH]) r r r r r<|sB r<|aG (fr':=[(1,aD)]) r r<|aH<|aN r (dN (us:=cH) jC r r r r)<|bx h fun x1 y1 h2=>kB (bC (v:=aB) r (aK2 y1) ⟨(bQ r zA),trivial⟩ r r r)<|mB r<|og r r r (fun u=>(dN (us:=cH) jC r r r r))<|bx h2 fun x3 y3 h4=>uP r r (fun u=>bC (v:=aI) r (aK1 (cZ y3 u)) ⟨(fH (gx r u) (bQ r zA)),trivial⟩ (gO (by repeat (first | exact fC | refine aZ r ?_ | refine aZ (rG r) ?_ | refine aZ rF ?_))) r r) ?_
 refine og r r r (fun u=>(qH (gx r u) r))<|aN r (cB r r r (fun e=>fU e))<|mB r<|og r r r (fun u=>(dN (us:=cH) jC r r r r))<|bx h4 fun x5 y5 h6=>uP r r (fun u=>bC (v:=aI) r (aMx (cZ y5 u)) ⟨(fH (gx r u) (bQ r zA)),trivial⟩ (gO (by repeat (first | exact fC | refine aZ r ?_ | refine aZ (rG r) ?_ | refine aZ rF ?_))) r r) ?_
 refine og r r r (fun u=>(qH (gx r u) r))<|aN r (cB r r r (fun e=>fU e))<|sB r<|aG (fr':=[(2,aB)]) r r<|bJ ?_
 obtain rfl:=sy h6
 exact bI (rs':=[.tmp 2]) r<|bX (v:=aB) r<|bG<|aP [] r r r lr aC
noncomputable def zL (aHF:aK→Option Bool) (p0v:aK) (s4:Int):Option (dU Int (Fl Bool Unit)) :=
 cond (decide (s4<((p0v.Items).length:Int))) ((mP p0v.Items s4).bind fun x6=>(aHF x6).bind fun x8=>cond x8 (some (dU.out (Fl.done true))) (some (dU.next (IntKind.wrap .i64 (s4+1))))) (some (dU.out (Fl.go ())))
noncomputable def tW:Nat→aK→Option Bool
 | 0,_=>none
 | n+1,p0v =>
  (gL (zL (tW n) p0v) (0)).bind fun x1=>Fl.next x1 (fun j3=>(some (decide (p0v.Kind=6))))
theorem aIM:∀ n:Nat,(∀ {p0v:aK}{z:Bool},tW n p0v=some z→cR Tryz.prog 170 [.agg (AV.cs (fA p0v))] [] (.c (.bool z)) []):=by
 intro n
 induction n with
 | zero=>exact fun {p0v z} h=>absurd h (by simp [tW])
 | succ n ih =>
  have ih_ref02xFuture:=@ih
  intro p0v z h
  rw [tW] at h
  refine dQ (fn:=Tryz.f170) [0,1,2,3,8,16] (by kernel_rfl) Tryz.func170 r (by kernel_rfl) (by kernel_rfl)<|aH<|iR (v:=.agg cH) (n:=0) (cs:=cH) (σ':=[cH]) r r r r r<|sB r<|aG (fr':=[(1,aD)]) r r<|aU<|aH<|sI r<|aG (fr':=[(1,aD),(3,aI)]) r r<|bx h fun x1 y1 h2=>gY kS (fun j3=>x1=Fl.go j3) (fun (j3:Unit)=>([(1,aD)]:Fr)) (fun (j3:Unit)=>([[ci p0v.Kind,ci p0v.Int,.c (.str p0v.Text),.c (PV.ls 5 bO p0v.Items),.c (PV.ls 1 fZ p0v.Keys)]]:St)) ?_ ?_
  ·
   refine cE<|gU _ (fun (s4:Int)=>([(1,aD),(3,ci s4)]:Fr)) (fun (s4:Int)=>([[ci p0v.Kind,ci p0v.Int,.c (.str p0v.Text),.c (PV.ls 5 bO p0v.Items),.c (PV.ls 1 fZ p0v.Keys)]]:St)) y1 (bH [] 1 r r r r kU (cV r aC)) ?_
   intro s4 st4 hs4 ho4
   unfold zL at hs4
   refine aU<|aH<|mI r<|aN r (bE iH r)<|aN r (aJ (v:=aL) nJ r r r)<|aN r (gQ vC (eD r))<|aN r (gC r r)<|aG (fr':=[(1,aD),(3,aI),(8,aB)]) r r<|cN hs4 r (fun b5 h5=>?_) (fun b5 h5=>?_)
   ·
    refine bL<|cY<|aU<|cE<|aH<|aN r (bE iH r)<|aN r (aJ (v:=aL) nJ r r r)<|mI r<|bx h5 fun x6 y6 h7=>aN r (lT (cs:=[PV.int _ _,PV.int _ _,PV.str _,PV.ls _ _ _,PV.ls _ _ _]) uW (eD r) r y6 (eA _))<|aN r (kT (us:=[PV.int _ _,PV.int _ _,PV.str _,PV.ls _ _ _,PV.ls _ _ _]) jC r r r)<|bx h7 fun x8 y8 h9=>kB (bC (v:=aB) r (ih_ref02xFuture y8) ⟨(bQ r zA),trivial⟩ r r r)<|aG (fr':=[(1,aD),(3,aI),(16,aB)]) r r<|cN h9 r (fun b10 h10=>?_) (fun b10 h10=>?_)
    ·
     refine aH<|sB r<|aG (fr':=[(2,aB)]) r r<|bJ<|bM<|aQ<|aQ<|bM<|aQ<|aQ ?_
     have h11:=eZ h10 ho4
     have h12:=gT h11 h2
     obtain rfl:=sy h12
     exact bI (rs':=[.tmp 2]) r<|bX (v:=aB) r<|bG<|aP [] r r r lr aC
    ·
     exact bL<|dH<|cY<|bA<|mI r<|aN r (fY r r)<|sI r<|dT (fr':=[(1,aD),(3,aI),(16,aB)]) r<|e_l _ (sy h10) (bH [] 1 r r r r kU (cV r aC))
   ·
    refine iA<|cX<|cX<|fS ?_
    have h14:=eZ h5 ho4
    exact kI _ (sy h14) (bH [] 1 r r r r ⟨lr,trivial⟩ (cV r aC))
  ·
   intro j3 hj15
   have h15:=mY hj15 h2
   refine cY<|aH<|aN r (bE lU r)<|aN r (aJ (v:=aI) gA r r r)<|aN r (cC r r)<|sB r<|aG (fr':=[(2,aB)]) r r<|bJ ?_
   obtain rfl:=sy h15
   exact bI (rs':=[.tmp 2]) r<|bX (v:=aB) r<|bG<|aP [] r r r lr aC
noncomputable def aDK (p0v:aK):Option Bool:=lim fun n=>tW n p0v
theorem aKr {p0v:aK}{z:Bool} (h:aDK p0v=some z):cR Tryz.prog 170 [.agg (AV.cs (fA p0v))] [] (.c (.bool z)) []:=by
 obtain ⟨n,hn⟩:=rI h
 exact (aIM n) hn
noncomputable def tM (p0v:aK):Option Bool :=
 (yN p0v).bind fun x1=>(gd (x1==true) (aAA p0v)).bind fun x3=>(gd ((cond x1 x3 false)==true) (aDK p0v)).bind fun x5=>some (cond (cond x1 x3 false) (!x5) false)
theorem aBh {p0v:aK}{z:Bool} (h:tM p0v=some z):cR Tryz.prog 111 [.agg (AV.cs (fA p0v))] [] (.c (.bool z)) []:=by
 unfold tM at h
 refine dQ (fn:=Tryz.f111) [0,1,2] (by kernel_rfl) Tryz.func111 r (by kernel_rfl) (by kernel_rfl)<|aH<|iR (v:=.agg cH) (n:=0) (cs:=cH) (σ':=[cH]) r r r r r<|sB r<|aG (fr':=[(1,aD)]) r r<|aH<|aN r (dN (us:=cH) jC r r r r)<|bx h fun x1 y1 h2=>kB (bC (v:=aB) r (aCE y1) ⟨(bQ r zA),trivial⟩ r r r)<|mB r<|og r r r (fun u=>(dN (us:=cH) jC r r r r))<|bx h2 fun x3 y3 h4=>uP r r (fun u=>bC (v:=aB) r (aKt (cZ y3 u)) ⟨(fH (gx r u) (bQ r zA)),trivial⟩ (gO (by repeat (first | exact fC | refine aZ r ?_ | refine aZ (rG r) ?_ | refine aZ rF ?_))) r r) ?_
 refine aN r (cB r r r (fun e=>fU e))<|mB r<|og r r r (fun u=>(dN (us:=cH) jC r r r r))<|bx h4 fun x5 y5 h6=>uP r r (fun u=>bC (v:=aB) r (aKr (cZ y5 u)) ⟨(fH (gx r u) (bQ r zA)),trivial⟩ (gO (by repeat (first | exact fC | refine aZ r ?_ | refine aZ (rG r) ?_ | refine aZ rF ?_))) r r) ?_
 refine og r r r (fun u=>(fP (gx r u)))<|aN r (cB r r r (fun e=>fU e))<|sB r<|aG (fr':=[(2,aB)]) r r<|bJ ?_
 obtain rfl:=sy h6
 exact bI (rs':=[.tmp 2]) r<|bX (v:=aB) r<|bG<|aP [] r r r lr aC
noncomputable def aCk (dG:Int):Option gX :=
 cond (decide (dG=1)) (some (gX.mk false false true false true true true false)) (cond (decide (dG=2)) (some (gX.mk false false true false false false false false)) (((cond (decide (dG=3)) (some (decide (dG=3))) (cond (decide (dG=4)) (some (decide (dG=4))) (some (decide (dG=6))))):Option Bool).bind fun x5=>(cond x5 (some (gX.mk false true false false false false false false)) (cond (decide (dG=5)) (some (gX.mk false true false true false false false false)) (cond (decide (dG=8)) (some (gX.mk true true true false false false false false)) (((cond (decide (dG=9)) (some (decide (dG=9))) (cond (decide (dG=13)) (some (decide (dG=13))) (some (decide (dG=21))))):Option Bool).bind fun x17=>(cond x17 (some (gX.mk true true false false false false true false)) (((cond (decide (dG=10)) (some (decide (dG=10))) (some (decide (dG=22)))):Option Bool).bind fun x25=>(cond x25 (some (gX.mk true true false false true false true false)) (cond (decide (dG=11)) (some (gX.mk true true false true false false false false)) (((cond (decide (dG=15)) (some (decide (dG=15))) (cond (decide (dG=24)) (some (decide (dG=24))) (cond (decide (dG=12)) (some (decide (dG=12))) (some (decide (dG=16)))))):Option Bool).bind fun x34=>(cond x34 (some (gX.mk true true false false false false false false)) (cond (decide (dG=17)) (some (gX.mk false false false false true true true false)) (cond (decide (dG=20)) (some (gX.mk true true false false false true false false)) (cond (decide (dG=25)) (some (gX.mk true true false false true false false false)) (cond (decide (dG=26)) (some (gX.mk false false false false false true false false)) (cond (decide (dG=33)) (some (gX.mk false false false false true false false false)) (cond (decide (dG=7)) (some (gX.mk true false false false true false true true)) (cond (decide (dG=14)) (some (gX.mk true false true false false false false false)) (cond (decide (dG=19)) (some (gX.mk true false true false true true true false)) (cond (decide (dG=23)) (some (gX.mk true false false false true true true false)) (cond (decide (dG=18)) (some (gX.mk false false true false true false true false)) (cond (decide (dG=27)) (some (gX.mk false false false false true true true false)) (cond (decide (dG=28)) (some (gX.mk false false true false false true true false)) (cond (decide (dG=31)) (some (gX.mk false false false false true false true false)) (((cond (decide (dG=29)) (some (decide (dG=29))) (cond (decide (dG=30)) (some (decide (dG=30))) (cond (decide (dG=32)) (some (decide (dG=32))) (some (decide (dG=35)))))):Option Bool).bind fun x69=>(cond x69 (some (gX.mk false false false false false false true false)) (some (gX.mk false false false false false false false false)))))))))))))))))))))))))))))
theorem aMB {dG:Int}{z:gX} (h:aCk dG=some z):cR Tryz.prog 153 [ci dG] [] (.agg (AV.cs (aKa z))) []:=by
 unfold aCk at h
 refine dQ (fn:=Tryz.f153) [0,2,3,4,7,10,15,18,21,26,30,33,39,42,45,48,51,54,57,60,63,66,69,72,75,78] (by kernel_rfl) Tryz.func153 r (by kernel_rfl) (by kernel_rfl)<|aH<|jT (n:=0) (cs:=bF) (σ':=[bF]) aSM r r r<|aG (fr':=[(0,aI),(2,aD)]) r r<|aU<|aH<|mI r<|aG (fr':=[(2,aD),(3,aI)]) r r<|cE<|aU<|bA<|aN r (cC r r)<|sB r<|aG (fr':=[(2,aD),(3,aI),(4,aB)]) r r<|cN h r (fun b1 h1=>?_) (fun b1 h1=>?_)
 ·
  refine aH<|aN r (gD (cs:=bF) xB r)<|cD (v:=.agg bF) (us:=bF) (cs:=bF) (σ':=[bF]) r mD r r r r r r r r<|aG (fr':=[(2,aD)]) r r<|bJ<|bM<|aQ ?_
  obtain rfl:=sy h1
  exact bI (rs':=[.cell 2 154]) r<|eN (us:=bF) (cs:=bF) mD r r r r<|bG<|aP [] r r r (bQ r kR8) aC
 ·
  refine aH<|aN r (cC r r)<|sB r<|aG (fr':=[(2,aD),(3,aI),(7,aB)]) r r<|cN h1 r (fun b3 h3=>?_) (fun b3 h3=>?_)
  ·
   refine aH<|aN r (gD (cs:=bF) xB r)<|cD (v:=.agg bF) (us:=bF) (cs:=bF) (σ':=[bF]) r mD r r r r r r r r<|aG (fr':=[(2,aD)]) r r<|bJ<|bM<|aQ ?_
   obtain rfl:=sy h3
   exact bI (rs':=[.cell 2 154]) r<|eN (us:=bF) (cs:=bF) mD r r r r<|bG<|aP [] r r r (bQ r kR8) aC
  ·
   obtain ⟨x5,y5,h6⟩:=lB h3
   refine jR (fun j7=>x5=j7) (fun (j7:Bool)=>([(2,aD),(3,ci dG),(10,.c (.bool j7))]:Fr)) (fun (j7:Bool)=>([[.c (.bool false),.c (.bool false),.c (.bool false),.c (.bool false),.c (.bool false),.c (.bool false),.c (.bool false),.c (.bool false)]]:St)) ?_ ?_
   ·
    refine aH<|aN r (cC r r)<|sB r<|aG (fr':=[(2,aD),(3,aI),(10,aB)]) r r<|cN y5 r (fun b8 h8=>?_) (fun b8 h8=>?_)
    ·
     exact bL<|kI _ (sy h8) (bH [] 1 r r r r lG (cV r aC))
    ·
     refine aH<|aN r (cC r r)<|sB r<|aG (fr':=[(2,aD),(3,aI),(10,aB)]) r r<|cN h8 r (fun b9 h9=>?_) (fun b9 h9=>?_)
     ·
      exact bL<|kI _ (sy h9) (bH [] 1 r r r r lG (cV r aC))
     ·
      exact bA<|aN r (cC r r)<|sB r<|dT (fr':=[(2,aD),(3,aI),(10,aB)]) r<|kI _ (sy h9) (bH [] 1 r r r r lG (cV r aC))
   ·
    intro j7 hj10
    subst hj10
    refine cN h6 r (fun b11 h11=>?_) (fun b11 h11=>?_)
    ·
     refine aH<|aN r (gD (cs:=bF) xB r)<|cD (v:=.agg bF) (us:=bF) (cs:=bF) (σ':=[bF]) r mD r r r r r r r r<|aG (fr':=[(2,aD)]) r r<|bJ<|bM<|aQ ?_
     obtain rfl:=sy h11
     exact bI (rs':=[.cell 2 154]) r<|eN (us:=bF) (cs:=bF) mD r r r r<|bG<|aP [] r r r (bQ r kR8) aC
    ·
     refine aH<|aN r (cC r r)<|sB r<|aG (fr':=[(2,aD),(3,aI),(15,aB)]) r r<|cN h11 r (fun b13 h13=>?_) (fun b13 h13=>?_)
     ·
      refine aH<|aN r (gD (cs:=bF) xB r)<|cD (v:=.agg bF) (us:=bF) (cs:=bF) (σ':=[bF]) r mD r r r r r r r r<|aG (fr':=[(2,aD)]) r r<|bJ<|bM<|aQ ?_
      obtain rfl:=sy h13
      exact bI (rs':=[.cell 2 154]) r<|eN (us:=bF) (cs:=bF) mD r r r r<|bG<|aP [] r r r (bQ r kR8) aC
     ·
      refine aH<|aN r (cC r r)<|sB r<|aG (fr':=[(2,aD),(3,aI),(18,aB)]) r r<|cN h13 r (fun b15 h15=>?_) (fun b15 h15=>?_)
      ·
       refine aH<|aN r (gD (cs:=bF) xB r)<|cD (v:=.agg bF) (us:=bF) (cs:=bF) (σ':=[bF]) r mD r r r r r r r r<|aG (fr':=[(2,aD)]) r r<|bJ<|bM<|aQ ?_
       obtain rfl:=sy h15
       exact bI (rs':=[.cell 2 154]) r<|eN (us:=bF) (cs:=bF) mD r r r r<|bG<|aP [] r r r (bQ r kR8) aC
      ·
       obtain ⟨x17,y17,h18⟩:=lB h15
       refine jR (fun j19=>x17=j19) (fun (j19:Bool)=>([(2,aD),(3,ci dG),(21,.c (.bool j19))]:Fr)) (fun (j19:Bool)=>([[.c (.bool false),.c (.bool false),.c (.bool false),.c (.bool false),.c (.bool false),.c (.bool false),.c (.bool false),.c (.bool false)]]:St)) ?_ ?_
       ·
        refine aH<|aN r (cC r r)<|sB r<|aG (fr':=[(2,aD),(3,aI),(21,aB)]) r r<|cN y17 r (fun b20 h20=>?_) (fun b20 h20=>?_)
        ·
         exact bL<|kI _ (sy h20) (bH [] 1 r r r r lG (cV r aC))
        ·
         refine aH<|aN r (cC r r)<|sB r<|aG (fr':=[(2,aD),(3,aI),(21,aB)]) r r<|cN h20 r (fun b21 h21=>?_) (fun b21 h21=>?_)
         ·
          exact bL<|kI _ (sy h21) (bH [] 1 r r r r lG (cV r aC))
         ·
          exact bA<|aN r (cC r r)<|sB r<|dT (fr':=[(2,aD),(3,aI),(21,aB)]) r<|kI _ (sy h21) (bH [] 1 r r r r lG (cV r aC))
       ·
        intro j19 hj22
        subst hj22
        refine cN h18 r (fun b23 h23=>?_) (fun b23 h23=>?_)
        ·
         refine aH<|aN r (gD (cs:=bF) xB r)<|cD (v:=.agg bF) (us:=bF) (cs:=bF) (σ':=[bF]) r mD r r r r r r r r<|aG (fr':=[(2,aD)]) r r<|bJ<|bM<|aQ ?_
         obtain rfl:=sy h23
         exact bI (rs':=[.cell 2 154]) r<|eN (us:=bF) (cs:=bF) mD r r r r<|bG<|aP [] r r r (bQ r kR8) aC
        ·
         obtain ⟨x25,y25,h26⟩:=lB h23
         refine jR (fun j27=>x25=j27) (fun (j27:Bool)=>([(2,aD),(3,ci dG),(26,.c (.bool j27))]:Fr)) (fun (j27:Bool)=>([[.c (.bool false),.c (.bool false),.c (.bool false),.c (.bool false),.c (.bool false),.c (.bool false),.c (.bool false),.c (.bool false)]]:St)) ?_ ?_
         ·
          refine aH<|aN r (cC r r)<|sB r<|aG (fr':=[(2,aD),(3,aI),(26,aB)]) r r<|cN y25 r (fun b28 h28=>?_) (fun b28 h28=>?_)
          ·
           exact bL<|kI _ (sy h28) (bH [] 1 r r r r lG (cV r aC))
          ·
           exact bA<|aN r (cC r r)<|sB r<|dT (fr':=[(2,aD),(3,aI),(26,aB)]) r<|kI _ (sy h28) (bH [] 1 r r r r lG (cV r aC))
         ·
          intro j27 hj29
          subst hj29
          refine cN h26 r (fun b30 h30=>?_) (fun b30 h30=>?_)
          ·
           refine aH<|aN r (gD (cs:=bF) xB r)<|cD (v:=.agg bF) (us:=bF) (cs:=bF) (σ':=[bF]) r mD r r r r r r r r<|aG (fr':=[(2,aD)]) r r<|bJ<|bM<|aQ ?_
           obtain rfl:=sy h30
           exact bI (rs':=[.cell 2 154]) r<|eN (us:=bF) (cs:=bF) mD r r r r<|bG<|aP [] r r r (bQ r kR8) aC
          ·
           refine aH<|aN r (cC r r)<|sB r<|aG (fr':=[(2,aD),(3,aI),(30,aB)]) r r<|cN h30 r (fun b32 h32=>?_) (fun b32 h32=>?_)
           ·
            refine aH<|aN r (gD (cs:=bF) xB r)<|cD (v:=.agg bF) (us:=bF) (cs:=bF) (σ':=[bF]) r mD r r r r r r r r<|aG (fr':=[(2,aD)]) r r<|bJ<|bM<|aQ ?_
            obtain rfl:=sy h32
            exact bI (rs':=[.cell 2 154]) r<|eN (us:=bF) (cs:=bF) mD r r r r<|bG<|aP [] r r r (bQ r kR8) aC
           ·
            obtain ⟨x34,y34,h35⟩:=lB h32
            refine jR (fun j36=>x34=j36) (fun (j36:Bool)=>([(2,aD),(3,ci dG),(33,.c (.bool j36))]:Fr)) (fun (j36:Bool)=>([[.c (.bool false),.c (.bool false),.c (.bool false),.c (.bool false),.c (.bool false),.c (.bool false),.c (.bool false),.c (.bool false)]]:St)) ?_ ?_
            ·
             refine aH<|aN r (cC r r)<|sB r<|aG (fr':=[(2,aD),(3,aI),(33,aB)]) r r<|cN y34 r (fun b37 h37=>?_) (fun b37 h37=>?_)
             ·
              exact bL<|kI _ (sy h37) (bH [] 1 r r r r lG (cV r aC))
             ·
              refine aH<|aN r (cC r r)<|sB r<|aG (fr':=[(2,aD),(3,aI),(33,aB)]) r r<|cN h37 r (fun b38 h38=>?_) (fun b38 h38=>?_)
              ·
               exact bL<|kI _ (sy h38) (bH [] 1 r r r r lG (cV r aC))
              ·
               refine aH<|aN r (cC r r)<|sB r<|aG (fr':=[(2,aD),(3,aI),(33,aB)]) r r<|cN h38 r (fun b39 h39=>?_) (fun b39 h39=>?_)
               ·
                exact bL<|kI _ (sy h39) (bH [] 1 r r r r lG (cV r aC))
               ·
                exact bA<|aN r (cC r r)<|sB r<|dT (fr':=[(2,aD),(3,aI),(33,aB)]) r<|kI _ (sy h39) (bH [] 1 r r r r lG (cV r aC))
            ·
             intro j36 hj40
             subst hj40
             refine cN h35 r (fun b41 h41=>?_) (fun b41 h41=>?_)
             ·
              refine aH<|aN r (gD (cs:=bF) xB r)<|cD (v:=.agg bF) (us:=bF) (cs:=bF) (σ':=[bF]) r mD r r r r r r r r<|aG (fr':=[(2,aD)]) r r<|bJ<|bM<|aQ ?_
              obtain rfl:=sy h41
              exact bI (rs':=[.cell 2 154]) r<|eN (us:=bF) (cs:=bF) mD r r r r<|bG<|aP [] r r r (bQ r kR8) aC
             ·
              refine aH<|aN r (cC r r)<|sB r<|aG (fr':=[(2,aD),(3,aI),(39,aB)]) r r<|cN h41 r (fun b43 h43=>?_) (fun b43 h43=>?_)
              ·
               refine aH<|aN r (gD (cs:=bF) xB r)<|cD (v:=.agg bF) (us:=bF) (cs:=bF) (σ':=[bF]) r mD r r r r r r r r<|aG (fr':=[(2,aD)]) r r<|bJ<|bM<|aQ ?_
               obtain rfl:=sy h43
               exact bI (rs':=[.cell 2 154]) r<|eN (us:=bF) (cs:=bF) mD r r r r<|bG<|aP [] r r r (bQ r kR8) aC
              ·
               refine aH<|aN r (cC r r)<|sB r<|aG (fr':=[(2,aD),(3,aI),(42,aB)]) r r<|cN h43 r (fun b45 h45=>?_) (fun b45 h45=>?_)
               ·
                refine aH<|aN r (gD (cs:=bF) xB r)<|cD (v:=.agg bF) (us:=bF) (cs:=bF) (σ':=[bF]) r mD r r r r r r r r<|aG (fr':=[(2,aD)]) r r<|bJ<|bM<|aQ ?_
                obtain rfl:=sy h45
                exact bI (rs':=[.cell 2 154]) r<|eN (us:=bF) (cs:=bF) mD r r r r<|bG<|aP [] r r r (bQ r kR8) aC
               ·
                refine aH<|aN r (cC r r)<|sB r<|aG (fr':=[(2,aD),(3,aI),(45,aB)]) r r<|cN h45 r (fun b47 h47=>?_) (fun b47 h47=>?_)
                ·
                 refine aH<|aN r (gD (cs:=bF) xB r)<|cD (v:=.agg bF) (us:=bF) (cs:=bF) (σ':=[bF]) r mD r r r r r r r r<|aG (fr':=[(2,aD)]) r r<|bJ<|bM<|aQ ?_
                 obtain rfl:=sy h47
                 exact bI (rs':=[.cell 2 154]) r<|eN (us:=bF) (cs:=bF) mD r r r r<|bG<|aP [] r r r (bQ r kR8) aC
                ·
                 refine aH<|aN r (cC r r)<|sB r<|aG (fr':=[(2,aD),(3,aI),(48,aB)]) r r<|cN h47 r (fun b49 h49=>?_) (fun b49 h49=>?_)
                 ·
                  refine aH<|aN r (gD (cs:=bF) xB r)<|cD (v:=.agg bF) (us:=bF) (cs:=bF) (σ':=[bF]) r mD r r r r r r r r<|aG (fr':=[(2,aD)]) r r<|bJ<|bM<|aQ ?_
                  obtain rfl:=sy h49
                  exact bI (rs':=[.cell 2 154]) r<|eN (us:=bF) (cs:=bF) mD r r r r<|bG<|aP [] r r r (bQ r kR8) aC
                 ·
                  refine aH<|aN r (cC r r)<|sB r<|aG (fr':=[(2,aD),(3,aI),(51,aB)]) r r<|cN h49 r (fun b51 h51=>?_) (fun b51 h51=>?_)
                  ·
                   refine aH<|aN r (gD (cs:=bF) xB r)<|cD (v:=.agg bF) (us:=bF) (cs:=bF) (σ':=[bF]) r mD r r r r r r r r<|aG (fr':=[(2,aD)]) r r<|bJ<|bM<|aQ ?_
                   obtain rfl:=sy h51
                   exact bI (rs':=[.cell 2 154]) r<|eN (us:=bF) (cs:=bF) mD r r r r<|bG<|aP [] r r r (bQ r kR8) aC
                  ·
                   refine aH<|aN r (cC r r)<|sB r<|aG (fr':=[(2,aD),(3,aI),(54,aB)]) r r<|cN h51 r (fun b53 h53=>?_) (fun b53 h53=>?_)
                   ·
                    refine aH<|aN r (gD (cs:=bF) xB r)<|cD (v:=.agg bF) (us:=bF) (cs:=bF) (σ':=[bF]) r mD r r r r r r r r<|aG (fr':=[(2,aD)]) r r<|bJ<|bM<|aQ ?_
                    obtain rfl:=sy h53
                    exact bI (rs':=[.cell 2 154]) r<|eN (us:=bF) (cs:=bF) mD r r r r<|bG<|aP [] r r r (bQ r kR8) aC
                   ·
                    refine aH<|aN r (cC r r)<|sB r<|aG (fr':=[(2,aD),(3,aI),(57,aB)]) r r<|cN h53 r (fun b55 h55=>?_) (fun b55 h55=>?_)
                    ·
                     refine aH<|aN r (gD (cs:=bF) xB r)<|cD (v:=.agg bF) (us:=bF) (cs:=bF) (σ':=[bF]) r mD r r r r r r r r<|aG (fr':=[(2,aD)]) r r<|bJ<|bM<|aQ ?_
                     obtain rfl:=sy h55
                     exact bI (rs':=[.cell 2 154]) r<|eN (us:=bF) (cs:=bF) mD r r r r<|bG<|aP [] r r r (bQ r kR8) aC
                    ·
                     refine aH<|aN r (cC r r)<|sB r<|aG (fr':=[(2,aD),(3,aI),(60,aB)]) r r<|cN h55 r (fun b57 h57=>?_) (fun b57 h57=>?_)
                     ·
                      refine aH<|aN r (gD (cs:=bF) xB r)<|cD (v:=.agg bF) (us:=bF) (cs:=bF) (σ':=[bF]) r mD r r r r r r r r<|aG (fr':=[(2,aD)]) r r<|bJ<|bM<|aQ ?_
                      obtain rfl:=sy h57
                      exact bI (rs':=[.cell 2 154]) r<|eN (us:=bF) (cs:=bF) mD r r r r<|bG<|aP [] r r r (bQ r kR8) aC
                     ·
                      refine aH<|aN r (cC r r)<|sB r<|aG (fr':=[(2,aD),(3,aI),(63,aB)]) r r<|cN h57 r (fun b59 h59=>?_) (fun b59 h59=>?_)
                      ·
                       refine aH<|aN r (gD (cs:=bF) xB r)<|cD (v:=.agg bF) (us:=bF) (cs:=bF) (σ':=[bF]) r mD r r r r r r r r<|aG (fr':=[(2,aD)]) r r<|bJ<|bM<|aQ ?_
                       obtain rfl:=sy h59
                       exact bI (rs':=[.cell 2 154]) r<|eN (us:=bF) (cs:=bF) mD r r r r<|bG<|aP [] r r r (bQ r kR8) aC
                      ·
                       refine aH<|aN r (cC r r)<|sB r<|aG (fr':=[(2,aD),(3,aI),(66,aB)]) r r<|cN h59 r (fun b61 h61=>?_) (fun b61 h61=>?_)
                       ·
                        refine aH<|aN r (gD (cs:=bF) xB r)<|cD (v:=.agg bF) (us:=bF) (cs:=bF) (σ':=[bF]) r mD r r r r r r r r<|aG (fr':=[(2,aD)]) r r<|bJ<|bM<|aQ ?_
                        obtain rfl:=sy h61
                        exact bI (rs':=[.cell 2 154]) r<|eN (us:=bF) (cs:=bF) mD r r r r<|bG<|aP [] r r r (bQ r kR8) aC
                       ·
                        refine aH<|aN r (cC r r)<|sB r<|aG (fr':=[(2,aD),(3,aI),(69,aB)]) r r<|cN h61 r (fun b63 h63=>?_) (fun b63 h63=>?_)
                        ·
                         refine aH<|aN r (gD (cs:=bF) xB r)<|cD (v:=.agg bF) (us:=bF) (cs:=bF) (σ':=[bF]) r mD r r r r r r r r<|aG (fr':=[(2,aD)]) r r<|bJ<|bM<|aQ ?_
                         obtain rfl:=sy h63
                         exact bI (rs':=[.cell 2 154]) r<|eN (us:=bF) (cs:=bF) mD r r r r<|bG<|aP [] r r r (bQ r kR8) aC
                        ·
                         refine aH<|aN r (cC r r)<|sB r<|aG (fr':=[(2,aD),(3,aI),(72,aB)]) r r<|cN h63 r (fun b65 h65=>?_) (fun b65 h65=>?_)
                         ·
                          refine aH<|aN r (gD (cs:=bF) xB r)<|cD (v:=.agg bF) (us:=bF) (cs:=bF) (σ':=[bF]) r mD r r r r r r r r<|aG (fr':=[(2,aD)]) r r<|bJ<|bM<|aQ ?_
                          obtain rfl:=sy h65
                          exact bI (rs':=[.cell 2 154]) r<|eN (us:=bF) (cs:=bF) mD r r r r<|bG<|aP [] r r r (bQ r kR8) aC
                         ·
                          refine aH<|aN r (cC r r)<|sB r<|aG (fr':=[(2,aD),(3,aI),(75,aB)]) r r<|cN h65 r (fun b67 h67=>?_) (fun b67 h67=>?_)
                          ·
                           refine aH<|aN r (gD (cs:=bF) xB r)<|cD (v:=.agg bF) (us:=bF) (cs:=bF) (σ':=[bF]) r mD r r r r r r r r<|aG (fr':=[(2,aD)]) r r<|bJ<|bM<|aQ ?_
                           obtain rfl:=sy h67
                           exact bI (rs':=[.cell 2 154]) r<|eN (us:=bF) (cs:=bF) mD r r r r<|bG<|aP [] r r r (bQ r kR8) aC
                          ·
                           obtain ⟨x69,y69,h70⟩:=lB h67
                           refine jR (fun j71=>x69=j71) (fun (j71:Bool)=>([(2,aD),(78,.c (.bool j71))]:Fr)) (fun (j71:Bool)=>([[.c (.bool false),.c (.bool false),.c (.bool false),.c (.bool false),.c (.bool false),.c (.bool false),.c (.bool false),.c (.bool false)]]:St)) ?_ ?_
                           ·
                            refine aH<|aN r (cC r r)<|sB r<|aG (fr':=[(2,aD),(3,aI),(78,aB)]) r r<|cN y69 r (fun b72 h72=>?_) (fun b72 h72=>?_)
                            ·
                             exact bL<|kI _ (sy h72) (bH [] 1 r r r r kU (cV r aC))
                            ·
                             refine aH<|aN r (cC r r)<|sB r<|aG (fr':=[(2,aD),(3,aI),(78,aB)]) r r<|cN h72 r (fun b73 h73=>?_) (fun b73 h73=>?_)
                             ·
                              exact bL<|kI _ (sy h73) (bH [] 1 r r r r kU (cV r aC))
                             ·
                              refine aH<|aN r (cC r r)<|sB r<|aG (fr':=[(2,aD),(3,aI),(78,aB)]) r r<|cN h73 r (fun b74 h74=>?_) (fun b74 h74=>?_)
                              ·
                               exact bL<|kI _ (sy h74) (bH [] 1 r r r r kU (cV r aC))
                              ·
                               exact bA<|aN r (cC r r)<|sB r<|dT (fr':=[(2,aD),(3,aI),(78,aB)]) r<|kI _ (sy h74) (bH [] 1 r r r r kU (cV r aC))
                           ·
                            intro j71 hj75
                            subst hj75
                            refine cN h70 r (fun b76 h76=>?_) (fun b76 h76=>?_)
                            ·
                             refine aH<|aN r (gD (cs:=bF) xB r)<|cD (v:=.agg bF) (us:=bF) (cs:=bF) (σ':=[bF]) r mD r r r r r r r r<|aG (fr':=[(2,aD)]) r r<|bJ<|bM<|aQ ?_
                             obtain rfl:=sy h76
                             exact bI (rs':=[.cell 2 154]) r<|eN (us:=bF) (cs:=bF) mD r r r r<|bG<|aP [] r r r (bQ r kR8) aC
                            ·
                             refine bL<|dH<|cY<|aH<|aN r (gD (cs:=bF) xB r)<|cD (v:=.agg bF) (us:=bF) (cs:=bF) (σ':=[bF]) r mD r r r r r r r r<|aG (fr':=[(2,aD)]) r r<|bJ ?_
                             obtain rfl:=sy h76
                             exact bI (rs':=[.cell 2 154]) r<|eN (us:=bF) (cs:=bF) mD r r r r<|bG<|aP [] r r r (bQ r kR8) aC
