import Derived.Test.YtnigjppddilpcaaGreatDoorGETy
namespace Go.Proofs.YtnigjppddilpcaaGreatDoor
open Go Abs
set_option maxRecDepth 100000
set_option linter.unusedVariables false
set_option linter.unusedSimpArgs false
noncomputable def aAv (p0n:Int):Option Int :=
 cond (decide (0≤p0n)) (some (IntKind.wrap .u64 (2*(IntKind.wrap .u64 p0n)))) (some (IntKind.wrap .u64 ((IntKind.wrap .u64 (2*(IntKind.wrap .u64 (IntKind.wrap .i64 (0 - (IntKind.wrap .i64 (p0n+1)))))))+1)))
theorem aKq {p0n:Int}{z:Int} (h:aAv p0n=some z):cR Tryz.prog 132 [ci p0n] [] (.c (.int .u64 z)) []:=by
 unfold aAv at h
 refine dQ (fn:=Tryz.f132) [0,2,4] (by kernel_rfl) Tryz.func132 r (by kernel_rfl) (by kernel_rfl)<|aH<|sI r<|aG (fr':=[(0,aI)]) r r<|aU<|aH<|mI r<|aN r (qR r r)<|aG (fr':=[(0,aI),(4,aB)]) r r<|cN h r (fun b1 h1=>?_) (fun b1 h1=>?_)
 ·
  refine aH<|mI r<|aN r (aAZ tk3 aEP r)<|aN r (aPQ r r)<|sI r<|aG (fr':=[(2,aI)]) r r<|bJ<|aQ ?_
  obtain rfl:=sy h1
  exact bI (rs':=[.tmp 2]) r<|bX (v:=aI) r<|bG<|aP [] r r r lr aC
 ·
  refine bL<|cY<|aH<|mI r<|aN r (fY r r)<|aN r (aPR r)<|aN r (aAZ tk3 aEP r)<|aN r (aPQ r r)<|aN r (fY r r)<|sI r<|aG (fr':=[(2,aI)]) r r<|bJ ?_
  obtain rfl:=sy h1
  exact bI (rs':=[.tmp 2]) r<|bX (v:=aI) r<|bG<|aP [] r r r lr aC
noncomputable def zK  (s8:((List UInt8) × Int)):Option (dU ((List UInt8) × Int) ((List UInt8) × Int)) :=
 cond (decide (127<s8.2)) ((aBy (IntKind.wrap .u8 (IntKind.wrap .u64 ((Int.tmod s8.2 128)+128)))).bind fun x10=>(app 1 s8.1 ([x10]:List UInt8)).bind fun x12=>some (dU.next (x12,(IntKind.wrap .u64 (Int.tdiv s8.2 128))))) (some (dU.out (s8.1,s8.2)))
noncomputable def jB (p0b:(List UInt8)) (p1n:Int):Option (List UInt8) :=
 (app 1 ([]:List UInt8) p0b).bind fun x1=>(aAv p1n).bind fun x3=>(gL (zK) ((x1,x3))).bind fun x5=>((aBy (IntKind.wrap .u8 x5.2)).bind fun x16=>(app 1 x5.1 ([x16]:List UInt8)).bind fun x18=>some x18)
theorem nN {p0b:(List UInt8)}{p1n:Int}{z:(List UInt8)} (h:jB p0b p1n=some z):cR Tryz.prog 57 [.c (PV.ls 1 hF p0b),ci p1n] [] (AV.os 0 1 hF z) []:=by
 unfold jB at h
 refine dQ (fn:=Tryz.f57) [0,1,4,5,6,13] (by kernel_rfl) Tryz.func57 r (by kernel_rfl) (by kernel_rfl)<|aH<|sV (v:=AV.nil) r<|aG (fr':=[(0,aL),(1,aI)]) r r<|aH<|sW (row:=hF) (xs:=([]:List UInt8)) (rows:=[]) (σ':=[]) [0] aCu r r r mX r r<|mL r<|bx h fun x1 y1 h2=>aDg (row:=hF) aCu r aFi r (eD r) (fun _=>r) y1<|sV (v:=aO) r<|aG (fr':=[(1,aI),(5,aO)]) r r<|aH<|mI r<|bx h2 fun x3 y3 h4=>kB (bC (v:=aI) r (aKq y3) ⟨lr,trivial⟩ r r r)<|sI r<|aG (fr':=[(5,aO),(6,aI)]) r r<|bx h4 fun x5 y5 h6=>jR (fun j7=>x5=j7) (fun (j7:((List UInt8) × Int))=>([(5,AV.os 0 1 hF j7.1),(6,.c (.int .u64 j7.2))]:Fr)) (fun (j7:((List UInt8) × Int))=>([]:St)) ?_ ?_
 ·
  refine cE<|gU _ (fun (s8:((List UInt8) × Int))=>([(5,AV.os 0 1 hF s8.1),(6,.c (.int .u64 s8.2))]:Fr)) (fun (s8:((List UInt8) × Int))=>([]:St)) y5 (bH [144] 0 r r r r kU aC) ?_
  intro s8 st8 hs8 ho8
  unfold zK at hs8
  refine aU<|aH<|mI r<|aN r (sP r r)<|aG (fr':=[(5,aO),(6,aI),(13,aB)]) r r<|cN hs8 r (fun b9 h9=>?_) (fun b9 h9=>?_)
  ·
   exact bL<|cY<|cE<|aH<|mV (v:=aO) r<|mI r<|aN r (aUk r r (by decide))<|aN r (fY r r)<|aN r (aAZ aEP tk5 r)<|bx h9 fun x10 y10 h11=>sW (row:=hF) (xs:=([x10]:List UInt8)) (rows:=[[_]]) (σ':=[]) [0] aCu r r r (eI (aE5 y10) mX) r r<|bx h11 fun x12 y12 h13=>aDg (row:=hF) aCu r aFi r (rQ r) (fun _=>r) y12<|sV (v:=aO) r<|aG (fr':=[(5,aO),(6,aI)]) r r<|bA<|mI r<|aN r (aUj r r (by decide))<|sI r<|dT (fr':=[(5,aO),(6,aI)]) r<|dH<|e_l _ (sy h13) (bH [320] 0 r r r r kU aC)
  ·
   refine iA<|cX<|cX<|fS ?_
   have h14:=eZ h9 ho8
   exact kI _ (sy h14) (bH [0] 0 r r r r kU aC)
 ·
  intro j7 hj15
  subst hj15
  refine aH<|mV (v:=aO) r<|mI r<|aN r (aAZ aEP tk5 r)<|bx h6 fun x16 y16 h17=>sW (row:=hF) (xs:=([x16]:List UInt8)) (rows:=[[_]]) (σ':=[]) [0] aCu r r r (eI (aE5 y16) mX) r r<|bx h17 fun x18 y18 h19=>aDg (row:=hF) aCu r aFi r (rQ r) (fun _=>r) y18<|sV (v:=aO) r<|aG (fr':=[(5,aO)]) r r<|aH<|mV (v:=aO) r<|sV (v:=aO) r<|aG (fr':=[(4,aO)]) r r<|bJ ?_
  obtain rfl:=sy h19
  exact bI (rs':=[.tmp 4]) r<|bX (v:=aO) r<|bG<|aP [432] r r r lr aC
noncomputable def yL (p1s:(List UInt8)) (s6:((List UInt8) × Int)):Option (dU ((List UInt8) × Int) (List UInt8)) :=
 cond (decide (s6.2<((p1s).length:Int))) ((mP p1s s6.2).bind fun x8=>(aBy ((x8).toNat:Int)).bind fun x10=>(app 1 s6.1 ([x10]:List UInt8)).bind fun x12=>some (dU.next (x12,(IntKind.wrap .i64 (s6.2+1))))) (some (dU.out s6.1))
noncomputable def kH (p0b:(List UInt8)) (p1s:(List UInt8)):Option (List UInt8) :=
 (jB p0b ((p1s).length:Int)).bind fun x1=>(gL (yL p1s) ((x1,0))).bind fun x3=>(some x3)
theorem rB {p0b:(List UInt8)}{p1s:(List UInt8)}{z:(List UInt8)} (h:kH p0b p1s=some z):cR Tryz.prog 58 [.c (PV.ls 1 hF p0b),.c (.str p1s)] [] (AV.os 0 1 hF z) []:=by
 unfold kH at h
 refine dQ (fn:=Tryz.f58) [0,1,4,5,6,14] (by kernel_rfl) Tryz.func58 r (by kernel_rfl) (by kernel_rfl)<|aH<|sV (v:=AV.nil) r<|aG (fr':=[(0,aL),(1,aS)]) r r<|aH<|mL r<|mS r<|aN r (kV uD r)<|bx h fun x1 y1 h2=>kB (bC (v:=aO) r (nN y1) kU r r r)<|sV (v:=aO) r<|aG (fr':=[(1,aS),(5,aO)]) r r<|aU<|aH<|sI r<|aG (fr':=[(1,aS),(5,aO),(6,aI)]) r r<|bx h2 fun x3 y3 h4=>gY kS (fun j5=>x3=j5) (fun (j5:(List UInt8))=>([(5,AV.os 0 1 hF j5)]:Fr)) (fun (j5:(List UInt8))=>([]:St)) ?_ ?_
 ·
  refine cE<|gU _ (fun (s6:((List UInt8) × Int))=>([(1,.c (.str p1s)),(5,AV.os 0 1 hF s6.1),(6,ci s6.2)]:Fr)) (fun (s6:((List UInt8) × Int))=>([]:St)) y3 (bH [160] 0 r r r r lG aC) ?_
  intro s6 st6 hs6 ho6
  unfold yL at hs6
  refine aU<|aH<|mI r<|mS r<|aN r (kV uD r)<|aN r (gC r r)<|aG (fr':=[(1,aS),(5,aO),(6,aI),(14,aB)]) r r<|cN hs6 r (fun b7 h7=>?_) (fun b7 h7=>?_)
  ·
   exact bL<|cY<|aU<|cE<|bA<|mV (v:=aO) r<|mS r<|mI r<|bx h7 fun x8 y8 h9=>aN r (aAU uD r r y8)<|bx h9 fun x10 y10 h11=>sW (row:=hF) (xs:=([x10]:List UInt8)) (rows:=[[_]]) (σ':=[]) [0] aCu r r r (eI (aE5 y10) mX) r r<|bx h11 fun x12 y12 h13=>aDg (row:=hF) aCu r aFi r (rQ r) (fun _=>r) y12<|sV (v:=aO) r<|dT (fr':=[(1,aS),(5,aO),(6,aI),(14,aB)]) r<|dH<|cY<|bA<|mI r<|aN r (fY r r)<|sI r<|dT (fr':=[(1,aS),(5,aO),(6,aI),(14,aB)]) r<|e_l _ (sy h13) (bH [352] 0 r r r r lG aC)
  ·
   refine iA<|cX<|cX<|fS ?_
   have h14:=eZ h7 ho6
   exact kI _ (sy h14) (bH [0] 0 r r r r ⟨lr,trivial⟩ aC)
 ·
  intro j5 hj15
  subst hj15
  refine cY<|aH<|mV (v:=aO) r<|sV (v:=aO) r<|aG (fr':=[(4,aO)]) r r<|bJ ?_
  obtain rfl:=sy h4
  exact bI (rs':=[.tmp 4]) r<|bX (v:=aO) r<|bG<|aP [0] r r r lr aC
noncomputable def zM (aDG:(List (List UInt8))) (s4:Int):Option (dU Int (Fl Bool Unit)) :=
 cond (decide (s4<((aDG).length:Int))) ((mP aDG (IntKind.wrap .i64 (s4 - 1))).bind fun x6=>(mP aDG s4).bind fun x8=>cond (!Op.bytesLess x6 x8) (some (dU.out (Fl.done false))) (some (dU.next (IntKind.wrap .i64 (s4+1))))) (some (dU.out (Fl.go ())))
noncomputable def aAx (aDG:(List (List UInt8))):Option Bool :=
 (gL (zM aDG) (1)).bind fun x1=>Fl.next x1 (fun j3=>(some true))
theorem aKs {aDG:(List (List UInt8))}{z:Bool} (h:aAx aDG=some z):cR Tryz.prog 180 [.c (PV.ls 1 fZ aDG)] [] (.c (.bool z)) []:=by
 unfold aAx at h
 refine dQ (fn:=Tryz.f180) [0,2,3,7,19] (by kernel_rfl) Tryz.func180 r (by kernel_rfl) (by kernel_rfl)<|aH<|sB r<|aG (fr':=[(0,aL)]) r r<|aU<|aH<|sI r<|aG (fr':=[(0,aL),(3,aI)]) r r<|bx h fun x1 y1 h2=>gY kS (fun j3=>x1=Fl.go j3) (fun (j3:Unit)=>([]:Fr)) (fun (j3:Unit)=>([]:St)) ?_ ?_
 ·
  refine cE<|gU _ (fun (s4:Int)=>([(0,.c (PV.ls 1 fZ aDG)),(3,ci s4)]:Fr)) (fun (s4:Int)=>([]:St)) y1 (bH [] 0 r r r r kU aC) ?_
  intro s4 st4 hs4 ho4
  unfold zM at hs4
  refine aU<|aH<|mI r<|mL r<|aN r (gQ yZ (eD r))<|aN r (gC r r)<|aG (fr':=[(0,aL),(3,aI),(7,aB)]) r r<|cN hs4 r (fun b5 h5=>?_) (fun b5 h5=>?_)
  ·
   refine bL<|cY<|aU<|cE<|aU<|mW [.q 0,.q 1,.q 2,.q 3,.q 4,.q 5,.q 6,.q 7,.q 8,.q 9] [(some 10,[0]),(some 11,[3]),(some 12,[11]),(some 13,[10,12]),(some 14,[13]),(some 15,[0]),(some 16,[3]),(some 17,[15,16]),(some 18,[17]),(some 19,[14,18])] [0,0,2,7,15,0,0,96,224,511] (by kernel_rfl)<|dq r r (bS (v:=aL) r)<|dq r r (bS (v:=aI) r)<|dq r r (aNA r r)<|bx h5 fun x6 y6 h7=>dq r r (lT (cs:=[PV.str _]) aBI (eD r) r y6 r)<|dq r r (iO (p:=PV.str _) mG r r)<|dq r r (bS (v:=aL) r)<|dq r r (bS (v:=aI) r)<|bx h7 fun x8 y8 h9=>dq r r (lT (cs:=[PV.str _]) aBI (eD r) r y8 r)<|dq r r (iO (p:=PV.str _) mG r r)<|dq r r (aSj r r)<|aBl (fr':=[(0,aL),(3,aI),(19,aB)]) r r<|cN h9 r (fun b10 h10=>?_) (fun b10 h10=>?_)
   ·
    refine aH<|sB r<|aG (fr':=[(2,aB)]) r r<|bJ<|bM<|aQ<|aQ<|bM<|aQ<|aQ ?_
    have h11:=eZ h10 ho4
    have h12:=gT h11 h2
    obtain rfl:=sy h12
    exact bI (rs':=[.tmp 2]) r<|bX (v:=aB) r<|bG<|aP [] r r r lr aC
   ·
    exact bL<|dH<|cY<|bA<|mI r<|aN r (fY r r)<|sI r<|dT (fr':=[(0,aL),(3,aI),(19,aB)]) r<|e_l _ (sy h10) (bH [] 0 r r r r kU aC)
  ·
   refine iA<|cX<|cX<|fS ?_
   have h14:=eZ h5 ho4
   exact kI _ (sy h14) (bH [] 0 r r r r trivial aC)
 ·
  intro j3 hj15
  have h15:=mY hj15 h2
  refine cY<|aH<|sB r<|aG (fr':=[(2,aB)]) r r<|bJ ?_
  obtain rfl:=sy h15
  exact bI (rs':=[.tmp 2]) r<|bX (v:=aB) r<|bG<|aP [] r r r lr aC
noncomputable def uG (aEC:aK→Option Bool) (p0C:aK) (s4:Int):Option (dU Int (Fl Bool Unit)) :=
 cond (decide (s4<((p0C.Items).length:Int))) ((mP p0C.Items s4).bind fun x6=>(aEC x6).bind fun x8=>cond (!x8) (some (dU.out (Fl.done false))) (some (dU.next (IntKind.wrap .i64 (s4+1))))) (some (dU.out (Fl.go ())))
noncomputable def oM:Nat→aK→Option Bool
 | 0,_=>none
 | n+1,p0C =>
  (gL (uG (oM n) p0C) (0)).bind fun x1=>Fl.next x1 (fun j3=>(cond (decide (p0C.Kind=0)) (some (cond (cond (cond (decide (p0C.Int=0)) (decide (p0C.Text=([]:List UInt8))) false) (decide (((p0C.Items).length:Int)=0)) false) (decide (((p0C.Keys).length:Int)=0)) false)) (cond (decide (p0C.Kind=1)) (some (cond (cond (cond (cond (decide (p0C.Int=0)) true (decide (p0C.Int=1))) (decide (p0C.Text=([]:List UInt8))) false) (decide (((p0C.Items).length:Int)=0)) false) (decide (((p0C.Keys).length:Int)=0)) false)) (cond (decide (p0C.Kind=2)) (some (cond (cond (decide (p0C.Text=([]:List UInt8))) (decide (((p0C.Items).length:Int)=0)) false) (decide (((p0C.Keys).length:Int)=0)) false)) (cond (decide (p0C.Kind=3)) (some (cond (cond (decide (p0C.Int=0)) (decide (((p0C.Items).length:Int)=0)) false) (decide (((p0C.Keys).length:Int)=0)) false)) (cond (decide (p0C.Kind=4)) (some (cond (cond (decide (p0C.Int=0)) (decide (p0C.Text=([]:List UInt8))) false) (decide (((p0C.Keys).length:Int)=0)) false)) (cond (decide (p0C.Kind=5)) ((gd ((cond (cond (decide (p0C.Int=0)) (decide (p0C.Text=([]:List UInt8))) false) (decide (((p0C.Keys).length:Int)=((p0C.Items).length:Int))) false)==true) (aAx p0C.Keys)).bind fun x27=>some (cond (cond (cond (decide (p0C.Int=0)) (decide (p0C.Text=([]:List UInt8))) false) (decide (((p0C.Keys).length:Int)=((p0C.Items).length:Int))) false) x27 false)) (cond (decide (p0C.Kind=6)) (some (cond (cond (cond (decide (0≤p0C.Int)) (decide (p0C.Text=([]:List UInt8))) false) (decide (((p0C.Items).length:Int)=0)) false) (decide (((p0C.Keys).length:Int)=0)) false)) (some false)))))))))
theorem aFl:∀ n:Nat,(∀ {p0C:aK}{z:Bool},oM n p0C=some z→cR Tryz.prog 133 [.agg (AV.cs (fA p0C))] [] (.c (.bool z)) []):=by
 intro n
 induction n with
 | zero=>exact fun {p0C z} h=>absurd h (by simp [oM])
 | succ n ih =>
  have ih_ref02xWellFormed:=@ih
  intro p0C z h
  rw [oM] at h
  refine dQ (fn:=Tryz.f133) [0,1,2,3,8,17,19,20,42,69,86,103,119,143] (by kernel_rfl) Tryz.func133 r (by kernel_rfl) (by kernel_rfl)<|aH<|iR (v:=.agg cH) (n:=0) (cs:=cH) (σ':=[cH]) r r r r r<|sB r<|aG (fr':=[(1,aD)]) r r<|aU<|aH<|sI r<|aG (fr':=[(1,aD),(3,aI)]) r r<|bx h fun x1 y1 h2=>gY kS (fun j3=>x1=Fl.go j3) (fun (j3:Unit)=>([(1,aD)]:Fr)) (fun (j3:Unit)=>([[ci p0C.Kind,ci p0C.Int,.c (.str p0C.Text),.c (PV.ls 5 bO p0C.Items),.c (PV.ls 1 fZ p0C.Keys)]]:St)) ?_ ?_
  ·
   refine cE<|gU _ (fun (s4:Int)=>([(1,aD),(3,ci s4)]:Fr)) (fun (s4:Int)=>([[ci p0C.Kind,ci p0C.Int,.c (.str p0C.Text),.c (PV.ls 5 bO p0C.Items),.c (PV.ls 1 fZ p0C.Keys)]]:St)) y1 (bH [] 1 r r r r kU (cV r aC)) ?_
   intro s4 st4 hs4 ho4
   unfold uG at hs4
   refine aU<|aH<|mI r<|aN r (bE iH r)<|aN r (aJ (v:=aL) nJ r r r)<|aN r (gQ vC (eD r))<|aN r (gC r r)<|aG (fr':=[(1,aD),(3,aI),(8,aB)]) r r<|cN hs4 r (fun b5 h5=>?_) (fun b5 h5=>?_)
   ·
    refine bL<|cY<|aU<|cE<|aH<|aN r (bE iH r)<|aN r (aJ (v:=aL) nJ r r r)<|mI r<|bx h5 fun x6 y6 h7=>aN r (lT (cs:=[PV.int _ _,PV.int _ _,PV.str _,PV.ls _ _ _,PV.ls _ _ _]) uW (eD r) r y6 (eA _))<|aN r (kT (us:=[PV.int _ _,PV.int _ _,PV.str _,PV.ls _ _ _,PV.ls _ _ _]) jC r r r)<|bx h7 fun x8 y8 h9=>kB (bC (v:=aB) r (ih_ref02xWellFormed y8) ⟨(bQ r zA),trivial⟩ r r r)<|aN r (fP r)<|aG (fr':=[(1,aD),(3,aI),(17,aB)]) r r<|cN h9 r (fun b10 h10=>?_) (fun b10 h10=>?_)
    ·
     refine aH<|sB r<|aG (fr':=[(2,aB)]) r r<|bJ<|bM<|aQ<|aQ<|bM<|aQ<|aQ ?_
     have h11:=eZ h10 ho4
     have h12:=gT h11 h2
     obtain rfl:=sy h12
     exact bI (rs':=[.tmp 2]) r<|bX (v:=aB) r<|bG<|aP [] r r r lr aC
    ·
     exact bL<|dH<|cY<|bA<|mI r<|aN r (fY r r)<|sI r<|dT (fr':=[(1,aD),(3,aI),(17,aB)]) r<|e_l _ (sy h10) (bH [] 1 r r r r kU (cV r aC))
   ·
    refine iA<|cX<|cX<|fS ?_
    have h14:=eZ h5 ho4
    exact kI _ (sy h14) (bH [] 1 r r r r ⟨lr,trivial⟩ (cV r aC))
  ·
   intro j3 hj15
   have h15:=mY hj15 h2
   refine cY<|aU<|aH<|aN r (bE lU r)<|aN r (aJ (v:=aI) gA r r r)<|aG (fr':=[(1,aD),(19,aI)]) r r<|cE<|aH<|aN r (cC r r)<|sB r<|aG (fr':=[(1,aD),(19,aI),(20,aB)]) r r<|cN h15 r (fun b16 h16=>?_) (fun b16 h16=>?_)
   ·
    refine aH<|aN r (bE tY r)<|aN r (aJ (v:=aI) gA r r r)<|aN r (cC r r)<|mB r<|og r r r (fun u=>(bE tZ r))<|og r r r (fun u=>(aJ (v:=aS) mG (gx r u) r r))<|og r r r (fun u=>(qZ (gx r u) r))<|aN r (cB r r r (fun e=>fU e))<|mB r<|og r r r (fun u=>(bE iH r))<|og r r r (fun u=>(aJ (v:=aL) nJ (gx r u) r r))<|og r r r (fun u=>(gQ vC (eD (gx r u))))<|og r r r (fun u=>(cC (gx r u) r))<|aN r (cB r r r (fun e=>fU e))<|mB r<|og r r r (fun u=>(bE qJ r))<|og r r r (fun u=>(aJ (v:=aL) sE (gx r u) r r))<|og r r r (fun u=>(gQ yZ (eD (gx r u))))<|og r r r (fun u=>(cC (gx r u) r))<|aN r (cB r r r (fun e=>fU e))<|sB r<|aG (fr':=[(2,aB)]) r r<|bJ<|bM<|aQ ?_
    obtain rfl:=sy h16
    exact bI (rs':=[.tmp 2]) r<|bX (v:=aB) r<|bG<|aP [] r r r lr aC
   ·
    refine aH<|aN r (cC r r)<|sB r<|aG (fr':=[(1,aD),(19,aI),(42,aB)]) r r<|cN h16 r (fun b18 h18=>?_) (fun b18 h18=>?_)
    ·
     refine aH<|aN r (bE tY r)<|aN r (aJ (v:=aI) gA r r r)<|aN r (cC r r)<|mB r<|og r r r (fun u=>(bE tY r))<|og r r r (fun u=>(aJ (v:=aI) gA (gx r u) r r))<|og r r r (fun u=>(cC (gx r u) r))<|aN r (cM r r r (fun e=>fU e))<|mB r<|og r r r (fun u=>(bE tZ r))<|og r r r (fun u=>(aJ (v:=aS) mG (gx r u) r r))<|og r r r (fun u=>(qZ (gx r u) r))<|aN r (cB r r r (fun e=>fU e))<|mB r<|og r r r (fun u=>(bE iH r))<|og r r r (fun u=>(aJ (v:=aL) nJ (gx r u) r r))<|og r r r (fun u=>(gQ vC (eD (gx r u))))<|og r r r (fun u=>(cC (gx r u) r))<|aN r (cB r r r (fun e=>fU e))<|mB r<|og r r r (fun u=>(bE qJ r))<|og r r r (fun u=>(aJ (v:=aL) sE (gx r u) r r))<|og r r r (fun u=>(gQ yZ (eD (gx r u))))<|og r r r (fun u=>(cC (gx r u) r))<|aN r (cB r r r (fun e=>fU e))<|sB r<|aG (fr':=[(2,aB)]) r r<|bJ<|bM<|aQ ?_
     obtain rfl:=sy h18
     exact bI (rs':=[.tmp 2]) r<|bX (v:=aB) r<|bG<|aP [] r r r lr aC
    ·
     refine aH<|aN r (cC r r)<|sB r<|aG (fr':=[(1,aD),(19,aI),(69,aB)]) r r<|cN h18 r (fun b20 h20=>?_) (fun b20 h20=>?_)
     ·
      refine aH<|aN r (bE tZ r)<|aN r (aJ (v:=aS) mG r r r)<|aN r (qZ r r)<|mB r<|og r r r (fun u=>(bE iH r))<|og r r r (fun u=>(aJ (v:=aL) nJ (gx r u) r r))<|og r r r (fun u=>(gQ vC (eD (gx r u))))<|og r r r (fun u=>(cC (gx r u) r))<|aN r (cB r r r (fun e=>fU e))<|mB r<|og r r r (fun u=>(bE qJ r))<|og r r r (fun u=>(aJ (v:=aL) sE (gx r u) r r))<|og r r r (fun u=>(gQ yZ (eD (gx r u))))<|og r r r (fun u=>(cC (gx r u) r))<|aN r (cB r r r (fun e=>fU e))<|sB r<|aG (fr':=[(2,aB)]) r r<|bJ<|bM<|aQ ?_
      obtain rfl:=sy h20
      exact bI (rs':=[.tmp 2]) r<|bX (v:=aB) r<|bG<|aP [] r r r lr aC
     ·
      refine aH<|aN r (cC r r)<|sB r<|aG (fr':=[(1,aD),(19,aI),(86,aB)]) r r<|cN h20 r (fun b22 h22=>?_) (fun b22 h22=>?_)
      ·
       refine aH<|aN r (bE tY r)<|aN r (aJ (v:=aI) gA r r r)<|aN r (cC r r)<|mB r<|og r r r (fun u=>(bE iH r))<|og r r r (fun u=>(aJ (v:=aL) nJ (gx r u) r r))<|og r r r (fun u=>(gQ vC (eD (gx r u))))<|og r r r (fun u=>(cC (gx r u) r))<|aN r (cB r r r (fun e=>fU e))<|mB r<|og r r r (fun u=>(bE qJ r))<|og r r r (fun u=>(aJ (v:=aL) sE (gx r u) r r))<|og r r r (fun u=>(gQ yZ (eD (gx r u))))<|og r r r (fun u=>(cC (gx r u) r))<|aN r (cB r r r (fun e=>fU e))<|sB r<|aG (fr':=[(2,aB)]) r r<|bJ<|bM<|aQ ?_
       obtain rfl:=sy h22
       exact bI (rs':=[.tmp 2]) r<|bX (v:=aB) r<|bG<|aP [] r r r lr aC
      ·
       refine aH<|aN r (cC r r)<|sB r<|aG (fr':=[(1,aD),(19,aI),(103,aB)]) r r<|cN h22 r (fun b24 h24=>?_) (fun b24 h24=>?_)
       ·
        refine aH<|aN r (bE tY r)<|aN r (aJ (v:=aI) gA r r r)<|aN r (cC r r)<|mB r<|og r r r (fun u=>(bE tZ r))<|og r r r (fun u=>(aJ (v:=aS) mG (gx r u) r r))<|og r r r (fun u=>(qZ (gx r u) r))<|aN r (cB r r r (fun e=>fU e))<|mB r<|og r r r (fun u=>(bE qJ r))<|og r r r (fun u=>(aJ (v:=aL) sE (gx r u) r r))<|og r r r (fun u=>(gQ yZ (eD (gx r u))))<|og r r r (fun u=>(cC (gx r u) r))<|aN r (cB r r r (fun e=>fU e))<|sB r<|aG (fr':=[(2,aB)]) r r<|bJ<|bM<|aQ ?_
        obtain rfl:=sy h24
        exact bI (rs':=[.tmp 2]) r<|bX (v:=aB) r<|bG<|aP [] r r r lr aC
       ·
        refine aH<|aN r (cC r r)<|sB r<|aG (fr':=[(1,aD),(19,aI),(119,aB)]) r r<|cN h24 r (fun b26 h26=>?_) (fun b26 h26=>?_)
        ·
         refine aH<|aN r (bE tY r)<|aN r (aJ (v:=aI) gA r r r)<|aN r (cC r r)<|mB r<|og r r r (fun u=>(bE tZ r))<|og r r r (fun u=>(aJ (v:=aS) mG (gx r u) r r))<|og r r r (fun u=>(qZ (gx r u) r))<|aN r (cB r r r (fun e=>fU e))<|mB r<|og r r r (fun u=>(bE qJ r))<|og r r r (fun u=>(aJ (v:=aL) sE (gx r u) r r))<|og r r r (fun u=>(gQ yZ (eD (gx r u))))<|og r r r (fun u=>(bE iH r))<|og r r r (fun u=>(aJ (v:=aL) nJ (gx r u) r r))<|og r r r (fun u=>(gQ vC (eD (gx r u))))<|og r r r (fun u=>(cC (gx r u) (gx r u)))<|aN r (cB r r r (fun e=>fU e))<|mB r<|og r r r (fun u=>(bE qJ r))<|og r r r (fun u=>(aJ (v:=aL) sE (gx r u) r r))<|bx h26 fun x27 y27 h28=>uP r r (fun u=>bC (v:=aB) r (aKs (cZ y27 u)) ⟨(fH (gx r u) lr),trivial⟩ (gO (by repeat (first | exact fC | refine aZ r ?_ | refine aZ (rG r) ?_ | refine aZ rF ?_))) r r) ?_
         refine aN r (cB r r r (fun e=>fU e))<|sB r<|aG (fr':=[(2,aB)]) r r<|bJ<|bM<|aQ ?_
         obtain rfl:=sy h28
         exact bI (rs':=[.tmp 2]) r<|bX (v:=aB) r<|bG<|aP [] r r r lr aC
        ·
         refine aH<|aN r (cC r r)<|sB r<|aG (fr':=[(1,aD),(143,aB)]) r r<|cN h26 r (fun b30 h30=>?_) (fun b30 h30=>?_)
         ·
          refine aH<|aN r (bE tY r)<|aN r (aJ (v:=aI) gA r r r)<|aN r (qR r r)<|mB r<|og r r r (fun u=>(bE tZ r))<|og r r r (fun u=>(aJ (v:=aS) mG (gx r u) r r))<|og r r r (fun u=>(qZ (gx r u) r))<|aN r (cB r r r (fun e=>fU e))<|mB r<|og r r r (fun u=>(bE iH r))<|og r r r (fun u=>(aJ (v:=aL) nJ (gx r u) r r))<|og r r r (fun u=>(gQ vC (eD (gx r u))))<|og r r r (fun u=>(cC (gx r u) r))<|aN r (cB r r r (fun e=>fU e))<|mB r<|og r r r (fun u=>(bE qJ r))<|og r r r (fun u=>(aJ (v:=aL) sE (gx r u) r r))<|og r r r (fun u=>(gQ yZ (eD (gx r u))))<|og r r r (fun u=>(cC (gx r u) r))<|aN r (cB r r r (fun e=>fU e))<|sB r<|aG (fr':=[(2,aB)]) r r<|bJ<|bM<|aQ ?_
          obtain rfl:=sy h30
          exact bI (rs':=[.tmp 2]) r<|bX (v:=aB) r<|bG<|aP [] r r r lr aC
         ·
          refine bL<|dH<|cY<|aH<|sB r<|aG (fr':=[(2,aB)]) r r<|bJ ?_
          obtain rfl:=sy h30
          exact bI (rs':=[.tmp 2]) r<|bX (v:=aB) r<|bG<|aP [] r r r lr aC
noncomputable def yN (p0C:aK):Option Bool:=lim fun n=>oM n p0C
theorem aCE {p0C:aK}{z:Bool} (h:yN p0C=some z):cR Tryz.prog 133 [.agg (AV.cs (fA p0C))] [] (.c (.bool z)) []:=by
 obtain ⟨n,hn⟩:=rI h
 exact (aFl n) hn
noncomputable def yO (aKO:(List UInt8)→aK→Option (List UInt8)) (p1v:aK) (s29:((List UInt8) × Int)):Option (dU ((List UInt8) × Int) (List UInt8)) :=
 cond (decide (s29.2<((p1v.Items).length:Int))) (((cond (decide (p1v.Kind=5)) ((mP p1v.Keys s29.2).bind fun x35=>(kH s29.1 x35).bind fun x37=>some x37) (some s29.1)):Option (List UInt8)).bind fun x31=>((mP p1v.Items s29.2).bind fun x40=>(aKO x31 x40).bind fun x42=>some (dU.next (x42,(IntKind.wrap .i64 (s29.2+1)))))) (some (dU.out s29.1))
noncomputable def aAb:Nat→(List UInt8)→aK→Option (List UInt8)
 | 0,_,_=>none
 | n+1,p0b,p1v =>
  (jB p0b p1v.Kind).bind fun x1=>((((cond (decide (p1v.Kind=1)) (some (decide (p1v.Kind=1))) (cond (decide (p1v.Kind=2)) (some (decide (p1v.Kind=2))) (some (decide (p1v.Kind=6))))):Option Bool).bind fun x6=>(cond x6 ((jB x1 p1v.Int).bind fun x13=>some x13) (cond (decide (p1v.Kind=3)) ((kH x1 p1v.Text).bind fun x16=>some x16) (((cond (decide (p1v.Kind=4)) (some (decide (p1v.Kind=4))) (some (decide (p1v.Kind=5)))):Option Bool).bind fun x18=>(cond x18 ((jB x1 ((p1v.Items).length:Int)).bind fun x24=>(gL (yO (aAb n) p1v) ((x24,0))).bind fun x26=>(some x26)) (some x1)))))):Option (List UInt8)).bind fun x3=>(some x3)
theorem aMt:∀ n:Nat,(∀ {p0b:(List UInt8)}{p1v:aK}{z:(List UInt8)},aAb n p0b p1v=some z→cR Tryz.prog 134 [.c (PV.ls 1 hF p0b),.agg (AV.cs (fA p1v))] [] (AV.os 0 1 hF z) []):=by
 intro n
 induction n with
 | zero=>exact fun {p0b p1v z} h=>absurd h (by simp [aAb])
 | succ n ih =>
  have ih_ref02xput:=@ih
  intro p0b p1v z h
  rw [aAb] at h
  refine dQ (fn:=Tryz.f134) [0,1,3,4,5,11,12,20,26,38,43] (by kernel_rfl) Tryz.func134 r (by kernel_rfl) (by kernel_rfl)<|aH<|iR (v:=.agg cH) (n:=0) (cs:=cH) (σ':=[cH]) r r r r r<|sV (v:=AV.nil) r<|aG (fr':=[(0,aL),(3,aD)]) r r<|aH<|mL r<|aN r (bE lU r)<|aN r (aJ (v:=aI) gA r r r)<|bx h fun x1 y1 h2=>kB (bC (v:=aO) r (nN y1) kU r r r)<|sV (v:=aO) r<|aG (fr':=[(0,aO),(3,aD)]) r r<|bx h2 fun x3 y3 h4=>jR (fun j5=>x3=j5) (fun (j5:(List UInt8))=>([(0,AV.os 0 1 hF j5)]:Fr)) (fun (j5:(List UInt8))=>([[ci p1v.Kind,ci p1v.Int,.c (.str p1v.Text),.c (PV.ls 5 bO p1v.Items),.c (PV.ls 1 fZ p1v.Keys)]]:St)) ?_ ?_
  ·
   refine aH<|aN r (bE lU r)<|aN r (aJ (v:=aI) gA r r r)<|aG (fr':=[(0,aO),(3,aD),(11,aI)]) r r<|cE<|bx y3 fun x6 y6 h7=>jR (fun j8=>x6=j8) (fun (j8:Bool)=>([(0,AV.os 0 1 hF x1),(3,aD),(11,ci p1v.Kind),(12,.c (.bool j8))]:Fr)) (fun (j8:Bool)=>([[ci p1v.Kind,ci p1v.Int,.c (.str p1v.Text),.c (PV.ls 5 bO p1v.Items),.c (PV.ls 1 fZ p1v.Keys)]]:St)) ?_ ?_
   ·
    refine aH<|aN r (cC r r)<|sB r<|aG (fr':=[(0,aO),(3,aD),(11,aI),(12,aB)]) r r<|cN y6 r (fun b9 h9=>?_) (fun b9 h9=>?_)
    ·
     exact bL<|kI _ (sy h9) (bH [144] 1 r r r r kL4 (cV r aC))
    ·
     refine aH<|aN r (cC r r)<|sB r<|aG (fr':=[(0,aO),(3,aD),(11,aI),(12,aB)]) r r<|cN h9 r (fun b10 h10=>?_) (fun b10 h10=>?_)
     ·
      exact bL<|kI _ (sy h10) (bH [144] 1 r r r r kL4 (cV r aC))
     ·
      exact bA<|aN r (cC r r)<|sB r<|dT (fr':=[(0,aO),(3,aD),(11,aI),(12,aB)]) r<|kI _ (sy h10) (bH [144] 1 r r r r kL4 (cV r aC))
   ·
    intro j8 hj11
    subst hj11
    refine cN h7 r (fun b12 h12=>?_) (fun b12 h12=>?_)
    ·
     exact bA<|mV (v:=aO) r<|aN r (bE tY r)<|aN r (aJ (v:=aI) gA r r r)<|bx h12 fun x13 y13 h14=>kB (bC (v:=aO) r (nN y13) kU r r r)<|sV (v:=aO) r<|dT (fr':=[(0,aO),(3,aD),(11,aI),(12,aB)]) r<|dH<|kI _ (sy h14) (bH [304] 1 r r r r ⟨lr,trivial⟩ (cV r aC))
    ·
     refine aH<|aN r (cC r r)<|sB r<|aG (fr':=[(0,aO),(3,aD),(11,aI),(20,aB)]) r r<|cN h12 r (fun b15 h15=>?_) (fun b15 h15=>?_)
     ·
      exact bA<|mV (v:=aO) r<|aN r (bE tZ r)<|aN r (aJ (v:=aS) mG r r r)<|bx h15 fun x16 y16 h17=>kB (bC (v:=aO) r (rB y16) kU r r r)<|sV (v:=aO) r<|dT (fr':=[(0,aO),(3,aD),(11,aI),(20,aB)]) r<|dH<|kI _ (sy h17) (bH [400] 1 r r r r ⟨lr,trivial⟩ (cV r aC))
     ·
      obtain ⟨x18,y18,h19⟩:=lB h15
      refine jR (fun j20=>x18=j20) (fun (j20:Bool)=>([(0,AV.os 0 1 hF x1),(3,aD),(26,.c (.bool j20))]:Fr)) (fun (j20:Bool)=>([[ci p1v.Kind,ci p1v.Int,.c (.str p1v.Text),.c (PV.ls 5 bO p1v.Items),.c (PV.ls 1 fZ p1v.Keys)]]:St)) ?_ ?_
      ·
       refine aH<|aN r (cC r r)<|sB r<|aG (fr':=[(0,aO),(3,aD),(11,aI),(26,aB)]) r r<|cN y18 r (fun b21 h21=>?_) (fun b21 h21=>?_)
       ·
        exact bL<|kI _ (sy h21) (bH [0] 1 r r r r lG (cV r aC))
       ·
        exact bA<|aN r (cC r r)<|sB r<|dT (fr':=[(0,aO),(3,aD),(11,aI),(26,aB)]) r<|kI _ (sy h21) (bH [0] 1 r r r r lG (cV r aC))
      ·
       intro j20 hj22
       subst hj22
       refine cN h19 r (fun b23 h23=>?_) (fun b23 h23=>?_)
       ·
        refine aH<|mV (v:=aO) r<|aN r (bE iH r)<|aN r (aJ (v:=aL) nJ r r r)<|aN r (gQ vC (eD r))<|bx h23 fun x24 y24 h25=>kB (bC (v:=aO) r (nN y24) kU r r r)<|sV (v:=aO) r<|aG (fr':=[(0,aO),(3,aD)]) r r<|aH<|sI r<|aG (fr':=[(0,aO),(3,aD),(5,aI)]) r r<|bx h25 fun x26 y26 h27=>gY (aV5 aV6) (fun j28=>x26=j28) (fun (j28:(List UInt8))=>([(0,AV.os 0 1 hF j28)]:Fr)) (fun (j28:(List UInt8))=>([[ci p1v.Kind,ci p1v.Int,.c (.str p1v.Text),.c (PV.ls 5 bO p1v.Items),.c (PV.ls 1 fZ p1v.Keys)]]:St)) ?_ ?_
        ·
         refine cE<|gU _ (fun (s29:((List UInt8) × Int))=>([(0,AV.os 0 1 hF s29.1),(3,aD),(5,ci s29.2)]:Fr)) (fun (s29:((List UInt8) × Int))=>([[ci p1v.Kind,ci p1v.Int,.c (.str p1v.Text),.c (PV.ls 5 bO p1v.Items),.c (PV.ls 1 fZ p1v.Keys)]]:St)) y26 (bH [528] 1 r r r r lG (cV r aC)) ?_
         intro s29 st29 hs29 ho29
         unfold yO at hs29
         refine aU<|aH<|mI r<|aN r (bE iH r)<|aN r (aJ (v:=aL) nJ r r r)<|aN r (gQ vC (eD r))<|aN r (gC r r)<|aG (fr':=[(0,aO),(3,aD),(5,aI),(38,aB)]) r r<|cN hs29 r (fun b30 h30=>?_) (fun b30 h30=>?_)
         ·
          refine bL<|cY<|aU<|cE<|bx h30 fun x31 y31 h32=>jR (fun j33=>x31=j33) (fun (j33:(List UInt8))=>([(0,AV.os 0 1 hF j33),(3,aD),(5,ci s29.2)]:Fr)) (fun (j33:(List UInt8))=>([[ci p1v.Kind,ci p1v.Int,.c (.str p1v.Text),.c (PV.ls 5 bO p1v.Items),.c (PV.ls 1 fZ p1v.Keys)]]:St)) ?_ ?_
          ·
           refine aH<|aN r (bE lU r)<|aN r (aJ (v:=aI) gA r r r)<|aN r (cC r r)<|aG (fr':=[(0,aO),(3,aD),(5,aI),(43,aB)]) r r<|cN y31 r (fun b34 h34=>?_) (fun b34 h34=>?_)
           ·
            exact bA<|mV (v:=aO) r<|aN r (bE qJ r)<|aN r (aJ (v:=aL) sE r r r)<|mI r<|bx h34 fun x35 y35 h36=>aN r (lT (cs:=[PV.str _]) aBI (eD r) r y35 r)<|aN r (iO (p:=PV.str _) mG r r)<|bx h36 fun x37 y37 h38=>kB (bC (v:=aO) r (rB y37) kU r r r)<|sV (v:=aO) r<|dT (fr':=[(0,aO),(3,aD),(5,aI),(43,aB)]) r<|kI _ (sy h38) (bH [800] 1 r r r r lG (cV r aC))
           ·
            exact bL<|kI _ (sy h34) (bH [0] 1 r r r r lG (cV r aC))
          ·
           intro j33 hj39
           subst hj39
           exact bA<|mV (v:=aO) r<|aN r (bE iH r)<|aN r (aJ (v:=aL) nJ r r r)<|mI r<|bx h32 fun x40 y40 h41=>aN r (lT (cs:=[PV.int _ _,PV.int _ _,PV.str _,PV.ls _ _ _,PV.ls _ _ _]) uW (eD r) r y40 (eA _))<|aN r (kT (us:=[PV.int _ _,PV.int _ _,PV.str _,PV.ls _ _ _,PV.ls _ _ _]) jC r r r)<|bx h41 fun x42 y42 h43=>kB (bC (v:=aO) r (ih_ref02xput y42) ⟨lr,(bQ r zA),trivial⟩ r r r)<|sV (v:=aO) r<|dT (fr':=[(0,aO),(3,aD),(5,aI)]) r<|dH<|cY<|bA<|mI r<|aN r (fY r r)<|sI r<|dT (fr':=[(0,aO),(3,aD),(5,aI)]) r<|e_l _ (sy h43) (bH [912] 1 r r r r lG (cV r aC))
         ·
          refine iA<|cX<|cX<|fS ?_
          have h44:=eZ h30 ho29
          exact kI _ (sy h44) (bH [0] 1 r r r r ⟨lr,trivial⟩ (cV r aC))
        ·
         intro j28 hj45
         subst hj45
         exact dH<|kI _ (sy h27) (bH [0] 1 r r r r ⟨lr,trivial⟩ (cV r aC))
       ·
        exact bL<|dH<|kI _ (sy h23) (bH [0] 1 r r r r ⟨lr,trivial⟩ (cV r aC))
  ·
   intro j5 hj46
   subst hj46
   refine aH<|mV (v:=aO) r<|sV (v:=aO) r<|aG (fr':=[(4,aO)]) r r<|bJ ?_
   obtain rfl:=sy h4
   exact bI (rs':=[.tmp 4]) r<|bX (v:=aO) r<|bG<|aP [0] r r r lr aC
noncomputable def aHG (p0b:(List UInt8)) (p1v:aK):Option (List UInt8):=lim fun n=>aAb n p0b p1v
theorem aOb {p0b:(List UInt8)}{p1v:aK}{z:(List UInt8)} (h:aHG p0b p1v=some z):cR Tryz.prog 134 [.c (PV.ls 1 hF p0b),.agg (AV.cs (fA p1v))] [] (AV.os 0 1 hF z) []:=by
 obtain ⟨n,hn⟩:=rI h
 exact (aMt n) hn
noncomputable def tL (p0b:(List UInt8)) (p1v:aK):Option (List UInt8) :=
 (app 1 ([]:List UInt8) p0b).bind fun x1=>(yN p1v).bind fun x3=>cond (!x3) (some x1) ((aHG x1 p1v).bind fun x7=>some x7)
theorem aEW {p0b:(List UInt8)}{p1v:aK}{z:(List UInt8)} (h:tL p0b p1v=some z):cR Tryz.prog 59 [.c (PV.ls 1 hF p0b),.agg (AV.cs (fA p1v))] [] (AV.os 0 1 hF z) []:=by
 unfold tL at h
 refine dQ (fn:=Tryz.f59) [0,1,3,4,5,11] (by kernel_rfl) Tryz.func59 r (by kernel_rfl) (by kernel_rfl)<|aH<|iR (v:=.agg cH) (n:=0) (cs:=cH) (σ':=[cH]) r r r r r<|sV (v:=AV.nil) r<|aG (fr':=[(0,aL),(3,aD)]) r r<|aH<|sV (v:=AV.nil) r<|aG (fr':=[(0,aL),(3,aD),(5,AV.nil)]) r r<|aH<|mV (v:=AV.nil) r<|mL r<|bx h fun x1 y1 h2=>aSg (row:=hF) aCu r aFi r (eD r) (fun _=>r) y1<|sV (v:=aO) r<|aG (fr':=[(3,aD),(5,aO)]) r r<|aU<|aH<|aN r (dN (us:=cH) jC r r r r)<|bx h2 fun x3 y3 h4=>kB (bC (v:=aB) r (aCE y3) ⟨(bQ r zA),trivial⟩ r r r)<|aN r (fP r)<|aG (fr':=[(3,aD),(5,aO),(11,aB)]) r r<|cN h4 r (fun b5 h5=>?_) (fun b5 h5=>?_)
 ·
  refine aH<|mV (v:=aO) r<|sV (v:=aO) r<|aG (fr':=[(4,aO)]) r r<|bJ<|aQ ?_
  obtain rfl:=sy h5
  exact bI (rs':=[.tmp 4]) r<|bX (v:=aO) r<|bG<|aP [128] r r r lr aC
 ·
  refine bL<|cY<|aH<|mV (v:=aO) r<|aN r (dN (us:=cH) jC r r r r)<|bx h5 fun x7 y7 h8=>kB (bC (v:=aO) r (aOb y7) ⟨lr,(bQ r zA),trivial⟩ r r r)<|sV (v:=aO) r<|aG (fr':=[(4,aO)]) r r<|bJ ?_
  obtain rfl:=sy h8
  exact bI (rs':=[.tmp 4]) r<|bX (v:=aO) r<|bG<|aP [240] r r r lr aC
noncomputable def uR (p0n:Int) (oK:Int) (lO:Int):Option Bool :=
 some (cond (decide (oK≤p0n)) (decide (p0n≤lO)) false)
theorem vX {p0n:Int}{oK:Int}{lO:Int}{z:Bool} (h:uR p0n oK lO=some z):cR Tryz.prog 152 [ci p0n,ci oK,ci lO] [] (.c (.bool z)) []:=by
 unfold uR at h
 refine dQ (fn:=Tryz.f152) [0,1,2,6] (by kernel_rfl) Tryz.func152 r (by kernel_rfl) (by kernel_rfl)<|aH<|sB r<|aG (fr':=[(0,aI),(1,aI),(2,aI)]) r r<|aH<|mI r<|mI r<|aN r (qR r r)<|mB r<|og r r r (fun u=>(bS (v:=aI) r))<|og r r r (fun u=>(bS (v:=aI) r))<|og r r r (fun u=>(qH (gx r u) (gx r u)))<|aN r (cB r r r (fun e=>fU e))<|sB r<|aG (fr':=[(6,aB)]) r r<|bJ ?_
 obtain rfl:=sy h
 exact bI (rs':=[.tmp 6]) r<|bX (v:=aB) r<|bG<|aP [] r r r lr aC
noncomputable def aAC (p0c:Int):Option Bool :=
 some (cond (cond (cond (cond (decide (97≤p0c)) (decide (p0c≤122)) false) true (cond (decide (65≤p0c)) (decide (p0c≤90)) false)) true (cond (decide (48≤p0c)) (decide (p0c≤57)) false)) true (decide (p0c=95)))
theorem aKu {p0c:Int}{z:Bool} (h:aAC p0c=some z):cR Tryz.prog 158 [.c (.int .u8 p0c)] [] (.c (.bool z)) []:=by
 unfold aAC at h
 refine dQ (fn:=Tryz.f158) [0,2] (by kernel_rfl) Tryz.func158 r (by kernel_rfl) (by kernel_rfl)<|aH<|sB r<|aG (fr':=[(0,aI)]) r r<|aH<|mI r<|aN r (qR r r)<|mB r<|og r r r (fun u=>(bS (v:=aI) r))<|og r r r (fun u=>(qH (gx r u) r))<|aN r (cB r r r (fun e=>fU e))<|mB r<|og r r r (fun u=>(bS (v:=aI) r))<|og r r r (fun u=>(qR (gx r u) r))<|og r r r (fun u=>(bS (v:=aB) (gx r u)))<|fI r r (fun u=>fT r (bS (v:=aI) r))<|fI r r (fun u=>fT r (qH (gx r u) r))<|og r r r (fun u=>(cB (gx r u) r r (fun e=>qC u (fU e))))<|aN r (cM r r r (fun e=>fU e))<|mB r<|og r r r (fun u=>(bS (v:=aI) r))<|og r r r (fun u=>(qR (gx r u) r))<|og r r r (fun u=>(bS (v:=aB) (gx r u)))<|fI r r (fun u=>fT r (bS (v:=aI) r))<|fI r r (fun u=>fT r (qH (gx r u) r))<|og r r r (fun u=>(cB (gx r u) r r (fun e=>qC u (fU e))))<|aN r (cM r r r (fun e=>fU e))<|mB r<|og r r r (fun u=>(bS (v:=aI) r))<|og r r r (fun u=>(cC (gx r u) r))<|aN r (cM r r r (fun e=>fU e))<|sB r<|aG (fr':=[(2,aB)]) r r<|bJ ?_
 obtain rfl:=sy h
 exact bI (rs':=[.tmp 2]) r<|bX (v:=aB) r<|bG<|aP [] r r r lr aC
noncomputable def aAB (p0s:(List UInt8)) (s10:Int):Option (dU Int (Fl Bool Unit)) :=
 cond (decide (s10<((p0s).length:Int))) ((mP p0s s10).bind fun x12=>(aAC ((x12).toNat:Int)).bind fun x14=>cond (!x14) (some (dU.out (Fl.done false))) (some (dU.next (IntKind.wrap .i64 (s10+1))))) (some (dU.out (Fl.go ())))
noncomputable def qI (p0s:(List UInt8)):Option Bool :=
 (gd ((cond (decide (((p0s).length:Int)<1)) true (decide (64<((p0s).length:Int))))==false) (mP p0s 0)).bind fun x1=>(gd (((cond (decide (((p0s).length:Int)<1)) true (decide (64<((p0s).length:Int))))==false)&&((decide (48≤((x1).toNat:Int)))==true)) (mP p0s 0)).bind fun x3=>cond (cond (cond (decide (((p0s).length:Int)<1)) true (decide (64<((p0s).length:Int)))) true (cond (decide (48≤((x1).toNat:Int))) (decide (((x3).toNat:Int)≤57)) false)) (some false) ((gL (aAB p0s) (0)).bind fun x7=>Fl.next x7 (fun j9=>(some true)))
theorem wN {p0s:(List UInt8)}{z:Bool} (h:qI p0s=some z):cR Tryz.prog 86 [.c (.str p0s)] [] (.c (.bool z)) []:=by
 unfold qI at h
 refine dQ (fn:=Tryz.f86) [0,2,3,21,25,32] (by kernel_rfl) Tryz.func86 r (by kernel_rfl) (by kernel_rfl)<|aH<|sB r<|aG (fr':=[(0,aS)]) r r<|aU<|aH<|mS r<|aN r (kV uD r)<|aN r (gC r r)<|mB r<|og r r r (fun u=>(bS (v:=aS) r))<|og r r r (fun u=>(kV uD (gx r u)))<|og r r r (fun u=>(sP (gx r u) r))<|aN r (cM r r r (fun e=>fU e))<|mB r<|og r r r (fun u=>(bS (v:=aS) r))<|bx h fun x1 y1 h2=>og r r r (fun u=>(aAU uD (gx r u) r (cZ y1 u)))<|og r r r (fun u=>(qR (gx r u) r))<|og r r r (fun u=>(bS (v:=aB) (gx r u)))<|fI r r (fun u=>fT r (bS (v:=aS) r))<|bx h2 fun x3 y3 h4=>fI r r (fun u=>fT r (aAU uD (gx r u) r (cZ y3 u)))<|fI r r (fun u=>fT r (qH (gx r u) r))<|og r r r (fun u=>(cB (gx r u) r r (fun e=>qC u (fU e))))<|aN r (cM r r r (fun e=>fU e))<|aG (fr':=[(0,aS),(21,aB)]) r r<|cN h4 r (fun b5 h5=>?_) (fun b5 h5=>?_)
 ·
  refine aH<|sB r<|aG (fr':=[(2,aB)]) r r<|bJ<|aQ ?_
  obtain rfl:=sy h5
  exact bI (rs':=[.tmp 2]) r<|bX (v:=aB) r<|bG<|aP [] r r r lr aC
 ·
  refine bL<|cY<|aU<|aH<|sI r<|aG (fr':=[(0,aS),(3,aI)]) r r<|bx h5 fun x7 y7 h8=>gY kS (fun j9=>x7=Fl.go j9) (fun (j9:Unit)=>([]:Fr)) (fun (j9:Unit)=>([]:St)) ?_ ?_
  ·
   refine cE<|gU _ (fun (s10:Int)=>([(0,.c (.str p0s)),(3,ci s10)]:Fr)) (fun (s10:Int)=>([]:St)) y7 (bH [] 0 r r r r kU aC) ?_
   intro s10 st10 hs10 ho10
   unfold aAB at hs10
   refine aU<|aH<|mI r<|mS r<|aN r (kV uD r)<|aN r (gC r r)<|aG (fr':=[(0,aS),(3,aI),(25,aB)]) r r<|cN hs10 r (fun b11 h11=>?_) (fun b11 h11=>?_)
   ·
    refine bL<|cY<|aU<|cE<|aH<|mS r<|mI r<|bx h11 fun x12 y12 h13=>aN r (aAU uD r r y12)<|bx h13 fun x14 y14 h15=>kB (bC (v:=aB) r (aKu y14) ⟨lr,trivial⟩ r r r)<|aN r (fP r)<|aG (fr':=[(0,aS),(3,aI),(32,aB)]) r r<|cN h15 r (fun b16 h16=>?_) (fun b16 h16=>?_)
    ·
     refine aH<|sB r<|aG (fr':=[(2,aB)]) r r<|bJ<|bM<|aQ<|aQ<|bM<|aQ<|aQ ?_
     have h17:=eZ h16 ho10
     have h18:=gT h17 h8
     obtain rfl:=sy h18
     exact bI (rs':=[.tmp 2]) r<|bX (v:=aB) r<|bG<|aP [] r r r lr aC
    ·
     exact bL<|dH<|cY<|bA<|mI r<|aN r (fY r r)<|sI r<|dT (fr':=[(0,aS),(3,aI),(32,aB)]) r<|e_l _ (sy h16) (bH [] 0 r r r r kU aC)
   ·
    refine iA<|cX<|cX<|fS ?_
    have h20:=eZ h11 ho10
    exact kI _ (sy h20) (bH [] 0 r r r r trivial aC)
  ·
   intro j9 hj21
   have h21:=mY hj21 h8
   refine cY<|aH<|sB r<|aG (fr':=[(2,aB)]) r r<|bJ ?_
   obtain rfl:=sy h21
   exact bI (rs':=[.tmp 2]) r<|bX (v:=aB) r<|bG<|aP [] r r r lr aC
noncomputable def tN (p0o:dR) (s4:Int):Option (dU Int (Fl Bool Unit)) :=
 cond (decide (s4<((([p0o.ToStart,p0o.ToClose,p0o.Total,p0o.Beat,p0o.First,p0o.Most]:List Int)).length:Int))) ((mP ([p0o.ToStart,p0o.ToClose,p0o.Total,p0o.Beat,p0o.First,p0o.Most]:List Int) s4).bind fun x6=>(uR x6 0 1099511627776).bind fun x8=>cond (!x8) (some (dU.out (Fl.done false))) (some (dU.next (IntKind.wrap .i64 (s4+1))))) (some (dU.out (Fl.go ())))
noncomputable def tO (p0o:dR) (s19:Int):Option (dU Int (Fl Bool Unit)) :=
 cond (decide (s19<((p0o.Fatal).length:Int))) ((mP p0o.Fatal s19).bind fun x21=>cond (decide (4096<((x21).length:Int))) (some (dU.out (Fl.done false))) (some (dU.next (IntKind.wrap .i64 (s19+1))))) (some (dU.out (Fl.go ())))
noncomputable def qT (p0o:dR):Option Bool :=
 (gL (tN p0o) (0)).bind fun x1=>Fl.next x1 (fun j3=>((gL (tO p0o) (0)).bind fun x16=>Fl.next x16 (fun j18=>((gd ((decide (p0o.Queue=([]:List UInt8)))==false) (qI p0o.Queue)).bind fun x29=>(gd ((cond (decide (p0o.Queue=([]:List UInt8))) true x29)==true) (uR p0o.Coef 0 10000)).bind fun x31=>(gd ((cond (cond (decide (p0o.Queue=([]:List UInt8))) true x29) x31 false)==true) (uR p0o.Attempts 0 1000)).bind fun x33=>some (cond (cond (cond (cond (decide (p0o.Queue=([]:List UInt8))) true x29) x31 false) x33 false) (decide (((p0o.Fatal).length:Int)≤64)) false)))))
theorem aBN {p0o:dR}{z:Bool} (h:qT p0o=some z):cR Tryz.prog 135 [.agg (AV.cs (lP p0o))] [] (.c (.bool z)) []:=by
 unfold qT at h
 refine dQ (fn:=Tryz.f135) [0,1,2,3,4,5,22,30,35,44] (by kernel_rfl) Tryz.func135 r (by kernel_rfl) (by kernel_rfl)<|aH<|iR (v:=.agg dE) (n:=0) (cs:=dE) (σ':=[dE]) r r r r r<|sB r<|aG (fr':=[(1,aD)]) r r<|aH<|aN r (bE aFX r)<|aN r (aJ (v:=aI) gA r r r)<|aN r (bE aFY r)<|aN r (aJ (v:=aI) gA r r r)<|aN r (bE aFZ r)<|aN r (aJ (v:=aI) gA r r r)<|aN r (bE aF0 r)<|aN r (aJ (v:=aI) gA r r r)<|aN r (bE aF1 r)<|aN r (aJ (v:=aI) gA r r r)<|aN r (bE aF3 r)<|aN r (aJ (v:=aI) gA r r r)<|sW (row:=(aFU .i64)) (xs:=([p0o.ToStart,p0o.ToClose,p0o.Total,p0o.Beat,p0o.First,p0o.Most]:List Int)) (rows:=[[_],[_],[_],[_],[_],[_]]) (σ':=[dE]) [0] aG6 r r r (eI r (eI r (eI r (eI r (eI r (eI r mX)))))) r r<|sV (v:=aO) r<|aG (fr':=[(1,aD),(3,aO)]) r r<|aU<|aU<|bA<|sI r<|aG (fr':=[(1,aD),(3,aO),(4,aI)]) r r<|bx h fun x1 y1 h2=>gY kS (fun j3=>x1=Fl.go j3) (fun (j3:Unit)=>([(1,aD)]:Fr)) (fun (j3:Unit)=>([[.c (.str p0o.Queue),ci p0o.ToStart,ci p0o.ToClose,ci p0o.Total,ci p0o.Beat,ci p0o.First,ci p0o.Coef,ci p0o.Most,ci p0o.Attempts,.c (PV.ls 1 fZ p0o.Fatal)]]:St)) ?_ ?_
 ·
  refine cE<|gU _ (fun (s4:Int)=>([(1,aD),(3,AV.os 0 1 (aFU .i64) ([p0o.ToStart,p0o.ToClose,p0o.Total,p0o.Beat,p0o.First,p0o.Most]:List Int)),(4,ci s4)]:Fr)) (fun (s4:Int)=>([[.c (.str p0o.Queue),ci p0o.ToStart,ci p0o.ToClose,ci p0o.Total,ci p0o.Beat,ci p0o.First,ci p0o.Coef,ci p0o.Most,ci p0o.Attempts,.c (PV.ls 1 fZ p0o.Fatal)]]:St)) y1 (bH [288] 1 r r r r lG (cV r aC)) ?_
  intro s4 st4 hs4 ho4
  unfold tN at hs4
  refine aU<|aH<|mI r<|mV (v:=aO) r<|aN r (gQ aPo (rQ r))<|aN r (gC r r)<|aG (fr':=[(1,aD),(3,aO),(4,aI),(22,aB)]) r r<|cN hs4 r (fun b5 h5=>?_) (fun b5 h5=>?_)
  ·
   refine bL<|cY<|aU<|cE<|aH<|mV (v:=aO) r<|mI r<|bx h5 fun x6 y6 h7=>aN r (lT (cs:=[PV.int _ _]) aG6 (rQ r) r y6 r)<|aN r (iO (p:=PV.int _ _) gA r r)<|bx h7 fun x8 y8 h9=>kB (bC (v:=aB) r (vX y8) lG r r r)<|aN r (fP r)<|aG (fr':=[(1,aD),(3,aO),(4,aI),(30,aB)]) r r<|cN h9 r (fun b10 h10=>?_) (fun b10 h10=>?_)
   ·
    refine aH<|sB r<|aG (fr':=[(2,aB)]) r r<|bJ<|bM<|aQ<|aQ<|bM<|aQ<|aQ ?_
    have h11:=eZ h10 ho4
    have h12:=gT h11 h2
    obtain rfl:=sy h12
    exact bI (rs':=[.tmp 2]) r<|bX (v:=aB) r<|bG<|aP [] r r r lr aC
   ·
    exact bL<|dH<|cY<|bA<|mI r<|aN r (fY r r)<|sI r<|dT (fr':=[(1,aD),(3,aO),(4,aI),(30,aB)]) r<|e_l _ (sy h10) (bH [0] 1 r r r r lG (cV r aC))
  ·
   refine iA<|cX<|cX<|fS ?_
   have h14:=eZ h5 ho4
   exact kI _ (sy h14) (bH [] 1 r r r r ⟨lr,trivial⟩ (cV r aC))
 ·
  intro j3 hj15
  have h15:=mY hj15 h2
  refine cY<|aU<|aH<|sI r<|aG (fr':=[(1,aD),(5,aI)]) r r<|bx h15 fun x16 y16 h17=>gY kS (fun j18=>x16=Fl.go j18) (fun (j18:Unit)=>([(1,aD)]:Fr)) (fun (j18:Unit)=>([[.c (.str p0o.Queue),ci p0o.ToStart,ci p0o.ToClose,ci p0o.Total,ci p0o.Beat,ci p0o.First,ci p0o.Coef,ci p0o.Most,ci p0o.Attempts,.c (PV.ls 1 fZ p0o.Fatal)]]:St)) ?_ ?_
  ·
   refine cE<|gU _ (fun (s19:Int)=>([(1,aD),(5,ci s19)]:Fr)) (fun (s19:Int)=>([[.c (.str p0o.Queue),ci p0o.ToStart,ci p0o.ToClose,ci p0o.Total,ci p0o.Beat,ci p0o.First,ci p0o.Coef,ci p0o.Most,ci p0o.Attempts,.c (PV.ls 1 fZ p0o.Fatal)]]:St)) y16 (bH [] 1 r r r r kU (cV r aC)) ?_
   intro s19 st19 hs19 ho19
   unfold tO at hs19
   refine aU<|aH<|mI r<|aN r (bE uA r)<|aN r (aJ (v:=aL) sE r r r)<|aN r (gQ yZ (eD r))<|aN r (gC r r)<|aG (fr':=[(1,aD),(5,aI),(35,aB)]) r r<|cN hs19 r (fun b20 h20=>?_) (fun b20 h20=>?_)
   ·
    refine bL<|cY<|aU<|cE<|aH<|aN r (bE uA r)<|aN r (aJ (v:=aL) sE r r r)<|mI r<|bx h20 fun x21 y21 h22=>aN r (lT (cs:=[PV.str _]) aBI (eD r) r y21 r)<|aN r (iO (p:=PV.str _) mG r r)<|aN r (kV uD r)<|aN r (sP r r)<|aG (fr':=[(1,aD),(5,aI),(44,aB)]) r r<|cN h22 r (fun b23 h23=>?_) (fun b23 h23=>?_)
    ·
     refine aH<|sB r<|aG (fr':=[(2,aB)]) r r<|bJ<|bM<|aQ<|aQ<|bM<|aQ<|aQ ?_
     have h24:=eZ h23 ho19
     have h25:=gT h24 h17
     obtain rfl:=sy h25
     exact bI (rs':=[.tmp 2]) r<|bX (v:=aB) r<|bG<|aP [] r r r lr aC
    ·
     exact bL<|dH<|cY<|bA<|mI r<|aN r (fY r r)<|sI r<|dT (fr':=[(1,aD),(5,aI),(44,aB)]) r<|e_l _ (sy h23) (bH [] 1 r r r r kU (cV r aC))
   ·
    refine iA<|cX<|cX<|fS ?_
    have h27:=eZ h20 ho19
    exact kI _ (sy h27) (bH [] 1 r r r r ⟨lr,trivial⟩ (cV r aC))
  ·
   intro j18 hj28
   have h28:=mY hj28 h17
   refine cY<|aH<|aN r (bE aCq r)<|aN r (aJ (v:=aS) mG r r r)<|aN r (qZ r r)<|mB r<|og r r r (fun u=>(bE aCq r))<|og r r r (fun u=>(aJ (v:=aS) mG (gx r u) r r))<|bx h28 fun x29 y29 h30=>uP r r (fun u=>bC (v:=aB) r (wN (cZ y29 u)) ⟨(fH (gx r u) lr),trivial⟩ (gO (by repeat (first | exact fC | refine aZ r ?_ | refine aZ (rG r) ?_ | refine aZ rF ?_))) r r) ?_
   refine aN r (cM r r r (fun e=>fU e))<|mB r<|og r r r (fun u=>(bE aF2 r))<|og r r r (fun u=>(aJ (v:=aI) gA (gx r u) r r))<|bx h30 fun x31 y31 h32=>uP r r (fun u=>bC (v:=aB) r (vX (cZ y31 u)) ⟨(fH (gx r u) lr),lr,lr,trivial⟩ (gO (by repeat (first | exact fC | refine aZ r ?_ | refine aZ (rG r) ?_ | refine aZ rF ?_))) r r) ?_
   refine aN r (cB r r r (fun e=>fU e))<|mB r<|og r r r (fun u=>(bE aF4 r))<|og r r r (fun u=>(aJ (v:=aI) gA (gx r u) r r))<|bx h32 fun x33 y33 h34=>uP r r (fun u=>bC (v:=aB) r (vX (cZ y33 u)) ⟨(fH (gx r u) lr),lr,lr,trivial⟩ (gO (by repeat (first | exact fC | refine aZ r ?_ | refine aZ (rG r) ?_ | refine aZ rF ?_))) r r) ?_
   refine aN r (cB r r r (fun e=>fU e))<|mB r<|og r r r (fun u=>(bE uA r))<|og r r r (fun u=>(aJ (v:=aL) sE (gx r u) r r))<|og r r r (fun u=>(gQ yZ (eD (gx r u))))<|og r r r (fun u=>(qH (gx r u) r))<|aN r (cB r r r (fun e=>fU e))<|sB r<|aG (fr':=[(2,aB)]) r r<|bJ ?_
   obtain rfl:=sy h34
   exact bI (rs':=[.tmp 2]) r<|bX (v:=aB) r<|bG<|aP [] r r r lr aC
noncomputable def sK (p1o:dR) (s12:((List UInt8) × Int)):Option (dU ((List UInt8) × Int) (List UInt8)) :=
 cond (decide (s12.2<((([p1o.ToStart,p1o.ToClose,p1o.Total,p1o.Beat,p1o.First,p1o.Coef,p1o.Most,p1o.Attempts,((p1o.Fatal).length:Int)]:List Int)).length:Int))) ((mP ([p1o.ToStart,p1o.ToClose,p1o.Total,p1o.Beat,p1o.First,p1o.Coef,p1o.Most,p1o.Attempts,((p1o.Fatal).length:Int)]:List Int) s12.2).bind fun x14=>(jB s12.1 x14).bind fun x16=>some (dU.next (x16,(IntKind.wrap .i64 (s12.2+1))))) (some (dU.out s12.1))
noncomputable def sM (p1o:dR) (s23:((List UInt8) × Int)):Option (dU ((List UInt8) × Int) (List UInt8)) :=
 cond (decide (s23.2<((p1o.Fatal).length:Int))) ((mP p1o.Fatal s23.2).bind fun x25=>(kH s23.1 x25).bind fun x27=>some (dU.next (x27,(IntKind.wrap .i64 (s23.2+1))))) (some (dU.out s23.1))
noncomputable def pK (p0b:(List UInt8)) (p1o:dR):Option (List UInt8) :=
 (app 1 ([]:List UInt8) p0b).bind fun x1=>(qT p1o).bind fun x3=>cond (!x3) (some x1) ((kH x1 p1o.Queue).bind fun x7=>(gL (sK p1o) ((x7,0))).bind fun x9=>((gL (sM p1o) ((x9,0))).bind fun x20=>(some x20)))
theorem aEZ {p0b:(List UInt8)}{p1o:dR}{z:(List UInt8)} (h:pK p0b p1o=some z):cR Tryz.prog 60 [.c (PV.ls 1 hF p0b),.agg (AV.cs (lP p1o))] [] (AV.os 0 1 hF z) []:=by
 unfold pK at h
 refine dQ (fn:=Tryz.f60) [0,1,3,4,5,6,7,8,14,43,56] (by kernel_rfl) Tryz.func60 r (by kernel_rfl) (by kernel_rfl)<|aH<|iR (v:=.agg dE) (n:=0) (cs:=dE) (σ':=[dE]) r r r r r<|sV (v:=AV.nil) r<|aG (fr':=[(0,aL),(3,aD)]) r r<|aH<|sV (v:=AV.nil) r<|aG (fr':=[(0,aL),(3,aD),(5,AV.nil)]) r r<|aH<|mV (v:=AV.nil) r<|mL r<|bx h fun x1 y1 h2=>aSg (row:=hF) aCu r aFi r (eD r) (fun _=>r) y1<|sV (v:=aO) r<|aG (fr':=[(3,aD),(5,aO)]) r r<|aU<|aH<|aN r (dN (us:=dE) aAm r r r r)<|bx h2 fun x3 y3 h4=>kB (bC (v:=aB) r (aBN y3) ⟨(bQ r zX),trivial⟩ r r r)<|aN r (fP r)<|aG (fr':=[(3,aD),(5,aO),(14,aB)]) r r<|cN h4 r (fun b5 h5=>?_) (fun b5 h5=>?_)
 ·
  refine aH<|mV (v:=aO) r<|sV (v:=aO) r<|aG (fr':=[(4,aO)]) r r<|bJ<|aQ ?_
  obtain rfl:=sy h5
  exact bI (rs':=[.tmp 4]) r<|bX (v:=aO) r<|bG<|aP [176] r r r lr aC
 ·
  refine bL<|cY<|aH<|mV (v:=aO) r<|aN r (bE aCq r)<|aN r (aJ (v:=aS) mG r r r)<|bx h5 fun x7 y7 h8=>kB (bC (v:=aO) r (rB y7) kU r r r)<|sV (v:=aO) r<|aG (fr':=[(3,aD),(5,aO)]) r r<|aH<|aN r (bE aFX r)<|aN r (aJ (v:=aI) gA r r r)<|aN r (bE aFY r)<|aN r (aJ (v:=aI) gA r r r)<|aN r (bE aFZ r)<|aN r (aJ (v:=aI) gA r r r)<|aN r (bE aF0 r)<|aN r (aJ (v:=aI) gA r r r)<|aN r (bE aF1 r)<|aN r (aJ (v:=aI) gA r r r)<|aN r (bE aF2 r)<|aN r (aJ (v:=aI) gA r r r)<|aN r (bE aF3 r)<|aN r (aJ (v:=aI) gA r r r)<|aN r (bE aF4 r)<|aN r (aJ (v:=aI) gA r r r)<|aN r (bE uA r)<|aN r (aJ (v:=aL) sE r r r)<|aN r (gQ yZ (eD r))<|sW (row:=(aFU .i64)) (xs:=([p1o.ToStart,p1o.ToClose,p1o.Total,p1o.Beat,p1o.First,p1o.Coef,p1o.Most,p1o.Attempts,((p1o.Fatal).length:Int)]:List Int)) (rows:=[[_],[_],[_],[_],[_],[_],[_],[_],[_]]) (σ':=[dE]) [0] aG6 r r r (eI r (eI r (eI r (eI r (eI r (eI r (eI r (eI r (eI r mX))))))))) r r<|sV (v:=aO) r<|aG (fr':=[(3,aD),(5,aO),(6,aO)]) r r<|aU<|aH<|sI r<|aG (fr':=[(3,aD),(5,aO),(6,aO),(7,aI)]) r r<|bx h8 fun x9 y9 h10=>gY kS (fun j11=>x9=j11) (fun (j11:(List UInt8))=>([(3,aD),(5,AV.os 0 1 hF j11)]:Fr)) (fun (j11:(List UInt8))=>([[.c (.str p1o.Queue),ci p1o.ToStart,ci p1o.ToClose,ci p1o.Total,ci p1o.Beat,ci p1o.First,ci p1o.Coef,ci p1o.Most,ci p1o.Attempts,.c (PV.ls 1 fZ p1o.Fatal)]]:St)) ?_ ?_
  ·
   refine cE<|gU _ (fun (s12:((List UInt8) × Int))=>([(3,aD),(5,AV.os 0 1 hF s12.1),(6,AV.os 1 1 (aFU .i64) ([p1o.ToStart,p1o.ToClose,p1o.Total,p1o.Beat,p1o.First,p1o.Coef,p1o.Most,p1o.Attempts,((p1o.Fatal).length:Int)]:List Int)),(7,ci s12.2)]:Fr)) (fun (s12:((List UInt8) × Int))=>([[.c (.str p1o.Queue),ci p1o.ToStart,ci p1o.ToClose,ci p1o.Total,ci p1o.Beat,ci p1o.First,ci p1o.Coef,ci p1o.Most,ci p1o.Attempts,.c (PV.ls 1 fZ p1o.Fatal)]]:St)) y9 (bH [304,624] 1 r r r r kL4 (cV r aC)) ?_
   intro s12 st12 hs12 ho12
   unfold sK at hs12
   refine aU<|aH<|mI r<|mV (v:=aO) r<|aN r (gQ aPo (rQ r))<|aN r (gC r r)<|aG (fr':=[(3,aD),(5,aO),(6,aO),(7,aI),(43,aB)]) r r<|cN hs12 r (fun b13 h13=>?_) (fun b13 h13=>?_)
   ·
    exact bL<|cY<|aU<|cE<|bA<|mV (v:=aO) r<|mV (v:=aO) r<|mI r<|bx h13 fun x14 y14 h15=>aN r (lT (cs:=[PV.int _ _]) aG6 (rQ r) r y14 r)<|aN r (iO (p:=PV.int _ _) gA r r)<|bx h15 fun x16 y16 h17=>kB (bC (v:=aO) r (nN y16) kU r r r)<|sV (v:=aO) r<|dT (fr':=[(3,aD),(5,aO),(6,aO),(7,aI),(43,aB)]) r<|dH<|cY<|bA<|mI r<|aN r (fY r r)<|sI r<|dT (fr':=[(3,aD),(5,aO),(6,aO),(7,aI),(43,aB)]) r<|e_l _ (sy h17) (bH [816,1] 1 r r r r kL4 (cV r aC))
   ·
    refine iA<|cX<|cX<|fS ?_
    have h18:=eZ h13 ho12
    exact kI _ (sy h18) (bH [0] 1 r r r r kU (cV r aC))
  ·
   intro j11 hj19
   subst hj19
   refine cY<|aU<|aH<|sI r<|aG (fr':=[(3,aD),(5,aO),(8,aI)]) r r<|bx h10 fun x20 y20 h21=>gY kS (fun j22=>x20=j22) (fun (j22:(List UInt8))=>([(5,AV.os 0 1 hF j22)]:Fr)) (fun (j22:(List UInt8))=>([[.c (.str p1o.Queue),ci p1o.ToStart,ci p1o.ToClose,ci p1o.Total,ci p1o.Beat,ci p1o.First,ci p1o.Coef,ci p1o.Most,ci p1o.Attempts,.c (PV.ls 1 fZ p1o.Fatal)]]:St)) ?_ ?_
   ·
    refine cE<|gU _ (fun (s23:((List UInt8) × Int))=>([(3,aD),(5,AV.os 0 1 hF s23.1),(8,ci s23.2)]:Fr)) (fun (s23:((List UInt8) × Int))=>([[.c (.str p1o.Queue),ci p1o.ToStart,ci p1o.ToClose,ci p1o.Total,ci p1o.Beat,ci p1o.First,ci p1o.Coef,ci p1o.Most,ci p1o.Attempts,.c (PV.ls 1 fZ p1o.Fatal)]]:St)) y20 (bH [0] 1 r r r r lG (cV r aC)) ?_
    intro s23 st23 hs23 ho23
    unfold sM at hs23
    refine aU<|aH<|mI r<|aN r (bE uA r)<|aN r (aJ (v:=aL) sE r r r)<|aN r (gQ yZ (eD r))<|aN r (gC r r)<|aG (fr':=[(3,aD),(5,aO),(8,aI),(56,aB)]) r r<|cN hs23 r (fun b24 h24=>?_) (fun b24 h24=>?_)
    ·
     exact bL<|cY<|aU<|cE<|bA<|mV (v:=aO) r<|aN r (bE uA r)<|aN r (aJ (v:=aL) sE r r r)<|mI r<|bx h24 fun x25 y25 h26=>aN r (lT (cs:=[PV.str _]) aBI (eD r) r y25 r)<|aN r (iO (p:=PV.str _) mG r r)<|bx h26 fun x27 y27 h28=>kB (bC (v:=aO) r (rB y27) kU r r r)<|sV (v:=aO) r<|dT (fr':=[(3,aD),(5,aO),(8,aI),(56,aB)]) r<|dH<|cY<|bA<|mI r<|aN r (fY r r)<|sI r<|dT (fr':=[(3,aD),(5,aO),(8,aI),(56,aB)]) r<|e_l _ (sy h28) (bH [1040] 1 r r r r lG (cV r aC))
    ·
     refine iA<|cX<|cX<|fS ?_
     have h29:=eZ h24 ho23
     exact kI _ (sy h29) (bH [0] 1 r r r r ⟨lr,trivial⟩ (cV r aC))
   ·
    intro j22 hj30
    subst hj30
    refine cY<|aH<|mV (v:=aO) r<|sV (v:=aO) r<|aG (fr':=[(4,aO)]) r r<|bJ ?_
    obtain rfl:=sy h21
    exact bI (rs':=[.tmp 4]) r<|bX (v:=aO) r<|bG<|aP [0] r r r lr aC
