import Derived.Test.YtnigjppddilpcaaGreatDoorGETy
namespace Go.Proofs.YtnigjppddilpcaaGreatDoor
open Go Abs
set_option maxRecDepth 100000
set_option linter.unusedVariables false
set_option linter.unusedSimpArgs false
noncomputable def sP (p0n:Int):Option Int :=
 cond (decide ((0:Int)≤p0n)) (some (IntKind.wrap .u64 ((2:Int)*(IntKind.wrap .u64 p0n)))) (some (IntKind.wrap .u64 ((IntKind.wrap .u64 ((2:Int)*(IntKind.wrap .u64 (IntKind.wrap .i64 (0 - (IntKind.wrap .i64 (p0n+(1:Int))))))))+(1:Int))))
theorem aFU {p0n:Int}{res:Int} (h:sP p0n=some res):bT Tryz.prog 132 [ci p0n] [] (.c (.int .u64 res)) []:=by
 unfold sP at h
 refine cJ (fn:=Tryz.f132) [0,2,4] (by kernel_rfl) Tryz.func132 r (by kernel_rfl) (by kernel_rfl)<|aH<|sI r<|aF (fr':=[(0,aI)]) r r<|aR<|aH<|mI r<|aK r (lC r r)<|aF (fr':=[(0,aI),(4,aB)]) r r<|bS h r (fun hb1 h1=>?_) (fun hb1 h1=>?_)
 ·
  refine aH<|mI r<|aK r (tZ tk3 aAT r)<|aK r (aKO r r)<|sI r<|aF (fr':=[(2,aI)]) r r<|bF<|aM ?_
  obtain rfl:=sy h1
  exact bE (rs':=[.tmp 2]) r<|bG (v:=aI) r<|bD<|aN [] r r r lr aC
 ·
  refine aW<|bZ<|aH<|mI r<|aK r (dZ r r)<|aK r (aKP r)<|aK r (tZ tk3 aAT r)<|aK r (aKO r r)<|aK r (dZ r r)<|sI r<|aF (fr':=[(2,aI)]) r r<|bF ?_
  obtain rfl:=sy h1
  exact bE (rs':=[.tmp 2]) r<|bG (v:=aI) r<|bD<|aN [] r r r lr aC
noncomputable def rG  (s8:((List UInt8) × Int)):Option (cM ((List UInt8) × Int) ((List UInt8) × Int)) :=
 cond (decide ((127:Int)<s8.2)) ((vF (IntKind.wrap .u8 (IntKind.wrap .u64 ((Int.tmod s8.2 (128:Int))+(128:Int))))).bind fun x10=>(app 1 s8.1 ([x10]:List UInt8)).bind fun x12=>some (cM.next (x12,(IntKind.wrap .u64 (Int.tdiv s8.2 (128:Int)))))) (some (cM.out (s8.1,s8.2)))
noncomputable def gB (p0b:(List UInt8)) (p1n:Int):Option (List UInt8) :=
 (app 1 ([]:List UInt8) p0b).bind fun x1=>(sP p1n).bind fun x3=>((eQ (rG) ((x1,x3))):Option ((List UInt8) × Int)).bind fun x5=>((vF (IntKind.wrap .u8 x5.2)).bind fun x16=>(app 1 x5.1 ([x16]:List UInt8)).bind fun x18=>some x18)
theorem gT {p0b:(List UInt8)}{p1n:Int}{res:(List UInt8)} (h:gB p0b p1n=some res):bT Tryz.prog 57 [.c (PV.ls 1 eL p0b),ci p1n] [] (AV.os 0 1 eL res) []:=by
 unfold gB at h
 refine cJ (fn:=Tryz.f57) [0,1,4,5,6,13] (by kernel_rfl) Tryz.func57 r (by kernel_rfl) (by kernel_rfl)<|aH<|sV (v:=AV.nil) r<|aF (fr':=[(0,aL),(1,aI)]) r r<|aH<|mT (row:=eL) (xs:=([]:List UInt8)) (rows:=[]) (σ':=[]) [0] xJ r r r iC r r<|mL r ?_
 obtain ⟨x1,hx1,h2⟩:=aE h
 refine aAB (row:=eL) xJ r aAR r (cR r) (fun _=>r) hx1<|sV (v:=aO) r<|aF (fr':=[(1,aI),(5,aO)]) r r<|aH<|mI r ?_
 obtain ⟨x3,hx3,h4⟩:=aE h2
 refine gW (aY (v:=aI) r (aFU hx3) ⟨lr,trivial⟩ r r r)<|sI r<|aF (fr':=[(5,aO),(6,aI)]) r r ?_
 obtain ⟨x5,hx5,h6⟩:=aE h4
 refine fP (fun j7=>x5=j7) (fun (j7:((List UInt8) × Int))=>([(5,AV.os 0 1 eL j7.1),(6,.c (.int .u64 j7.2))]:Fr)) (fun (j7:((List UInt8) × Int))=>([]:St)) ?_ ?_
 ·
  refine bL<|eK _ (fun (s8:((List UInt8) × Int))=>([(5,AV.os 0 1 eL s8.1),(6,.c (.int .u64 s8.2))]:Fr)) (fun (s8:((List UInt8) × Int))=>([]:St)) hx5 (aU [144] 0 r r r r ⟨lr,lr,trivial⟩ aC) ?_
  intro s8 st8 hs8 ho8
  unfold rG at hs8
  refine aR<|aH<|mI r<|aK r (mG r r)<|aF (fr':=[(5,aO),(6,aI),(13,aB)]) r r<|bS hs8 r (fun hb9 h9=>?_) (fun hb9 h9=>?_)
  ·
   refine aW<|bZ<|bL<|aH<|mV (v:=aO) r<|mI r<|aK r (aOE r r (by decide))<|aK r (dZ r r)<|aK r (tZ aAT tk5 r) ?_
   obtain ⟨x10,hx10,h11⟩:=aE h9
   refine mT (row:=eL) (xs:=([x10]:List UInt8)) (rows:=[[_]]) (σ':=[]) [0] xJ r r r (cB (aBb hx10) iC) r r ?_
   obtain ⟨x12,hx12,h13⟩:=aE h11
   exact aAB (row:=eL) xJ r aAR r (kQ r) (fun _=>r) hx12<|sV (v:=aO) r<|aF (fr':=[(5,aO),(6,aI)]) r r<|aT<|mI r<|aK r (aOD r r (by decide))<|sI r<|cD (fr':=[(5,aO),(6,aI)]) r<|bW<|tU _ (sy h13) (aU [320] 0 r r r r ⟨lr,lr,trivial⟩ aC)
  ·
   refine eZ<|bY<|bY<|dX ?_
   have h14:=dB h9 ho8
   exact fS _ (sy h14) (aU [0] 0 r r r r ⟨lr,lr,trivial⟩ aC)
 ·
  intro j7 hj15
  subst hj15
  refine aH<|mV (v:=aO) r<|mI r<|aK r (tZ aAT tk5 r) ?_
  obtain ⟨x16,hx16,h17⟩:=aE h6
  refine mT (row:=eL) (xs:=([x16]:List UInt8)) (rows:=[[_]]) (σ':=[]) [0] xJ r r r (cB (aBb hx16) iC) r r ?_
  obtain ⟨x18,hx18,h19⟩:=aE h17
  refine aAB (row:=eL) xJ r aAR r (kQ r) (fun _=>r) hx18<|sV (v:=aO) r<|aF (fr':=[(5,aO)]) r r<|aH<|mV (v:=aO) r<|sV (v:=aO) r<|aF (fr':=[(4,aO)]) r r<|bF ?_
  obtain rfl:=sy h19
  exact bE (rs':=[.tmp 4]) r<|bG (v:=aO) r<|bD<|aN [432] r r r lr aC
noncomputable def qC (p1s:(List UInt8)) (s6:((List UInt8) × Int)):Option (cM ((List UInt8) × Int) (List UInt8)) :=
 cond (decide (s6.2<((p1s).length:Int))) ((jT p1s s6.2).bind fun x8=>(vF ((x8).toNat:Int)).bind fun x10=>(app 1 s6.1 ([x10]:List UInt8)).bind fun x12=>some (cM.next (x12,(IntKind.wrap .i64 (s6.2+(1:Int)))))) (some (cM.out s6.1))
noncomputable def gU (p0b:(List UInt8)) (p1s:(List UInt8)):Option (List UInt8) :=
 (gB p0b ((p1s).length:Int)).bind fun x1=>((eQ (qC p1s) ((x1,(0:Int)))):Option (List UInt8)).bind fun x3=>(some x3)
theorem iY {p0b:(List UInt8)}{p1s:(List UInt8)}{res:(List UInt8)} (h:gU p0b p1s=some res):bT Tryz.prog 58 [.c (PV.ls 1 eL p0b),.c (.str p1s)] [] (AV.os 0 1 eL res) []:=by
 unfold gU at h
 refine cJ (fn:=Tryz.f58) [0,1,4,5,6,14] (by kernel_rfl) Tryz.func58 r (by kernel_rfl) (by kernel_rfl)<|aH<|sV (v:=AV.nil) r<|aF (fr':=[(0,aL),(1,aS)]) r r<|aH<|mL r<|mS r<|aK r (gS nJ r) ?_
 obtain ⟨x1,hx1,h2⟩:=aE h
 refine gW (aY (v:=aO) r (gT hx1) ⟨lr,lr,trivial⟩ r r r)<|sV (v:=aO) r<|aF (fr':=[(1,aS),(5,aO)]) r r<|aR<|aH<|sI r<|aF (fr':=[(1,aS),(5,aO),(6,aI)]) r r ?_
 obtain ⟨x3,hx3,h4⟩:=aE h2
 refine eR gX (fun j5=>x3=j5) (fun (j5:(List UInt8))=>([(5,AV.os 0 1 eL j5)]:Fr)) (fun (j5:(List UInt8))=>([]:St)) ?_ ?_
 ·
  refine bL<|eK _ (fun (s6:((List UInt8) × Int))=>([(1,.c (.str p1s)),(5,AV.os 0 1 eL s6.1),(6,ci s6.2)]:Fr)) (fun (s6:((List UInt8) × Int))=>([]:St)) hx3 (aU [160] 0 r r r r ⟨lr,lr,lr,trivial⟩ aC) ?_
  intro s6 st6 hs6 ho6
  unfold qC at hs6
  refine aR<|aH<|mI r<|mS r<|aK r (gS nJ r)<|aK r (eA r r)<|aF (fr':=[(1,aS),(5,aO),(6,aI),(14,aB)]) r r<|bS hs6 r (fun hb7 h7=>?_) (fun hb7 h7=>?_)
  ·
   refine aW<|bZ<|aR<|bL<|aT<|mV (v:=aO) r<|mS r<|mI r ?_
   obtain ⟨x8,hx8,h9⟩:=aE h7
   refine aK r (xI nJ r r hx8) ?_
   obtain ⟨x10,hx10,h11⟩:=aE h9
   refine mT (row:=eL) (xs:=([x10]:List UInt8)) (rows:=[[_]]) (σ':=[]) [0] xJ r r r (cB (aBb hx10) iC) r r ?_
   obtain ⟨x12,hx12,h13⟩:=aE h11
   exact aAB (row:=eL) xJ r aAR r (kQ r) (fun _=>r) hx12<|sV (v:=aO) r<|cD (fr':=[(1,aS),(5,aO),(6,aI),(14,aB)]) r<|bW<|bZ<|aT<|mI r<|aK r (dZ r r)<|sI r<|cD (fr':=[(1,aS),(5,aO),(6,aI),(14,aB)]) r<|tU _ (sy h13) (aU [352] 0 r r r r ⟨lr,lr,lr,trivial⟩ aC)
  ·
   refine eZ<|bY<|bY<|dX ?_
   have h14:=dB h7 ho6
   exact fS _ (sy h14) (aU [0] 0 r r r r ⟨lr,trivial⟩ aC)
 ·
  intro j5 hj15
  subst hj15
  refine bZ<|aH<|mV (v:=aO) r<|sV (v:=aO) r<|aF (fr':=[(4,aO)]) r r<|bF ?_
  obtain rfl:=sy h4
  exact bE (rs':=[.tmp 4]) r<|bG (v:=aO) r<|bD<|aN [0] r r r lr aC
noncomputable def rI (zC:(List (List UInt8))) (s4:Int):Option (cM Int (Fl Bool Unit)) :=
 cond (decide (s4<((zC).length:Int))) ((jT zC (IntKind.wrap .i64 (s4 - (1:Int)))).bind fun x6=>(jT zC s4).bind fun x8=>cond (!Op.bytesLess x6 x8) (some (cM.out (Fl.done false))) (some (cM.next (IntKind.wrap .i64 (s4+(1:Int)))))) (some (cM.out (Fl.go ())))
noncomputable def sR (zC:(List (List UInt8))):Option Bool :=
 ((eQ (rI zC) ((1:Int))):Option (Fl Bool Unit)).bind fun x1=>Fl.next x1 (fun j3=>(some true))
theorem aFW {zC:(List (List UInt8))}{res:Bool} (h:sR zC=some res):bT Tryz.prog 180 [.c (PV.ls 1 dD zC)] [] (.c (.bool res)) []:=by
 unfold sR at h
 refine cJ (fn:=Tryz.f180) [0,2,3,7,19] (by kernel_rfl) Tryz.func180 r (by kernel_rfl) (by kernel_rfl)<|aH<|sB r<|aF (fr':=[(0,aL)]) r r<|aR<|aH<|sI r<|aF (fr':=[(0,aL),(3,aI)]) r r ?_
 obtain ⟨x1,hx1,h2⟩:=aE h
 refine eR gX (fun j3=>x1=Fl.go j3) (fun (j3:Unit)=>([]:Fr)) (fun (j3:Unit)=>([]:St)) ?_ ?_
 ·
  refine bL<|eK _ (fun (s4:Int)=>([(0,.c (PV.ls 1 dD zC)),(3,ci s4)]:Fr)) (fun (s4:Int)=>([]:St)) hx1 (aU [] 0 r r r r ⟨lr,lr,trivial⟩ aC) ?_
  intro s4 st4 hs4 ho4
  unfold rI at hs4
  refine aR<|aH<|mI r<|mL r<|aK r (eC pU (cR r))<|aK r (eA r r)<|aF (fr':=[(0,aL),(3,aI),(7,aB)]) r r<|bS hs4 r (fun hb5 h5=>?_) (fun hb5 h5=>?_)
  ·
   refine aW<|bZ<|aR<|bL<|aR<|hF [.q 0,.q 1,.q 2,.q 3,.q 4,.q 5,.q 6,.q 7,.q 8,.q 9] [(some 10,[0]),(some 11,[3]),(some 12,[11]),(some 13,[10,12]),(some 14,[13]),(some 15,[0]),(some 16,[3]),(some 17,[15,16]),(some 18,[17]),(some 19,[14,18])] [0,0,2,7,15,0,0,96,224,511] (by kernel_rfl)<|dq r r (bC (v:=aL) r)<|dq r r (bC (v:=aI) r)<|dq r r (aFq r r) ?_
   obtain ⟨x6,hx6,h7⟩:=aE h5
   refine dq r r (iL (cs:=[PV.str _]) rV (cR r) r hx6 r)<|dq r r (fU (p:=PV.str _) iE r r)<|dq r r (bC (v:=aL) r)<|dq r r (bC (v:=aI) r) ?_
   obtain ⟨x8,hx8,h9⟩:=aE h7
   refine dq r r (iL (cs:=[PV.str _]) rV (cR r) r hx8 r)<|dq r r (fU (p:=PV.str _) iE r r)<|dq r r (aMY r r)<|tS (fr':=[(0,aL),(3,aI),(19,aB)]) r r<|bS h9 r (fun hb10 h10=>?_) (fun hb10 h10=>?_)
   ·
    refine aH<|sB r<|aF (fr':=[(2,aB)]) r r<|bF<|bH<|aM<|aM<|bH<|aM<|aM ?_
    have h11:=dB h10 ho4
    have h12:=eH h11 h2
    obtain rfl:=sy h12
    exact bE (rs':=[.tmp 2]) r<|bG (v:=aB) r<|bD<|aN [] r r r lr aC
   ·
    exact aW<|bW<|bZ<|aT<|mI r<|aK r (dZ r r)<|sI r<|cD (fr':=[(0,aL),(3,aI),(19,aB)]) r<|tU _ (sy h10) (aU [] 0 r r r r ⟨lr,lr,trivial⟩ aC)
  ·
   refine eZ<|bY<|bY<|dX ?_
   have h14:=dB h5 ho4
   exact fS _ (sy h14) (aU [] 0 r r r r trivial aC)
 ·
  intro j3 hj15
  have h15:=iS hj15 h2
  refine bZ<|aH<|sB r<|aF (fr':=[(2,aB)]) r r<|bF ?_
  obtain rfl:=sy h15
  exact bE (rs':=[.tmp 2]) r<|bG (v:=aB) r<|bD<|aN [] r r r lr aC
noncomputable def nD (aAH:aG→Option Bool) (p0C:aG) (s4:Int):Option (cM Int (Fl Bool Unit)) :=
 cond (decide (s4<((p0C.Items).length:Int))) ((jT p0C.Items s4).bind fun x6=>(aAH x6).bind fun x8=>cond (!x8) (some (cM.out (Fl.done false))) (some (cM.next (IntKind.wrap .i64 (s4+(1:Int)))))) (some (cM.out (Fl.go ())))
noncomputable def iP:Nat→aG→Option Bool
 | 0,_=>none
 | n+1,p0C =>
  ((eQ (nD (iP n) p0C) ((0:Int))):Option (Fl Bool Unit)).bind fun x1=>Fl.next x1 (fun j3=>(cond (decide (p0C.Kind=(0:Int))) (some (cond (cond (cond (decide (p0C.Int=(0:Int))) (decide (p0C.Text=([]:List UInt8))) false) (decide (((p0C.Items).length:Int)=(0:Int))) false) (decide (((p0C.Keys).length:Int)=(0:Int))) false)) (cond (decide (p0C.Kind=(1:Int))) (some (cond (cond (cond (cond (decide (p0C.Int=(0:Int))) true (decide (p0C.Int=(1:Int)))) (decide (p0C.Text=([]:List UInt8))) false) (decide (((p0C.Items).length:Int)=(0:Int))) false) (decide (((p0C.Keys).length:Int)=(0:Int))) false)) (cond (decide (p0C.Kind=(2:Int))) (some (cond (cond (decide (p0C.Text=([]:List UInt8))) (decide (((p0C.Items).length:Int)=(0:Int))) false) (decide (((p0C.Keys).length:Int)=(0:Int))) false)) (cond (decide (p0C.Kind=(3:Int))) (some (cond (cond (decide (p0C.Int=(0:Int))) (decide (((p0C.Items).length:Int)=(0:Int))) false) (decide (((p0C.Keys).length:Int)=(0:Int))) false)) (cond (decide (p0C.Kind=(4:Int))) (some (cond (cond (decide (p0C.Int=(0:Int))) (decide (p0C.Text=([]:List UInt8))) false) (decide (((p0C.Keys).length:Int)=(0:Int))) false)) (cond (decide (p0C.Kind=(5:Int))) ((gd ((cond (cond (decide (p0C.Int=(0:Int))) (decide (p0C.Text=([]:List UInt8))) false) (decide (((p0C.Keys).length:Int)=((p0C.Items).length:Int))) false)==true) (sR p0C.Keys)).bind fun x27=>some (cond (cond (cond (decide (p0C.Int=(0:Int))) (decide (p0C.Text=([]:List UInt8))) false) (decide (((p0C.Keys).length:Int)=((p0C.Items).length:Int))) false) x27 false)) (cond (decide (p0C.Kind=(6:Int))) (some (cond (cond (cond (decide ((0:Int)≤p0C.Int)) (decide (p0C.Text=([]:List UInt8))) false) (decide (((p0C.Items).length:Int)=(0:Int))) false) (decide (((p0C.Keys).length:Int)=(0:Int))) false)) (some false)))))))))
theorem aBp:∀ n:Nat,(∀ {p0C:aG}{res:Bool},iP n p0C=some res→bT Tryz.prog 133 [.agg (AV.cs (cV p0C))] [] (.c (.bool res)) []):=by
 intro n
 induction n with
 | zero=>exact fun {p0C res} h=>absurd h (by simp [iP])
 | succ n ih =>
  have ih_ref02xWellFormed:=@ih
  intro p0C res h
  rw [iP] at h
  refine cJ (fn:=Tryz.f133) [0,1,2,3,8,17,19,20,42,69,86,103,119,143] (by kernel_rfl) Tryz.func133 r (by kernel_rfl) (by kernel_rfl)<|aH<|fW (v:=.agg bQ) (n:=0) (cs:=bQ) (σ':=[bQ]) r r r r r<|sB r<|aF (fr':=[(1,.box 0 0)]) r r<|aR<|aH<|sI r<|aF (fr':=[(1,.box 0 0),(3,aI)]) r r ?_
  obtain ⟨x1,hx1,h2⟩:=aE h
  refine eR gX (fun j3=>x1=Fl.go j3) (fun (j3:Unit)=>([(1,.box 0 0)]:Fr)) (fun (j3:Unit)=>([[ci p0C.Kind,ci p0C.Int,.c (.str p0C.Text),.c (PV.ls 5 bB p0C.Items),.c (PV.ls 1 dD p0C.Keys)]]:St)) ?_ ?_
  ·
   refine bL<|eK _ (fun (s4:Int)=>([(1,.box 0 0),(3,ci s4)]:Fr)) (fun (s4:Int)=>([[ci p0C.Kind,ci p0C.Int,.c (.str p0C.Text),.c (PV.ls 5 bB p0C.Items),.c (PV.ls 1 dD p0C.Keys)]]:St)) hx1 (aU [] 1 r r r r ⟨lr,lr,trivial⟩ (bJ r aC)) ?_
   intro s4 st4 hs4 ho4
   unfold nD at hs4
   refine aR<|aH<|mI r<|aK r (aZ fM r)<|aK r (aJ (v:=aL) kD r r r)<|aK r (eC qM (cR r))<|aK r (eA r r)<|aF (fr':=[(1,.box 0 0),(3,aI),(8,aB)]) r r<|bS hs4 r (fun hb5 h5=>?_) (fun hb5 h5=>?_)
   ·
    refine aW<|bZ<|aR<|bL<|aH<|aK r (aZ fM r)<|aK r (aJ (v:=aL) kD r r r)<|mI r ?_
    obtain ⟨x6,hx6,h7⟩:=aE h5
    refine aK r (iL (cs:=[PV.int _ _,PV.int _ _,PV.str _,PV.ls _ _ _,PV.ls _ _ _]) tO (cR r) r hx6 (cY _))<|aK r (hG (us:=[PV.int _ _,PV.int _ _,PV.str _,PV.ls _ _ _,PV.ls _ _ _]) fV r r r) ?_
    obtain ⟨x8,hx8,h9⟩:=aE h7
    refine gW (aY (v:=aB) r (ih_ref02xWellFormed hx8) ⟨(bP r ⟨r,r,r,r,r,trivial⟩),trivial⟩ r r r)<|aK r (eD r)<|aF (fr':=[(1,.box 0 0),(3,aI),(17,aB)]) r r<|bS h9 r (fun hb10 h10=>?_) (fun hb10 h10=>?_)
    ·
     refine aH<|sB r<|aF (fr':=[(2,aB)]) r r<|bF<|bH<|aM<|aM<|bH<|aM<|aM ?_
     have h11:=dB h10 ho4
     have h12:=eH h11 h2
     obtain rfl:=sy h12
     exact bE (rs':=[.tmp 2]) r<|bG (v:=aB) r<|bD<|aN [] r r r lr aC
    ·
     exact aW<|bW<|bZ<|aT<|mI r<|aK r (dZ r r)<|sI r<|cD (fr':=[(1,.box 0 0),(3,aI),(17,aB)]) r<|tU _ (sy h10) (aU [] 1 r r r r ⟨lr,lr,trivial⟩ (bJ r aC))
   ·
    refine eZ<|bY<|bY<|dX ?_
    have h14:=dB h5 ho4
    exact fS _ (sy h14) (aU [] 1 r r r r ⟨lr,trivial⟩ (bJ r aC))
  ·
   intro j3 hj15
   have h15:=iS hj15 h2
   refine bZ<|aR<|aH<|aK r (aZ iR r)<|aK r (aJ (v:=aI) eB r r r)<|aF (fr':=[(1,.box 0 0),(19,aI)]) r r<|bL<|aH<|aK r (bO r r)<|sB r<|aF (fr':=[(1,.box 0 0),(19,aI),(20,aB)]) r r ?_
   refine bS h15 r (fun hb16 h16=>?_) (fun hb16 h16=>?_)
   ·
    refine aH<|aK r (aZ mY r)<|aK r (aJ (v:=aI) eB r r r)<|aK r (bO r r)<|mB r<|og r r r (fun hc=>(aZ oA r))<|og r r r (fun hc=>(aJ (v:=aS) iE (gx r hc) r r))<|og r r r (fun hc=>(kX (gx r hc) r))<|aK r (bM r r r (fun e=>eI e))<|mB r<|og r r r (fun hc=>(aZ fM r))<|og r r r (fun hc=>(aJ (v:=aL) kD (gx r hc) r r)) ?_
    refine og r r r (fun hc=>(eC qM (cR (gx r hc))))<|og r r r (fun hc=>(bO (gx r hc) r))<|aK r (bM r r r (fun e=>eI e))<|mB r<|og r r r (fun hc=>(aZ jW r))<|og r r r (fun hc=>(aJ (v:=aL) lN (gx r hc) r r))<|og r r r (fun hc=>(eC pU (cR (gx r hc))))<|og r r r (fun hc=>(bO (gx r hc) r))<|aK r (bM r r r (fun e=>eI e))<|sB r<|aF (fr':=[(2,aB)]) r r<|bF<|bH ?_
    refine aM ?_
    obtain rfl:=sy h16
    exact bE (rs':=[.tmp 2]) r<|bG (v:=aB) r<|bD<|aN [] r r r lr aC
   ·
    refine aH<|aK r (bO r r)<|sB r<|aF (fr':=[(1,.box 0 0),(19,aI),(42,aB)]) r r<|bS h16 r (fun hb18 h18=>?_) (fun hb18 h18=>?_)
    ·
     refine aH<|aK r (aZ mY r)<|aK r (aJ (v:=aI) eB r r r)<|aK r (bO r r)<|mB r<|og r r r (fun hc=>(aZ mY r))<|og r r r (fun hc=>(aJ (v:=aI) eB (gx r hc) r r))<|og r r r (fun hc=>(bO (gx r hc) r))<|aK r (bX r r r (fun e=>eI e))<|mB r<|og r r r (fun hc=>(aZ oA r))<|og r r r (fun hc=>(aJ (v:=aS) iE (gx r hc) r r)) ?_
     refine og r r r (fun hc=>(kX (gx r hc) r))<|aK r (bM r r r (fun e=>eI e))<|mB r<|og r r r (fun hc=>(aZ fM r))<|og r r r (fun hc=>(aJ (v:=aL) kD (gx r hc) r r))<|og r r r (fun hc=>(eC qM (cR (gx r hc))))<|og r r r (fun hc=>(bO (gx r hc) r))<|aK r (bM r r r (fun e=>eI e))<|mB r<|og r r r (fun hc=>(aZ jW r))<|og r r r (fun hc=>(aJ (v:=aL) lN (gx r hc) r r))<|og r r r (fun hc=>(eC pU (cR (gx r hc))))<|og r r r (fun hc=>(bO (gx r hc) r)) ?_
     refine aK r (bM r r r (fun e=>eI e))<|sB r<|aF (fr':=[(2,aB)]) r r<|bF<|bH<|aM ?_
     obtain rfl:=sy h18
     exact bE (rs':=[.tmp 2]) r<|bG (v:=aB) r<|bD<|aN [] r r r lr aC
    ·
     refine aH<|aK r (bO r r)<|sB r<|aF (fr':=[(1,.box 0 0),(19,aI),(69,aB)]) r r<|bS h18 r (fun hb20 h20=>?_) (fun hb20 h20=>?_)
     ·
      refine aH<|aK r (aZ oA r)<|aK r (aJ (v:=aS) iE r r r)<|aK r (kX r r)<|mB r<|og r r r (fun hc=>(aZ fM r))<|og r r r (fun hc=>(aJ (v:=aL) kD (gx r hc) r r))<|og r r r (fun hc=>(eC qM (cR (gx r hc))))<|og r r r (fun hc=>(bO (gx r hc) r))<|aK r (bM r r r (fun e=>eI e))<|mB r<|og r r r (fun hc=>(aZ jW r)) ?_
      refine og r r r (fun hc=>(aJ (v:=aL) lN (gx r hc) r r))<|og r r r (fun hc=>(eC pU (cR (gx r hc))))<|og r r r (fun hc=>(bO (gx r hc) r))<|aK r (bM r r r (fun e=>eI e))<|sB r<|aF (fr':=[(2,aB)]) r r<|bF<|bH<|aM ?_
      obtain rfl:=sy h20
      exact bE (rs':=[.tmp 2]) r<|bG (v:=aB) r<|bD<|aN [] r r r lr aC
     ·
      refine aH<|aK r (bO r r)<|sB r<|aF (fr':=[(1,.box 0 0),(19,aI),(86,aB)]) r r<|bS h20 r (fun hb22 h22=>?_) (fun hb22 h22=>?_)
      ·
       refine aH<|aK r (aZ mY r)<|aK r (aJ (v:=aI) eB r r r)<|aK r (bO r r)<|mB r<|og r r r (fun hc=>(aZ fM r))<|og r r r (fun hc=>(aJ (v:=aL) kD (gx r hc) r r))<|og r r r (fun hc=>(eC qM (cR (gx r hc))))<|og r r r (fun hc=>(bO (gx r hc) r))<|aK r (bM r r r (fun e=>eI e))<|mB r<|og r r r (fun hc=>(aZ jW r)) ?_
       refine og r r r (fun hc=>(aJ (v:=aL) lN (gx r hc) r r))<|og r r r (fun hc=>(eC pU (cR (gx r hc))))<|og r r r (fun hc=>(bO (gx r hc) r))<|aK r (bM r r r (fun e=>eI e))<|sB r<|aF (fr':=[(2,aB)]) r r<|bF<|bH<|aM ?_
       obtain rfl:=sy h22
       exact bE (rs':=[.tmp 2]) r<|bG (v:=aB) r<|bD<|aN [] r r r lr aC
      ·
       refine aH<|aK r (bO r r)<|sB r<|aF (fr':=[(1,.box 0 0),(19,aI),(103,aB)]) r r<|bS h22 r (fun hb24 h24=>?_) (fun hb24 h24=>?_)
       ·
        refine aH<|aK r (aZ mY r)<|aK r (aJ (v:=aI) eB r r r)<|aK r (bO r r)<|mB r<|og r r r (fun hc=>(aZ oA r))<|og r r r (fun hc=>(aJ (v:=aS) iE (gx r hc) r r))<|og r r r (fun hc=>(kX (gx r hc) r))<|aK r (bM r r r (fun e=>eI e))<|mB r<|og r r r (fun hc=>(aZ jW r))<|og r r r (fun hc=>(aJ (v:=aL) lN (gx r hc) r r)) ?_
        refine og r r r (fun hc=>(eC pU (cR (gx r hc))))<|og r r r (fun hc=>(bO (gx r hc) r))<|aK r (bM r r r (fun e=>eI e))<|sB r<|aF (fr':=[(2,aB)]) r r<|bF<|bH<|aM ?_
        obtain rfl:=sy h24
        exact bE (rs':=[.tmp 2]) r<|bG (v:=aB) r<|bD<|aN [] r r r lr aC
       ·
        refine aH<|aK r (bO r r)<|sB r<|aF (fr':=[(1,.box 0 0),(19,aI),(119,aB)]) r r<|bS h24 r (fun hb26 h26=>?_) (fun hb26 h26=>?_)
        ·
         refine aH<|aK r (aZ mY r)<|aK r (aJ (v:=aI) eB r r r)<|aK r (bO r r)<|mB r<|og r r r (fun hc=>(aZ oA r))<|og r r r (fun hc=>(aJ (v:=aS) iE (gx r hc) r r))<|og r r r (fun hc=>(kX (gx r hc) r))<|aK r (bM r r r (fun e=>eI e))<|mB r<|og r r r (fun hc=>(aZ jW r))<|og r r r (fun hc=>(aJ (v:=aL) lN (gx r hc) r r)) ?_
         refine og r r r (fun hc=>(eC pU (cR (gx r hc))))<|og r r r (fun hc=>(aZ fM r))<|og r r r (fun hc=>(aJ (v:=aL) kD (gx r hc) r r))<|og r r r (fun hc=>(eC qM (cR (gx r hc))))<|og r r r (fun hc=>(bO (gx r hc) (gx r hc)))<|aK r (bM r r r (fun e=>eI e))<|mB r<|og r r r (fun hc=>(aZ jW r))<|og r r r (fun hc=>(aJ (v:=aL) lN (gx r hc) r r)) ?_
         obtain ⟨x27,hx27,h28⟩:=aE h26
         refine rZ r r (fun hc=>aY (v:=aB) r (aFW (cG hx27 hc)) ⟨(dW (gx r hc) lr),trivial⟩ (fC (by repeat (first | exact dT | refine aX r ?_ | refine aX (oQ r) ?_ | refine aX oP ?_))) r r) ?_
         refine aK r (bM r r r (fun e=>eI e))<|sB r<|aF (fr':=[(2,aB)]) r r<|bF<|bH<|aM ?_
         obtain rfl:=sy h28
         exact bE (rs':=[.tmp 2]) r<|bG (v:=aB) r<|bD<|aN [] r r r lr aC
        ·
         refine aH<|aK r (bO r r)<|sB r<|aF (fr':=[(1,.box 0 0),(143,aB)]) r r<|bS h26 r (fun hb30 h30=>?_) (fun hb30 h30=>?_)
         ·
          refine aH<|aK r (aZ mY r)<|aK r (aJ (v:=aI) eB r r r)<|aK r (lC r r)<|mB r<|og r r r (fun hc=>(aZ oA r))<|og r r r (fun hc=>(aJ (v:=aS) iE (gx r hc) r r))<|og r r r (fun hc=>(kX (gx r hc) r))<|aK r (bM r r r (fun e=>eI e))<|mB r<|og r r r (fun hc=>(aZ fM r))<|og r r r (fun hc=>(aJ (v:=aL) kD (gx r hc) r r)) ?_
          refine og r r r (fun hc=>(eC qM (cR (gx r hc))))<|og r r r (fun hc=>(bO (gx r hc) r))<|aK r (bM r r r (fun e=>eI e))<|mB r<|og r r r (fun hc=>(aZ jW r))<|og r r r (fun hc=>(aJ (v:=aL) lN (gx r hc) r r))<|og r r r (fun hc=>(eC pU (cR (gx r hc))))<|og r r r (fun hc=>(bO (gx r hc) r))<|aK r (bM r r r (fun e=>eI e))<|sB r<|aF (fr':=[(2,aB)]) r r<|bF<|bH ?_
          refine aM ?_
          obtain rfl:=sy h30
          exact bE (rs':=[.tmp 2]) r<|bG (v:=aB) r<|bD<|aN [] r r r lr aC
         ·
          refine aW<|bW<|bZ<|aH<|sB r<|aF (fr':=[(2,aB)]) r r<|bF ?_
          obtain rfl:=sy h30
          exact bE (rs':=[.tmp 2]) r<|bG (v:=aB) r<|bD<|aN [] r r r lr aC
noncomputable def qF (p0C:aG):Option Bool:=lim fun n=>iP n p0C
theorem xG {p0C:aG}{res:Bool} (h:qF p0C=some res):bT Tryz.prog 133 [.agg (AV.cs (cV p0C))] [] (.c (.bool res)) []:=by
 obtain ⟨n,hn⟩:=kR h
 exact (aBp n) hn
noncomputable def qG (aGn:(List UInt8)→aG→Option (List UInt8)) (p1v:aG) (s29:((List UInt8) × Int)):Option (cM ((List UInt8) × Int) (List UInt8)) :=
 cond (decide (s29.2<((p1v.Items).length:Int))) (((cond (decide (p1v.Kind=(5:Int))) ((jT p1v.Keys s29.2).bind fun x35=>(gU s29.1 x35).bind fun x37=>some x37) (some s29.1)):Option (List UInt8)).bind fun x31=>((jT p1v.Items s29.2).bind fun x40=>(aGn x31 x40).bind fun x42=>some (cM.next (x42,(IntKind.wrap .i64 (s29.2+(1:Int))))))) (some (cM.out s29.1))
noncomputable def rT:Nat→(List UInt8)→aG→Option (List UInt8)
 | 0,_,_=>none
 | n+1,p0b,p1v =>
  (gB p0b p1v.Kind).bind fun x1=>((((cond (decide (p1v.Kind=(1:Int))) (some (decide (p1v.Kind=(1:Int)))) (cond (decide (p1v.Kind=(2:Int))) (some (decide (p1v.Kind=(2:Int)))) (some (decide (p1v.Kind=(6:Int)))))):Option Bool).bind fun x6=>(cond x6 ((gB x1 p1v.Int).bind fun x13=>some x13) (cond (decide (p1v.Kind=(3:Int))) ((gU x1 p1v.Text).bind fun x16=>some x16) (((cond (decide (p1v.Kind=(4:Int))) (some (decide (p1v.Kind=(4:Int)))) (some (decide (p1v.Kind=(5:Int))))):Option Bool).bind fun x18=>(cond x18 ((gB x1 ((p1v.Items).length:Int)).bind fun x24=>((eQ (qG (rT n) p1v) ((x24,(0:Int)))):Option (List UInt8)).bind fun x26=>(some x26)) (some x1)))))):Option (List UInt8)).bind fun x3=>(some x3)
theorem aHR:∀ n:Nat,(∀ {p0b:(List UInt8)}{p1v:aG}{res:(List UInt8)},rT n p0b p1v=some res→bT Tryz.prog 134 [.c (PV.ls 1 eL p0b),.agg (AV.cs (cV p1v))] [] (AV.os 0 1 eL res) []):=by
 intro n
 induction n with
 | zero=>exact fun {p0b p1v res} h=>absurd h (by simp [rT])
 | succ n ih =>
  have ih_ref02xput:=@ih
  intro p0b p1v res h
  rw [rT] at h
  refine cJ (fn:=Tryz.f134) [0,1,3,4,5,11,12,20,26,38,43] (by kernel_rfl) Tryz.func134 r (by kernel_rfl) (by kernel_rfl)<|aH<|fW (v:=.agg bQ) (n:=0) (cs:=bQ) (σ':=[bQ]) r r r r r<|sV (v:=AV.nil) r<|aF (fr':=[(0,aL),(3,.box 0 0)]) r r<|aH<|mL r<|aK r (aZ iR r)<|aK r (aJ (v:=aI) eB r r r) ?_
  obtain ⟨x1,hx1,h2⟩:=aE h
  refine gW (aY (v:=aO) r (gT hx1) ⟨lr,lr,trivial⟩ r r r)<|sV (v:=aO) r<|aF (fr':=[(0,aO),(3,.box 0 0)]) r r ?_
  obtain ⟨x3,hx3,h4⟩:=aE h2
  refine fP (fun j5=>x3=j5) (fun (j5:(List UInt8))=>([(0,AV.os 0 1 eL j5)]:Fr)) (fun (j5:(List UInt8))=>([[ci p1v.Kind,ci p1v.Int,.c (.str p1v.Text),.c (PV.ls 5 bB p1v.Items),.c (PV.ls 1 dD p1v.Keys)]]:St)) ?_ ?_
  ·
   refine aH<|aK r (aZ iR r)<|aK r (aJ (v:=aI) eB r r r)<|aF (fr':=[(0,aO),(3,.box 0 0),(11,aI)]) r r<|bL ?_
   obtain ⟨x6,hx6,h7⟩:=aE hx3
   refine fP (fun j8=>x6=j8) (fun (j8:Bool)=>([(0,AV.os 0 1 eL x1),(3,.box 0 0),(11,ci p1v.Kind),(12,.c (.bool j8))]:Fr)) (fun (j8:Bool)=>([[ci p1v.Kind,ci p1v.Int,.c (.str p1v.Text),.c (PV.ls 5 bB p1v.Items),.c (PV.ls 1 dD p1v.Keys)]]:St)) ?_ ?_
   ·
    refine aH<|aK r (bO r r)<|sB r<|aF (fr':=[(0,aO),(3,.box 0 0),(11,aI),(12,aB)]) r r<|bS hx6 r (fun hb9 h9=>?_) (fun hb9 h9=>?_)
    ·
     exact aW<|fS _ (sy h9) (aU [144] 1 r r r r ⟨lr,lr,lr,lr,trivial⟩ (bJ r aC))
    ·
     refine aH<|aK r (bO r r)<|sB r<|aF (fr':=[(0,aO),(3,.box 0 0),(11,aI),(12,aB)]) r r<|bS h9 r (fun hb10 h10=>?_) (fun hb10 h10=>?_)
     ·
      exact aW<|fS _ (sy h10) (aU [144] 1 r r r r ⟨lr,lr,lr,lr,trivial⟩ (bJ r aC))
     ·
      exact aT<|aK r (bO r r)<|sB r<|cD (fr':=[(0,aO),(3,.box 0 0),(11,aI),(12,aB)]) r<|fS _ (sy h10) (aU [144] 1 r r r r ⟨lr,lr,lr,lr,trivial⟩ (bJ r aC))
   ·
    intro j8 hj11
    subst hj11
    refine bS h7 r (fun hb12 h12=>?_) (fun hb12 h12=>?_)
    ·
     refine aT<|mV (v:=aO) r<|aK r (aZ mY r)<|aK r (aJ (v:=aI) eB r r r) ?_
     obtain ⟨x13,hx13,h14⟩:=aE h12
     exact gW (aY (v:=aO) r (gT hx13) ⟨lr,lr,trivial⟩ r r r)<|sV (v:=aO) r<|cD (fr':=[(0,aO),(3,.box 0 0),(11,aI),(12,aB)]) r<|bW<|fS _ (sy h14) (aU [304] 1 r r r r ⟨lr,trivial⟩ (bJ r aC))
    ·
     refine aH<|aK r (bO r r)<|sB r<|aF (fr':=[(0,aO),(3,.box 0 0),(11,aI),(20,aB)]) r r<|bS h12 r (fun hb15 h15=>?_) (fun hb15 h15=>?_)
     ·
      refine aT<|mV (v:=aO) r<|aK r (aZ oA r)<|aK r (aJ (v:=aS) iE r r r) ?_
      obtain ⟨x16,hx16,h17⟩:=aE h15
      exact gW (aY (v:=aO) r (iY hx16) ⟨lr,lr,trivial⟩ r r r)<|sV (v:=aO) r<|cD (fr':=[(0,aO),(3,.box 0 0),(11,aI),(20,aB)]) r<|bW<|fS _ (sy h17) (aU [400] 1 r r r r ⟨lr,trivial⟩ (bJ r aC))
     ·
      obtain ⟨x18,hx18,h19⟩:=aE h15
      refine fP (fun j20=>x18=j20) (fun (j20:Bool)=>([(0,AV.os 0 1 eL x1),(3,.box 0 0),(26,.c (.bool j20))]:Fr)) (fun (j20:Bool)=>([[ci p1v.Kind,ci p1v.Int,.c (.str p1v.Text),.c (PV.ls 5 bB p1v.Items),.c (PV.ls 1 dD p1v.Keys)]]:St)) ?_ ?_
      ·
       refine aH<|aK r (bO r r)<|sB r<|aF (fr':=[(0,aO),(3,.box 0 0),(11,aI),(26,aB)]) r r<|bS hx18 r (fun hb21 h21=>?_) (fun hb21 h21=>?_)
       ·
        exact aW<|fS _ (sy h21) (aU [0] 1 r r r r ⟨lr,lr,lr,trivial⟩ (bJ r aC))
       ·
        exact aT<|aK r (bO r r)<|sB r<|cD (fr':=[(0,aO),(3,.box 0 0),(11,aI),(26,aB)]) r<|fS _ (sy h21) (aU [0] 1 r r r r ⟨lr,lr,lr,trivial⟩ (bJ r aC))
      ·
       intro j20 hj22
       subst hj22
       refine bS h19 r (fun hb23 h23=>?_) (fun hb23 h23=>?_)
       ·
        refine aH<|mV (v:=aO) r<|aK r (aZ fM r)<|aK r (aJ (v:=aL) kD r r r)<|aK r (eC qM (cR r)) ?_
        obtain ⟨x24,hx24,h25⟩:=aE h23
        refine gW (aY (v:=aO) r (gT hx24) ⟨lr,lr,trivial⟩ r r r)<|sV (v:=aO) r<|aF (fr':=[(0,aO),(3,.box 0 0)]) r r<|aH<|sI r<|aF (fr':=[(0,aO),(3,.box 0 0),(5,aI)]) r r ?_
        obtain ⟨x26,hx26,h27⟩:=aE h25
        refine eR (aQf aQg) (fun j28=>x26=j28) (fun (j28:(List UInt8))=>([(0,AV.os 0 1 eL j28)]:Fr)) (fun (j28:(List UInt8))=>([[ci p1v.Kind,ci p1v.Int,.c (.str p1v.Text),.c (PV.ls 5 bB p1v.Items),.c (PV.ls 1 dD p1v.Keys)]]:St)) ?_ ?_
        ·
         refine bL<|eK _ (fun (s29:((List UInt8) × Int))=>([(0,AV.os 0 1 eL s29.1),(3,.box 0 0),(5,ci s29.2)]:Fr)) (fun (s29:((List UInt8) × Int))=>([[ci p1v.Kind,ci p1v.Int,.c (.str p1v.Text),.c (PV.ls 5 bB p1v.Items),.c (PV.ls 1 dD p1v.Keys)]]:St)) hx26 (aU [528] 1 r r r r ⟨lr,lr,lr,trivial⟩ (bJ r aC)) ?_
         intro s29 st29 hs29 ho29
         unfold qG at hs29
         refine aR<|aH<|mI r<|aK r (aZ fM r)<|aK r (aJ (v:=aL) kD r r r)<|aK r (eC qM (cR r))<|aK r (eA r r)<|aF (fr':=[(0,aO),(3,.box 0 0),(5,aI),(38,aB)]) r r<|bS hs29 r (fun hb30 h30=>?_) (fun hb30 h30=>?_)
         ·
          refine aW<|bZ<|aR<|bL ?_
          obtain ⟨x31,hx31,h32⟩:=aE h30
          refine fP (fun j33=>x31=j33) (fun (j33:(List UInt8))=>([(0,AV.os 0 1 eL j33),(3,.box 0 0),(5,ci s29.2)]:Fr)) (fun (j33:(List UInt8))=>([[ci p1v.Kind,ci p1v.Int,.c (.str p1v.Text),.c (PV.ls 5 bB p1v.Items),.c (PV.ls 1 dD p1v.Keys)]]:St)) ?_ ?_
          ·
           refine aH<|aK r (aZ iR r)<|aK r (aJ (v:=aI) eB r r r)<|aK r (bO r r)<|aF (fr':=[(0,aO),(3,.box 0 0),(5,aI),(43,aB)]) r r<|bS hx31 r (fun hb34 h34=>?_) (fun hb34 h34=>?_)
           ·
            refine aT<|mV (v:=aO) r<|aK r (aZ jW r)<|aK r (aJ (v:=aL) lN r r r)<|mI r ?_
            obtain ⟨x35,hx35,h36⟩:=aE h34
            refine aK r (iL (cs:=[PV.str _]) rV (cR r) r hx35 r)<|aK r (fU (p:=PV.str _) iE r r) ?_
            obtain ⟨x37,hx37,h38⟩:=aE h36
            exact gW (aY (v:=aO) r (iY hx37) ⟨lr,lr,trivial⟩ r r r)<|sV (v:=aO) r<|cD (fr':=[(0,aO),(3,.box 0 0),(5,aI),(43,aB)]) r<|fS _ (sy h38) (aU [800] 1 r r r r ⟨lr,lr,lr,trivial⟩ (bJ r aC))
           ·
            exact aW<|fS _ (sy h34) (aU [0] 1 r r r r ⟨lr,lr,lr,trivial⟩ (bJ r aC))
          ·
           intro j33 hj39
           subst hj39
           refine aT<|mV (v:=aO) r<|aK r (aZ fM r)<|aK r (aJ (v:=aL) kD r r r)<|mI r ?_
           obtain ⟨x40,hx40,h41⟩:=aE h32
           refine aK r (iL (cs:=[PV.int _ _,PV.int _ _,PV.str _,PV.ls _ _ _,PV.ls _ _ _]) tO (cR r) r hx40 (cY _))<|aK r (hG (us:=[PV.int _ _,PV.int _ _,PV.str _,PV.ls _ _ _,PV.ls _ _ _]) fV r r r) ?_
           obtain ⟨x42,hx42,h43⟩:=aE h41
           exact gW (aY (v:=aO) r (ih_ref02xput hx42) ⟨lr,(bP r ⟨r,r,r,r,r,trivial⟩),trivial⟩ r r r)<|sV (v:=aO) r<|cD (fr':=[(0,aO),(3,.box 0 0),(5,aI)]) r<|bW<|bZ<|aT<|mI r<|aK r (dZ r r)<|sI r<|cD (fr':=[(0,aO),(3,.box 0 0),(5,aI)]) r<|tU _ (sy h43) (aU [912] 1 r r r r ⟨lr,lr,lr,trivial⟩ (bJ r aC))
         ·
          refine eZ<|bY<|bY<|dX ?_
          have h44:=dB h30 ho29
          exact fS _ (sy h44) (aU [0] 1 r r r r ⟨lr,trivial⟩ (bJ r aC))
        ·
         intro j28 hj45
         subst hj45
         exact bW<|fS _ (sy h27) (aU [0] 1 r r r r ⟨lr,trivial⟩ (bJ r aC))
       ·
        exact aW<|bW<|fS _ (sy h23) (aU [0] 1 r r r r ⟨lr,trivial⟩ (bJ r aC))
  ·
   intro j5 hj46
   subst hj46
   refine aH<|mV (v:=aO) r<|sV (v:=aO) r<|aF (fr':=[(4,aO)]) r r<|bF ?_
   obtain rfl:=sy h4
   exact bE (rs':=[.tmp 4]) r<|bG (v:=aO) r<|bD<|aN [0] r r r lr aC
noncomputable def aDw (p0b:(List UInt8)) (p1v:aG):Option (List UInt8):=lim fun n=>rT n p0b p1v
theorem aJs {p0b:(List UInt8)}{p1v:aG}{res:(List UInt8)} (h:aDw p0b p1v=some res):bT Tryz.prog 134 [.c (PV.ls 1 eL p0b),.agg (AV.cs (cV p1v))] [] (AV.os 0 1 eL res) []:=by
 obtain ⟨n,hn⟩:=kR h
 exact (aHR n) hn
noncomputable def qE (p0b:(List UInt8)) (p1v:aG):Option (List UInt8) :=
 (app 1 ([]:List UInt8) p0b).bind fun x1=>(qF p1v).bind fun x3=>cond (!x3) (some x1) ((aDw x1 p1v).bind fun x7=>some x7)
theorem aA1 {p0b:(List UInt8)}{p1v:aG}{res:(List UInt8)} (h:qE p0b p1v=some res):bT Tryz.prog 59 [.c (PV.ls 1 eL p0b),.agg (AV.cs (cV p1v))] [] (AV.os 0 1 eL res) []:=by
 unfold qE at h
 refine cJ (fn:=Tryz.f59) [0,1,3,4,5,11] (by kernel_rfl) Tryz.func59 r (by kernel_rfl) (by kernel_rfl)<|aH<|fW (v:=.agg bQ) (n:=0) (cs:=bQ) (σ':=[bQ]) r r r r r<|sV (v:=AV.nil) r<|aF (fr':=[(0,aL),(3,.box 0 0)]) r r<|aH<|sV (v:=AV.nil) r<|aF (fr':=[(0,aL),(3,.box 0 0),(5,AV.nil)]) r r<|aH<|mV (v:=AV.nil) r ?_
 refine mL r ?_
 obtain ⟨x1,hx1,h2⟩:=aE h
 refine aJ5 (row:=eL) xJ r aAR r (cR r) (fun _=>r) hx1<|sV (v:=aO) r<|aF (fr':=[(3,.box 0 0),(5,aO)]) r r<|aR<|aH<|aK r (cN (us:=bQ) fV r r r r) ?_
 obtain ⟨x3,hx3,h4⟩:=aE h2
 refine gW (aY (v:=aB) r (xG hx3) ⟨(bP r ⟨r,r,r,r,r,trivial⟩),trivial⟩ r r r)<|aK r (eD r)<|aF (fr':=[(3,.box 0 0),(5,aO),(11,aB)]) r r<|bS h4 r (fun hb5 h5=>?_) (fun hb5 h5=>?_)
 ·
  refine aH<|mV (v:=aO) r<|sV (v:=aO) r<|aF (fr':=[(4,aO)]) r r<|bF<|aM ?_
  obtain rfl:=sy h5
  exact bE (rs':=[.tmp 4]) r<|bG (v:=aO) r<|bD<|aN [128] r r r lr aC
 ·
  refine aW<|bZ<|aH<|mV (v:=aO) r<|aK r (cN (us:=bQ) fV r r r r) ?_
  obtain ⟨x7,hx7,h8⟩:=aE h5
  refine gW (aY (v:=aO) r (aJs hx7) ⟨lr,(bP r ⟨r,r,r,r,r,trivial⟩),trivial⟩ r r r)<|sV (v:=aO) r<|aF (fr':=[(4,aO)]) r r<|bF ?_
  obtain rfl:=sy h8
  exact bE (rs':=[.tmp 4]) r<|bG (v:=aO) r<|bD<|aN [240] r r r lr aC
noncomputable def nI (p0n:Int) (mF:Int) (iO:Int):Option Bool :=
 some (cond (decide (mF≤p0n)) (decide (p0n≤iO)) false)
theorem oH {p0n:Int}{mF:Int}{iO:Int}{res:Bool} (h:nI p0n mF iO=some res):bT Tryz.prog 152 [ci p0n,ci mF,ci iO] [] (.c (.bool res)) []:=by
 unfold nI at h
 refine cJ (fn:=Tryz.f152) [0,1,2,6] (by kernel_rfl) Tryz.func152 r (by kernel_rfl) (by kernel_rfl)<|aH<|sB r<|aF (fr':=[(0,aI),(1,aI),(2,aI)]) r r<|aH<|mI r<|mI r<|aK r (lC r r)<|mB r<|og r r r (fun hc=>(bC (v:=aI) r))<|og r r r (fun hc=>(bC (v:=aI) r)) ?_
 refine og r r r (fun hc=>(lI (gx r hc) (gx r hc)))<|aK r (bM r r r (fun e=>eI e))<|sB r<|aF (fr':=[(6,aB)]) r r<|bF ?_
 obtain rfl:=sy h
 exact bE (rs':=[.tmp 6]) r<|bG (v:=aB) r<|bD<|aN [] r r r lr aC
noncomputable def tA (p0c:Int):Option Bool :=
 some (cond (cond (cond (cond (decide ((97:Int)≤p0c)) (decide (p0c≤(122:Int))) false) true (cond (decide ((65:Int)≤p0c)) (decide (p0c≤(90:Int))) false)) true (cond (decide ((48:Int)≤p0c)) (decide (p0c≤(57:Int))) false)) true (decide (p0c=(95:Int))))
theorem aFZ {p0c:Int}{res:Bool} (h:tA p0c=some res):bT Tryz.prog 158 [.c (.int .u8 p0c)] [] (.c (.bool res)) []:=by
 unfold tA at h
 refine cJ (fn:=Tryz.f158) [0,2] (by kernel_rfl) Tryz.func158 r (by kernel_rfl) (by kernel_rfl)<|aH<|sB r<|aF (fr':=[(0,aI)]) r r<|aH<|mI r<|aK r (lC r r)<|mB r<|og r r r (fun hc=>(bC (v:=aI) r))<|og r r r (fun hc=>(lI (gx r hc) r))<|aK r (bM r r r (fun e=>eI e)) ?_
 refine mB r<|og r r r (fun hc=>(bC (v:=aI) r))<|og r r r (fun hc=>(lC (gx r hc) r))<|og r r r (fun hc=>(bC (v:=aB) (gx r hc)))<|eJ r r (fun hc=>eU r (bC (v:=aI) r))<|eJ r r (fun hc=>eU r (lI (gx r hc) r))<|og r r r (fun hc=>(bM (gx r hc) r r (fun e=>oO hc (eI e))))<|aK r (bX r r r (fun e=>eI e))<|mB r<|og r r r (fun hc=>(bC (v:=aI) r))<|og r r r (fun hc=>(lC (gx r hc) r))<|og r r r (fun hc=>(bC (v:=aB) (gx r hc)))<|eJ r r (fun hc=>eU r (bC (v:=aI) r)) ?_
 refine eJ r r (fun hc=>eU r (lI (gx r hc) r))<|og r r r (fun hc=>(bM (gx r hc) r r (fun e=>oO hc (eI e))))<|aK r (bX r r r (fun e=>eI e))<|mB r<|og r r r (fun hc=>(bC (v:=aI) r))<|og r r r (fun hc=>(bO (gx r hc) r))<|aK r (bX r r r (fun e=>eI e))<|sB r<|aF (fr':=[(2,aB)]) r r<|bF ?_
 obtain rfl:=sy h
 exact bE (rs':=[.tmp 2]) r<|bG (v:=aB) r<|bD<|aN [] r r r lr aC
noncomputable def sY (p0s:(List UInt8)) (s10:Int):Option (cM Int (Fl Bool Unit)) :=
 cond (decide (s10<((p0s).length:Int))) ((jT p0s s10).bind fun x12=>(tA ((x12).toNat:Int)).bind fun x14=>cond (!x14) (some (cM.out (Fl.done false))) (some (cM.next (IntKind.wrap .i64 (s10+(1:Int)))))) (some (cM.out (Fl.go ())))
noncomputable def nP (p0s:(List UInt8)):Option Bool :=
 (gd ((cond (decide (((p0s).length:Int)<(1:Int))) true (decide ((64:Int)<((p0s).length:Int))))==false) (jT p0s (0:Int))).bind fun x1=>(gd (((cond (decide (((p0s).length:Int)<(1:Int))) true (decide ((64:Int)<((p0s).length:Int))))==false)&&((decide ((48:Int)≤((x1).toNat:Int)))==true)) (jT p0s (0:Int))).bind fun x3=>cond (cond (cond (decide (((p0s).length:Int)<(1:Int))) true (decide ((64:Int)<((p0s).length:Int)))) true (cond (decide ((48:Int)≤((x1).toNat:Int))) (decide (((x3).toNat:Int)≤(57:Int))) false)) (some false) (((eQ (sY p0s) ((0:Int))):Option (Fl Bool Unit)).bind fun x7=>Fl.next x7 (fun j9=>(some true)))
theorem uQ {p0s:(List UInt8)}{res:Bool} (h:nP p0s=some res):bT Tryz.prog 86 [.c (.str p0s)] [] (.c (.bool res)) []:=by
 unfold nP at h
 refine cJ (fn:=Tryz.f86) [0,2,3,21,25,32] (by kernel_rfl) Tryz.func86 r (by kernel_rfl) (by kernel_rfl)<|aH<|sB r<|aF (fr':=[(0,aS)]) r r<|aR<|aH<|mS r<|aK r (gS nJ r)<|aK r (eA r r)<|mB r<|og r r r (fun hc=>(bC (v:=aS) r)) ?_
 refine og r r r (fun hc=>(gS nJ (gx r hc)))<|og r r r (fun hc=>(mG (gx r hc) r))<|aK r (bX r r r (fun e=>eI e))<|mB r<|og r r r (fun hc=>(bC (v:=aS) r)) ?_
 obtain ⟨x1,hx1,h2⟩:=aE h
 refine og r r r (fun hc=>(xI nJ (gx r hc) r (cG hx1 hc)))<|og r r r (fun hc=>(lC (gx r hc) r))<|og r r r (fun hc=>(bC (v:=aB) (gx r hc)))<|eJ r r (fun hc=>eU r (bC (v:=aS) r)) ?_
 obtain ⟨x3,hx3,h4⟩:=aE h2
 refine eJ r r (fun hc=>eU r (xI nJ (gx r hc) r (cG hx3 hc)))<|eJ r r (fun hc=>eU r (lI (gx r hc) r))<|og r r r (fun hc=>(bM (gx r hc) r r (fun e=>oO hc (eI e))))<|aK r (bX r r r (fun e=>eI e))<|aF (fr':=[(0,aS),(21,aB)]) r r<|bS h4 r (fun hb5 h5=>?_) (fun hb5 h5=>?_)
 ·
  refine aH<|sB r<|aF (fr':=[(2,aB)]) r r<|bF<|aM ?_
  obtain rfl:=sy h5
  exact bE (rs':=[.tmp 2]) r<|bG (v:=aB) r<|bD<|aN [] r r r lr aC
 ·
  refine aW<|bZ<|aR<|aH<|sI r<|aF (fr':=[(0,aS),(3,aI)]) r r ?_
  obtain ⟨x7,hx7,h8⟩:=aE h5
  refine eR gX (fun j9=>x7=Fl.go j9) (fun (j9:Unit)=>([]:Fr)) (fun (j9:Unit)=>([]:St)) ?_ ?_
  ·
   refine bL<|eK _ (fun (s10:Int)=>([(0,.c (.str p0s)),(3,ci s10)]:Fr)) (fun (s10:Int)=>([]:St)) hx7 (aU [] 0 r r r r ⟨lr,lr,trivial⟩ aC) ?_
   intro s10 st10 hs10 ho10
   unfold sY at hs10
   refine aR<|aH<|mI r<|mS r<|aK r (gS nJ r)<|aK r (eA r r)<|aF (fr':=[(0,aS),(3,aI),(25,aB)]) r r<|bS hs10 r (fun hb11 h11=>?_) (fun hb11 h11=>?_)
   ·
    refine aW<|bZ<|aR<|bL<|aH<|mS r<|mI r ?_
    obtain ⟨x12,hx12,h13⟩:=aE h11
    refine aK r (xI nJ r r hx12) ?_
    obtain ⟨x14,hx14,h15⟩:=aE h13
    refine gW (aY (v:=aB) r (aFZ hx14) ⟨lr,trivial⟩ r r r)<|aK r (eD r)<|aF (fr':=[(0,aS),(3,aI),(32,aB)]) r r<|bS h15 r (fun hb16 h16=>?_) (fun hb16 h16=>?_)
    ·
     refine aH<|sB r<|aF (fr':=[(2,aB)]) r r<|bF<|bH<|aM<|aM<|bH<|aM<|aM ?_
     have h17:=dB h16 ho10
     have h18:=eH h17 h8
     obtain rfl:=sy h18
     exact bE (rs':=[.tmp 2]) r<|bG (v:=aB) r<|bD<|aN [] r r r lr aC
    ·
     exact aW<|bW<|bZ<|aT<|mI r<|aK r (dZ r r)<|sI r<|cD (fr':=[(0,aS),(3,aI),(32,aB)]) r<|tU _ (sy h16) (aU [] 0 r r r r ⟨lr,lr,trivial⟩ aC)
   ·
    refine eZ<|bY<|bY<|dX ?_
    have h20:=dB h11 ho10
    exact fS _ (sy h20) (aU [] 0 r r r r trivial aC)
  ·
   intro j9 hj21
   have h21:=iS hj21 h8
   refine bZ<|aH<|sB r<|aF (fr':=[(2,aB)]) r r<|bF ?_
   obtain rfl:=sy h21
   exact bE (rs':=[.tmp 2]) r<|bG (v:=aB) r<|bD<|aN [] r r r lr aC
noncomputable def mM (p0o:cE) (s4:Int):Option (cM Int (Fl Bool Unit)) :=
 cond (decide (s4<((([p0o.ToStart,p0o.ToClose,p0o.Total,p0o.Beat,p0o.First,p0o.Most]:List Int)).length:Int))) ((jT ([p0o.ToStart,p0o.ToClose,p0o.Total,p0o.Beat,p0o.First,p0o.Most]:List Int) s4).bind fun x6=>(nI x6 (0:Int) (1099511627776:Int)).bind fun x8=>cond (!x8) (some (cM.out (Fl.done false))) (some (cM.next (IntKind.wrap .i64 (s4+(1:Int)))))) (some (cM.out (Fl.go ())))
noncomputable def mN (p0o:cE) (s19:Int):Option (cM Int (Fl Bool Unit)) :=
 cond (decide (s19<((p0o.Fatal).length:Int))) ((jT p0o.Fatal s19).bind fun x21=>cond (decide ((4096:Int)<((x21).length:Int))) (some (cM.out (Fl.done false))) (some (cM.next (IntKind.wrap .i64 (s19+(1:Int)))))) (some (cM.out (Fl.go ())))
noncomputable def kH (p0o:cE):Option Bool :=
 ((eQ (mM p0o) ((0:Int))):Option (Fl Bool Unit)).bind fun x1=>Fl.next x1 (fun j3=>(((eQ (mN p0o) ((0:Int))):Option (Fl Bool Unit)).bind fun x16=>Fl.next x16 (fun j18=>((gd ((decide (p0o.Queue=([]:List UInt8)))==false) (nP p0o.Queue)).bind fun x29=>(gd ((cond (decide (p0o.Queue=([]:List UInt8))) true x29)==true) (nI p0o.Coef (0:Int) (10000:Int))).bind fun x31=>(gd ((cond (cond (decide (p0o.Queue=([]:List UInt8))) true x29) x31 false)==true) (nI p0o.Attempts (0:Int) (1000:Int))).bind fun x33=>some (cond (cond (cond (cond (decide (p0o.Queue=([]:List UInt8))) true x29) x31 false) x33 false) (decide (((p0o.Fatal).length:Int)≤(64:Int))) false)))))
theorem vR {p0o:cE}{res:Bool} (h:kH p0o=some res):bT Tryz.prog 135 [.agg (AV.cs (iG p0o))] [] (.c (.bool res)) []:=by
 unfold kH at h
 refine cJ (fn:=Tryz.f135) [0,1,2,3,4,5,22,30,35,44] (by kernel_rfl) Tryz.func135 r (by kernel_rfl) (by kernel_rfl)<|aH<|fW (v:=.agg cI) (n:=0) (cs:=cI) (σ':=[cI]) r r r r r<|sB r<|aF (fr':=[(1,.box 0 0)]) r r<|aH<|aK r (aZ aB3 r)<|aK r (aJ (v:=aI) eB r r r)<|aK r (aZ aB4 r)<|aK r (aJ (v:=aI) eB r r r)<|aK r (aZ aB5 r) ?_
 refine aK r (aJ (v:=aI) eB r r r)<|aK r (aZ aB6 r)<|aK r (aJ (v:=aI) eB r r r)<|aK r (aZ aB7 r)<|aK r (aJ (v:=aI) eB r r r)<|aK r (aZ aB9 r)<|aK r (aJ (v:=aI) eB r r r)<|mT (row:=(aGq .i64)) (xs:=([p0o.ToStart,p0o.ToClose,p0o.Total,p0o.Beat,p0o.First,p0o.Most]:List Int)) (rows:=[[_],[_],[_],[_],[_],[_]]) (σ':=[cI]) [0] aGs r r r (cB r (cB r (cB r (cB r (cB r (cB r iC)))))) r r<|sV (v:=aO) r<|aF (fr':=[(1,.box 0 0),(3,aO)]) r r<|aR<|aR<|aT ?_
 refine sI r<|aF (fr':=[(1,.box 0 0),(3,aO),(4,aI)]) r r ?_
 obtain ⟨x1,hx1,h2⟩:=aE h
 refine eR gX (fun j3=>x1=Fl.go j3) (fun (j3:Unit)=>([(1,.box 0 0)]:Fr)) (fun (j3:Unit)=>([[.c (.str p0o.Queue),ci p0o.ToStart,ci p0o.ToClose,ci p0o.Total,ci p0o.Beat,ci p0o.First,ci p0o.Coef,ci p0o.Most,ci p0o.Attempts,.c (PV.ls 1 dD p0o.Fatal)]]:St)) ?_ ?_
 ·
  refine bL<|eK _ (fun (s4:Int)=>([(1,.box 0 0),(3,AV.os 0 1 (aGq .i64) ([p0o.ToStart,p0o.ToClose,p0o.Total,p0o.Beat,p0o.First,p0o.Most]:List Int)),(4,ci s4)]:Fr)) (fun (s4:Int)=>([[.c (.str p0o.Queue),ci p0o.ToStart,ci p0o.ToClose,ci p0o.Total,ci p0o.Beat,ci p0o.First,ci p0o.Coef,ci p0o.Most,ci p0o.Attempts,.c (PV.ls 1 dD p0o.Fatal)]]:St)) hx1 (aU [288] 1 r r r r ⟨lr,lr,lr,trivial⟩ (bJ r aC)) ?_
  intro s4 st4 hs4 ho4
  unfold mM at hs4
  refine aR<|aH<|mI r<|mV (v:=aO) r<|aK r (eC aNn (kQ r))<|aK r (eA r r)<|aF (fr':=[(1,.box 0 0),(3,aO),(4,aI),(22,aB)]) r r<|bS hs4 r (fun hb5 h5=>?_) (fun hb5 h5=>?_)
  ·
   refine aW<|bZ<|aR<|bL<|aH<|mV (v:=aO) r<|mI r ?_
   obtain ⟨x6,hx6,h7⟩:=aE h5
   refine aK r (iL (cs:=[PV.int _ _]) aGs (kQ r) r hx6 r)<|aK r (fU (p:=PV.int _ _) eB r r) ?_
   obtain ⟨x8,hx8,h9⟩:=aE h7
   refine gW (aY (v:=aB) r (oH hx8) ⟨lr,lr,lr,trivial⟩ r r r)<|aK r (eD r)<|aF (fr':=[(1,.box 0 0),(3,aO),(4,aI),(30,aB)]) r r<|bS h9 r (fun hb10 h10=>?_) (fun hb10 h10=>?_)
   ·
    refine aH<|sB r<|aF (fr':=[(2,aB)]) r r<|bF<|bH<|aM<|aM<|bH<|aM<|aM ?_
    have h11:=dB h10 ho4
    have h12:=eH h11 h2
    obtain rfl:=sy h12
    exact bE (rs':=[.tmp 2]) r<|bG (v:=aB) r<|bD<|aN [] r r r lr aC
   ·
    exact aW<|bW<|bZ<|aT<|mI r<|aK r (dZ r r)<|sI r<|cD (fr':=[(1,.box 0 0),(3,aO),(4,aI),(30,aB)]) r<|tU _ (sy h10) (aU [0] 1 r r r r ⟨lr,lr,lr,trivial⟩ (bJ r aC))
  ·
   refine eZ<|bY<|bY<|dX ?_
   have h14:=dB h5 ho4
   exact fS _ (sy h14) (aU [] 1 r r r r ⟨lr,trivial⟩ (bJ r aC))
 ·
  intro j3 hj15
  have h15:=iS hj15 h2
  refine bZ<|aR<|aH<|sI r<|aF (fr':=[(1,.box 0 0),(5,aI)]) r r ?_
  obtain ⟨x16,hx16,h17⟩:=aE h15
  refine eR gX (fun j18=>x16=Fl.go j18) (fun (j18:Unit)=>([(1,.box 0 0)]:Fr)) (fun (j18:Unit)=>([[.c (.str p0o.Queue),ci p0o.ToStart,ci p0o.ToClose,ci p0o.Total,ci p0o.Beat,ci p0o.First,ci p0o.Coef,ci p0o.Most,ci p0o.Attempts,.c (PV.ls 1 dD p0o.Fatal)]]:St)) ?_ ?_
  ·
   refine bL<|eK _ (fun (s19:Int)=>([(1,.box 0 0),(5,ci s19)]:Fr)) (fun (s19:Int)=>([[.c (.str p0o.Queue),ci p0o.ToStart,ci p0o.ToClose,ci p0o.Total,ci p0o.Beat,ci p0o.First,ci p0o.Coef,ci p0o.Most,ci p0o.Attempts,.c (PV.ls 1 dD p0o.Fatal)]]:St)) hx16 (aU [] 1 r r r r ⟨lr,lr,trivial⟩ (bJ r aC)) ?_
   intro s19 st19 hs19 ho19
   unfold mN at hs19
   refine aR<|aH<|mI r<|aK r (aZ mZ r)<|aK r (aJ (v:=aL) lN r r r)<|aK r (eC pU (cR r))<|aK r (eA r r)<|aF (fr':=[(1,.box 0 0),(5,aI),(35,aB)]) r r<|bS hs19 r (fun hb20 h20=>?_) (fun hb20 h20=>?_)
   ·
    refine aW<|bZ<|aR<|bL<|aH<|aK r (aZ mZ r)<|aK r (aJ (v:=aL) lN r r r)<|mI r ?_
    obtain ⟨x21,hx21,h22⟩:=aE h20
    refine aK r (iL (cs:=[PV.str _]) rV (cR r) r hx21 r)<|aK r (fU (p:=PV.str _) iE r r)<|aK r (gS nJ r)<|aK r (mG r r)<|aF (fr':=[(1,.box 0 0),(5,aI),(44,aB)]) r r<|bS h22 r (fun hb23 h23=>?_) (fun hb23 h23=>?_)
    ·
     refine aH<|sB r<|aF (fr':=[(2,aB)]) r r<|bF<|bH<|aM<|aM<|bH<|aM<|aM ?_
     have h24:=dB h23 ho19
     have h25:=eH h24 h17
     obtain rfl:=sy h25
     exact bE (rs':=[.tmp 2]) r<|bG (v:=aB) r<|bD<|aN [] r r r lr aC
    ·
     exact aW<|bW<|bZ<|aT<|mI r<|aK r (dZ r r)<|sI r<|cD (fr':=[(1,.box 0 0),(5,aI),(44,aB)]) r<|tU _ (sy h23) (aU [] 1 r r r r ⟨lr,lr,trivial⟩ (bJ r aC))
   ·
    refine eZ<|bY<|bY<|dX ?_
    have h27:=dB h20 ho19
    exact fS _ (sy h27) (aU [] 1 r r r r ⟨lr,trivial⟩ (bJ r aC))
  ·
   intro j18 hj28
   have h28:=iS hj28 h17
   refine bZ<|aH<|aK r (aZ wZ r)<|aK r (aJ (v:=aS) iE r r r)<|aK r (kX r r)<|mB r<|og r r r (fun hc=>(aZ wZ r))<|og r r r (fun hc=>(aJ (v:=aS) iE (gx r hc) r r)) ?_
   obtain ⟨x29,hx29,h30⟩:=aE h28
   refine rZ r r (fun hc=>aY (v:=aB) r (uQ (cG hx29 hc)) ⟨(dW (gx r hc) lr),trivial⟩ (fC (by repeat (first | exact dT | refine aX r ?_ | refine aX (oQ r) ?_ | refine aX oP ?_))) r r) ?_
   refine aK r (bX r r r (fun e=>eI e))<|mB r<|og r r r (fun hc=>(aZ aB8 r))<|og r r r (fun hc=>(aJ (v:=aI) eB (gx r hc) r r)) ?_
   obtain ⟨x31,hx31,h32⟩:=aE h30
   refine rZ r r (fun hc=>aY (v:=aB) r (oH (cG hx31 hc)) ⟨(dW (gx r hc) lr),lr,lr,trivial⟩ (fC (by repeat (first | exact dT | refine aX r ?_ | refine aX (oQ r) ?_ | refine aX oP ?_))) r r) ?_
   refine aK r (bM r r r (fun e=>eI e))<|mB r<|og r r r (fun hc=>(aZ aCa r))<|og r r r (fun hc=>(aJ (v:=aI) eB (gx r hc) r r)) ?_
   obtain ⟨x33,hx33,h34⟩:=aE h32
   refine rZ r r (fun hc=>aY (v:=aB) r (oH (cG hx33 hc)) ⟨(dW (gx r hc) lr),lr,lr,trivial⟩ (fC (by repeat (first | exact dT | refine aX r ?_ | refine aX (oQ r) ?_ | refine aX oP ?_))) r r) ?_
   refine aK r (bM r r r (fun e=>eI e))<|mB r<|og r r r (fun hc=>(aZ mZ r))<|og r r r (fun hc=>(aJ (v:=aL) lN (gx r hc) r r))<|og r r r (fun hc=>(eC pU (cR (gx r hc))))<|og r r r (fun hc=>(lI (gx r hc) r))<|aK r (bM r r r (fun e=>eI e))<|sB r<|aF (fr':=[(2,aB)]) r r<|bF ?_
   obtain rfl:=sy h34
   exact bE (rs':=[.tmp 2]) r<|bG (v:=aB) r<|bD<|aN [] r r r lr aC
noncomputable def lS (p1o:cE) (s12:((List UInt8) × Int)):Option (cM ((List UInt8) × Int) (List UInt8)) :=
 cond (decide (s12.2<((([p1o.ToStart,p1o.ToClose,p1o.Total,p1o.Beat,p1o.First,p1o.Coef,p1o.Most,p1o.Attempts,((p1o.Fatal).length:Int)]:List Int)).length:Int))) ((jT ([p1o.ToStart,p1o.ToClose,p1o.Total,p1o.Beat,p1o.First,p1o.Coef,p1o.Most,p1o.Attempts,((p1o.Fatal).length:Int)]:List Int) s12.2).bind fun x14=>(gB s12.1 x14).bind fun x16=>some (cM.next (x16,(IntKind.wrap .i64 (s12.2+(1:Int)))))) (some (cM.out s12.1))
noncomputable def lT (p1o:cE) (s23:((List UInt8) × Int)):Option (cM ((List UInt8) × Int) (List UInt8)) :=
 cond (decide (s23.2<((p1o.Fatal).length:Int))) ((jT p1o.Fatal s23.2).bind fun x25=>(gU s23.1 x25).bind fun x27=>some (cM.next (x27,(IntKind.wrap .i64 (s23.2+(1:Int)))))) (some (cM.out s23.1))
noncomputable def lJ (p0b:(List UInt8)) (p1o:cE):Option (List UInt8) :=
 (app 1 ([]:List UInt8) p0b).bind fun x1=>(kH p1o).bind fun x3=>cond (!x3) (some x1) ((gU x1 p1o.Queue).bind fun x7=>((eQ (lS p1o) ((x7,(0:Int)))):Option (List UInt8)).bind fun x9=>(((eQ (lT p1o) ((x9,(0:Int)))):Option (List UInt8)).bind fun x20=>(some x20)))
theorem aA3 {p0b:(List UInt8)}{p1o:cE}{res:(List UInt8)} (h:lJ p0b p1o=some res):bT Tryz.prog 60 [.c (PV.ls 1 eL p0b),.agg (AV.cs (iG p1o))] [] (AV.os 0 1 eL res) []:=by
 unfold lJ at h
 refine cJ (fn:=Tryz.f60) [0,1,3,4,5,6,7,8,14,43,56] (by kernel_rfl) Tryz.func60 r (by kernel_rfl) (by kernel_rfl)<|aH<|fW (v:=.agg cI) (n:=0) (cs:=cI) (σ':=[cI]) r r r r r<|sV (v:=AV.nil) r<|aF (fr':=[(0,aL),(3,.box 0 0)]) r r<|aH<|sV (v:=AV.nil) r<|aF (fr':=[(0,aL),(3,.box 0 0),(5,AV.nil)]) r r<|aH<|mV (v:=AV.nil) r ?_
 refine mL r ?_
 obtain ⟨x1,hx1,h2⟩:=aE h
 refine aJ5 (row:=eL) xJ r aAR r (cR r) (fun _=>r) hx1<|sV (v:=aO) r<|aF (fr':=[(3,.box 0 0),(5,aO)]) r r<|aR<|aH<|aK r (cN (us:=cI) yM r r r r) ?_
 obtain ⟨x3,hx3,h4⟩:=aE h2
 refine gW (aY (v:=aB) r (vR hx3) ⟨(bP r ⟨r,r,r,r,r,r,r,r,r,r,trivial⟩),trivial⟩ r r r)<|aK r (eD r)<|aF (fr':=[(3,.box 0 0),(5,aO),(14,aB)]) r r<|bS h4 r (fun hb5 h5=>?_) (fun hb5 h5=>?_)
 ·
  refine aH<|mV (v:=aO) r<|sV (v:=aO) r<|aF (fr':=[(4,aO)]) r r<|bF<|aM ?_
  obtain rfl:=sy h5
  exact bE (rs':=[.tmp 4]) r<|bG (v:=aO) r<|bD<|aN [176] r r r lr aC
 ·
  refine aW<|bZ<|aH<|mV (v:=aO) r<|aK r (aZ wZ r)<|aK r (aJ (v:=aS) iE r r r) ?_
  obtain ⟨x7,hx7,h8⟩:=aE h5
  refine gW (aY (v:=aO) r (iY hx7) ⟨lr,lr,trivial⟩ r r r)<|sV (v:=aO) r<|aF (fr':=[(3,.box 0 0),(5,aO)]) r r<|aH<|aK r (aZ aB3 r)<|aK r (aJ (v:=aI) eB r r r)<|aK r (aZ aB4 r)<|aK r (aJ (v:=aI) eB r r r)<|aK r (aZ aB5 r)<|aK r (aJ (v:=aI) eB r r r)<|aK r (aZ aB6 r)<|aK r (aJ (v:=aI) eB r r r) ?_
  refine aK r (aZ aB7 r)<|aK r (aJ (v:=aI) eB r r r)<|aK r (aZ aB8 r)<|aK r (aJ (v:=aI) eB r r r)<|aK r (aZ aB9 r)<|aK r (aJ (v:=aI) eB r r r)<|aK r (aZ aCa r)<|aK r (aJ (v:=aI) eB r r r)<|aK r (aZ mZ r)<|aK r (aJ (v:=aL) lN r r r)<|aK r (eC pU (cR r))<|mT (row:=(aGq .i64)) (xs:=([p1o.ToStart,p1o.ToClose,p1o.Total,p1o.Beat,p1o.First,p1o.Coef,p1o.Most,p1o.Attempts,((p1o.Fatal).length:Int)]:List Int)) (rows:=[[_],[_],[_],[_],[_],[_],[_],[_],[_]]) (σ':=[cI]) [0] aGs r r r (cB r (cB r (cB r (cB r (cB r (cB r (cB r (cB r (cB r iC))))))))) r r<|sV (v:=aO) r ?_
  refine aF (fr':=[(3,.box 0 0),(5,aO),(6,aO)]) r r<|aR<|aH<|sI r<|aF (fr':=[(3,.box 0 0),(5,aO),(6,aO),(7,aI)]) r r ?_
  obtain ⟨x9,hx9,h10⟩:=aE h8
  refine eR gX (fun j11=>x9=j11) (fun (j11:(List UInt8))=>([(3,.box 0 0),(5,AV.os 0 1 eL j11)]:Fr)) (fun (j11:(List UInt8))=>([[.c (.str p1o.Queue),ci p1o.ToStart,ci p1o.ToClose,ci p1o.Total,ci p1o.Beat,ci p1o.First,ci p1o.Coef,ci p1o.Most,ci p1o.Attempts,.c (PV.ls 1 dD p1o.Fatal)]]:St)) ?_ ?_
  ·
   refine bL<|eK _ (fun (s12:((List UInt8) × Int))=>([(3,.box 0 0),(5,AV.os 0 1 eL s12.1),(6,AV.os 1 1 (aGq .i64) ([p1o.ToStart,p1o.ToClose,p1o.Total,p1o.Beat,p1o.First,p1o.Coef,p1o.Most,p1o.Attempts,((p1o.Fatal).length:Int)]:List Int)),(7,ci s12.2)]:Fr)) (fun (s12:((List UInt8) × Int))=>([[.c (.str p1o.Queue),ci p1o.ToStart,ci p1o.ToClose,ci p1o.Total,ci p1o.Beat,ci p1o.First,ci p1o.Coef,ci p1o.Most,ci p1o.Attempts,.c (PV.ls 1 dD p1o.Fatal)]]:St)) hx9 (aU [304,624] 1 r r r r ⟨lr,lr,lr,lr,trivial⟩ (bJ r aC)) ?_
   intro s12 st12 hs12 ho12
   unfold lS at hs12
   refine aR<|aH<|mI r<|mV (v:=aO) r<|aK r (eC aNn (kQ r))<|aK r (eA r r)<|aF (fr':=[(3,.box 0 0),(5,aO),(6,aO),(7,aI),(43,aB)]) r r<|bS hs12 r (fun hb13 h13=>?_) (fun hb13 h13=>?_)
   ·
    refine aW<|bZ<|aR<|bL<|aT<|mV (v:=aO) r<|mV (v:=aO) r<|mI r ?_
    obtain ⟨x14,hx14,h15⟩:=aE h13
    refine aK r (iL (cs:=[PV.int _ _]) aGs (kQ r) r hx14 r)<|aK r (fU (p:=PV.int _ _) eB r r) ?_
    obtain ⟨x16,hx16,h17⟩:=aE h15
    exact gW (aY (v:=aO) r (gT hx16) ⟨lr,lr,trivial⟩ r r r)<|sV (v:=aO) r<|cD (fr':=[(3,.box 0 0),(5,aO),(6,aO),(7,aI),(43,aB)]) r<|bW<|bZ<|aT<|mI r<|aK r (dZ r r)<|sI r<|cD (fr':=[(3,.box 0 0),(5,aO),(6,aO),(7,aI),(43,aB)]) r<|tU _ (sy h17) (aU [816,1] 1 r r r r ⟨lr,lr,lr,lr,trivial⟩ (bJ r aC))
   ·
    refine eZ<|bY<|bY<|dX ?_
    have h18:=dB h13 ho12
    exact fS _ (sy h18) (aU [0] 1 r r r r ⟨lr,lr,trivial⟩ (bJ r aC))
  ·
   intro j11 hj19
   subst hj19
   refine bZ<|aR<|aH<|sI r<|aF (fr':=[(3,.box 0 0),(5,aO),(8,aI)]) r r ?_
   obtain ⟨x20,hx20,h21⟩:=aE h10
   refine eR gX (fun j22=>x20=j22) (fun (j22:(List UInt8))=>([(5,AV.os 0 1 eL j22)]:Fr)) (fun (j22:(List UInt8))=>([[.c (.str p1o.Queue),ci p1o.ToStart,ci p1o.ToClose,ci p1o.Total,ci p1o.Beat,ci p1o.First,ci p1o.Coef,ci p1o.Most,ci p1o.Attempts,.c (PV.ls 1 dD p1o.Fatal)]]:St)) ?_ ?_
   ·
    refine bL<|eK _ (fun (s23:((List UInt8) × Int))=>([(3,.box 0 0),(5,AV.os 0 1 eL s23.1),(8,ci s23.2)]:Fr)) (fun (s23:((List UInt8) × Int))=>([[.c (.str p1o.Queue),ci p1o.ToStart,ci p1o.ToClose,ci p1o.Total,ci p1o.Beat,ci p1o.First,ci p1o.Coef,ci p1o.Most,ci p1o.Attempts,.c (PV.ls 1 dD p1o.Fatal)]]:St)) hx20 (aU [0] 1 r r r r ⟨lr,lr,lr,trivial⟩ (bJ r aC)) ?_
    intro s23 st23 hs23 ho23
    unfold lT at hs23
    refine aR<|aH<|mI r<|aK r (aZ mZ r)<|aK r (aJ (v:=aL) lN r r r)<|aK r (eC pU (cR r))<|aK r (eA r r)<|aF (fr':=[(3,.box 0 0),(5,aO),(8,aI),(56,aB)]) r r<|bS hs23 r (fun hb24 h24=>?_) (fun hb24 h24=>?_)
    ·
     refine aW<|bZ<|aR<|bL<|aT<|mV (v:=aO) r<|aK r (aZ mZ r)<|aK r (aJ (v:=aL) lN r r r)<|mI r ?_
     obtain ⟨x25,hx25,h26⟩:=aE h24
     refine aK r (iL (cs:=[PV.str _]) rV (cR r) r hx25 r)<|aK r (fU (p:=PV.str _) iE r r) ?_
     obtain ⟨x27,hx27,h28⟩:=aE h26
     exact gW (aY (v:=aO) r (iY hx27) ⟨lr,lr,trivial⟩ r r r)<|sV (v:=aO) r<|cD (fr':=[(3,.box 0 0),(5,aO),(8,aI),(56,aB)]) r<|bW<|bZ<|aT<|mI r<|aK r (dZ r r)<|sI r<|cD (fr':=[(3,.box 0 0),(5,aO),(8,aI),(56,aB)]) r<|tU _ (sy h28) (aU [1040] 1 r r r r ⟨lr,lr,lr,trivial⟩ (bJ r aC))
    ·
     refine eZ<|bY<|bY<|dX ?_
     have h29:=dB h24 ho23
     exact fS _ (sy h29) (aU [0] 1 r r r r ⟨lr,trivial⟩ (bJ r aC))
   ·
    intro j22 hj30
    subst hj30
    refine bZ<|aH<|mV (v:=aO) r<|sV (v:=aO) r<|aF (fr':=[(4,aO)]) r r<|bF ?_
    obtain rfl:=sy h21
    exact bE (rs':=[.tmp 4]) r<|bG (v:=aO) r<|bD<|aN [0] r r r lr aC
end Go.Proofs.YtnigjppddilpcaaGreatDoor
