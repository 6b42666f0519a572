import Derived.Test.YtnigjppddilpcaaGreatDoorGETy
namespace Go.Proofs.YtnigjppddilpcaaGreatDoor
open Go Abs
set_option maxRecDepth 100000
set_option linter.unusedVariables false
set_option linter.unusedSimpArgs false
noncomputable def tE (p0n:Int):Option Int :=
 cond (decide ((0:Int)≤p0n)) (some (IntKind.wrap .u64 ((2:Int)*(IntKind.wrap .u64 p0n)))) (some (IntKind.wrap .u64 ((IntKind.wrap .u64 ((2:Int)*(IntKind.wrap .u64 (IntKind.wrap .i64 (0 - (IntKind.wrap .i64 (p0n+(1:Int))))))))+(1:Int))))
theorem aF1 {p0n:Int}{res:Int} (h:tE p0n=some res):bS Tryz.prog 132 [ci p0n] [] (.c (.int .u64 res)) []:=by
 unfold tE at h
 refine cJ (fn:=Tryz.f132) [0,2,4] (by kernel_rfl) Tryz.func132 r (by kernel_rfl) (by kernel_rfl)<|aH<|sI r<|aF (fr':=[(0,aI)]) r r<|aP<|aH<|mI r<|aM r (nM r r)<|aF (fr':=[(0,aI),(4,aB)]) r r<|bP h r (fun hb1 h1=>?_) (fun hb1 h1=>?_)
 ·
  refine aH<|mI r<|aM r (kL tk3 aAY r)<|aM r (aI9 r r)<|sI r<|aF (fr':=[(2,aI)]) r r<|bC<|aJ ?_
  obtain rfl:=sy h1
  exact bB (rs':=[.tmp 2]) r<|bH (v:=aI) r<|aZ<|aN [] r r r lr aA
 ·
  refine aW<|bV<|aH<|mI r<|aM r (dB r r)<|aM r (aLe r)<|aM r (kL tk3 aAY r)<|aM r (aI9 r r)<|aM r (dB r r)<|sI r<|aF (fr':=[(2,aI)]) r r<|bC ?_
  obtain rfl:=sy h1
  exact bB (rs':=[.tmp 2]) r<|bH (v:=aI) r<|aZ<|aN [] r r r lr aA
noncomputable def rQ  (s8:((List UInt8) × Int)):Option (cI ((List UInt8) × Int) ((List UInt8) × Int)) :=
 cond (decide ((127:Int)<s8.2)) ((lF (IntKind.wrap .u8 (IntKind.wrap .u64 ((Int.tmod s8.2 (128:Int))+(128:Int))))).bind fun x10=>(app 1 s8.1 ([x10]:List UInt8)).bind fun x12=>some (cI.next (x12,(IntKind.wrap .u64 (Int.tdiv s8.2 (128:Int)))))) (some (cI.out (s8.1,s8.2)))
noncomputable def iL (p0b:(List UInt8)) (p1n:Int):Option (List UInt8) :=
 (app 1 ([]:List UInt8) p0b).bind fun x1=>(tE p1n).bind fun x3=>((dR (rQ) ((x1,x3))):Option ((List UInt8) × Int)).bind fun x5=>((lF (IntKind.wrap .u8 x5.2)).bind fun x16=>(app 1 x5.1 ([x16]:List UInt8)).bind fun x18=>some x18)
theorem lJ {p0b:(List UInt8)}{p1n:Int}{res:(List UInt8)} (h:iL p0b p1n=some res):bS Tryz.prog 57 [.c (PV.ls 1 dF p0b),ci p1n] [] (AV.os 0 1 dF res) []:=by
 unfold iL at h
 refine cJ (fn:=Tryz.f57) [0,1,4,5,6,13] (by kernel_rfl) Tryz.func57 r (by kernel_rfl) (by kernel_rfl)<|aH<|sV (v:=AV.nil) r<|aF (fr':=[(0,aL),(1,aI)]) r r<|aH<|kT (row:=dF) (xs:=([]:List UInt8)) (rows:=[]) (σ':=[]) [0] pK r r r gY r r<|mL r ?_
 obtain ⟨x1,hx1,h2⟩:=aE h
 refine wX (row:=dF) pK r sD r (cC r) (fun _=>r) hx1<|sV (v:=aO) r<|aF (fr':=[(1,aI),(5,aO)]) r r<|aH<|mI r ?_
 obtain ⟨x3,hx3,h4⟩:=aE h2
 refine gV (aX (v:=aI) r (aF1 hx3) ⟨lr,trivial⟩ r r r)<|sI r<|aF (fr':=[(5,aO),(6,aI)]) r r ?_
 obtain ⟨x5,hx5,h6⟩:=aE h4
 refine fY (fun j7=>x5=j7) (fun (j7:((List UInt8) × Int))=>([(5,AV.os 0 1 dF j7.1),(6,.c (.int .u64 j7.2))]:Fr)) (fun (j7:((List UInt8) × Int))=>([]:St)) ?_ ?_
 ·
  refine bJ<|dV _ (fun (s8:((List UInt8) × Int))=>([(5,AV.os 0 1 dF s8.1),(6,.c (.int .u64 s8.2))]:Fr)) (fun (s8:((List UInt8) × Int))=>([]:St)) hx5 (aU [144] 0 r r r r ⟨lr,lr,trivial⟩ aA) ?_
  intro s8 st8 hs8 ho8
  unfold rQ at hs8
  refine aP<|aH<|mI r<|aM r (kA r r)<|aF (fr':=[(5,aO),(6,aI),(13,aB)]) r r<|bP hs8 r (fun hb9 h9=>?_) (fun hb9 h9=>?_)
  ·
   refine aW<|bV<|bJ<|aH<|mV (v:=aO) r<|mI r<|aM r (aG7 r r (by decide))<|aM r (dB r r)<|aM r (kL aAY tk5 r) ?_
   obtain ⟨x10,hx10,h11⟩:=aE h9
   refine kT (row:=dF) (xs:=([x10]:List UInt8)) (rows:=[[_]]) (σ':=[]) [0] pK r r r (cM (uN hx10) gY) r r ?_
   obtain ⟨x12,hx12,h13⟩:=aE h11
   exact wX (row:=dF) pK r sD r (lG r) (fun _=>r) hx12<|sV (v:=aO) r<|aF (fr':=[(5,aO),(6,aI)]) r r<|aQ<|mI r<|aM r (aDW r r (by decide))<|sI r<|cB (fr':=[(5,aO),(6,aI)]) r<|bX<|rX _ (sy h13) (aU [320] 0 r r r r ⟨lr,lr,trivial⟩ aA)
  ·
   refine eK<|bR<|bR<|dC ?_
   have h14:=cS h9 ho8
   exact gD _ (sy h14) (aU [0] 0 r r r r ⟨lr,lr,trivial⟩ aA)
 ·
  intro j7 hj15
  subst hj15
  refine aH<|mV (v:=aO) r<|mI r<|aM r (kL aAY tk5 r) ?_
  obtain ⟨x16,hx16,h17⟩:=aE h6
  refine kT (row:=dF) (xs:=([x16]:List UInt8)) (rows:=[[_]]) (σ':=[]) [0] pK r r r (cM (uN hx16) gY) r r ?_
  obtain ⟨x18,hx18,h19⟩:=aE h17
  refine wX (row:=dF) pK r sD r (lG r) (fun _=>r) hx18<|sV (v:=aO) r<|aF (fr':=[(5,aO)]) r r<|aH<|mV (v:=aO) r<|sV (v:=aO) r<|aF (fr':=[(4,aO)]) r r<|bC ?_
  obtain rfl:=sy h19
  exact bB (rs':=[.tmp 4]) r<|bH (v:=aO) r<|aZ<|aN [432] r r r lr aA
noncomputable def qN (p1s:(List UInt8)) (s6:((List UInt8) × Int)):Option (cI ((List UInt8) × Int) (List UInt8)) :=
 cond (decide (s6.2<((p1s).length:Int))) ((hG p1s s6.2).bind fun x8=>(lF ((x8).toNat:Int)).bind fun x10=>(app 1 s6.1 ([x10]:List UInt8)).bind fun x12=>some (cI.next (x12,(IntKind.wrap .i64 (s6.2+(1:Int)))))) (some (cI.out s6.1))
noncomputable def iK (p0b:(List UInt8)) (p1s:(List UInt8)):Option (List UInt8) :=
 (iL p0b ((p1s).length:Int)).bind fun x1=>((dR (qN p1s) ((x1,(0:Int)))):Option (List UInt8)).bind fun x3=>(some x3)
theorem lV {p0b:(List UInt8)}{p1s:(List UInt8)}{res:(List UInt8)} (h:iK p0b p1s=some res):bS Tryz.prog 58 [.c (PV.ls 1 dF p0b),.c (.str p1s)] [] (AV.os 0 1 dF res) []:=by
 unfold iK at h
 refine cJ (fn:=Tryz.f58) [0,1,4,5,6,14] (by kernel_rfl) Tryz.func58 r (by kernel_rfl) (by kernel_rfl)<|aH<|sV (v:=AV.nil) r<|aF (fr':=[(0,aL),(1,aS)]) r r<|aH<|mL r<|mS r<|aM r (gL pJ r) ?_
 obtain ⟨x1,hx1,h2⟩:=aE h
 refine gV (aX (v:=aO) r (lJ hx1) ⟨lr,lr,trivial⟩ r r r)<|sV (v:=aO) r<|aF (fr':=[(1,aS),(5,aO)]) r r<|aP<|aH<|sI r<|aF (fr':=[(1,aS),(5,aO),(6,aI)]) r r ?_
 obtain ⟨x3,hx3,h4⟩:=aE h2
 refine eB gF (fun j5=>x3=j5) (fun (j5:(List UInt8))=>([(5,AV.os 0 1 dF j5)]:Fr)) (fun (j5:(List UInt8))=>([]:St)) ?_ ?_
 ·
  refine bJ<|dV _ (fun (s6:((List UInt8) × Int))=>([(1,.c (.str p1s)),(5,AV.os 0 1 dF s6.1),(6,ci s6.2)]:Fr)) (fun (s6:((List UInt8) × Int))=>([]:St)) hx3 (aU [160] 0 r r r r ⟨lr,lr,lr,trivial⟩ aA) ?_
  intro s6 st6 hs6 ho6
  unfold qN at hs6
  refine aP<|aH<|mI r<|mS r<|aM r (gL pJ r)<|aM r (dJ r r)<|aF (fr':=[(1,aS),(5,aO),(6,aI),(14,aB)]) r r<|bP hs6 r (fun hb7 h7=>?_) (fun hb7 h7=>?_)
  ·
   refine aW<|bV<|aP<|bJ<|aQ<|mV (v:=aO) r<|mS r<|mI r ?_
   obtain ⟨x8,hx8,h9⟩:=aE h7
   refine aM r (wE pJ r r hx8) ?_
   obtain ⟨x10,hx10,h11⟩:=aE h9
   refine kT (row:=dF) (xs:=([x10]:List UInt8)) (rows:=[[_]]) (σ':=[]) [0] pK r r r (cM (uN hx10) gY) r r ?_
   obtain ⟨x12,hx12,h13⟩:=aE h11
   exact wX (row:=dF) pK r sD r (lG r) (fun _=>r) hx12<|sV (v:=aO) r<|cB (fr':=[(1,aS),(5,aO),(6,aI),(14,aB)]) r<|bX<|bV<|aQ<|mI r<|aM r (dB r r)<|sI r<|cB (fr':=[(1,aS),(5,aO),(6,aI),(14,aB)]) r<|rX _ (sy h13) (aU [352] 0 r r r r ⟨lr,lr,lr,trivial⟩ aA)
  ·
   refine eK<|bR<|bR<|dC ?_
   have h14:=cS h7 ho6
   exact gD _ (sy h14) (aU [0] 0 r r r r ⟨lr,trivial⟩ aA)
 ·
  intro j5 hj15
  subst hj15
  refine bV<|aH<|mV (v:=aO) r<|sV (v:=aO) r<|aF (fr':=[(4,aO)]) r r<|bC ?_
  obtain rfl:=sy h4
  exact bB (rs':=[.tmp 4]) r<|bH (v:=aO) r<|aZ<|aN [0] r r r lr aA
noncomputable def rS (zP:(List (List UInt8))) (s4:Int):Option (cI Int (Fl Bool Unit)) :=
 cond (decide (s4<((zP).length:Int))) ((hG zP (IntKind.wrap .i64 (s4 - (1:Int)))).bind fun x6=>(hG zP s4).bind fun x8=>cond (!Op.bytesLess x6 x8) (some (cI.out (Fl.done false))) (some (cI.next (IntKind.wrap .i64 (s4+(1:Int)))))) (some (cI.out (Fl.go ())))
noncomputable def tH (zP:(List (List UInt8))):Option Bool :=
 ((dR (rS zP) ((1:Int))):Option (Fl Bool Unit)).bind fun x1=>Fl.next x1 (fun j3=>(some true))
theorem aF4 {zP:(List (List UInt8))}{res:Bool} (h:tH zP=some res):bS Tryz.prog 180 [.c (PV.ls 1 eA zP)] [] (.c (.bool res)) []:=by
 unfold tH at h
 refine cJ (fn:=Tryz.f180) [0,2,3,7,19] (by kernel_rfl) Tryz.func180 r (by kernel_rfl) (by kernel_rfl)<|aH<|sB r<|aF (fr':=[(0,aL)]) r r<|aP<|aH<|sI r<|aF (fr':=[(0,aL),(3,aI)]) r r ?_
 obtain ⟨x1,hx1,h2⟩:=aE h
 refine eB gF (fun j3=>x1=Fl.go j3) (fun (j3:Unit)=>([]:Fr)) (fun (j3:Unit)=>([]:St)) ?_ ?_
 ·
  refine bJ<|dV _ (fun (s4:Int)=>([(0,.c (PV.ls 1 eA zP)),(3,ci s4)]:Fr)) (fun (s4:Int)=>([]:St)) hx1 (aU [] 0 r r r r ⟨lr,lr,trivial⟩ aA) ?_
  intro s4 st4 hs4 ho4
  unfold rS at hs4
  refine aP<|aH<|mI r<|mL r<|aM r (dI pI (cC r))<|aM r (dJ r r)<|aF (fr':=[(0,aL),(3,aI),(7,aB)]) r r<|bP hs4 r (fun hb5 h5=>?_) (fun hb5 h5=>?_)
  ·
   refine aW<|bV<|aP<|bJ<|aP<|hF [.q 0,.q 1,.q 2,.q 3,.q 4,.q 5,.q 6,.q 7,.q 8,.q 9] [(some 10,[0]),(some 11,[3]),(some 12,[11]),(some 13,[10,12]),(some 14,[13]),(some 15,[0]),(some 16,[3]),(some 17,[15,16]),(some 18,[17]),(some 19,[14,18])] [0,0,2,7,15,0,0,96,224,511] (by kernel_rfl)<|dq r r (bE (v:=aL) r)<|dq r r (bE (v:=aI) r)<|dq r r (aFr r r) ?_
   obtain ⟨x6,hx6,h7⟩:=aE h5
   refine dq r r (gR (cs:=[PV.str _]) vV (cC r) r hx6 r)<|dq r r (eG (p:=PV.str _) kD r r)<|dq r r (bE (v:=aL) r)<|dq r r (bE (v:=aI) r) ?_
   obtain ⟨x8,hx8,h9⟩:=aE h7
   refine dq r r (gR (cs:=[PV.str _]) vV (cC r) r hx8 r)<|dq r r (eG (p:=PV.str _) kD r r)<|dq r r (aNj r r)<|uE (fr':=[(0,aL),(3,aI),(19,aB)]) r r<|bP h9 r (fun hb10 h10=>?_) (fun hb10 h10=>?_)
   ·
    refine aH<|sB r<|aF (fr':=[(2,aB)]) r r<|bC<|bA<|aJ<|aJ<|bA<|aJ<|aJ ?_
    have h11:=cS h10 ho4
    have h12:=dQ h11 h2
    obtain rfl:=sy h12
    exact bB (rs':=[.tmp 2]) r<|bH (v:=aB) r<|aZ<|aN [] r r r lr aA
   ·
    exact aW<|bX<|bV<|aQ<|mI r<|aM r (dB r r)<|sI r<|cB (fr':=[(0,aL),(3,aI),(19,aB)]) r<|rX _ (sy h10) (aU [] 0 r r r r ⟨lr,lr,trivial⟩ aA)
  ·
   refine eK<|bR<|bR<|dC ?_
   have h14:=cS h5 ho4
   exact gD _ (sy h14) (aU [] 0 r r r r trivial aA)
 ·
  intro j3 hj15
  have h15:=iC hj15 h2
  refine bV<|aH<|sB r<|aF (fr':=[(2,aB)]) r r<|bC ?_
  obtain rfl:=sy h15
  exact bB (rs':=[.tmp 2]) r<|bH (v:=aB) r<|aZ<|aN [] r r r lr aA
noncomputable def mU (aAM:aC→Option Bool) (p0C:aC) (s4:Int):Option (cI Int (Fl Bool Unit)) :=
 cond (decide (s4<((p0C.Items).length:Int))) ((hG p0C.Items s4).bind fun x6=>(aAM x6).bind fun x8=>cond (!x8) (some (cI.out (Fl.done false))) (some (cI.next (IntKind.wrap .i64 (s4+(1:Int)))))) (some (cI.out (Fl.go ())))
noncomputable def iS:Nat→aC→Option Bool
 | 0,_=>none
 | n+1,p0C =>
  ((dR (mU (iS n) p0C) ((0:Int))):Option (Fl Bool Unit)).bind fun x1=>Fl.next x1 (fun j3=>(cond (decide (p0C.Kind=(0:Int))) (some (cond (cond (cond (decide (p0C.Int=(0:Int))) (decide (p0C.Text=([]:List UInt8))) false) (decide (((p0C.Items).length:Int)=(0:Int))) false) (decide (((p0C.Keys).length:Int)=(0:Int))) false)) (cond (decide (p0C.Kind=(1:Int))) (some (cond (cond (cond (cond (decide (p0C.Int=(0:Int))) true (decide (p0C.Int=(1:Int)))) (decide (p0C.Text=([]:List UInt8))) false) (decide (((p0C.Items).length:Int)=(0:Int))) false) (decide (((p0C.Keys).length:Int)=(0:Int))) false)) (cond (decide (p0C.Kind=(2:Int))) (some (cond (cond (decide (p0C.Text=([]:List UInt8))) (decide (((p0C.Items).length:Int)=(0:Int))) false) (decide (((p0C.Keys).length:Int)=(0:Int))) false)) (cond (decide (p0C.Kind=(3:Int))) (some (cond (cond (decide (p0C.Int=(0:Int))) (decide (((p0C.Items).length:Int)=(0:Int))) false) (decide (((p0C.Keys).length:Int)=(0:Int))) false)) (cond (decide (p0C.Kind=(4:Int))) (some (cond (cond (decide (p0C.Int=(0:Int))) (decide (p0C.Text=([]:List UInt8))) false) (decide (((p0C.Keys).length:Int)=(0:Int))) false)) (cond (decide (p0C.Kind=(5:Int))) ((gd ((cond (cond (decide (p0C.Int=(0:Int))) (decide (p0C.Text=([]:List UInt8))) false) (decide (((p0C.Keys).length:Int)=((p0C.Items).length:Int))) false)==true) (tH p0C.Keys)).bind fun x27=>some (cond (cond (cond (decide (p0C.Int=(0:Int))) (decide (p0C.Text=([]:List UInt8))) false) (decide (((p0C.Keys).length:Int)=((p0C.Items).length:Int))) false) x27 false)) (cond (decide (p0C.Kind=(6:Int))) (some (cond (cond (cond (decide ((0:Int)≤p0C.Int)) (decide (p0C.Text=([]:List UInt8))) false) (decide (((p0C.Items).length:Int)=(0:Int))) false) (decide (((p0C.Keys).length:Int)=(0:Int))) false)) (some false)))))))))
theorem aBt:∀ n:Nat,(∀ {p0C:aC}{res:Bool},iS n p0C=some res→bS Tryz.prog 133 [.agg (AV.cs (cQ p0C))] [] (.c (.bool res)) []):=by
 intro n
 induction n with
 | zero=>exact fun {p0C res} h=>absurd h (by simp [iS])
 | succ n ih =>
  have ih_ref02xWellFormed:=@ih
  intro p0C res h
  rw [iS] at h
  refine cJ (fn:=Tryz.f133) [0,1,2,3,8,17,19,20,42,69,86,103,119,143] (by kernel_rfl) Tryz.func133 r (by kernel_rfl) (by kernel_rfl)<|aH<|fS (v:=.agg bL) (n:=0) (cs:=bL) (σ':=[bL]) r r r r r<|sB r<|aF (fr':=[(1,.box 0 0)]) r r<|aP<|aH<|sI r<|aF (fr':=[(1,.box 0 0),(3,aI)]) r r ?_
  obtain ⟨x1,hx1,h2⟩:=aE h
  refine eB gF (fun j3=>x1=Fl.go j3) (fun (j3:Unit)=>([(1,.box 0 0)]:Fr)) (fun (j3:Unit)=>([[ci p0C.Kind,ci p0C.Int,.c (.str p0C.Text),.c (PV.ls 5 bF p0C.Items),.c (PV.ls 1 eA p0C.Keys)]]:St)) ?_ ?_
  ·
   refine bJ<|dV _ (fun (s4:Int)=>([(1,.box 0 0),(3,ci s4)]:Fr)) (fun (s4:Int)=>([[ci p0C.Kind,ci p0C.Int,.c (.str p0C.Text),.c (PV.ls 5 bF p0C.Items),.c (PV.ls 1 eA p0C.Keys)]]:St)) hx1 (aU [] 1 r r r r ⟨lr,lr,trivial⟩ (bW r aA)) ?_
   intro s4 st4 hs4 ho4
   unfold mU at hs4
   refine aP<|aH<|mI r<|aM r (bD eJ r)<|aM r (aK (v:=aL) iF r r r)<|aM r (dI nH (cC r))<|aM r (dJ r r)<|aF (fr':=[(1,.box 0 0),(3,aI),(8,aB)]) r r<|bP hs4 r (fun hb5 h5=>?_) (fun hb5 h5=>?_)
   ·
    refine aW<|bV<|aP<|bJ<|aH<|aM r (bD eJ r)<|aM r (aK (v:=aL) iF r r r)<|mI r ?_
    obtain ⟨x6,hx6,h7⟩:=aE h5
    refine aM r (gR (cs:=[PV.int _ _,PV.int _ _,PV.str _,PV.ls _ _ _,PV.ls _ _ _]) mP (cC r) r hx6 (cE _))<|aM r (gM (us:=[PV.int _ _,PV.int _ _,PV.str _,PV.ls _ _ _,PV.ls _ _ _]) fM r r r) ?_
    obtain ⟨x8,hx8,h9⟩:=aE h7
    refine gV (aX (v:=aB) r (ih_ref02xWellFormed hx8) ⟨(bK r ⟨r,r,r,r,r,trivial⟩),trivial⟩ r r r)<|aM r (eI r)<|aF (fr':=[(1,.box 0 0),(3,aI),(17,aB)]) r r<|bP h9 r (fun hb10 h10=>?_) (fun hb10 h10=>?_)
    ·
     refine aH<|sB r<|aF (fr':=[(2,aB)]) r r<|bC<|bA<|aJ<|aJ<|bA<|aJ<|aJ ?_
     have h11:=cS h10 ho4
     have h12:=dQ h11 h2
     obtain rfl:=sy h12
     exact bB (rs':=[.tmp 2]) r<|bH (v:=aB) r<|aZ<|aN [] r r r lr aA
    ·
     exact aW<|bX<|bV<|aQ<|mI r<|aM r (dB r r)<|sI r<|cB (fr':=[(1,.box 0 0),(3,aI),(17,aB)]) r<|rX _ (sy h10) (aU [] 1 r r r r ⟨lr,lr,trivial⟩ (bW r aA))
   ·
    refine eK<|bR<|bR<|dC ?_
    have h14:=cS h5 ho4
    exact gD _ (sy h14) (aU [] 1 r r r r ⟨lr,trivial⟩ (bW r aA))
  ·
   intro j3 hj15
   have h15:=iC hj15 h2
   refine bV<|aP<|aH<|aM r (bD gW r)<|aM r (aK (v:=aI) eP r r r)<|aF (fr':=[(1,.box 0 0),(19,aI)]) r r<|bJ<|aH<|aM r (bM r r)<|sB r<|aF (fr':=[(1,.box 0 0),(19,aI),(20,aB)]) r r ?_
   refine bP h15 r (fun hb16 h16=>?_) (fun hb16 h16=>?_)
   ·
    refine aH<|aM r (bD mM r)<|aM r (aK (v:=aI) eP r r r)<|aM r (bM r r)<|mB r<|og r r r (fun hc=>(bD lT r))<|og r r r (fun hc=>(aK (v:=aS) kD (gx r hc) r r))<|og r r r (fun hc=>(oU (gx r hc) r))<|aM r (bO r r r (fun e=>eO e))<|mB r<|og r r r (fun hc=>(bD eJ r))<|og r r r (fun hc=>(aK (v:=aL) iF (gx r hc) r r)) ?_
    refine og r r r (fun hc=>(dI nH (cC (gx r hc))))<|og r r r (fun hc=>(bM (gx r hc) r))<|aM r (bO r r r (fun e=>eO e))<|mB r<|og r r r (fun hc=>(bD jA r))<|og r r r (fun hc=>(aK (v:=aL) kM (gx r hc) r r))<|og r r r (fun hc=>(dI pI (cC (gx r hc))))<|og r r r (fun hc=>(bM (gx r hc) r))<|aM r (bO r r r (fun e=>eO e))<|sB r<|aF (fr':=[(2,aB)]) r r<|bC<|bA ?_
    refine aJ ?_
    obtain rfl:=sy h16
    exact bB (rs':=[.tmp 2]) r<|bH (v:=aB) r<|aZ<|aN [] r r r lr aA
   ·
    refine aH<|aM r (bM r r)<|sB r<|aF (fr':=[(1,.box 0 0),(19,aI),(42,aB)]) r r<|bP h16 r (fun hb18 h18=>?_) (fun hb18 h18=>?_)
    ·
     refine aH<|aM r (bD mM r)<|aM r (aK (v:=aI) eP r r r)<|aM r (bM r r)<|mB r<|og r r r (fun hc=>(bD mM r))<|og r r r (fun hc=>(aK (v:=aI) eP (gx r hc) r r))<|og r r r (fun hc=>(bM (gx r hc) r))<|aM r (bY r r r (fun e=>eO e))<|mB r<|og r r r (fun hc=>(bD lT r))<|og r r r (fun hc=>(aK (v:=aS) kD (gx r hc) r r)) ?_
     refine og r r r (fun hc=>(oU (gx r hc) r))<|aM r (bO r r r (fun e=>eO e))<|mB r<|og r r r (fun hc=>(bD eJ r))<|og r r r (fun hc=>(aK (v:=aL) iF (gx r hc) r r))<|og r r r (fun hc=>(dI nH (cC (gx r hc))))<|og r r r (fun hc=>(bM (gx r hc) r))<|aM r (bO r r r (fun e=>eO e))<|mB r<|og r r r (fun hc=>(bD jA r))<|og r r r (fun hc=>(aK (v:=aL) kM (gx r hc) r r))<|og r r r (fun hc=>(dI pI (cC (gx r hc))))<|og r r r (fun hc=>(bM (gx r hc) r)) ?_
     refine aM r (bO r r r (fun e=>eO e))<|sB r<|aF (fr':=[(2,aB)]) r r<|bC<|bA<|aJ ?_
     obtain rfl:=sy h18
     exact bB (rs':=[.tmp 2]) r<|bH (v:=aB) r<|aZ<|aN [] r r r lr aA
    ·
     refine aH<|aM r (bM r r)<|sB r<|aF (fr':=[(1,.box 0 0),(19,aI),(69,aB)]) r r<|bP h18 r (fun hb20 h20=>?_) (fun hb20 h20=>?_)
     ·
      refine aH<|aM r (bD lT r)<|aM r (aK (v:=aS) kD r r r)<|aM r (oU r r)<|mB r<|og r r r (fun hc=>(bD eJ r))<|og r r r (fun hc=>(aK (v:=aL) iF (gx r hc) r r))<|og r r r (fun hc=>(dI nH (cC (gx r hc))))<|og r r r (fun hc=>(bM (gx r hc) r))<|aM r (bO r r r (fun e=>eO e))<|mB r<|og r r r (fun hc=>(bD jA r)) ?_
      refine og r r r (fun hc=>(aK (v:=aL) kM (gx r hc) r r))<|og r r r (fun hc=>(dI pI (cC (gx r hc))))<|og r r r (fun hc=>(bM (gx r hc) r))<|aM r (bO r r r (fun e=>eO e))<|sB r<|aF (fr':=[(2,aB)]) r r<|bC<|bA<|aJ ?_
      obtain rfl:=sy h20
      exact bB (rs':=[.tmp 2]) r<|bH (v:=aB) r<|aZ<|aN [] r r r lr aA
     ·
      refine aH<|aM r (bM r r)<|sB r<|aF (fr':=[(1,.box 0 0),(19,aI),(86,aB)]) r r<|bP h20 r (fun hb22 h22=>?_) (fun hb22 h22=>?_)
      ·
       refine aH<|aM r (bD mM r)<|aM r (aK (v:=aI) eP r r r)<|aM r (bM r r)<|mB r<|og r r r (fun hc=>(bD eJ r))<|og r r r (fun hc=>(aK (v:=aL) iF (gx r hc) r r))<|og r r r (fun hc=>(dI nH (cC (gx r hc))))<|og r r r (fun hc=>(bM (gx r hc) r))<|aM r (bO r r r (fun e=>eO e))<|mB r<|og r r r (fun hc=>(bD jA r)) ?_
       refine og r r r (fun hc=>(aK (v:=aL) kM (gx r hc) r r))<|og r r r (fun hc=>(dI pI (cC (gx r hc))))<|og r r r (fun hc=>(bM (gx r hc) r))<|aM r (bO r r r (fun e=>eO e))<|sB r<|aF (fr':=[(2,aB)]) r r<|bC<|bA<|aJ ?_
       obtain rfl:=sy h22
       exact bB (rs':=[.tmp 2]) r<|bH (v:=aB) r<|aZ<|aN [] r r r lr aA
      ·
       refine aH<|aM r (bM r r)<|sB r<|aF (fr':=[(1,.box 0 0),(19,aI),(103,aB)]) r r<|bP h22 r (fun hb24 h24=>?_) (fun hb24 h24=>?_)
       ·
        refine aH<|aM r (bD mM r)<|aM r (aK (v:=aI) eP r r r)<|aM r (bM r r)<|mB r<|og r r r (fun hc=>(bD lT r))<|og r r r (fun hc=>(aK (v:=aS) kD (gx r hc) r r))<|og r r r (fun hc=>(oU (gx r hc) r))<|aM r (bO r r r (fun e=>eO e))<|mB r<|og r r r (fun hc=>(bD jA r))<|og r r r (fun hc=>(aK (v:=aL) kM (gx r hc) r r)) ?_
        refine og r r r (fun hc=>(dI pI (cC (gx r hc))))<|og r r r (fun hc=>(bM (gx r hc) r))<|aM r (bO r r r (fun e=>eO e))<|sB r<|aF (fr':=[(2,aB)]) r r<|bC<|bA<|aJ ?_
        obtain rfl:=sy h24
        exact bB (rs':=[.tmp 2]) r<|bH (v:=aB) r<|aZ<|aN [] r r r lr aA
       ·
        refine aH<|aM r (bM r r)<|sB r<|aF (fr':=[(1,.box 0 0),(19,aI),(119,aB)]) r r<|bP h24 r (fun hb26 h26=>?_) (fun hb26 h26=>?_)
        ·
         refine aH<|aM r (bD mM r)<|aM r (aK (v:=aI) eP r r r)<|aM r (bM r r)<|mB r<|og r r r (fun hc=>(bD lT r))<|og r r r (fun hc=>(aK (v:=aS) kD (gx r hc) r r))<|og r r r (fun hc=>(oU (gx r hc) r))<|aM r (bO r r r (fun e=>eO e))<|mB r<|og r r r (fun hc=>(bD jA r))<|og r r r (fun hc=>(aK (v:=aL) kM (gx r hc) r r)) ?_
         refine og r r r (fun hc=>(dI pI (cC (gx r hc))))<|og r r r (fun hc=>(bD eJ r))<|og r r r (fun hc=>(aK (v:=aL) iF (gx r hc) r r))<|og r r r (fun hc=>(dI nH (cC (gx r hc))))<|og r r r (fun hc=>(bM (gx r hc) (gx r hc)))<|aM r (bO r r r (fun e=>eO e))<|mB r<|og r r r (fun hc=>(bD jA r))<|og r r r (fun hc=>(aK (v:=aL) kM (gx r hc) r r)) ?_
         obtain ⟨x27,hx27,h28⟩:=aE h26
         refine sM r r (fun hc=>aX (v:=aB) r (aF4 (cA hx27 hc)) ⟨(eH (gx r hc) lr),trivial⟩ (fA (by repeat (first | exact dX | refine aY r ?_ | refine aY (oS r) ?_ | refine aY oR ?_))) r r) ?_
         refine aM r (bO r r r (fun e=>eO e))<|sB r<|aF (fr':=[(2,aB)]) r r<|bC<|bA<|aJ ?_
         obtain rfl:=sy h28
         exact bB (rs':=[.tmp 2]) r<|bH (v:=aB) r<|aZ<|aN [] r r r lr aA
        ·
         refine aH<|aM r (bM r r)<|sB r<|aF (fr':=[(1,.box 0 0),(143,aB)]) r r<|bP h26 r (fun hb30 h30=>?_) (fun hb30 h30=>?_)
         ·
          refine aH<|aM r (bD mM r)<|aM r (aK (v:=aI) eP r r r)<|aM r (nM r r)<|mB r<|og r r r (fun hc=>(bD lT r))<|og r r r (fun hc=>(aK (v:=aS) kD (gx r hc) r r))<|og r r r (fun hc=>(oU (gx r hc) r))<|aM r (bO r r r (fun e=>eO e))<|mB r<|og r r r (fun hc=>(bD eJ r))<|og r r r (fun hc=>(aK (v:=aL) iF (gx r hc) r r)) ?_
          refine og r r r (fun hc=>(dI nH (cC (gx r hc))))<|og r r r (fun hc=>(bM (gx r hc) r))<|aM r (bO r r r (fun e=>eO e))<|mB r<|og r r r (fun hc=>(bD jA r))<|og r r r (fun hc=>(aK (v:=aL) kM (gx r hc) r r))<|og r r r (fun hc=>(dI pI (cC (gx r hc))))<|og r r r (fun hc=>(bM (gx r hc) r))<|aM r (bO r r r (fun e=>eO e))<|sB r<|aF (fr':=[(2,aB)]) r r<|bC<|bA ?_
          refine aJ ?_
          obtain rfl:=sy h30
          exact bB (rs':=[.tmp 2]) r<|bH (v:=aB) r<|aZ<|aN [] r r r lr aA
         ·
          refine aW<|bX<|bV<|aH<|sB r<|aF (fr':=[(2,aB)]) r r<|bC ?_
          obtain rfl:=sy h30
          exact bB (rs':=[.tmp 2]) r<|bH (v:=aB) r<|aZ<|aN [] r r r lr aA
noncomputable def qO (p0C:aC):Option Bool:=lim fun n=>iS n p0C
theorem xL {p0C:aC}{res:Bool} (h:qO p0C=some res):bS Tryz.prog 133 [.agg (AV.cs (cQ p0C))] [] (.c (.bool res)) []:=by
 obtain ⟨n,hn⟩:=jZ h
 exact (aBt n) hn
noncomputable def qP (aGq:(List UInt8)→aC→Option (List UInt8)) (p1v:aC) (s29:((List UInt8) × Int)):Option (cI ((List UInt8) × Int) (List UInt8)) :=
 cond (decide (s29.2<((p1v.Items).length:Int))) (((cond (decide (p1v.Kind=(5:Int))) ((hG p1v.Keys s29.2).bind fun x35=>(iK s29.1 x35).bind fun x37=>some x37) (some s29.1)):Option (List UInt8)).bind fun x31=>((hG p1v.Items s29.2).bind fun x40=>(aGq x31 x40).bind fun x42=>some (cI.next (x42,(IntKind.wrap .i64 (s29.2+(1:Int))))))) (some (cI.out s29.1))
noncomputable def sA:Nat→(List UInt8)→aC→Option (List UInt8)
 | 0,_,_=>none
 | n+1,p0b,p1v =>
  (iL p0b p1v.Kind).bind fun x1=>((((cond (decide (p1v.Kind=(1:Int))) (some (decide (p1v.Kind=(1:Int)))) (cond (decide (p1v.Kind=(2:Int))) (some (decide (p1v.Kind=(2:Int)))) (some (decide (p1v.Kind=(6:Int)))))):Option Bool).bind fun x6=>(cond x6 ((iL x1 p1v.Int).bind fun x13=>some x13) (cond (decide (p1v.Kind=(3:Int))) ((iK x1 p1v.Text).bind fun x16=>some x16) (((cond (decide (p1v.Kind=(4:Int))) (some (decide (p1v.Kind=(4:Int)))) (some (decide (p1v.Kind=(5:Int))))):Option Bool).bind fun x18=>(cond x18 ((iL x1 ((p1v.Items).length:Int)).bind fun x24=>((dR (qP (sA n) p1v) ((x24,(0:Int)))):Option (List UInt8)).bind fun x26=>(some x26)) (some x1)))))):Option (List UInt8)).bind fun x3=>(some x3)
theorem aH9:∀ n:Nat,(∀ {p0b:(List UInt8)}{p1v:aC}{res:(List UInt8)},sA n p0b p1v=some res→bS Tryz.prog 134 [.c (PV.ls 1 dF p0b),.agg (AV.cs (cQ p1v))] [] (AV.os 0 1 dF res) []):=by
 intro n
 induction n with
 | zero=>exact fun {p0b p1v res} h=>absurd h (by simp [sA])
 | succ n ih =>
  have ih_ref02xput:=@ih
  intro p0b p1v res h
  rw [sA] at h
  refine cJ (fn:=Tryz.f134) [0,1,3,4,5,11,12,20,26,38,43] (by kernel_rfl) Tryz.func134 r (by kernel_rfl) (by kernel_rfl)<|aH<|fS (v:=.agg bL) (n:=0) (cs:=bL) (σ':=[bL]) r r r r r<|sV (v:=AV.nil) r<|aF (fr':=[(0,aL),(3,.box 0 0)]) r r<|aH<|mL r<|aM r (bD gW r)<|aM r (aK (v:=aI) eP r r r) ?_
  obtain ⟨x1,hx1,h2⟩:=aE h
  refine gV (aX (v:=aO) r (lJ hx1) ⟨lr,lr,trivial⟩ r r r)<|sV (v:=aO) r<|aF (fr':=[(0,aO),(3,.box 0 0)]) r r ?_
  obtain ⟨x3,hx3,h4⟩:=aE h2
  refine fY (fun j5=>x3=j5) (fun (j5:(List UInt8))=>([(0,AV.os 0 1 dF j5)]:Fr)) (fun (j5:(List UInt8))=>([[ci p1v.Kind,ci p1v.Int,.c (.str p1v.Text),.c (PV.ls 5 bF p1v.Items),.c (PV.ls 1 eA p1v.Keys)]]:St)) ?_ ?_
  ·
   refine aH<|aM r (bD gW r)<|aM r (aK (v:=aI) eP r r r)<|aF (fr':=[(0,aO),(3,.box 0 0),(11,aI)]) r r<|bJ ?_
   obtain ⟨x6,hx6,h7⟩:=aE hx3
   refine fY (fun j8=>x6=j8) (fun (j8:Bool)=>([(0,AV.os 0 1 dF x1),(3,.box 0 0),(11,ci p1v.Kind),(12,.c (.bool j8))]:Fr)) (fun (j8:Bool)=>([[ci p1v.Kind,ci p1v.Int,.c (.str p1v.Text),.c (PV.ls 5 bF p1v.Items),.c (PV.ls 1 eA p1v.Keys)]]:St)) ?_ ?_
   ·
    refine aH<|aM r (bM r r)<|sB r<|aF (fr':=[(0,aO),(3,.box 0 0),(11,aI),(12,aB)]) r r<|bP hx6 r (fun hb9 h9=>?_) (fun hb9 h9=>?_)
    ·
     exact aW<|gD _ (sy h9) (aU [144] 1 r r r r ⟨lr,lr,lr,lr,trivial⟩ (bW r aA))
    ·
     refine aH<|aM r (bM r r)<|sB r<|aF (fr':=[(0,aO),(3,.box 0 0),(11,aI),(12,aB)]) r r<|bP h9 r (fun hb10 h10=>?_) (fun hb10 h10=>?_)
     ·
      exact aW<|gD _ (sy h10) (aU [144] 1 r r r r ⟨lr,lr,lr,lr,trivial⟩ (bW r aA))
     ·
      exact aQ<|aM r (bM r r)<|sB r<|cB (fr':=[(0,aO),(3,.box 0 0),(11,aI),(12,aB)]) r<|gD _ (sy h10) (aU [144] 1 r r r r ⟨lr,lr,lr,lr,trivial⟩ (bW r aA))
   ·
    intro j8 hj11
    subst hj11
    refine bP h7 r (fun hb12 h12=>?_) (fun hb12 h12=>?_)
    ·
     refine aQ<|mV (v:=aO) r<|aM r (bD mM r)<|aM r (aK (v:=aI) eP r r r) ?_
     obtain ⟨x13,hx13,h14⟩:=aE h12
     exact gV (aX (v:=aO) r (lJ hx13) ⟨lr,lr,trivial⟩ r r r)<|sV (v:=aO) r<|cB (fr':=[(0,aO),(3,.box 0 0),(11,aI),(12,aB)]) r<|bX<|gD _ (sy h14) (aU [304] 1 r r r r ⟨lr,trivial⟩ (bW r aA))
    ·
     refine aH<|aM r (bM r r)<|sB r<|aF (fr':=[(0,aO),(3,.box 0 0),(11,aI),(20,aB)]) r r<|bP h12 r (fun hb15 h15=>?_) (fun hb15 h15=>?_)
     ·
      refine aQ<|mV (v:=aO) r<|aM r (bD lT r)<|aM r (aK (v:=aS) kD r r r) ?_
      obtain ⟨x16,hx16,h17⟩:=aE h15
      exact gV (aX (v:=aO) r (lV hx16) ⟨lr,lr,trivial⟩ r r r)<|sV (v:=aO) r<|cB (fr':=[(0,aO),(3,.box 0 0),(11,aI),(20,aB)]) r<|bX<|gD _ (sy h17) (aU [400] 1 r r r r ⟨lr,trivial⟩ (bW r aA))
     ·
      obtain ⟨x18,hx18,h19⟩:=aE h15
      refine fY (fun j20=>x18=j20) (fun (j20:Bool)=>([(0,AV.os 0 1 dF x1),(3,.box 0 0),(26,.c (.bool j20))]:Fr)) (fun (j20:Bool)=>([[ci p1v.Kind,ci p1v.Int,.c (.str p1v.Text),.c (PV.ls 5 bF p1v.Items),.c (PV.ls 1 eA p1v.Keys)]]:St)) ?_ ?_
      ·
       refine aH<|aM r (bM r r)<|sB r<|aF (fr':=[(0,aO),(3,.box 0 0),(11,aI),(26,aB)]) r r<|bP hx18 r (fun hb21 h21=>?_) (fun hb21 h21=>?_)
       ·
        exact aW<|gD _ (sy h21) (aU [0] 1 r r r r ⟨lr,lr,lr,trivial⟩ (bW r aA))
       ·
        exact aQ<|aM r (bM r r)<|sB r<|cB (fr':=[(0,aO),(3,.box 0 0),(11,aI),(26,aB)]) r<|gD _ (sy h21) (aU [0] 1 r r r r ⟨lr,lr,lr,trivial⟩ (bW r aA))
      ·
       intro j20 hj22
       subst hj22
       refine bP h19 r (fun hb23 h23=>?_) (fun hb23 h23=>?_)
       ·
        refine aH<|mV (v:=aO) r<|aM r (bD eJ r)<|aM r (aK (v:=aL) iF r r r)<|aM r (dI nH (cC r)) ?_
        obtain ⟨x24,hx24,h25⟩:=aE h23
        refine gV (aX (v:=aO) r (lJ hx24) ⟨lr,lr,trivial⟩ r r r)<|sV (v:=aO) r<|aF (fr':=[(0,aO),(3,.box 0 0)]) r r<|aH<|sI r<|aF (fr':=[(0,aO),(3,.box 0 0),(5,aI)]) r r ?_
        obtain ⟨x26,hx26,h27⟩:=aE h25
        refine eB (aOw aQK) (fun j28=>x26=j28) (fun (j28:(List UInt8))=>([(0,AV.os 0 1 dF j28)]:Fr)) (fun (j28:(List UInt8))=>([[ci p1v.Kind,ci p1v.Int,.c (.str p1v.Text),.c (PV.ls 5 bF p1v.Items),.c (PV.ls 1 eA p1v.Keys)]]:St)) ?_ ?_
        ·
         refine bJ<|dV _ (fun (s29:((List UInt8) × Int))=>([(0,AV.os 0 1 dF s29.1),(3,.box 0 0),(5,ci s29.2)]:Fr)) (fun (s29:((List UInt8) × Int))=>([[ci p1v.Kind,ci p1v.Int,.c (.str p1v.Text),.c (PV.ls 5 bF p1v.Items),.c (PV.ls 1 eA p1v.Keys)]]:St)) hx26 (aU [528] 1 r r r r ⟨lr,lr,lr,trivial⟩ (bW r aA)) ?_
         intro s29 st29 hs29 ho29
         unfold qP at hs29
         refine aP<|aH<|mI r<|aM r (bD eJ r)<|aM r (aK (v:=aL) iF r r r)<|aM r (dI nH (cC r))<|aM r (dJ r r)<|aF (fr':=[(0,aO),(3,.box 0 0),(5,aI),(38,aB)]) r r<|bP hs29 r (fun hb30 h30=>?_) (fun hb30 h30=>?_)
         ·
          refine aW<|bV<|aP<|bJ ?_
          obtain ⟨x31,hx31,h32⟩:=aE h30
          refine fY (fun j33=>x31=j33) (fun (j33:(List UInt8))=>([(0,AV.os 0 1 dF j33),(3,.box 0 0),(5,ci s29.2)]:Fr)) (fun (j33:(List UInt8))=>([[ci p1v.Kind,ci p1v.Int,.c (.str p1v.Text),.c (PV.ls 5 bF p1v.Items),.c (PV.ls 1 eA p1v.Keys)]]:St)) ?_ ?_
          ·
           refine aH<|aM r (bD gW r)<|aM r (aK (v:=aI) eP r r r)<|aM r (bM r r)<|aF (fr':=[(0,aO),(3,.box 0 0),(5,aI),(43,aB)]) r r<|bP hx31 r (fun hb34 h34=>?_) (fun hb34 h34=>?_)
           ·
            refine aQ<|mV (v:=aO) r<|aM r (bD jA r)<|aM r (aK (v:=aL) kM r r r)<|mI r ?_
            obtain ⟨x35,hx35,h36⟩:=aE h34
            refine aM r (gR (cs:=[PV.str _]) vV (cC r) r hx35 r)<|aM r (eG (p:=PV.str _) kD r r) ?_
            obtain ⟨x37,hx37,h38⟩:=aE h36
            exact gV (aX (v:=aO) r (lV hx37) ⟨lr,lr,trivial⟩ r r r)<|sV (v:=aO) r<|cB (fr':=[(0,aO),(3,.box 0 0),(5,aI),(43,aB)]) r<|gD _ (sy h38) (aU [800] 1 r r r r ⟨lr,lr,lr,trivial⟩ (bW r aA))
           ·
            exact aW<|gD _ (sy h34) (aU [0] 1 r r r r ⟨lr,lr,lr,trivial⟩ (bW r aA))
          ·
           intro j33 hj39
           subst hj39
           refine aQ<|mV (v:=aO) r<|aM r (bD eJ r)<|aM r (aK (v:=aL) iF r r r)<|mI r ?_
           obtain ⟨x40,hx40,h41⟩:=aE h32
           refine aM r (gR (cs:=[PV.int _ _,PV.int _ _,PV.str _,PV.ls _ _ _,PV.ls _ _ _]) mP (cC r) r hx40 (cE _))<|aM r (gM (us:=[PV.int _ _,PV.int _ _,PV.str _,PV.ls _ _ _,PV.ls _ _ _]) fM r r r) ?_
           obtain ⟨x42,hx42,h43⟩:=aE h41
           exact gV (aX (v:=aO) r (ih_ref02xput hx42) ⟨lr,(bK r ⟨r,r,r,r,r,trivial⟩),trivial⟩ r r r)<|sV (v:=aO) r<|cB (fr':=[(0,aO),(3,.box 0 0),(5,aI)]) r<|bX<|bV<|aQ<|mI r<|aM r (dB r r)<|sI r<|cB (fr':=[(0,aO),(3,.box 0 0),(5,aI)]) r<|rX _ (sy h43) (aU [912] 1 r r r r ⟨lr,lr,lr,trivial⟩ (bW r aA))
         ·
          refine eK<|bR<|bR<|dC ?_
          have h44:=cS h30 ho29
          exact gD _ (sy h44) (aU [0] 1 r r r r ⟨lr,trivial⟩ (bW r aA))
        ·
         intro j28 hj45
         subst hj45
         exact bX<|gD _ (sy h27) (aU [0] 1 r r r r ⟨lr,trivial⟩ (bW r aA))
       ·
        exact aW<|bX<|gD _ (sy h23) (aU [0] 1 r r r r ⟨lr,trivial⟩ (bW r aA))
  ·
   intro j5 hj46
   subst hj46
   refine aH<|mV (v:=aO) r<|sV (v:=aO) r<|aF (fr':=[(4,aO)]) r r<|bC ?_
   obtain rfl:=sy h4
   exact bB (rs':=[.tmp 4]) r<|bH (v:=aO) r<|aZ<|aN [0] r r r lr aA
noncomputable def aDv (p0b:(List UInt8)) (p1v:aC):Option (List UInt8):=lim fun n=>sA n p0b p1v
theorem aJH {p0b:(List UInt8)}{p1v:aC}{res:(List UInt8)} (h:aDv p0b p1v=some res):bS Tryz.prog 134 [.c (PV.ls 1 dF p0b),.agg (AV.cs (cQ p1v))] [] (AV.os 0 1 dF res) []:=by
 obtain ⟨n,hn⟩:=jZ h
 exact (aH9 n) hn
noncomputable def tG (p0b:(List UInt8)) (p1v:aC):Option (List UInt8) :=
 (app 1 ([]:List UInt8) p0b).bind fun x1=>(qO p1v).bind fun x3=>cond (!x3) (some x1) ((aDv x1 p1v).bind fun x7=>some x7)
theorem aF2 {p0b:(List UInt8)}{p1v:aC}{res:(List UInt8)} (h:tG p0b p1v=some res):bS Tryz.prog 59 [.c (PV.ls 1 dF p0b),.agg (AV.cs (cQ p1v))] [] (AV.os 0 1 dF res) []:=by
 unfold tG at h
 refine cJ (fn:=Tryz.f59) [0,1,3,4,5,11] (by kernel_rfl) Tryz.func59 r (by kernel_rfl) (by kernel_rfl)<|aH<|fS (v:=.agg bL) (n:=0) (cs:=bL) (σ':=[bL]) r r r r r<|sV (v:=AV.nil) r<|aF (fr':=[(0,aL),(3,.box 0 0)]) r r<|aH<|sV (v:=AV.nil) r<|aF (fr':=[(0,aL),(3,.box 0 0),(5,AV.nil)]) r r<|aH<|mV (v:=AV.nil) r ?_
 refine mL r ?_
 obtain ⟨x1,hx1,h2⟩:=aE h
 refine aNe (row:=dF) pK r sD r (cC r) (fun _=>r) hx1<|sV (v:=aO) r<|aF (fr':=[(3,.box 0 0),(5,aO)]) r r<|aP<|aH<|aM r (cN (us:=bL) fM r r r r) ?_
 obtain ⟨x3,hx3,h4⟩:=aE h2
 refine gV (aX (v:=aB) r (xL hx3) ⟨(bK r ⟨r,r,r,r,r,trivial⟩),trivial⟩ r r r)<|aM r (eI r)<|aF (fr':=[(3,.box 0 0),(5,aO),(11,aB)]) r r<|bP h4 r (fun hb5 h5=>?_) (fun hb5 h5=>?_)
 ·
  refine aH<|mV (v:=aO) r<|sV (v:=aO) r<|aF (fr':=[(4,aO)]) r r<|bC<|aJ ?_
  obtain rfl:=sy h5
  exact bB (rs':=[.tmp 4]) r<|bH (v:=aO) r<|aZ<|aN [128] r r r lr aA
 ·
  refine aW<|bV<|aH<|mV (v:=aO) r<|aM r (cN (us:=bL) fM r r r r) ?_
  obtain ⟨x7,hx7,h8⟩:=aE h5
  refine gV (aX (v:=aO) r (aJH hx7) ⟨lr,(bK r ⟨r,r,r,r,r,trivial⟩),trivial⟩ r r r)<|sV (v:=aO) r<|aF (fr':=[(4,aO)]) r r<|bC ?_
  obtain rfl:=sy h8
  exact bB (rs':=[.tmp 4]) r<|bH (v:=aO) r<|aZ<|aN [240] r r r lr aA
noncomputable def nF (p0n:Int) (nC:Int) (jK:Int):Option Bool :=
 some (cond (decide (nC≤p0n)) (decide (p0n≤jK)) false)
theorem nX {p0n:Int}{nC:Int}{jK:Int}{res:Bool} (h:nF p0n nC jK=some res):bS Tryz.prog 152 [ci p0n,ci nC,ci jK] [] (.c (.bool res)) []:=by
 unfold nF at h
 refine cJ (fn:=Tryz.f152) [0,1,2,6] (by kernel_rfl) Tryz.func152 r (by kernel_rfl) (by kernel_rfl)<|aH<|sB r<|aF (fr':=[(0,aI),(1,aI),(2,aI)]) r r<|aH<|mI r<|mI r<|aM r (nM r r)<|mB r<|og r r r (fun hc=>(bE (v:=aI) r))<|og r r r (fun hc=>(bE (v:=aI) r)) ?_
 refine og r r r (fun hc=>(nD (gx r hc) (gx r hc)))<|aM r (bO r r r (fun e=>eO e))<|sB r<|aF (fr':=[(6,aB)]) r r<|bC ?_
 obtain rfl:=sy h
 exact bB (rs':=[.tmp 6]) r<|bH (v:=aB) r<|aZ<|aN [] r r r lr aA
noncomputable def tN (p0c:Int):Option Bool :=
 some (cond (cond (cond (cond (decide ((97:Int)≤p0c)) (decide (p0c≤(122:Int))) false) true (cond (decide ((65:Int)≤p0c)) (decide (p0c≤(90:Int))) false)) true (cond (decide ((48:Int)≤p0c)) (decide (p0c≤(57:Int))) false)) true (decide (p0c=(95:Int))))
theorem aF7 {p0c:Int}{res:Bool} (h:tN p0c=some res):bS Tryz.prog 158 [.c (.int .u8 p0c)] [] (.c (.bool res)) []:=by
 unfold tN at h
 refine cJ (fn:=Tryz.f158) [0,2] (by kernel_rfl) Tryz.func158 r (by kernel_rfl) (by kernel_rfl)<|aH<|sB r<|aF (fr':=[(0,aI)]) r r<|aH<|mI r<|aM r (nM r r)<|mB r<|og r r r (fun hc=>(bE (v:=aI) r))<|og r r r (fun hc=>(nD (gx r hc) r))<|aM r (bO r r r (fun e=>eO e)) ?_
 refine mB r<|og r r r (fun hc=>(bE (v:=aI) r))<|og r r r (fun hc=>(nM (gx r hc) r))<|og r r r (fun hc=>(bE (v:=aB) (gx r hc)))<|eL r r (fun hc=>eS r (bE (v:=aI) r))<|eL r r (fun hc=>eS r (nD (gx r hc) r))<|og r r r (fun hc=>(bO (gx r hc) r r (fun e=>oC hc (eO e))))<|aM r (bY r r r (fun e=>eO e))<|mB r<|og r r r (fun hc=>(bE (v:=aI) r))<|og r r r (fun hc=>(nM (gx r hc) r))<|og r r r (fun hc=>(bE (v:=aB) (gx r hc)))<|eL r r (fun hc=>eS r (bE (v:=aI) r)) ?_
 refine eL r r (fun hc=>eS r (nD (gx r hc) r))<|og r r r (fun hc=>(bO (gx r hc) r r (fun e=>oC hc (eO e))))<|aM r (bY r r r (fun e=>eO e))<|mB r<|og r r r (fun hc=>(bE (v:=aI) r))<|og r r r (fun hc=>(bM (gx r hc) r))<|aM r (bY r r r (fun e=>eO e))<|sB r<|aF (fr':=[(2,aB)]) r r<|bC ?_
 obtain rfl:=sy h
 exact bB (rs':=[.tmp 2]) r<|bH (v:=aB) r<|aZ<|aN [] r r r lr aA
noncomputable def tM (p0s:(List UInt8)) (s10:Int):Option (cI Int (Fl Bool Unit)) :=
 cond (decide (s10<((p0s).length:Int))) ((hG p0s s10).bind fun x12=>(tN ((x12).toNat:Int)).bind fun x14=>cond (!x14) (some (cI.out (Fl.done false))) (some (cI.next (IntKind.wrap .i64 (s10+(1:Int)))))) (some (cI.out (Fl.go ())))
noncomputable def kV (p0s:(List UInt8)):Option Bool :=
 (gd ((cond (decide (((p0s).length:Int)<(1:Int))) true (decide ((64:Int)<((p0s).length:Int))))==false) (hG p0s (0:Int))).bind fun x1=>(gd (((cond (decide (((p0s).length:Int)<(1:Int))) true (decide ((64:Int)<((p0s).length:Int))))==false)&&((decide ((48:Int)≤((x1).toNat:Int)))==true)) (hG p0s (0:Int))).bind fun x3=>cond (cond (cond (decide (((p0s).length:Int)<(1:Int))) true (decide ((64:Int)<((p0s).length:Int)))) true (cond (decide ((48:Int)≤((x1).toNat:Int))) (decide (((x3).toNat:Int)≤(57:Int))) false)) (some false) (((dR (tM p0s) ((0:Int))):Option (Fl Bool Unit)).bind fun x7=>Fl.next x7 (fun j9=>(some true)))
theorem oP {p0s:(List UInt8)}{res:Bool} (h:kV p0s=some res):bS Tryz.prog 86 [.c (.str p0s)] [] (.c (.bool res)) []:=by
 unfold kV at h
 refine cJ (fn:=Tryz.f86) [0,2,3,21,25,32] (by kernel_rfl) Tryz.func86 r (by kernel_rfl) (by kernel_rfl)<|aH<|sB r<|aF (fr':=[(0,aS)]) r r<|aP<|aH<|mS r<|aM r (gL pJ r)<|aM r (dJ r r)<|mB r<|og r r r (fun hc=>(bE (v:=aS) r)) ?_
 refine og r r r (fun hc=>(gL pJ (gx r hc)))<|og r r r (fun hc=>(kA (gx r hc) r))<|aM r (bY r r r (fun e=>eO e))<|mB r<|og r r r (fun hc=>(bE (v:=aS) r)) ?_
 obtain ⟨x1,hx1,h2⟩:=aE h
 refine og r r r (fun hc=>(wE pJ (gx r hc) r (cA hx1 hc)))<|og r r r (fun hc=>(nM (gx r hc) r))<|og r r r (fun hc=>(bE (v:=aB) (gx r hc)))<|eL r r (fun hc=>eS r (bE (v:=aS) r)) ?_
 obtain ⟨x3,hx3,h4⟩:=aE h2
 refine eL r r (fun hc=>eS r (wE pJ (gx r hc) r (cA hx3 hc)))<|eL r r (fun hc=>eS r (nD (gx r hc) r))<|og r r r (fun hc=>(bO (gx r hc) r r (fun e=>oC hc (eO e))))<|aM r (bY r r r (fun e=>eO e))<|aF (fr':=[(0,aS),(21,aB)]) r r<|bP h4 r (fun hb5 h5=>?_) (fun hb5 h5=>?_)
 ·
  refine aH<|sB r<|aF (fr':=[(2,aB)]) r r<|bC<|aJ ?_
  obtain rfl:=sy h5
  exact bB (rs':=[.tmp 2]) r<|bH (v:=aB) r<|aZ<|aN [] r r r lr aA
 ·
  refine aW<|bV<|aP<|aH<|sI r<|aF (fr':=[(0,aS),(3,aI)]) r r ?_
  obtain ⟨x7,hx7,h8⟩:=aE h5
  refine eB gF (fun j9=>x7=Fl.go j9) (fun (j9:Unit)=>([]:Fr)) (fun (j9:Unit)=>([]:St)) ?_ ?_
  ·
   refine bJ<|dV _ (fun (s10:Int)=>([(0,.c (.str p0s)),(3,ci s10)]:Fr)) (fun (s10:Int)=>([]:St)) hx7 (aU [] 0 r r r r ⟨lr,lr,trivial⟩ aA) ?_
   intro s10 st10 hs10 ho10
   unfold tM at hs10
   refine aP<|aH<|mI r<|mS r<|aM r (gL pJ r)<|aM r (dJ r r)<|aF (fr':=[(0,aS),(3,aI),(25,aB)]) r r<|bP hs10 r (fun hb11 h11=>?_) (fun hb11 h11=>?_)
   ·
    refine aW<|bV<|aP<|bJ<|aH<|mS r<|mI r ?_
    obtain ⟨x12,hx12,h13⟩:=aE h11
    refine aM r (wE pJ r r hx12) ?_
    obtain ⟨x14,hx14,h15⟩:=aE h13
    refine gV (aX (v:=aB) r (aF7 hx14) ⟨lr,trivial⟩ r r r)<|aM r (eI r)<|aF (fr':=[(0,aS),(3,aI),(32,aB)]) r r<|bP h15 r (fun hb16 h16=>?_) (fun hb16 h16=>?_)
    ·
     refine aH<|sB r<|aF (fr':=[(2,aB)]) r r<|bC<|bA<|aJ<|aJ<|bA<|aJ<|aJ ?_
     have h17:=cS h16 ho10
     have h18:=dQ h17 h8
     obtain rfl:=sy h18
     exact bB (rs':=[.tmp 2]) r<|bH (v:=aB) r<|aZ<|aN [] r r r lr aA
    ·
     exact aW<|bX<|bV<|aQ<|mI r<|aM r (dB r r)<|sI r<|cB (fr':=[(0,aS),(3,aI),(32,aB)]) r<|rX _ (sy h16) (aU [] 0 r r r r ⟨lr,lr,trivial⟩ aA)
   ·
    refine eK<|bR<|bR<|dC ?_
    have h20:=cS h11 ho10
    exact gD _ (sy h20) (aU [] 0 r r r r trivial aA)
  ·
   intro j9 hj21
   have h21:=iC hj21 h8
   refine bV<|aH<|sB r<|aF (fr':=[(2,aB)]) r r<|bC ?_
   obtain rfl:=sy h21
   exact bB (rs':=[.tmp 2]) r<|bH (v:=aB) r<|aZ<|aN [] r r r lr aA
noncomputable def mD (p0o:bG) (s4:Int):Option (cI Int (Fl Bool Unit)) :=
 cond (decide (s4<((([p0o.ToStart,p0o.ToClose,p0o.Total,p0o.Beat,p0o.First,p0o.Most]:List Int)).length:Int))) ((hG ([p0o.ToStart,p0o.ToClose,p0o.Total,p0o.Beat,p0o.First,p0o.Most]:List Int) s4).bind fun x6=>(nF x6 (0:Int) (1099511627776:Int)).bind fun x8=>cond (!x8) (some (cI.out (Fl.done false))) (some (cI.next (IntKind.wrap .i64 (s4+(1:Int)))))) (some (cI.out (Fl.go ())))
noncomputable def mE (p0o:bG) (s19:Int):Option (cI Int (Fl Bool Unit)) :=
 cond (decide (s19<((p0o.Fatal).length:Int))) ((hG p0o.Fatal s19).bind fun x21=>cond (decide ((4096:Int)<((x21).length:Int))) (some (cI.out (Fl.done false))) (some (cI.next (IntKind.wrap .i64 (s19+(1:Int)))))) (some (cI.out (Fl.go ())))
noncomputable def kI (p0o:bG):Option Bool :=
 ((dR (mD p0o) ((0:Int))):Option (Fl Bool Unit)).bind fun x1=>Fl.next x1 (fun j3=>(((dR (mE p0o) ((0:Int))):Option (Fl Bool Unit)).bind fun x16=>Fl.next x16 (fun j18=>((gd ((decide (p0o.Queue=([]:List UInt8)))==false) (kV p0o.Queue)).bind fun x29=>(gd ((cond (decide (p0o.Queue=([]:List UInt8))) true x29)==true) (nF p0o.Coef (0:Int) (10000:Int))).bind fun x31=>(gd ((cond (cond (decide (p0o.Queue=([]:List UInt8))) true x29) x31 false)==true) (nF p0o.Attempts (0:Int) (1000:Int))).bind fun x33=>some (cond (cond (cond (cond (decide (p0o.Queue=([]:List UInt8))) true x29) x31 false) x33 false) (decide (((p0o.Fatal).length:Int)≤(64:Int))) false)))))
theorem vZ {p0o:bG}{res:Bool} (h:kI p0o=some res):bS Tryz.prog 135 [.agg (AV.cs (gS p0o))] [] (.c (.bool res)) []:=by
 unfold kI at h
 refine cJ (fn:=Tryz.f135) [0,1,2,3,4,5,22,30,35,44] (by kernel_rfl) Tryz.func135 r (by kernel_rfl) (by kernel_rfl)<|aH<|fS (v:=.agg bZ) (n:=0) (cs:=bZ) (σ':=[bZ]) r r r r r<|sB r<|aF (fr':=[(1,.box 0 0)]) r r<|aH<|aM r (bD aB8 r)<|aM r (aK (v:=aI) eP r r r)<|aM r (bD aB9 r)<|aM r (aK (v:=aI) eP r r r)<|aM r (bD aCa r) ?_
 refine aM r (aK (v:=aI) eP r r r)<|aM r (bD aCb r)<|aM r (aK (v:=aI) eP r r r)<|aM r (bD aCc r)<|aM r (aK (v:=aI) eP r r r)<|aM r (bD aCe r)<|aM r (aK (v:=aI) eP r r r)<|kT (row:=(aDx .i64)) (xs:=([p0o.ToStart,p0o.ToClose,p0o.Total,p0o.Beat,p0o.First,p0o.Most]:List Int)) (rows:=[[_],[_],[_],[_],[_],[_]]) (σ':=[bZ]) [0] aEf r r r (cM r (cM r (cM r (cM r (cM r (cM r gY)))))) r r<|sV (v:=aO) r<|aF (fr':=[(1,.box 0 0),(3,aO)]) r r<|aP<|aP<|aQ ?_
 refine sI r<|aF (fr':=[(1,.box 0 0),(3,aO),(4,aI)]) r r ?_
 obtain ⟨x1,hx1,h2⟩:=aE h
 refine eB gF (fun j3=>x1=Fl.go j3) (fun (j3:Unit)=>([(1,.box 0 0)]:Fr)) (fun (j3:Unit)=>([[.c (.str p0o.Queue),ci p0o.ToStart,ci p0o.ToClose,ci p0o.Total,ci p0o.Beat,ci p0o.First,ci p0o.Coef,ci p0o.Most,ci p0o.Attempts,.c (PV.ls 1 eA p0o.Fatal)]]:St)) ?_ ?_
 ·
  refine bJ<|dV _ (fun (s4:Int)=>([(1,.box 0 0),(3,AV.os 0 1 (aDx .i64) ([p0o.ToStart,p0o.ToClose,p0o.Total,p0o.Beat,p0o.First,p0o.Most]:List Int)),(4,ci s4)]:Fr)) (fun (s4:Int)=>([[.c (.str p0o.Queue),ci p0o.ToStart,ci p0o.ToClose,ci p0o.Total,ci p0o.Beat,ci p0o.First,ci p0o.Coef,ci p0o.Most,ci p0o.Attempts,.c (PV.ls 1 eA p0o.Fatal)]]:St)) hx1 (aU [288] 1 r r r r ⟨lr,lr,lr,trivial⟩ (bW r aA)) ?_
  intro s4 st4 hs4 ho4
  unfold mD at hs4
  refine aP<|aH<|mI r<|mV (v:=aO) r<|aM r (dI aMm (lG r))<|aM r (dJ r r)<|aF (fr':=[(1,.box 0 0),(3,aO),(4,aI),(22,aB)]) r r<|bP hs4 r (fun hb5 h5=>?_) (fun hb5 h5=>?_)
  ·
   refine aW<|bV<|aP<|bJ<|aH<|mV (v:=aO) r<|mI r ?_
   obtain ⟨x6,hx6,h7⟩:=aE h5
   refine aM r (gR (cs:=[PV.int _ _]) aEf (lG r) r hx6 r)<|aM r (eG (p:=PV.int _ _) eP r r) ?_
   obtain ⟨x8,hx8,h9⟩:=aE h7
   refine gV (aX (v:=aB) r (nX hx8) ⟨lr,lr,lr,trivial⟩ r r r)<|aM r (eI r)<|aF (fr':=[(1,.box 0 0),(3,aO),(4,aI),(30,aB)]) r r<|bP h9 r (fun hb10 h10=>?_) (fun hb10 h10=>?_)
   ·
    refine aH<|sB r<|aF (fr':=[(2,aB)]) r r<|bC<|bA<|aJ<|aJ<|bA<|aJ<|aJ ?_
    have h11:=cS h10 ho4
    have h12:=dQ h11 h2
    obtain rfl:=sy h12
    exact bB (rs':=[.tmp 2]) r<|bH (v:=aB) r<|aZ<|aN [] r r r lr aA
   ·
    exact aW<|bX<|bV<|aQ<|mI r<|aM r (dB r r)<|sI r<|cB (fr':=[(1,.box 0 0),(3,aO),(4,aI),(30,aB)]) r<|rX _ (sy h10) (aU [0] 1 r r r r ⟨lr,lr,lr,trivial⟩ (bW r aA))
  ·
   refine eK<|bR<|bR<|dC ?_
   have h14:=cS h5 ho4
   exact gD _ (sy h14) (aU [] 1 r r r r ⟨lr,trivial⟩ (bW r aA))
 ·
  intro j3 hj15
  have h15:=iC hj15 h2
  refine bV<|aP<|aH<|sI r<|aF (fr':=[(1,.box 0 0),(5,aI)]) r r ?_
  obtain ⟨x16,hx16,h17⟩:=aE h15
  refine eB gF (fun j18=>x16=Fl.go j18) (fun (j18:Unit)=>([(1,.box 0 0)]:Fr)) (fun (j18:Unit)=>([[.c (.str p0o.Queue),ci p0o.ToStart,ci p0o.ToClose,ci p0o.Total,ci p0o.Beat,ci p0o.First,ci p0o.Coef,ci p0o.Most,ci p0o.Attempts,.c (PV.ls 1 eA p0o.Fatal)]]:St)) ?_ ?_
  ·
   refine bJ<|dV _ (fun (s19:Int)=>([(1,.box 0 0),(5,ci s19)]:Fr)) (fun (s19:Int)=>([[.c (.str p0o.Queue),ci p0o.ToStart,ci p0o.ToClose,ci p0o.Total,ci p0o.Beat,ci p0o.First,ci p0o.Coef,ci p0o.Most,ci p0o.Attempts,.c (PV.ls 1 eA p0o.Fatal)]]:St)) hx16 (aU [] 1 r r r r ⟨lr,lr,trivial⟩ (bW r aA)) ?_
   intro s19 st19 hs19 ho19
   unfold mE at hs19
   refine aP<|aH<|mI r<|aM r (bD lI r)<|aM r (aK (v:=aL) kM r r r)<|aM r (dI pI (cC r))<|aM r (dJ r r)<|aF (fr':=[(1,.box 0 0),(5,aI),(35,aB)]) r r<|bP hs19 r (fun hb20 h20=>?_) (fun hb20 h20=>?_)
   ·
    refine aW<|bV<|aP<|bJ<|aH<|aM r (bD lI r)<|aM r (aK (v:=aL) kM r r r)<|mI r ?_
    obtain ⟨x21,hx21,h22⟩:=aE h20
    refine aM r (gR (cs:=[PV.str _]) vV (cC r) r hx21 r)<|aM r (eG (p:=PV.str _) kD r r)<|aM r (gL pJ r)<|aM r (kA r r)<|aF (fr':=[(1,.box 0 0),(5,aI),(44,aB)]) r r<|bP h22 r (fun hb23 h23=>?_) (fun hb23 h23=>?_)
    ·
     refine aH<|sB r<|aF (fr':=[(2,aB)]) r r<|bC<|bA<|aJ<|aJ<|bA<|aJ<|aJ ?_
     have h24:=cS h23 ho19
     have h25:=dQ h24 h17
     obtain rfl:=sy h25
     exact bB (rs':=[.tmp 2]) r<|bH (v:=aB) r<|aZ<|aN [] r r r lr aA
    ·
     exact aW<|bX<|bV<|aQ<|mI r<|aM r (dB r r)<|sI r<|cB (fr':=[(1,.box 0 0),(5,aI),(44,aB)]) r<|rX _ (sy h23) (aU [] 1 r r r r ⟨lr,lr,trivial⟩ (bW r aA))
   ·
    refine eK<|bR<|bR<|dC ?_
    have h27:=cS h20 ho19
    exact gD _ (sy h27) (aU [] 1 r r r r ⟨lr,trivial⟩ (bW r aA))
  ·
   intro j18 hj28
   have h28:=iC hj28 h17
   refine bV<|aH<|aM r (bD vT r)<|aM r (aK (v:=aS) kD r r r)<|aM r (oU r r)<|mB r<|og r r r (fun hc=>(bD vT r))<|og r r r (fun hc=>(aK (v:=aS) kD (gx r hc) r r)) ?_
   obtain ⟨x29,hx29,h30⟩:=aE h28
   refine sM r r (fun hc=>aX (v:=aB) r (oP (cA hx29 hc)) ⟨(eH (gx r hc) lr),trivial⟩ (fA (by repeat (first | exact dX | refine aY r ?_ | refine aY (oS r) ?_ | refine aY oR ?_))) r r) ?_
   refine aM r (bY r r r (fun e=>eO e))<|mB r<|og r r r (fun hc=>(bD aCd r))<|og r r r (fun hc=>(aK (v:=aI) eP (gx r hc) r r)) ?_
   obtain ⟨x31,hx31,h32⟩:=aE h30
   refine sM r r (fun hc=>aX (v:=aB) r (nX (cA hx31 hc)) ⟨(eH (gx r hc) lr),lr,lr,trivial⟩ (fA (by repeat (first | exact dX | refine aY r ?_ | refine aY (oS r) ?_ | refine aY oR ?_))) r r) ?_
   refine aM r (bO r r r (fun e=>eO e))<|mB r<|og r r r (fun hc=>(bD aCf r))<|og r r r (fun hc=>(aK (v:=aI) eP (gx r hc) r r)) ?_
   obtain ⟨x33,hx33,h34⟩:=aE h32
   refine sM r r (fun hc=>aX (v:=aB) r (nX (cA hx33 hc)) ⟨(eH (gx r hc) lr),lr,lr,trivial⟩ (fA (by repeat (first | exact dX | refine aY r ?_ | refine aY (oS r) ?_ | refine aY oR ?_))) r r) ?_
   refine aM r (bO r r r (fun e=>eO e))<|mB r<|og r r r (fun hc=>(bD lI r))<|og r r r (fun hc=>(aK (v:=aL) kM (gx r hc) r r))<|og r r r (fun hc=>(dI pI (cC (gx r hc))))<|og r r r (fun hc=>(nD (gx r hc) r))<|aM r (bO r r r (fun e=>eO e))<|sB r<|aF (fr':=[(2,aB)]) r r<|bC ?_
   obtain rfl:=sy h34
   exact bB (rs':=[.tmp 2]) r<|bH (v:=aB) r<|aZ<|aN [] r r r lr aA
noncomputable def lM (p1o:bG) (s12:((List UInt8) × Int)):Option (cI ((List UInt8) × Int) (List UInt8)) :=
 cond (decide (s12.2<((([p1o.ToStart,p1o.ToClose,p1o.Total,p1o.Beat,p1o.First,p1o.Coef,p1o.Most,p1o.Attempts,((p1o.Fatal).length:Int)]:List Int)).length:Int))) ((hG ([p1o.ToStart,p1o.ToClose,p1o.Total,p1o.Beat,p1o.First,p1o.Coef,p1o.Most,p1o.Attempts,((p1o.Fatal).length:Int)]:List Int) s12.2).bind fun x14=>(iL s12.1 x14).bind fun x16=>some (cI.next (x16,(IntKind.wrap .i64 (s12.2+(1:Int)))))) (some (cI.out s12.1))
noncomputable def lN (p1o:bG) (s23:((List UInt8) × Int)):Option (cI ((List UInt8) × Int) (List UInt8)) :=
 cond (decide (s23.2<((p1o.Fatal).length:Int))) ((hG p1o.Fatal s23.2).bind fun x25=>(iK s23.1 x25).bind fun x27=>some (cI.next (x27,(IntKind.wrap .i64 (s23.2+(1:Int)))))) (some (cI.out s23.1))
noncomputable def lH (p0b:(List UInt8)) (p1o:bG):Option (List UInt8) :=
 (app 1 ([]:List UInt8) p0b).bind fun x1=>(kI p1o).bind fun x3=>cond (!x3) (some x1) ((iK x1 p1o.Queue).bind fun x7=>((dR (lM p1o) ((x7,(0:Int)))):Option (List UInt8)).bind fun x9=>(((dR (lN p1o) ((x9,(0:Int)))):Option (List UInt8)).bind fun x20=>(some x20)))
theorem aA7 {p0b:(List UInt8)}{p1o:bG}{res:(List UInt8)} (h:lH p0b p1o=some res):bS Tryz.prog 60 [.c (PV.ls 1 dF p0b),.agg (AV.cs (gS p1o))] [] (AV.os 0 1 dF res) []:=by
 unfold lH at h
 refine cJ (fn:=Tryz.f60) [0,1,3,4,5,6,7,8,14,43,56] (by kernel_rfl) Tryz.func60 r (by kernel_rfl) (by kernel_rfl)<|aH<|fS (v:=.agg bZ) (n:=0) (cs:=bZ) (σ':=[bZ]) r r r r r<|sV (v:=AV.nil) r<|aF (fr':=[(0,aL),(3,.box 0 0)]) r r<|aH<|sV (v:=AV.nil) r<|aF (fr':=[(0,aL),(3,.box 0 0),(5,AV.nil)]) r r<|aH<|mV (v:=AV.nil) r ?_
 refine mL r ?_
 obtain ⟨x1,hx1,h2⟩:=aE h
 refine aNe (row:=dF) pK r sD r (cC r) (fun _=>r) hx1<|sV (v:=aO) r<|aF (fr':=[(3,.box 0 0),(5,aO)]) r r<|aP<|aH<|aM r (cN (us:=bZ) wH r r r r) ?_
 obtain ⟨x3,hx3,h4⟩:=aE h2
 refine gV (aX (v:=aB) r (vZ hx3) ⟨(bK r ⟨r,r,r,r,r,r,r,r,r,r,trivial⟩),trivial⟩ r r r)<|aM r (eI r)<|aF (fr':=[(3,.box 0 0),(5,aO),(14,aB)]) r r<|bP h4 r (fun hb5 h5=>?_) (fun hb5 h5=>?_)
 ·
  refine aH<|mV (v:=aO) r<|sV (v:=aO) r<|aF (fr':=[(4,aO)]) r r<|bC<|aJ ?_
  obtain rfl:=sy h5
  exact bB (rs':=[.tmp 4]) r<|bH (v:=aO) r<|aZ<|aN [176] r r r lr aA
 ·
  refine aW<|bV<|aH<|mV (v:=aO) r<|aM r (bD vT r)<|aM r (aK (v:=aS) kD r r r) ?_
  obtain ⟨x7,hx7,h8⟩:=aE h5
  refine gV (aX (v:=aO) r (lV hx7) ⟨lr,lr,trivial⟩ r r r)<|sV (v:=aO) r<|aF (fr':=[(3,.box 0 0),(5,aO)]) r r<|aH<|aM r (bD aB8 r)<|aM r (aK (v:=aI) eP r r r)<|aM r (bD aB9 r)<|aM r (aK (v:=aI) eP r r r)<|aM r (bD aCa r)<|aM r (aK (v:=aI) eP r r r)<|aM r (bD aCb r)<|aM r (aK (v:=aI) eP r r r) ?_
  refine aM r (bD aCc r)<|aM r (aK (v:=aI) eP r r r)<|aM r (bD aCd r)<|aM r (aK (v:=aI) eP r r r)<|aM r (bD aCe r)<|aM r (aK (v:=aI) eP r r r)<|aM r (bD aCf r)<|aM r (aK (v:=aI) eP r r r)<|aM r (bD lI r)<|aM r (aK (v:=aL) kM r r r)<|aM r (dI pI (cC r))<|kT (row:=(aDx .i64)) (xs:=([p1o.ToStart,p1o.ToClose,p1o.Total,p1o.Beat,p1o.First,p1o.Coef,p1o.Most,p1o.Attempts,((p1o.Fatal).length:Int)]:List Int)) (rows:=[[_],[_],[_],[_],[_],[_],[_],[_],[_]]) (σ':=[bZ]) [0] aEf r r r (cM r (cM r (cM r (cM r (cM r (cM r (cM r (cM r (cM r gY))))))))) r r<|sV (v:=aO) r ?_
  refine aF (fr':=[(3,.box 0 0),(5,aO),(6,aO)]) r r<|aP<|aH<|sI r<|aF (fr':=[(3,.box 0 0),(5,aO),(6,aO),(7,aI)]) r r ?_
  obtain ⟨x9,hx9,h10⟩:=aE h8
  refine eB gF (fun j11=>x9=j11) (fun (j11:(List UInt8))=>([(3,.box 0 0),(5,AV.os 0 1 dF j11)]:Fr)) (fun (j11:(List UInt8))=>([[.c (.str p1o.Queue),ci p1o.ToStart,ci p1o.ToClose,ci p1o.Total,ci p1o.Beat,ci p1o.First,ci p1o.Coef,ci p1o.Most,ci p1o.Attempts,.c (PV.ls 1 eA p1o.Fatal)]]:St)) ?_ ?_
  ·
   refine bJ<|dV _ (fun (s12:((List UInt8) × Int))=>([(3,.box 0 0),(5,AV.os 0 1 dF s12.1),(6,AV.os 1 1 (aDx .i64) ([p1o.ToStart,p1o.ToClose,p1o.Total,p1o.Beat,p1o.First,p1o.Coef,p1o.Most,p1o.Attempts,((p1o.Fatal).length:Int)]:List Int)),(7,ci s12.2)]:Fr)) (fun (s12:((List UInt8) × Int))=>([[.c (.str p1o.Queue),ci p1o.ToStart,ci p1o.ToClose,ci p1o.Total,ci p1o.Beat,ci p1o.First,ci p1o.Coef,ci p1o.Most,ci p1o.Attempts,.c (PV.ls 1 eA p1o.Fatal)]]:St)) hx9 (aU [304,624] 1 r r r r ⟨lr,lr,lr,lr,trivial⟩ (bW r aA)) ?_
   intro s12 st12 hs12 ho12
   unfold lM at hs12
   refine aP<|aH<|mI r<|mV (v:=aO) r<|aM r (dI aMm (lG r))<|aM r (dJ r r)<|aF (fr':=[(3,.box 0 0),(5,aO),(6,aO),(7,aI),(43,aB)]) r r<|bP hs12 r (fun hb13 h13=>?_) (fun hb13 h13=>?_)
   ·
    refine aW<|bV<|aP<|bJ<|aQ<|mV (v:=aO) r<|mV (v:=aO) r<|mI r ?_
    obtain ⟨x14,hx14,h15⟩:=aE h13
    refine aM r (gR (cs:=[PV.int _ _]) aEf (lG r) r hx14 r)<|aM r (eG (p:=PV.int _ _) eP r r) ?_
    obtain ⟨x16,hx16,h17⟩:=aE h15
    exact gV (aX (v:=aO) r (lJ hx16) ⟨lr,lr,trivial⟩ r r r)<|sV (v:=aO) r<|cB (fr':=[(3,.box 0 0),(5,aO),(6,aO),(7,aI),(43,aB)]) r<|bX<|bV<|aQ<|mI r<|aM r (dB r r)<|sI r<|cB (fr':=[(3,.box 0 0),(5,aO),(6,aO),(7,aI),(43,aB)]) r<|rX _ (sy h17) (aU [816,1] 1 r r r r ⟨lr,lr,lr,lr,trivial⟩ (bW r aA))
   ·
    refine eK<|bR<|bR<|dC ?_
    have h18:=cS h13 ho12
    exact gD _ (sy h18) (aU [0] 1 r r r r ⟨lr,lr,trivial⟩ (bW r aA))
  ·
   intro j11 hj19
   subst hj19
   refine bV<|aP<|aH<|sI r<|aF (fr':=[(3,.box 0 0),(5,aO),(8,aI)]) r r ?_
   obtain ⟨x20,hx20,h21⟩:=aE h10
   refine eB gF (fun j22=>x20=j22) (fun (j22:(List UInt8))=>([(5,AV.os 0 1 dF j22)]:Fr)) (fun (j22:(List UInt8))=>([[.c (.str p1o.Queue),ci p1o.ToStart,ci p1o.ToClose,ci p1o.Total,ci p1o.Beat,ci p1o.First,ci p1o.Coef,ci p1o.Most,ci p1o.Attempts,.c (PV.ls 1 eA p1o.Fatal)]]:St)) ?_ ?_
   ·
    refine bJ<|dV _ (fun (s23:((List UInt8) × Int))=>([(3,.box 0 0),(5,AV.os 0 1 dF s23.1),(8,ci s23.2)]:Fr)) (fun (s23:((List UInt8) × Int))=>([[.c (.str p1o.Queue),ci p1o.ToStart,ci p1o.ToClose,ci p1o.Total,ci p1o.Beat,ci p1o.First,ci p1o.Coef,ci p1o.Most,ci p1o.Attempts,.c (PV.ls 1 eA p1o.Fatal)]]:St)) hx20 (aU [0] 1 r r r r ⟨lr,lr,lr,trivial⟩ (bW r aA)) ?_
    intro s23 st23 hs23 ho23
    unfold lN at hs23
    refine aP<|aH<|mI r<|aM r (bD lI r)<|aM r (aK (v:=aL) kM r r r)<|aM r (dI pI (cC r))<|aM r (dJ r r)<|aF (fr':=[(3,.box 0 0),(5,aO),(8,aI),(56,aB)]) r r<|bP hs23 r (fun hb24 h24=>?_) (fun hb24 h24=>?_)
    ·
     refine aW<|bV<|aP<|bJ<|aQ<|mV (v:=aO) r<|aM r (bD lI r)<|aM r (aK (v:=aL) kM r r r)<|mI r ?_
     obtain ⟨x25,hx25,h26⟩:=aE h24
     refine aM r (gR (cs:=[PV.str _]) vV (cC r) r hx25 r)<|aM r (eG (p:=PV.str _) kD r r) ?_
     obtain ⟨x27,hx27,h28⟩:=aE h26
     exact gV (aX (v:=aO) r (lV hx27) ⟨lr,lr,trivial⟩ r r r)<|sV (v:=aO) r<|cB (fr':=[(3,.box 0 0),(5,aO),(8,aI),(56,aB)]) r<|bX<|bV<|aQ<|mI r<|aM r (dB r r)<|sI r<|cB (fr':=[(3,.box 0 0),(5,aO),(8,aI),(56,aB)]) r<|rX _ (sy h28) (aU [1040] 1 r r r r ⟨lr,lr,lr,trivial⟩ (bW r aA))
    ·
     refine eK<|bR<|bR<|dC ?_
     have h29:=cS h24 ho23
     exact gD _ (sy h29) (aU [0] 1 r r r r ⟨lr,trivial⟩ (bW r aA))
   ·
    intro j22 hj30
    subst hj30
    refine bV<|aH<|mV (v:=aO) r<|sV (v:=aO) r<|aF (fr':=[(4,aO)]) r r<|bC ?_
    obtain rfl:=sy h21
    exact bB (rs':=[.tmp 4]) r<|bH (v:=aO) r<|aZ<|aN [0] r r r lr aA
end Go.Proofs.YtnigjppddilpcaaGreatDoor
