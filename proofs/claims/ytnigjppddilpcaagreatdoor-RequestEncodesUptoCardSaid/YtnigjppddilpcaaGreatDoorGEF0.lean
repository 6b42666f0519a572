import Derived.Test.YtnigjppddilpcaaGreatDoorGETy
namespace Go.Proofs.YtnigjppddilpcaaGreatDoor
open Go Abs
set_option maxRecDepth 100000
set_option linter.unusedVariables false
set_option linter.unusedSimpArgs false
noncomputable def gC (p0s:(List UInt8)):Option (List UInt8) :=
 app 1 ([]:List UInt8) p0s
theorem jN {p0s:(List UInt8)}{res:(List UInt8)} (h:gC p0s=some res):bT Tryz.prog 70 [.c (PV.ls 1 eL p0s)] [] (AV.os 0 1 eL res) []:=by
 unfold gC at h
 refine cJ (fn:=Tryz.f70) [0,2,4] (by kernel_rfl) Tryz.func70 r (by kernel_rfl) (by kernel_rfl) ?_
 obtain ⟨hm,he⟩:=aCo h
 rw [List.nil_append] at he
 subst he
 refine aH<|aK r (aCH (v:=.nil) r)<|cD (fr':=[(0,.c (PV.ls _ _ _)),(2,.nil)]) r<|bZ<|aR<|aH<|aK r (bC (v:=.c (PV.ls _ _ _)) r)<|aO6 (row:=eL) aAR (cR r) (fun b hb=>?_)
 refine cD (fr':=[(0,.c (PV.ls _ _ _)),(2,.nil),(4,.c (.bool _))]) r<|bZ<|aHS b r (fun e=>?_) (fun e=>?_)
 ·
  rw [hb e]
  exact aH<|aK r (aCH (v:=.nil) r)<|cD (fr':=[(0,.c (PV.ls _ _ _)),(2,.nil),(4,.c (.bool _))]) r<|bZ<|bF<|aM<|bE (rs':=[.tmp 2]) r<|bG (v:=.nil) r<|bD<|aN [] r r r (yY r) aC
 ·
  refine aW<|bZ<|aH<|mT (row:=eL) (xs:=([]:List UInt8)) (rows:=[]) (σ':=[]) [] xJ r r r iC r r<|aK r (bC (v:=.c (PV.ls _ _ _)) r)<|aAB (row:=eL) xJ r aAR r (cR r) (fun _=>r) h<|aK r (aCH (v:=AV.os _ _ _ _) r)<|cD (fr':=[(0,.c (PV.ls _ _ _)),(2,AV.os _ _ _ _),(4,.c (.bool _))]) r<|bZ<|bF<|bE (rs':=[.tmp 2]) r<|bG (v:=AV.os _ _ _ _) r ?_
  exact bD<|aN [112] r r r lr aC
noncomputable def tM  (s6:((List UInt8) × Int)):Option (cM ((List UInt8) × Int) ((List UInt8) × Int)) :=
 cond (decide ((128:Int)≤s6.2)) ((vF (gO .or .u8 (IntKind.wrap .u8 s6.2) (128:Int))).bind fun x8=>(app 1 s6.1 ([x8]:List UInt8)).bind fun x10=>some (cM.next (x10,(Int.fdiv s6.2 (2 ^ (min (Int.toNat (7:Int)) (IntKind.bits .u64))))))) (some (cM.out (s6.1,s6.2)))
noncomputable def fB (p0b:(List UInt8)) (p1n:Int):Option (List UInt8) :=
 (gC p0b).bind fun x1=>((eQ (tM) ((x1,(gO .xor .u64 (IntKind.wrap .u64 ((IntKind.wrap .u64 p1n)*2 ^ (min (Int.toNat (1:Int)) (IntKind.bits .u64)))) (IntKind.wrap .u64 (Int.fdiv p1n (2 ^ (min (Int.toNat (63:Int)) (IntKind.bits .i64))))))))):Option ((List UInt8) × Int)).bind fun x3=>((vF (IntKind.wrap .u8 x3.2)).bind fun x14=>(app 1 x3.1 ([x14]:List UInt8)).bind fun x16=>some x16)
theorem fE {p0b:(List UInt8)}{p1n:Int}{res:(List UInt8)} (h:fB p0b p1n=some res):bT Tryz.prog 53 [.c (PV.ls 1 eL p0b),ci p1n] [] (AV.os 0 1 eL res) []:=by
 unfold fB at h
 refine cJ (fn:=Tryz.f53) [0,1,4,5,6,17] (by kernel_rfl) Tryz.func53 r (by kernel_rfl) (by kernel_rfl)<|aH<|sV (v:=AV.nil) r<|aF (fr':=[(0,aL),(1,aI)]) r r<|aH<|mL r ?_
 obtain ⟨x1,hx1,h2⟩:=aE h
 refine gW (aY (v:=aO) r (jN hx1) ⟨lr,trivial⟩ r r r)<|sV (v:=aO) r<|aF (fr':=[(1,aI),(5,aO)]) r r<|aH<|mI r<|aK r (tZ tk3 aAT r)<|aK r (aOF r r (by decide))<|mI r<|aK r (aMZ r r (by decide))<|aK r (tZ tk3 aAT r)<|aK r (aOH r r)<|sI r ?_
 refine aF (fr':=[(5,aO),(6,aI)]) r r ?_
 obtain ⟨x3,hx3,h4⟩:=aE h2
 refine fP (fun j5=>x3=j5) (fun (j5:((List UInt8) × Int))=>([(5,AV.os 0 1 eL j5.1),(6,.c (.int .u64 j5.2))]:Fr)) (fun (j5:((List UInt8) × Int))=>([]:St)) ?_ ?_
 ·
  refine bL<|eK _ (fun (s6:((List UInt8) × Int))=>([(5,AV.os 0 1 eL s6.1),(6,.c (.int .u64 s6.2))]:Fr)) (fun (s6:((List UInt8) × Int))=>([]:St)) hx3 (aU [128] 0 r r r r ⟨lr,lr,trivial⟩ aC) ?_
  intro s6 st6 hs6 ho6
  unfold tM at hs6
  refine aR<|aH<|mI r<|aK r (lC r r)<|aF (fr':=[(5,aO),(6,aI),(17,aB)]) r r<|bS hs6 r (fun hb7 h7=>?_) (fun hb7 h7=>?_)
  ·
   refine aW<|bZ<|bL<|aH<|mV (v:=aO) r<|mI r<|aK r (tZ aAT tk5 r)<|aK r (aPM r r) ?_
   obtain ⟨x8,hx8,h9⟩:=aE h7
   refine mT (row:=eL) (xs:=([x8]:List UInt8)) (rows:=[[_]]) (σ':=[]) [0] xJ r r r (cB (aBb hx8) iC) r r ?_
   obtain ⟨x10,hx10,h11⟩:=aE h9
   exact aAB (row:=eL) xJ r aAR r (kQ r) (fun _=>r) hx10<|sV (v:=aO) r<|aF (fr':=[(5,aO),(6,aI)]) r r<|aT<|mI r<|aK r (aMZ r r (by decide))<|sI r<|cD (fr':=[(5,aO),(6,aI)]) r<|bW<|tU _ (sy h11) (aU [368] 0 r r r r ⟨lr,lr,trivial⟩ aC)
  ·
   refine eZ<|bY<|bY<|dX ?_
   have h12:=dB h7 ho6
   exact fS _ (sy h12) (aU [0] 0 r r r r ⟨lr,lr,trivial⟩ aC)
 ·
  intro j5 hj13
  subst hj13
  refine aH<|mV (v:=aO) r<|mI r<|aK r (tZ aAT tk5 r) ?_
  obtain ⟨x14,hx14,h15⟩:=aE h4
  refine mT (row:=eL) (xs:=([x14]:List UInt8)) (rows:=[[_]]) (σ':=[]) [0] xJ r r r (cB (aBb hx14) iC) r r ?_
  obtain ⟨x16,hx16,h17⟩:=aE h15
  refine aAB (row:=eL) xJ r aAR r (kQ r) (fun _=>r) hx16<|sV (v:=aO) r<|aF (fr':=[(4,aO)]) r r<|bF ?_
  obtain rfl:=sy h17
  exact bE (rs':=[.tmp 4]) r<|bG (v:=aO) r<|bD<|aN [480] r r r lr aC
noncomputable def hU (p0b:(List UInt8)) (p1s:(List UInt8)):Option (List UInt8) :=
 (fB p0b ((p1s).length:Int)).bind fun x1=>(app 1 x1 p1s).bind fun x3=>some x3
theorem jZ {p0b:(List UInt8)}{p1s:(List UInt8)}{res:(List UInt8)} (h:hU p0b p1s=some res):bT Tryz.prog 54 [.c (PV.ls 1 eL p0b),.c (.str p1s)] [] (AV.os 0 1 eL res) []:=by
 unfold hU at h
 refine cJ (fn:=Tryz.f54) [0,1,4] (by kernel_rfl) Tryz.func54 r (by kernel_rfl) (by kernel_rfl)<|aH<|sV (v:=AV.nil) r<|aF (fr':=[(0,aL),(1,aS)]) r r<|aH<|mL r<|mS r<|aK r (gS nJ r) ?_
 obtain ⟨x1,hx1,h2⟩:=aE h
 refine gW (aY (v:=aO) r (fE hx1) ⟨lr,lr,trivial⟩ r r r)<|mS r ?_
 obtain ⟨x3,hx3,h4⟩:=aE h2
 refine aO5 xJ r nJ r r hx3<|sV (v:=aO) r<|aF (fr':=[(4,aO)]) r r<|bF ?_
 obtain rfl:=sy h4
 exact bE (rs':=[.tmp 4]) r<|bG (v:=aO) r<|bD<|aN [160] r r r lr aC
noncomputable def oE (p0l:(List (List UInt8))) (s4:Int):Option (cM Int (Fl Bool Unit)) :=
 cond (decide (s4<((p0l).length:Int))) ((jT p0l (IntKind.wrap .i64 (s4 - (1:Int)))).bind fun x6=>(jT p0l s4).bind fun x8=>cond (!Op.bytesLess x6 x8) (some (cM.out (Fl.done false))) (some (cM.next (IntKind.wrap .i64 (s4+(1:Int)))))) (some (cM.out (Fl.go ())))
noncomputable def oK (p0l:(List (List UInt8))):Option Bool :=
 ((eQ (oE p0l) ((1:Int))):Option (Fl Bool Unit)).bind fun x1=>Fl.next x1 (fun j3=>(some true))
theorem aC4 {p0l:(List (List UInt8))}{res:Bool} (h:oK p0l=some res):bT Tryz.prog 175 [.c (PV.ls 1 dD p0l)] [] (.c (.bool res)) []:=by
 unfold oK at h
 refine cJ (fn:=Tryz.f175) [0,2,3,7,19] (by kernel_rfl) Tryz.func175 r (by kernel_rfl) (by kernel_rfl)<|aH<|sB r<|aF (fr':=[(0,aL)]) r r<|aR<|aH<|sI r<|aF (fr':=[(0,aL),(3,aI)]) r r ?_
 obtain ⟨x1,hx1,h2⟩:=aE h
 refine eR gX (fun j3=>x1=Fl.go j3) (fun (j3:Unit)=>([]:Fr)) (fun (j3:Unit)=>([]:St)) ?_ ?_
 ·
  refine bL<|eK _ (fun (s4:Int)=>([(0,.c (PV.ls 1 dD p0l)),(3,ci s4)]:Fr)) (fun (s4:Int)=>([]:St)) hx1 (aU [] 0 r r r r ⟨lr,lr,trivial⟩ aC) ?_
  intro s4 st4 hs4 ho4
  unfold oE at hs4
  refine aR<|aH<|mI r<|mL r<|aK r (eC pU (cR r))<|aK r (eA r r)<|aF (fr':=[(0,aL),(3,aI),(7,aB)]) r r<|bS hs4 r (fun hb5 h5=>?_) (fun hb5 h5=>?_)
  ·
   refine aW<|bZ<|aR<|bL<|aR<|hF [.q 0,.q 1,.q 2,.q 3,.q 4,.q 5,.q 6,.q 7,.q 8,.q 9] [(some 10,[0]),(some 11,[3]),(some 12,[11]),(some 13,[10,12]),(some 14,[13]),(some 15,[0]),(some 16,[3]),(some 17,[15,16]),(some 18,[17]),(some 19,[14,18])] [0,0,2,7,15,0,0,96,224,511] (by kernel_rfl)<|dq r r (bC (v:=aL) r)<|dq r r (bC (v:=aI) r)<|dq r r (aFq r r) ?_
   obtain ⟨x6,hx6,h7⟩:=aE h5
   refine dq r r (iL (cs:=[PV.str _]) rV (cR r) r hx6 r)<|dq r r (fU (p:=PV.str _) iE r r)<|dq r r (bC (v:=aL) r)<|dq r r (bC (v:=aI) r) ?_
   obtain ⟨x8,hx8,h9⟩:=aE h7
   refine dq r r (iL (cs:=[PV.str _]) rV (cR r) r hx8 r)<|dq r r (fU (p:=PV.str _) iE r r)<|dq r r (aMY r r)<|tS (fr':=[(0,aL),(3,aI),(19,aB)]) r r<|bS h9 r (fun hb10 h10=>?_) (fun hb10 h10=>?_)
   ·
    refine aH<|sB r<|aF (fr':=[(2,aB)]) r r<|bF<|bH<|aM<|aM<|bH<|aM<|aM ?_
    have h11:=dB h10 ho4
    have h12:=eH h11 h2
    obtain rfl:=sy h12
    exact bE (rs':=[.tmp 2]) r<|bG (v:=aB) r<|bD<|aN [] r r r lr aC
   ·
    exact aW<|bW<|bZ<|aT<|mI r<|aK r (dZ r r)<|sI r<|cD (fr':=[(0,aL),(3,aI),(19,aB)]) r<|tU _ (sy h10) (aU [] 0 r r r r ⟨lr,lr,trivial⟩ aC)
  ·
   refine eZ<|bY<|bY<|dX ?_
   have h14:=dB h5 ho4
   exact fS _ (sy h14) (aU [] 0 r r r r trivial aC)
 ·
  intro j3 hj15
  have h15:=iS hj15 h2
  refine bZ<|aH<|sB r<|aF (fr':=[(2,aB)]) r r<|bF ?_
  obtain rfl:=sy h15
  exact bE (rs':=[.tmp 2]) r<|bG (v:=aB) r<|bD<|aN [] r r r lr aC
noncomputable def dP (aBW:aG→Bool→Option Bool) (p0s:(List aG)) (gH:Bool) (s4:Int):Option (cM Int (Fl Int Unit)) :=
 cond (decide (s4<((p0s).length:Int))) ((jT p0s s4).bind fun x6=>(aBW x6 gH).bind fun x8=>cond x8 (some (cM.out (Fl.done s4))) (some (cM.next (IntKind.wrap .i64 (s4+(1:Int)))))) (some (cM.out (Fl.go ())))
mutual
noncomputable def cZ:Nat→(List aG)→Bool→Option Bool
 | 0,_,_=>none
 | n+1,p0s,gH =>
  ((dU n) p0s gH).bind fun x1=>some (decide ((0:Int)≤x1))
noncomputable def dU:Nat→(List aG)→Bool→Option Int
 | 0,_,_=>none
 | n+1,p0s,gH =>
  ((eQ (dP (lY n) p0s gH) ((0:Int))):Option (Fl Int Unit)).bind fun x1=>Fl.next x1 (fun j3=>(some (-1:Int)))
noncomputable def nA:Nat→aG→Bool→Option Bool
 | 0,_,_=>none
 | n+1,p0C,p1o =>
  ((cond (decide (p0C.Kind=(0:Int))) (some (Fl.done (cond (cond (cond (!(!decide (p0C.Int=(0:Int)))) (!(!decide (p0C.Text=([]:List UInt8)))) false) (!(decide ((0:Int)<((p0C.Items).length:Int)))) false) (!(decide ((0:Int)<((p0C.Keys).length:Int)))) false))) (cond (decide (p0C.Kind=(1:Int))) (some (Fl.done (cond (cond (cond (cond (decide (p0C.Int=(0:Int))) true (decide (p0C.Int=(1:Int)))) (!(!decide (p0C.Text=([]:List UInt8)))) false) (!(decide ((0:Int)<((p0C.Items).length:Int)))) false) (!(decide ((0:Int)<((p0C.Keys).length:Int)))) false))) (cond (decide (p0C.Kind=(2:Int))) (some (Fl.done (cond (cond (!(!decide (p0C.Text=([]:List UInt8)))) (!(decide ((0:Int)<((p0C.Items).length:Int)))) false) (!(decide ((0:Int)<((p0C.Keys).length:Int)))) false))) (cond (decide (p0C.Kind=(6:Int))) (some (Fl.done (cond (cond (cond (cond p1o (decide ((0:Int)≤p0C.Int)) false) (!(!decide (p0C.Text=([]:List UInt8)))) false) (!(decide ((0:Int)<((p0C.Items).length:Int)))) false) (!(decide ((0:Int)<((p0C.Keys).length:Int)))) false))) (cond (decide (p0C.Kind=(3:Int))) (some (Fl.done (cond (cond (!(!decide (p0C.Int=(0:Int)))) (!(decide ((0:Int)<((p0C.Items).length:Int)))) false) (!(decide ((0:Int)<((p0C.Keys).length:Int)))) false))) (cond (decide (p0C.Kind=(4:Int))) (cond (cond (cond (!decide (p0C.Int=(0:Int))) true (!decide (p0C.Text=([]:List UInt8)))) true (decide ((0:Int)<((p0C.Keys).length:Int)))) (some (Fl.done false)) (some (Fl.go ()))) (cond (decide (p0C.Kind=(5:Int))) ((gd ((cond (cond (!decide (p0C.Int=(0:Int))) true (!decide (p0C.Text=([]:List UInt8)))) true (!decide (((p0C.Keys).length:Int)=((p0C.Items).length:Int))))==false) (oK p0C.Keys)).bind fun x24=>cond (cond (cond (cond (!decide (p0C.Int=(0:Int))) true (!decide (p0C.Text=([]:List UInt8)))) true (!decide (((p0C.Keys).length:Int)=((p0C.Items).length:Int)))) true (!x24)) (some (Fl.done false)) (some (Fl.go ()))) (some (Fl.done false))))))))):Option (Fl Bool Unit)).bind fun x1=>Fl.next x1 (fun j3=>(((cZ n) p0C.Items p1o).bind fun x32=>some (!x32)))
noncomputable def lY:Nat→aG→Bool→Option Bool
 | 0,_,_=>none
 | n+1,p0x,gH =>
  ((nA n) p0x gH).bind fun x1=>some (!x1)
end
theorem jL:∀ n:Nat,(∀ {p0s:(List aG)}{gH:Bool}{res:Bool},cZ n p0s gH=some res→bT Tryz.prog 176 [.c (PV.ls 5 bB p0s),.fn 177 [.box 0 0]] [[.c (.bool gH)]] (.c (.bool res)) [[.c (.bool gH)]])∧(∀ {p0s:(List aG)}{gH:Bool}{res:Int},dU n p0s gH=some res→bT Tryz.prog 205 [.c (PV.ls 5 bB p0s),.fn 177 [.box 0 0]] [[.c (.bool gH)]] (ci res) [[.c (.bool gH)]])∧(∀ {p0C:aG}{p1o:Bool}{res:Bool},nA n p0C p1o=some res→bT Tryz.prog 128 [.agg (AV.cs (cV p0C)),.c (.bool p1o)] [] (.c (.bool res)) [])∧(∀ {p0x:aG}{gH:Bool}{res:Bool},lY n p0x gH=some res→bT Tryz.prog 177 [.agg (AV.cs (cV p0x)),.box 0 0] [[.c (.bool gH)]] (.c (.bool res)) [[.c (.bool gH)]]):=by
 intro n
 induction n with
 | zero=>exact ⟨fun {p0s gH res} h=>absurd h (by simp [cZ]),fun {p0s gH res} h=>absurd h (by simp [dU]),fun {p0C p1o res} h=>absurd h (by simp [nA]),fun {p0x gH res} h=>absurd h (by simp [lY])⟩
 | succ n ih =>
  obtain ⟨ih_slices_ContainsFunc_api_Value_api_Value_value_formed_1,ih_slices_IndexFunc_api_Value_api_Value_value_formed_1,ih_value_formed,ih_value_formed_1⟩:=ih
  refine ⟨?_,?_,?_,?_⟩
  ·
   intro p0s gH res h
   rw [cZ] at h
   refine cJ (fn:=Tryz.f176) [0,1,4] (by kernel_rfl) Tryz.func176 r (by kernel_rfl) (by kernel_rfl)<|aH<|sB r<|aF (fr':=[(0,aL),(1,.fn _ [.box 0 0])]) r r<|aH<|mL r<|mV (v:=.fn _ [.box 0 0]) r ?_
   obtain ⟨x1,hx1,h2⟩:=aE h
   refine dK (v:=aI) (σ':=[[aB]]) [0] r (ih_slices_IndexFunc_api_Value_api_Value_value_formed_1 hx1) r r ⟨lr,(aMN r ⟨lr,trivial⟩),trivial⟩ (vK ⟨lr,trivial⟩ aC) r r r<|aK r (lC r r)<|sB r<|aF (fr':=[(4,aB)]) r r<|bF ?_
   obtain rfl:=sy h2
   exact bE (rs':=[.tmp 4]) r<|bG (v:=aB) r<|bD<|aN [] r r r lr (bJ r aC)
  ·
   intro p0s gH res h
   rw [dU] at h
   refine cJ (fn:=Tryz.f205) [0,1,4,5,7,8,9,16] (by kernel_rfl) Tryz.func205 r (by kernel_rfl) (by kernel_rfl)<|aH<|sI r<|aF (fr':=[(0,aL),(1,.fn _ [.box 0 0])]) r r<|aR<|aH<|mL r<|aK r (eC qM (cR r))<|mI r<|aF (fr':=[(0,aL),(1,.fn _ [.box 0 0]),(7,aI),(8,aI)]) r r ?_
   obtain ⟨x1,hx1,h2⟩:=aE h
   refine eR gX (fun j3=>x1=Fl.go j3) (fun (j3:Unit)=>([]:Fr)) (fun (j3:Unit)=>([[.c (.bool gH)]]:St)) ?_ ?_
   ·
    refine bL<|eK _ (fun (s4:Int)=>([(0,.c (PV.ls 5 bB p0s)),(1,.fn 177 [.box 0 0]),(7,ci ((p0s).length:Int)),(8,ci s4)]:Fr)) (fun (s4:Int)=>([[.c (.bool gH)]]:St)) hx1 (aU [] 1 r r r r ⟨lr,lr,lr,lr,trivial⟩ (bJ r aC)) ?_
    intro s4 st4 hs4 ho4
    unfold dP at hs4
    refine aH<|aK r (eA r r)<|aF (fr':=[(0,aL),(1,.fn _ [.box 0 0]),(7,aI),(8,aI),(9,aB)]) r r<|aR<|bS hs4 r (fun hb5 h5=>?_) (fun hb5 h5=>?_)
    ·
     refine aW<|bZ<|aR<|bL<|aH<|mI r<|sI r<|aF (fr':=[(0,aL),(1,.fn _ [.box 0 0]),(5,aI),(7,aI),(8,aI)]) r r<|aH<|mV (v:=.fn _ [.box 0 0]) r<|mL r ?_
     refine mI r ?_
     obtain ⟨x6,hx6,h7⟩:=aE h5
     refine aK r (iL (cs:=[PV.int _ _,PV.int _ _,PV.str _,PV.ls _ _ _,PV.ls _ _ _]) tO (cR r) r hx6 (cY _))<|aK r (hG (us:=[PV.int _ _,PV.int _ _,PV.str _,PV.ls _ _ _,PV.ls _ _ _]) fV r r r) ?_
     obtain ⟨x8,hx8,h9⟩:=aE h7
     refine dK (v:=aB) (σ':=[[aB]]) [0] r (ih_value_formed_1 hx8) r r ⟨(bP r ⟨r,r,r,r,r,trivial⟩),lr,trivial⟩ (vK ⟨lr,trivial⟩ aC) r r r<|aF (fr':=[(0,aL),(1,.fn _ [.box 0 0]),(5,aI),(7,aI),(8,aI),(16,aB)]) r r<|bS h9 r (fun hb10 h10=>?_) (fun hb10 h10=>?_)
     ·
      refine aH<|mI r<|sI r<|aF (fr':=[(4,aI)]) r r<|bF<|bH<|aM<|aM<|bH<|aM<|aM ?_
      have h11:=dB h10 ho4
      have h12:=eH h11 h2
      obtain rfl:=sy h12
      exact bE (rs':=[.tmp 4]) r<|bG (v:=aI) r<|bD<|aN [] r r r lr (bJ r aC)
     ·
      exact aW<|bW<|bZ<|aT<|aK r (dZ r r)<|mI r<|cD (fr':=[(0,aL),(1,.fn _ [.box 0 0]),(5,aI),(7,aI),(8,aI),(16,aB)]) r<|tU _ (sy h10) (aU [] 1 r r r r ⟨lr,lr,lr,lr,trivial⟩ (bJ r aC))
    ·
     refine eZ<|bY<|bY<|dX ?_
     have h14:=dB h5 ho4
     exact fS _ (sy h14) (aU [] 1 r r r r trivial (bJ r aC))
   ·
    intro j3 hj15
    have h15:=iS hj15 h2
    refine bZ<|aH<|sI r<|aF (fr':=[(4,aI)]) r r<|bF ?_
    obtain rfl:=sy h15
    exact bE (rs':=[.tmp 4]) r<|bG (v:=aI) r<|bD<|aN [] r r r lr (bJ r aC)
  ·
   intro p0C p1o res h
   rw [nA] at h
   refine cJ (fn:=Tryz.f128) [0,1,2,3,4,5,6,7,8,24,25,41,63,75,95,107,115,116,136] (by kernel_rfl) Tryz.func128 r (by kernel_rfl) (by kernel_rfl)<|aH<|fW (v:=.agg bQ) (n:=0) (cs:=bQ) (σ':=[bQ]) r r r r r<|fW (v:=aB) (n:=1) (cs:=[aB]) (σ':=[bQ,[aB]]) r r r r r<|sB r<|aF (fr':=[(2,.box 0 0),(3,.box 1 0)]) r r<|aH<|aK r (aZ mY r)<|aK r (aJ (v:=aI) eB r r r)<|aK r (gM r r)<|sB r ?_
   refine aF (fr':=[(2,.box 0 0),(3,.box 1 0),(5,aB)]) r r<|aH<|aK r (aZ oA r)<|aK r (aJ (v:=aS) iE r r r)<|aK r (rR r r)<|sB r<|aF (fr':=[(2,.box 0 0),(3,.box 1 0),(5,aB),(6,aB)]) r r<|aH<|aK r (aZ fM r)<|aK r (aJ (v:=aL) kD r r r)<|aK r (eC qM (cR r)) ?_
   refine aK r (mG r r)<|sB r<|aF (fr':=[(2,.box 0 0),(3,.box 1 0),(5,aB),(6,aB),(7,aB)]) r r<|aH<|aK r (aZ jW r)<|aK r (aJ (v:=aL) lN r r r)<|aK r (eC pU (cR r))<|aK r (mG r r)<|sB r<|aF (fr':=[(2,.box 0 0),(3,.box 1 0),(5,aB),(6,aB),(7,aB),(8,aB)]) r r ?_
   obtain ⟨x1,hx1,h2⟩:=aE h
   refine fP (fun j3=>x1=Fl.go j3) (fun (j3:Unit)=>([(2,.box 0 0),(3,.box 1 0)]:Fr)) (fun (j3:Unit)=>([[ci p0C.Kind,ci p0C.Int,.c (.str p0C.Text),.c (PV.ls 5 bB p0C.Items),.c (PV.ls 1 dD p0C.Keys)],[.c (.bool p1o)]]:St)) ?_ ?_
   ·
    refine aH<|aK r (aZ iR r)<|aK r (aJ (v:=aI) eB r r r)<|aF (fr':=[(2,.box 0 0),(3,.box 1 0),(5,aB),(6,aB),(7,aB),(8,aB),(24,aI)]) r r<|bL<|aH<|aK r (bO r r)<|sB r<|aF (fr':=[(2,.box 0 0),(3,.box 1 0),(5,aB),(6,aB),(7,aB),(8,aB),(24,aI),(25,aB)]) r r<|bS hx1 r (fun hb4 h4=>?_) (fun hb4 h4=>?_)
    ·
     refine aH<|mB r<|aK r (eD r)<|mB r<|og r r r (fun hc=>(bC (v:=aB) r))<|og r r r (fun hc=>(eD (gx r hc)))<|aK r (bM r r r (fun e=>eI e))<|mB r<|og r r r (fun hc=>(bC (v:=aB) r))<|og r r r (fun hc=>(eD (gx r hc)))<|aK r (bM r r r (fun e=>eI e))<|mB r ?_
     refine og r r r (fun hc=>(bC (v:=aB) r))<|og r r r (fun hc=>(eD (gx r hc)))<|aK r (bM r r r (fun e=>eI e))<|sB r<|aF (fr':=[(4,aB)]) r r<|bF<|bH<|aM ?_
     have h5:=eH h4 h2
     obtain rfl:=sy h5
     exact bE (rs':=[.tmp 4]) r<|bG (v:=aB) r<|bD<|aN [] r r r lr aC
    ·
     refine aH<|aK r (bO r r)<|sB r<|aF (fr':=[(2,.box 0 0),(3,.box 1 0),(5,aB),(6,aB),(7,aB),(8,aB),(24,aI),(41,aB)]) r r<|bS h4 r (fun hb7 h7=>?_) (fun hb7 h7=>?_)
     ·
      refine aH<|aK r (aZ mY r)<|aK r (aJ (v:=aI) eB r r r)<|aK r (bO r r)<|mB r<|og r r r (fun hc=>(aZ mY r))<|og r r r (fun hc=>(aJ (v:=aI) eB (gx r hc) r r))<|og r r r (fun hc=>(bO (gx r hc) r))<|aK r (bX r r r (fun e=>eI e))<|mB r<|og r r r (fun hc=>(bC (v:=aB) r))<|og r r r (fun hc=>(eD (gx r hc))) ?_
      refine aK r (bM r r r (fun e=>eI e))<|mB r<|og r r r (fun hc=>(bC (v:=aB) r))<|og r r r (fun hc=>(eD (gx r hc)))<|aK r (bM r r r (fun e=>eI e))<|mB r<|og r r r (fun hc=>(bC (v:=aB) r))<|og r r r (fun hc=>(eD (gx r hc)))<|aK r (bM r r r (fun e=>eI e))<|sB r<|aF (fr':=[(4,aB)]) r r<|bF<|bH ?_
      refine aM ?_
      have h8:=eH h7 h2
      obtain rfl:=sy h8
      exact bE (rs':=[.tmp 4]) r<|bG (v:=aB) r<|bD<|aN [] r r r lr aC
     ·
      refine aH<|aK r (bO r r)<|sB r<|aF (fr':=[(2,.box 0 0),(3,.box 1 0),(5,aB),(6,aB),(7,aB),(8,aB),(24,aI),(63,aB)]) r r<|bS h7 r (fun hb10 h10=>?_) (fun hb10 h10=>?_)
      ·
       refine aH<|mB r<|aK r (eD r)<|mB r<|og r r r (fun hc=>(bC (v:=aB) r))<|og r r r (fun hc=>(eD (gx r hc)))<|aK r (bM r r r (fun e=>eI e))<|mB r<|og r r r (fun hc=>(bC (v:=aB) r))<|og r r r (fun hc=>(eD (gx r hc)))<|aK r (bM r r r (fun e=>eI e))<|sB r ?_
       refine aF (fr':=[(4,aB)]) r r<|bF<|bH<|aM ?_
       have h11:=eH h10 h2
       obtain rfl:=sy h11
       exact bE (rs':=[.tmp 4]) r<|bG (v:=aB) r<|bD<|aN [] r r r lr aC
      ·
       refine aH<|aK r (bO r r)<|sB r<|aF (fr':=[(2,.box 0 0),(3,.box 1 0),(5,aB),(6,aB),(7,aB),(8,aB),(24,aI),(75,aB)]) r r<|bS h10 r (fun hb13 h13=>?_) (fun hb13 h13=>?_)
       ·
        refine aH<|aK r (aJ (v:=aB) tv4 r r r)<|mB r<|og r r r (fun hc=>(aZ mY r))<|og r r r (fun hc=>(aJ (v:=aI) eB (gx r hc) r r))<|og r r r (fun hc=>(lC (gx r hc) r))<|aK r (bM r r r (fun e=>eI e))<|mB r<|og r r r (fun hc=>(bC (v:=aB) r))<|og r r r (fun hc=>(eD (gx r hc)))<|aK r (bM r r r (fun e=>eI e))<|mB r ?_
        refine og r r r (fun hc=>(bC (v:=aB) r))<|og r r r (fun hc=>(eD (gx r hc)))<|aK r (bM r r r (fun e=>eI e))<|mB r<|og r r r (fun hc=>(bC (v:=aB) r))<|og r r r (fun hc=>(eD (gx r hc)))<|aK r (bM r r r (fun e=>eI e))<|sB r<|aF (fr':=[(4,aB)]) r r<|bF<|bH<|aM ?_
        have h14:=eH h13 h2
        obtain rfl:=sy h14
        exact bE (rs':=[.tmp 4]) r<|bG (v:=aB) r<|bD<|aN [] r r r lr aC
       ·
        refine aH<|aK r (bO r r)<|sB r<|aF (fr':=[(2,.box 0 0),(3,.box 1 0),(5,aB),(6,aB),(7,aB),(8,aB),(24,aI),(95,aB)]) r r<|bS h13 r (fun hb16 h16=>?_) (fun hb16 h16=>?_)
        ·
         refine aH<|mB r<|aK r (eD r)<|mB r<|og r r r (fun hc=>(bC (v:=aB) r))<|og r r r (fun hc=>(eD (gx r hc)))<|aK r (bM r r r (fun e=>eI e))<|mB r<|og r r r (fun hc=>(bC (v:=aB) r))<|og r r r (fun hc=>(eD (gx r hc)))<|aK r (bM r r r (fun e=>eI e))<|sB r ?_
         refine aF (fr':=[(4,aB)]) r r<|bF<|bH<|aM ?_
         have h17:=eH h16 h2
         obtain rfl:=sy h17
         exact bE (rs':=[.tmp 4]) r<|bG (v:=aB) r<|bD<|aN [] r r r lr aC
        ·
         refine aH<|aK r (bO r r)<|sB r<|aF (fr':=[(2,.box 0 0),(3,.box 1 0),(5,aB),(6,aB),(8,aB),(24,aI),(107,aB)]) r r<|bS h16 r (fun hb19 h19=>?_) (fun hb19 h19=>?_)
         ·
          refine aH<|mB r<|mB r<|og r r r (fun hc=>(bC (v:=aB) r))<|aK r (bX r r r (fun e=>eI e))<|mB r<|og r r r (fun hc=>(bC (v:=aB) r))<|aK r (bX r r r (fun e=>eI e))<|aF (fr':=[(2,.box 0 0),(3,.box 1 0),(115,aB)]) r r<|bS h19 r (fun hb20 h20=>?_) (fun hb20 h20=>?_)
          ·
           refine aH<|sB r<|aF (fr':=[(4,aB)]) r r<|bF<|bH<|aM ?_
           have h21:=eH h20 h2
           obtain rfl:=sy h21
           exact bE (rs':=[.tmp 4]) r<|bG (v:=aB) r<|bD<|aN [] r r r lr aC
          ·
           exact aW<|bW<|fS _ (sy h20) (aU [] 2 r r r r ⟨lr,lr,trivial⟩ (bJ r (bJ r aC)))
         ·
          refine aH<|aK r (bO r r)<|sB r<|aF (fr':=[(2,.box 0 0),(3,.box 1 0),(5,aB),(6,aB),(116,aB)]) r r<|bS h19 r (fun hb23 h23=>?_) (fun hb23 h23=>?_)
          ·
           refine aH<|mB r<|mB r<|og r r r (fun hc=>(bC (v:=aB) r))<|aK r (bX r r r (fun e=>eI e))<|mB r<|og r r r (fun hc=>(aZ jW r))<|og r r r (fun hc=>(aJ (v:=aL) lN (gx r hc) r r))<|og r r r (fun hc=>(eC pU (cR (gx r hc))))<|og r r r (fun hc=>(aZ fM r))<|og r r r (fun hc=>(aJ (v:=aL) kD (gx r hc) r r))<|og r r r (fun hc=>(eC qM (cR (gx r hc)))) ?_
           refine og r r r (fun hc=>(gM (gx r hc) (gx r hc)))<|aK r (bX r r r (fun e=>eI e))<|mB r<|og r r r (fun hc=>(aZ jW r))<|og r r r (fun hc=>(aJ (v:=aL) lN (gx r hc) r r)) ?_
           obtain ⟨x24,hx24,h25⟩:=aE h23
           refine rZ r r (fun hc=>aY (v:=aB) r (aC4 (cG hx24 hc)) ⟨(dW (gx r hc) lr),trivial⟩ (fC (by repeat (first | exact dT | refine aX r ?_ | refine aX (oQ r) ?_ | refine aX oP ?_))) r r) ?_
           refine og r r r (fun hc=>(eD (gx r hc)))<|aK r (bX r r r (fun e=>eI e))<|aF (fr':=[(2,.box 0 0),(3,.box 1 0),(136,aB)]) r r<|bS h25 r (fun hb26 h26=>?_) (fun hb26 h26=>?_)
           ·
            refine aH<|sB r<|aF (fr':=[(4,aB)]) r r<|bF<|bH<|aM ?_
            have h27:=eH h26 h2
            obtain rfl:=sy h27
            exact bE (rs':=[.tmp 4]) r<|bG (v:=aB) r<|bD<|aN [] r r r lr aC
           ·
            exact aW<|bW<|fS _ (sy h26) (aU [] 2 r r r r ⟨lr,lr,trivial⟩ (bJ r (bJ r aC)))
          ·
           refine aH<|sB r<|aF (fr':=[(4,aB)]) r r<|bF<|bH<|aM ?_
           have h29:=eH h23 h2
           obtain rfl:=sy h29
           exact bE (rs':=[.tmp 4]) r<|bG (v:=aB) r<|bD<|aN [] r r r lr aC
   ·
    intro j3 hj31
    have h31:=iS hj31 h2
    refine aH<|aK r (aZ fM r)<|aK r (aJ (v:=aL) kD r r r)<|aK r (aPa (cs:=[.box 1 0]) r r) ?_
    obtain ⟨x32,hx32,h33⟩:=aE h31
    refine dK (v:=aB) (σ':=[bQ,[aB]]) [1] r (ih_slices_ContainsFunc_api_Value_api_Value_value_formed_1 hx32) r r ⟨lr,(aMN r ⟨lr,trivial⟩),trivial⟩ (vK ⟨lr,trivial⟩ aC) r r r<|aK r (eD r)<|sB r<|aF (fr':=[(4,aB)]) r r<|bF ?_
    obtain rfl:=sy h33
    exact bE (rs':=[.tmp 4]) r<|bG (v:=aB) r<|bD<|aN [] r r r lr aC
  ·
   intro p0x gH res h
   rw [lY] at h
   refine cJ (fn:=Tryz.f177) [0,1,2,3] (by kernel_rfl) Tryz.func177 r (by kernel_rfl) (by kernel_rfl)<|aH<|fW (v:=.agg bQ) (n:=1) (cs:=bQ) (σ':=[[aB],bQ]) r r r r r<|sB r<|aF (fr':=[(1,.box 0 0),(2,.box 1 0)]) r r<|aH<|aK r (cN (us:=bQ) fV r r r r)<|aK r (aJ (v:=aB) tv4 r r r) ?_
   obtain ⟨x1,hx1,h2⟩:=aE h
   refine gW (aY (v:=aB) r (ih_value_formed hx1) ⟨(bP r ⟨r,r,r,r,r,trivial⟩),lr,trivial⟩ r r r)<|aK r (eD r)<|sB r<|aF (fr':=[(3,aB)]) r r<|bF ?_
   obtain rfl:=sy h2
   exact bE (rs':=[.tmp 3]) r<|bG (v:=aB) r<|bD<|aN [] r r r lr (bJ r aC)
noncomputable def wB (p0C:aG) (p1o:Bool):Option Bool:=lim fun n=>nA n p0C p1o
theorem aA7 {p0C:aG}{p1o:Bool}{res:Bool} (h:wB p0C p1o=some res):bT Tryz.prog 128 [.agg (AV.cs (cV p0C)),.c (.bool p1o)] [] (.c (.bool res)) []:=by
 obtain ⟨n,hn⟩:=kR h
 exact (jL n).2.2.1 hn
noncomputable def iX (yG:(List UInt8)→aG→Option (List UInt8)) (p1v:aG) (s34:((List UInt8) × Int)):Option (cM ((List UInt8) × Int) (List UInt8)) :=
 cond (decide (s34.2<((p1v.Items).length:Int))) ((jT p1v.Items s34.2).bind fun x36=>cond (decide (p1v.Kind=(5:Int))) ((jT p1v.Keys s34.2).bind fun x39=>(hU s34.1 x39).bind fun x41=>(yG x41 x36).bind fun x43=>some (cM.next (x43,(IntKind.wrap .i64 (s34.2+(1:Int)))))) ((yG s34.1 x36).bind fun x45=>some (cM.next (x45,(IntKind.wrap .i64 (s34.2+(1:Int))))))) (some (cM.out s34.1))
noncomputable def lE:Nat→(List UInt8)→aG→Option (List UInt8)
 | 0,_,_=>none
 | n+1,p0b,p1v =>
  (fB p0b p1v.Kind).bind fun x1=>((((cond (decide (p1v.Kind=(1:Int))) (some (decide (p1v.Kind=(1:Int)))) (cond (decide (p1v.Kind=(2:Int))) (some (decide (p1v.Kind=(2:Int)))) (some (decide (p1v.Kind=(6:Int)))))):Option Bool).bind fun x6=>(cond x6 ((fB x1 p1v.Int).bind fun x13=>some (Fl.done x13)) (cond (decide (p1v.Kind=(3:Int))) ((hU x1 p1v.Text).bind fun x18=>some (Fl.done x18)) (((cond (decide (p1v.Kind=(4:Int))) (some (decide (p1v.Kind=(4:Int)))) (some (decide (p1v.Kind=(5:Int))))):Option Bool).bind fun x22=>(cond x22 ((fB x1 ((p1v.Items).length:Int)).bind fun x28=>some (Fl.go x28)) (some (Fl.go x1))))))):Option (Fl (List UInt8) (List UInt8))).bind fun x3=>Fl.next x3 (fun j5=>(((eQ (iX (lE n) p1v) ((j5,(0:Int)))):Option (List UInt8)).bind fun x31=>(some x31)))
theorem aEp:∀ n:Nat,(∀ {p0b:(List UInt8)}{p1v:aG}{res:(List UInt8)},lE n p0b p1v=some res→bT Tryz.prog 129 [.c (PV.ls 1 eL p0b),.agg (AV.cs (cV p1v))] [] (AV.os 0 1 eL res) []):=by
 intro n
 induction n with
 | zero=>exact fun {p0b p1v res} h=>absurd h (by simp [lE])
 | succ n ih =>
  have ih_value_encode:=@ih
  intro p0b p1v res h
  rw [lE] at h
  refine cJ (fn:=Tryz.f129) [0,1,3,4,5,6,12,13,21,27,36,37,38,39,45] (by kernel_rfl) Tryz.func129 r (by kernel_rfl) (by kernel_rfl)<|aH<|fW (v:=.agg bQ) (n:=0) (cs:=bQ) (σ':=[bQ]) r r r r r<|sV (v:=AV.nil) r<|aF (fr':=[(0,aL),(3,.box 0 0)]) r r<|aH<|mL r<|aK r (aZ iR r)<|aK r (aJ (v:=aI) eB r r r) ?_
  obtain ⟨x1,hx1,h2⟩:=aE h
  refine gW (aY (v:=aO) r (fE hx1) ⟨lr,lr,trivial⟩ r r r)<|sV (v:=aO) r<|aF (fr':=[(0,aO),(3,.box 0 0)]) r r ?_
  obtain ⟨x3,hx3,h4⟩:=aE h2
  refine fP (fun j5=>x3=Fl.go j5) (fun (j5:(List UInt8))=>([(0,AV.os 0 1 eL j5),(3,.box 0 0)]:Fr)) (fun (j5:(List UInt8))=>([[ci p1v.Kind,ci p1v.Int,.c (.str p1v.Text),.c (PV.ls 5 bB p1v.Items),.c (PV.ls 1 dD p1v.Keys)]]:St)) ?_ ?_
  ·
   refine aH<|aK r (aZ iR r)<|aK r (aJ (v:=aI) eB r r r)<|aF (fr':=[(0,aO),(3,.box 0 0),(12,aI)]) r r<|bL ?_
   obtain ⟨x6,hx6,h7⟩:=aE hx3
   refine fP (fun j8=>x6=j8) (fun (j8:Bool)=>([(0,AV.os 0 1 eL x1),(3,.box 0 0),(12,ci p1v.Kind),(13,.c (.bool j8))]:Fr)) (fun (j8:Bool)=>([[ci p1v.Kind,ci p1v.Int,.c (.str p1v.Text),.c (PV.ls 5 bB p1v.Items),.c (PV.ls 1 dD p1v.Keys)]]:St)) ?_ ?_
   ·
    refine aH<|aK r (bO r r)<|sB r<|aF (fr':=[(0,aO),(3,.box 0 0),(12,aI),(13,aB)]) r r<|bS hx6 r (fun hb9 h9=>?_) (fun hb9 h9=>?_)
    ·
     exact aW<|fS _ (sy h9) (aU [160] 1 r r r r ⟨lr,lr,lr,lr,trivial⟩ (bJ r aC))
    ·
     refine aH<|aK r (bO r r)<|sB r<|aF (fr':=[(0,aO),(3,.box 0 0),(12,aI),(13,aB)]) r r<|bS h9 r (fun hb10 h10=>?_) (fun hb10 h10=>?_)
     ·
      exact aW<|fS _ (sy h10) (aU [160] 1 r r r r ⟨lr,lr,lr,lr,trivial⟩ (bJ r aC))
     ·
      exact aT<|aK r (bO r r)<|sB r<|cD (fr':=[(0,aO),(3,.box 0 0),(12,aI),(13,aB)]) r<|fS _ (sy h10) (aU [160] 1 r r r r ⟨lr,lr,lr,lr,trivial⟩ (bJ r aC))
   ·
    intro j8 hj11
    subst hj11
    refine bS h7 r (fun hb12 h12=>?_) (fun hb12 h12=>?_)
    ·
     refine aH<|mV (v:=aO) r<|aK r (aZ mY r)<|aK r (aJ (v:=aI) eB r r r) ?_
     obtain ⟨x13,hx13,h14⟩:=aE h12
     refine gW (aY (v:=aO) r (fE hx13) ⟨lr,lr,trivial⟩ r r r)<|sV (v:=aO) r<|aF (fr':=[(4,aO)]) r r<|bF<|bH<|aM ?_
     have h15:=eH h14 h4
     obtain rfl:=sy h15
     exact bE (rs':=[.tmp 4]) r<|bG (v:=aO) r<|bD<|aN [320] r r r lr aC
    ·
     refine aH<|aK r (bO r r)<|sB r<|aF (fr':=[(0,aO),(3,.box 0 0),(12,aI),(21,aB)]) r r<|bS h12 r (fun hb17 h17=>?_) (fun hb17 h17=>?_)
     ·
      refine aH<|mV (v:=aO) r<|aK r (aZ oA r)<|aK r (aJ (v:=aS) iE r r r) ?_
      obtain ⟨x18,hx18,h19⟩:=aE h17
      refine gW (aY (v:=aO) r (jZ hx18) ⟨lr,lr,trivial⟩ r r r)<|sV (v:=aO) r<|aF (fr':=[(4,aO)]) r r<|bF<|bH<|aM ?_
      have h20:=eH h19 h4
      obtain rfl:=sy h20
      exact bE (rs':=[.tmp 4]) r<|bG (v:=aO) r<|bD<|aN [416] r r r lr aC
     ·
      obtain ⟨x22,hx22,h23⟩:=aE h17
      refine fP (fun j24=>x22=j24) (fun (j24:Bool)=>([(0,AV.os 0 1 eL x1),(3,.box 0 0),(27,.c (.bool j24))]:Fr)) (fun (j24:Bool)=>([[ci p1v.Kind,ci p1v.Int,.c (.str p1v.Text),.c (PV.ls 5 bB p1v.Items),.c (PV.ls 1 dD p1v.Keys)]]:St)) ?_ ?_
      ·
       refine aH<|aK r (bO r r)<|sB r<|aF (fr':=[(0,aO),(3,.box 0 0),(12,aI),(27,aB)]) r r<|bS hx22 r (fun hb25 h25=>?_) (fun hb25 h25=>?_)
       ·
        exact aW<|fS _ (sy h25) (aU [0] 1 r r r r ⟨lr,lr,lr,trivial⟩ (bJ r aC))
       ·
        exact aT<|aK r (bO r r)<|sB r<|cD (fr':=[(0,aO),(3,.box 0 0),(12,aI),(27,aB)]) r<|fS _ (sy h25) (aU [0] 1 r r r r ⟨lr,lr,lr,trivial⟩ (bJ r aC))
      ·
       intro j24 hj26
       subst hj26
       refine bS h23 r (fun hb27 h27=>?_) (fun hb27 h27=>?_)
       ·
        refine aT<|mV (v:=aO) r<|aK r (aZ fM r)<|aK r (aJ (v:=aL) kD r r r)<|aK r (eC qM (cR r)) ?_
        obtain ⟨x28,hx28,h29⟩:=aE h27
        exact gW (aY (v:=aO) r (fE hx28) ⟨lr,lr,trivial⟩ r r r)<|sV (v:=aO) r<|cD (fr':=[(0,aO),(3,.box 0 0),(27,aB)]) r<|bW<|fS _ (sy h29) (aU [544] 1 r r r r ⟨lr,lr,trivial⟩ (bJ r aC))
       ·
        exact aW<|bW<|fS _ (sy h27) (aU [0] 1 r r r r ⟨lr,lr,trivial⟩ (bJ r aC))
  ·
   intro j5 hj30
   have h30:=iS hj30 h4
   refine aR<|aH<|aK r (aZ fM r)<|aK r (aJ (v:=aL) kD r r r)<|aK r (eC qM (cR r))<|mI r<|aF (fr':=[(0,aO),(3,.box 0 0),(36,aL),(37,aI),(38,aI)]) r r ?_
   obtain ⟨x31,hx31,h32⟩:=aE h30
   refine eR gX (fun j33=>x31=j33) (fun (j33:(List UInt8))=>([(0,AV.os 0 1 eL j33)]:Fr)) (fun (j33:(List UInt8))=>([[ci p1v.Kind,ci p1v.Int,.c (.str p1v.Text),.c (PV.ls 5 bB p1v.Items),.c (PV.ls 1 dD p1v.Keys)]]:St)) ?_ ?_
   ·
    refine bL<|eK _ (fun (s34:((List UInt8) × Int))=>([(0,AV.os 0 1 eL s34.1),(3,.box 0 0),(36,.c (PV.ls 5 bB p1v.Items)),(37,ci ((p1v.Items).length:Int)),(38,ci s34.2)]:Fr)) (fun (s34:((List UInt8) × Int))=>([[ci p1v.Kind,ci p1v.Int,.c (.str p1v.Text),.c (PV.ls 5 bB p1v.Items),.c (PV.ls 1 dD p1v.Keys)]]:St)) hx31 (aU [0] 1 r r r r ⟨lr,lr,lr,lr,lr,trivial⟩ (bJ r aC)) ?_
    intro s34 st34 hs34 ho34
    unfold iX at hs34
    refine aH<|aK r (eA r r)<|aF (fr':=[(0,aO),(3,.box 0 0),(36,aL),(37,aI),(38,aI),(39,aB)]) r r<|aR<|bS hs34 r (fun hb35 h35=>?_) (fun hb35 h35=>?_)
    ·
     refine aW<|bZ<|aR<|bL<|aH<|mI r ?_
     obtain ⟨x36,hx36,h37⟩:=aE h35
     refine aK r (iL (cs:=[PV.int _ _,PV.int _ _,PV.str _,PV.ls _ _ _,PV.ls _ _ _]) tO (cR r) r hx36 (cY _))<|aK r (hG (us:=[PV.int _ _,PV.int _ _,PV.str _,PV.ls _ _ _,PV.ls _ _ _]) fV r r r)<|hS (n:=1) (cs:=bU) (σ':=[bQ,bU]) aDC r r r<|sI r<|bV (v:=.agg bQ) (us:=bQ) (cs:=bU) (σ':=[bQ,bQ]) r fV r r r r r r r r<|aF (fr':=[(0,aO),(3,.box 0 0),(5,aI),(6,.box 1 0),(36,aL),(37,aI),(38,aI)]) r r<|aR<|aH<|aK r (aZ iR r)<|aK r (aJ (v:=aI) eB r r r)<|aK r (bO r r)<|aF (fr':=[(0,aO),(3,.box 0 0),(5,aI),(6,.box 1 0),(36,aL),(37,aI),(38,aI),(45,aB)]) r r ?_
     refine bS h37 r (fun hb38 h38=>?_) (fun hb38 h38=>?_)
     ·
      refine aT<|mV (v:=aO) r<|aK r (aZ jW r)<|aK r (aJ (v:=aL) lN r r r)<|mI r ?_
      obtain ⟨x39,hx39,h40⟩:=aE h38
      refine aK r (iL (cs:=[PV.str _]) rV (cR r) r hx39 r)<|aK r (fU (p:=PV.str _) iE r r) ?_
      obtain ⟨x41,hx41,h42⟩:=aE h40
      refine gW (aY (v:=aO) r (jZ hx41) ⟨lr,lr,trivial⟩ r r r)<|sV (v:=aO) r<|aF (fr':=[(0,aO),(3,.box 0 0),(6,.box 1 0),(36,aL),(37,aI),(38,aI)]) r r<|aT<|mV (v:=aO) r<|aK r (cN (us:=bQ) fV r r r r) ?_
      obtain ⟨x43,hx43,h44⟩:=aE h42
      exact gW (aY (v:=aO) r (ih_value_encode hx43) ⟨lr,(bP r ⟨r,r,r,r,r,trivial⟩),trivial⟩ r r r)<|sV (v:=aO) r<|cD (fr':=[(0,aO),(3,.box 0 0),(6,.box 1 0),(36,aL),(37,aI),(38,aI)]) r<|bW<|bZ<|aT<|aK r (dZ r r)<|mI r<|cD (fr':=[(0,aO),(3,.box 0 0),(6,.box 1 0),(36,aL),(37,aI),(38,aI)]) r<|tU _ (sy h44) (aU [880] 1 r r r r ⟨lr,lr,lr,lr,lr,trivial⟩ (bJ r aC))
     ·
      refine aW<|bZ<|aT<|mV (v:=aO) r<|aK r (cN (us:=bQ) fV r r r r) ?_
      obtain ⟨x45,hx45,h46⟩:=aE h38
      exact gW (aY (v:=aO) r (ih_value_encode hx45) ⟨lr,(bP r ⟨r,r,r,r,r,trivial⟩),trivial⟩ r r r)<|sV (v:=aO) r<|cD (fr':=[(0,aO),(3,.box 0 0),(5,aI),(6,.box 1 0),(36,aL),(37,aI),(38,aI),(45,aB)]) r<|bW<|bZ<|aT<|aK r (dZ r r)<|mI r<|cD (fr':=[(0,aO),(3,.box 0 0),(5,aI),(6,.box 1 0),(36,aL),(37,aI),(38,aI),(45,aB)]) r<|tU _ (sy h46) (aU [880] 1 r r r r ⟨lr,lr,lr,lr,lr,trivial⟩ (bJ r aC))
    ·
     refine eZ<|bY<|bY<|dX ?_
     have h47:=dB h35 ho34
     exact fS _ (sy h47) (aU [0] 1 r r r r ⟨lr,trivial⟩ (bJ r aC))
   ·
    intro j33 hj48
    subst hj48
    refine bZ<|aH<|mV (v:=aO) r<|sV (v:=aO) r<|aF (fr':=[(4,aO)]) r r<|bF ?_
    obtain rfl:=sy h32
    exact bE (rs':=[.tmp 4]) r<|bG (v:=aO) r<|bD<|aN [0] r r r lr aC
noncomputable def zT (p0b:(List UInt8)) (p1v:aG):Option (List UInt8):=lim fun n=>lE n p0b p1v
theorem aF4 {p0b:(List UInt8)}{p1v:aG}{res:(List UInt8)} (h:zT p0b p1v=some res):bT Tryz.prog 129 [.c (PV.ls 1 eL p0b),.agg (AV.cs (cV p1v))] [] (AV.os 0 1 eL res) []:=by
 obtain ⟨n,hn⟩:=kR h
 exact (aEp n) hn
noncomputable def qP (p0b:(List UInt8)) (p1v:aG):Option (List UInt8) :=
 (gC p0b).bind fun x1=>(wB p1v true).bind fun x3=>cond (!x3) (some x1) ((zT x1 p1v).bind fun x7=>some x7)
theorem aA6 {p0b:(List UInt8)}{p1v:aG}{res:(List UInt8)} (h:qP p0b p1v=some res):bT Tryz.prog 55 [.c (PV.ls 1 eL p0b),.agg (AV.cs (cV p1v))] [] (AV.os 0 1 eL res) []:=by
 unfold qP at h
 refine cJ (fn:=Tryz.f55) [0,1,3,4,5,10] (by kernel_rfl) Tryz.func55 r (by kernel_rfl) (by kernel_rfl)<|aH<|fW (v:=.agg bQ) (n:=0) (cs:=bQ) (σ':=[bQ]) r r r r r<|sV (v:=AV.nil) r<|aF (fr':=[(0,aL),(3,.box 0 0)]) r r<|aH<|mL r ?_
 obtain ⟨x1,hx1,h2⟩:=aE h
 refine gW (aY (v:=aO) r (jN hx1) ⟨lr,trivial⟩ r r r)<|sV (v:=aO) r<|aF (fr':=[(3,.box 0 0),(5,aO)]) r r<|aR<|aH<|aK r (cN (us:=bQ) fV r r r r) ?_
 obtain ⟨x3,hx3,h4⟩:=aE h2
 refine gW (aY (v:=aB) r (aA7 hx3) ⟨(bP r ⟨r,r,r,r,r,trivial⟩),lr,trivial⟩ r r r)<|aK r (eD r)<|aF (fr':=[(3,.box 0 0),(5,aO),(10,aB)]) r r<|bS h4 r (fun hb5 h5=>?_) (fun hb5 h5=>?_)
 ·
  refine aH<|mV (v:=aO) r<|sV (v:=aO) r<|aF (fr':=[(4,aO)]) r r<|bF<|aM ?_
  obtain rfl:=sy h5
  exact bE (rs':=[.tmp 4]) r<|bG (v:=aO) r<|bD<|aN [112] r r r lr aC
 ·
  refine aW<|bZ<|aH<|mV (v:=aO) r<|aK r (cN (us:=bQ) fV r r r r) ?_
  obtain ⟨x7,hx7,h8⟩:=aE h5
  refine gW (aY (v:=aO) r (aF4 hx7) ⟨lr,(bP r ⟨r,r,r,r,r,trivial⟩),trivial⟩ r r r)<|sV (v:=aO) r<|aF (fr':=[(4,aO)]) r r<|bF ?_
  obtain rfl:=sy h8
  exact bE (rs':=[.tmp 4]) r<|bG (v:=aO) r<|bD<|aN [224] r r r lr aC
noncomputable def hY (p0n:Int) (mF:Int) (iO:Int):Option Bool :=
 some (cond (decide (mF≤p0n)) (decide (p0n≤iO)) false)
theorem iT {p0n:Int}{mF:Int}{iO:Int}{res:Bool} (h:hY p0n mF iO=some res):bT Tryz.prog 148 [ci p0n,ci mF,ci iO] [] (.c (.bool res)) []:=by
 unfold hY at h
 refine cJ (fn:=Tryz.f148) [0,1,2,6] (by kernel_rfl) Tryz.func148 r (by kernel_rfl) (by kernel_rfl)<|aH<|sB r<|aF (fr':=[(0,aI),(1,aI),(2,aI)]) r r<|aH<|mI r<|mI r<|aK r (lC r r)<|mB r<|og r r r (fun hc=>(bC (v:=aI) r))<|og r r r (fun hc=>(bC (v:=aI) r)) ?_
 refine og r r r (fun hc=>(lI (gx r hc) (gx r hc)))<|aK r (bM r r r (fun e=>eI e))<|sB r<|aF (fr':=[(6,aB)]) r r<|bF ?_
 obtain rfl:=sy h
 exact bE (rs':=[.tmp 6]) r<|bG (v:=aB) r<|bD<|aN [] r r r lr aC
noncomputable def uV (p0c:Int):Option Bool :=
 some (cond (cond (cond (decide ((97:Int)≤p0c)) (decide (p0c≤(122:Int))) false) true (cond (decide ((65:Int)≤p0c)) (decide (p0c≤(90:Int))) false)) true (decide (p0c=(95:Int))))
theorem aGz {p0c:Int}{res:Bool} (h:uV p0c=some res):bT Tryz.prog 199 [.c (.int .u8 p0c)] [] (.c (.bool res)) []:=by
 unfold uV at h
 refine cJ (fn:=Tryz.f199) [0,2] (by kernel_rfl) Tryz.func199 r (by kernel_rfl) (by kernel_rfl)<|aH<|sB r<|aF (fr':=[(0,aI)]) r r<|aH<|mI r<|aK r (lC r r)<|mB r<|og r r r (fun hc=>(bC (v:=aI) r))<|og r r r (fun hc=>(lI (gx r hc) r))<|aK r (bM r r r (fun e=>eI e)) ?_
 refine mB r<|og r r r (fun hc=>(bC (v:=aI) r))<|og r r r (fun hc=>(lC (gx r hc) r))<|og r r r (fun hc=>(bC (v:=aB) (gx r hc)))<|eJ r r (fun hc=>eU r (bC (v:=aI) r))<|eJ r r (fun hc=>eU r (lI (gx r hc) r))<|og r r r (fun hc=>(bM (gx r hc) r r (fun e=>oO hc (eI e))))<|aK r (bX r r r (fun e=>eI e))<|mB r<|og r r r (fun hc=>(bC (v:=aI) r))<|og r r r (fun hc=>(bO (gx r hc) r))<|aK r (bX r r r (fun e=>eI e))<|sB r ?_
 refine aF (fr':=[(2,aB)]) r r<|bF ?_
 obtain rfl:=sy h
 exact bE (rs':=[.tmp 2]) r<|bG (v:=aB) r<|bD<|aN [] r r r lr aC
noncomputable def uE (p0s:(List UInt8)) (s6:Int):Option (cM Int (Fl Bool Unit)) :=
 cond (decide (s6<((p0s).length:Int))) ((jT p0s s6).bind fun x8=>(uV ((x8).toNat:Int)).bind fun x10=>(gd (((!x10)==true)&&((decide (s6=(0:Int)))==false)) (jT p0s s6)).bind fun x12=>(gd (((!x10)==true)&&((cond (decide (s6=(0:Int))) true (decide (((x12).toNat:Int)<(48:Int))))==false)) (jT p0s s6)).bind fun x14=>cond (cond (!x10) (cond (cond (decide (s6=(0:Int))) true (decide (((x12).toNat:Int)<(48:Int)))) true (decide ((57:Int)<((x14).toNat:Int)))) false) (some (cM.out (Fl.done false))) (some (cM.next (IntKind.wrap .i64 (s6+(1:Int)))))) (some (cM.out (Fl.go ())))
noncomputable def pK (p0s:(List UInt8)):Option Bool :=
 cond (cond (decide (p0s=([]:List UInt8))) true (decide ((64:Int)<((p0s).length:Int)))) (some false) (((eQ (uE p0s) ((0:Int))):Option (Fl Bool Unit)).bind fun x3=>Fl.next x3 (fun j5=>(some true)))
theorem wC {p0s:(List UInt8)}{res:Bool} (h:pK p0s=some res):bT Tryz.prog 167 [.c (.str p0s)] [] (.c (.bool res)) []:=by
 unfold pK at h
 refine cJ (fn:=Tryz.f167) [0,2,3,10,12,13,14,36] (by kernel_rfl) Tryz.func167 r (by kernel_rfl) (by kernel_rfl)<|aH<|sB r<|aF (fr':=[(0,aS)]) r r<|aR<|aH<|mS r<|aK r (kX r r)<|mB r<|og r r r (fun hc=>(bC (v:=aS) r))<|og r r r (fun hc=>(gS nJ (gx r hc))) ?_
 refine og r r r (fun hc=>(mG (gx r hc) r))<|aK r (bX r r r (fun e=>eI e))<|aF (fr':=[(0,aS),(10,aB)]) r r<|bS h r (fun hb1 h1=>?_) (fun hb1 h1=>?_)
 ·
  refine aH<|sB r<|aF (fr':=[(2,aB)]) r r<|bF<|aM ?_
  obtain rfl:=sy h1
  exact bE (rs':=[.tmp 2]) r<|bG (v:=aB) r<|bD<|aN [] r r r lr aC
 ·
  refine aW<|bZ<|aR<|aH<|mS r<|aK r (gS nJ r)<|mI r<|aF (fr':=[(0,aS),(12,aI),(13,aI)]) r r ?_
  obtain ⟨x3,hx3,h4⟩:=aE h1
  refine eR gX (fun j5=>x3=Fl.go j5) (fun (j5:Unit)=>([]:Fr)) (fun (j5:Unit)=>([]:St)) ?_ ?_
  ·
   refine bL<|eK _ (fun (s6:Int)=>([(0,.c (.str p0s)),(12,ci ((p0s).length:Int)),(13,ci s6)]:Fr)) (fun (s6:Int)=>([]:St)) hx3 (aU [] 0 r r r r ⟨lr,lr,lr,trivial⟩ aC) ?_
   intro s6 st6 hs6 ho6
   unfold uE at hs6
   refine aH<|aK r (eA r r)<|aF (fr':=[(0,aS),(12,aI),(13,aI),(14,aB)]) r r<|aR<|bS hs6 r (fun hb7 h7=>?_) (fun hb7 h7=>?_)
   ·
    refine aW<|bZ<|aR<|bL<|aH<|mI r<|sI r<|aF (fr':=[(0,aS),(3,aI),(12,aI),(13,aI)]) r r<|aH<|mS r<|mI r ?_
    obtain ⟨x8,hx8,h9⟩:=aE h7
    refine aK r (xI nJ r r hx8) ?_
    obtain ⟨x10,hx10,h11⟩:=aE h9
    refine gW (aY (v:=aB) r (aGz hx10) ⟨lr,trivial⟩ r r r)<|aK r (eD r)<|mB r<|og r r r (fun hc=>(bC (v:=aI) r))<|og r r r (fun hc=>(bO (gx r hc) r))<|og r r r (fun hc=>(bC (v:=aB) (gx r hc)))<|eJ r r (fun hc=>eU r (bC (v:=aS) r))<|eJ r r (fun hc=>eU r (bC (v:=aI) r)) ?_
    obtain ⟨x12,hx12,h13⟩:=aE h11
    refine eJ r r (fun hc=>eU r (xI nJ (gx r hc) (gx r hc) (cG hx12 hc)))<|eJ r r (fun hc=>eU r (eA (gx r hc) r))<|og r r r (fun hc=>(bX (gx r hc) r r (fun e=>oO hc (eI e))))<|og r r r (fun hc=>(bC (v:=aB) (gx r hc)))<|eJ r r (fun hc=>eU r (bC (v:=aS) r))<|eJ r r (fun hc=>eU r (bC (v:=aI) r)) ?_
    obtain ⟨x14,hx14,h15⟩:=aE h13
    refine eJ r r (fun hc=>eU r (xI nJ (gx r hc) (gx r hc) (cG hx14 hc)))<|eJ r r (fun hc=>eU r (mG (gx r hc) r))<|og r r r (fun hc=>(bX (gx r hc) r r (fun e=>oO hc (eI e))))<|aK r (bM r r r (fun e=>eI e))<|aF (fr':=[(0,aS),(12,aI),(13,aI),(36,aB)]) r r<|bS h15 r (fun hb16 h16=>?_) (fun hb16 h16=>?_)
    ·
     refine aH<|sB r<|aF (fr':=[(2,aB)]) r r<|bF<|bH<|aM<|aM<|bH<|aM<|aM ?_
     have h17:=dB h16 ho6
     have h18:=eH h17 h4
     obtain rfl:=sy h18
     exact bE (rs':=[.tmp 2]) r<|bG (v:=aB) r<|bD<|aN [] r r r lr aC
    ·
     exact aW<|bW<|bZ<|aT<|aK r (dZ r r)<|mI r<|cD (fr':=[(0,aS),(12,aI),(13,aI),(36,aB)]) r<|tU _ (sy h16) (aU [] 0 r r r r ⟨lr,lr,lr,trivial⟩ aC)
   ·
    refine eZ<|bY<|bY<|dX ?_
    have h20:=dB h7 ho6
    exact fS _ (sy h20) (aU [] 0 r r r r trivial aC)
  ·
   intro j5 hj21
   have h21:=iS hj21 h4
   refine bZ<|aH<|sB r<|aF (fr':=[(2,aB)]) r r<|bF ?_
   obtain rfl:=sy h21
   exact bE (rs':=[.tmp 2]) r<|bG (v:=aB) r<|bD<|aN [] r r r lr aC
noncomputable def lQ (p0s:(List UInt8)):Option Bool :=
 some (decide ((4096:Int)<((p0s).length:Int)))
theorem yO {p0s:(List UInt8)}{res:Bool} (h:lQ p0s=some res):bT Tryz.prog 179 [.c (.str p0s)] [] (.c (.bool res)) []:=by
 unfold lQ at h
 refine cJ (fn:=Tryz.f179) [0,2] (by kernel_rfl) Tryz.func179 r (by kernel_rfl) (by kernel_rfl)<|aH<|sB r<|aF (fr':=[(0,aS)]) r r<|aH<|mS r<|aK r (gS nJ r)<|aK r (mG r r)<|sB r<|aF (fr':=[(2,aB)]) r r<|bF ?_
 obtain rfl:=sy h
 exact bE (rs':=[.tmp 2]) r<|bG (v:=aB) r<|bD<|aN [] r r r lr aC
end Go.Proofs.YtnigjppddilpcaaGreatDoor
