import Derived.Test.YtnigjppddilpcaaGreatDoorGETy
namespace Go.Proofs.YtnigjppddilpcaaGreatDoor
open Go Abs
set_option maxRecDepth 100000
set_option linter.unusedVariables false
set_option linter.unusedSimpArgs false
noncomputable def fV (p0s:(List UInt8)):Option (List UInt8) :=
 app 1 ([]:List UInt8) p0s
theorem kC {p0s:(List UInt8)}{res:(List UInt8)} (h:fV p0s=some res):cC Tryz.prog 70 [.c (PV.ls 1 gA p0s)] [] (AV.os 0 1 gA res) []:=by
 unfold fV at h
 refine cY (fn:=Tryz.f70) [0,2,4] (by kernel_rfl) Tryz.func70 r (by kernel_rfl) (by kernel_rfl) ?_
 obtain ⟨hm,he⟩:=vU h
 rw [List.nil_append] at he
 subst he
 refine aK<|aT r (aCK (v:=.nil) r)<|dT (fr':=[(0,.c (PV.ls _ _ _)),(2,.nil)]) r<|cM<|aU<|aK<|aT r (bA (v:=.c (PV.ls _ _ _)) r)<|aPG (row:=gA) aGH (eO r) (fun b hb=>?_)
 refine dT (fr':=[(0,.c (PV.ls _ _ _)),(2,.nil),(4,.c (.bool _))]) r<|cM<|aH6 b r (fun e=>?_) (fun e=>?_)
 ·
  rw [hb e]
  exact aK<|aT r (aCK (v:=.nil) r)<|dT (fr':=[(0,.c (PV.ls _ _ _)),(2,.nil),(4,.c (.bool _))]) r<|cM<|bI<|aN<|bH (rs':=[.tmp 2]) r<|bP (v:=.nil) r<|bG<|aQ [] r r r (aB4 r) aF
 ·
  refine bJ<|cM<|aK<|xX (row:=gA) (xs:=([]:List UInt8)) (rows:=[]) (σ':=[]) [] aGc r r r pX r r<|aT r (bA (v:=.c (PV.ls _ _ _)) r)<|aFB (row:=gA) aGc r aGH r (eO r) (fun _=>r) h<|aT r (aCK (v:=AV.os _ _ _ _) r)<|dT (fr':=[(0,.c (PV.ls _ _ _)),(2,AV.os _ _ _ _),(4,.c (.bool _))]) r<|cM<|bI<|bH (rs':=[.tmp 2]) r<|bP (v:=AV.os _ _ _ _) r ?_
  exact bG<|aQ [112] r r r lr aF
noncomputable def sH  (s6:((List UInt8) × Int)):Option (bS ((List UInt8) × Int) ((List UInt8) × Int)) :=
 cond (decide ((128:Int)≤s6.2)) ((uF (gM .or .u8 (IntKind.wrap .u8 s6.2) (128:Int))).bind fun x8=>(app 1 s6.1 ([x8]:List UInt8)).bind fun x10=>some (bS.next (x10,(Int.fdiv s6.2 (2 ^ (min (Int.toNat (7:Int)) (IntKind.bits .u64))))))) (some (bS.out (s6.1,s6.2)))
noncomputable def eR (p0b:(List UInt8)) (p1n:Int):Option (List UInt8) :=
 (fV p0b).bind fun x1=>((dL (sH) ((x1,(gM .xor .u64 (IntKind.wrap .u64 ((IntKind.wrap .u64 p1n)*2 ^ (min (Int.toNat (1:Int)) (IntKind.bits .u64)))) (IntKind.wrap .u64 (Int.fdiv p1n (2 ^ (min (Int.toNat (63:Int)) (IntKind.bits .i64))))))))):Option ((List UInt8) × Int)).bind fun x3=>((uF (IntKind.wrap .u8 x3.2)).bind fun x14=>(app 1 x3.1 ([x14]:List UInt8)).bind fun x16=>some x16)
theorem eS {p0b:(List UInt8)}{p1n:Int}{res:(List UInt8)} (h:eR p0b p1n=some res):cC Tryz.prog 53 [.c (PV.ls 1 gA p0b),ci p1n] [] (AV.os 0 1 gA res) []:=by
 unfold eR at h
 refine cY (fn:=Tryz.f53) [0,1,4,5,6,17] (by kernel_rfl) Tryz.func53 r (by kernel_rfl) (by kernel_rfl)<|aK<|sV (v:=AV.nil) r<|aH (fr':=[(0,aL),(1,aI)]) r r<|aK<|mL r ?_
 obtain ⟨x1,hx1,h2⟩:=aG h
 refine lM (bC (v:=aO) r (kC hx1) ⟨lr,trivial⟩ r r r)<|sV (v:=aO) r<|aH (fr':=[(1,aI),(5,aO)]) r r<|aK<|mI r<|aT r (aB7 tk3 aGa r)<|aT r (aPa r r (by decide))<|mI r<|aT r (aNu r r (by decide))<|aT r (aB7 tk3 aGa r)<|aT r (aPc r r)<|sI r ?_
 refine aH (fr':=[(5,aO),(6,aI)]) r r ?_
 obtain ⟨x3,hx3,h4⟩:=aG h2
 refine nB (fun j5=>x3=j5) (fun (j5:((List UInt8) × Int))=>([(5,AV.os 0 1 gA j5.1),(6,.c (.int .u64 j5.2))]:Fr)) (fun (j5:((List UInt8) × Int))=>([]:St)) ?_ ?_
 ·
  refine bZ<|gU _ (fun (s6:((List UInt8) × Int))=>([(5,AV.os 0 1 gA s6.1),(6,.c (.int .u64 s6.2))]:Fr)) (fun (s6:((List UInt8) × Int))=>([]:St)) hx3 (bT [128] 0 r r r r ⟨lr,lr,trivial⟩ aF) ?_
  intro s6 st6 hs6 ho6
  unfold sH at hs6
  refine aU<|aK<|mI r<|aT r (rP r r)<|aH (fr':=[(5,aO),(6,aI),(17,aB)]) r r<|cV hs6 r (fun hb7 h7=>?_) (fun hb7 h7=>?_)
  ·
   refine bJ<|cM<|bZ<|aK<|mV (v:=aO) r<|mI r<|aT r (aB7 aGa tk5 r)<|aT r (aQr r r) ?_
   obtain ⟨x8,hx8,h9⟩:=aG h7
   refine xX (row:=gA) (xs:=([x8]:List UInt8)) (rows:=[[_]]) (σ':=[]) [0] aGc r r r (gX (aKY hx8) pX) r r ?_
   obtain ⟨x10,hx10,h11⟩:=aG h9
   exact aFB (row:=gA) aGc r aGH r (tW r) (fun _=>r) hx10<|sV (v:=aO) r<|aH (fr':=[(5,aO),(6,aI)]) r r<|aX<|mI r<|aT r (aNu r r (by decide))<|sI r<|dT (fr':=[(5,aO),(6,aI)]) r<|dH<|e_l _ (sy h11) (bT [368] 0 r r r r ⟨lr,lr,trivial⟩ aF)
  ·
   refine hH<|cX<|cX<|fU ?_
   have h12:=eY h7 ho6
   exact pG _ (sy h12) (bT [0] 0 r r r r ⟨lr,lr,trivial⟩ aF)
 ·
  intro j5 hj13
  subst hj13
  refine aK<|mV (v:=aO) r<|mI r<|aT r (aB7 aGa tk5 r) ?_
  obtain ⟨x14,hx14,h15⟩:=aG h4
  refine xX (row:=gA) (xs:=([x14]:List UInt8)) (rows:=[[_]]) (σ':=[]) [0] aGc r r r (gX (aKY hx14) pX) r r ?_
  obtain ⟨x16,hx16,h17⟩:=aG h15
  refine aFB (row:=gA) aGc r aGH r (tW r) (fun _=>r) hx16<|sV (v:=aO) r<|aH (fr':=[(4,aO)]) r r<|bI ?_
  obtain rfl:=sy h17
  exact bH (rs':=[.tmp 4]) r<|bP (v:=aO) r<|bG<|aQ [480] r r r lr aF
noncomputable def hU (p0b:(List UInt8)) (p1s:(List UInt8)):Option (List UInt8) :=
 (eR p0b ((p1s).length:Int)).bind fun x1=>(app 1 x1 p1s).bind fun x3=>some x3
theorem kI {p0b:(List UInt8)}{p1s:(List UInt8)}{res:(List UInt8)} (h:hU p0b p1s=some res):cC Tryz.prog 54 [.c (PV.ls 1 gA p0b),.c (.str p1s)] [] (AV.os 0 1 gA res) []:=by
 unfold hU at h
 refine cY (fn:=Tryz.f54) [0,1,4] (by kernel_rfl) Tryz.func54 r (by kernel_rfl) (by kernel_rfl)<|aK<|sV (v:=AV.nil) r<|aH (fr':=[(0,aL),(1,aS)]) r r<|aK<|mL r<|mS r<|aT r (nI wT r) ?_
 obtain ⟨x1,hx1,h2⟩:=aG h
 refine lM (bC (v:=aO) r (eS hx1) ⟨lr,lr,trivial⟩ r r r)<|mS r ?_
 obtain ⟨x3,hx3,h4⟩:=aG h2
 refine aPF aGc r wT r r hx3<|sV (v:=aO) r<|aH (fr':=[(4,aO)]) r r<|bI ?_
 obtain rfl:=sy h4
 exact bH (rs':=[.tmp 4]) r<|bP (v:=aO) r<|bG<|aQ [160] r r r lr aF
noncomputable def nO (p0l:(List (List UInt8))) (s4:Int):Option (bS Int (Fl Bool Unit)) :=
 cond (decide (s4<((p0l).length:Int))) ((jV p0l (IntKind.wrap .i64 (s4 - (1:Int)))).bind fun x6=>(jV p0l s4).bind fun x8=>cond (!Op.bytesLess x6 x8) (some (bS.out (Fl.done false))) (some (bS.next (IntKind.wrap .i64 (s4+(1:Int)))))) (some (bS.out (Fl.go ())))
noncomputable def nT (p0l:(List (List UInt8))):Option Bool :=
 ((dL (nO p0l) ((1:Int))):Option (Fl Bool Unit)).bind fun x1=>Fl.next x1 (fun j3=>(some true))
theorem aC9 {p0l:(List (List UInt8))}{res:Bool} (h:nT p0l=some res):cC Tryz.prog 175 [.c (PV.ls 1 gL p0l)] [] (.c (.bool res)) []:=by
 unfold nT at h
 refine cY (fn:=Tryz.f175) [0,2,3,7,19] (by kernel_rfl) Tryz.func175 r (by kernel_rfl) (by kernel_rfl)<|aK<|sB r<|aH (fr':=[(0,aL)]) r r<|aU<|aK<|sI r<|aH (fr':=[(0,aL),(3,aI)]) r r ?_
 obtain ⟨x1,hx1,h2⟩:=aG h
 refine gZ mO (fun j3=>x1=Fl.go j3) (fun (j3:Unit)=>([]:Fr)) (fun (j3:Unit)=>([]:St)) ?_ ?_
 ·
  refine bZ<|gU _ (fun (s4:Int)=>([(0,.c (PV.ls 1 gL p0l)),(3,ci s4)]:Fr)) (fun (s4:Int)=>([]:St)) hx1 (bT [] 0 r r r r ⟨lr,lr,trivial⟩ aF) ?_
  intro s4 st4 hs4 ho4
  unfold nO at hs4
  refine aU<|aK<|mI r<|mL r<|aT r (gN yQ (eO r))<|aT r (fM r r)<|aH (fr':=[(0,aL),(3,aI),(7,aB)]) r r<|cV hs4 r (fun hb5 h5=>?_) (fun hb5 h5=>?_)
  ·
   refine bJ<|cM<|aU<|bZ<|aU<|jD [.q 0,.q 1,.q 2,.q 3,.q 4,.q 5,.q 6,.q 7,.q 8,.q 9] [(some 10,[0]),(some 11,[3]),(some 12,[11]),(some 13,[10,12]),(some 14,[13]),(some 15,[0]),(some 16,[3]),(some 17,[15,16]),(some 18,[17]),(some 19,[14,18])] [0,0,2,7,15,0,0,96,224,511] (by kernel_rfl)<|dq r r (bA (v:=aL) r)<|dq r r (bA (v:=aI) r)<|dq r r (aNv r r) ?_
   obtain ⟨x6,hx6,h7⟩:=aG h5
   refine dq r r (oV (cs:=[PV.str _]) aAe (eO r) r hx6 r)<|dq r r (jW (p:=PV.str _) nE r r)<|dq r r (bA (v:=aL) r)<|dq r r (bA (v:=aI) r) ?_
   obtain ⟨x8,hx8,h9⟩:=aG h7
   refine dq r r (oV (cs:=[PV.str _]) aAe (eO r) r hx8 r)<|dq r r (jW (p:=PV.str _) nE r r)<|dq r r (aPK r r)<|xA (fr':=[(0,aL),(3,aI),(19,aB)]) r r<|cV h9 r (fun hb10 h10=>?_) (fun hb10 h10=>?_)
   ·
    refine aK<|sB r<|aH (fr':=[(2,aB)]) r r<|bI<|bN<|aN<|aN<|bN<|aN<|aN ?_
    have h11:=eY h10 ho4
    have h12:=fI h11 h2
    obtain rfl:=sy h12
    exact bH (rs':=[.tmp 2]) r<|bP (v:=aB) r<|bG<|aQ [] r r r lr aF
   ·
    exact bJ<|dH<|cM<|aX<|mI r<|aT r (fL r r)<|sI r<|dT (fr':=[(0,aL),(3,aI),(19,aB)]) r<|e_l _ (sy h10) (bT [] 0 r r r r ⟨lr,lr,trivial⟩ aF)
  ·
   refine hH<|cX<|cX<|fU ?_
   have h14:=eY h5 ho4
   exact pG _ (sy h14) (bT [] 0 r r r r trivial aF)
 ·
  intro j3 hj15
  have h15:=nG hj15 h2
  refine cM<|aK<|sB r<|aH (fr':=[(2,aB)]) r r<|bI ?_
  obtain rfl:=sy h15
  exact bH (rs':=[.tmp 2]) r<|bP (v:=aB) r<|bG<|aQ [] r r r lr aF
noncomputable def dR (aCb:aC→Bool→Option Bool) (p0s:(List aC)) (gD:Bool) (s4:Int):Option (bS Int (Fl Int Unit)) :=
 cond (decide (s4<((p0s).length:Int))) ((jV p0s s4).bind fun x6=>(aCb x6 gD).bind fun x8=>cond x8 (some (bS.out (Fl.done s4))) (some (bS.next (IntKind.wrap .i64 (s4+(1:Int)))))) (some (bS.out (Fl.go ())))
mutual
noncomputable def cR:Nat→(List aC)→Bool→Option Bool
 | 0,_,_=>none
 | n+1,p0s,gD =>
  ((dY n) p0s gD).bind fun x1=>some (decide ((0:Int)≤x1))
noncomputable def dY:Nat→(List aC)→Bool→Option Int
 | 0,_,_=>none
 | n+1,p0s,gD =>
  ((dL (dR (lR n) p0s gD) ((0:Int))):Option (Fl Int Unit)).bind fun x1=>Fl.next x1 (fun j3=>(some (-1:Int)))
noncomputable def mM:Nat→aC→Bool→Option Bool
 | 0,_,_=>none
 | n+1,p0C,p1o =>
  ((cond (decide (p0C.Kind=(0:Int))) (some (Fl.done (cond (cond (cond (!(!decide (p0C.Int=(0:Int)))) (!(!decide (p0C.Text=([]:List UInt8)))) false) (!(decide ((0:Int)<((p0C.Items).length:Int)))) false) (!(decide ((0:Int)<((p0C.Keys).length:Int)))) false))) (cond (decide (p0C.Kind=(1:Int))) (some (Fl.done (cond (cond (cond (cond (decide (p0C.Int=(0:Int))) true (decide (p0C.Int=(1:Int)))) (!(!decide (p0C.Text=([]:List UInt8)))) false) (!(decide ((0:Int)<((p0C.Items).length:Int)))) false) (!(decide ((0:Int)<((p0C.Keys).length:Int)))) false))) (cond (decide (p0C.Kind=(2:Int))) (some (Fl.done (cond (cond (!(!decide (p0C.Text=([]:List UInt8)))) (!(decide ((0:Int)<((p0C.Items).length:Int)))) false) (!(decide ((0:Int)<((p0C.Keys).length:Int)))) false))) (cond (decide (p0C.Kind=(6:Int))) (some (Fl.done (cond (cond (cond (cond p1o (decide ((0:Int)≤p0C.Int)) false) (!(!decide (p0C.Text=([]:List UInt8)))) false) (!(decide ((0:Int)<((p0C.Items).length:Int)))) false) (!(decide ((0:Int)<((p0C.Keys).length:Int)))) false))) (cond (decide (p0C.Kind=(3:Int))) (some (Fl.done (cond (cond (!(!decide (p0C.Int=(0:Int)))) (!(decide ((0:Int)<((p0C.Items).length:Int)))) false) (!(decide ((0:Int)<((p0C.Keys).length:Int)))) false))) (cond (decide (p0C.Kind=(4:Int))) (cond (cond (cond (!decide (p0C.Int=(0:Int))) true (!decide (p0C.Text=([]:List UInt8)))) true (decide ((0:Int)<((p0C.Keys).length:Int)))) (some (Fl.done false)) (some (Fl.go ()))) (cond (decide (p0C.Kind=(5:Int))) ((gd ((cond (cond (!decide (p0C.Int=(0:Int))) true (!decide (p0C.Text=([]:List UInt8)))) true (!decide (((p0C.Keys).length:Int)=((p0C.Items).length:Int))))==false) (nT p0C.Keys)).bind fun x24=>cond (cond (cond (cond (!decide (p0C.Int=(0:Int))) true (!decide (p0C.Text=([]:List UInt8)))) true (!decide (((p0C.Keys).length:Int)=((p0C.Items).length:Int)))) true (!x24)) (some (Fl.done false)) (some (Fl.go ()))) (some (Fl.done false))))))))):Option (Fl Bool Unit)).bind fun x1=>Fl.next x1 (fun j3=>(((cR n) p0C.Items p1o).bind fun x32=>some (!x32)))
noncomputable def lR:Nat→aC→Bool→Option Bool
 | 0,_,_=>none
 | n+1,p0x,gD =>
  ((mM n) p0x gD).bind fun x1=>some (!x1)
end
theorem kB:∀ n:Nat,(∀ {p0s:(List aC)}{gD:Bool}{res:Bool},cR n p0s gD=some res→cC Tryz.prog 176 [.c (PV.ls 5 bM p0s),.fn 177 [.box 0 0]] [[.c (.bool gD)]] (.c (.bool res)) [[.c (.bool gD)]])∧(∀ {p0s:(List aC)}{gD:Bool}{res:Int},dY n p0s gD=some res→cC Tryz.prog 205 [.c (PV.ls 5 bM p0s),.fn 177 [.box 0 0]] [[.c (.bool gD)]] (ci res) [[.c (.bool gD)]])∧(∀ {p0C:aC}{p1o:Bool}{res:Bool},mM n p0C p1o=some res→cC Tryz.prog 128 [.agg (AV.cs (eF p0C)),.c (.bool p1o)] [] (.c (.bool res)) [])∧(∀ {p0x:aC}{gD:Bool}{res:Bool},lR n p0x gD=some res→cC Tryz.prog 177 [.agg (AV.cs (eF p0x)),.box 0 0] [[.c (.bool gD)]] (.c (.bool res)) [[.c (.bool gD)]]):=by
 intro n
 induction n with
 | zero=>exact ⟨fun {p0s gD res} h=>absurd h (by simp [cR]),fun {p0s gD res} h=>absurd h (by simp [dY]),fun {p0C p1o res} h=>absurd h (by simp [mM]),fun {p0x gD res} h=>absurd h (by simp [lR])⟩
 | succ n ih =>
  obtain ⟨ih_slices_ContainsFunc_api_Value_api_Value_value_formed_1,ih_slices_IndexFunc_api_Value_api_Value_value_formed_1,ih_value_formed,ih_value_formed_1⟩:=ih
  refine ⟨?_,?_,?_,?_⟩
  ·
   intro p0s gD res h
   rw [cR] at h
   refine cY (fn:=Tryz.f176) [0,1,4] (by kernel_rfl) Tryz.func176 r (by kernel_rfl) (by kernel_rfl)<|aK<|sB r<|aH (fr':=[(0,aL),(1,.fn _ [.box 0 0])]) r r<|aK<|mL r<|mV (v:=.fn _ [.box 0 0]) r ?_
   obtain ⟨x1,hx1,h2⟩:=aG h
   refine dM (v:=aI) (σ':=[[aB]]) [0] r (ih_slices_IndexFunc_api_Value_api_Value_value_formed_1 hx1) r r ⟨lr,(aNk r ⟨lr,trivial⟩),trivial⟩ (wR ⟨lr,trivial⟩ aF) r r r<|aT r (rP r r)<|sB r<|aH (fr':=[(4,aB)]) r r<|bI ?_
   obtain rfl:=sy h2
   exact bH (rs':=[.tmp 4]) r<|bP (v:=aB) r<|bG<|aQ [] r r r lr (cZ r aF)
  ·
   intro p0s gD res h
   rw [dY] at h
   refine cY (fn:=Tryz.f205) [0,1,4,5,7,8,9,16] (by kernel_rfl) Tryz.func205 r (by kernel_rfl) (by kernel_rfl)<|aK<|sI r<|aH (fr':=[(0,aL),(1,.fn _ [.box 0 0])]) r r<|aU<|aK<|mL r<|aT r (gN aAE (eO r))<|mI r<|aH (fr':=[(0,aL),(1,.fn _ [.box 0 0]),(7,aI),(8,aI)]) r r ?_
   obtain ⟨x1,hx1,h2⟩:=aG h
   refine gZ mO (fun j3=>x1=Fl.go j3) (fun (j3:Unit)=>([]:Fr)) (fun (j3:Unit)=>([[.c (.bool gD)]]:St)) ?_ ?_
   ·
    refine bZ<|gU _ (fun (s4:Int)=>([(0,.c (PV.ls 5 bM p0s)),(1,.fn 177 [.box 0 0]),(7,ci ((p0s).length:Int)),(8,ci s4)]:Fr)) (fun (s4:Int)=>([[.c (.bool gD)]]:St)) hx1 (bT [] 1 r r r r ⟨lr,lr,lr,lr,trivial⟩ (cZ r aF)) ?_
    intro s4 st4 hs4 ho4
    unfold dR at hs4
    refine aK<|aT r (fM r r)<|aH (fr':=[(0,aL),(1,.fn _ [.box 0 0]),(7,aI),(8,aI),(9,aB)]) r r<|aU<|cV hs4 r (fun hb5 h5=>?_) (fun hb5 h5=>?_)
    ·
     refine bJ<|cM<|aU<|bZ<|aK<|mI r<|sI r<|aH (fr':=[(0,aL),(1,.fn _ [.box 0 0]),(5,aI),(7,aI),(8,aI)]) r r<|aK<|mV (v:=.fn _ [.box 0 0]) r<|mL r ?_
     refine mI r ?_
     obtain ⟨x6,hx6,h7⟩:=aG h5
     refine aT r (oV (cs:=[PV.int _ _,PV.int _ _,PV.str _,PV.ls _ _ _,PV.ls _ _ _]) aBE (eO r) r hx6 (eT _))<|aT r (lW (us:=[PV.int _ _,PV.int _ _,PV.str _,PV.ls _ _ _,PV.ls _ _ _]) gV r r r) ?_
     obtain ⟨x8,hx8,h9⟩:=aG h7
     refine dM (v:=aB) (σ':=[[aB]]) [0] r (ih_value_formed_1 hx8) r r ⟨(bO r ⟨r,r,r,r,r,trivial⟩),lr,trivial⟩ (wR ⟨lr,trivial⟩ aF) r r r<|aH (fr':=[(0,aL),(1,.fn _ [.box 0 0]),(5,aI),(7,aI),(8,aI),(16,aB)]) r r<|cV h9 r (fun hb10 h10=>?_) (fun hb10 h10=>?_)
     ·
      refine aK<|mI r<|sI r<|aH (fr':=[(4,aI)]) r r<|bI<|bN<|aN<|aN<|bN<|aN<|aN ?_
      have h11:=eY h10 ho4
      have h12:=fI h11 h2
      obtain rfl:=sy h12
      exact bH (rs':=[.tmp 4]) r<|bP (v:=aI) r<|bG<|aQ [] r r r lr (cZ r aF)
     ·
      exact bJ<|dH<|cM<|aX<|aT r (fL r r)<|mI r<|dT (fr':=[(0,aL),(1,.fn _ [.box 0 0]),(5,aI),(7,aI),(8,aI),(16,aB)]) r<|e_l _ (sy h10) (bT [] 1 r r r r ⟨lr,lr,lr,lr,trivial⟩ (cZ r aF))
    ·
     refine hH<|cX<|cX<|fU ?_
     have h14:=eY h5 ho4
     exact pG _ (sy h14) (bT [] 1 r r r r trivial (cZ r aF))
   ·
    intro j3 hj15
    have h15:=nG hj15 h2
    refine cM<|aK<|sI r<|aH (fr':=[(4,aI)]) r r<|bI ?_
    obtain rfl:=sy h15
    exact bH (rs':=[.tmp 4]) r<|bP (v:=aI) r<|bG<|aQ [] r r r lr (cZ r aF)
  ·
   intro p0C p1o res h
   rw [mM] at h
   refine cY (fn:=Tryz.f128) [0,1,2,3,4,5,6,7,8,24,25,41,63,75,95,107,115,116,136] (by kernel_rfl) Tryz.func128 r (by kernel_rfl) (by kernel_rfl)<|aK<|iH (v:=.agg bQ) (n:=0) (cs:=bQ) (σ':=[bQ]) r r r r r<|iH (v:=aB) (n:=1) (cs:=[aB]) (σ':=[bQ,[aB]]) r r r r r<|sB r<|aH (fr':=[(2,.box 0 0),(3,.box 1 0)]) r r<|aK<|aT r (bD tD r)<|aT r (aJ (v:=aI) fY r r r)<|aT r (gQ r r)<|sB r ?_
   refine aH (fr':=[(2,.box 0 0),(3,.box 1 0),(5,aB)]) r r<|aK<|aT r (bD yB r)<|aT r (aJ (v:=aS) nE r r r)<|aT r (rQ r r)<|sB r<|aH (fr':=[(2,.box 0 0),(3,.box 1 0),(5,aB),(6,aB)]) r r<|aK<|aT r (bD kY r)<|aT r (aJ (v:=aL) vM r r r)<|aT r (gN aAE (eO r)) ?_
   refine aT r (sJ r r)<|sB r<|aH (fr':=[(2,.box 0 0),(3,.box 1 0),(5,aB),(6,aB),(7,aB)]) r r<|aK<|aT r (bD qU r)<|aT r (aJ (v:=aL) rG r r r)<|aT r (gN yQ (eO r))<|aT r (sJ r r)<|sB r<|aH (fr':=[(2,.box 0 0),(3,.box 1 0),(5,aB),(6,aB),(7,aB),(8,aB)]) r r ?_
   obtain ⟨x1,hx1,h2⟩:=aG h
   refine nB (fun j3=>x1=Fl.go j3) (fun (j3:Unit)=>([(2,.box 0 0),(3,.box 1 0)]:Fr)) (fun (j3:Unit)=>([[ci p0C.Kind,ci p0C.Int,.c (.str p0C.Text),.c (PV.ls 5 bM p0C.Items),.c (PV.ls 1 gL p0C.Keys)],[.c (.bool p1o)]]:St)) ?_ ?_
   ·
    refine aK<|aT r (bD oC r)<|aT r (aJ (v:=aI) fY r r r)<|aH (fr':=[(2,.box 0 0),(3,.box 1 0),(5,aB),(6,aB),(7,aB),(8,aB),(24,aI)]) r r<|bZ<|aK<|aT r (dG r r)<|sB r<|aH (fr':=[(2,.box 0 0),(3,.box 1 0),(5,aB),(6,aB),(7,aB),(8,aB),(24,aI),(25,aB)]) r r<|cV hx1 r (fun hb4 h4=>?_) (fun hb4 h4=>?_)
    ·
     refine aK<|mB r<|aT r (fH r)<|mB r<|og r r r (fun hc=>(bA (v:=aB) r))<|og r r r (fun hc=>(fH (gx r hc)))<|aT r (cE r r r (fun e=>fW e))<|mB r<|og r r r (fun hc=>(bA (v:=aB) r))<|og r r r (fun hc=>(fH (gx r hc)))<|aT r (cE r r r (fun e=>fW e))<|mB r ?_
     refine og r r r (fun hc=>(bA (v:=aB) r))<|og r r r (fun hc=>(fH (gx r hc)))<|aT r (cE r r r (fun e=>fW e))<|sB r<|aH (fr':=[(4,aB)]) r r<|bI<|bN<|aN ?_
     have h5:=fI h4 h2
     obtain rfl:=sy h5
     exact bH (rs':=[.tmp 4]) r<|bP (v:=aB) r<|bG<|aQ [] r r r lr aF
    ·
     refine aK<|aT r (dG r r)<|sB r<|aH (fr':=[(2,.box 0 0),(3,.box 1 0),(5,aB),(6,aB),(7,aB),(8,aB),(24,aI),(41,aB)]) r r<|cV h4 r (fun hb7 h7=>?_) (fun hb7 h7=>?_)
     ·
      refine aK<|aT r (bD tD r)<|aT r (aJ (v:=aI) fY r r r)<|aT r (dG r r)<|mB r<|og r r r (fun hc=>(bD tD r))<|og r r r (fun hc=>(aJ (v:=aI) fY (gx r hc) r r))<|og r r r (fun hc=>(dG (gx r hc) r))<|aT r (cB r r r (fun e=>fW e))<|mB r<|og r r r (fun hc=>(bA (v:=aB) r))<|og r r r (fun hc=>(fH (gx r hc))) ?_
      refine aT r (cE r r r (fun e=>fW e))<|mB r<|og r r r (fun hc=>(bA (v:=aB) r))<|og r r r (fun hc=>(fH (gx r hc)))<|aT r (cE r r r (fun e=>fW e))<|mB r<|og r r r (fun hc=>(bA (v:=aB) r))<|og r r r (fun hc=>(fH (gx r hc)))<|aT r (cE r r r (fun e=>fW e))<|sB r<|aH (fr':=[(4,aB)]) r r<|bI<|bN ?_
      refine aN ?_
      have h8:=fI h7 h2
      obtain rfl:=sy h8
      exact bH (rs':=[.tmp 4]) r<|bP (v:=aB) r<|bG<|aQ [] r r r lr aF
     ·
      refine aK<|aT r (dG r r)<|sB r<|aH (fr':=[(2,.box 0 0),(3,.box 1 0),(5,aB),(6,aB),(7,aB),(8,aB),(24,aI),(63,aB)]) r r<|cV h7 r (fun hb10 h10=>?_) (fun hb10 h10=>?_)
      ·
       refine aK<|mB r<|aT r (fH r)<|mB r<|og r r r (fun hc=>(bA (v:=aB) r))<|og r r r (fun hc=>(fH (gx r hc)))<|aT r (cE r r r (fun e=>fW e))<|mB r<|og r r r (fun hc=>(bA (v:=aB) r))<|og r r r (fun hc=>(fH (gx r hc)))<|aT r (cE r r r (fun e=>fW e))<|sB r ?_
       refine aH (fr':=[(4,aB)]) r r<|bI<|bN<|aN ?_
       have h11:=fI h10 h2
       obtain rfl:=sy h11
       exact bH (rs':=[.tmp 4]) r<|bP (v:=aB) r<|bG<|aQ [] r r r lr aF
      ·
       refine aK<|aT r (dG r r)<|sB r<|aH (fr':=[(2,.box 0 0),(3,.box 1 0),(5,aB),(6,aB),(7,aB),(8,aB),(24,aI),(75,aB)]) r r<|cV h10 r (fun hb13 h13=>?_) (fun hb13 h13=>?_)
       ·
        refine aK<|aT r (aJ (v:=aB) tv4 r r r)<|mB r<|og r r r (fun hc=>(bD tD r))<|og r r r (fun hc=>(aJ (v:=aI) fY (gx r hc) r r))<|og r r r (fun hc=>(rP (gx r hc) r))<|aT r (cE r r r (fun e=>fW e))<|mB r<|og r r r (fun hc=>(bA (v:=aB) r))<|og r r r (fun hc=>(fH (gx r hc)))<|aT r (cE r r r (fun e=>fW e))<|mB r ?_
        refine og r r r (fun hc=>(bA (v:=aB) r))<|og r r r (fun hc=>(fH (gx r hc)))<|aT r (cE r r r (fun e=>fW e))<|mB r<|og r r r (fun hc=>(bA (v:=aB) r))<|og r r r (fun hc=>(fH (gx r hc)))<|aT r (cE r r r (fun e=>fW e))<|sB r<|aH (fr':=[(4,aB)]) r r<|bI<|bN<|aN ?_
        have h14:=fI h13 h2
        obtain rfl:=sy h14
        exact bH (rs':=[.tmp 4]) r<|bP (v:=aB) r<|bG<|aQ [] r r r lr aF
       ·
        refine aK<|aT r (dG r r)<|sB r<|aH (fr':=[(2,.box 0 0),(3,.box 1 0),(5,aB),(6,aB),(7,aB),(8,aB),(24,aI),(95,aB)]) r r<|cV h13 r (fun hb16 h16=>?_) (fun hb16 h16=>?_)
        ·
         refine aK<|mB r<|aT r (fH r)<|mB r<|og r r r (fun hc=>(bA (v:=aB) r))<|og r r r (fun hc=>(fH (gx r hc)))<|aT r (cE r r r (fun e=>fW e))<|mB r<|og r r r (fun hc=>(bA (v:=aB) r))<|og r r r (fun hc=>(fH (gx r hc)))<|aT r (cE r r r (fun e=>fW e))<|sB r ?_
         refine aH (fr':=[(4,aB)]) r r<|bI<|bN<|aN ?_
         have h17:=fI h16 h2
         obtain rfl:=sy h17
         exact bH (rs':=[.tmp 4]) r<|bP (v:=aB) r<|bG<|aQ [] r r r lr aF
        ·
         refine aK<|aT r (dG r r)<|sB r<|aH (fr':=[(2,.box 0 0),(3,.box 1 0),(5,aB),(6,aB),(8,aB),(24,aI),(107,aB)]) r r<|cV h16 r (fun hb19 h19=>?_) (fun hb19 h19=>?_)
         ·
          refine aK<|mB r<|mB r<|og r r r (fun hc=>(bA (v:=aB) r))<|aT r (cB r r r (fun e=>fW e))<|mB r<|og r r r (fun hc=>(bA (v:=aB) r))<|aT r (cB r r r (fun e=>fW e))<|aH (fr':=[(2,.box 0 0),(3,.box 1 0),(115,aB)]) r r<|cV h19 r (fun hb20 h20=>?_) (fun hb20 h20=>?_)
          ·
           refine aK<|sB r<|aH (fr':=[(4,aB)]) r r<|bI<|bN<|aN ?_
           have h21:=fI h20 h2
           obtain rfl:=sy h21
           exact bH (rs':=[.tmp 4]) r<|bP (v:=aB) r<|bG<|aQ [] r r r lr aF
          ·
           exact bJ<|dH<|pG _ (sy h20) (bT [] 2 r r r r ⟨lr,lr,trivial⟩ (cZ r (cZ r aF)))
         ·
          refine aK<|aT r (dG r r)<|sB r<|aH (fr':=[(2,.box 0 0),(3,.box 1 0),(5,aB),(6,aB),(116,aB)]) r r<|cV h19 r (fun hb23 h23=>?_) (fun hb23 h23=>?_)
          ·
           refine aK<|mB r<|mB r<|og r r r (fun hc=>(bA (v:=aB) r))<|aT r (cB r r r (fun e=>fW e))<|mB r<|og r r r (fun hc=>(bD qU r))<|og r r r (fun hc=>(aJ (v:=aL) rG (gx r hc) r r))<|og r r r (fun hc=>(gN yQ (eO (gx r hc))))<|og r r r (fun hc=>(bD kY r))<|og r r r (fun hc=>(aJ (v:=aL) vM (gx r hc) r r))<|og r r r (fun hc=>(gN aAE (eO (gx r hc)))) ?_
           refine og r r r (fun hc=>(gQ (gx r hc) (gx r hc)))<|aT r (cB r r r (fun e=>fW e))<|mB r<|og r r r (fun hc=>(bD qU r))<|og r r r (fun hc=>(aJ (v:=aL) rG (gx r hc) r r)) ?_
           obtain ⟨x24,hx24,h25⟩:=aG h23
           refine yS r r (fun hc=>bC (v:=aB) r (aC9 (dW hx24 hc)) ⟨(fK (gx r hc) lr),trivial⟩ (gJ (by repeat (first | exact fF | refine aZ r ?_ | refine aZ (uH r) ?_ | refine aZ uG ?_))) r r) ?_
           refine og r r r (fun hc=>(fH (gx r hc)))<|aT r (cB r r r (fun e=>fW e))<|aH (fr':=[(2,.box 0 0),(3,.box 1 0),(136,aB)]) r r<|cV h25 r (fun hb26 h26=>?_) (fun hb26 h26=>?_)
           ·
            refine aK<|sB r<|aH (fr':=[(4,aB)]) r r<|bI<|bN<|aN ?_
            have h27:=fI h26 h2
            obtain rfl:=sy h27
            exact bH (rs':=[.tmp 4]) r<|bP (v:=aB) r<|bG<|aQ [] r r r lr aF
           ·
            exact bJ<|dH<|pG _ (sy h26) (bT [] 2 r r r r ⟨lr,lr,trivial⟩ (cZ r (cZ r aF)))
          ·
           refine aK<|sB r<|aH (fr':=[(4,aB)]) r r<|bI<|bN<|aN ?_
           have h29:=fI h23 h2
           obtain rfl:=sy h29
           exact bH (rs':=[.tmp 4]) r<|bP (v:=aB) r<|bG<|aQ [] r r r lr aF
   ·
    intro j3 hj31
    have h31:=nG hj31 h2
    refine aK<|aT r (bD kY r)<|aT r (aJ (v:=aL) vM r r r)<|aT r (aPJ (cs:=[.box 1 0]) r r) ?_
    obtain ⟨x32,hx32,h33⟩:=aG h31
    refine dM (v:=aB) (σ':=[bQ,[aB]]) [1] r (ih_slices_ContainsFunc_api_Value_api_Value_value_formed_1 hx32) r r ⟨lr,(aNk r ⟨lr,trivial⟩),trivial⟩ (wR ⟨lr,trivial⟩ aF) r r r<|aT r (fH r)<|sB r<|aH (fr':=[(4,aB)]) r r<|bI ?_
    obtain rfl:=sy h33
    exact bH (rs':=[.tmp 4]) r<|bP (v:=aB) r<|bG<|aQ [] r r r lr aF
  ·
   intro p0x gD res h
   rw [lR] at h
   refine cY (fn:=Tryz.f177) [0,1,2,3] (by kernel_rfl) Tryz.func177 r (by kernel_rfl) (by kernel_rfl)<|aK<|iH (v:=.agg bQ) (n:=1) (cs:=bQ) (σ':=[[aB],bQ]) r r r r r<|sB r<|aH (fr':=[(1,.box 0 0),(2,.box 1 0)]) r r<|aK<|aT r (dJ (us:=bQ) gV r r r r)<|aT r (aJ (v:=aB) tv4 r r r) ?_
   obtain ⟨x1,hx1,h2⟩:=aG h
   refine lM (bC (v:=aB) r (ih_value_formed hx1) ⟨(bO r ⟨r,r,r,r,r,trivial⟩),lr,trivial⟩ r r r)<|aT r (fH r)<|sB r<|aH (fr':=[(3,aB)]) r r<|bI ?_
   obtain rfl:=sy h2
   exact bH (rs':=[.tmp 3]) r<|bP (v:=aB) r<|bG<|aQ [] r r r lr (cZ r aF)
noncomputable def vN (p0C:aC) (p1o:Bool):Option Bool:=lim fun n=>mM n p0C p1o
theorem aBl {p0C:aC}{p1o:Bool}{res:Bool} (h:vN p0C p1o=some res):cC Tryz.prog 128 [.agg (AV.cs (eF p0C)),.c (.bool p1o)] [] (.c (.bool res)) []:=by
 obtain ⟨n,hn⟩:=pZ h
 exact (kB n).2.2.1 hn
noncomputable def jG (yK:(List UInt8)→aC→Option (List UInt8)) (p1v:aC) (s34:((List UInt8) × Int)):Option (bS ((List UInt8) × Int) (List UInt8)) :=
 cond (decide (s34.2<((p1v.Items).length:Int))) ((jV p1v.Items s34.2).bind fun x36=>cond (decide (p1v.Kind=(5:Int))) ((jV p1v.Keys s34.2).bind fun x39=>(hU s34.1 x39).bind fun x41=>(yK x41 x36).bind fun x43=>some (bS.next (x43,(IntKind.wrap .i64 (s34.2+(1:Int)))))) ((yK s34.1 x36).bind fun x45=>some (bS.next (x45,(IntKind.wrap .i64 (s34.2+(1:Int))))))) (some (bS.out s34.1))
noncomputable def lC:Nat→(List UInt8)→aC→Option (List UInt8)
 | 0,_,_=>none
 | n+1,p0b,p1v =>
  (eR p0b p1v.Kind).bind fun x1=>((((cond (decide (p1v.Kind=(1:Int))) (some (decide (p1v.Kind=(1:Int)))) (cond (decide (p1v.Kind=(2:Int))) (some (decide (p1v.Kind=(2:Int)))) (some (decide (p1v.Kind=(6:Int)))))):Option Bool).bind fun x6=>(cond x6 ((eR x1 p1v.Int).bind fun x13=>some (Fl.done x13)) (cond (decide (p1v.Kind=(3:Int))) ((hU x1 p1v.Text).bind fun x18=>some (Fl.done x18)) (((cond (decide (p1v.Kind=(4:Int))) (some (decide (p1v.Kind=(4:Int)))) (some (decide (p1v.Kind=(5:Int))))):Option Bool).bind fun x22=>(cond x22 ((eR x1 ((p1v.Items).length:Int)).bind fun x28=>some (Fl.go x28)) (some (Fl.go x1))))))):Option (Fl (List UInt8) (List UInt8))).bind fun x3=>Fl.next x3 (fun j5=>(((dL (jG (lC n) p1v) ((j5,(0:Int)))):Option (List UInt8)).bind fun x31=>(some x31)))
theorem aEF:∀ n:Nat,(∀ {p0b:(List UInt8)}{p1v:aC}{res:(List UInt8)},lC n p0b p1v=some res→cC Tryz.prog 129 [.c (PV.ls 1 gA p0b),.agg (AV.cs (eF p1v))] [] (AV.os 0 1 gA res) []):=by
 intro n
 induction n with
 | zero=>exact fun {p0b p1v res} h=>absurd h (by simp [lC])
 | succ n ih =>
  have ih_value_encode:=@ih
  intro p0b p1v res h
  rw [lC] at h
  refine cY (fn:=Tryz.f129) [0,1,3,4,5,6,12,13,21,27,36,37,38,39,45] (by kernel_rfl) Tryz.func129 r (by kernel_rfl) (by kernel_rfl)<|aK<|iH (v:=.agg bQ) (n:=0) (cs:=bQ) (σ':=[bQ]) r r r r r<|sV (v:=AV.nil) r<|aH (fr':=[(0,aL),(3,.box 0 0)]) r r<|aK<|mL r<|aT r (bD oC r)<|aT r (aJ (v:=aI) fY r r r) ?_
  obtain ⟨x1,hx1,h2⟩:=aG h
  refine lM (bC (v:=aO) r (eS hx1) ⟨lr,lr,trivial⟩ r r r)<|sV (v:=aO) r<|aH (fr':=[(0,aO),(3,.box 0 0)]) r r ?_
  obtain ⟨x3,hx3,h4⟩:=aG h2
  refine nB (fun j5=>x3=Fl.go j5) (fun (j5:(List UInt8))=>([(0,AV.os 0 1 gA j5),(3,.box 0 0)]:Fr)) (fun (j5:(List UInt8))=>([[ci p1v.Kind,ci p1v.Int,.c (.str p1v.Text),.c (PV.ls 5 bM p1v.Items),.c (PV.ls 1 gL p1v.Keys)]]:St)) ?_ ?_
  ·
   refine aK<|aT r (bD oC r)<|aT r (aJ (v:=aI) fY r r r)<|aH (fr':=[(0,aO),(3,.box 0 0),(12,aI)]) r r<|bZ ?_
   obtain ⟨x6,hx6,h7⟩:=aG hx3
   refine nB (fun j8=>x6=j8) (fun (j8:Bool)=>([(0,AV.os 0 1 gA x1),(3,.box 0 0),(12,ci p1v.Kind),(13,.c (.bool j8))]:Fr)) (fun (j8:Bool)=>([[ci p1v.Kind,ci p1v.Int,.c (.str p1v.Text),.c (PV.ls 5 bM p1v.Items),.c (PV.ls 1 gL p1v.Keys)]]:St)) ?_ ?_
   ·
    refine aK<|aT r (dG r r)<|sB r<|aH (fr':=[(0,aO),(3,.box 0 0),(12,aI),(13,aB)]) r r<|cV hx6 r (fun hb9 h9=>?_) (fun hb9 h9=>?_)
    ·
     exact bJ<|pG _ (sy h9) (bT [160] 1 r r r r ⟨lr,lr,lr,lr,trivial⟩ (cZ r aF))
    ·
     refine aK<|aT r (dG r r)<|sB r<|aH (fr':=[(0,aO),(3,.box 0 0),(12,aI),(13,aB)]) r r<|cV h9 r (fun hb10 h10=>?_) (fun hb10 h10=>?_)
     ·
      exact bJ<|pG _ (sy h10) (bT [160] 1 r r r r ⟨lr,lr,lr,lr,trivial⟩ (cZ r aF))
     ·
      exact aX<|aT r (dG r r)<|sB r<|dT (fr':=[(0,aO),(3,.box 0 0),(12,aI),(13,aB)]) r<|pG _ (sy h10) (bT [160] 1 r r r r ⟨lr,lr,lr,lr,trivial⟩ (cZ r aF))
   ·
    intro j8 hj11
    subst hj11
    refine cV h7 r (fun hb12 h12=>?_) (fun hb12 h12=>?_)
    ·
     refine aK<|mV (v:=aO) r<|aT r (bD tD r)<|aT r (aJ (v:=aI) fY r r r) ?_
     obtain ⟨x13,hx13,h14⟩:=aG h12
     refine lM (bC (v:=aO) r (eS hx13) ⟨lr,lr,trivial⟩ r r r)<|sV (v:=aO) r<|aH (fr':=[(4,aO)]) r r<|bI<|bN<|aN ?_
     have h15:=fI h14 h4
     obtain rfl:=sy h15
     exact bH (rs':=[.tmp 4]) r<|bP (v:=aO) r<|bG<|aQ [320] r r r lr aF
    ·
     refine aK<|aT r (dG r r)<|sB r<|aH (fr':=[(0,aO),(3,.box 0 0),(12,aI),(21,aB)]) r r<|cV h12 r (fun hb17 h17=>?_) (fun hb17 h17=>?_)
     ·
      refine aK<|mV (v:=aO) r<|aT r (bD yB r)<|aT r (aJ (v:=aS) nE r r r) ?_
      obtain ⟨x18,hx18,h19⟩:=aG h17
      refine lM (bC (v:=aO) r (kI hx18) ⟨lr,lr,trivial⟩ r r r)<|sV (v:=aO) r<|aH (fr':=[(4,aO)]) r r<|bI<|bN<|aN ?_
      have h20:=fI h19 h4
      obtain rfl:=sy h20
      exact bH (rs':=[.tmp 4]) r<|bP (v:=aO) r<|bG<|aQ [416] r r r lr aF
     ·
      obtain ⟨x22,hx22,h23⟩:=aG h17
      refine nB (fun j24=>x22=j24) (fun (j24:Bool)=>([(0,AV.os 0 1 gA x1),(3,.box 0 0),(27,.c (.bool j24))]:Fr)) (fun (j24:Bool)=>([[ci p1v.Kind,ci p1v.Int,.c (.str p1v.Text),.c (PV.ls 5 bM p1v.Items),.c (PV.ls 1 gL p1v.Keys)]]:St)) ?_ ?_
      ·
       refine aK<|aT r (dG r r)<|sB r<|aH (fr':=[(0,aO),(3,.box 0 0),(12,aI),(27,aB)]) r r<|cV hx22 r (fun hb25 h25=>?_) (fun hb25 h25=>?_)
       ·
        exact bJ<|pG _ (sy h25) (bT [0] 1 r r r r ⟨lr,lr,lr,trivial⟩ (cZ r aF))
       ·
        exact aX<|aT r (dG r r)<|sB r<|dT (fr':=[(0,aO),(3,.box 0 0),(12,aI),(27,aB)]) r<|pG _ (sy h25) (bT [0] 1 r r r r ⟨lr,lr,lr,trivial⟩ (cZ r aF))
      ·
       intro j24 hj26
       subst hj26
       refine cV h23 r (fun hb27 h27=>?_) (fun hb27 h27=>?_)
       ·
        refine aX<|mV (v:=aO) r<|aT r (bD kY r)<|aT r (aJ (v:=aL) vM r r r)<|aT r (gN aAE (eO r)) ?_
        obtain ⟨x28,hx28,h29⟩:=aG h27
        exact lM (bC (v:=aO) r (eS hx28) ⟨lr,lr,trivial⟩ r r r)<|sV (v:=aO) r<|dT (fr':=[(0,aO),(3,.box 0 0),(27,aB)]) r<|dH<|pG _ (sy h29) (bT [544] 1 r r r r ⟨lr,lr,trivial⟩ (cZ r aF))
       ·
        exact bJ<|dH<|pG _ (sy h27) (bT [0] 1 r r r r ⟨lr,lr,trivial⟩ (cZ r aF))
  ·
   intro j5 hj30
   have h30:=nG hj30 h4
   refine aU<|aK<|aT r (bD kY r)<|aT r (aJ (v:=aL) vM r r r)<|aT r (gN aAE (eO r))<|mI r<|aH (fr':=[(0,aO),(3,.box 0 0),(36,aL),(37,aI),(38,aI)]) r r ?_
   obtain ⟨x31,hx31,h32⟩:=aG h30
   refine gZ mO (fun j33=>x31=j33) (fun (j33:(List UInt8))=>([(0,AV.os 0 1 gA j33)]:Fr)) (fun (j33:(List UInt8))=>([[ci p1v.Kind,ci p1v.Int,.c (.str p1v.Text),.c (PV.ls 5 bM p1v.Items),.c (PV.ls 1 gL p1v.Keys)]]:St)) ?_ ?_
   ·
    refine bZ<|gU _ (fun (s34:((List UInt8) × Int))=>([(0,AV.os 0 1 gA s34.1),(3,.box 0 0),(36,.c (PV.ls 5 bM p1v.Items)),(37,ci ((p1v.Items).length:Int)),(38,ci s34.2)]:Fr)) (fun (s34:((List UInt8) × Int))=>([[ci p1v.Kind,ci p1v.Int,.c (.str p1v.Text),.c (PV.ls 5 bM p1v.Items),.c (PV.ls 1 gL p1v.Keys)]]:St)) hx31 (bT [0] 1 r r r r ⟨lr,lr,lr,lr,lr,trivial⟩ (cZ r aF)) ?_
    intro s34 st34 hs34 ho34
    unfold jG at hs34
    refine aK<|aT r (fM r r)<|aH (fr':=[(0,aO),(3,.box 0 0),(36,aL),(37,aI),(38,aI),(39,aB)]) r r<|aU<|cV hs34 r (fun hb35 h35=>?_) (fun hb35 h35=>?_)
    ·
     refine bJ<|cM<|aU<|bZ<|aK<|mI r ?_
     obtain ⟨x36,hx36,h37⟩:=aG h35
     refine aT r (oV (cs:=[PV.int _ _,PV.int _ _,PV.str _,PV.ls _ _ _,PV.ls _ _ _]) aBE (eO r) r hx36 (eT _))<|aT r (lW (us:=[PV.int _ _,PV.int _ _,PV.str _,PV.ls _ _ _,PV.ls _ _ _]) gV r r r)<|iG (n:=1) (cs:=bK) (σ':=[bQ,bK]) aED r r r<|sI r<|bU (v:=.agg bQ) (us:=bQ) (cs:=bK) (σ':=[bQ,bQ]) r gV r r r r r r r r<|aH (fr':=[(0,aO),(3,.box 0 0),(5,aI),(6,.box 1 0),(36,aL),(37,aI),(38,aI)]) r r<|aU<|aK<|aT r (bD oC r)<|aT r (aJ (v:=aI) fY r r r)<|aT r (dG r r)<|aH (fr':=[(0,aO),(3,.box 0 0),(5,aI),(6,.box 1 0),(36,aL),(37,aI),(38,aI),(45,aB)]) r r ?_
     refine cV h37 r (fun hb38 h38=>?_) (fun hb38 h38=>?_)
     ·
      refine aX<|mV (v:=aO) r<|aT r (bD qU r)<|aT r (aJ (v:=aL) rG r r r)<|mI r ?_
      obtain ⟨x39,hx39,h40⟩:=aG h38
      refine aT r (oV (cs:=[PV.str _]) aAe (eO r) r hx39 r)<|aT r (jW (p:=PV.str _) nE r r) ?_
      obtain ⟨x41,hx41,h42⟩:=aG h40
      refine lM (bC (v:=aO) r (kI hx41) ⟨lr,lr,trivial⟩ r r r)<|sV (v:=aO) r<|aH (fr':=[(0,aO),(3,.box 0 0),(6,.box 1 0),(36,aL),(37,aI),(38,aI)]) r r<|aX<|mV (v:=aO) r<|aT r (dJ (us:=bQ) gV r r r r) ?_
      obtain ⟨x43,hx43,h44⟩:=aG h42
      exact lM (bC (v:=aO) r (ih_value_encode hx43) ⟨lr,(bO r ⟨r,r,r,r,r,trivial⟩),trivial⟩ r r r)<|sV (v:=aO) r<|dT (fr':=[(0,aO),(3,.box 0 0),(6,.box 1 0),(36,aL),(37,aI),(38,aI)]) r<|dH<|cM<|aX<|aT r (fL r r)<|mI r<|dT (fr':=[(0,aO),(3,.box 0 0),(6,.box 1 0),(36,aL),(37,aI),(38,aI)]) r<|e_l _ (sy h44) (bT [880] 1 r r r r ⟨lr,lr,lr,lr,lr,trivial⟩ (cZ r aF))
     ·
      refine bJ<|cM<|aX<|mV (v:=aO) r<|aT r (dJ (us:=bQ) gV r r r r) ?_
      obtain ⟨x45,hx45,h46⟩:=aG h38
      exact lM (bC (v:=aO) r (ih_value_encode hx45) ⟨lr,(bO r ⟨r,r,r,r,r,trivial⟩),trivial⟩ r r r)<|sV (v:=aO) r<|dT (fr':=[(0,aO),(3,.box 0 0),(5,aI),(6,.box 1 0),(36,aL),(37,aI),(38,aI),(45,aB)]) r<|dH<|cM<|aX<|aT r (fL r r)<|mI r<|dT (fr':=[(0,aO),(3,.box 0 0),(5,aI),(6,.box 1 0),(36,aL),(37,aI),(38,aI),(45,aB)]) r<|e_l _ (sy h46) (bT [880] 1 r r r r ⟨lr,lr,lr,lr,lr,trivial⟩ (cZ r aF))
    ·
     refine hH<|cX<|cX<|fU ?_
     have h47:=eY h35 ho34
     exact pG _ (sy h47) (bT [0] 1 r r r r ⟨lr,trivial⟩ (cZ r aF))
   ·
    intro j33 hj48
    subst hj48
    refine cM<|aK<|mV (v:=aO) r<|sV (v:=aO) r<|aH (fr':=[(4,aO)]) r r<|bI ?_
    obtain rfl:=sy h32
    exact bH (rs':=[.tmp 4]) r<|bP (v:=aO) r<|bG<|aQ [0] r r r lr aF
noncomputable def aAi (p0b:(List UInt8)) (p1v:aC):Option (List UInt8):=lim fun n=>lC n p0b p1v
theorem aGk {p0b:(List UInt8)}{p1v:aC}{res:(List UInt8)} (h:aAi p0b p1v=some res):cC Tryz.prog 129 [.c (PV.ls 1 gA p0b),.agg (AV.cs (eF p1v))] [] (AV.os 0 1 gA res) []:=by
 obtain ⟨n,hn⟩:=pZ h
 exact (aEF n) hn
noncomputable def pP (p0b:(List UInt8)) (p1v:aC):Option (List UInt8) :=
 (fV p0b).bind fun x1=>(vN p1v true).bind fun x3=>cond (!x3) (some x1) ((aAi x1 p1v).bind fun x7=>some x7)
theorem aBk {p0b:(List UInt8)}{p1v:aC}{res:(List UInt8)} (h:pP p0b p1v=some res):cC Tryz.prog 55 [.c (PV.ls 1 gA p0b),.agg (AV.cs (eF p1v))] [] (AV.os 0 1 gA res) []:=by
 unfold pP at h
 refine cY (fn:=Tryz.f55) [0,1,3,4,5,10] (by kernel_rfl) Tryz.func55 r (by kernel_rfl) (by kernel_rfl)<|aK<|iH (v:=.agg bQ) (n:=0) (cs:=bQ) (σ':=[bQ]) r r r r r<|sV (v:=AV.nil) r<|aH (fr':=[(0,aL),(3,.box 0 0)]) r r<|aK<|mL r ?_
 obtain ⟨x1,hx1,h2⟩:=aG h
 refine lM (bC (v:=aO) r (kC hx1) ⟨lr,trivial⟩ r r r)<|sV (v:=aO) r<|aH (fr':=[(3,.box 0 0),(5,aO)]) r r<|aU<|aK<|aT r (dJ (us:=bQ) gV r r r r) ?_
 obtain ⟨x3,hx3,h4⟩:=aG h2
 refine lM (bC (v:=aB) r (aBl hx3) ⟨(bO r ⟨r,r,r,r,r,trivial⟩),lr,trivial⟩ r r r)<|aT r (fH r)<|aH (fr':=[(3,.box 0 0),(5,aO),(10,aB)]) r r<|cV h4 r (fun hb5 h5=>?_) (fun hb5 h5=>?_)
 ·
  refine aK<|mV (v:=aO) r<|sV (v:=aO) r<|aH (fr':=[(4,aO)]) r r<|bI<|aN ?_
  obtain rfl:=sy h5
  exact bH (rs':=[.tmp 4]) r<|bP (v:=aO) r<|bG<|aQ [112] r r r lr aF
 ·
  refine bJ<|cM<|aK<|mV (v:=aO) r<|aT r (dJ (us:=bQ) gV r r r r) ?_
  obtain ⟨x7,hx7,h8⟩:=aG h5
  refine lM (bC (v:=aO) r (aGk hx7) ⟨lr,(bO r ⟨r,r,r,r,r,trivial⟩),trivial⟩ r r r)<|sV (v:=aO) r<|aH (fr':=[(4,aO)]) r r<|bI ?_
  obtain rfl:=sy h8
  exact bH (rs':=[.tmp 4]) r<|bP (v:=aO) r<|bG<|aQ [224] r r r lr aF
noncomputable def iD (p0n:Int) (oT:Int) (lG:Int):Option Bool :=
 some (cond (decide (oT≤p0n)) (decide (p0n≤lG)) false)
theorem jC {p0n:Int}{oT:Int}{lG:Int}{res:Bool} (h:iD p0n oT lG=some res):cC Tryz.prog 148 [ci p0n,ci oT,ci lG] [] (.c (.bool res)) []:=by
 unfold iD at h
 refine cY (fn:=Tryz.f148) [0,1,2,6] (by kernel_rfl) Tryz.func148 r (by kernel_rfl) (by kernel_rfl)<|aK<|sB r<|aH (fr':=[(0,aI),(1,aI),(2,aI)]) r r<|aK<|mI r<|mI r<|aT r (rP r r)<|mB r<|og r r r (fun hc=>(bA (v:=aI) r))<|og r r r (fun hc=>(bA (v:=aI) r)) ?_
 refine og r r r (fun hc=>(wI (gx r hc) (gx r hc)))<|aT r (cE r r r (fun e=>fW e))<|sB r<|aH (fr':=[(6,aB)]) r r<|bI ?_
 obtain rfl:=sy h
 exact bH (rs':=[.tmp 6]) r<|bP (v:=aB) r<|bG<|aQ [] r r r lr aF
noncomputable def tY (p0c:Int):Option Bool :=
 some (cond (cond (cond (decide ((97:Int)≤p0c)) (decide (p0c≤(122:Int))) false) true (cond (decide ((65:Int)≤p0c)) (decide (p0c≤(90:Int))) false)) true (decide (p0c=(95:Int))))
theorem aGO {p0c:Int}{res:Bool} (h:tY p0c=some res):cC Tryz.prog 199 [.c (.int .u8 p0c)] [] (.c (.bool res)) []:=by
 unfold tY at h
 refine cY (fn:=Tryz.f199) [0,2] (by kernel_rfl) Tryz.func199 r (by kernel_rfl) (by kernel_rfl)<|aK<|sB r<|aH (fr':=[(0,aI)]) r r<|aK<|mI r<|aT r (rP r r)<|mB r<|og r r r (fun hc=>(bA (v:=aI) r))<|og r r r (fun hc=>(wI (gx r hc) r))<|aT r (cE r r r (fun e=>fW e)) ?_
 refine mB r<|og r r r (fun hc=>(bA (v:=aI) r))<|og r r r (fun hc=>(rP (gx r hc) r))<|og r r r (fun hc=>(bA (v:=aB) (gx r hc)))<|eX r r (fun hc=>fJ r (bA (v:=aI) r))<|eX r r (fun hc=>fJ r (wI (gx r hc) r))<|og r r r (fun hc=>(cE (gx r hc) r r (fun e=>rF hc (fW e))))<|aT r (cB r r r (fun e=>fW e))<|mB r<|og r r r (fun hc=>(bA (v:=aI) r))<|og r r r (fun hc=>(dG (gx r hc) r))<|aT r (cB r r r (fun e=>fW e))<|sB r ?_
 refine aH (fr':=[(2,aB)]) r r<|bI ?_
 obtain rfl:=sy h
 exact bH (rs':=[.tmp 2]) r<|bP (v:=aB) r<|bG<|aQ [] r r r lr aF
noncomputable def tH (p0s:(List UInt8)) (s6:Int):Option (bS Int (Fl Bool Unit)) :=
 cond (decide (s6<((p0s).length:Int))) ((jV p0s s6).bind fun x8=>(tY ((x8).toNat:Int)).bind fun x10=>(gd (((!x10)==true)&&((decide (s6=(0:Int)))==false)) (jV p0s s6)).bind fun x12=>(gd (((!x10)==true)&&((cond (decide (s6=(0:Int))) true (decide (((x12).toNat:Int)<(48:Int))))==false)) (jV p0s s6)).bind fun x14=>cond (cond (!x10) (cond (cond (decide (s6=(0:Int))) true (decide (((x12).toNat:Int)<(48:Int)))) true (decide ((57:Int)<((x14).toNat:Int)))) false) (some (bS.out (Fl.done false))) (some (bS.next (IntKind.wrap .i64 (s6+(1:Int)))))) (some (bS.out (Fl.go ())))
noncomputable def oS (p0s:(List UInt8)):Option Bool :=
 cond (cond (decide (p0s=([]:List UInt8))) true (decide ((64:Int)<((p0s).length:Int)))) (some false) (((dL (tH p0s) ((0:Int))):Option (Fl Bool Unit)).bind fun x3=>Fl.next x3 (fun j5=>(some true)))
theorem vO {p0s:(List UInt8)}{res:Bool} (h:oS p0s=some res):cC Tryz.prog 167 [.c (.str p0s)] [] (.c (.bool res)) []:=by
 unfold oS at h
 refine cY (fn:=Tryz.f167) [0,2,3,10,12,13,14,36] (by kernel_rfl) Tryz.func167 r (by kernel_rfl) (by kernel_rfl)<|aK<|sB r<|aH (fr':=[(0,aS)]) r r<|aU<|aK<|mS r<|aT r (sX r r)<|mB r<|og r r r (fun hc=>(bA (v:=aS) r))<|og r r r (fun hc=>(nI wT (gx r hc))) ?_
 refine og r r r (fun hc=>(sJ (gx r hc) r))<|aT r (cB r r r (fun e=>fW e))<|aH (fr':=[(0,aS),(10,aB)]) r r<|cV h r (fun hb1 h1=>?_) (fun hb1 h1=>?_)
 ·
  refine aK<|sB r<|aH (fr':=[(2,aB)]) r r<|bI<|aN ?_
  obtain rfl:=sy h1
  exact bH (rs':=[.tmp 2]) r<|bP (v:=aB) r<|bG<|aQ [] r r r lr aF
 ·
  refine bJ<|cM<|aU<|aK<|mS r<|aT r (nI wT r)<|mI r<|aH (fr':=[(0,aS),(12,aI),(13,aI)]) r r ?_
  obtain ⟨x3,hx3,h4⟩:=aG h1
  refine gZ mO (fun j5=>x3=Fl.go j5) (fun (j5:Unit)=>([]:Fr)) (fun (j5:Unit)=>([]:St)) ?_ ?_
  ·
   refine bZ<|gU _ (fun (s6:Int)=>([(0,.c (.str p0s)),(12,ci ((p0s).length:Int)),(13,ci s6)]:Fr)) (fun (s6:Int)=>([]:St)) hx3 (bT [] 0 r r r r ⟨lr,lr,lr,trivial⟩ aF) ?_
   intro s6 st6 hs6 ho6
   unfold tH at hs6
   refine aK<|aT r (fM r r)<|aH (fr':=[(0,aS),(12,aI),(13,aI),(14,aB)]) r r<|aU<|cV hs6 r (fun hb7 h7=>?_) (fun hb7 h7=>?_)
   ·
    refine bJ<|cM<|aU<|bZ<|aK<|mI r<|sI r<|aH (fr':=[(0,aS),(3,aI),(12,aI),(13,aI)]) r r<|aK<|mS r<|mI r ?_
    obtain ⟨x8,hx8,h9⟩:=aG h7
    refine aT r (aFF wT r r hx8) ?_
    obtain ⟨x10,hx10,h11⟩:=aG h9
    refine lM (bC (v:=aB) r (aGO hx10) ⟨lr,trivial⟩ r r r)<|aT r (fH r)<|mB r<|og r r r (fun hc=>(bA (v:=aI) r))<|og r r r (fun hc=>(dG (gx r hc) r))<|og r r r (fun hc=>(bA (v:=aB) (gx r hc)))<|eX r r (fun hc=>fJ r (bA (v:=aS) r))<|eX r r (fun hc=>fJ r (bA (v:=aI) r)) ?_
    obtain ⟨x12,hx12,h13⟩:=aG h11
    refine eX r r (fun hc=>fJ r (aFF wT (gx r hc) (gx r hc) (dW hx12 hc)))<|eX r r (fun hc=>fJ r (fM (gx r hc) r))<|og r r r (fun hc=>(cB (gx r hc) r r (fun e=>rF hc (fW e))))<|og r r r (fun hc=>(bA (v:=aB) (gx r hc)))<|eX r r (fun hc=>fJ r (bA (v:=aS) r))<|eX r r (fun hc=>fJ r (bA (v:=aI) r)) ?_
    obtain ⟨x14,hx14,h15⟩:=aG h13
    refine eX r r (fun hc=>fJ r (aFF wT (gx r hc) (gx r hc) (dW hx14 hc)))<|eX r r (fun hc=>fJ r (sJ (gx r hc) r))<|og r r r (fun hc=>(cB (gx r hc) r r (fun e=>rF hc (fW e))))<|aT r (cE r r r (fun e=>fW e))<|aH (fr':=[(0,aS),(12,aI),(13,aI),(36,aB)]) r r<|cV h15 r (fun hb16 h16=>?_) (fun hb16 h16=>?_)
    ·
     refine aK<|sB r<|aH (fr':=[(2,aB)]) r r<|bI<|bN<|aN<|aN<|bN<|aN<|aN ?_
     have h17:=eY h16 ho6
     have h18:=fI h17 h4
     obtain rfl:=sy h18
     exact bH (rs':=[.tmp 2]) r<|bP (v:=aB) r<|bG<|aQ [] r r r lr aF
    ·
     exact bJ<|dH<|cM<|aX<|aT r (fL r r)<|mI r<|dT (fr':=[(0,aS),(12,aI),(13,aI),(36,aB)]) r<|e_l _ (sy h16) (bT [] 0 r r r r ⟨lr,lr,lr,trivial⟩ aF)
   ·
    refine hH<|cX<|cX<|fU ?_
    have h20:=eY h7 ho6
    exact pG _ (sy h20) (bT [] 0 r r r r trivial aF)
  ·
   intro j5 hj21
   have h21:=nG hj21 h4
   refine cM<|aK<|sB r<|aH (fr':=[(2,aB)]) r r<|bI ?_
   obtain rfl:=sy h21
   exact bH (rs':=[.tmp 2]) r<|bP (v:=aB) r<|bG<|aQ [] r r r lr aF
noncomputable def lJ (p0s:(List UInt8)):Option Bool :=
 some (decide ((4096:Int)<((p0s).length:Int)))
theorem yR {p0s:(List UInt8)}{res:Bool} (h:lJ p0s=some res):cC Tryz.prog 179 [.c (.str p0s)] [] (.c (.bool res)) []:=by
 unfold lJ at h
 refine cY (fn:=Tryz.f179) [0,2] (by kernel_rfl) Tryz.func179 r (by kernel_rfl) (by kernel_rfl)<|aK<|sB r<|aH (fr':=[(0,aS)]) r r<|aK<|mS r<|aT r (nI wT r)<|aT r (sJ r r)<|sB r<|aH (fr':=[(2,aB)]) r r<|bI ?_
 obtain rfl:=sy h
 exact bH (rs':=[.tmp 2]) r<|bP (v:=aB) r<|bG<|aQ [] r r r lr aF
end Go.Proofs.YtnigjppddilpcaaGreatDoor
