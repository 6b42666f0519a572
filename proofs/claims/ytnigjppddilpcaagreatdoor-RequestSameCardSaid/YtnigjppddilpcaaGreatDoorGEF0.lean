import Derived.Test.YtnigjppddilpcaaGreatDoorGETy
namespace Go.Proofs.YtnigjppddilpcaaGreatDoor
open Go Abs
set_option maxRecDepth 100000
set_option linter.unusedVariables false
set_option linter.unusedSimpArgs false
noncomputable def jA (p0s:(List UInt8)):Option (List UInt8) :=
 app 1 ([]:List UInt8) p0s
theorem nU {p0s:(List UInt8)}{z:(List UInt8)} (h:jA p0s=some z):dE Tryz.prog 70 [.c (PV.ls 1 jK p0s)] [] (AV.os 0 1 jK z) []:=by
 unfold jA at h
 refine eJ (fn:=Tryz.f70) [0,2,4] (by kernel_rfl) Tryz.func70 r (by kernel_rfl) (by kernel_rfl) ?_
 obtain ⟨hm,he⟩:=aGA h
 rw [hH] at he
 subst he
 refine aT<|aW r (aEm (v:=.nil) r)<|fG (fr':=[(0,.c (PV.ls _ _ _)),(2,.nil)]) r<|eA<|bC<|aT<|aW r (bP (v:=.c (PV.ls _ _ _)) r)<|aRp (row:=jK) aJE (fQ r) (fun b hb=>?_)
 refine fG (fr':=[(0,.c (PV.ls _ _ _)),(2,.nil),(4,.c (.bool _))]) r<|eA<|aJJ b r (fun e=>?_) (fun e=>?_)
 ·
  rw [hb e]
  exact aT<|aW r (aEm (v:=.nil) r)<|fG (fr':=[(0,.c (PV.ls _ _ _)),(2,.nil),(4,.c (.bool _))]) r<|eA<|cB<|aV<|bZ (rs':=[.tmp 2]) r<|cM (v:=.nil) r<|bX<|aZ [] r r r (aDH r) aH
 ·
  exact cE<|eA<|aT<|aA4 (row:=jK) (xs:=([]:List UInt8)) (rows:=[]) (σ':=[]) [] aH6 r r r uT r r<|aW r (bP (v:=.c (PV.ls _ _ _)) r)<|aG0 (row:=jK) aH6 r aJE r (fQ r) (fun _=>r) h<|aW r (aEm (v:=AV.os _ _ _ _) r)<|fG (fr':=[(0,.c (PV.ls _ _ _)),(2,AV.os _ _ _ _),(4,.c (.bool _))]) r<|eA<|cB<|bZ (rs':=[.tmp 2]) r<|cM (v:=AV.os _ _ _ _) r<|bX<|aZ [112] r r r lr aH
noncomputable def xB  (s6:((List UInt8) × Int)):Option (dG ((List UInt8) × Int) ((List UInt8) × Int)) :=
 cond (decide (128≤s6.2)) ((yK (kE .or .u8 (IntKind.wrap .u8 s6.2) 128)).bind fun x8=>(app 1 s6.1 ([x8]:List UInt8)).bind fun x10=>some (dG.next (x10,(Int.fdiv s6.2 (2 ^ (min (Int.toNat 7) (IntKind.bits .u64))))))) (some (dG.out (s6.1,s6.2)))
noncomputable def gV (p0b:(List UInt8)) (p1n:Int):Option (List UInt8) :=
 (jA p0b).bind fun x1=>(fX (xB) ((x1,(kE .xor .u64 (IntKind.wrap .u64 ((IntKind.wrap .u64 p1n)*2 ^ (min (Int.toNat 1) (IntKind.bits .u64)))) (IntKind.wrap .u64 (Int.fdiv p1n (2 ^ (min (Int.toNat 63) (IntKind.bits .i64))))))))).bind fun x3=>((yK (IntKind.wrap .u8 x3.2)).bind fun x14=>(app 1 x3.1 ([x14]:List UInt8)).bind fun x16=>some x16)
theorem gX {p0b:(List UInt8)}{p1n:Int}{z:(List UInt8)} (h:gV p0b p1n=some z):dE Tryz.prog 53 [.c (PV.ls 1 jK p0b),ci p1n] [] (AV.os 0 1 jK z) []:=by
 unfold gV at h
 refine eJ (fn:=Tryz.f53) [0,1,4,5,6,17] (by kernel_rfl) Tryz.func53 r (by kernel_rfl) (by kernel_rfl)<|aT<|sV (v:=AV.nil) r<|aR (fr':=[(0,aL),(1,aI)]) r r<|aT<|mL r<|bx h fun x1 y1 h2=>qB (bR (v:=aO) r (nU y1) ⟨lr,trivial⟩ r r r)<|sV (v:=aO) r<|aR (fr':=[(1,aI),(5,aO)]) r r<|aT<|mI r<|aW r (aDK tk3 aHz r)<|aW r (aQV r r (by decide))<|mI r<|aW r (aO9 r r (by decide))<|aW r (aDK tk3 aHz r)<|aW r (aQX r r)<|sI r<|aR (fr':=[(5,aO),(6,aI)]) r r<|bx h2 fun x3 y3 h4=>rH (fun j5=>x3=j5) (fun (j5:((List UInt8) × Int))=>([(5,AV.os 0 1 jK j5.1),(6,.c (.int .u64 j5.2))]:Fr)) (fun (j5:((List UInt8) × Int))=>([]:St)) ?_ ?_
 ·
  refine dA<|jS _ (fun (s6:((List UInt8) × Int))=>([(5,AV.os 0 1 jK s6.1),(6,.c (.int .u64 s6.2))]:Fr)) (fun (s6:((List UInt8) × Int))=>([]:St)) y3 (cR [128] 0 r r r r pV aH) ?_
  intro s6 st6 hs6 ho6
  unfold xB at hs6
  refine bC<|aT<|mI r<|aW r (xD r r)<|aR (fr':=[(5,aO),(6,aI),(17,aB)]) r r<|eS hs6 r (fun b7 h7=>?_) (fun b7 h7=>?_)
  ·
   exact cE<|eA<|dA<|aT<|mV (v:=aO) r<|mI r<|aW r (aDK aHz tk5 r)<|aW r (aR8 r r)<|bx h7 fun x8 y8 h9=>aA4 (row:=jK) (xs:=([x8]:List UInt8)) (rows:=[[_]]) (σ':=[]) [0] aH6 r r r (kS (aMI y8) uT) r r<|bx h9 fun x10 y10 h11=>aG0 (row:=jK) aH6 r aJE r (aAi r) (fun _=>r) y10<|sV (v:=aO) r<|aR (fr':=[(5,aO),(6,aI)]) r r<|bN<|mI r<|aW r (aO9 r r (by decide))<|sI r<|fG (fr':=[(5,aO),(6,aI)]) r<|eW<|e_l _ (sy h11) (cR [368] 0 r r r r pV aH)
  ·
   refine kF<|eL<|eL<|iM ?_
   have h12:=gN h7 ho6
   exact tB _ (sy h12) (cR [0] 0 r r r r pV aH)
 ·
  intro j5 hj13
  subst hj13
  refine aT<|mV (v:=aO) r<|mI r<|aW r (aDK aHz tk5 r)<|bx h4 fun x14 y14 h15=>aA4 (row:=jK) (xs:=([x14]:List UInt8)) (rows:=[[_]]) (σ':=[]) [0] aH6 r r r (kS (aMI y14) uT) r r<|bx h15 fun x16 y16 h17=>aG0 (row:=jK) aH6 r aJE r (aAi r) (fun _=>r) y16<|sV (v:=aO) r<|aR (fr':=[(4,aO)]) r r<|cB ?_
  obtain rfl:=sy h17
  exact bZ (rs':=[.tmp 4]) r<|cM (v:=aO) r<|bX<|aZ [480] r r r lr aH
noncomputable def kX (p0b:(List UInt8)) (p1s:(List UInt8)):Option (List UInt8) :=
 (gV p0b ((p1s).length:Int)).bind fun x1=>(app 1 x1 p1s).bind fun x3=>some x3
theorem oE {p0b:(List UInt8)}{p1s:(List UInt8)}{z:(List UInt8)} (h:kX p0b p1s=some z):dE Tryz.prog 54 [.c (PV.ls 1 jK p0b),.c (.str p1s)] [] (AV.os 0 1 jK z) []:=by
 unfold kX at h
 refine eJ (fn:=Tryz.f54) [0,1,4] (by kernel_rfl) Tryz.func54 r (by kernel_rfl) (by kernel_rfl)<|aT<|sV (v:=AV.nil) r<|aR (fr':=[(0,aL),(1,aS)]) r r<|aT<|mL r<|mS r<|aW r (rN zG r)<|bx h fun x1 y1 h2=>qB (bR (v:=aO) r (gX y1) pV r r r)<|mS r<|bx h2 fun x3 y3 h4=>aRo aH6 r zG r r y3<|sV (v:=aO) r<|aR (fr':=[(4,aO)]) r r<|cB ?_
 obtain rfl:=sy h4
 exact bZ (rs':=[.tmp 4]) r<|cM (v:=aO) r<|bX<|aZ [160] r r r lr aH
noncomputable def rR (p0l:(List (List UInt8))) (s4:Int):Option (dG Int (Fl Bool Unit)) :=
 cond (decide (s4<((p0l).length:Int))) ((nF p0l (IntKind.wrap .i64 (s4 - 1))).bind fun x6=>(nF p0l s4).bind fun x8=>cond (!Op.bytesLess x6 x8) (some (dG.out (Fl.done false))) (some (dG.next (IntKind.wrap .i64 (s4+1))))) (some (dG.out (Fl.go ())))
noncomputable def rY (p0l:(List (List UInt8))):Option Bool :=
 (fX (rR p0l) (1)).bind fun x1=>Fl.next x1 (fun j3=>(some true))
theorem aEI {p0l:(List (List UInt8))}{z:Bool} (h:rY p0l=some z):dE Tryz.prog 175 [.c (PV.ls 1 jE p0l)] [] (.c (.bool z)) []:=by
 unfold rY at h
 refine eJ (fn:=Tryz.f175) [0,2,3,7,19] (by kernel_rfl) Tryz.func175 r (by kernel_rfl) (by kernel_rfl)<|aT<|sB r<|aR (fr':=[(0,aL)]) r r<|bC<|aT<|sI r<|aR (fr':=[(0,aL),(3,aI)]) r r<|bx h fun x1 y1 h2=>kC pL (fun j3=>x1=Fl.go j3) (fun (j3:Unit)=>([]:Fr)) (fun (j3:Unit)=>([]:St)) ?_ ?_
 ·
  refine dA<|jS _ (fun (s4:Int)=>([(0,.c (PV.ls 1 jE p0l)),(3,ci s4)]:Fr)) (fun (s4:Int)=>([]:St)) y1 (cR [] 0 r r r r pV aH) ?_
  intro s4 st4 hs4 ho4
  unfold rR at hs4
  refine bC<|aT<|mI r<|mL r<|aW r (iR aBi (fQ r))<|aW r (iJ r r)<|aR (fr':=[(0,aL),(3,aI),(7,aB)]) r r<|eS hs4 r (fun b5 h5=>?_) (fun b5 h5=>?_)
  ·
   refine cE<|eA<|bC<|dA<|bC<|lS [.q 0,.q 1,.q 2,.q 3,.q 4,.q 5,.q 6,.q 7,.q 8,.q 9] [(some 10,[0]),(some 11,[3]),(some 12,[11]),(some 13,[10,12]),(some 14,[13]),(some 15,[0]),(some 16,[3]),(some 17,[15,16]),(some 18,[17]),(some 19,[14,18])] [0,0,2,7,15,0,0,96,224,511] (by kernel_rfl)<|dq r r (bP (v:=aL) r)<|dq r r (bP (v:=aI) r)<|dq r r (aPa r r)<|bx h5 fun x6 y6 h7=>dq r r (rD (cs:=[PV.str _]) aBQ (fQ r) r y6 r)<|dq r r (nR (p:=PV.str _) oG r r)<|dq r r (bP (v:=aL) r)<|dq r r (bP (v:=aI) r)<|bx h7 fun x8 y8 h9=>dq r r (rD (cs:=[PV.str _]) aBQ (fQ r) r y8 r)<|dq r r (nR (p:=PV.str _) oG r r)<|dq r r (aRt r r)<|zJ (fr':=[(0,aL),(3,aI),(19,aB)]) r r<|eS h9 r (fun b10 h10=>?_) (fun b10 h10=>?_)
   ·
    refine aT<|sB r<|aR (fr':=[(2,aB)]) r r<|cB<|cL<|aV<|aV<|cL<|aV<|aV ?_
    have h11:=gN h10 ho4
    have h12:=hU h11 h2
    obtain rfl:=sy h12
    exact bZ (rs':=[.tmp 2]) r<|cM (v:=aB) r<|bX<|aZ [] r r r lr aH
   ·
    exact cE<|eW<|eA<|bN<|mI r<|aW r (iH r r)<|sI r<|fG (fr':=[(0,aL),(3,aI),(19,aB)]) r<|e_l _ (sy h10) (cR [] 0 r r r r pV aH)
  ·
   refine kF<|eL<|eL<|iM ?_
   have h14:=gN h5 ho4
   exact tB _ (sy h14) (cR [] 0 r r r r trivial aH)
 ·
  intro j3 hj15
  have h15:=qP hj15 h2
  refine eA<|aT<|sB r<|aR (fr':=[(2,aB)]) r r<|cB ?_
  obtain rfl:=sy h15
  exact bZ (rs':=[.tmp 2]) r<|cM (v:=aB) r<|bX<|aZ [] r r r lr aH
noncomputable def fL (aDM:aE→Bool→Option Bool) (p0s:(List aE)) (jP:Bool) (s4:Int):Option (dG Int (Fl Int Unit)) :=
 cond (decide (s4<((p0s).length:Int))) ((nF p0s s4).bind fun x6=>(aDM x6 jP).bind fun x8=>cond x8 (some (dG.out (Fl.done s4))) (some (dG.next (IntKind.wrap .i64 (s4+1))))) (some (dG.out (Fl.go ())))
mutual
noncomputable def eO:Nat→(List aE)→Bool→Option Bool
 | 0,_,_=>none
 | n+1,p0s,jP =>
  ((fR n) p0s jP).bind fun x1=>some (decide (0≤x1))
noncomputable def fR:Nat→(List aE)→Bool→Option Int
 | 0,_,_=>none
 | n+1,p0s,jP =>
  (fX (fL (qE n) p0s jP) (0)).bind fun x1=>Fl.next x1 (fun j3=>(some (-1)))
noncomputable def qU:Nat→aE→Bool→Option Bool
 | 0,_,_=>none
 | n+1,p0C,p1o =>
  ((cond (decide (p0C.Kind=0)) (some (Fl.done (cond (cond (cond (!(!decide (p0C.Int=0))) (!(!decide (p0C.Text=([]:List UInt8)))) false) (!(decide (0<((p0C.Items).length:Int)))) false) (!(decide (0<((p0C.Keys).length:Int)))) false))) (cond (decide (p0C.Kind=1)) (some (Fl.done (cond (cond (cond (cond (decide (p0C.Int=0)) true (decide (p0C.Int=1))) (!(!decide (p0C.Text=([]:List UInt8)))) false) (!(decide (0<((p0C.Items).length:Int)))) false) (!(decide (0<((p0C.Keys).length:Int)))) false))) (cond (decide (p0C.Kind=2)) (some (Fl.done (cond (cond (!(!decide (p0C.Text=([]:List UInt8)))) (!(decide (0<((p0C.Items).length:Int)))) false) (!(decide (0<((p0C.Keys).length:Int)))) false))) (cond (decide (p0C.Kind=6)) (some (Fl.done (cond (cond (cond (cond p1o (decide (0≤p0C.Int)) false) (!(!decide (p0C.Text=([]:List UInt8)))) false) (!(decide (0<((p0C.Items).length:Int)))) false) (!(decide (0<((p0C.Keys).length:Int)))) false))) (cond (decide (p0C.Kind=3)) (some (Fl.done (cond (cond (!(!decide (p0C.Int=0))) (!(decide (0<((p0C.Items).length:Int)))) false) (!(decide (0<((p0C.Keys).length:Int)))) false))) (cond (decide (p0C.Kind=4)) (cond (cond (cond (!decide (p0C.Int=0)) true (!decide (p0C.Text=([]:List UInt8)))) true (decide (0<((p0C.Keys).length:Int)))) (some (Fl.done false)) (some (Fl.go ()))) (cond (decide (p0C.Kind=5)) ((gd ((cond (cond (!decide (p0C.Int=0)) true (!decide (p0C.Text=([]:List UInt8)))) true (!decide (((p0C.Keys).length:Int)=((p0C.Items).length:Int))))==false) (rY p0C.Keys)).bind fun x24=>cond (cond (cond (cond (!decide (p0C.Int=0)) true (!decide (p0C.Text=([]:List UInt8)))) true (!decide (((p0C.Keys).length:Int)=((p0C.Items).length:Int)))) true (!x24)) (some (Fl.done false)) (some (Fl.go ()))) (some (Fl.done false))))))))):Option (Fl Bool Unit)).bind fun x1=>Fl.next x1 (fun j3=>(((eO n) p0C.Items p1o).bind fun x32=>some (!x32)))
noncomputable def qE:Nat→aE→Bool→Option Bool
 | 0,_,_=>none
 | n+1,p0x,jP =>
  ((qU n) p0x jP).bind fun x1=>some (!x1)
end
theorem nT:∀ n:Nat,(∀ {p0s:(List aE)}{jP:Bool}{z:Bool},eO n p0s jP=some z→dE Tryz.prog 176 [.c (PV.ls 5 cH p0s),.fn 177 [.box 0 0]] [[.c (.bool jP)]] (.c (.bool z)) [[.c (.bool jP)]])∧(∀ {p0s:(List aE)}{jP:Bool}{z:Int},fR n p0s jP=some z→dE Tryz.prog 205 [.c (PV.ls 5 cH p0s),.fn 177 [.box 0 0]] [[.c (.bool jP)]] (ci z) [[.c (.bool jP)]])∧(∀ {p0C:aE}{p1o:Bool}{z:Bool},qU n p0C p1o=some z→dE Tryz.prog 128 [.agg (AV.cs (fZ p0C)),.c (.bool p1o)] [] (.c (.bool z)) [])∧(∀ {p0x:aE}{jP:Bool}{z:Bool},qE n p0x jP=some z→dE Tryz.prog 177 [.agg (AV.cs (fZ p0x)),.box 0 0] [[.c (.bool jP)]] (.c (.bool z)) [[.c (.bool jP)]]):=by
 intro n
 induction n with
 | zero=>exact ⟨fun {p0s jP z} h=>absurd h (by simp [eO]),fun {p0s jP z} h=>absurd h (by simp [fR]),fun {p0C p1o z} h=>absurd h (by simp [qU]),fun {p0x jP z} h=>absurd h (by simp [qE])⟩
 | succ n ih =>
  obtain ⟨ih_slices_ContainsFunc_api_Value_api_Value_value_formed_1,ih_slices_IndexFunc_api_Value_api_Value_value_formed_1,ih_value_formed,ih_value_formed_1⟩:=ih
  refine ⟨?_,?_,?_,?_⟩
  ·
   intro p0s jP z h
   rw [eO] at h
   refine eJ (fn:=Tryz.f176) [0,1,4] (by kernel_rfl) Tryz.func176 r (by kernel_rfl) (by kernel_rfl)<|aT<|sB r<|aR (fr':=[(0,aL),(1,.fn _ [aF])]) r r<|aT<|mL r<|mV (v:=.fn _ [aF]) r<|bx h fun x1 y1 h2=>fF (v:=aI) (σ':=[[aB]]) [0] r (ih_slices_IndexFunc_api_Value_api_Value_value_formed_1 y1) r r ⟨lr,(aOW r ⟨lr,trivial⟩),trivial⟩ (aAx ⟨lr,trivial⟩ aH) r r r<|aW r (xD r r)<|sB r<|aR (fr':=[(4,aB)]) r r<|cB ?_
   obtain rfl:=sy h2
   exact bZ (rs':=[.tmp 4]) r<|cM (v:=aB) r<|bX<|aZ [] r r r lr (eU r aH)
  ·
   intro p0s jP z h
   rw [fR] at h
   refine eJ (fn:=Tryz.f205) [0,1,4,5,7,8,9,16] (by kernel_rfl) Tryz.func205 r (by kernel_rfl) (by kernel_rfl)<|aT<|sI r<|aR (fr':=[(0,aL),(1,.fn _ [aF])]) r r<|bC<|aT<|mL r<|aW r (iR aCa (fQ r))<|mI r<|aR (fr':=[(0,aL),(1,.fn _ [aF]),(7,aI),(8,aI)]) r r<|bx h fun x1 y1 h2=>kC pL (fun j3=>x1=Fl.go j3) (fun (j3:Unit)=>([]:Fr)) (fun (j3:Unit)=>([[.c (.bool jP)]]:St)) ?_ ?_
   ·
    refine dA<|jS _ (fun (s4:Int)=>([(0,.c (PV.ls 5 cH p0s)),(1,.fn 177 [aF]),(7,ci ((p0s).length:Int)),(8,ci s4)]:Fr)) (fun (s4:Int)=>([[.c (.bool jP)]]:St)) y1 (cR [] 1 r r r r kL4 (eU r aH)) ?_
    intro s4 st4 hs4 ho4
    unfold fL at hs4
    refine aT<|aW r (iJ r r)<|aR (fr':=[(0,aL),(1,.fn _ [aF]),(7,aI),(8,aI),(9,aB)]) r r<|bC<|eS hs4 r (fun b5 h5=>?_) (fun b5 h5=>?_)
    ·
     refine cE<|eA<|bC<|dA<|aT<|mI r<|sI r<|aR (fr':=[(0,aL),(1,.fn _ [aF]),(5,aI),(7,aI),(8,aI)]) r r<|aT<|mV (v:=.fn _ [aF]) r<|mL r<|mI r<|bx h5 fun x6 y6 h7=>aW r (rD (cs:=[PV.int _ _,PV.int _ _,PV.str _,PV.ls _ _ _,PV.ls _ _ _]) aDc (fQ r) r y6 (hF _))<|aW r (lV (us:=[PV.int _ _,PV.int _ _,PV.str _,PV.ls _ _ _,PV.ls _ _ _]) jG r r r)<|bx h7 fun x8 y8 h9=>fF (v:=aB) (σ':=[[aB]]) [0] r (ih_value_formed_1 y8) r r ⟨(bV r kR5),lr,trivial⟩ (aAx ⟨lr,trivial⟩ aH) r r r<|aR (fr':=[(0,aL),(1,.fn _ [aF]),(5,aI),(7,aI),(8,aI),(16,aB)]) r r<|eS h9 r (fun b10 h10=>?_) (fun b10 h10=>?_)
     ·
      refine aT<|mI r<|sI r<|aR (fr':=[(4,aI)]) r r<|cB<|cL<|aV<|aV<|cL<|aV<|aV ?_
      have h11:=gN h10 ho4
      have h12:=hU h11 h2
      obtain rfl:=sy h12
      exact bZ (rs':=[.tmp 4]) r<|cM (v:=aI) r<|bX<|aZ [] r r r lr (eU r aH)
     ·
      exact cE<|eW<|eA<|bN<|aW r (iH r r)<|mI r<|fG (fr':=[(0,aL),(1,.fn _ [aF]),(5,aI),(7,aI),(8,aI),(16,aB)]) r<|e_l _ (sy h10) (cR [] 1 r r r r kL4 (eU r aH))
    ·
     refine kF<|eL<|eL<|iM ?_
     have h14:=gN h5 ho4
     exact tB _ (sy h14) (cR [] 1 r r r r trivial (eU r aH))
   ·
    intro j3 hj15
    have h15:=qP hj15 h2
    refine eA<|aT<|sI r<|aR (fr':=[(4,aI)]) r r<|cB ?_
    obtain rfl:=sy h15
    exact bZ (rs':=[.tmp 4]) r<|cM (v:=aI) r<|bX<|aZ [] r r r lr (eU r aH)
  ·
   intro p0C p1o z h
   rw [qU] at h
   refine eJ (fn:=Tryz.f128) [0,1,2,3,4,5,6,7,8,24,25,41,63,75,95,107,115,116,136] (by kernel_rfl) Tryz.func128 r (by kernel_rfl) (by kernel_rfl)<|aT<|jB (v:=.agg cK) (n:=0) (cs:=cK) (σ':=[cK]) r r r r r<|jB (v:=aB) (n:=1) (cs:=[aB]) (σ':=[cK,[aB]]) r r r r r<|sB r<|aR (fr':=[(2,aF),(3,bK)]) r r<|aT<|aW r (bH xR r)<|aW r (aK (v:=aI) gZ r r r)<|aW r (kD r r)<|sB r<|aR (fr':=[(2,aF),(3,bK),(5,aB)]) r r<|aT<|aW r (bH aA7 r)<|aW r (aK (v:=aS) oG r r r)<|aW r (vJ r r)<|sB r<|aR (fr':=[(2,aF),(3,bK),(5,aB),(6,aB)]) r r<|aT<|aW r (bH pE r)<|aW r (aK (v:=aL) zT r r r)<|aW r (iR aCa (fQ r))<|aW r (uW r r)<|sB r<|aR (fr':=[(2,aF),(3,bK),(5,aB),(6,aB),(7,aB)]) r r<|aT<|aW r (bH vO r)<|aW r (aK (v:=aL) wD r r r)<|aW r (iR aBi (fQ r))<|aW r (uW r r)<|sB r<|aR (fr':=[(2,aF),(3,bK),(5,aB),(6,aB),(7,aB),(8,aB)]) r r<|bx h fun x1 y1 h2=>rH (fun j3=>x1=Fl.go j3) (fun (j3:Unit)=>([(2,aF),(3,bK)]:Fr)) (fun (j3:Unit)=>([[ci p0C.Kind,ci p0C.Int,.c (.str p0C.Text),.c (PV.ls 5 cH p0C.Items),.c (PV.ls 1 jE p0C.Keys)],[.c (.bool p1o)]]:St)) ?_ ?_
   ·
    refine aT<|aW r (bH sP r)<|aW r (aK (v:=aI) gZ r r r)<|aR (fr':=[(2,aF),(3,bK),(5,aB),(6,aB),(7,aB),(8,aB),(24,aI)]) r r<|dA<|aT<|aW r (dZ r r)<|sB r<|aR (fr':=[(2,aF),(3,bK),(5,aB),(6,aB),(7,aB),(8,aB),(24,aI),(25,aB)]) r r<|eS y1 r (fun b4 h4=>?_) (fun b4 h4=>?_)
    ·
     refine aT<|mB r<|aW r (hY r)<|mB r<|og r r r (fun u=>(bP (v:=aB) r))<|og r r r (fun u=>(hY (gx r u)))<|aW r (cD r r r (fun e=>hD e))<|mB r<|og r r r (fun u=>(bP (v:=aB) r))<|og r r r (fun u=>(hY (gx r u)))<|aW r (cD r r r (fun e=>hD e))<|mB r<|og r r r (fun u=>(bP (v:=aB) r))<|og r r r (fun u=>(hY (gx r u)))<|aW r (cD r r r (fun e=>hD e))<|sB r<|aR (fr':=[(4,aB)]) r r<|cB<|cL<|aV ?_
     have h5:=hU h4 h2
     obtain rfl:=sy h5
     exact bZ (rs':=[.tmp 4]) r<|cM (v:=aB) r<|bX<|aZ [] r r r lr aH
    ·
     refine aT<|aW r (dZ r r)<|sB r<|aR (fr':=[(2,aF),(3,bK),(5,aB),(6,aB),(7,aB),(8,aB),(24,aI),(41,aB)]) r r<|eS h4 r (fun b7 h7=>?_) (fun b7 h7=>?_)
     ·
      refine aT<|aW r (bH xR r)<|aW r (aK (v:=aI) gZ r r r)<|aW r (dZ r r)<|mB r<|og r r r (fun u=>(bH xR r))<|og r r r (fun u=>(aK (v:=aI) gZ (gx r u) r r))<|og r r r (fun u=>(dZ (gx r u) r))<|aW r (dD r r r (fun e=>hD e))<|mB r<|og r r r (fun u=>(bP (v:=aB) r))<|og r r r (fun u=>(hY (gx r u)))<|aW r (cD r r r (fun e=>hD e))<|mB r<|og r r r (fun u=>(bP (v:=aB) r))<|og r r r (fun u=>(hY (gx r u)))<|aW r (cD r r r (fun e=>hD e))<|mB r<|og r r r (fun u=>(bP (v:=aB) r))<|og r r r (fun u=>(hY (gx r u)))<|aW r (cD r r r (fun e=>hD e))<|sB r<|aR (fr':=[(4,aB)]) r r<|cB<|cL<|aV ?_
      have h8:=hU h7 h2
      obtain rfl:=sy h8
      exact bZ (rs':=[.tmp 4]) r<|cM (v:=aB) r<|bX<|aZ [] r r r lr aH
     ·
      refine aT<|aW r (dZ r r)<|sB r<|aR (fr':=[(2,aF),(3,bK),(5,aB),(6,aB),(7,aB),(8,aB),(24,aI),(63,aB)]) r r<|eS h7 r (fun b10 h10=>?_) (fun b10 h10=>?_)
      ·
       refine aT<|mB r<|aW r (hY r)<|mB r<|og r r r (fun u=>(bP (v:=aB) r))<|og r r r (fun u=>(hY (gx r u)))<|aW r (cD r r r (fun e=>hD e))<|mB r<|og r r r (fun u=>(bP (v:=aB) r))<|og r r r (fun u=>(hY (gx r u)))<|aW r (cD r r r (fun e=>hD e))<|sB r<|aR (fr':=[(4,aB)]) r r<|cB<|cL<|aV ?_
       have h11:=hU h10 h2
       obtain rfl:=sy h11
       exact bZ (rs':=[.tmp 4]) r<|cM (v:=aB) r<|bX<|aZ [] r r r lr aH
      ·
       refine aT<|aW r (dZ r r)<|sB r<|aR (fr':=[(2,aF),(3,bK),(5,aB),(6,aB),(7,aB),(8,aB),(24,aI),(75,aB)]) r r<|eS h10 r (fun b13 h13=>?_) (fun b13 h13=>?_)
       ·
        refine aT<|aW r (aK (v:=aB) tv4 r r r)<|mB r<|og r r r (fun u=>(bH xR r))<|og r r r (fun u=>(aK (v:=aI) gZ (gx r u) r r))<|og r r r (fun u=>(xD (gx r u) r))<|aW r (cD r r r (fun e=>hD e))<|mB r<|og r r r (fun u=>(bP (v:=aB) r))<|og r r r (fun u=>(hY (gx r u)))<|aW r (cD r r r (fun e=>hD e))<|mB r<|og r r r (fun u=>(bP (v:=aB) r))<|og r r r (fun u=>(hY (gx r u)))<|aW r (cD r r r (fun e=>hD e))<|mB r<|og r r r (fun u=>(bP (v:=aB) r))<|og r r r (fun u=>(hY (gx r u)))<|aW r (cD r r r (fun e=>hD e))<|sB r<|aR (fr':=[(4,aB)]) r r<|cB<|cL<|aV ?_
        have h14:=hU h13 h2
        obtain rfl:=sy h14
        exact bZ (rs':=[.tmp 4]) r<|cM (v:=aB) r<|bX<|aZ [] r r r lr aH
       ·
        refine aT<|aW r (dZ r r)<|sB r<|aR (fr':=[(2,aF),(3,bK),(5,aB),(6,aB),(7,aB),(8,aB),(24,aI),(95,aB)]) r r<|eS h13 r (fun b16 h16=>?_) (fun b16 h16=>?_)
        ·
         refine aT<|mB r<|aW r (hY r)<|mB r<|og r r r (fun u=>(bP (v:=aB) r))<|og r r r (fun u=>(hY (gx r u)))<|aW r (cD r r r (fun e=>hD e))<|mB r<|og r r r (fun u=>(bP (v:=aB) r))<|og r r r (fun u=>(hY (gx r u)))<|aW r (cD r r r (fun e=>hD e))<|sB r<|aR (fr':=[(4,aB)]) r r<|cB<|cL<|aV ?_
         have h17:=hU h16 h2
         obtain rfl:=sy h17
         exact bZ (rs':=[.tmp 4]) r<|cM (v:=aB) r<|bX<|aZ [] r r r lr aH
        ·
         refine aT<|aW r (dZ r r)<|sB r<|aR (fr':=[(2,aF),(3,bK),(5,aB),(6,aB),(8,aB),(24,aI),(107,aB)]) r r<|eS h16 r (fun b19 h19=>?_) (fun b19 h19=>?_)
         ·
          refine aT<|mB r<|mB r<|og r r r (fun u=>(bP (v:=aB) r))<|aW r (dD r r r (fun e=>hD e))<|mB r<|og r r r (fun u=>(bP (v:=aB) r))<|aW r (dD r r r (fun e=>hD e))<|aR (fr':=[(2,aF),(3,bK),(115,aB)]) r r<|eS h19 r (fun b20 h20=>?_) (fun b20 h20=>?_)
          ·
           refine aT<|sB r<|aR (fr':=[(4,aB)]) r r<|cB<|cL<|aV ?_
           have h21:=hU h20 h2
           obtain rfl:=sy h21
           exact bZ (rs':=[.tmp 4]) r<|cM (v:=aB) r<|bX<|aZ [] r r r lr aH
          ·
           exact cE<|eW<|tB _ (sy h20) (cR [] 2 r r r r pV (eU r (eU r aH)))
         ·
          refine aT<|aW r (dZ r r)<|sB r<|aR (fr':=[(2,aF),(3,bK),(5,aB),(6,aB),(116,aB)]) r r<|eS h19 r (fun b23 h23=>?_) (fun b23 h23=>?_)
          ·
           refine aT<|mB r<|mB r<|og r r r (fun u=>(bP (v:=aB) r))<|aW r (dD r r r (fun e=>hD e))<|mB r<|og r r r (fun u=>(bH vO r))<|og r r r (fun u=>(aK (v:=aL) wD (gx r u) r r))<|og r r r (fun u=>(iR aBi (fQ (gx r u))))<|og r r r (fun u=>(bH pE r))<|og r r r (fun u=>(aK (v:=aL) zT (gx r u) r r))<|og r r r (fun u=>(iR aCa (fQ (gx r u))))<|og r r r (fun u=>(kD (gx r u) (gx r u)))<|aW r (dD r r r (fun e=>hD e))<|mB r<|og r r r (fun u=>(bH vO r))<|og r r r (fun u=>(aK (v:=aL) wD (gx r u) r r))<|bx h23 fun x24 y24 h25=>zB r r (fun u=>bR (v:=aB) r (aEI (eQ y24 u)) ⟨(fY (gx r u) lr),trivial⟩ (iN (by repeat (first | exact gK | refine bI r ?_ | refine bI (vT r) ?_ | refine bI vS ?_))) r r) ?_
           refine og r r r (fun u=>(hY (gx r u)))<|aW r (dD r r r (fun e=>hD e))<|aR (fr':=[(2,aF),(3,bK),(136,aB)]) r r<|eS h25 r (fun b26 h26=>?_) (fun b26 h26=>?_)
           ·
            refine aT<|sB r<|aR (fr':=[(4,aB)]) r r<|cB<|cL<|aV ?_
            have h27:=hU h26 h2
            obtain rfl:=sy h27
            exact bZ (rs':=[.tmp 4]) r<|cM (v:=aB) r<|bX<|aZ [] r r r lr aH
           ·
            exact cE<|eW<|tB _ (sy h26) (cR [] 2 r r r r pV (eU r (eU r aH)))
          ·
           refine aT<|sB r<|aR (fr':=[(4,aB)]) r r<|cB<|cL<|aV ?_
           have h29:=hU h23 h2
           obtain rfl:=sy h29
           exact bZ (rs':=[.tmp 4]) r<|cM (v:=aB) r<|bX<|aZ [] r r r lr aH
   ·
    intro j3 hj31
    have h31:=qP hj31 h2
    refine aT<|aW r (bH pE r)<|aW r (aK (v:=aL) zT r r r)<|aW r (aRs (cs:=[bK]) r r)<|bx h31 fun x32 y32 h33=>fF (v:=aB) (σ':=[cK,[aB]]) [1] r (ih_slices_ContainsFunc_api_Value_api_Value_value_formed_1 y32) r r ⟨lr,(aOW r ⟨lr,trivial⟩),trivial⟩ (aAx ⟨lr,trivial⟩ aH) r r r<|aW r (hY r)<|sB r<|aR (fr':=[(4,aB)]) r r<|cB ?_
    obtain rfl:=sy h33
    exact bZ (rs':=[.tmp 4]) r<|cM (v:=aB) r<|bX<|aZ [] r r r lr aH
  ·
   intro p0x jP z h
   rw [qE] at h
   refine eJ (fn:=Tryz.f177) [0,1,2,3] (by kernel_rfl) Tryz.func177 r (by kernel_rfl) (by kernel_rfl)<|aT<|jB (v:=.agg cK) (n:=1) (cs:=cK) (σ':=[[aB],cK]) r r r r r<|sB r<|aR (fr':=[(1,aF),(2,bK)]) r r<|aT<|aW r (dN (us:=cK) jG r r r r)<|aW r (aK (v:=aB) tv4 r r r)<|bx h fun x1 y1 h2=>qB (bR (v:=aB) r (ih_value_formed y1) ⟨(bV r kR5),lr,trivial⟩ r r r)<|aW r (hY r)<|sB r<|aR (fr':=[(3,aB)]) r r<|cB ?_
   obtain rfl:=sy h2
   exact bZ (rs':=[.tmp 3]) r<|cM (v:=aB) r<|bX<|aZ [] r r r lr (eU r aH)
noncomputable def zX (p0C:aE) (p1o:Bool):Option Bool:=lim fun n=>qU n p0C p1o
theorem aCV {p0C:aE}{p1o:Bool}{z:Bool} (h:zX p0C p1o=some z):dE Tryz.prog 128 [.agg (AV.cs (fZ p0C)),.c (.bool p1o)] [] (.c (.bool z)) []:=by
 obtain ⟨n,hn⟩:=wK h
 exact (nT n).2.2.1 hn
noncomputable def mU (aBe:(List UInt8)→aE→Option (List UInt8)) (p1v:aE) (s34:((List UInt8) × Int)):Option (dG ((List UInt8) × Int) (List UInt8)) :=
 cond (decide (s34.2<((p1v.Items).length:Int))) ((nF p1v.Items s34.2).bind fun x36=>cond (decide (p1v.Kind=5)) ((nF p1v.Keys s34.2).bind fun x39=>(kX s34.1 x39).bind fun x41=>(aBe x41 x36).bind fun x43=>some (dG.next (x43,(IntKind.wrap .i64 (s34.2+1))))) ((aBe s34.1 x36).bind fun x45=>some (dG.next (x45,(IntKind.wrap .i64 (s34.2+1)))))) (some (dG.out s34.1))
noncomputable def pH:Nat→(List UInt8)→aE→Option (List UInt8)
 | 0,_,_=>none
 | n+1,p0b,p1v =>
  (gV p0b p1v.Kind).bind fun x1=>((((cond (decide (p1v.Kind=1)) (some (decide (p1v.Kind=1))) (cond (decide (p1v.Kind=2)) (some (decide (p1v.Kind=2))) (some (decide (p1v.Kind=6))))):Option Bool).bind fun x6=>(cond x6 ((gV x1 p1v.Int).bind fun x13=>some (Fl.done x13)) (cond (decide (p1v.Kind=3)) ((kX x1 p1v.Text).bind fun x18=>some (Fl.done x18)) (((cond (decide (p1v.Kind=4)) (some (decide (p1v.Kind=4))) (some (decide (p1v.Kind=5)))):Option Bool).bind fun x22=>(cond x22 ((gV x1 ((p1v.Items).length:Int)).bind fun x28=>some (Fl.go x28)) (some (Fl.go x1))))))):Option (Fl (List UInt8) (List UInt8))).bind fun x3=>Fl.next x3 (fun j5=>((fX (mU (pH n) p1v) ((j5,0))).bind fun x31=>(some x31)))
theorem aF5:∀ n:Nat,(∀ {p0b:(List UInt8)}{p1v:aE}{z:(List UInt8)},pH n p0b p1v=some z→dE Tryz.prog 129 [.c (PV.ls 1 jK p0b),.agg (AV.cs (fZ p1v))] [] (AV.os 0 1 jK z) []):=by
 intro n
 induction n with
 | zero=>exact fun {p0b p1v z} h=>absurd h (by simp [pH])
 | succ n ih =>
  have ih_value_encode:=@ih
  intro p0b p1v z h
  rw [pH] at h
  refine eJ (fn:=Tryz.f129) [0,1,3,4,5,6,12,13,21,27,36,37,38,39,45] (by kernel_rfl) Tryz.func129 r (by kernel_rfl) (by kernel_rfl)<|aT<|jB (v:=.agg cK) (n:=0) (cs:=cK) (σ':=[cK]) r r r r r<|sV (v:=AV.nil) r<|aR (fr':=[(0,aL),(3,aF)]) r r<|aT<|mL r<|aW r (bH sP r)<|aW r (aK (v:=aI) gZ r r r)<|bx h fun x1 y1 h2=>qB (bR (v:=aO) r (gX y1) pV r r r)<|sV (v:=aO) r<|aR (fr':=[(0,aO),(3,aF)]) r r<|bx h2 fun x3 y3 h4=>rH (fun j5=>x3=Fl.go j5) (fun (j5:(List UInt8))=>([(0,AV.os 0 1 jK j5),(3,aF)]:Fr)) (fun (j5:(List UInt8))=>([[ci p1v.Kind,ci p1v.Int,.c (.str p1v.Text),.c (PV.ls 5 cH p1v.Items),.c (PV.ls 1 jE p1v.Keys)]]:St)) ?_ ?_
  ·
   refine aT<|aW r (bH sP r)<|aW r (aK (v:=aI) gZ r r r)<|aR (fr':=[(0,aO),(3,aF),(12,aI)]) r r<|dA<|bx y3 fun x6 y6 h7=>rH (fun j8=>x6=j8) (fun (j8:Bool)=>([(0,AV.os 0 1 jK x1),(3,aF),(12,ci p1v.Kind),(13,.c (.bool j8))]:Fr)) (fun (j8:Bool)=>([[ci p1v.Kind,ci p1v.Int,.c (.str p1v.Text),.c (PV.ls 5 cH p1v.Items),.c (PV.ls 1 jE p1v.Keys)]]:St)) ?_ ?_
   ·
    refine aT<|aW r (dZ r r)<|sB r<|aR (fr':=[(0,aO),(3,aF),(12,aI),(13,aB)]) r r<|eS y6 r (fun b9 h9=>?_) (fun b9 h9=>?_)
    ·
     exact cE<|tB _ (sy h9) (cR [160] 1 r r r r kL4 (eU r aH))
    ·
     refine aT<|aW r (dZ r r)<|sB r<|aR (fr':=[(0,aO),(3,aF),(12,aI),(13,aB)]) r r<|eS h9 r (fun b10 h10=>?_) (fun b10 h10=>?_)
     ·
      exact cE<|tB _ (sy h10) (cR [160] 1 r r r r kL4 (eU r aH))
     ·
      exact bN<|aW r (dZ r r)<|sB r<|fG (fr':=[(0,aO),(3,aF),(12,aI),(13,aB)]) r<|tB _ (sy h10) (cR [160] 1 r r r r kL4 (eU r aH))
   ·
    intro j8 hj11
    subst hj11
    refine eS h7 r (fun b12 h12=>?_) (fun b12 h12=>?_)
    ·
     refine aT<|mV (v:=aO) r<|aW r (bH xR r)<|aW r (aK (v:=aI) gZ r r r)<|bx h12 fun x13 y13 h14=>qB (bR (v:=aO) r (gX y13) pV r r r)<|sV (v:=aO) r<|aR (fr':=[(4,aO)]) r r<|cB<|cL<|aV ?_
     have h15:=hU h14 h4
     obtain rfl:=sy h15
     exact bZ (rs':=[.tmp 4]) r<|cM (v:=aO) r<|bX<|aZ [320] r r r lr aH
    ·
     refine aT<|aW r (dZ r r)<|sB r<|aR (fr':=[(0,aO),(3,aF),(12,aI),(21,aB)]) r r<|eS h12 r (fun b17 h17=>?_) (fun b17 h17=>?_)
     ·
      refine aT<|mV (v:=aO) r<|aW r (bH aA7 r)<|aW r (aK (v:=aS) oG r r r)<|bx h17 fun x18 y18 h19=>qB (bR (v:=aO) r (oE y18) pV r r r)<|sV (v:=aO) r<|aR (fr':=[(4,aO)]) r r<|cB<|cL<|aV ?_
      have h20:=hU h19 h4
      obtain rfl:=sy h20
      exact bZ (rs':=[.tmp 4]) r<|cM (v:=aO) r<|bX<|aZ [416] r r r lr aH
     ·
      obtain ⟨x22,y22,h23⟩:=rB h17
      refine rH (fun j24=>x22=j24) (fun (j24:Bool)=>([(0,AV.os 0 1 jK x1),(3,aF),(27,.c (.bool j24))]:Fr)) (fun (j24:Bool)=>([[ci p1v.Kind,ci p1v.Int,.c (.str p1v.Text),.c (PV.ls 5 cH p1v.Items),.c (PV.ls 1 jE p1v.Keys)]]:St)) ?_ ?_
      ·
       refine aT<|aW r (dZ r r)<|sB r<|aR (fr':=[(0,aO),(3,aF),(12,aI),(27,aB)]) r r<|eS y22 r (fun b25 h25=>?_) (fun b25 h25=>?_)
       ·
        exact cE<|tB _ (sy h25) (cR [0] 1 r r r r wE (eU r aH))
       ·
        exact bN<|aW r (dZ r r)<|sB r<|fG (fr':=[(0,aO),(3,aF),(12,aI),(27,aB)]) r<|tB _ (sy h25) (cR [0] 1 r r r r wE (eU r aH))
      ·
       intro j24 hj26
       subst hj26
       refine eS h23 r (fun b27 h27=>?_) (fun b27 h27=>?_)
       ·
        exact bN<|mV (v:=aO) r<|aW r (bH pE r)<|aW r (aK (v:=aL) zT r r r)<|aW r (iR aCa (fQ r))<|bx h27 fun x28 y28 h29=>qB (bR (v:=aO) r (gX y28) pV r r r)<|sV (v:=aO) r<|fG (fr':=[(0,aO),(3,aF),(27,aB)]) r<|eW<|tB _ (sy h29) (cR [544] 1 r r r r pV (eU r aH))
       ·
        exact cE<|eW<|tB _ (sy h27) (cR [0] 1 r r r r pV (eU r aH))
  ·
   intro j5 hj30
   have h30:=qP hj30 h4
   refine bC<|aT<|aW r (bH pE r)<|aW r (aK (v:=aL) zT r r r)<|aW r (iR aCa (fQ r))<|mI r<|aR (fr':=[(0,aO),(3,aF),(36,aL),(37,aI),(38,aI)]) r r<|bx h30 fun x31 y31 h32=>kC pL (fun j33=>x31=j33) (fun (j33:(List UInt8))=>([(0,AV.os 0 1 jK j33)]:Fr)) (fun (j33:(List UInt8))=>([[ci p1v.Kind,ci p1v.Int,.c (.str p1v.Text),.c (PV.ls 5 cH p1v.Items),.c (PV.ls 1 jE p1v.Keys)]]:St)) ?_ ?_
   ·
    refine dA<|jS _ (fun (s34:((List UInt8) × Int))=>([(0,AV.os 0 1 jK s34.1),(3,aF),(36,.c (PV.ls 5 cH p1v.Items)),(37,ci ((p1v.Items).length:Int)),(38,ci s34.2)]:Fr)) (fun (s34:((List UInt8) × Int))=>([[ci p1v.Kind,ci p1v.Int,.c (.str p1v.Text),.c (PV.ls 5 cH p1v.Items),.c (PV.ls 1 jE p1v.Keys)]]:St)) y31 (cR [0] 1 r r r r kL5 (eU r aH)) ?_
    intro s34 st34 hs34 ho34
    unfold mU at hs34
    refine aT<|aW r (iJ r r)<|aR (fr':=[(0,aO),(3,aF),(36,aL),(37,aI),(38,aI),(39,aB)]) r r<|bC<|eS hs34 r (fun b35 h35=>?_) (fun b35 h35=>?_)
    ·
     refine cE<|eA<|bC<|dA<|aT<|mI r<|bx h35 fun x36 y36 h37=>aW r (rD (cs:=[PV.int _ _,PV.int _ _,PV.str _,PV.ls _ _ _,PV.ls _ _ _]) aDc (fQ r) r y36 (hF _))<|aW r (lV (us:=[PV.int _ _,PV.int _ _,PV.str _,PV.ls _ _ _,PV.ls _ _ _]) jG r r r)<|kT (n:=1) (cs:=cJ) (σ':=[cK,cJ]) aF3 r r r<|sI r<|cY (v:=.agg cK) (us:=cK) (cs:=cJ) (σ':=[cK,cK]) r jG r r r r r r r r<|aR (fr':=[(0,aO),(3,aF),(5,aI),(6,bK),(36,aL),(37,aI),(38,aI)]) r r<|bC<|aT<|aW r (bH sP r)<|aW r (aK (v:=aI) gZ r r r)<|aW r (dZ r r)<|aR (fr':=[(0,aO),(3,aF),(5,aI),(6,bK),(36,aL),(37,aI),(38,aI),(45,aB)]) r r<|eS h37 r (fun b38 h38=>?_) (fun b38 h38=>?_)
     ·
      exact bN<|mV (v:=aO) r<|aW r (bH vO r)<|aW r (aK (v:=aL) wD r r r)<|mI r<|bx h38 fun x39 y39 h40=>aW r (rD (cs:=[PV.str _]) aBQ (fQ r) r y39 r)<|aW r (nR (p:=PV.str _) oG r r)<|bx h40 fun x41 y41 h42=>qB (bR (v:=aO) r (oE y41) pV r r r)<|sV (v:=aO) r<|aR (fr':=[(0,aO),(3,aF),(6,bK),(36,aL),(37,aI),(38,aI)]) r r<|bN<|mV (v:=aO) r<|aW r (dN (us:=cK) jG r r r r)<|bx h42 fun x43 y43 h44=>qB (bR (v:=aO) r (ih_value_encode y43) ⟨lr,(bV r kR5),trivial⟩ r r r)<|sV (v:=aO) r<|fG (fr':=[(0,aO),(3,aF),(6,bK),(36,aL),(37,aI),(38,aI)]) r<|eW<|eA<|bN<|aW r (iH r r)<|mI r<|fG (fr':=[(0,aO),(3,aF),(6,bK),(36,aL),(37,aI),(38,aI)]) r<|e_l _ (sy h44) (cR [880] 1 r r r r kL5 (eU r aH))
     ·
      exact cE<|eA<|bN<|mV (v:=aO) r<|aW r (dN (us:=cK) jG r r r r)<|bx h38 fun x45 y45 h46=>qB (bR (v:=aO) r (ih_value_encode y45) ⟨lr,(bV r kR5),trivial⟩ r r r)<|sV (v:=aO) r<|fG (fr':=[(0,aO),(3,aF),(5,aI),(6,bK),(36,aL),(37,aI),(38,aI),(45,aB)]) r<|eW<|eA<|bN<|aW r (iH r r)<|mI r<|fG (fr':=[(0,aO),(3,aF),(5,aI),(6,bK),(36,aL),(37,aI),(38,aI),(45,aB)]) r<|e_l _ (sy h46) (cR [880] 1 r r r r kL5 (eU r aH))
    ·
     refine kF<|eL<|eL<|iM ?_
     have h47:=gN h35 ho34
     exact tB _ (sy h47) (cR [0] 1 r r r r ⟨lr,trivial⟩ (eU r aH))
   ·
    intro j33 hj48
    subst hj48
    refine eA<|aT<|mV (v:=aO) r<|sV (v:=aO) r<|aR (fr':=[(4,aO)]) r r<|cB ?_
    obtain rfl:=sy h32
    exact bZ (rs':=[.tmp 4]) r<|cM (v:=aO) r<|bX<|aZ [0] r r r lr aH
noncomputable def aBT (p0b:(List UInt8)) (p1v:aE):Option (List UInt8):=lim fun n=>pH n p0b p1v
theorem aHJ {p0b:(List UInt8)}{p1v:aE}{z:(List UInt8)} (h:aBT p0b p1v=some z):dE Tryz.prog 129 [.c (PV.ls 1 jK p0b),.agg (AV.cs (fZ p1v))] [] (AV.os 0 1 jK z) []:=by
 obtain ⟨n,hn⟩:=wK h
 exact (aF5 n) hn
noncomputable def uH (p0b:(List UInt8)) (p1v:aE):Option (List UInt8) :=
 (jA p0b).bind fun x1=>(zX p1v true).bind fun x3=>cond (!x3) (some x1) ((aBT x1 p1v).bind fun x7=>some x7)
theorem aCU {p0b:(List UInt8)}{p1v:aE}{z:(List UInt8)} (h:uH p0b p1v=some z):dE Tryz.prog 55 [.c (PV.ls 1 jK p0b),.agg (AV.cs (fZ p1v))] [] (AV.os 0 1 jK z) []:=by
 unfold uH at h
 refine eJ (fn:=Tryz.f55) [0,1,3,4,5,10] (by kernel_rfl) Tryz.func55 r (by kernel_rfl) (by kernel_rfl)<|aT<|jB (v:=.agg cK) (n:=0) (cs:=cK) (σ':=[cK]) r r r r r<|sV (v:=AV.nil) r<|aR (fr':=[(0,aL),(3,aF)]) r r<|aT<|mL r<|bx h fun x1 y1 h2=>qB (bR (v:=aO) r (nU y1) ⟨lr,trivial⟩ r r r)<|sV (v:=aO) r<|aR (fr':=[(3,aF),(5,aO)]) r r<|bC<|aT<|aW r (dN (us:=cK) jG r r r r)<|bx h2 fun x3 y3 h4=>qB (bR (v:=aB) r (aCV y3) ⟨(bV r kR5),lr,trivial⟩ r r r)<|aW r (hY r)<|aR (fr':=[(3,aF),(5,aO),(10,aB)]) r r<|eS h4 r (fun b5 h5=>?_) (fun b5 h5=>?_)
 ·
  refine aT<|mV (v:=aO) r<|sV (v:=aO) r<|aR (fr':=[(4,aO)]) r r<|cB<|aV ?_
  obtain rfl:=sy h5
  exact bZ (rs':=[.tmp 4]) r<|cM (v:=aO) r<|bX<|aZ [112] r r r lr aH
 ·
  refine cE<|eA<|aT<|mV (v:=aO) r<|aW r (dN (us:=cK) jG r r r r)<|bx h5 fun x7 y7 h8=>qB (bR (v:=aO) r (aHJ y7) ⟨lr,(bV r kR5),trivial⟩ r r r)<|sV (v:=aO) r<|aR (fr':=[(4,aO)]) r r<|cB ?_
  obtain rfl:=sy h8
  exact bZ (rs':=[.tmp 4]) r<|cM (v:=aO) r<|bX<|aZ [224] r r r lr aH
noncomputable def lC (p0n:Int) (tK:Int) (pM:Int):Option Bool :=
 some (cond (decide (tK≤p0n)) (decide (p0n≤pM)) false)
theorem mJ {p0n:Int}{tK:Int}{pM:Int}{z:Bool} (h:lC p0n tK pM=some z):dE Tryz.prog 148 [ci p0n,ci tK,ci pM] [] (.c (.bool z)) []:=by
 unfold lC at h
 refine eJ (fn:=Tryz.f148) [0,1,2,6] (by kernel_rfl) Tryz.func148 r (by kernel_rfl) (by kernel_rfl)<|aT<|sB r<|aR (fr':=[(0,aI),(1,aI),(2,aI)]) r r<|aT<|mI r<|mI r<|aW r (xD r r)<|mB r<|og r r r (fun u=>(bP (v:=aI) r))<|og r r r (fun u=>(bP (v:=aI) r))<|og r r r (fun u=>(aAn (gx r u) (gx r u)))<|aW r (cD r r r (fun e=>hD e))<|sB r<|aR (fr':=[(6,aB)]) r r<|cB ?_
 obtain rfl:=sy h
 exact bZ (rs':=[.tmp 6]) r<|cM (v:=aB) r<|bX<|aZ [] r r r lr aH
noncomputable def yF (p0c:Int):Option Bool :=
 some (cond (cond (cond (decide (97≤p0c)) (decide (p0c≤122)) false) true (cond (decide (65≤p0c)) (decide (p0c≤90)) false)) true (decide (p0c=95)))
theorem aIc {p0c:Int}{z:Bool} (h:yF p0c=some z):dE Tryz.prog 199 [.c (.int .u8 p0c)] [] (.c (.bool z)) []:=by
 unfold yF at h
 refine eJ (fn:=Tryz.f199) [0,2] (by kernel_rfl) Tryz.func199 r (by kernel_rfl) (by kernel_rfl)<|aT<|sB r<|aR (fr':=[(0,aI)]) r r<|aT<|mI r<|aW r (xD r r)<|mB r<|og r r r (fun u=>(bP (v:=aI) r))<|og r r r (fun u=>(aAn (gx r u) r))<|aW r (cD r r r (fun e=>hD e))<|mB r<|og r r r (fun u=>(bP (v:=aI) r))<|og r r r (fun u=>(xD (gx r u) r))<|og r r r (fun u=>(bP (v:=aB) (gx r u)))<|hS r r (fun u=>iG r (bP (v:=aI) r))<|hS r r (fun u=>iG r (aAn (gx r u) r))<|og r r r (fun u=>(cD (gx r u) r r (fun e=>wC u (hD e))))<|aW r (dD r r r (fun e=>hD e))<|mB r<|og r r r (fun u=>(bP (v:=aI) r))<|og r r r (fun u=>(dZ (gx r u) r))<|aW r (dD r r r (fun e=>hD e))<|sB r<|aR (fr':=[(2,aB)]) r r<|cB ?_
 obtain rfl:=sy h
 exact bZ (rs':=[.tmp 2]) r<|cM (v:=aB) r<|bX<|aZ [] r r r lr aH
noncomputable def xU (p0s:(List UInt8)) (s6:Int):Option (dG Int (Fl Bool Unit)) :=
 cond (decide (s6<((p0s).length:Int))) ((nF p0s s6).bind fun x8=>(yF ((x8).toNat:Int)).bind fun x10=>(gd (((!x10)==true)&&((decide (s6=0))==false)) (nF p0s s6)).bind fun x12=>(gd (((!x10)==true)&&((cond (decide (s6=0)) true (decide (((x12).toNat:Int)<48)))==false)) (nF p0s s6)).bind fun x14=>cond (cond (!x10) (cond (cond (decide (s6=0)) true (decide (((x12).toNat:Int)<48))) true (decide (57<((x14).toNat:Int)))) false) (some (dG.out (Fl.done false))) (some (dG.next (IntKind.wrap .i64 (s6+1))))) (some (dG.out (Fl.go ())))
noncomputable def tJ (p0s:(List UInt8)):Option Bool :=
 cond (cond (decide (p0s=([]:List UInt8))) true (decide (64<((p0s).length:Int)))) (some false) ((fX (xU p0s) (0)).bind fun x3=>Fl.next x3 (fun j5=>(some true)))
theorem zY {p0s:(List UInt8)}{z:Bool} (h:tJ p0s=some z):dE Tryz.prog 167 [.c (.str p0s)] [] (.c (.bool z)) []:=by
 unfold tJ at h
 refine eJ (fn:=Tryz.f167) [0,2,3,10,12,13,14,36] (by kernel_rfl) Tryz.func167 r (by kernel_rfl) (by kernel_rfl)<|aT<|sB r<|aR (fr':=[(0,aS)]) r r<|bC<|aT<|mS r<|aW r (oS r r)<|mB r<|og r r r (fun u=>(bP (v:=aS) r))<|og r r r (fun u=>(rN zG (gx r u)))<|og r r r (fun u=>(uW (gx r u) r))<|aW r (dD r r r (fun e=>hD e))<|aR (fr':=[(0,aS),(10,aB)]) r r<|eS h r (fun b1 h1=>?_) (fun b1 h1=>?_)
 ·
  refine aT<|sB r<|aR (fr':=[(2,aB)]) r r<|cB<|aV ?_
  obtain rfl:=sy h1
  exact bZ (rs':=[.tmp 2]) r<|cM (v:=aB) r<|bX<|aZ [] r r r lr aH
 ·
  refine cE<|eA<|bC<|aT<|mS r<|aW r (rN zG r)<|mI r<|aR (fr':=[(0,aS),(12,aI),(13,aI)]) r r<|bx h1 fun x3 y3 h4=>kC pL (fun j5=>x3=Fl.go j5) (fun (j5:Unit)=>([]:Fr)) (fun (j5:Unit)=>([]:St)) ?_ ?_
  ·
   refine dA<|jS _ (fun (s6:Int)=>([(0,.c (.str p0s)),(12,ci ((p0s).length:Int)),(13,ci s6)]:Fr)) (fun (s6:Int)=>([]:St)) y3 (cR [] 0 r r r r wE aH) ?_
   intro s6 st6 hs6 ho6
   unfold xU at hs6
   refine aT<|aW r (iJ r r)<|aR (fr':=[(0,aS),(12,aI),(13,aI),(14,aB)]) r r<|bC<|eS hs6 r (fun b7 h7=>?_) (fun b7 h7=>?_)
   ·
    refine cE<|eA<|bC<|dA<|aT<|mI r<|sI r<|aR (fr':=[(0,aS),(3,aI),(12,aI),(13,aI)]) r r<|aT<|mS r<|mI r<|bx h7 fun x8 y8 h9=>aW r (aG4 zG r r y8)<|bx h9 fun x10 y10 h11=>qB (bR (v:=aB) r (aIc y10) ⟨lr,trivial⟩ r r r)<|aW r (hY r)<|mB r<|og r r r (fun u=>(bP (v:=aI) r))<|og r r r (fun u=>(dZ (gx r u) r))<|og r r r (fun u=>(bP (v:=aB) (gx r u)))<|hS r r (fun u=>iG r (bP (v:=aS) r))<|hS r r (fun u=>iG r (bP (v:=aI) r))<|bx h11 fun x12 y12 h13=>hS r r (fun u=>iG r (aG4 zG (gx r u) (gx r u) (eQ y12 u)))<|hS r r (fun u=>iG r (iJ (gx r u) r))<|og r r r (fun u=>(dD (gx r u) r r (fun e=>wC u (hD e))))<|og r r r (fun u=>(bP (v:=aB) (gx r u)))<|hS r r (fun u=>iG r (bP (v:=aS) r))<|hS r r (fun u=>iG r (bP (v:=aI) r))<|bx h13 fun x14 y14 h15=>hS r r (fun u=>iG r (aG4 zG (gx r u) (gx r u) (eQ y14 u)))<|hS r r (fun u=>iG r (uW (gx r u) r))<|og r r r (fun u=>(dD (gx r u) r r (fun e=>wC u (hD e))))<|aW r (cD r r r (fun e=>hD e))<|aR (fr':=[(0,aS),(12,aI),(13,aI),(36,aB)]) r r<|eS h15 r (fun b16 h16=>?_) (fun b16 h16=>?_)
    ·
     refine aT<|sB r<|aR (fr':=[(2,aB)]) r r<|cB<|cL<|aV<|aV<|cL<|aV<|aV ?_
     have h17:=gN h16 ho6
     have h18:=hU h17 h4
     obtain rfl:=sy h18
     exact bZ (rs':=[.tmp 2]) r<|cM (v:=aB) r<|bX<|aZ [] r r r lr aH
    ·
     exact cE<|eW<|eA<|bN<|aW r (iH r r)<|mI r<|fG (fr':=[(0,aS),(12,aI),(13,aI),(36,aB)]) r<|e_l _ (sy h16) (cR [] 0 r r r r wE aH)
   ·
    refine kF<|eL<|eL<|iM ?_
    have h20:=gN h7 ho6
    exact tB _ (sy h20) (cR [] 0 r r r r trivial aH)
  ·
   intro j5 hj21
   have h21:=qP hj21 h4
   refine eA<|aT<|sB r<|aR (fr':=[(2,aB)]) r r<|cB ?_
   obtain rfl:=sy h21
   exact bZ (rs':=[.tmp 2]) r<|cM (v:=aB) r<|bX<|aZ [] r r r lr aH
noncomputable def pT (p0s:(List UInt8)):Option Bool :=
 some (decide (4096<((p0s).length:Int)))
theorem aBk {p0s:(List UInt8)}{z:Bool} (h:pT p0s=some z):dE Tryz.prog 179 [.c (.str p0s)] [] (.c (.bool z)) []:=by
 unfold pT at h
 refine eJ (fn:=Tryz.f179) [0,2] (by kernel_rfl) Tryz.func179 r (by kernel_rfl) (by kernel_rfl)<|aT<|sB r<|aR (fr':=[(0,aS)]) r r<|aT<|mS r<|aW r (rN zG r)<|aW r (uW r r)<|sB r<|aR (fr':=[(2,aB)]) r r<|cB ?_
 obtain rfl:=sy h
 exact bZ (rs':=[.tmp 2]) r<|cM (v:=aB) r<|bX<|aZ [] r r r lr aH
