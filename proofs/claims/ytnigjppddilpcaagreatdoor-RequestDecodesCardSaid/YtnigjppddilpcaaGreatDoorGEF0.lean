import Derived.Test.YtnigjppddilpcaaGreatDoorGETy
namespace Go.Proofs.YtnigjppddilpcaaGreatDoor
open Go Abs
set_option maxRecDepth 100000
set_option linter.unusedVariables false
set_option linter.unusedSimpArgs false
noncomputable def lE (p0s:(List UInt8)):Option (List UInt8) :=
 app 1 ([]:List UInt8) p0s
theorem qR {p0s:(List UInt8)}{z:(List UInt8)} (h:lE p0s=some z):cQ Tryz.prog 70 [.c (PV.ls 1 iT p0s)] [] (AV.os 0 1 iT z) []:=by
 unfold lE at h
 refine dF (fn:=Tryz.f70) [0,2,4] (by kernel_rfl) Tryz.func70 r (by kernel_rfl) (by kernel_rfl) ?_
 obtain ⟨hm,he⟩:=aIJ h
 rw [sT] at he
 subst he
 refine aH<|aR r (aGw (v:=.nil) r)<|dM (fr':=[(0,.c (PV.ls _ _ _)),(2,.nil)]) r<|cZ<|aZ<|aH<|aR r (bN (v:=.c (PV.ls _ _ _)) r)<|aTr (row:=iT) aGM (eK r) (fun b hb=>?_)
 refine dM (fr':=[(0,.c (PV.ls _ _ _)),(2,.nil),(4,.c (.bool _))]) r<|cZ<|aLI b r (fun e=>?_) (fun e=>?_)
 ·
  rw [hb e]
  exact aH<|aR r (aGw (v:=.nil) r)<|dM (fr':=[(0,.c (PV.ls _ _ _)),(2,.nil),(4,.c (.bool _))]) r<|cZ<|bK<|aP<|bJ (rs':=[.tmp 2]) r<|bS (v:=.nil) r<|bI<|aN [] r r r (aAt r) aD
 ·
  exact bF<|cZ<|aH<|uL (row:=iT) (xs:=([]:List UInt8)) (rows:=[]) (σ':=[]) [] aEq r r r oB r r<|aR r (bN (v:=.c (PV.ls _ _ _)) r)<|aCt (row:=iT) aEq r aGM r (eK r) (fun _=>r) h<|aR r (aGw (v:=AV.os _ _ _ _) r)<|dM (fr':=[(0,.c (PV.ls _ _ _)),(2,AV.os _ _ _ _),(4,.c (.bool _))]) r<|cZ<|bK<|bJ (rs':=[.tmp 2]) r<|bS (v:=AV.os _ _ _ _) r<|bI<|aN [112] r r r lr aD
noncomputable def aA2  (s6:((List UInt8) × Int)):Option (dU ((List UInt8) × Int) ((List UInt8) × Int)) :=
 cond (decide (128≤s6.2)) ((aDD (mU .or .u8 (IntKind.wrap .u8 s6.2) 128)).bind fun x8=>(app 1 s6.1 ([x8]:List UInt8)).bind fun x10=>some (dU.next (x10,(Int.fdiv s6.2 (2 ^ (min (Int.toNat 7) (IntKind.bits .u64))))))) (some (dU.out (s6.1,s6.2)))
noncomputable def iZ (p0b:(List UInt8)) (p1n:Int):Option (List UInt8) :=
 (lE p0b).bind fun x1=>(fK (aA2) ((x1,(mU .xor .u64 (IntKind.wrap .u64 ((IntKind.wrap .u64 p1n)*2 ^ (min (Int.toNat 1) (IntKind.bits .u64)))) (IntKind.wrap .u64 (Int.fdiv p1n (2 ^ (min (Int.toNat 63) (IntKind.bits .i64))))))))).bind fun x3=>((aDD (IntKind.wrap .u8 x3.2)).bind fun x14=>(app 1 x3.1 ([x14]:List UInt8)).bind fun x16=>some x16)
theorem jL {p0b:(List UInt8)}{p1n:Int}{z:(List UInt8)} (h:iZ p0b p1n=some z):cQ Tryz.prog 53 [.c (PV.ls 1 iT p0b),ci p1n] [] (AV.os 0 1 iT z) []:=by
 unfold iZ at h
 refine dF (fn:=Tryz.f53) [0,1,4,5,6,17] (by kernel_rfl) Tryz.func53 r (by kernel_rfl) (by kernel_rfl)<|aH<|sV (v:=AV.nil) r<|aG (fr':=[(0,aL),(1,aI)]) r r<|aH<|mL r<|bx h fun x1 y1 h2=>lS (bL (v:=aO) r (qR y1) ⟨lr,trivial⟩ r r r)<|sV (v:=aO) r<|aG (fr':=[(1,aI),(5,aO)]) r r<|aH<|mI r<|aR r (aCv tk3 aGN r)<|aR r (aSY r r (by decide))<|mI r<|aR r (aQ9 r r (by decide))<|aR r (aCv tk3 aGN r)<|aR r (aS0 r r)<|sI r<|aG (fr':=[(5,aO),(6,aI)]) r r<|bx h2 fun x3 y3 h4=>hH (fun j5=>x3=j5) (fun (j5:((List UInt8) × Int))=>([(5,AV.os 0 1 iT j5.1),(6,.c (.int .u64 j5.2))]:Fr)) (fun (j5:((List UInt8) × Int))=>([]:St)) ?_ ?_
 ·
  refine cH<|gV _ (fun (s6:((List UInt8) × Int))=>([(5,AV.os 0 1 iT s6.1),(6,.c (.int .u64 s6.2))]:Fr)) (fun (s6:((List UInt8) × Int))=>([]:St)) y3 (bC [128] 0 r r r r jN aD) ?_
  intro s6 st6 hs6 ho6
  unfold aA2 at hs6
  refine aZ<|aH<|mI r<|aR r (oI r r)<|aG (fr':=[(5,aO),(6,aI),(17,aB)]) r r<|cG hs6 r (fun b7 h7=>?_) (fun b7 h7=>?_)
  ·
   exact bF<|cZ<|cH<|aH<|mV (v:=aO) r<|mI r<|aR r (aCv aGN tk5 r)<|aR r (aT8 r r)<|bx h7 fun x8 y8 h9=>uL (row:=iT) (xs:=([x8]:List UInt8)) (rows:=[[_]]) (σ':=[]) [0] aEq r r r (gB (aK3 y8) oB) r r<|bx h9 fun x10 y10 h11=>aCt (row:=iT) aEq r aGM r (oC r) (fun _=>r) y10<|sV (v:=aO) r<|aG (fr':=[(5,aO),(6,aI)]) r r<|bB<|mI r<|aR r (aQ9 r r (by decide))<|sI r<|dM (fr':=[(5,aO),(6,aI)]) r<|cW<|zO _ (sy h11) (bC [368] 0 r r r r jN aD)
  ·
   refine hG<|cY<|cY<|fP ?_
   have h12:=eR h7 ho6
   exact iQ _ (sy h12) (bC [0] 0 r r r r jN aD)
 ·
  intro j5 hj13
  subst hj13
  refine aH<|mV (v:=aO) r<|mI r<|aR r (aCv aGN tk5 r)<|bx h4 fun x14 y14 h15=>uL (row:=iT) (xs:=([x14]:List UInt8)) (rows:=[[_]]) (σ':=[]) [0] aEq r r r (gB (aK3 y14) oB) r r<|bx h15 fun x16 y16 h17=>aCt (row:=iT) aEq r aGM r (oC r) (fun _=>r) y16<|sV (v:=aO) r<|aG (fr':=[(4,aO)]) r r<|bK ?_
  obtain rfl:=sy h17
  exact bJ (rs':=[.tmp 4]) r<|bS (v:=aO) r<|bI<|aN [480] r r r lr aD
noncomputable def mH (p0b:(List UInt8)) (p1s:(List UInt8)):Option (List UInt8) :=
 (iZ p0b ((p1s).length:Int)).bind fun x1=>(app 1 x1 p1s).bind fun x3=>some x3
theorem rE {p0b:(List UInt8)}{p1s:(List UInt8)}{z:(List UInt8)} (h:mH p0b p1s=some z):cQ Tryz.prog 54 [.c (PV.ls 1 iT p0b),.c (.str p1s)] [] (AV.os 0 1 iT z) []:=by
 unfold mH at h
 refine dF (fn:=Tryz.f54) [0,1,4] (by kernel_rfl) Tryz.func54 r (by kernel_rfl) (by kernel_rfl)<|aH<|sV (v:=AV.nil) r<|aG (fr':=[(0,aL),(1,aS)]) r r<|aH<|mL r<|mS r<|aR r (kT uU r)<|bx h fun x1 y1 h2=>lS (bL (v:=aO) r (jL y1) jN r r r)<|mS r<|bx h2 fun x3 y3 h4=>aTq aEq r uU r r y3<|sV (v:=aO) r<|aG (fr':=[(4,aO)]) r r<|bK ?_
 obtain rfl:=sy h4
 exact bJ (rs':=[.tmp 4]) r<|bS (v:=aO) r<|bI<|aN [160] r r r lr aD
noncomputable def wA (p0l:(List (List UInt8))) (s4:Int):Option (dU Int (Fl Bool Unit)) :=
 cond (decide (s4<((p0l).length:Int))) ((nG p0l (IntKind.wrap .i64 (s4 - 1))).bind fun x6=>(nG p0l s4).bind fun x8=>cond (!Op.bytesLess x6 x8) (some (dU.out (Fl.done false))) (some (dU.next (IntKind.wrap .i64 (s4+1))))) (some (dU.out (Fl.go ())))
noncomputable def wP (p0l:(List (List UInt8))):Option Bool :=
 (fK (wA p0l) (1)).bind fun x1=>Fl.next x1 (fun j3=>(some true))
theorem aG1 {p0l:(List (List UInt8))}{z:Bool} (h:wP p0l=some z):cQ Tryz.prog 175 [.c (PV.ls 1 fI p0l)] [] (.c (.bool z)) []:=by
 unfold wP at h
 refine dF (fn:=Tryz.f175) [0,2,3,7,19] (by kernel_rfl) Tryz.func175 r (by kernel_rfl) (by kernel_rfl)<|aH<|sB r<|aG (fr':=[(0,aL)]) r r<|aZ<|aH<|sI r<|aG (fr':=[(0,aL),(3,aI)]) r r<|bx h fun x1 y1 h2=>gZ lB (fun j3=>x1=Fl.go j3) (fun (j3:Unit)=>([]:Fr)) (fun (j3:Unit)=>([]:St)) ?_ ?_
 ·
  refine cH<|gV _ (fun (s4:Int)=>([(0,.c (PV.ls 1 fI p0l)),(3,ci s4)]:Fr)) (fun (s4:Int)=>([]:St)) y1 (bC [] 0 r r r r jN aD) ?_
  intro s4 st4 hs4 ho4
  unfold wA at hs4
  refine aZ<|aH<|mI r<|mL r<|aR r (hZ zD (eK r))<|aR r (gI r r)<|aG (fr':=[(0,aL),(3,aI),(7,aB)]) r r<|cG hs4 r (fun b5 h5=>?_) (fun b5 h5=>?_)
  ·
   refine bF<|cZ<|aZ<|cH<|aZ<|kV [.q 0,.q 1,.q 2,.q 3,.q 4,.q 5,.q 6,.q 7,.q 8,.q 9] [(some 10,[0]),(some 11,[3]),(some 12,[11]),(some 13,[10,12]),(some 14,[13]),(some 15,[0]),(some 16,[3]),(some 17,[15,16]),(some 18,[17]),(some 19,[14,18])] [0,0,2,7,15,0,0,96,224,511] (by kernel_rfl)<|dq r r (bN (v:=aL) r)<|dq r r (bN (v:=aI) r)<|dq r r (aFA r r)<|bx h5 fun x6 y6 h7=>dq r r (lF (cs:=[PV.str _]) aAR (eK r) r y6 r)<|dq r r (gP (p:=PV.str _) lP r r)<|dq r r (bN (v:=aL) r)<|dq r r (bN (v:=aI) r)<|bx h7 fun x8 y8 h9=>dq r r (lF (cs:=[PV.str _]) aAR (eK r) r y8 r)<|dq r r (gP (p:=PV.str _) lP r r)<|dq r r (aQ8 r r)<|aAq (fr':=[(0,aL),(3,aI),(19,aB)]) r r<|cG h9 r (fun b10 h10=>?_) (fun b10 h10=>?_)
   ·
    refine aH<|sB r<|aG (fr':=[(2,aB)]) r r<|bK<|bO<|aP<|aP<|bO<|aP<|aP ?_
    have h11:=eR h10 ho4
    have h12:=fL h11 h2
    obtain rfl:=sy h12
    exact bJ (rs':=[.tmp 2]) r<|bS (v:=aB) r<|bI<|aN [] r r r lr aD
   ·
    exact bF<|cW<|cZ<|bB<|mI r<|aR r (gC r r)<|sI r<|dM (fr':=[(0,aL),(3,aI),(19,aB)]) r<|zO _ (sy h10) (bC [] 0 r r r r jN aD)
  ·
   refine hG<|cY<|cY<|fP ?_
   have h14:=eR h5 ho4
   exact iQ _ (sy h14) (bC [] 0 r r r r trivial aD)
 ·
  intro j3 hj15
  have h15:=lV hj15 h2
  refine cZ<|aH<|sB r<|aG (fr':=[(2,aB)]) r r<|bK ?_
  obtain rfl:=sy h15
  exact bJ (rs':=[.tmp 2]) r<|bS (v:=aB) r<|bI<|aN [] r r r lr aD
noncomputable def gQ (aFP:aQ→Bool→Option Bool) (p0s:(List aQ)) (lQ:Bool) (s4:Int):Option (dU Int (Fl Int Unit)) :=
 cond (decide (s4<((p0s).length:Int))) ((nG p0s s4).bind fun x6=>(aFP x6 lQ).bind fun x8=>cond x8 (some (dU.out (Fl.done s4))) (some (dU.next (IntKind.wrap .i64 (s4+1))))) (some (dU.out (Fl.go ())))
mutual
noncomputable def fN:Nat→(List aQ)→Bool→Option Bool
 | 0,_,_=>none
 | n+1,p0s,lQ =>
  ((gY n) p0s lQ).bind fun x1=>some (decide (0≤x1))
noncomputable def gY:Nat→(List aQ)→Bool→Option Int
 | 0,_,_=>none
 | n+1,p0s,lQ =>
  (fK (gQ (tR n) p0s lQ) (0)).bind fun x1=>Fl.next x1 (fun j3=>(some (-1)))
noncomputable def uQ:Nat→aQ→Bool→Option Bool
 | 0,_,_=>none
 | n+1,p0C,p1o =>
  ((cond (decide (p0C.Kind=0)) (some (Fl.done (cond (cond (cond (!(!decide (p0C.Int=0))) (!(!decide (p0C.Text=([]:List UInt8)))) false) (!(decide (0<((p0C.Items).length:Int)))) false) (!(decide (0<((p0C.Keys).length:Int)))) false))) (cond (decide (p0C.Kind=1)) (some (Fl.done (cond (cond (cond (cond (decide (p0C.Int=0)) true (decide (p0C.Int=1))) (!(!decide (p0C.Text=([]:List UInt8)))) false) (!(decide (0<((p0C.Items).length:Int)))) false) (!(decide (0<((p0C.Keys).length:Int)))) false))) (cond (decide (p0C.Kind=2)) (some (Fl.done (cond (cond (!(!decide (p0C.Text=([]:List UInt8)))) (!(decide (0<((p0C.Items).length:Int)))) false) (!(decide (0<((p0C.Keys).length:Int)))) false))) (cond (decide (p0C.Kind=6)) (some (Fl.done (cond (cond (cond (cond p1o (decide (0≤p0C.Int)) false) (!(!decide (p0C.Text=([]:List UInt8)))) false) (!(decide (0<((p0C.Items).length:Int)))) false) (!(decide (0<((p0C.Keys).length:Int)))) false))) (cond (decide (p0C.Kind=3)) (some (Fl.done (cond (cond (!(!decide (p0C.Int=0))) (!(decide (0<((p0C.Items).length:Int)))) false) (!(decide (0<((p0C.Keys).length:Int)))) false))) (cond (decide (p0C.Kind=4)) (cond (cond (cond (!decide (p0C.Int=0)) true (!decide (p0C.Text=([]:List UInt8)))) true (decide (0<((p0C.Keys).length:Int)))) (some (Fl.done false)) (some (Fl.go ()))) (cond (decide (p0C.Kind=5)) ((gd ((cond (cond (!decide (p0C.Int=0)) true (!decide (p0C.Text=([]:List UInt8)))) true (!decide (((p0C.Keys).length:Int)=((p0C.Items).length:Int))))==false) (wP p0C.Keys)).bind fun x24=>cond (cond (cond (cond (!decide (p0C.Int=0)) true (!decide (p0C.Text=([]:List UInt8)))) true (!decide (((p0C.Keys).length:Int)=((p0C.Items).length:Int)))) true (!x24)) (some (Fl.done false)) (some (Fl.go ()))) (some (Fl.done false))))))))):Option (Fl Bool Unit)).bind fun x1=>Fl.next x1 (fun j3=>(((fN n) p0C.Items p1o).bind fun x32=>some (!x32)))
noncomputable def tR:Nat→aQ→Bool→Option Bool
 | 0,_,_=>none
 | n+1,p0x,lQ =>
  ((uQ n) p0x lQ).bind fun x1=>some (!x1)
end
theorem qP:∀ n:Nat,(∀ {p0s:(List aQ)}{lQ:Bool}{z:Bool},fN n p0s lQ=some z→cQ Tryz.prog 176 [.c (PV.ls 5 bT p0s),.fn 177 [.box 0 0]] [[.c (.bool lQ)]] (.c (.bool z)) [[.c (.bool lQ)]])∧(∀ {p0s:(List aQ)}{lQ:Bool}{z:Int},gY n p0s lQ=some z→cQ Tryz.prog 205 [.c (PV.ls 5 bT p0s),.fn 177 [.box 0 0]] [[.c (.bool lQ)]] (ci z) [[.c (.bool lQ)]])∧(∀ {p0C:aQ}{p1o:Bool}{z:Bool},uQ n p0C p1o=some z→cQ Tryz.prog 128 [.agg (AV.cs (fA p0C)),.c (.bool p1o)] [] (.c (.bool z)) [])∧(∀ {p0x:aQ}{lQ:Bool}{z:Bool},tR n p0x lQ=some z→cQ Tryz.prog 177 [.agg (AV.cs (fA p0x)),.box 0 0] [[.c (.bool lQ)]] (.c (.bool z)) [[.c (.bool lQ)]]):=by
 intro n
 induction n with
 | zero=>exact ⟨fun {p0s lQ z} h=>absurd h (by simp [fN]),fun {p0s lQ z} h=>absurd h (by simp [gY]),fun {p0C p1o z} h=>absurd h (by simp [uQ]),fun {p0x lQ z} h=>absurd h (by simp [tR])⟩
 | succ n ih =>
  obtain ⟨ih_slices_ContainsFunc_api_Value_api_Value_value_formed_1,ih_slices_IndexFunc_api_Value_api_Value_value_formed_1,ih_value_formed,ih_value_formed_1⟩:=ih
  refine ⟨?_,?_,?_,?_⟩
  ·
   intro p0s lQ z h
   rw [fN] at h
   refine dF (fn:=Tryz.f176) [0,1,4] (by kernel_rfl) Tryz.func176 r (by kernel_rfl) (by kernel_rfl)<|aH<|sB r<|aG (fr':=[(0,aL),(1,.fn _ [aE])]) r r<|aH<|mL r<|mV (v:=.fn _ [aE]) r<|bx h fun x1 y1 h2=>cP (v:=aI) (σ':=[[aB]]) [0] r (ih_slices_IndexFunc_api_Value_api_Value_value_formed_1 y1) r r ⟨lr,(aQV r ⟨lr,trivial⟩),trivial⟩ (qI ⟨lr,trivial⟩ aD) r r r<|aR r (oI r r)<|sB r<|aG (fr':=[(4,aB)]) r r<|bK ?_
   obtain rfl:=sy h2
   exact bJ (rs':=[.tmp 4]) r<|bS (v:=aB) r<|bI<|aN [] r r r lr (bR r aD)
  ·
   intro p0s lQ z h
   rw [gY] at h
   refine dF (fn:=Tryz.f205) [0,1,4,5,7,8,9,16] (by kernel_rfl) Tryz.func205 r (by kernel_rfl) (by kernel_rfl)<|aH<|sI r<|aG (fr':=[(0,aL),(1,.fn _ [aE])]) r r<|aZ<|aH<|mL r<|aR r (hZ vX (eK r))<|mI r<|aG (fr':=[(0,aL),(1,.fn _ [aE]),(7,aI),(8,aI)]) r r<|bx h fun x1 y1 h2=>gZ lB (fun j3=>x1=Fl.go j3) (fun (j3:Unit)=>([]:Fr)) (fun (j3:Unit)=>([[.c (.bool lQ)]]:St)) ?_ ?_
   ·
    refine cH<|gV _ (fun (s4:Int)=>([(0,.c (PV.ls 5 bT p0s)),(1,.fn 177 [aE]),(7,ci ((p0s).length:Int)),(8,ci s4)]:Fr)) (fun (s4:Int)=>([[.c (.bool lQ)]]:St)) y1 (bC [] 1 r r r r kL4 (bR r aD)) ?_
    intro s4 st4 hs4 ho4
    unfold gQ at hs4
    refine aH<|aR r (gI r r)<|aG (fr':=[(0,aL),(1,.fn _ [aE]),(7,aI),(8,aI),(9,aB)]) r r<|aZ<|cG hs4 r (fun b5 h5=>?_) (fun b5 h5=>?_)
    ·
     refine bF<|cZ<|aZ<|cH<|aH<|mI r<|sI r<|aG (fr':=[(0,aL),(1,.fn _ [aE]),(5,aI),(7,aI),(8,aI)]) r r<|aH<|mV (v:=.fn _ [aE]) r<|mL r<|mI r<|bx h5 fun x6 y6 h7=>aR r (lF (cs:=[PV.int _ _,PV.int _ _,PV.str _,PV.ls _ _ _,PV.ls _ _ _]) uV (eK r) r y6 (eJ _))<|aR r (lT (us:=[PV.int _ _,PV.int _ _,PV.str _,PV.ls _ _ _,PV.ls _ _ _]) iO r r r)<|bx h7 fun x8 y8 h9=>cP (v:=aB) (σ':=[[aB]]) [0] r (ih_value_formed_1 y8) r r ⟨(bQ r kR5),lr,trivial⟩ (qI ⟨lr,trivial⟩ aD) r r r<|aG (fr':=[(0,aL),(1,.fn _ [aE]),(5,aI),(7,aI),(8,aI),(16,aB)]) r r<|cG h9 r (fun b10 h10=>?_) (fun b10 h10=>?_)
     ·
      refine aH<|mI r<|sI r<|aG (fr':=[(4,aI)]) r r<|bK<|bO<|aP<|aP<|bO<|aP<|aP ?_
      have h11:=eR h10 ho4
      have h12:=fL h11 h2
      obtain rfl:=sy h12
      exact bJ (rs':=[.tmp 4]) r<|bS (v:=aI) r<|bI<|aN [] r r r lr (bR r aD)
     ·
      exact bF<|cW<|cZ<|bB<|aR r (gC r r)<|mI r<|dM (fr':=[(0,aL),(1,.fn _ [aE]),(5,aI),(7,aI),(8,aI),(16,aB)]) r<|zO _ (sy h10) (bC [] 1 r r r r kL4 (bR r aD))
    ·
     refine hG<|cY<|cY<|fP ?_
     have h14:=eR h5 ho4
     exact iQ _ (sy h14) (bC [] 1 r r r r trivial (bR r aD))
   ·
    intro j3 hj15
    have h15:=lV hj15 h2
    refine cZ<|aH<|sI r<|aG (fr':=[(4,aI)]) r r<|bK ?_
    obtain rfl:=sy h15
    exact bJ (rs':=[.tmp 4]) r<|bS (v:=aI) r<|bI<|aN [] r r r lr (bR r aD)
  ·
   intro p0C p1o z h
   rw [uQ] at h
   refine dF (fn:=Tryz.f128) [0,1,2,3,4,5,6,7,8,24,25,41,63,75,95,107,115,116,136] (by kernel_rfl) Tryz.func128 r (by kernel_rfl) (by kernel_rfl)<|aH<|jK (v:=.agg cE) (n:=0) (cs:=cE) (σ':=[cE]) r r r r r<|jK (v:=aB) (n:=1) (cs:=[aB]) (σ':=[cE,[aB]]) r r r r r<|sB r<|aG (fr':=[(2,aE),(3,aU)]) r r<|aH<|aR r (bD sF r)<|aR r (aK (v:=aI) fM r r r)<|aR r (iS r r)<|sB r<|aG (fr':=[(2,aE),(3,aU),(5,aB)]) r r<|aH<|aR r (bD uP r)<|aR r (aK (v:=aS) lP r r r)<|aR r (wZ r r)<|sB r<|aG (fr':=[(2,aE),(3,aU),(5,aB),(6,aB)]) r r<|aH<|aR r (bD iJ r)<|aR r (aK (v:=aL) nS r r r)<|aR r (hZ vX (eK r))<|aR r (qW r r)<|sB r<|aG (fr':=[(2,aE),(3,aU),(5,aB),(6,aB),(7,aB)]) r r<|aH<|aR r (bD oN r)<|aR r (aK (v:=aL) rC r r r)<|aR r (hZ zD (eK r))<|aR r (qW r r)<|sB r<|aG (fr':=[(2,aE),(3,aU),(5,aB),(6,aB),(7,aB),(8,aB)]) r r<|bx h fun x1 y1 h2=>hH (fun j3=>x1=Fl.go j3) (fun (j3:Unit)=>([(2,aE),(3,aU)]:Fr)) (fun (j3:Unit)=>([[ci p0C.Kind,ci p0C.Int,.c (.str p0C.Text),.c (PV.ls 5 bT p0C.Items),.c (PV.ls 1 fI p0C.Keys)],[.c (.bool p1o)]]:St)) ?_ ?_
   ·
    refine aH<|aR r (bD mE r)<|aR r (aK (v:=aI) fM r r r)<|aG (fr':=[(2,aE),(3,aU),(5,aB),(6,aB),(7,aB),(8,aB),(24,aI)]) r r<|cH<|aH<|aR r (bU r r)<|sB r<|aG (fr':=[(2,aE),(3,aU),(5,aB),(6,aB),(7,aB),(8,aB),(24,aI),(25,aB)]) r r<|cG y1 r (fun b4 h4=>?_) (fun b4 h4=>?_)
    ·
     refine aH<|mB r<|aR r (fE r)<|mB r<|og r r r (fun u=>(bN (v:=aB) r))<|og r r r (fun u=>(fE (gx r u)))<|aR r (bV r r r (fun e=>fJ e))<|mB r<|og r r r (fun u=>(bN (v:=aB) r))<|og r r r (fun u=>(fE (gx r u)))<|aR r (bV r r r (fun e=>fJ e))<|mB r<|og r r r (fun u=>(bN (v:=aB) r))<|og r r r (fun u=>(fE (gx r u)))<|aR r (bV r r r (fun e=>fJ e))<|sB r<|aG (fr':=[(4,aB)]) r r<|bK<|bO<|aP ?_
     have h5:=fL h4 h2
     obtain rfl:=sy h5
     exact bJ (rs':=[.tmp 4]) r<|bS (v:=aB) r<|bI<|aN [] r r r lr aD
    ·
     refine aH<|aR r (bU r r)<|sB r<|aG (fr':=[(2,aE),(3,aU),(5,aB),(6,aB),(7,aB),(8,aB),(24,aI),(41,aB)]) r r<|cG h4 r (fun b7 h7=>?_) (fun b7 h7=>?_)
     ·
      refine aH<|aR r (bD sF r)<|aR r (aK (v:=aI) fM r r r)<|aR r (bU r r)<|mB r<|og r r r (fun u=>(bD sF r))<|og r r r (fun u=>(aK (v:=aI) fM (gx r u) r r))<|og r r r (fun u=>(bU (gx r u) r))<|aR r (cN r r r (fun e=>fJ e))<|mB r<|og r r r (fun u=>(bN (v:=aB) r))<|og r r r (fun u=>(fE (gx r u)))<|aR r (bV r r r (fun e=>fJ e))<|mB r<|og r r r (fun u=>(bN (v:=aB) r))<|og r r r (fun u=>(fE (gx r u)))<|aR r (bV r r r (fun e=>fJ e))<|mB r<|og r r r (fun u=>(bN (v:=aB) r))<|og r r r (fun u=>(fE (gx r u)))<|aR r (bV r r r (fun e=>fJ e))<|sB r<|aG (fr':=[(4,aB)]) r r<|bK<|bO<|aP ?_
      have h8:=fL h7 h2
      obtain rfl:=sy h8
      exact bJ (rs':=[.tmp 4]) r<|bS (v:=aB) r<|bI<|aN [] r r r lr aD
     ·
      refine aH<|aR r (bU r r)<|sB r<|aG (fr':=[(2,aE),(3,aU),(5,aB),(6,aB),(7,aB),(8,aB),(24,aI),(63,aB)]) r r<|cG h7 r (fun b10 h10=>?_) (fun b10 h10=>?_)
      ·
       refine aH<|mB r<|aR r (fE r)<|mB r<|og r r r (fun u=>(bN (v:=aB) r))<|og r r r (fun u=>(fE (gx r u)))<|aR r (bV r r r (fun e=>fJ e))<|mB r<|og r r r (fun u=>(bN (v:=aB) r))<|og r r r (fun u=>(fE (gx r u)))<|aR r (bV r r r (fun e=>fJ e))<|sB r<|aG (fr':=[(4,aB)]) r r<|bK<|bO<|aP ?_
       have h11:=fL h10 h2
       obtain rfl:=sy h11
       exact bJ (rs':=[.tmp 4]) r<|bS (v:=aB) r<|bI<|aN [] r r r lr aD
      ·
       refine aH<|aR r (bU r r)<|sB r<|aG (fr':=[(2,aE),(3,aU),(5,aB),(6,aB),(7,aB),(8,aB),(24,aI),(75,aB)]) r r<|cG h10 r (fun b13 h13=>?_) (fun b13 h13=>?_)
       ·
        refine aH<|aR r (aK (v:=aB) tv4 r r r)<|mB r<|og r r r (fun u=>(bD sF r))<|og r r r (fun u=>(aK (v:=aI) fM (gx r u) r r))<|og r r r (fun u=>(oI (gx r u) r))<|aR r (bV r r r (fun e=>fJ e))<|mB r<|og r r r (fun u=>(bN (v:=aB) r))<|og r r r (fun u=>(fE (gx r u)))<|aR r (bV r r r (fun e=>fJ e))<|mB r<|og r r r (fun u=>(bN (v:=aB) r))<|og r r r (fun u=>(fE (gx r u)))<|aR r (bV r r r (fun e=>fJ e))<|mB r<|og r r r (fun u=>(bN (v:=aB) r))<|og r r r (fun u=>(fE (gx r u)))<|aR r (bV r r r (fun e=>fJ e))<|sB r<|aG (fr':=[(4,aB)]) r r<|bK<|bO<|aP ?_
        have h14:=fL h13 h2
        obtain rfl:=sy h14
        exact bJ (rs':=[.tmp 4]) r<|bS (v:=aB) r<|bI<|aN [] r r r lr aD
       ·
        refine aH<|aR r (bU r r)<|sB r<|aG (fr':=[(2,aE),(3,aU),(5,aB),(6,aB),(7,aB),(8,aB),(24,aI),(95,aB)]) r r<|cG h13 r (fun b16 h16=>?_) (fun b16 h16=>?_)
        ·
         refine aH<|mB r<|aR r (fE r)<|mB r<|og r r r (fun u=>(bN (v:=aB) r))<|og r r r (fun u=>(fE (gx r u)))<|aR r (bV r r r (fun e=>fJ e))<|mB r<|og r r r (fun u=>(bN (v:=aB) r))<|og r r r (fun u=>(fE (gx r u)))<|aR r (bV r r r (fun e=>fJ e))<|sB r<|aG (fr':=[(4,aB)]) r r<|bK<|bO<|aP ?_
         have h17:=fL h16 h2
         obtain rfl:=sy h17
         exact bJ (rs':=[.tmp 4]) r<|bS (v:=aB) r<|bI<|aN [] r r r lr aD
        ·
         refine aH<|aR r (bU r r)<|sB r<|aG (fr':=[(2,aE),(3,aU),(5,aB),(6,aB),(8,aB),(24,aI),(107,aB)]) r r<|cG h16 r (fun b19 h19=>?_) (fun b19 h19=>?_)
         ·
          refine aH<|mB r<|mB r<|og r r r (fun u=>(bN (v:=aB) r))<|aR r (cN r r r (fun e=>fJ e))<|mB r<|og r r r (fun u=>(bN (v:=aB) r))<|aR r (cN r r r (fun e=>fJ e))<|aG (fr':=[(2,aE),(3,aU),(115,aB)]) r r<|cG h19 r (fun b20 h20=>?_) (fun b20 h20=>?_)
          ·
           refine aH<|sB r<|aG (fr':=[(4,aB)]) r r<|bK<|bO<|aP ?_
           have h21:=fL h20 h2
           obtain rfl:=sy h21
           exact bJ (rs':=[.tmp 4]) r<|bS (v:=aB) r<|bI<|aN [] r r r lr aD
          ·
           exact bF<|cW<|iQ _ (sy h20) (bC [] 2 r r r r jN (bR r (bR r aD)))
         ·
          refine aH<|aR r (bU r r)<|sB r<|aG (fr':=[(2,aE),(3,aU),(5,aB),(6,aB),(116,aB)]) r r<|cG h19 r (fun b23 h23=>?_) (fun b23 h23=>?_)
          ·
           refine aH<|mB r<|mB r<|og r r r (fun u=>(bN (v:=aB) r))<|aR r (cN r r r (fun e=>fJ e))<|mB r<|og r r r (fun u=>(bD oN r))<|og r r r (fun u=>(aK (v:=aL) rC (gx r u) r r))<|og r r r (fun u=>(hZ zD (eK (gx r u))))<|og r r r (fun u=>(bD iJ r))<|og r r r (fun u=>(aK (v:=aL) nS (gx r u) r r))<|og r r r (fun u=>(hZ vX (eK (gx r u))))<|og r r r (fun u=>(iS (gx r u) (gx r u)))<|aR r (cN r r r (fun e=>fJ e))<|mB r<|og r r r (fun u=>(bD oN r))<|og r r r (fun u=>(aK (v:=aL) rC (gx r u) r r))<|bx h23 fun x24 y24 h25=>sX r r (fun u=>bL (v:=aB) r (aG1 (cU y24 u)) ⟨(eW (gx r u) lr),trivial⟩ (fT (by repeat (first | exact eN | refine aY r ?_ | refine aY (pP r) ?_ | refine aY pO ?_))) r r) ?_
           refine og r r r (fun u=>(fE (gx r u)))<|aR r (cN r r r (fun e=>fJ e))<|aG (fr':=[(2,aE),(3,aU),(136,aB)]) r r<|cG h25 r (fun b26 h26=>?_) (fun b26 h26=>?_)
           ·
            refine aH<|sB r<|aG (fr':=[(4,aB)]) r r<|bK<|bO<|aP ?_
            have h27:=fL h26 h2
            obtain rfl:=sy h27
            exact bJ (rs':=[.tmp 4]) r<|bS (v:=aB) r<|bI<|aN [] r r r lr aD
           ·
            exact bF<|cW<|iQ _ (sy h26) (bC [] 2 r r r r jN (bR r (bR r aD)))
          ·
           refine aH<|sB r<|aG (fr':=[(4,aB)]) r r<|bK<|bO<|aP ?_
           have h29:=fL h23 h2
           obtain rfl:=sy h29
           exact bJ (rs':=[.tmp 4]) r<|bS (v:=aB) r<|bI<|aN [] r r r lr aD
   ·
    intro j3 hj31
    have h31:=lV hj31 h2
    refine aH<|aR r (bD iJ r)<|aR r (aK (v:=aL) nS r r r)<|aR r (aTu (cs:=[aU]) r r)<|bx h31 fun x32 y32 h33=>cP (v:=aB) (σ':=[cE,[aB]]) [1] r (ih_slices_ContainsFunc_api_Value_api_Value_value_formed_1 y32) r r ⟨lr,(aQV r ⟨lr,trivial⟩),trivial⟩ (qI ⟨lr,trivial⟩ aD) r r r<|aR r (fE r)<|sB r<|aG (fr':=[(4,aB)]) r r<|bK ?_
    obtain rfl:=sy h33
    exact bJ (rs':=[.tmp 4]) r<|bS (v:=aB) r<|bI<|aN [] r r r lr aD
  ·
   intro p0x lQ z h
   rw [tR] at h
   refine dF (fn:=Tryz.f177) [0,1,2,3] (by kernel_rfl) Tryz.func177 r (by kernel_rfl) (by kernel_rfl)<|aH<|jK (v:=.agg cE) (n:=1) (cs:=cE) (σ':=[[aB],cE]) r r r r r<|sB r<|aG (fr':=[(1,aE),(2,aU)]) r r<|aH<|aR r (dL (us:=cE) iO r r r r)<|aR r (aK (v:=aB) tv4 r r r)<|bx h fun x1 y1 h2=>lS (bL (v:=aB) r (ih_value_formed y1) ⟨(bQ r kR5),lr,trivial⟩ r r r)<|aR r (fE r)<|sB r<|aG (fr':=[(3,aB)]) r r<|bK ?_
   obtain rfl:=sy h2
   exact bJ (rs':=[.tmp 3]) r<|bS (v:=aB) r<|bI<|aN [] r r r lr (bR r aD)
noncomputable def aAU (p0C:aQ) (p1o:Bool):Option Bool:=lim fun n=>uQ n p0C p1o
theorem aE7 {p0C:aQ}{p1o:Bool}{z:Bool} (h:aAU p0C p1o=some z):cQ Tryz.prog 128 [.agg (AV.cs (fA p0C)),.c (.bool p1o)] [] (.c (.bool z)) []:=by
 obtain ⟨n,hn⟩:=rV h
 exact (qP n).2.2.1 hn
noncomputable def zY (aDo:(List UInt8)→aQ→Option (List UInt8)) (p1v:aQ) (s34:((List UInt8) × Int)):Option (dU ((List UInt8) × Int) (List UInt8)) :=
 cond (decide (s34.2<((p1v.Items).length:Int))) ((nG p1v.Items s34.2).bind fun x36=>cond (decide (p1v.Kind=5)) ((nG p1v.Keys s34.2).bind fun x39=>(mH s34.1 x39).bind fun x41=>(aDo x41 x36).bind fun x43=>some (dU.next (x43,(IntKind.wrap .i64 (s34.2+1))))) ((aDo s34.1 x36).bind fun x45=>some (dU.next (x45,(IntKind.wrap .i64 (s34.2+1)))))) (some (dU.out s34.1))
noncomputable def sM:Nat→(List UInt8)→aQ→Option (List UInt8)
 | 0,_,_=>none
 | n+1,p0b,p1v =>
  (iZ p0b p1v.Kind).bind fun x1=>((((cond (decide (p1v.Kind=1)) (some (decide (p1v.Kind=1))) (cond (decide (p1v.Kind=2)) (some (decide (p1v.Kind=2))) (some (decide (p1v.Kind=6))))):Option Bool).bind fun x6=>(cond x6 ((iZ x1 p1v.Int).bind fun x13=>some (Fl.done x13)) (cond (decide (p1v.Kind=3)) ((mH x1 p1v.Text).bind fun x18=>some (Fl.done x18)) (((cond (decide (p1v.Kind=4)) (some (decide (p1v.Kind=4))) (some (decide (p1v.Kind=5)))):Option Bool).bind fun x22=>(cond x22 ((iZ x1 ((p1v.Items).length:Int)).bind fun x28=>some (Fl.go x28)) (some (Fl.go x1))))))):Option (Fl (List UInt8) (List UInt8))).bind fun x3=>Fl.next x3 (fun j5=>((fK (zY (sM n) p1v) ((j5,0))).bind fun x31=>(some x31)))
theorem aIh:∀ n:Nat,(∀ {p0b:(List UInt8)}{p1v:aQ}{z:(List UInt8)},sM n p0b p1v=some z→cQ Tryz.prog 129 [.c (PV.ls 1 iT p0b),.agg (AV.cs (fA p1v))] [] (AV.os 0 1 iT z) []):=by
 intro n
 induction n with
 | zero=>exact fun {p0b p1v z} h=>absurd h (by simp [sM])
 | succ n ih =>
  have ih_value_encode:=@ih
  intro p0b p1v z h
  rw [sM] at h
  refine dF (fn:=Tryz.f129) [0,1,3,4,5,6,12,13,21,27,36,37,38,39,45] (by kernel_rfl) Tryz.func129 r (by kernel_rfl) (by kernel_rfl)<|aH<|jK (v:=.agg cE) (n:=0) (cs:=cE) (σ':=[cE]) r r r r r<|sV (v:=AV.nil) r<|aG (fr':=[(0,aL),(3,aE)]) r r<|aH<|mL r<|aR r (bD mE r)<|aR r (aK (v:=aI) fM r r r)<|bx h fun x1 y1 h2=>lS (bL (v:=aO) r (jL y1) jN r r r)<|sV (v:=aO) r<|aG (fr':=[(0,aO),(3,aE)]) r r<|bx h2 fun x3 y3 h4=>hH (fun j5=>x3=Fl.go j5) (fun (j5:(List UInt8))=>([(0,AV.os 0 1 iT j5),(3,aE)]:Fr)) (fun (j5:(List UInt8))=>([[ci p1v.Kind,ci p1v.Int,.c (.str p1v.Text),.c (PV.ls 5 bT p1v.Items),.c (PV.ls 1 fI p1v.Keys)]]:St)) ?_ ?_
  ·
   refine aH<|aR r (bD mE r)<|aR r (aK (v:=aI) fM r r r)<|aG (fr':=[(0,aO),(3,aE),(12,aI)]) r r<|cH<|bx y3 fun x6 y6 h7=>hH (fun j8=>x6=j8) (fun (j8:Bool)=>([(0,AV.os 0 1 iT x1),(3,aE),(12,ci p1v.Kind),(13,.c (.bool j8))]:Fr)) (fun (j8:Bool)=>([[ci p1v.Kind,ci p1v.Int,.c (.str p1v.Text),.c (PV.ls 5 bT p1v.Items),.c (PV.ls 1 fI p1v.Keys)]]:St)) ?_ ?_
   ·
    refine aH<|aR r (bU r r)<|sB r<|aG (fr':=[(0,aO),(3,aE),(12,aI),(13,aB)]) r r<|cG y6 r (fun b9 h9=>?_) (fun b9 h9=>?_)
    ·
     exact bF<|iQ _ (sy h9) (bC [160] 1 r r r r kL4 (bR r aD))
    ·
     refine aH<|aR r (bU r r)<|sB r<|aG (fr':=[(0,aO),(3,aE),(12,aI),(13,aB)]) r r<|cG h9 r (fun b10 h10=>?_) (fun b10 h10=>?_)
     ·
      exact bF<|iQ _ (sy h10) (bC [160] 1 r r r r kL4 (bR r aD))
     ·
      exact bB<|aR r (bU r r)<|sB r<|dM (fr':=[(0,aO),(3,aE),(12,aI),(13,aB)]) r<|iQ _ (sy h10) (bC [160] 1 r r r r kL4 (bR r aD))
   ·
    intro j8 hj11
    subst hj11
    refine cG h7 r (fun b12 h12=>?_) (fun b12 h12=>?_)
    ·
     refine aH<|mV (v:=aO) r<|aR r (bD sF r)<|aR r (aK (v:=aI) fM r r r)<|bx h12 fun x13 y13 h14=>lS (bL (v:=aO) r (jL y13) jN r r r)<|sV (v:=aO) r<|aG (fr':=[(4,aO)]) r r<|bK<|bO<|aP ?_
     have h15:=fL h14 h4
     obtain rfl:=sy h15
     exact bJ (rs':=[.tmp 4]) r<|bS (v:=aO) r<|bI<|aN [320] r r r lr aD
    ·
     refine aH<|aR r (bU r r)<|sB r<|aG (fr':=[(0,aO),(3,aE),(12,aI),(21,aB)]) r r<|cG h12 r (fun b17 h17=>?_) (fun b17 h17=>?_)
     ·
      refine aH<|mV (v:=aO) r<|aR r (bD uP r)<|aR r (aK (v:=aS) lP r r r)<|bx h17 fun x18 y18 h19=>lS (bL (v:=aO) r (rE y18) jN r r r)<|sV (v:=aO) r<|aG (fr':=[(4,aO)]) r r<|bK<|bO<|aP ?_
      have h20:=fL h19 h4
      obtain rfl:=sy h20
      exact bJ (rs':=[.tmp 4]) r<|bS (v:=aO) r<|bI<|aN [416] r r r lr aD
     ·
      obtain ⟨x22,y22,h23⟩:=iW h17
      refine hH (fun j24=>x22=j24) (fun (j24:Bool)=>([(0,AV.os 0 1 iT x1),(3,aE),(27,.c (.bool j24))]:Fr)) (fun (j24:Bool)=>([[ci p1v.Kind,ci p1v.Int,.c (.str p1v.Text),.c (PV.ls 5 bT p1v.Items),.c (PV.ls 1 fI p1v.Keys)]]:St)) ?_ ?_
      ·
       refine aH<|aR r (bU r r)<|sB r<|aG (fr':=[(0,aO),(3,aE),(12,aI),(27,aB)]) r r<|cG y22 r (fun b25 h25=>?_) (fun b25 h25=>?_)
       ·
        exact bF<|iQ _ (sy h25) (bC [0] 1 r r r r kA (bR r aD))
       ·
        exact bB<|aR r (bU r r)<|sB r<|dM (fr':=[(0,aO),(3,aE),(12,aI),(27,aB)]) r<|iQ _ (sy h25) (bC [0] 1 r r r r kA (bR r aD))
      ·
       intro j24 hj26
       subst hj26
       refine cG h23 r (fun b27 h27=>?_) (fun b27 h27=>?_)
       ·
        exact bB<|mV (v:=aO) r<|aR r (bD iJ r)<|aR r (aK (v:=aL) nS r r r)<|aR r (hZ vX (eK r))<|bx h27 fun x28 y28 h29=>lS (bL (v:=aO) r (jL y28) jN r r r)<|sV (v:=aO) r<|dM (fr':=[(0,aO),(3,aE),(27,aB)]) r<|cW<|iQ _ (sy h29) (bC [544] 1 r r r r jN (bR r aD))
       ·
        exact bF<|cW<|iQ _ (sy h27) (bC [0] 1 r r r r jN (bR r aD))
  ·
   intro j5 hj30
   have h30:=lV hj30 h4
   refine aZ<|aH<|aR r (bD iJ r)<|aR r (aK (v:=aL) nS r r r)<|aR r (hZ vX (eK r))<|mI r<|aG (fr':=[(0,aO),(3,aE),(36,aL),(37,aI),(38,aI)]) r r<|bx h30 fun x31 y31 h32=>gZ lB (fun j33=>x31=j33) (fun (j33:(List UInt8))=>([(0,AV.os 0 1 iT j33)]:Fr)) (fun (j33:(List UInt8))=>([[ci p1v.Kind,ci p1v.Int,.c (.str p1v.Text),.c (PV.ls 5 bT p1v.Items),.c (PV.ls 1 fI p1v.Keys)]]:St)) ?_ ?_
   ·
    refine cH<|gV _ (fun (s34:((List UInt8) × Int))=>([(0,AV.os 0 1 iT s34.1),(3,aE),(36,.c (PV.ls 5 bT p1v.Items)),(37,ci ((p1v.Items).length:Int)),(38,ci s34.2)]:Fr)) (fun (s34:((List UInt8) × Int))=>([[ci p1v.Kind,ci p1v.Int,.c (.str p1v.Text),.c (PV.ls 5 bT p1v.Items),.c (PV.ls 1 fI p1v.Keys)]]:St)) y31 (bC [0] 1 r r r r kL5 (bR r aD)) ?_
    intro s34 st34 hs34 ho34
    unfold zY at hs34
    refine aH<|aR r (gI r r)<|aG (fr':=[(0,aO),(3,aE),(36,aL),(37,aI),(38,aI),(39,aB)]) r r<|aZ<|cG hs34 r (fun b35 h35=>?_) (fun b35 h35=>?_)
    ·
     refine bF<|cZ<|aZ<|cH<|aH<|mI r<|bx h35 fun x36 y36 h37=>aR r (lF (cs:=[PV.int _ _,PV.int _ _,PV.str _,PV.ls _ _ _,PV.ls _ _ _]) uV (eK r) r y36 (eJ _))<|aR r (lT (us:=[PV.int _ _,PV.int _ _,PV.str _,PV.ls _ _ _,PV.ls _ _ _]) iO r r r)<|hO (n:=1) (cs:=cB) (σ':=[cE,cB]) aD2 r r r<|sI r<|bM (v:=.agg cE) (us:=cE) (cs:=cB) (σ':=[cE,cE]) r iO r r r r r r r r<|aG (fr':=[(0,aO),(3,aE),(5,aI),(6,aU),(36,aL),(37,aI),(38,aI)]) r r<|aZ<|aH<|aR r (bD mE r)<|aR r (aK (v:=aI) fM r r r)<|aR r (bU r r)<|aG (fr':=[(0,aO),(3,aE),(5,aI),(6,aU),(36,aL),(37,aI),(38,aI),(45,aB)]) r r<|cG h37 r (fun b38 h38=>?_) (fun b38 h38=>?_)
     ·
      exact bB<|mV (v:=aO) r<|aR r (bD oN r)<|aR r (aK (v:=aL) rC r r r)<|mI r<|bx h38 fun x39 y39 h40=>aR r (lF (cs:=[PV.str _]) aAR (eK r) r y39 r)<|aR r (gP (p:=PV.str _) lP r r)<|bx h40 fun x41 y41 h42=>lS (bL (v:=aO) r (rE y41) jN r r r)<|sV (v:=aO) r<|aG (fr':=[(0,aO),(3,aE),(6,aU),(36,aL),(37,aI),(38,aI)]) r r<|bB<|mV (v:=aO) r<|aR r (dL (us:=cE) iO r r r r)<|bx h42 fun x43 y43 h44=>lS (bL (v:=aO) r (ih_value_encode y43) ⟨lr,(bQ r kR5),trivial⟩ r r r)<|sV (v:=aO) r<|dM (fr':=[(0,aO),(3,aE),(6,aU),(36,aL),(37,aI),(38,aI)]) r<|cW<|cZ<|bB<|aR r (gC r r)<|mI r<|dM (fr':=[(0,aO),(3,aE),(6,aU),(36,aL),(37,aI),(38,aI)]) r<|zO _ (sy h44) (bC [880] 1 r r r r kL5 (bR r aD))
     ·
      exact bF<|cZ<|bB<|mV (v:=aO) r<|aR r (dL (us:=cE) iO r r r r)<|bx h38 fun x45 y45 h46=>lS (bL (v:=aO) r (ih_value_encode y45) ⟨lr,(bQ r kR5),trivial⟩ r r r)<|sV (v:=aO) r<|dM (fr':=[(0,aO),(3,aE),(5,aI),(6,aU),(36,aL),(37,aI),(38,aI),(45,aB)]) r<|cW<|cZ<|bB<|aR r (gC r r)<|mI r<|dM (fr':=[(0,aO),(3,aE),(5,aI),(6,aU),(36,aL),(37,aI),(38,aI),(45,aB)]) r<|zO _ (sy h46) (bC [880] 1 r r r r kL5 (bR r aD))
    ·
     refine hG<|cY<|cY<|fP ?_
     have h47:=eR h35 ho34
     exact iQ _ (sy h47) (bC [0] 1 r r r r ⟨lr,trivial⟩ (bR r aD))
   ·
    intro j33 hj48
    subst hj48
    refine cZ<|aH<|mV (v:=aO) r<|sV (v:=aO) r<|aG (fr':=[(4,aO)]) r r<|bK ?_
    obtain rfl:=sy h32
    exact bJ (rs':=[.tmp 4]) r<|bS (v:=aO) r<|bI<|aN [0] r r r lr aD
noncomputable def aD3 (p0b:(List UInt8)) (p1v:aQ):Option (List UInt8):=lim fun n=>sM n p0b p1v
theorem aJP {p0b:(List UInt8)}{p1v:aQ}{z:(List UInt8)} (h:aD3 p0b p1v=some z):cQ Tryz.prog 129 [.c (PV.ls 1 iT p0b),.agg (AV.cs (fA p1v))] [] (AV.os 0 1 iT z) []:=by
 obtain ⟨n,hn⟩:=rV h
 exact (aIh n) hn
noncomputable def yU (p0b:(List UInt8)) (p1v:aQ):Option (List UInt8) :=
 (lE p0b).bind fun x1=>(aAU p1v true).bind fun x3=>cond (!x3) (some x1) ((aD3 x1 p1v).bind fun x7=>some x7)
theorem aE6 {p0b:(List UInt8)}{p1v:aQ}{z:(List UInt8)} (h:yU p0b p1v=some z):cQ Tryz.prog 55 [.c (PV.ls 1 iT p0b),.agg (AV.cs (fA p1v))] [] (AV.os 0 1 iT z) []:=by
 unfold yU at h
 refine dF (fn:=Tryz.f55) [0,1,3,4,5,10] (by kernel_rfl) Tryz.func55 r (by kernel_rfl) (by kernel_rfl)<|aH<|jK (v:=.agg cE) (n:=0) (cs:=cE) (σ':=[cE]) r r r r r<|sV (v:=AV.nil) r<|aG (fr':=[(0,aL),(3,aE)]) r r<|aH<|mL r<|bx h fun x1 y1 h2=>lS (bL (v:=aO) r (qR y1) ⟨lr,trivial⟩ r r r)<|sV (v:=aO) r<|aG (fr':=[(3,aE),(5,aO)]) r r<|aZ<|aH<|aR r (dL (us:=cE) iO r r r r)<|bx h2 fun x3 y3 h4=>lS (bL (v:=aB) r (aE7 y3) ⟨(bQ r kR5),lr,trivial⟩ r r r)<|aR r (fE r)<|aG (fr':=[(3,aE),(5,aO),(10,aB)]) r r<|cG h4 r (fun b5 h5=>?_) (fun b5 h5=>?_)
 ·
  refine aH<|mV (v:=aO) r<|sV (v:=aO) r<|aG (fr':=[(4,aO)]) r r<|bK<|aP ?_
  obtain rfl:=sy h5
  exact bJ (rs':=[.tmp 4]) r<|bS (v:=aO) r<|bI<|aN [112] r r r lr aD
 ·
  refine bF<|cZ<|aH<|mV (v:=aO) r<|aR r (dL (us:=cE) iO r r r r)<|bx h5 fun x7 y7 h8=>lS (bL (v:=aO) r (aJP y7) ⟨lr,(bQ r kR5),trivial⟩ r r r)<|sV (v:=aO) r<|aG (fr':=[(4,aO)]) r r<|bK ?_
  obtain rfl:=sy h8
  exact bJ (rs':=[.tmp 4]) r<|bS (v:=aO) r<|bI<|aN [224] r r r lr aD
noncomputable def nQ (p0n:Int) (nL:Int) (kW:Int):Option Bool :=
 some (cond (decide (nL≤p0n)) (decide (p0n≤kW)) false)
theorem pJ {p0n:Int}{nL:Int}{kW:Int}{z:Bool} (h:nQ p0n nL kW=some z):cQ Tryz.prog 148 [ci p0n,ci nL,ci kW] [] (.c (.bool z)) []:=by
 unfold nQ at h
 refine dF (fn:=Tryz.f148) [0,1,2,6] (by kernel_rfl) Tryz.func148 r (by kernel_rfl) (by kernel_rfl)<|aH<|sB r<|aG (fr':=[(0,aI),(1,aI),(2,aI)]) r r<|aH<|mI r<|mI r<|aR r (oI r r)<|mB r<|og r r r (fun u=>(bN (v:=aI) r))<|og r r r (fun u=>(bN (v:=aI) r))<|og r r r (fun u=>(nM (gx r u) (gx r u)))<|aR r (bV r r r (fun e=>fJ e))<|sB r<|aG (fr':=[(6,aB)]) r r<|bK ?_
 obtain rfl:=sy h
 exact bJ (rs':=[.tmp 6]) r<|bS (v:=aB) r<|bI<|aN [] r r r lr aD
noncomputable def aBB (p0c:Int):Option Bool :=
 some (cond (cond (cond (decide (97≤p0c)) (decide (p0c≤122)) false) true (cond (decide (65≤p0c)) (decide (p0c≤90)) false)) true (decide (p0c=95)))
theorem aKf {p0c:Int}{z:Bool} (h:aBB p0c=some z):cQ Tryz.prog 199 [.c (.int .u8 p0c)] [] (.c (.bool z)) []:=by
 unfold aBB at h
 refine dF (fn:=Tryz.f199) [0,2] (by kernel_rfl) Tryz.func199 r (by kernel_rfl) (by kernel_rfl)<|aH<|sB r<|aG (fr':=[(0,aI)]) r r<|aH<|mI r<|aR r (oI r r)<|mB r<|og r r r (fun u=>(bN (v:=aI) r))<|og r r r (fun u=>(nM (gx r u) r))<|aR r (bV r r r (fun e=>fJ e))<|mB r<|og r r r (fun u=>(bN (v:=aI) r))<|og r r r (fun u=>(oI (gx r u) r))<|og r r r (fun u=>(bN (v:=aB) (gx r u)))<|fD r r (fun u=>fS r (bN (v:=aI) r))<|fD r r (fun u=>fS r (nM (gx r u) r))<|og r r r (fun u=>(bV (gx r u) r r (fun e=>pX u (fJ e))))<|aR r (cN r r r (fun e=>fJ e))<|mB r<|og r r r (fun u=>(bN (v:=aI) r))<|og r r r (fun u=>(bU (gx r u) r))<|aR r (cN r r r (fun e=>fJ e))<|sB r<|aG (fr':=[(2,aB)]) r r<|bK ?_
 obtain rfl:=sy h
 exact bJ (rs':=[.tmp 2]) r<|bS (v:=aB) r<|bI<|aN [] r r r lr aD
noncomputable def aBk (p0s:(List UInt8)) (s6:Int):Option (dU Int (Fl Bool Unit)) :=
 cond (decide (s6<((p0s).length:Int))) ((nG p0s s6).bind fun x8=>(aBB ((x8).toNat:Int)).bind fun x10=>(gd (((!x10)==true)&&((decide (s6=0))==false)) (nG p0s s6)).bind fun x12=>(gd (((!x10)==true)&&((cond (decide (s6=0)) true (decide (((x12).toNat:Int)<48)))==false)) (nG p0s s6)).bind fun x14=>cond (cond (!x10) (cond (cond (decide (s6=0)) true (decide (((x12).toNat:Int)<48))) true (decide (57<((x14).toNat:Int)))) false) (some (dU.out (Fl.done false))) (some (dU.next (IntKind.wrap .i64 (s6+1))))) (some (dU.out (Fl.go ())))
noncomputable def sW (p0s:(List UInt8)):Option Bool :=
 cond (cond (decide (p0s=([]:List UInt8))) true (decide (64<((p0s).length:Int)))) (some false) ((fK (aBk p0s) (0)).bind fun x3=>Fl.next x3 (fun j5=>(some true)))
theorem wC {p0s:(List UInt8)}{z:Bool} (h:sW p0s=some z):cQ Tryz.prog 167 [.c (.str p0s)] [] (.c (.bool z)) []:=by
 unfold sW at h
 refine dF (fn:=Tryz.f167) [0,2,3,10,12,13,14,36] (by kernel_rfl) Tryz.func167 r (by kernel_rfl) (by kernel_rfl)<|aH<|sB r<|aG (fr':=[(0,aS)]) r r<|aZ<|aH<|mS r<|aR r (qX r r)<|mB r<|og r r r (fun u=>(bN (v:=aS) r))<|og r r r (fun u=>(kT uU (gx r u)))<|og r r r (fun u=>(qW (gx r u) r))<|aR r (cN r r r (fun e=>fJ e))<|aG (fr':=[(0,aS),(10,aB)]) r r<|cG h r (fun b1 h1=>?_) (fun b1 h1=>?_)
 ·
  refine aH<|sB r<|aG (fr':=[(2,aB)]) r r<|bK<|aP ?_
  obtain rfl:=sy h1
  exact bJ (rs':=[.tmp 2]) r<|bS (v:=aB) r<|bI<|aN [] r r r lr aD
 ·
  refine bF<|cZ<|aZ<|aH<|mS r<|aR r (kT uU r)<|mI r<|aG (fr':=[(0,aS),(12,aI),(13,aI)]) r r<|bx h1 fun x3 y3 h4=>gZ lB (fun j5=>x3=Fl.go j5) (fun (j5:Unit)=>([]:Fr)) (fun (j5:Unit)=>([]:St)) ?_ ?_
  ·
   refine cH<|gV _ (fun (s6:Int)=>([(0,.c (.str p0s)),(12,ci ((p0s).length:Int)),(13,ci s6)]:Fr)) (fun (s6:Int)=>([]:St)) y3 (bC [] 0 r r r r kA aD) ?_
   intro s6 st6 hs6 ho6
   unfold aBk at hs6
   refine aH<|aR r (gI r r)<|aG (fr':=[(0,aS),(12,aI),(13,aI),(14,aB)]) r r<|aZ<|cG hs6 r (fun b7 h7=>?_) (fun b7 h7=>?_)
   ·
    refine bF<|cZ<|aZ<|cH<|aH<|mI r<|sI r<|aG (fr':=[(0,aS),(3,aI),(12,aI),(13,aI)]) r r<|aH<|mS r<|mI r<|bx h7 fun x8 y8 h9=>aR r (aAx uU r r y8)<|bx h9 fun x10 y10 h11=>lS (bL (v:=aB) r (aKf y10) ⟨lr,trivial⟩ r r r)<|aR r (fE r)<|mB r<|og r r r (fun u=>(bN (v:=aI) r))<|og r r r (fun u=>(bU (gx r u) r))<|og r r r (fun u=>(bN (v:=aB) (gx r u)))<|fD r r (fun u=>fS r (bN (v:=aS) r))<|fD r r (fun u=>fS r (bN (v:=aI) r))<|bx h11 fun x12 y12 h13=>fD r r (fun u=>fS r (aAx uU (gx r u) (gx r u) (cU y12 u)))<|fD r r (fun u=>fS r (gI (gx r u) r))<|og r r r (fun u=>(cN (gx r u) r r (fun e=>pX u (fJ e))))<|og r r r (fun u=>(bN (v:=aB) (gx r u)))<|fD r r (fun u=>fS r (bN (v:=aS) r))<|fD r r (fun u=>fS r (bN (v:=aI) r))<|bx h13 fun x14 y14 h15=>fD r r (fun u=>fS r (aAx uU (gx r u) (gx r u) (cU y14 u)))<|fD r r (fun u=>fS r (qW (gx r u) r))<|og r r r (fun u=>(cN (gx r u) r r (fun e=>pX u (fJ e))))<|aR r (bV r r r (fun e=>fJ e))<|aG (fr':=[(0,aS),(12,aI),(13,aI),(36,aB)]) r r<|cG h15 r (fun b16 h16=>?_) (fun b16 h16=>?_)
    ·
     refine aH<|sB r<|aG (fr':=[(2,aB)]) r r<|bK<|bO<|aP<|aP<|bO<|aP<|aP ?_
     have h17:=eR h16 ho6
     have h18:=fL h17 h4
     obtain rfl:=sy h18
     exact bJ (rs':=[.tmp 2]) r<|bS (v:=aB) r<|bI<|aN [] r r r lr aD
    ·
     exact bF<|cW<|cZ<|bB<|aR r (gC r r)<|mI r<|dM (fr':=[(0,aS),(12,aI),(13,aI),(36,aB)]) r<|zO _ (sy h16) (bC [] 0 r r r r kA aD)
   ·
    refine hG<|cY<|cY<|fP ?_
    have h20:=eR h7 ho6
    exact iQ _ (sy h20) (bC [] 0 r r r r trivial aD)
  ·
   intro j5 hj21
   have h21:=lV hj21 h4
   refine cZ<|aH<|sB r<|aG (fr':=[(2,aB)]) r r<|bK ?_
   obtain rfl:=sy h21
   exact bJ (rs':=[.tmp 2]) r<|bS (v:=aB) r<|bI<|aN [] r r r lr aD
noncomputable def tG (p0s:(List UInt8)):Option Bool :=
 some (decide (4096<((p0s).length:Int)))
theorem aDw {p0s:(List UInt8)}{z:Bool} (h:tG p0s=some z):cQ Tryz.prog 179 [.c (.str p0s)] [] (.c (.bool z)) []:=by
 unfold tG at h
 refine dF (fn:=Tryz.f179) [0,2] (by kernel_rfl) Tryz.func179 r (by kernel_rfl) (by kernel_rfl)<|aH<|sB r<|aG (fr':=[(0,aS)]) r r<|aH<|mS r<|aR r (kT uU r)<|aR r (qW r r)<|sB r<|aG (fr':=[(2,aB)]) r r<|bK ?_
 obtain rfl:=sy h
 exact bJ (rs':=[.tmp 2]) r<|bS (v:=aB) r<|bI<|aN [] r r r lr aD
